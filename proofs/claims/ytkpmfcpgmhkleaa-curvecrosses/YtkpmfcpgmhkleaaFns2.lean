/-
  The functions, part 2.
-/
import Derived.Test.YtkpmfcpgmhkleaaFns1
set_option maxRecDepth 20000
namespace Go.Abs.Curve
open Go Go.Abs Go.Proofs

noncomputable def curve_Corridors_l2 (p2 : Int) (p4 : Int) (a1 : (Int × CurvePiece)) (x2 : (List Cross)) (a2 : (Int × CurvePiece)) : Option (Stp (List Cross) (List Cross)) :=
  (curve_corridor_meets (CurveCorridor.mk a1.2 p2 (0, a1.2.l)) (CurveCorridor.mk a2.2 p4 (0, a2.2.l))).bind fun v5 => cond (!v5) (some (.go x2)) ((curve_corridor_span (CurveCorridor.mk a1.2 p2 (0, a1.2.l)) (CurveCorridor.mk a2.2 p4 (0, a2.2.l))).bind fun v6 => (curve_corridor_span (CurveCorridor.mk a2.2 p4 (0, a2.2.l)) (CurveCorridor.mk a1.2 p2 (0, a1.2.l))).bind fun v7 => (appc x2 [(Cross.mk v6.1 v6.2 v7.1 v7.2)]).bind fun v8 => some (.go v8))
noncomputable def curve_Corridors_l1 (p2 : Int) (p3 : Curve) (p4 : Int) (x1 : (List Cross)) (a1 : (Int × CurvePiece)) : Option (Stp (List Cross) (List Cross)) :=
  ((piecesC p3.Pts).bind fun v4 => loopL (curve_Corridors_l2 p2 p4 a1) (fun (x2 : (List Cross)) => x2) v4 x1).bind fun y2 => some (.go y2)
noncomputable def curve_Corridors (p1 : Curve) (p2 : Int) (p3 : Curve) (p4 : Int) : Option (List Cross) :=
  (curve_Check p1).bind fun v1 => ((cond (!(v1 != 0)) (curve_Check p3) (some default))).bind fun v2 => cond ((((v1 != 0) || (v2 != 0)) || (decide ((mm2 false p2 p4) < 0))) || (decide ((mm2 true p2 p4) > 4000))) (some []) (((piecesC p1.Pts).bind fun v3 => loopL (curve_Corridors_l1 p2 p3 p4) (fun (x1 : (List Cross)) => x1) v3 []).bind fun y1 => some y1)

/-- kerbstone/curve.Corridors -/
def ac54 : AC :=
  (.seq (.reg [⟨(some 4), .box 24 true (.t 0), none⟩, ⟨(some 5), .box 2 false (.t 1), none⟩, ⟨(some 6), .box 24 true (.t 2), none⟩, ⟨(some 7), .box 2 false (.t 3), none⟩, ⟨(some 8), .mv (.c .nilS), none⟩])
  (.seq (.seq (.reg [⟨(some 17), .load 1 true (.t 4), none⟩, ⟨(some 18), .call (.c (.fn (.func 20) [] [])) [(.t 17)], none⟩, ⟨(some 19), .bin .neq (.t 18) (.c (.v (.int .i64 0))), none⟩, ⟨(some 20), .mv (.t 19), none⟩, ⟨(some 21), .load 1 true (.t 6), (some (20, false))⟩, ⟨(some 22), .call (.c (.fn (.func 20) [] [])) [(.t 21)], (some (20, false))⟩, ⟨(some 23), .bin .neq (.t 22) (.c (.v (.int .i64 0))), (some (20, false))⟩, ⟨(some 24), .pick (.t 20) (.c (.v (.bool true))) (.t 23), none⟩, ⟨(some 25), .mv (.t 24), none⟩, ⟨(some 26), .load 1 false (.t 5), (some (25, false))⟩, ⟨(some 27), .load 1 false (.t 7), (some (25, false))⟩, ⟨(some 28), .mm false (.t 26) [(.t 27)], (some (25, false))⟩, ⟨(some 29), .bin .lss (.t 28) (.c (.v (.int .i64 0))), (some (25, false))⟩, ⟨(some 30), .pick (.t 25) (.c (.v (.bool true))) (.t 29), none⟩, ⟨(some 31), .mv (.t 30), none⟩, ⟨(some 32), .load 1 false (.t 5), (some (31, false))⟩, ⟨(some 33), .load 1 false (.t 7), (some (31, false))⟩, ⟨(some 34), .mm true (.t 32) [(.t 33)], (some (31, false))⟩, ⟨(some 35), .bin .gtr (.t 34) (.c (.v (.int .i64 4000))), (some (31, false))⟩, ⟨(some 36), .pick (.t 31) (.c (.v (.bool true))) (.t 35), none⟩])
  (.cond (.t 36)
    (.seq (.reg [⟨(some 8), .mv (.c .nilS), none⟩])
    .ret)
    .skip))
  (.seq (.reg [⟨(some 9), .alloc 65 [.nilS], none⟩])
  (.seq (.seq (.reg [⟨(some 37), .load 1 true (.t 4), none⟩, ⟨(some 38), .call (.c (.fn (.func 66) [] [])) [(.t 37)], none⟩])
  (.block 0
    (.rangeF (.t 38) [39, 40]
      (.reg [⟨(some 11), .alloc 89 [(.v (.int .i64 0)), (.v (.int .i64 0)), (.v (.int .i64 0)), (.v (.int .i64 0)), (.v (.int .i64 0)), (.v (.int .i64 0))], none⟩, ⟨none, .store 6 (.t 11) (.t 40), none⟩])
      (.block 1
        (.seq (.reg [⟨(some 41), .load 1 true (.t 6), none⟩, ⟨(some 42), .call (.c (.fn (.func 66) [] [])) [(.t 41)], none⟩])
        (.block 2
          (.rangeF (.t 42) [43, 44]
            (.reg [⟨(some 13), .alloc 89 [(.v (.int .i64 0)), (.v (.int .i64 0)), (.v (.int .i64 0)), (.v (.int .i64 0)), (.v (.int .i64 0)), (.v (.int .i64 0))], none⟩, ⟨none, .store 6 (.t 13) (.t 44), none⟩])
            (.block 3
              (.seq (.draw [⟨(some 45), .load 6 true (.t 11), none⟩, ⟨(some 46), .load 1 false (.t 5), none⟩, ⟨(some 47), .fieldA 4 (.t 11), none⟩, ⟨(some 48), .load 1 false (.t 47), none⟩, ⟨(some 49), .build [(.v (.int .i64 0)), (.v (.int .i64 0))] [(0, 1, (.c (.v (.int .i64 0)))), (1, 1, (.t 48))], none⟩, ⟨(some 50), .build [(.v (.int .i64 0)), (.v (.int .i64 0)), (.v (.int .i64 0)), (.v (.int .i64 0)), (.v (.int .i64 0)), (.v (.int .i64 0)), (.v (.int .i64 0)), (.v (.int .i64 0)), (.v (.int .i64 0))] [(0, 6, (.t 45)), (6, 1, (.t 46)), (7, 2, (.t 49))], none⟩, ⟨(some 51), .load 6 true (.t 13), none⟩, ⟨(some 52), .load 1 false (.t 7), none⟩, ⟨(some 53), .fieldA 4 (.t 13), none⟩, ⟨(some 54), .load 1 false (.t 53), none⟩, ⟨(some 55), .build [(.v (.int .i64 0)), (.v (.int .i64 0))] [(0, 1, (.c (.v (.int .i64 0)))), (1, 1, (.t 54))], none⟩, ⟨(some 56), .build [(.v (.int .i64 0)), (.v (.int .i64 0)), (.v (.int .i64 0)), (.v (.int .i64 0)), (.v (.int .i64 0)), (.v (.int .i64 0)), (.v (.int .i64 0)), (.v (.int .i64 0)), (.v (.int .i64 0))] [(0, 6, (.t 51)), (6, 1, (.t 52)), (7, 2, (.t 55))], none⟩, ⟨(some 14), .alloc 102 [(.v (.int .i64 0)), (.v (.int .i64 0)), (.v (.int .i64 0)), (.v (.int .i64 0)), (.v (.int .i64 0)), (.v (.int .i64 0)), (.v (.int .i64 0)), (.v (.int .i64 0)), (.v (.int .i64 0))], none⟩, ⟨(some 15), .alloc 102 [(.v (.int .i64 0)), (.v (.int .i64 0)), (.v (.int .i64 0)), (.v (.int .i64 0)), (.v (.int .i64 0)), (.v (.int .i64 0)), (.v (.int .i64 0)), (.v (.int .i64 0)), (.v (.int .i64 0))], none⟩, ⟨none, .store 9 (.t 14) (.t 50), none⟩, ⟨none, .store 9 (.t 15) (.t 56), none⟩] [(6, 14), (7, 14), (9, 14)])
              (.seq (.seq (.reg [⟨(some 57), .load 9 true (.t 14), none⟩, ⟨(some 58), .load 9 true (.t 15), none⟩, ⟨(some 59), .call (.c (.fn (.func 81) [] [])) [(.t 57), (.t 58)], none⟩, ⟨(some 60), .un .not (.t 59), none⟩])
              (.cond (.t 60)
                (.exit 3)
                .skip))
              (.seq (.reg [⟨(some 16), .alloc 69 [(.v (.int .i64 0)), (.v (.int .i64 0)), (.v (.int .i64 0)), (.v (.int .i64 0))], none⟩])
              (.seq (.reg [⟨(some 62), .load 9 true (.t 14), none⟩, ⟨(some 63), .load 9 true (.t 15), none⟩, ⟨(some 64), .call (.c (.fn (.func 82) [] [])) [(.t 62), (.t 63)], none⟩, ⟨(some 61), .mv (.t 64), none⟩, ⟨(some 65), .ext (.t 61) 0, none⟩, ⟨(some 66), .ext (.t 61) 1, none⟩, ⟨(some 67), .fieldA 0 (.t 16), none⟩, ⟨none, .store 1 (.t 67) (.t 65), none⟩, ⟨(some 68), .fieldA 1 (.t 16), none⟩, ⟨none, .store 1 (.t 68) (.t 66), none⟩])
              (.seq (.reg [⟨(some 70), .load 9 true (.t 15), none⟩, ⟨(some 71), .load 9 true (.t 14), none⟩, ⟨(some 72), .call (.c (.fn (.func 82) [] [])) [(.t 70), (.t 71)], none⟩, ⟨(some 69), .mv (.t 72), none⟩, ⟨(some 73), .ext (.t 69) 0, none⟩, ⟨(some 74), .ext (.t 69) 1, none⟩, ⟨(some 75), .fieldA 2 (.t 16), none⟩, ⟨none, .store 1 (.t 75) (.t 73), none⟩, ⟨(some 76), .fieldA 3 (.t 16), none⟩, ⟨none, .store 1 (.t 76) (.t 74), none⟩])
              (.reg [⟨(some 77), .load 1 false (.t 9), none⟩, ⟨(some 78), .load 4 true (.t 16), none⟩, ⟨(some 79), .dslice 69 4 1 [(.v (.int .i64 0)), (.v (.int .i64 0)), (.v (.int .i64 0)), (.v (.int .i64 0))] [(0, 4, (.t 78))], none⟩, ⟨(some 80), .append 65 69 4 (.t 77) (.t 79), none⟩, ⟨none, .store 1 (.t 9) (.t 80), none⟩]))))))))))))))
  (.seq (.reg [⟨(some 81), .load 1 false (.t 9), none⟩, ⟨(some 8), .mv (.t 81), none⟩])
  .ret)))))
theorem fn54 : FnOK Try.prog 54 82 [.t 8] ac54 := ⟨_, _, Try.func54, rfl, Try.ntmps54, by kernel_rfl, ⟨fun _ => allD', by kernel_rfl⟩, by kernel_rfl⟩
theorem curve_Corridors_ok (p1 : Curve) (p2 : Int) (p3 : Curve) (p4 : Int) (r : (List Cross)) (h : curve_Corridors p1 p2 p3 p4 = some r) : PCall Try.prog 54 [(.agg [(.list (List.map eSpot p1.Pts))]), (i64 p2), (.agg [(.list (List.map eSpot p3.Pts))]), (i64 p4)] (.list (List.map eCross r)) := by
  refine l_call fn54 (Nat.le_of_ble_eq_true rfl) ?_
  unfold curve_Corridors at h
  unfold ac54
  refine (l_sub (s0 := ⟨T [(0, (.d (.agg [(.list (List.map eSpot p1.Pts))]))), (1, (.d (i64 p2))), (2, (.d (.agg [(.list (List.map eSpot p3.Pts))]))), (3, (.d (i64 p4)))], G []⟩) (sb_of ⟨.of rfl, .of rfl, .of rfl, .of rfl, trivial⟩ trivial) ?_)
  refine l_seq ?_
  refine l_reg fun u1 hu1 => ?_
  refine s_new (.ptr _ _) (.box _ _) rfl rfl ?_
  refine s_new (.ptr _ _) (.box _ _) rfl rfl ?_
  refine s_new (.ptr _ _) (.box _ _) rfl rfl ?_
  refine s_new (.ptr _ _) (.box _ _) rfl rfl ?_
  refine s_val (.d _) rfl rfl ?_
  refine s_nil ?_
  refine l_seq ?_
  refine l_seq ?_
  refine l_reg fun u2 hu2 => ?_
  refine s_val (.d _) rfl (v_loadG rfl (G_skip rfl (G_skip rfl (G_skip rfl G_hit))) rfl rfl) ?_
  obtain ⟨v1, hv1, h⟩ := bind_some h
  refine s_call rfl rfl all2_refl (curve_Check_ok _  _ hv1) (.inl rfl) ?_
  refine s_val (.d _) rfl rfl ?_
  refine s_val (.d _) rfl rfl ?_
  refine g_val (!(v1 != 0)) (.d _) rfl (gw_f rfl) (fun w1 => (v_loadG rfl (G_skip rfl G_hit) rfl rfl)) ?_
  obtain ⟨v2, hv2, h⟩ := bind_some h
  refine g_call (!(v1 != 0)) (i64 v2) (gw_f rfl) (fun w2 => ⟨_, [(.d (.agg [(.list (List.map eSpot p3.Pts))]))], _, _, (by simp only [gd_pos w2]; rfl), rfl, all2_refl, curve_Check_ok _  _ (cond_t w2 hv2), (.inl rfl)⟩) ?_
  refine g_val (!(v1 != 0)) (.d _) rfl (gw_f rfl) (fun w3 => (v_bin (gd_pos w3) rfl rfl)) ?_
  refine s_val (.d _) rfl (v_or rfl rfl (fun hc => gd_pos (not_t hc))) ?_
  refine s_val (.d _) rfl rfl ?_
  refine g_val (!((v1 != 0) || (v2 != 0))) (.d _) rfl (gw_f rfl) (fun w4 => (v_load rfl (G_skip rfl (G_skip rfl G_hit)) rfl)) ?_
  refine g_val (!((v1 != 0) || (v2 != 0))) (.d _) rfl (gw_f rfl) (fun w5 => (v_load rfl G_hit rfl)) ?_
  refine g_val (!((v1 != 0) || (v2 != 0))) (.d _) rfl (gw_f rfl) (fun w6 => (by simp only [gd_pos w6]; rfl)) ?_
  refine g_val (!((v1 != 0) || (v2 != 0))) (.d _) rfl (gw_f rfl) (fun w7 => (v_bin (gd_pos w7) rfl rfl)) ?_
  refine s_val (.d _) rfl (v_or rfl rfl (fun hc => gd_pos (not_t hc))) ?_
  refine s_val (.d _) rfl rfl ?_
  refine g_val (!(((v1 != 0) || (v2 != 0)) || (decide ((mm2 false p2 p4) < 0)))) (.d _) rfl (gw_f rfl) (fun w8 => (v_load rfl (G_skip rfl (G_skip rfl G_hit)) rfl)) ?_
  refine g_val (!(((v1 != 0) || (v2 != 0)) || (decide ((mm2 false p2 p4) < 0)))) (.d _) rfl (gw_f rfl) (fun w9 => (v_load rfl G_hit rfl)) ?_
  refine g_val (!(((v1 != 0) || (v2 != 0)) || (decide ((mm2 false p2 p4) < 0)))) (.d _) rfl (gw_f rfl) (fun w10 => (by simp only [gd_pos w10]; rfl)) ?_
  refine g_val (!(((v1 != 0) || (v2 != 0)) || (decide ((mm2 false p2 p4) < 0)))) (.d _) rfl (gw_f rfl) (fun w11 => (v_bin (gd_pos w11) rfl rfl)) ?_
  refine s_val (.d _) rfl (v_or rfl rfl (fun hc => gd_pos (not_t hc))) ?_
  refine s_nil ?_
  refine l_cond ((((v1 != 0) || (v2 != 0)) || (decide ((mm2 false p2 p4) < 0))) || (decide ((mm2 true p2 p4) > 4000))) rfl (fun c1 => ?_) (fun c1 => ?_)
  · replace h := cond_t c1 h
    refine l_seq ?_
    refine l_sub (s0 := ⟨T [], G []⟩) (sb_of trivial trivial) ?_
    refine l_reg fun u3 hu3 => ?_
    refine s_val (.d _) rfl rfl ?_
    refine s_nil ?_
    refine l_ret ?_
    obtain rfl := Option.some.inj h
    refine fin_ok (.inr rfl) (resD1 (res_t rfl) rf_d) ?_
    exact DLe.nil
  · replace h := cond_f c1 h
    refine l_skip ?_
    refine l_seq ?_
    refine l_sub (s0 := ⟨T [(4, (.ptr (4, u1) 0)), (5, (.ptr (5, u1) 0)), (6, (.ptr (6, u1) 0)), (7, (.ptr (7, u1) 0)), (8, (.d .nilS))], G [((4, u1), some (.box 24 [(.d (.list (List.map eSpot p1.Pts)))])), ((5, u1), some (.box 2 [(.d (i64 p2))])), ((6, u1), some (.box 24 [(.d (.list (List.map eSpot p3.Pts)))])), ((7, u1), some (.box 2 [(.d (i64 p4))]))]⟩) (sb_of ⟨.of rfl, .of rfl, .of rfl, .of rfl, .of rfl, trivial⟩ (sbG_some (G_skip rfl (G_skip rfl (G_skip rfl G_hit))) (.of rfl) (sbG_some (G_skip rfl (G_skip rfl G_hit)) (.of rfl) (sbG_some (G_skip rfl G_hit) (.of rfl) (sbG_some G_hit (.of rfl) trivial))))) ?_
    refine l_reg fun u4 hu4 => ?_
    refine s_new (.ptr _ _) (.box _ _) rfl rfl ?_
    refine s_nil ?_
    refine l_seq ?_
    refine l_seq ?_
    refine l_reg fun u5 hu5 => ?_
    refine s_val (.d _) rfl (v_loadG rfl (G_skip rfl G_hit) rfl rfl) ?_
    refine s_call rfl rfl all2_refl (pieces_clos p1) (.inl rfl) ?_
    refine s_nil ?_
    obtain ⟨y1, hy1, h⟩ := bind_some h
    refine l_join (fun s => ∃ g1 : Nat, Sb ⟨T [(9, (.ptr (9, u4) 0))], G [((9, u4), some (.box 65 [(oS y1 (80, g1))])), ((80, g1), oB 69 4 eCross y1)]⟩ s) ?_ ?_
    · skip
      refine l_block ?_
      obtain ⟨v3, hv3, hy1⟩ := bind_some hy1
      refine l_sub (s0 := ⟨T [(5, (.ptr (5, u1) 0)), (6, (.ptr (6, u1) 0)), (7, (.ptr (7, u1) 0)), (8, (.d .nilS)), (9, (.ptr (9, u4) 0)), (38, (.d (.fn (.func 86) [] [(.bp [(.list (List.map eSpot p1.Pts))] 0)])))], G [((5, u1), some (.box 2 [(.d (i64 p2))])), ((6, u1), some (.box 24 [(.d (.list (List.map eSpot p3.Pts)))])), ((7, u1), some (.box 2 [(.d (i64 p4))])), ((9, u4), some (.box 65 [(.d .nilS)]))]⟩) (sb_of ⟨.of rfl, .of rfl, .of rfl, .of rfl, .of rfl, .of rfl, trivial⟩ (sbG_some (G_skip rfl (G_skip rfl G_hit)) (.of rfl) (sbG_some (G_skip rfl (G_skip rfl (G_skip rfl G_hit))) (.of rfl) (sbG_some (G_skip rfl (G_skip rfl (G_skip rfl (G_skip rfl G_hit)))) (.of rfl) (sbG_some G_hit (.of rfl) trivial))))) ?_
      refine l_rangeL (.fn (.func 86) [] [(.bp [(.list (List.map eSpot p1.Pts))] 0)]) ePiece v3 (curve_Corridors_l1 p2 p3 p4) (fun (x1 : (List Cross)) => x1) (fun (x1 : (List Cross)) (g2 : Nat) => [((5, u1), some (.box 2 [(.d (i64 p2))])), ((6, u1), some (.box 24 [(.d (.list (List.map eSpot p3.Pts)))])), ((7, u1), some (.box 2 [(.d (i64 p4))])), ((9, u4), some (.box 65 [(oS x1 (80, g2))])), ((80, g2), oB 69 4 eCross x1)]) [] 0 _ rfl (pieces_iter hv3) (fun _ => rfl) hy1 (sb_of trivial (sbG_some G_hit (.of rfl) (sbG_some (G_skip rfl G_hit) (.of rfl) (sbG_some (G_skip rfl (G_skip rfl G_hit)) (.of rfl) (sbG_some (G_skip rfl (G_skip rfl (G_skip rfl G_hit))) (.of rfl) (sbG_nil trivial)))))) nofun ?_ ?_
      · intro u7 hu7 hku7
        refine ⟨fun x1 g2 => (G_skip rfl (G_skip rfl (G_skip rfl (G_skip rfl (G_skip rfl rfl))))), ?_⟩
        intro r1 x1 g2 a1 z1 hrr1 hz1 ez1
        unfold curve_Corridors_l1 at hz1
        show AWL _ _ _ _ _ _ ⟨T [(40, (.d (.agg [(i64 a1.2.p.X), (i64 a1.2.p.Y), (i64 a1.2.v.x), (i64 a1.2.v.y), (i64 a1.2.l), (i64 a1.2.start)]))), (39, (.d (i64 a1.1))), (5, (.ptr (5, u1) 0)), (6, (.ptr (6, u1) 0)), (7, (.ptr (7, u1) 0)), (8, (.d .nilS)), (9, (.ptr (9, u4) 0)), (38, (.d (.fn (.func 86) [] [(.bp [(.list (List.map eSpot p1.Pts))] 0)])))], G [((1000000, u7), some (.obj (T [(5, (.ptr (5, u1) 0)), (6, (.ptr (6, u1) 0)), (7, (.ptr (7, u1) 0)), (8, (.d .nilS)), (9, (.ptr (9, u4) 0)), (38, (.d (.fn (.func 86) [] [(.bp [(.list (List.map eSpot p1.Pts))] 0)])))]) r1)), ((5, u1), some (.box 2 [(.d (i64 p2))])), ((6, u1), some (.box 24 [(.d (.list (List.map eSpot p3.Pts)))])), ((7, u1), some (.box 2 [(.d (i64 p4))])), ((9, u4), some (.box 65 [(oS x1 (80, g2))])), ((80, g2), oB 69 4 eCross x1)]⟩
        refine l_reg fun u8 hu8 => ?_
        refine s_new (.ptr _ _) (.box _ _) rfl rfl ?_
        refine s_store _ _ _ _ _ rfl rfl rfl G_hit (Nat.le_of_ble_eq_true rfl) _ rfl ?_
        refine s_nil ?_
        refine l_j (mid_ok (G_skip rfl (G_skip rfl G_hit)) ?_)
        refine l_block ?_
        refine l_seq ?_
        refine l_reg fun u9 hu9 => ?_
        refine s_val (.d _) rfl (v_loadG rfl (G_skip rfl (G_skip rfl (G_skip rfl (G_skip rfl (G_skip rfl G_hit))))) rfl rfl) ?_
        refine s_call rfl rfl all2_refl (pieces_clos p3) (.inl rfl) ?_
        refine s_nil ?_
        obtain ⟨y2, hy2, hz1⟩ := bind_some hz1
        refine l_join (fun s => ∃ g3 : Nat, Sb ⟨T [], G [((5, u1), some (.box 2 [(.d (i64 p2))])), ((6, u1), some (.box 24 [(.d (.list (List.map eSpot p3.Pts)))])), ((7, u1), some (.box 2 [(.d (i64 p4))])), ((9, u4), some (.box 65 [(oS y2 (80, g3))])), ((1000000, u7), some (.obj (T [(5, (.ptr (5, u1) 0)), (6, (.ptr (6, u1) 0)), (7, (.ptr (7, u1) 0)), (8, (.d .nilS)), (9, (.ptr (9, u4) 0)), (38, (.d (.fn (.func 86) [] [(.bp [(.list (List.map eSpot p1.Pts))] 0)])))]) { r1 with state := .busy })), ((80, g3), oB 69 4 eCross y2)]⟩ s) ?_ ?_
        · skip
          refine l_block ?_
          obtain ⟨v4, hv4, hy2⟩ := bind_some hy2
          refine l_sub (s0 := ⟨T [(5, (.ptr (5, u1) 0)), (7, (.ptr (7, u1) 0)), (9, (.ptr (9, u4) 0)), (11, (.ptr (11, u8) 0)), (42, (.d (.fn (.func 86) [] [(.bp [(.list (List.map eSpot p3.Pts))] 0)])))], G [((5, u1), some (.box 2 [(.d (i64 p2))])), ((7, u1), some (.box 2 [(.d (i64 p4))])), ((9, u4), some (.box 65 [(oS x1 (80, g2))])), ((80, g2), oB 69 4 eCross x1), ((11, u8), some (.box 89 [(.d (i64 a1.2.p.X)), (.d (i64 a1.2.p.Y)), (.d (i64 a1.2.v.x)), (.d (i64 a1.2.v.y)), (.d (i64 a1.2.l)), (.d (i64 a1.2.start))])), ((6, u1), some (.box 24 [(.d (.list (List.map eSpot p3.Pts)))])), ((1000000, u7), some (.obj (T [(5, (.ptr (5, u1) 0)), (6, (.ptr (6, u1) 0)), (7, (.ptr (7, u1) 0)), (8, (.d .nilS)), (9, (.ptr (9, u4) 0)), (38, (.d (.fn (.func 86) [] [(.bp [(.list (List.map eSpot p1.Pts))] 0)])))]) { r1 with state := .busy }))]⟩) (sb_of ⟨.of rfl, .of rfl, .of rfl, .of rfl, .of rfl, trivial⟩ (sbG_some (G_skip rfl (G_skip rfl (G_skip rfl (G_skip rfl G_hit)))) (.of rfl) (sbG_some (G_skip rfl (G_skip rfl (G_skip rfl (G_skip rfl (G_skip rfl (G_skip rfl G_hit)))))) (.of rfl) (sbG_some (G_skip rfl (G_skip rfl (G_skip rfl (G_skip rfl (G_skip rfl (G_skip rfl (G_skip rfl G_hit))))))) (.of rfl) (sbG_oB (G_skip rfl (G_skip rfl (G_skip rfl (G_skip rfl (G_skip rfl (G_skip rfl (G_skip rfl (G_skip rfl G_hit)))))))) (sbG_some (G_skip rfl G_hit) (.of rfl) (sbG_some (G_skip rfl (G_skip rfl (G_skip rfl (G_skip rfl (G_skip rfl G_hit))))) (.of rfl) (sbG_some G_hit (.of rfl) trivial)))))))) ?_
          refine l_rangeL (.fn (.func 86) [] [(.bp [(.list (List.map eSpot p3.Pts))] 0)]) ePiece v4 (curve_Corridors_l2 p2 p4 a1) (fun (x2 : (List Cross)) => x2) (fun (x2 : (List Cross)) (g4 : Nat) => [((5, u1), some (.box 2 [(.d (i64 p2))])), ((7, u1), some (.box 2 [(.d (i64 p4))])), ((9, u4), some (.box 65 [(oS x2 (80, g4))])), ((11, u8), some (.box 89 [(.d (i64 a1.2.p.X)), (.d (i64 a1.2.p.Y)), (.d (i64 a1.2.v.x)), (.d (i64 a1.2.v.y)), (.d (i64 a1.2.l)), (.d (i64 a1.2.start))])), ((6, u1), some (.box 24 [(.d (.list (List.map eSpot p3.Pts)))])), ((1000000, u7), some (.obj (T [(5, (.ptr (5, u1) 0)), (6, (.ptr (6, u1) 0)), (7, (.ptr (7, u1) 0)), (8, (.d .nilS)), (9, (.ptr (9, u4) 0)), (38, (.d (.fn (.func 86) [] [(.bp [(.list (List.map eSpot p1.Pts))] 0)])))]) { r1 with state := .busy })), ((80, g4), oB 69 4 eCross x2)]) x1 g2 _ rfl (pieces_iter hv4) (fun _ => rfl) hy2 (sb_of trivial (sbG_some G_hit (.of rfl) (sbG_some (G_skip rfl G_hit) (.of rfl) (sbG_some (G_skip rfl (G_skip rfl G_hit)) (.of rfl) (sbG_some (G_skip rfl (G_skip rfl (G_skip rfl (G_skip rfl G_hit)))) (.of rfl) (sbG_some (G_skip rfl (G_skip rfl (G_skip rfl (G_skip rfl (G_skip rfl G_hit))))) (.of rfl) (sbG_some (G_skip rfl (G_skip rfl (G_skip rfl (G_skip rfl (G_skip rfl (G_skip rfl G_hit)))))) (.of rfl) (sbG_oB (G_skip rfl (G_skip rfl (G_skip rfl G_hit))) trivial)))))))) (fun kk hk => by cases hk; exact ⟨_, _, (G_skip rfl (G_skip rfl (G_skip rfl (G_skip rfl (G_skip rfl (G_skip rfl G_hit))))))⟩) ?_ ?_
          · intro u11 hu11 hku11
            refine ⟨fun x2 g4 => (G_skip rfl (G_skip rfl (G_skip rfl (G_skip rfl (G_skip rfl (G_skipU (Ne.symm (fresh_ne hu11 (G_skip rfl (G_skip rfl (G_skip rfl (G_skip rfl (G_skip rfl (G_skip rfl G_hit)))))))) (G_skip rfl rfl))))))), ?_⟩
            intro r2 x2 g4 a2 z2 hrr2 hz2 ez2
            unfold curve_Corridors_l2 at hz2
            show AWL _ _ _ _ _ _ ⟨T [(44, (.d (.agg [(i64 a2.2.p.X), (i64 a2.2.p.Y), (i64 a2.2.v.x), (i64 a2.2.v.y), (i64 a2.2.l), (i64 a2.2.start)]))), (43, (.d (i64 a2.1))), (5, (.ptr (5, u1) 0)), (7, (.ptr (7, u1) 0)), (9, (.ptr (9, u4) 0)), (11, (.ptr (11, u8) 0)), (42, (.d (.fn (.func 86) [] [(.bp [(.list (List.map eSpot p3.Pts))] 0)])))], G [((1000000, u11), some (.obj (T [(5, (.ptr (5, u1) 0)), (7, (.ptr (7, u1) 0)), (9, (.ptr (9, u4) 0)), (11, (.ptr (11, u8) 0)), (42, (.d (.fn (.func 86) [] [(.bp [(.list (List.map eSpot p3.Pts))] 0)])))]) r2)), ((5, u1), some (.box 2 [(.d (i64 p2))])), ((7, u1), some (.box 2 [(.d (i64 p4))])), ((9, u4), some (.box 65 [(oS x2 (80, g4))])), ((11, u8), some (.box 89 [(.d (i64 a1.2.p.X)), (.d (i64 a1.2.p.Y)), (.d (i64 a1.2.v.x)), (.d (i64 a1.2.v.y)), (.d (i64 a1.2.l)), (.d (i64 a1.2.start))])), ((6, u1), some (.box 24 [(.d (.list (List.map eSpot p3.Pts)))])), ((1000000, u7), some (.obj (T [(5, (.ptr (5, u1) 0)), (6, (.ptr (6, u1) 0)), (7, (.ptr (7, u1) 0)), (8, (.d .nilS)), (9, (.ptr (9, u4) 0)), (38, (.d (.fn (.func 86) [] [(.bp [(.list (List.map eSpot p1.Pts))] 0)])))]) { r1 with state := .busy })), ((80, g4), oB 69 4 eCross x2)]⟩
            refine l_reg fun u12 hu12 => ?_
            refine s_new (.ptr _ _) (.box _ _) rfl rfl ?_
            refine s_store _ _ _ _ _ rfl rfl rfl G_hit (Nat.le_of_ble_eq_true rfl) _ rfl ?_
            refine s_nil ?_
            refine l_j (mid_ok (G_skip rfl (G_skip rfl G_hit)) ?_)
            refine l_block ?_
            refine l_seq ?_
            refine l_drawT fun u13 hu13 => ?_
            refine t_val (.d _) rfl (v_loadG rfl (G_skip rfl (G_skip rfl (G_skip rfl (G_skip rfl (G_skip rfl (G_skip rfl (G_skip rfl G_hit))))))) rfl rfl) ?_
            refine t_val (.d _) rfl (v_load rfl (G_skip rfl (G_skip rfl (G_skip rfl (G_skip rfl G_hit)))) rfl) ?_
            refine t_val (.ptr _ _) rfl rfl ?_
            refine t_val (.d _) rfl (v_load rfl (G_skip rfl (G_skip rfl (G_skip rfl (G_skip rfl (G_skip rfl (G_skip rfl (G_skip rfl G_hit))))))) rfl) ?_
            refine t_val (.d _) rfl rfl ?_
            refine t_val (.d _) rfl rfl ?_
            refine t_val (.d _) rfl (v_loadG rfl (G_skip rfl G_hit) rfl rfl) ?_
            refine t_val (.d _) rfl (v_load rfl (G_skip rfl (G_skip rfl (G_skip rfl (G_skip rfl (G_skip rfl G_hit))))) rfl) ?_
            refine t_val (.ptr _ _) rfl rfl ?_
            refine t_val (.d _) rfl (v_load rfl (G_skip rfl G_hit) rfl) ?_
            refine t_val (.d _) rfl rfl ?_
            refine t_val (.d _) rfl rfl ?_
            refine t_new (.ptr _ _) (.box _ _) rfl rfl ?_
            refine t_new (.ptr _ _) (.box _ _) rfl rfl ?_
            refine t_store _ _ _ _ _ rfl rfl rfl (G_skip rfl G_hit) (Nat.le_of_ble_eq_true rfl) _ rfl ?_
            refine t_store _ _ _ _ _ rfl rfl rfl (G_skip rfl G_hit) (Nat.le_of_ble_eq_true rfl) _ rfl ?_
            refine t_nil ⟨rfl, ?_⟩
            refine l_seq ?_
            refine l_seq ?_
            refine l_sub (s0 := ⟨T [(9, (.ptr (9, u4) 0)), (14, (.ptr (14, u13) 0)), (15, (.ptr (15, u13) 0))], G [((9, u4), some (.box 65 [(oS x2 (80, g4))])), ((80, g4), oB 69 4 eCross x2), ((14, u13), some (.box 102 [(.d (i64 a1.2.p.X)), (.d (i64 a1.2.p.Y)), (.d (i64 a1.2.v.x)), (.d (i64 a1.2.v.y)), (.d (i64 a1.2.l)), (.d (i64 a1.2.start)), (.d (i64 p2)), (.d (i64 0)), (.d (i64 a1.2.l))])), ((15, u13), some (.box 102 [(.d (i64 a2.2.p.X)), (.d (i64 a2.2.p.Y)), (.d (i64 a2.2.v.x)), (.d (i64 a2.2.v.y)), (.d (i64 a2.2.l)), (.d (i64 a2.2.start)), (.d (i64 p4)), (.d (i64 0)), (.d (i64 a2.2.l))])), ((5, u1), some (.box 2 [(.d (i64 p2))])), ((6, u1), some (.box 24 [(.d (.list (List.map eSpot p3.Pts)))])), ((7, u1), some (.box 2 [(.d (i64 p4))])), ((11, u8), some (.box 89 [(.d (i64 a1.2.p.X)), (.d (i64 a1.2.p.Y)), (.d (i64 a1.2.v.x)), (.d (i64 a1.2.v.y)), (.d (i64 a1.2.l)), (.d (i64 a1.2.start))])), ((1000000, u7), some (.obj (T [(5, (.ptr (5, u1) 0)), (6, (.ptr (6, u1) 0)), (7, (.ptr (7, u1) 0)), (8, (.d .nilS)), (9, (.ptr (9, u4) 0)), (38, (.d (.fn (.func 86) [] [(.bp [(.list (List.map eSpot p1.Pts))] 0)])))]) { r1 with state := .busy })), ((1000000, u11), some (.obj (T [(5, (.ptr (5, u1) 0)), (7, (.ptr (7, u1) 0)), (9, (.ptr (9, u4) 0)), (11, (.ptr (11, u8) 0)), (42, (.d (.fn (.func 86) [] [(.bp [(.list (List.map eSpot p3.Pts))] 0)])))]) { r2 with state := .busy }))]⟩) (sb_of ⟨.of rfl, .of rfl, .of rfl, trivial⟩ (sbG_some (G_skip rfl (G_skip rfl (G_skip rfl (G_skip rfl (G_skip rfl (G_skip rfl (G_skip rfl (G_skip rfl (G_skip rfl (G_skip rfl G_hit)))))))))) (.of rfl) (sbG_oB (G_skip rfl (G_skip rfl (G_skip rfl (G_skip rfl (G_skip rfl (G_skip rfl (G_skip rfl (G_skip rfl (G_skip rfl (G_skip rfl (G_skip rfl (G_skip rfl (G_skip rfl (G_skip rfl G_hit)))))))))))))) (sbG_some (G_skip rfl G_hit) (.of rfl) (sbG_some G_hit (.of rfl) (sbG_some (G_skip rfl (G_skip rfl (G_skip rfl (G_skip rfl (G_skip rfl (G_skip rfl (G_skip rfl (G_skip rfl G_hit)))))))) (.of rfl) (sbG_some (G_skip rfl (G_skip rfl (G_skip rfl (G_skip rfl (G_skip rfl (G_skip rfl (G_skip rfl (G_skip rfl (G_skip rfl (G_skip rfl (G_skip rfl (G_skip rfl G_hit)))))))))))) (.of rfl) (sbG_some (G_skip rfl (G_skip rfl (G_skip rfl (G_skip rfl (G_skip rfl (G_skip rfl (G_skip rfl (G_skip rfl (G_skip rfl G_hit))))))))) (.of rfl) (sbG_some (G_skip rfl (G_skip rfl (G_skip rfl (G_skip rfl (G_skip rfl (G_skip rfl (G_skip rfl (G_skip rfl (G_skip rfl (G_skip rfl (G_skip rfl G_hit))))))))))) (.of rfl) (sbG_some (G_skip rfl (G_skip rfl (G_skip rfl (G_skip rfl (G_skipU (fresh_ne hu11 (G_skip rfl (G_skip rfl (G_skip rfl (G_skip rfl (G_skip rfl (G_skip rfl G_hit))))))) (G_skip rfl (G_skip rfl (G_skipU (fresh_ne hu11 (G_skip rfl (G_skip rfl (G_skip rfl (G_skip rfl (G_skip rfl (G_skip rfl G_hit))))))) (G_skip rfl (G_skip rfl (G_skip rfl (G_skip rfl (G_skip rfl G_hit))))))))))))) (.of rfl) (sbG_some (G_skip rfl (G_skip rfl (G_skip rfl (G_skip rfl G_hit)))) (.of rfl) trivial))))))))))) ?_
            refine l_reg fun u14 hu14 => ?_
            refine s_val (.d _) rfl (v_loadG rfl (G_skip rfl (G_skip rfl G_hit)) rfl rfl) ?_
            refine s_val (.d _) rfl (v_loadG rfl (G_skip rfl (G_skip rfl (G_skip rfl G_hit))) rfl rfl) ?_
            obtain ⟨v5, hv5, hz2⟩ := bind_some hz2
            refine s_call rfl rfl all2_refl (curve_corridor_meets_ok _ _  _ hv5) (.inl rfl) ?_
            refine s_val (.d _) rfl rfl ?_
            refine s_nil ?_
            refine l_cond (!v5) rfl (fun c2 => ?_) (fun c2 => ?_)
            · replace hz2 := cond_t c2 hz2
              refine l_exit rfl ?_
              refine l_nil ?_
              obtain rfl := Option.some.inj hz2
              exact rnd_go (G_skip rfl (G_skip rfl (G_skip rfl (G_skip rfl (G_skip rfl (G_skip rfl (G_skip rfl (G_skip rfl (G_skipU (Ne.symm (fresh_ne hu11 (G_skip rfl (G_skip rfl (G_skip rfl (G_skip rfl (G_skip rfl (G_skip rfl G_hit)))))))) G_hit))))))))) g4 (sbG_some (G_skip rfl (G_skip rfl (G_skip rfl (G_skip rfl G_hit)))) (.of rfl) (sbG_some (G_skip rfl (G_skip rfl (G_skip rfl (G_skip rfl (G_skip rfl (G_skip rfl G_hit)))))) (.of rfl) (sbG_some G_hit (.of rfl) (sbG_some (G_skip rfl (G_skip rfl (G_skip rfl (G_skip rfl (G_skip rfl (G_skip rfl (G_skip rfl G_hit))))))) (.of rfl) (sbG_some (G_skip rfl (G_skip rfl (G_skip rfl (G_skip rfl (G_skip rfl G_hit))))) (.of rfl) (sbG_some (G_skip rfl (G_skip rfl (G_skip rfl (G_skip rfl (G_skip rfl (G_skip rfl (G_skip rfl (G_skip rfl G_hit)))))))) (.of rfl) (sbG_oB (G_skip rfl G_hit) trivial)))))))
            · replace hz2 := cond_f c2 hz2
              refine l_skip ?_
              refine l_seq ?_
              refine l_reg fun u15 hu15 => ?_
              refine s_new (.ptr _ _) (.box _ _) rfl rfl ?_
              refine s_nil ?_
              refine l_seq ?_
              refine l_reg fun u16 hu16 => ?_
              refine s_val (.d _) rfl (v_loadG rfl (G_skip rfl (G_skip rfl (G_skip rfl G_hit))) rfl rfl) ?_
              refine s_val (.d _) rfl (v_loadG rfl (G_skip rfl (G_skip rfl (G_skip rfl (G_skip rfl G_hit)))) rfl rfl) ?_
              obtain ⟨v6, hv6, hz2⟩ := bind_some hz2
              refine s_call rfl rfl all2_refl (curve_corridor_span_ok _ _  _ hv6) (.inl rfl) ?_
              refine s_val (.d _) rfl rfl ?_
              refine s_val (.d _) rfl rfl ?_
              refine s_val (.d _) rfl rfl ?_
              refine s_val (.ptr _ _) rfl rfl ?_
              refine s_store _ _ _ _ _ rfl rfl rfl G_hit (Nat.le_of_ble_eq_true rfl) _ rfl ?_
              refine s_val (.ptr _ _) rfl rfl ?_
              refine s_store _ _ _ _ _ rfl rfl rfl G_hit (Nat.le_of_ble_eq_true rfl) _ rfl ?_
              refine s_nil ?_
              refine l_seq ?_
              refine l_sub (s0 := ⟨T [(9, (.ptr (9, u4) 0)), (14, (.ptr (14, u13) 0)), (15, (.ptr (15, u13) 0)), (16, (.ptr (16, u15) 0))], G [((9, u4), some (.box 65 [(oS x2 (80, g4))])), ((80, g4), oB 69 4 eCross x2), ((14, u13), some (.box 102 [(.d (i64 a1.2.p.X)), (.d (i64 a1.2.p.Y)), (.d (i64 a1.2.v.x)), (.d (i64 a1.2.v.y)), (.d (i64 a1.2.l)), (.d (i64 a1.2.start)), (.d (i64 p2)), (.d (i64 0)), (.d (i64 a1.2.l))])), ((15, u13), some (.box 102 [(.d (i64 a2.2.p.X)), (.d (i64 a2.2.p.Y)), (.d (i64 a2.2.v.x)), (.d (i64 a2.2.v.y)), (.d (i64 a2.2.l)), (.d (i64 a2.2.start)), (.d (i64 p4)), (.d (i64 0)), (.d (i64 a2.2.l))])), ((16, u15), some (.box 69 [(.d (i64 v6.1)), (.d (i64 v6.2)), (.d (i64 0)), (.d (i64 0))])), ((5, u1), some (.box 2 [(.d (i64 p2))])), ((6, u1), some (.box 24 [(.d (.list (List.map eSpot p3.Pts)))])), ((7, u1), some (.box 2 [(.d (i64 p4))])), ((11, u8), some (.box 89 [(.d (i64 a1.2.p.X)), (.d (i64 a1.2.p.Y)), (.d (i64 a1.2.v.x)), (.d (i64 a1.2.v.y)), (.d (i64 a1.2.l)), (.d (i64 a1.2.start))])), ((1000000, u7), some (.obj (T [(5, (.ptr (5, u1) 0)), (6, (.ptr (6, u1) 0)), (7, (.ptr (7, u1) 0)), (8, (.d .nilS)), (9, (.ptr (9, u4) 0)), (38, (.d (.fn (.func 86) [] [(.bp [(.list (List.map eSpot p1.Pts))] 0)])))]) { r1 with state := .busy })), ((1000000, u11), some (.obj (T [(5, (.ptr (5, u1) 0)), (7, (.ptr (7, u1) 0)), (9, (.ptr (9, u4) 0)), (11, (.ptr (11, u8) 0)), (42, (.d (.fn (.func 86) [] [(.bp [(.list (List.map eSpot p3.Pts))] 0)])))]) { r2 with state := .busy }))]⟩) (sb_of ⟨.of rfl, .of rfl, .of rfl, .of rfl, trivial⟩ (sbG_some (G_skip rfl (G_skip rfl (G_skip rfl G_hit))) (.of rfl) (sbG_oB (G_skip rfl (G_skip rfl (G_skip rfl (G_skip rfl G_hit)))) (sbG_some (G_skip rfl (G_skip rfl (G_skip rfl (G_skip rfl (G_skip rfl G_hit))))) (.of rfl) (sbG_some (G_skip rfl (G_skip rfl (G_skip rfl (G_skip rfl (G_skip rfl (G_skip rfl G_hit)))))) (.of rfl) (sbG_some G_hit (.of rfl) (sbG_some (G_skip rfl (G_skip rfl (G_skip rfl (G_skip rfl (G_skip rfl (G_skip rfl (G_skip rfl G_hit))))))) (.of rfl) (sbG_some (G_skip rfl (G_skip rfl (G_skip rfl (G_skip rfl (G_skip rfl (G_skip rfl (G_skip rfl (G_skip rfl G_hit)))))))) (.of rfl) (sbG_some (G_skip rfl (G_skip rfl (G_skip rfl (G_skip rfl (G_skip rfl (G_skip rfl (G_skip rfl (G_skip rfl (G_skip rfl G_hit))))))))) (.of rfl) (sbG_some (G_skip rfl (G_skip rfl (G_skip rfl (G_skip rfl (G_skip rfl (G_skip rfl (G_skip rfl (G_skip rfl (G_skip rfl (G_skip rfl G_hit)))))))))) (.of rfl) (sbG_some (G_skip rfl (G_skip rfl (G_skip rfl (G_skip rfl (G_skip rfl (G_skip rfl (G_skip rfl (G_skip rfl (G_skip rfl (G_skip rfl (G_skip rfl G_hit))))))))))) (.of rfl) (sbG_some (G_skip rfl (G_skip rfl (G_skip rfl (G_skip rfl (G_skip rfl (G_skip rfl (G_skip rfl (G_skip rfl (G_skip rfl (G_skip rfl (G_skip rfl (G_skipU (Ne.symm (fresh_ne hu11 (G_skip rfl (G_skip rfl (G_skip rfl (G_skip rfl (G_skip rfl (G_skip rfl G_hit)))))))) G_hit)))))))))))) (.of rfl) trivial)))))))))))) ?_
              refine l_reg fun u17 hu17 => ?_
              refine s_val (.d _) rfl (v_loadG rfl (G_skip rfl (G_skip rfl (G_skip rfl G_hit))) rfl rfl) ?_
              refine s_val (.d _) rfl (v_loadG rfl (G_skip rfl (G_skip rfl G_hit)) rfl rfl) ?_
              obtain ⟨v7, hv7, hz2⟩ := bind_some hz2
              refine s_call rfl rfl all2_refl (curve_corridor_span_ok _ _  _ hv7) (.inl rfl) ?_
              refine s_val (.d _) rfl rfl ?_
              refine s_val (.d _) rfl rfl ?_
              refine s_val (.d _) rfl rfl ?_
              refine s_val (.ptr _ _) rfl rfl ?_
              refine s_store _ _ _ _ _ rfl rfl rfl (G_skip rfl (G_skip rfl (G_skip rfl (G_skip rfl G_hit)))) (Nat.le_of_ble_eq_true rfl) _ rfl ?_
              refine s_val (.ptr _ _) rfl rfl ?_
              refine s_store _ _ _ _ _ rfl rfl rfl G_hit (Nat.le_of_ble_eq_true rfl) _ rfl ?_
              refine s_nil ?_
              refine l_sub (s0 := ⟨T [(9, (.ptr (9, u4) 0)), (16, (.ptr (16, u15) 0))], G [((9, u4), some (.box 65 [(oS x2 (80, g4))])), ((80, g4), oB 69 4 eCross x2), ((16, u15), some (.box 69 [(.d (i64 v6.1)), (.d (i64 v6.2)), (.d (i64 v7.1)), (.d (i64 v7.2))])), ((5, u1), some (.box 2 [(.d (i64 p2))])), ((6, u1), some (.box 24 [(.d (.list (List.map eSpot p3.Pts)))])), ((7, u1), some (.box 2 [(.d (i64 p4))])), ((11, u8), some (.box 89 [(.d (i64 a1.2.p.X)), (.d (i64 a1.2.p.Y)), (.d (i64 a1.2.v.x)), (.d (i64 a1.2.v.y)), (.d (i64 a1.2.l)), (.d (i64 a1.2.start))])), ((1000000, u7), some (.obj (T [(5, (.ptr (5, u1) 0)), (6, (.ptr (6, u1) 0)), (7, (.ptr (7, u1) 0)), (8, (.d .nilS)), (9, (.ptr (9, u4) 0)), (38, (.d (.fn (.func 86) [] [(.bp [(.list (List.map eSpot p1.Pts))] 0)])))]) { r1 with state := .busy })), ((1000000, u11), some (.obj (T [(5, (.ptr (5, u1) 0)), (7, (.ptr (7, u1) 0)), (9, (.ptr (9, u4) 0)), (11, (.ptr (11, u8) 0)), (42, (.d (.fn (.func 86) [] [(.bp [(.list (List.map eSpot p3.Pts))] 0)])))]) { r2 with state := .busy }))]⟩) (sb_of ⟨.of rfl, .of rfl, trivial⟩ (sbG_some (G_skip rfl (G_skip rfl G_hit)) (.of rfl) (sbG_oB (G_skip rfl (G_skip rfl (G_skip rfl G_hit))) (sbG_some G_hit (.of rfl) (sbG_some (G_skip rfl (G_skip rfl (G_skip rfl (G_skip rfl (G_skip rfl (G_skip rfl (G_skip rfl G_hit))))))) (.of rfl) (sbG_some (G_skip rfl (G_skip rfl (G_skip rfl (G_skip rfl (G_skip rfl (G_skip rfl (G_skip rfl (G_skip rfl G_hit)))))))) (.of rfl) (sbG_some (G_skip rfl (G_skip rfl (G_skip rfl (G_skip rfl (G_skip rfl (G_skip rfl (G_skip rfl (G_skip rfl (G_skip rfl G_hit))))))))) (.of rfl) (sbG_some (G_skip rfl (G_skip rfl (G_skip rfl (G_skip rfl (G_skip rfl (G_skip rfl (G_skip rfl (G_skip rfl (G_skip rfl (G_skip rfl G_hit)))))))))) (.of rfl) (sbG_some (G_skip rfl (G_skip rfl (G_skip rfl (G_skip rfl (G_skip rfl (G_skip rfl (G_skip rfl (G_skip rfl (G_skip rfl (G_skip rfl (G_skip rfl G_hit))))))))))) (.of rfl) (sbG_some (G_skip rfl (G_skip rfl (G_skip rfl (G_skip rfl (G_skip rfl (G_skip rfl (G_skip rfl (G_skip rfl (G_skip rfl (G_skip rfl (G_skip rfl (G_skipU (Ne.symm (fresh_ne hu11 (G_skip rfl (G_skip rfl (G_skip rfl (G_skip rfl (G_skip rfl (G_skip rfl G_hit)))))))) G_hit)))))))))))) (.of rfl) trivial)))))))))) ?_
              refine l_reg fun u18 hu18 => ?_
              refine s_val (oS x2 (80, g4)) rfl (v_load rfl G_hit rfl) ?_
              refine s_val (.d _) rfl (v_loadG rfl (G_skip rfl (G_skip rfl G_hit)) rfl rfl) ?_
              refine s_val (.d (.list (List.map eCross [(Cross.mk v6.1 v6.2 v7.1 v7.2)]))) rfl rfl ?_
              obtain ⟨v8, hv8, hz2⟩ := bind_some hz2
              refine s_appendO eCross (80, g4) x2 (Cross.mk v6.1 v6.2 v7.1 v7.2) [] _ (elems_list (fun _ => rfl)) rfl (G_skip rfl G_hit) hv8 ?_
              refine s_store _ _ _ _ _ rfl rfl rfl (G_skip rfl (G_skip rfl G_hit)) (Nat.le_of_ble_eq_true rfl) _ rfl ?_
              refine s_nil ?_
              refine l_end ?_
              refine l_nil ?_
              obtain rfl := Option.some.inj hz2
              exact rnd_go (G_skip rfl (G_skip rfl (G_skip rfl (G_skip rfl (G_skip rfl (G_skip rfl (G_skip rfl (G_skip rfl (G_skip rfl (G_skip rfl (G_skipU (Ne.symm (fresh_ne hu11 (G_skip rfl (G_skip rfl (G_skip rfl (G_skip rfl (G_skip rfl (G_skip rfl G_hit)))))))) G_hit))))))))))) u18 (sbG_some (G_skip rfl (G_skip rfl (G_skip rfl (G_skip rfl (G_skip rfl (G_skip rfl G_hit)))))) (.of rfl) (sbG_some (G_skip rfl (G_skip rfl (G_skip rfl (G_skip rfl (G_skip rfl (G_skip rfl (G_skip rfl (G_skip rfl G_hit)))))))) (.of rfl) (sbG_some G_hit (.box (.cons (.of (oS_ne (appc_ne hv8)).symm) .nil)) (sbG_some (G_skip rfl (G_skip rfl (G_skip rfl (G_skip rfl (G_skip rfl (G_skip rfl (G_skip rfl (G_skip rfl (G_skip rfl G_hit))))))))) (.of rfl) (sbG_some (G_skip rfl (G_skip rfl (G_skip rfl (G_skip rfl (G_skip rfl (G_skip rfl (G_skip rfl G_hit))))))) (.of rfl) (sbG_some (G_skip rfl (G_skip rfl (G_skip rfl (G_skip rfl (G_skip rfl (G_skip rfl (G_skip rfl (G_skip rfl (G_skip rfl (G_skip rfl G_hit)))))))))) (.of rfl) (sbG_own (G_skip rfl G_hit) trivial)))))))
          · rintro x2 g4 _ rfl qx2
            refine l_end (l_j ?_)
            exact ⟨g4, (Sb.after qx2 (sb_of trivial (sbG_some G_hit (.of rfl) (sbG_some (G_skip rfl (G_skip rfl (G_skip rfl (G_skip rfl G_hit)))) (.of rfl) (sbG_some (G_skip rfl G_hit) (.of rfl) (sbG_some (G_skip rfl (G_skip rfl G_hit)) (.of rfl) (sbG_some (G_skip rfl (G_skip rfl (G_skip rfl (G_skip rfl (G_skip rfl G_hit))))) (.of rfl) (sbG_oB (G_skip rfl (G_skip rfl (G_skip rfl (G_skip rfl (G_skip rfl (G_skip rfl G_hit)))))) trivial))))))))⟩
        · rintro _ ⟨g3, q1⟩
          refine l_end ?_
          refine l_nil ?_
          obtain rfl := Option.some.inj hz1
          exact rnd_goV q1 (G_skip rfl (G_skip rfl (G_skip rfl (G_skip rfl G_hit)))) g3 (sbG_some G_hit (.of rfl) (sbG_some (G_skip rfl G_hit) (.of rfl) (sbG_some (G_skip rfl (G_skip rfl G_hit)) (.of rfl) (sbG_some (G_skip rfl (G_skip rfl (G_skip rfl G_hit))) (.of rfl) (sbG_oB (G_skip rfl (G_skip rfl (G_skip rfl (G_skip rfl (G_skip rfl G_hit))))) trivial)))))
      · rintro x1 g2 _ rfl qx1
        refine l_end (l_j ?_)
        exact ⟨g2, (Sb.after qx1 (sb_of ⟨.of rfl, trivial⟩ (sbG_some (G_skip rfl (G_skip rfl (G_skip rfl G_hit))) (.of rfl) (sbG_oB (G_skip rfl (G_skip rfl (G_skip rfl (G_skip rfl G_hit)))) trivial))))⟩
    · rintro _ ⟨g1, q2⟩
      refine l_sub q2 ?_
      refine l_seq ?_
      refine l_reg fun u19 hu19 => ?_
      refine s_val (oS y1 (80, g1)) rfl (v_load rfl G_hit rfl) ?_
      refine s_val (oS y1 (80, g1)) rfl rfl ?_
      refine s_nil ?_
      refine l_ret ?_
      obtain rfl := Option.some.inj h
      refine fin_ok (.inr rfl) (resD1 (res_t rfl) (rf_oS (G_skip rfl G_hit))) ?_
      exact oD_le

noncomputable def law01_CurveCrosses_l3 (v6 : (List Cross)) (v8 : (List Cross)) (x1 : Int) (x3 : (Bool × Int)) : Option (Stp (Bool × Int) Bool) :=
  cond (decide (x3.2 < (v8.length : Int))) (((cond (!x3.1) (geti v8 x3.2) (some default))).bind fun v15 => ((cond (!x3.1) (geti v6 x1) (some default))).bind fun v16 => ((cond ((!x3.1) && (decide (v15.FromA ≤ v16.FromA))) (geti v8 x3.2) (some default))).bind fun v17 => ((cond ((!x3.1) && (decide (v15.FromA ≤ v16.FromA))) (geti v6 x1) (some default))).bind fun v18 => ((cond ((!x3.1) && ((decide (v15.FromA ≤ v16.FromA)) && (decide (v17.ToA ≥ v18.ToA)))) (geti v8 x3.2) (some default))).bind fun v19 => ((cond ((!x3.1) && ((decide (v15.FromA ≤ v16.FromA)) && (decide (v17.ToA ≥ v18.ToA)))) (geti v6 x1) (some default))).bind fun v20 => ((cond ((!x3.1) && (((decide (v15.FromA ≤ v16.FromA)) && (decide (v17.ToA ≥ v18.ToA))) && (decide (v19.FromB ≤ v20.FromB)))) (geti v8 x3.2) (some default))).bind fun v21 => ((cond ((!x3.1) && (((decide (v15.FromA ≤ v16.FromA)) && (decide (v17.ToA ≥ v18.ToA))) && (decide (v19.FromB ≤ v20.FromB)))) (geti v6 x1) (some default))).bind fun v22 => some (.go ((x3.1 || ((((decide (v15.FromA ≤ v16.FromA)) && (decide (v17.ToA ≥ v18.ToA))) && (decide (v19.FromB ≤ v20.FromB))) && (decide (v21.ToB ≥ v22.ToB)))), (w64 (x3.2 + 1))))) (some (.out x3.1))
noncomputable def law01_CurveCrosses_l2 (v7 : (List Cross)) (v10 : Cross) (v11 : Cross) (v12 : Cross) (v13 : Cross) (x2 : (Bool × Int)) : Option (Stp (Bool × Int) Bool) :=
  cond (decide (x2.2 < (v7.length : Int))) (((cond (!x2.1) (geti v7 x2.2) (some default))).bind fun v14 => some (.go ((x2.1 || (v14.FromA == v10.FromB && (v14.ToA == v11.ToB && (v14.FromB == v12.FromA && (v14.ToB == v13.ToA && true))))), (w64 (x2.2 + 1))))) (some (.out x2.1))
noncomputable def law01_CurveCrosses_l1 (v1 : Curve) (v2 : Curve) (v6 : (List Cross)) (v7 : (List Cross)) (v8 : (List Cross)) (x1 : Int) : Option (Stp Int (Sum Unit Bool)) :=
  cond (decide (x1 < (v6.length : Int))) ((geti v6 x1).bind fun v10 => (geti v6 x1).bind fun v11 => (geti v6 x1).bind fun v12 => (geti v6 x1).bind fun v13 => (loop (law01_CurveCrosses_l2 v7 v10 v11 v12 v13) (false, 0)).bind fun y2 => (loop (law01_CurveCrosses_l3 v6 v8 x1) (false, 0)).bind fun y3 => ((cond (!((!y2) || (!y3))) (geti v6 x1) (some default))).bind fun v23 => ((cond (!(((!y2) || (!y3)) || (decide (v23.FromA < 0)))) (geti v6 x1) (some default))).bind fun v24 => ((cond (!(((!y2) || (!y3)) || (decide (v23.FromA < 0)))) (geti v6 x1) (some default))).bind fun v25 => ((cond (!((((!y2) || (!y3)) || (decide (v23.FromA < 0))) || (decide (v24.FromA ≥ v25.ToA)))) (geti v6 x1) (some default))).bind fun v26 => ((cond (!((((!y2) || (!y3)) || (decide (v23.FromA < 0))) || (decide (v24.FromA ≥ v25.ToA)))) (curve_Length v1) (some default))).bind fun v27 => ((cond (!(((((!y2) || (!y3)) || (decide (v23.FromA < 0))) || (decide (v24.FromA ≥ v25.ToA))) || (decide (v26.ToA > v27)))) (geti v6 x1) (some default))).bind fun v28 => ((cond (!(((((!y2) || (!y3)) || (decide (v23.FromA < 0))) || (decide (v24.FromA ≥ v25.ToA))) || (decide (v26.ToA > v27)))) (curve_Length v2) (some default))).bind fun v29 => cond ((((((!y2) || (!y3)) || (decide (v23.FromA < 0))) || (decide (v24.FromA ≥ v25.ToA))) || (decide (v26.ToA > v27))) || (decide (v28.ToB > v29))) (some (.out (.inr false))) (some (.go (w64 (x1 + 1))))) (some (.out (.inl ())))
noncomputable def law01_CurveCrosses (p1 : KitChain) (p2 : KitChain) (p3 : Int) (p4 : Int) (p5 : Int) : Option Bool :=
  (kit_Curve p1).bind fun v1 => (kit_Curve p2).bind fun v2 => (kit_Mod64 p3 2001).bind fun v3 => (kit_Mod64 p4 2001).bind fun v4 => (kit_Mod64 p5 2001).bind fun v5 => (curve_Corridors v1 v3 v2 v4).bind fun v6 => (curve_Corridors v2 v4 v1 v3).bind fun v7 => (curve_Corridors v1 (w64 (v3 + v5)) v2 (w64 (v4 + v5))).bind fun v8 => ((cond (!(((v6.length : Int) != (v7.length : Int)) || (decide ((v8.length : Int) < (v6.length : Int))))) (curve_Length v1) (some default))).bind fun v9 => cond ((((v6.length : Int) != (v7.length : Int)) || (decide ((v8.length : Int) < (v6.length : Int)))) || (v9 == 0)) (some false) (thenS (loop (law01_CurveCrosses_l1 v1 v2 v6 v7 v8) 0) (fun _ => (law01_awake).bind fun v30 => some v30) (fun r => some r))

/-- kerbstone/kerbstonelaw01.CurveCrosses -/
def ac13 : AC :=
  (.seq (.reg [⟨(some 5), .box 37 true (.t 0), none⟩, ⟨(some 6), .box 37 true (.t 1), none⟩, ⟨(some 10), .mv (.c (.v (.bool false))), none⟩])
  (.seq (.draw [⟨(some 22), .load 3 true (.t 5), none⟩, ⟨(some 23), .call (.c (.fn (.func 28) [] [])) [(.t 22)], none⟩, ⟨(some 24), .load 3 true (.t 6), none⟩, ⟨(some 25), .call (.c (.fn (.func 28) [] [])) [(.t 24)], none⟩, ⟨(some 11), .alloc 24 [.nilS], none⟩, ⟨(some 12), .alloc 24 [.nilS], none⟩, ⟨none, .store 1 (.t 11) (.t 23), none⟩, ⟨none, .store 1 (.t 12) (.t 25), none⟩] [])
  (.seq (.reg [⟨(some 26), .mv (.t 2), none⟩, ⟨(some 27), .call (.c (.fn (.func 33) [] [])) [(.t 26), (.c (.v (.int .i64 2001)))], none⟩, ⟨(some 28), .mv (.t 3), none⟩, ⟨(some 29), .call (.c (.fn (.func 33) [] [])) [(.t 28), (.c (.v (.int .i64 2001)))], none⟩, ⟨(some 30), .mv (.t 4), none⟩, ⟨(some 31), .call (.c (.fn (.func 33) [] [])) [(.t 30), (.c (.v (.int .i64 2001)))], none⟩, ⟨(some 2), .mv (.t 27), none⟩, ⟨(some 3), .mv (.t 29), none⟩, ⟨(some 4), .mv (.t 31), none⟩])
  (.seq (.draw [⟨(some 32), .load 1 true (.t 11), none⟩, ⟨(some 33), .mv (.t 2), none⟩, ⟨(some 34), .load 1 true (.t 12), none⟩, ⟨(some 35), .mv (.t 3), none⟩, ⟨(some 36), .call (.c (.fn (.func 54) [] [])) [(.t 32), (.t 33), (.t 34), (.t 35)], none⟩, ⟨(some 37), .load 1 true (.t 12), none⟩, ⟨(some 38), .mv (.t 3), none⟩, ⟨(some 39), .load 1 true (.t 11), none⟩, ⟨(some 40), .mv (.t 2), none⟩, ⟨(some 41), .call (.c (.fn (.func 54) [] [])) [(.t 37), (.t 38), (.t 39), (.t 40)], none⟩, ⟨(some 42), .load 1 true (.t 11), none⟩, ⟨(some 43), .mv (.t 2), none⟩, ⟨(some 44), .mv (.t 4), none⟩, ⟨(some 45), .bin .add (.t 43) (.t 44), none⟩, ⟨(some 46), .load 1 true (.t 12), none⟩, ⟨(some 47), .mv (.t 3), none⟩, ⟨(some 48), .mv (.t 4), none⟩, ⟨(some 49), .bin .add (.t 47) (.t 48), none⟩, ⟨(some 50), .call (.c (.fn (.func 54) [] [])) [(.t 42), (.t 45), (.t 46), (.t 49)], none⟩, ⟨(some 13), .mv (.t 36), none⟩, ⟨(some 14), .mv (.t 41), none⟩, ⟨(some 15), .mv (.t 50), none⟩] [])
  (.seq (.seq (.reg [⟨(some 51), .mv (.t 13), none⟩, ⟨(some 52), .len (.t 51), none⟩, ⟨(some 53), .mv (.t 14), none⟩, ⟨(some 54), .len (.t 53), none⟩, ⟨(some 55), .bin .neq (.t 52) (.t 54), none⟩, ⟨(some 56), .mv (.t 55), none⟩, ⟨(some 57), .mv (.t 15), (some (56, false))⟩, ⟨(some 58), .len (.t 57), (some (56, false))⟩, ⟨(some 59), .mv (.t 13), (some (56, false))⟩, ⟨(some 60), .len (.t 59), (some (56, false))⟩, ⟨(some 61), .bin .lss (.t 58) (.t 60), (some (56, false))⟩, ⟨(some 62), .pick (.t 56) (.c (.v (.bool true))) (.t 61), none⟩, ⟨(some 63), .mv (.t 62), none⟩, ⟨(some 64), .load 1 true (.t 11), (some (63, false))⟩, ⟨(some 65), .call (.c (.fn (.func 22) [] [])) [(.t 64)], (some (63, false))⟩, ⟨(some 66), .bin .eql (.t 65) (.c (.v (.int .i64 0))), (some (63, false))⟩, ⟨(some 67), .pick (.t 63) (.c (.v (.bool true))) (.t 66), none⟩])
  (.cond (.t 67)
    (.seq (.reg [⟨(some 10), .mv (.c (.v (.bool false))), none⟩])
    .ret)
    .skip))
  (.seq (.seq (.reg [⟨(some 16), .mv (.c (.v (.int .i64 0))), none⟩])
  (.block 0
    (.loop
      (.seq (.seq (.reg [⟨(some 68), .mv (.t 16), none⟩, ⟨(some 69), .mv (.t 13), none⟩, ⟨(some 70), .len (.t 69), none⟩, ⟨(some 71), .bin .lss (.t 68) (.t 70), none⟩])
      (.cond (.t 71)
        .skip
        (.exit 0)))
      (.seq (.block 1
        (.seq (.draw [⟨(some 74), .mv (.t 13), none⟩, ⟨(some 75), .mv (.t 16), none⟩, ⟨(some 76), .idxS 4 (.t 74) (.t 75), none⟩, ⟨(some 77), .fieldA 2 (.t 76), none⟩, ⟨(some 78), .load 1 false (.t 77), none⟩, ⟨(some 79), .mv (.t 13), none⟩, ⟨(some 80), .mv (.t 16), none⟩, ⟨(some 81), .idxS 4 (.t 79) (.t 80), none⟩, ⟨(some 82), .fieldA 3 (.t 81), none⟩, ⟨(some 83), .load 1 false (.t 82), none⟩, ⟨(some 84), .mv (.t 13), none⟩, ⟨(some 85), .mv (.t 16), none⟩, ⟨(some 86), .idxS 4 (.t 84) (.t 85), none⟩, ⟨(some 87), .fieldA 0 (.t 86), none⟩, ⟨(some 88), .load 1 false (.t 87), none⟩, ⟨(some 89), .mv (.t 13), none⟩, ⟨(some 90), .mv (.t 16), none⟩, ⟨(some 91), .idxS 4 (.t 89) (.t 90), none⟩, ⟨(some 92), .fieldA 1 (.t 91), none⟩, ⟨(some 93), .load 1 false (.t 92), none⟩, ⟨(some 94), .build [(.v (.int .i64 0)), (.v (.int .i64 0)), (.v (.int .i64 0)), (.v (.int .i64 0))] [(0, 1, (.t 78)), (1, 1, (.t 83)), (2, 1, (.t 88)), (3, 1, (.t 93))], none⟩, ⟨(some 17), .alloc 69 [(.v (.int .i64 0)), (.v (.int .i64 0)), (.v (.int .i64 0)), (.v (.int .i64 0))], none⟩, ⟨none, .store 4 (.t 17) (.t 94), none⟩] [])
        (.seq (.reg [⟨(some 18), .mv (.c (.v (.bool false))), none⟩, ⟨(some 19), .mv (.c (.v (.bool false))), none⟩])
        (.seq (.seq (.reg [⟨(some 20), .mv (.c (.v (.int .i64 0))), none⟩])
        (.block 2
          (.loop
            (.seq (.seq (.reg [⟨(some 95), .mv (.t 20), none⟩, ⟨(some 96), .mv (.t 14), none⟩, ⟨(some 97), .len (.t 96), none⟩, ⟨(some 98), .bin .lss (.t 95) (.t 97), none⟩])
            (.cond (.t 98)
              .skip
              (.exit 2)))
            (.seq (.block 3
              (.draw [⟨(some 101), .mv (.t 18), none⟩, ⟨(some 102), .mv (.t 101), none⟩, ⟨(some 103), .mv (.t 14), (some (102, false))⟩, ⟨(some 104), .mv (.t 20), (some (102, false))⟩, ⟨(some 105), .idxS 4 (.t 103) (.t 104), (some (102, false))⟩, ⟨(some 106), .load 4 true (.t 105), (some (102, false))⟩, ⟨(some 107), .load 4 true (.t 17), (some (102, false))⟩, ⟨(some 108), .eqA false [false, false, false, false] (.t 106) (.t 107), (some (102, false))⟩, ⟨(some 109), .pick (.t 102) (.c (.v (.bool true))) (.t 108), none⟩, ⟨(some 18), .mv (.t 109), none⟩] []))
            (.reg [⟨(some 99), .mv (.t 20), none⟩, ⟨(some 100), .bin .add (.t 99) (.c (.v (.int .i64 1))), none⟩, ⟨(some 20), .mv (.t 100), none⟩]))))))
        (.seq (.seq (.reg [⟨(some 21), .mv (.c (.v (.int .i64 0))), none⟩])
        (.block 4
          (.loop
            (.seq (.seq (.reg [⟨(some 110), .mv (.t 21), none⟩, ⟨(some 111), .mv (.t 15), none⟩, ⟨(some 112), .len (.t 111), none⟩, ⟨(some 113), .bin .lss (.t 110) (.t 112), none⟩])
            (.cond (.t 113)
              .skip
              (.exit 4)))
            (.seq (.block 5
              (.draw [⟨(some 116), .mv (.t 19), none⟩, ⟨(some 117), .mv (.t 116), none⟩, ⟨(some 118), .mv (.t 15), (some (117, false))⟩, ⟨(some 119), .mv (.t 21), (some (117, false))⟩, ⟨(some 120), .idxS 4 (.t 118) (.t 119), (some (117, false))⟩, ⟨(some 121), .fieldA 0 (.t 120), (some (117, false))⟩, ⟨(some 122), .load 1 false (.t 121), (some (117, false))⟩, ⟨(some 123), .mv (.t 13), (some (117, false))⟩, ⟨(some 124), .mv (.t 16), (some (117, false))⟩, ⟨(some 125), .idxS 4 (.t 123) (.t 124), (some (117, false))⟩, ⟨(some 126), .fieldA 0 (.t 125), (some (117, false))⟩, ⟨(some 127), .load 1 false (.t 126), (some (117, false))⟩, ⟨(some 128), .bin .leq (.t 122) (.t 127), (some (117, false))⟩, ⟨(some 129), .mv (.t 128), (some (117, false))⟩, ⟨(some 130), .mv (.t 15), (some (129, true))⟩, ⟨(some 131), .mv (.t 21), (some (129, true))⟩, ⟨(some 132), .idxS 4 (.t 130) (.t 131), (some (129, true))⟩, ⟨(some 133), .fieldA 1 (.t 132), (some (129, true))⟩, ⟨(some 134), .load 1 false (.t 133), (some (129, true))⟩, ⟨(some 135), .mv (.t 13), (some (129, true))⟩, ⟨(some 136), .mv (.t 16), (some (129, true))⟩, ⟨(some 137), .idxS 4 (.t 135) (.t 136), (some (129, true))⟩, ⟨(some 138), .fieldA 1 (.t 137), (some (129, true))⟩, ⟨(some 139), .load 1 false (.t 138), (some (129, true))⟩, ⟨(some 140), .bin .geq (.t 134) (.t 139), (some (129, true))⟩, ⟨(some 141), .pick (.t 129) (.t 140) (.c (.v (.bool false))), (some (117, false))⟩, ⟨(some 142), .mv (.t 141), (some (117, false))⟩, ⟨(some 143), .mv (.t 15), (some (142, true))⟩, ⟨(some 144), .mv (.t 21), (some (142, true))⟩, ⟨(some 145), .idxS 4 (.t 143) (.t 144), (some (142, true))⟩, ⟨(some 146), .fieldA 2 (.t 145), (some (142, true))⟩, ⟨(some 147), .load 1 false (.t 146), (some (142, true))⟩, ⟨(some 148), .mv (.t 13), (some (142, true))⟩, ⟨(some 149), .mv (.t 16), (some (142, true))⟩, ⟨(some 150), .idxS 4 (.t 148) (.t 149), (some (142, true))⟩, ⟨(some 151), .fieldA 2 (.t 150), (some (142, true))⟩, ⟨(some 152), .load 1 false (.t 151), (some (142, true))⟩, ⟨(some 153), .bin .leq (.t 147) (.t 152), (some (142, true))⟩, ⟨(some 154), .pick (.t 142) (.t 153) (.c (.v (.bool false))), (some (117, false))⟩, ⟨(some 155), .mv (.t 154), (some (117, false))⟩, ⟨(some 156), .mv (.t 15), (some (155, true))⟩, ⟨(some 157), .mv (.t 21), (some (155, true))⟩, ⟨(some 158), .idxS 4 (.t 156) (.t 157), (some (155, true))⟩, ⟨(some 159), .fieldA 3 (.t 158), (some (155, true))⟩, ⟨(some 160), .load 1 false (.t 159), (some (155, true))⟩, ⟨(some 161), .mv (.t 13), (some (155, true))⟩, ⟨(some 162), .mv (.t 16), (some (155, true))⟩, ⟨(some 163), .idxS 4 (.t 161) (.t 162), (some (155, true))⟩, ⟨(some 164), .fieldA 3 (.t 163), (some (155, true))⟩, ⟨(some 165), .load 1 false (.t 164), (some (155, true))⟩, ⟨(some 166), .bin .geq (.t 160) (.t 165), (some (155, true))⟩, ⟨(some 167), .pick (.t 155) (.t 166) (.c (.v (.bool false))), (some (117, false))⟩, ⟨(some 168), .pick (.t 117) (.c (.v (.bool true))) (.t 167), none⟩, ⟨(some 19), .mv (.t 168), none⟩] []))
            (.reg [⟨(some 114), .mv (.t 21), none⟩, ⟨(some 115), .bin .add (.t 114) (.c (.v (.int .i64 1))), none⟩, ⟨(some 21), .mv (.t 115), none⟩]))))))
        (.seq (.draw [⟨(some 169), .mv (.t 18), none⟩, ⟨(some 170), .un .not (.t 169), none⟩, ⟨(some 171), .mv (.t 170), none⟩, ⟨(some 172), .mv (.t 19), (some (171, false))⟩, ⟨(some 173), .un .not (.t 172), (some (171, false))⟩, ⟨(some 174), .pick (.t 171) (.c (.v (.bool true))) (.t 173), none⟩, ⟨(some 175), .mv (.t 174), none⟩, ⟨(some 176), .mv (.t 13), (some (175, false))⟩, ⟨(some 177), .mv (.t 16), (some (175, false))⟩, ⟨(some 178), .idxS 4 (.t 176) (.t 177), (some (175, false))⟩, ⟨(some 179), .fieldA 0 (.t 178), (some (175, false))⟩, ⟨(some 180), .load 1 false (.t 179), (some (175, false))⟩, ⟨(some 181), .bin .lss (.t 180) (.c (.v (.int .i64 0))), (some (175, false))⟩, ⟨(some 182), .pick (.t 175) (.c (.v (.bool true))) (.t 181), none⟩, ⟨(some 183), .mv (.t 182), none⟩, ⟨(some 184), .mv (.t 13), (some (183, false))⟩, ⟨(some 185), .mv (.t 16), (some (183, false))⟩, ⟨(some 186), .idxS 4 (.t 184) (.t 185), (some (183, false))⟩, ⟨(some 187), .fieldA 0 (.t 186), (some (183, false))⟩, ⟨(some 188), .load 1 false (.t 187), (some (183, false))⟩, ⟨(some 189), .mv (.t 13), (some (183, false))⟩, ⟨(some 190), .mv (.t 16), (some (183, false))⟩, ⟨(some 191), .idxS 4 (.t 189) (.t 190), (some (183, false))⟩, ⟨(some 192), .fieldA 1 (.t 191), (some (183, false))⟩, ⟨(some 193), .load 1 false (.t 192), (some (183, false))⟩, ⟨(some 194), .bin .geq (.t 188) (.t 193), (some (183, false))⟩, ⟨(some 195), .pick (.t 183) (.c (.v (.bool true))) (.t 194), none⟩, ⟨(some 196), .mv (.t 195), none⟩, ⟨(some 197), .mv (.t 13), (some (196, false))⟩, ⟨(some 198), .mv (.t 16), (some (196, false))⟩, ⟨(some 199), .idxS 4 (.t 197) (.t 198), (some (196, false))⟩, ⟨(some 200), .fieldA 1 (.t 199), (some (196, false))⟩, ⟨(some 201), .load 1 false (.t 200), (some (196, false))⟩, ⟨(some 202), .load 1 true (.t 11), (some (196, false))⟩, ⟨(some 203), .call (.c (.fn (.func 22) [] [])) [(.t 202)], (some (196, false))⟩, ⟨(some 204), .bin .gtr (.t 201) (.t 203), (some (196, false))⟩, ⟨(some 205), .pick (.t 196) (.c (.v (.bool true))) (.t 204), none⟩, ⟨(some 206), .mv (.t 205), none⟩, ⟨(some 207), .mv (.t 13), (some (206, false))⟩, ⟨(some 208), .mv (.t 16), (some (206, false))⟩, ⟨(some 209), .idxS 4 (.t 207) (.t 208), (some (206, false))⟩, ⟨(some 210), .fieldA 3 (.t 209), (some (206, false))⟩, ⟨(some 211), .load 1 false (.t 210), (some (206, false))⟩, ⟨(some 212), .load 1 true (.t 12), (some (206, false))⟩, ⟨(some 213), .call (.c (.fn (.func 22) [] [])) [(.t 212)], (some (206, false))⟩, ⟨(some 214), .bin .gtr (.t 211) (.t 213), (some (206, false))⟩, ⟨(some 215), .pick (.t 206) (.c (.v (.bool true))) (.t 214), none⟩] [])
        (.cond (.t 215)
          (.seq (.reg [⟨(some 10), .mv (.c (.v (.bool false))), none⟩])
          .ret)
          .skip)))))))
      (.reg [⟨(some 72), .mv (.t 16), none⟩, ⟨(some 73), .bin .add (.t 72) (.c (.v (.int .i64 1))), none⟩, ⟨(some 16), .mv (.t 73), none⟩]))))))
  (.seq (.reg [⟨(some 216), .call (.c (.fn (.func 18) [] [])) [], none⟩, ⟨(some 10), .mv (.t 216), none⟩])
  .ret)))))))
theorem fn13 : FnOK Try.prog 13 217 [.t 10] ac13 := ⟨_, _, Try.func13, rfl, Try.ntmps13, by kernel_rfl, ⟨fun _ => allD', by kernel_rfl⟩, by kernel_rfl⟩
theorem law01_CurveCrosses_ok (p1 : KitChain) (p2 : KitChain) (p3 : Int) (p4 : Int) (p5 : Int) (r : Bool) (h : law01_CurveCrosses p1 p2 p3 p4 p5 = some r) : PCall Try.prog 13 [(.agg [(i64 p1.X), (i64 p1.Y), (.list (List.map eInt_i64 p1.Steps))]), (.agg [(i64 p2.X), (i64 p2.Y), (.list (List.map eInt_i64 p2.Steps))]), (i64 p3), (i64 p4), (i64 p5)] (bo r) := by
  refine l_call fn13 (Nat.le_of_ble_eq_true rfl) ?_
  unfold law01_CurveCrosses at h
  unfold ac13
  refine (l_sub (s0 := ⟨T [(0, (.d (.agg [(i64 p1.X), (i64 p1.Y), (.list (List.map eInt_i64 p1.Steps))]))), (1, (.d (.agg [(i64 p2.X), (i64 p2.Y), (.list (List.map eInt_i64 p2.Steps))]))), (2, (.d (i64 p3))), (3, (.d (i64 p4))), (4, (.d (i64 p5)))], G []⟩) (sb_of ⟨.of rfl, .of rfl, .of rfl, .of rfl, .of rfl, trivial⟩ trivial) ?_)
  refine l_seq ?_
  refine l_reg fun u1 hu1 => ?_
  refine s_new (.ptr _ _) (.box _ _) rfl rfl ?_
  refine s_new (.ptr _ _) (.box _ _) rfl rfl ?_
  refine s_val (.d _) rfl rfl ?_
  refine s_nil ?_
  refine l_seq ?_
  refine l_draw rfl fun u2 hu2 => ?_
  refine s_val (.d _) rfl (v_loadG rfl (G_skip rfl G_hit) rfl rfl) ?_
  obtain ⟨v1, hv1, h⟩ := bind_some h
  refine s_call rfl rfl all2_refl (kit_Curve_ok _  _ hv1) (.inl rfl) ?_
  refine s_val (.d _) rfl (v_loadG rfl G_hit rfl rfl) ?_
  obtain ⟨v2, hv2, h⟩ := bind_some h
  refine s_call rfl rfl all2_refl (kit_Curve_ok _  _ hv2) (.inl rfl) ?_
  refine s_new (.ptr _ _) (.box _ _) rfl rfl ?_
  refine s_new (.ptr _ _) (.box _ _) rfl rfl ?_
  refine s_store _ _ _ _ _ rfl rfl rfl (G_skip rfl G_hit) (Nat.le_of_ble_eq_true rfl) _ rfl ?_
  refine s_store _ _ _ _ _ rfl rfl rfl (G_skip rfl G_hit) (Nat.le_of_ble_eq_true rfl) _ rfl ?_
  refine s_nil ?_
  refine l_seq ?_
  refine l_reg fun u3 hu3 => ?_
  refine s_val (.d _) rfl rfl ?_
  obtain ⟨v3, hv3, h⟩ := bind_some h
  refine s_call rfl rfl all2_refl (kit_Mod64_ok _ _  _ hv3) (.inl rfl) ?_
  refine s_val (.d _) rfl rfl ?_
  obtain ⟨v4, hv4, h⟩ := bind_some h
  refine s_call rfl rfl all2_refl (kit_Mod64_ok _ _  _ hv4) (.inl rfl) ?_
  refine s_val (.d _) rfl rfl ?_
  obtain ⟨v5, hv5, h⟩ := bind_some h
  refine s_call rfl rfl all2_refl (kit_Mod64_ok _ _  _ hv5) (.inl rfl) ?_
  refine s_val (.d _) rfl rfl ?_
  refine s_val (.d _) rfl rfl ?_
  refine s_val (.d _) rfl rfl ?_
  refine s_nil ?_
  refine l_seq ?_
  refine l_sub (s0 := ⟨T [(2, (.d (i64 v3))), (3, (.d (i64 v4))), (4, (.d (i64 v5))), (11, (.ptr (11, u2) 0)), (12, (.ptr (12, u2) 0))], G [((11, u2), some (.box 24 [(.d (.list (List.map eSpot v1.Pts)))])), ((12, u2), some (.box 24 [(.d (.list (List.map eSpot v2.Pts)))]))]⟩) (sb_of ⟨.of rfl, .of rfl, .of rfl, .of rfl, .of rfl, trivial⟩ (sbG_some (G_skip rfl G_hit) (.of rfl) (sbG_some G_hit (.of rfl) trivial))) ?_
  refine l_draw rfl fun u4 hu4 => ?_
  refine s_val (.d _) rfl (v_loadG rfl G_hit rfl rfl) ?_
  refine s_val (.d _) rfl rfl ?_
  refine s_val (.d _) rfl (v_loadG rfl (G_skip rfl G_hit) rfl rfl) ?_
  refine s_val (.d _) rfl rfl ?_
  obtain ⟨v6, hv6, h⟩ := bind_some h
  refine s_call rfl rfl all2_refl (curve_Corridors_ok _ _ _ _  _ hv6) (.inl rfl) ?_
  refine s_val (.d _) rfl (v_loadG rfl (G_skip rfl G_hit) rfl rfl) ?_
  refine s_val (.d _) rfl rfl ?_
  refine s_val (.d _) rfl (v_loadG rfl G_hit rfl rfl) ?_
  refine s_val (.d _) rfl rfl ?_
  obtain ⟨v7, hv7, h⟩ := bind_some h
  refine s_call rfl rfl all2_refl (curve_Corridors_ok _ _ _ _  _ hv7) (.inl rfl) ?_
  refine s_val (.d _) rfl (v_loadG rfl G_hit rfl rfl) ?_
  refine s_val (.d _) rfl rfl ?_
  refine s_val (.d _) rfl rfl ?_
  refine s_val (.d _) rfl rfl ?_
  refine s_val (.d _) rfl (v_loadG rfl (G_skip rfl G_hit) rfl rfl) ?_
  refine s_val (.d _) rfl rfl ?_
  refine s_val (.d _) rfl rfl ?_
  refine s_val (.d _) rfl rfl ?_
  obtain ⟨v8, hv8, h⟩ := bind_some h
  refine s_call rfl rfl all2_refl (curve_Corridors_ok _ _ _ _  _ hv8) (.inl rfl) ?_
  refine s_val (.d _) rfl rfl ?_
  refine s_val (.d _) rfl rfl ?_
  refine s_val (.d _) rfl rfl ?_
  refine s_nil ?_
  refine l_seq ?_
  refine l_seq ?_
  refine l_sub (s0 := ⟨T [(11, (.ptr (11, u2) 0)), (12, (.ptr (12, u2) 0)), (13, (.d (.list (List.map eCross v6)))), (14, (.d (.list (List.map eCross v7)))), (15, (.d (.list (List.map eCross v8))))], G [((11, u2), some (.box 24 [(.d (.list (List.map eSpot v1.Pts)))])), ((12, u2), some (.box 24 [(.d (.list (List.map eSpot v2.Pts)))]))]⟩) (sb_of ⟨.of rfl, .of rfl, .of rfl, .of rfl, .of rfl, trivial⟩ (sbG_some G_hit (.of rfl) (sbG_some (G_skip rfl G_hit) (.of rfl) trivial))) ?_
  refine l_reg fun u5 hu5 => ?_
  refine s_val (.d _) rfl rfl ?_
  refine s_val (.d _) rfl (v_len rfl) ?_
  refine s_val (.d _) rfl rfl ?_
  refine s_val (.d _) rfl (v_len rfl) ?_
  refine s_val (.d _) rfl rfl ?_
  refine s_val (.d _) rfl rfl ?_
  refine g_val (!((v6.length : Int) != (v7.length : Int))) (.d _) rfl (gw_f rfl) (fun w1 => rfl) ?_
  refine g_val (!((v6.length : Int) != (v7.length : Int))) (.d _) rfl (gw_f rfl) (fun w2 => (v_len (gd_pos w2))) ?_
  refine g_val (!((v6.length : Int) != (v7.length : Int))) (.d _) rfl (gw_f rfl) (fun w3 => rfl) ?_
  refine g_val (!((v6.length : Int) != (v7.length : Int))) (.d _) rfl (gw_f rfl) (fun w4 => (v_len (gd_pos w4))) ?_
  refine g_val (!((v6.length : Int) != (v7.length : Int))) (.d _) rfl (gw_f rfl) (fun w5 => (v_bin (gd_pos w5) (gd_pos w5) rfl)) ?_
  refine s_val (.d _) rfl (v_or rfl rfl (fun hc => gd_pos (not_t hc))) ?_
  refine s_val (.d _) rfl rfl ?_
  refine g_val (!(((v6.length : Int) != (v7.length : Int)) || (decide ((v8.length : Int) < (v6.length : Int))))) (.d _) rfl (gw_f rfl) (fun w6 => (v_loadG rfl G_hit rfl rfl)) ?_
  obtain ⟨v9, hv9, h⟩ := bind_some h
  refine g_call (!(((v6.length : Int) != (v7.length : Int)) || (decide ((v8.length : Int) < (v6.length : Int))))) (i64 v9) (gw_f rfl) (fun w7 => ⟨_, [(.d (.agg [(.list (List.map eSpot v1.Pts))]))], _, _, (by simp only [gd_pos w7]; rfl), rfl, all2_refl, curve_Length_ok _  _ (cond_t w7 hv9), (.inl rfl)⟩) ?_
  refine g_val (!(((v6.length : Int) != (v7.length : Int)) || (decide ((v8.length : Int) < (v6.length : Int))))) (.d _) rfl (gw_f rfl) (fun w8 => (v_bin (gd_pos w8) rfl rfl)) ?_
  refine s_val (.d _) rfl (v_or rfl rfl (fun hc => gd_pos (not_t hc))) ?_
  refine s_nil ?_
  refine l_cond ((((v6.length : Int) != (v7.length : Int)) || (decide ((v8.length : Int) < (v6.length : Int)))) || (v9 == 0)) rfl (fun c1 => ?_) (fun c1 => ?_)
  · replace h := cond_t c1 h
    refine l_seq ?_
    refine l_sub (s0 := ⟨T [], G []⟩) (sb_of trivial trivial) ?_
    refine l_reg fun u6 hu6 => ?_
    refine s_val (.d _) rfl rfl ?_
    refine s_nil ?_
    refine l_ret ?_
    obtain rfl := Option.some.inj h
    refine fin_ok (.inr rfl) (resD1 (res_t rfl) rf_d) ?_
    exact (.refl _)
  · replace h := cond_f c1 h
    refine l_skip ?_
    refine l_seq ?_
    refine l_seq ?_
    refine l_sub (s0 := ⟨T [(11, (.ptr (11, u2) 0)), (12, (.ptr (12, u2) 0)), (13, (.d (.list (List.map eCross v6)))), (14, (.d (.list (List.map eCross v7)))), (15, (.d (.list (List.map eCross v8))))], G [((11, u2), some (.box 24 [(.d (.list (List.map eSpot v1.Pts)))])), ((12, u2), some (.box 24 [(.d (.list (List.map eSpot v2.Pts)))]))]⟩) (sb_of ⟨.of rfl, .of rfl, .of rfl, .of rfl, .of rfl, trivial⟩ (sbG_some G_hit (.of rfl) (sbG_some (G_skip rfl G_hit) (.of rfl) trivial))) ?_
    refine l_reg fun u7 hu7 => ?_
    refine s_val (.d _) rfl rfl ?_
    refine s_nil ?_
    obtain ⟨z1, hz1, h⟩ := thenS_some h
    refine l_join (fun s => ∃ (y1 : Unit) (g1 : Unit), z1 = .inl y1 ∧ Sb ⟨T [], G []⟩ s) ?_ ?_
    · skip
      refine l_block ?_
      refine l_loop (law01_CurveCrosses_l1 v1 v2 v6 v7 v8) (fun (x1 : Int) (g2 : Unit) => ⟨T [(11, (.ptr (11, u2) 0)), (12, (.ptr (12, u2) 0)), (13, (.d (.list (List.map eCross v6)))), (14, (.d (.list (List.map eCross v7)))), (15, (.d (.list (List.map eCross v8)))), (16, (.d (i64 x1)))], G [((11, u2), some (.box 24 [(.d (.list (List.map eSpot v1.Pts)))])), ((12, u2), some (.box 24 [(.d (.list (List.map eSpot v2.Pts)))]))]⟩) 0 () _ hz1 (sb_of ⟨.of rfl, .of rfl, .of rfl, .of rfl, .of rfl, .of rfl, trivial⟩ (sbG_some G_hit (.of rfl) (sbG_some (G_skip rfl G_hit) (.of rfl) trivial))) ?_
      intro x1 g2 z2 hz2 ez2
      unfold law01_CurveCrosses_l1 at hz2
      refine l_seq ?_
      refine l_seq ?_
      refine l_reg fun u8 hu8 => ?_
      refine s_val (.d _) rfl rfl ?_
      refine s_val (.d _) rfl rfl ?_
      refine s_val (.d _) rfl (v_len rfl) ?_
      refine s_val (.d _) rfl rfl ?_
      refine s_nil ?_
      refine l_cond (decide (x1 < (v6.length : Int))) rfl (fun c2 => ?_) (fun c2 => ?_)
      · replace hz2 := cond_t c2 hz2
        refine l_skip ?_
        refine l_seq ?_
        refine l_block ?_
        refine l_seq ?_
        refine l_draw rfl fun u9 hu9 => ?_
        refine s_val (.d _) rfl rfl ?_
        refine s_val (.d _) rfl rfl ?_
        obtain ⟨v10, hv10, hz2⟩ := bind_some hz2
        refine s_val (.d _) rfl (v_idx rfl rfl hv10 rfl) ?_
        refine s_val (.d _) rfl rfl ?_
        refine s_val (.d _) rfl (v_loadL rfl hv10 rfl) ?_
        refine s_val (.d _) rfl rfl ?_
        refine s_val (.d _) rfl rfl ?_
        obtain ⟨v11, hv11, hz2⟩ := bind_some hz2
        refine s_val (.d _) rfl (v_idx rfl rfl hv11 rfl) ?_
        refine s_val (.d _) rfl rfl ?_
        refine s_val (.d _) rfl (v_loadL rfl hv11 rfl) ?_
        refine s_val (.d _) rfl rfl ?_
        refine s_val (.d _) rfl rfl ?_
        obtain ⟨v12, hv12, hz2⟩ := bind_some hz2
        refine s_val (.d _) rfl (v_idx rfl rfl hv12 rfl) ?_
        refine s_val (.d _) rfl rfl ?_
        refine s_val (.d _) rfl (v_loadL rfl hv12 rfl) ?_
        refine s_val (.d _) rfl rfl ?_
        refine s_val (.d _) rfl rfl ?_
        obtain ⟨v13, hv13, hz2⟩ := bind_some hz2
        refine s_val (.d _) rfl (v_idx rfl rfl hv13 rfl) ?_
        refine s_val (.d _) rfl rfl ?_
        refine s_val (.d _) rfl (v_loadL rfl hv13 rfl) ?_
        refine s_val (.d _) rfl rfl ?_
        refine s_new (.ptr _ _) (.box _ _) rfl rfl ?_
        refine s_store _ _ _ _ _ rfl rfl rfl G_hit (Nat.le_of_ble_eq_true rfl) _ rfl ?_
        refine s_nil ?_
        refine l_seq ?_
        refine l_sub (s0 := ⟨T [(11, (.ptr (11, u2) 0)), (12, (.ptr (12, u2) 0)), (13, (.d (.list (List.map eCross v6)))), (14, (.d (.list (List.map eCross v7)))), (15, (.d (.list (List.map eCross v8)))), (16, (.d (i64 x1))), (17, (.ptr (17, u9) 0))], G [((11, u2), some (.box 24 [(.d (.list (List.map eSpot v1.Pts)))])), ((12, u2), some (.box 24 [(.d (.list (List.map eSpot v2.Pts)))])), ((17, u9), some (.box 69 [(.d (i64 v10.FromB)), (.d (i64 v11.ToB)), (.d (i64 v12.FromA)), (.d (i64 v13.ToA))]))]⟩) (sb_of ⟨.of rfl, .of rfl, .of rfl, .of rfl, .of rfl, .of rfl, .of rfl, trivial⟩ (sbG_some (G_skip rfl (G_skip rfl G_hit)) (.of rfl) (sbG_some (G_skip rfl (G_skip rfl (G_skip rfl G_hit))) (.of rfl) (sbG_some G_hit (.of rfl) trivial)))) ?_
        refine l_reg fun u10 hu10 => ?_
        refine s_val (.d _) rfl rfl ?_
        refine s_val (.d _) rfl rfl ?_
        refine s_nil ?_
        refine l_seq ?_
        refine l_seq ?_
        refine l_reg fun u11 hu11 => ?_
        refine s_val (.d _) rfl rfl ?_
        refine s_nil ?_
        obtain ⟨y2, hy2, hz2⟩ := bind_some hz2
        refine l_join (fun s => ∃ g3 : Unit, Sb ⟨T [(11, (.ptr (11, u2) 0)), (12, (.ptr (12, u2) 0)), (13, (.d (.list (List.map eCross v6)))), (14, (.d (.list (List.map eCross v7)))), (15, (.d (.list (List.map eCross v8)))), (16, (.d (i64 x1))), (18, (.d (bo y2))), (19, (.d (bo false)))], G [((11, u2), some (.box 24 [(.d (.list (List.map eSpot v1.Pts)))])), ((12, u2), some (.box 24 [(.d (.list (List.map eSpot v2.Pts)))]))]⟩ s) ?_ ?_
        · skip
          refine l_block ?_
          refine l_loop (law01_CurveCrosses_l2 v7 v10 v11 v12 v13) (fun (x2 : (Bool × Int)) (g4 : Unit) => ⟨T [(11, (.ptr (11, u2) 0)), (12, (.ptr (12, u2) 0)), (13, (.d (.list (List.map eCross v6)))), (14, (.d (.list (List.map eCross v7)))), (15, (.d (.list (List.map eCross v8)))), (16, (.d (i64 x1))), (17, (.ptr (17, u9) 0)), (18, (.d (bo x2.1))), (19, (.d (bo false))), (20, (.d (i64 x2.2)))], G [((11, u2), some (.box 24 [(.d (.list (List.map eSpot v1.Pts)))])), ((12, u2), some (.box 24 [(.d (.list (List.map eSpot v2.Pts)))])), ((17, u9), some (.box 69 [(.d (i64 v10.FromB)), (.d (i64 v11.ToB)), (.d (i64 v12.FromA)), (.d (i64 v13.ToA))]))]⟩) (false, 0) () _ hy2 (sb_of ⟨.of rfl, .of rfl, .of rfl, .of rfl, .of rfl, .of rfl, .of rfl, .of rfl, .of rfl, .of rfl, trivial⟩ (sbG_some G_hit (.of rfl) (sbG_some (G_skip rfl G_hit) (.of rfl) (sbG_some (G_skip rfl (G_skip rfl G_hit)) (.of rfl) trivial)))) ?_
          intro x2 g4 z3 hz3 ez3
          unfold law01_CurveCrosses_l2 at hz3
          refine l_seq ?_
          refine l_seq ?_
          refine l_reg fun u12 hu12 => ?_
          refine s_val (.d _) rfl rfl ?_
          refine s_val (.d _) rfl rfl ?_
          refine s_val (.d _) rfl (v_len rfl) ?_
          refine s_val (.d _) rfl rfl ?_
          refine s_nil ?_
          refine l_cond (decide (x2.2 < (v7.length : Int))) rfl (fun c3 => ?_) (fun c3 => ?_)
          · replace hz3 := cond_t c3 hz3
            refine l_skip ?_
            refine l_seq ?_
            refine l_block ?_
            refine l_draw rfl fun u13 hu13 => ?_
            refine s_val (.d _) rfl rfl ?_
            refine s_val (.d _) rfl rfl ?_
            refine g_val (!x2.1) (.d _) rfl (gw_f rfl) (fun w9 => rfl) ?_
            refine g_val (!x2.1) (.d _) rfl (gw_f rfl) (fun w10 => rfl) ?_
            obtain ⟨v14, hv14, hz3⟩ := bind_some hz3
            refine g_val (!x2.1) (.d _) rfl (gw_f rfl) (fun w11 => (v_idx (gd_pos w11) (gd_pos w11) (cond_t w11 hv14) rfl)) ?_
            refine g_val (!x2.1) (.d _) rfl (gw_f rfl) (fun w12 => (v_loadLG (gd_pos w12) (cond_t w12 hv14) rfl rfl)) ?_
            refine g_val (!x2.1) (.d _) rfl (gw_f rfl) (fun w13 => (v_loadG rfl (G_skip rfl (G_skip rfl G_hit)) rfl rfl)) ?_
            refine g_val (!x2.1) (.d _) rfl (gw_f rfl) (fun w14 => (by simp only [gd_pos w14]; rfl)) ?_
            refine s_val (.d _) rfl (v_or rfl rfl (fun hc => gd_pos (not_t hc))) ?_
            refine s_val (.d _) rfl rfl ?_
            refine s_nil ?_
            refine l_end ?_
            refine l_sub (s0 := ⟨T [(11, (.ptr (11, u2) 0)), (12, (.ptr (12, u2) 0)), (13, (.d (.list (List.map eCross v6)))), (14, (.d (.list (List.map eCross v7)))), (15, (.d (.list (List.map eCross v8)))), (16, (.d (i64 x1))), (17, (.ptr (17, u9) 0)), (18, (.d (bo (x2.1 || (v14.FromA == v10.FromB && (v14.ToA == v11.ToB && (v14.FromB == v12.FromA && (v14.ToB == v13.ToA && true)))))))), (19, (.d (bo false))), (20, (.d (i64 x2.2))), (103, (gd (!x2.1) true (.d (.list (List.map eCross v7))))), (104, (gd (!x2.1) true (.d (i64 x2.2)))), (105, (gd (!x2.1) true (.d (.lp (List.map eCross v7) (x2.2).toNat 0)))), (106, (gd (!x2.1) true (.d (.agg [(i64 v14.FromA), (i64 v14.ToA), (i64 v14.FromB), (i64 v14.ToB)])))), (107, (gd (!x2.1) true (.d (.agg [(i64 v10.FromB), (i64 v11.ToB), (i64 v12.FromA), (i64 v13.ToA)])))), (108, (gd (!x2.1) true (.d (bo (v14.FromA == v10.FromB && (v14.ToA == v11.ToB && (v14.FromB == v12.FromA && (v14.ToB == v13.ToA && true))))))))], G [((11, u2), some (.box 24 [(.d (.list (List.map eSpot v1.Pts)))])), ((12, u2), some (.box 24 [(.d (.list (List.map eSpot v2.Pts)))])), ((17, u9), some (.box 69 [(.d (i64 v10.FromB)), (.d (i64 v11.ToB)), (.d (i64 v12.FromA)), (.d (i64 v13.ToA))]))]⟩) (sb_of ⟨.of rfl, .of rfl, .of rfl, .of rfl, .of rfl, .of rfl, .of rfl, .of rfl, .of rfl, .of rfl, .of rfl, .of rfl, .of rfl, .of rfl, .of rfl, .of rfl, trivial⟩ (sbG_some G_hit (.of rfl) (sbG_some (G_skip rfl G_hit) (.of rfl) (sbG_some (G_skip rfl (G_skip rfl G_hit)) (.of rfl) trivial)))) ?_
            refine l_reg fun u14 hu14 => ?_
            refine s_val (.d _) rfl rfl ?_
            refine s_val (.d _) rfl rfl ?_
            refine s_val (.d _) rfl rfl ?_
            refine s_nil ?_
            refine l_nil ?_
            obtain rfl := Option.some.inj hz3
            exact ⟨rfl, (), (sb_of ⟨.of rfl, .of rfl, .of rfl, .of rfl, .of rfl, .of rfl, .of rfl, .of rfl, .of rfl, .of rfl, trivial⟩ (sbG_some G_hit (.of rfl) (sbG_some (G_skip rfl G_hit) (.of rfl) (sbG_some (G_skip rfl (G_skip rfl G_hit)) (.of rfl) trivial))))⟩
          · replace hz3 := cond_f c3 hz3
            refine l_exitN rfl ?_
            obtain rfl := Option.some.inj hz3
            obtain rfl := ez3 _ rfl
            refine ⟨nofun, awl_pop rfl (l_j ?_)⟩
            exact ⟨(), (sb_of ⟨.of rfl, .of rfl, .of rfl, .of rfl, .of rfl, .of rfl, .of rfl, .of rfl, trivial⟩ (sbG_some G_hit (.of rfl) (sbG_some (G_skip rfl G_hit) (.of rfl) trivial)))⟩
        · rintro _ ⟨g3, q1⟩
          refine l_sub q1 ?_
          refine l_seq ?_
          refine l_seq ?_
          refine l_reg fun u15 hu15 => ?_
          refine s_val (.d _) rfl rfl ?_
          refine s_nil ?_
          obtain ⟨y3, hy3, hz2⟩ := bind_some hz2
          refine l_join (fun s => ∃ g5 : Unit, Sb ⟨T [(11, (.ptr (11, u2) 0)), (12, (.ptr (12, u2) 0)), (13, (.d (.list (List.map eCross v6)))), (14, (.d (.list (List.map eCross v7)))), (15, (.d (.list (List.map eCross v8)))), (16, (.d (i64 x1))), (18, (.d (bo y2))), (19, (.d (bo y3)))], G [((11, u2), some (.box 24 [(.d (.list (List.map eSpot v1.Pts)))])), ((12, u2), some (.box 24 [(.d (.list (List.map eSpot v2.Pts)))]))]⟩ s) ?_ ?_
          · skip
            refine l_block ?_
            refine l_loop (law01_CurveCrosses_l3 v6 v8 x1) (fun (x3 : (Bool × Int)) (g6 : Unit) => ⟨T [(11, (.ptr (11, u2) 0)), (12, (.ptr (12, u2) 0)), (13, (.d (.list (List.map eCross v6)))), (14, (.d (.list (List.map eCross v7)))), (15, (.d (.list (List.map eCross v8)))), (16, (.d (i64 x1))), (18, (.d (bo y2))), (19, (.d (bo x3.1))), (21, (.d (i64 x3.2)))], G [((11, u2), some (.box 24 [(.d (.list (List.map eSpot v1.Pts)))])), ((12, u2), some (.box 24 [(.d (.list (List.map eSpot v2.Pts)))]))]⟩) (false, 0) () _ hy3 (sb_of ⟨.of rfl, .of rfl, .of rfl, .of rfl, .of rfl, .of rfl, .of rfl, .of rfl, .of rfl, trivial⟩ (sbG_some G_hit (.of rfl) (sbG_some (G_skip rfl G_hit) (.of rfl) trivial))) ?_
            intro x3 g6 z4 hz4 ez4
            unfold law01_CurveCrosses_l3 at hz4
            refine l_seq ?_
            refine l_seq ?_
            refine l_reg fun u16 hu16 => ?_
            refine s_val (.d _) rfl rfl ?_
            refine s_val (.d _) rfl rfl ?_
            refine s_val (.d _) rfl (v_len rfl) ?_
            refine s_val (.d _) rfl rfl ?_
            refine s_nil ?_
            refine l_cond (decide (x3.2 < (v8.length : Int))) rfl (fun c4 => ?_) (fun c4 => ?_)
            · replace hz4 := cond_t c4 hz4
              refine l_skip ?_
              refine l_seq ?_
              refine l_block ?_
              refine l_draw rfl fun u17 hu17 => ?_
              refine s_val (.d _) rfl rfl ?_
              refine s_val (.d _) rfl rfl ?_
              refine g_val (!x3.1) (.d _) rfl (gw_f rfl) (fun w15 => rfl) ?_
              refine g_val (!x3.1) (.d _) rfl (gw_f rfl) (fun w16 => rfl) ?_
              obtain ⟨v15, hv15, hz4⟩ := bind_some hz4
              refine g_val (!x3.1) (.d _) rfl (gw_f rfl) (fun w17 => (v_idx (gd_pos w17) (gd_pos w17) (cond_t w17 hv15) rfl)) ?_
              refine g_val (!x3.1) (.d _) rfl (gw_f rfl) (fun w18 => (by simp only [gd_pos w18]; rfl)) ?_
              refine g_val (!x3.1) (.d _) rfl (gw_f rfl) (fun w19 => (v_loadL (gd_pos w19) (cond_t w19 hv15) rfl)) ?_
              refine g_val (!x3.1) (.d _) rfl (gw_f rfl) (fun w20 => rfl) ?_
              refine g_val (!x3.1) (.d _) rfl (gw_f rfl) (fun w21 => rfl) ?_
              obtain ⟨v16, hv16, hz4⟩ := bind_some hz4
              refine g_val (!x3.1) (.d _) rfl (gw_f rfl) (fun w22 => (v_idx (gd_pos w22) (gd_pos w22) (cond_t w22 hv16) rfl)) ?_
              refine g_val (!x3.1) (.d _) rfl (gw_f rfl) (fun w23 => (by simp only [gd_pos w23]; rfl)) ?_
              refine g_val (!x3.1) (.d _) rfl (gw_f rfl) (fun w24 => (v_loadL (gd_pos w24) (cond_t w24 hv16) rfl)) ?_
              refine g_val (!x3.1) (.d _) rfl (gw_f rfl) (fun w25 => (v_bin (gd_pos w25) (gd_pos w25) rfl)) ?_
              refine g_val (!x3.1) (.d _) rfl (gw_f rfl) (fun w26 => (v_mv (gd_pos w26))) ?_
              refine g_val ((!x3.1) && (decide (v15.FromA ≤ v16.FromA))) (.d _) rfl (gw_gt rfl) (fun w27 => rfl) ?_
              refine g_val ((!x3.1) && (decide (v15.FromA ≤ v16.FromA))) (.d _) rfl (gw_gt rfl) (fun w28 => rfl) ?_
              obtain ⟨v17, hv17, hz4⟩ := bind_some hz4
              refine g_val ((!x3.1) && (decide (v15.FromA ≤ v16.FromA))) (.d _) rfl (gw_gt rfl) (fun w29 => (v_idx (gd_pos w29) (gd_pos w29) (cond_t w29 hv17) rfl)) ?_
              refine g_val ((!x3.1) && (decide (v15.FromA ≤ v16.FromA))) (.d _) rfl (gw_gt rfl) (fun w30 => (by simp only [gd_pos w30]; rfl)) ?_
              refine g_val ((!x3.1) && (decide (v15.FromA ≤ v16.FromA))) (.d _) rfl (gw_gt rfl) (fun w31 => (v_loadL (gd_pos w31) (cond_t w31 hv17) rfl)) ?_
              refine g_val ((!x3.1) && (decide (v15.FromA ≤ v16.FromA))) (.d _) rfl (gw_gt rfl) (fun w32 => rfl) ?_
              refine g_val ((!x3.1) && (decide (v15.FromA ≤ v16.FromA))) (.d _) rfl (gw_gt rfl) (fun w33 => rfl) ?_
              obtain ⟨v18, hv18, hz4⟩ := bind_some hz4
              refine g_val ((!x3.1) && (decide (v15.FromA ≤ v16.FromA))) (.d _) rfl (gw_gt rfl) (fun w34 => (v_idx (gd_pos w34) (gd_pos w34) (cond_t w34 hv18) rfl)) ?_
              refine g_val ((!x3.1) && (decide (v15.FromA ≤ v16.FromA))) (.d _) rfl (gw_gt rfl) (fun w35 => (by simp only [gd_pos w35]; rfl)) ?_
              refine g_val ((!x3.1) && (decide (v15.FromA ≤ v16.FromA))) (.d _) rfl (gw_gt rfl) (fun w36 => (v_loadL (gd_pos w36) (cond_t w36 hv18) rfl)) ?_
              refine g_val ((!x3.1) && (decide (v15.FromA ≤ v16.FromA))) (.d _) rfl (gw_gt rfl) (fun w37 => (v_bin (gd_pos w37) (gd_pos w37) rfl)) ?_
              refine g_val (!x3.1) (.d _) rfl (gw_f rfl) (fun w38 => (v_and (gd_pos w38) (fun hc => gd_pos (and_i w38 hc)) rfl)) ?_
              refine g_val (!x3.1) (.d _) rfl (gw_f rfl) (fun w39 => (v_mv (gd_pos w39))) ?_
              refine g_val ((!x3.1) && ((decide (v15.FromA ≤ v16.FromA)) && (decide (v17.ToA ≥ v18.ToA)))) (.d _) rfl (gw_gt rfl) (fun w40 => rfl) ?_
              refine g_val ((!x3.1) && ((decide (v15.FromA ≤ v16.FromA)) && (decide (v17.ToA ≥ v18.ToA)))) (.d _) rfl (gw_gt rfl) (fun w41 => rfl) ?_
              obtain ⟨v19, hv19, hz4⟩ := bind_some hz4
              refine g_val ((!x3.1) && ((decide (v15.FromA ≤ v16.FromA)) && (decide (v17.ToA ≥ v18.ToA)))) (.d _) rfl (gw_gt rfl) (fun w42 => (v_idx (gd_pos w42) (gd_pos w42) (cond_t w42 hv19) rfl)) ?_
              refine g_val ((!x3.1) && ((decide (v15.FromA ≤ v16.FromA)) && (decide (v17.ToA ≥ v18.ToA)))) (.d _) rfl (gw_gt rfl) (fun w43 => (by simp only [gd_pos w43]; rfl)) ?_
              refine g_val ((!x3.1) && ((decide (v15.FromA ≤ v16.FromA)) && (decide (v17.ToA ≥ v18.ToA)))) (.d _) rfl (gw_gt rfl) (fun w44 => (v_loadL (gd_pos w44) (cond_t w44 hv19) rfl)) ?_
              refine g_val ((!x3.1) && ((decide (v15.FromA ≤ v16.FromA)) && (decide (v17.ToA ≥ v18.ToA)))) (.d _) rfl (gw_gt rfl) (fun w45 => rfl) ?_
              refine g_val ((!x3.1) && ((decide (v15.FromA ≤ v16.FromA)) && (decide (v17.ToA ≥ v18.ToA)))) (.d _) rfl (gw_gt rfl) (fun w46 => rfl) ?_
              obtain ⟨v20, hv20, hz4⟩ := bind_some hz4
              refine g_val ((!x3.1) && ((decide (v15.FromA ≤ v16.FromA)) && (decide (v17.ToA ≥ v18.ToA)))) (.d _) rfl (gw_gt rfl) (fun w47 => (v_idx (gd_pos w47) (gd_pos w47) (cond_t w47 hv20) rfl)) ?_
              refine g_val ((!x3.1) && ((decide (v15.FromA ≤ v16.FromA)) && (decide (v17.ToA ≥ v18.ToA)))) (.d _) rfl (gw_gt rfl) (fun w48 => (by simp only [gd_pos w48]; rfl)) ?_
              refine g_val ((!x3.1) && ((decide (v15.FromA ≤ v16.FromA)) && (decide (v17.ToA ≥ v18.ToA)))) (.d _) rfl (gw_gt rfl) (fun w49 => (v_loadL (gd_pos w49) (cond_t w49 hv20) rfl)) ?_
              refine g_val ((!x3.1) && ((decide (v15.FromA ≤ v16.FromA)) && (decide (v17.ToA ≥ v18.ToA)))) (.d _) rfl (gw_gt rfl) (fun w50 => (v_bin (gd_pos w50) (gd_pos w50) rfl)) ?_
              refine g_val (!x3.1) (.d _) rfl (gw_f rfl) (fun w51 => (v_and (gd_pos w51) (fun hc => gd_pos (and_i w51 hc)) rfl)) ?_
              refine g_val (!x3.1) (.d _) rfl (gw_f rfl) (fun w52 => (v_mv (gd_pos w52))) ?_
              refine g_val ((!x3.1) && (((decide (v15.FromA ≤ v16.FromA)) && (decide (v17.ToA ≥ v18.ToA))) && (decide (v19.FromB ≤ v20.FromB)))) (.d _) rfl (gw_gt rfl) (fun w53 => rfl) ?_
              refine g_val ((!x3.1) && (((decide (v15.FromA ≤ v16.FromA)) && (decide (v17.ToA ≥ v18.ToA))) && (decide (v19.FromB ≤ v20.FromB)))) (.d _) rfl (gw_gt rfl) (fun w54 => rfl) ?_
              obtain ⟨v21, hv21, hz4⟩ := bind_some hz4
              refine g_val ((!x3.1) && (((decide (v15.FromA ≤ v16.FromA)) && (decide (v17.ToA ≥ v18.ToA))) && (decide (v19.FromB ≤ v20.FromB)))) (.d _) rfl (gw_gt rfl) (fun w55 => (v_idx (gd_pos w55) (gd_pos w55) (cond_t w55 hv21) rfl)) ?_
              refine g_val ((!x3.1) && (((decide (v15.FromA ≤ v16.FromA)) && (decide (v17.ToA ≥ v18.ToA))) && (decide (v19.FromB ≤ v20.FromB)))) (.d _) rfl (gw_gt rfl) (fun w56 => (by simp only [gd_pos w56]; rfl)) ?_
              refine g_val ((!x3.1) && (((decide (v15.FromA ≤ v16.FromA)) && (decide (v17.ToA ≥ v18.ToA))) && (decide (v19.FromB ≤ v20.FromB)))) (.d _) rfl (gw_gt rfl) (fun w57 => (v_loadL (gd_pos w57) (cond_t w57 hv21) rfl)) ?_
              refine g_val ((!x3.1) && (((decide (v15.FromA ≤ v16.FromA)) && (decide (v17.ToA ≥ v18.ToA))) && (decide (v19.FromB ≤ v20.FromB)))) (.d _) rfl (gw_gt rfl) (fun w58 => rfl) ?_
              refine g_val ((!x3.1) && (((decide (v15.FromA ≤ v16.FromA)) && (decide (v17.ToA ≥ v18.ToA))) && (decide (v19.FromB ≤ v20.FromB)))) (.d _) rfl (gw_gt rfl) (fun w59 => rfl) ?_
              obtain ⟨v22, hv22, hz4⟩ := bind_some hz4
              refine g_val ((!x3.1) && (((decide (v15.FromA ≤ v16.FromA)) && (decide (v17.ToA ≥ v18.ToA))) && (decide (v19.FromB ≤ v20.FromB)))) (.d _) rfl (gw_gt rfl) (fun w60 => (v_idx (gd_pos w60) (gd_pos w60) (cond_t w60 hv22) rfl)) ?_
              refine g_val ((!x3.1) && (((decide (v15.FromA ≤ v16.FromA)) && (decide (v17.ToA ≥ v18.ToA))) && (decide (v19.FromB ≤ v20.FromB)))) (.d _) rfl (gw_gt rfl) (fun w61 => (by simp only [gd_pos w61]; rfl)) ?_
              refine g_val ((!x3.1) && (((decide (v15.FromA ≤ v16.FromA)) && (decide (v17.ToA ≥ v18.ToA))) && (decide (v19.FromB ≤ v20.FromB)))) (.d _) rfl (gw_gt rfl) (fun w62 => (v_loadL (gd_pos w62) (cond_t w62 hv22) rfl)) ?_
              refine g_val ((!x3.1) && (((decide (v15.FromA ≤ v16.FromA)) && (decide (v17.ToA ≥ v18.ToA))) && (decide (v19.FromB ≤ v20.FromB)))) (.d _) rfl (gw_gt rfl) (fun w63 => (v_bin (gd_pos w63) (gd_pos w63) rfl)) ?_
              refine g_val (!x3.1) (.d _) rfl (gw_f rfl) (fun w64 => (v_and (gd_pos w64) (fun hc => gd_pos (and_i w64 hc)) rfl)) ?_
              refine s_val (.d _) rfl (v_or rfl rfl (fun hc => gd_pos (not_t hc))) ?_
              refine s_val (.d _) rfl rfl ?_
              refine s_nil ?_
              refine l_end ?_
              refine l_sub (s0 := ⟨T [(11, (.ptr (11, u2) 0)), (12, (.ptr (12, u2) 0)), (13, (.d (.list (List.map eCross v6)))), (14, (.d (.list (List.map eCross v7)))), (15, (.d (.list (List.map eCross v8)))), (16, (.d (i64 x1))), (18, (.d (bo y2))), (19, (.d (bo (x3.1 || ((((decide (v15.FromA ≤ v16.FromA)) && (decide (v17.ToA ≥ v18.ToA))) && (decide (v19.FromB ≤ v20.FromB))) && (decide (v21.ToB ≥ v22.ToB))))))), (21, (.d (i64 x3.2))), (118, (gd (!x3.1) true (.d (.list (List.map eCross v8))))), (119, (gd (!x3.1) true (.d (i64 x3.2)))), (120, (gd (!x3.1) true (.d (.lp (List.map eCross v8) (x3.2).toNat 0)))), (121, (gd (!x3.1) true (.d (.lp (List.map eCross v8) (x3.2).toNat 0)))), (122, (gd (!x3.1) true (.d (i64 v15.FromA)))), (123, (gd (!x3.1) true (.d (.list (List.map eCross v6))))), (124, (gd (!x3.1) true (.d (i64 x1)))), (125, (gd (!x3.1) true (.d (.lp (List.map eCross v6) (x1).toNat 0)))), (126, (gd (!x3.1) true (.d (.lp (List.map eCross v6) (x1).toNat 0)))), (127, (gd (!x3.1) true (.d (i64 v16.FromA)))), (128, (gd (!x3.1) true (.d (bo (decide (v15.FromA ≤ v16.FromA)))))), (129, (gd (!x3.1) true (.d (bo (decide (v15.FromA ≤ v16.FromA)))))), (130, (gd ((!x3.1) && (decide (v15.FromA ≤ v16.FromA))) true (.d (.list (List.map eCross v8))))), (131, (gd ((!x3.1) && (decide (v15.FromA ≤ v16.FromA))) true (.d (i64 x3.2)))), (132, (gd ((!x3.1) && (decide (v15.FromA ≤ v16.FromA))) true (.d (.lp (List.map eCross v8) (x3.2).toNat 0)))), (133, (gd ((!x3.1) && (decide (v15.FromA ≤ v16.FromA))) true (.d (.lp (List.map eCross v8) (x3.2).toNat 1)))), (134, (gd ((!x3.1) && (decide (v15.FromA ≤ v16.FromA))) true (.d (i64 v17.ToA)))), (135, (gd ((!x3.1) && (decide (v15.FromA ≤ v16.FromA))) true (.d (.list (List.map eCross v6))))), (136, (gd ((!x3.1) && (decide (v15.FromA ≤ v16.FromA))) true (.d (i64 x1)))), (137, (gd ((!x3.1) && (decide (v15.FromA ≤ v16.FromA))) true (.d (.lp (List.map eCross v6) (x1).toNat 0)))), (138, (gd ((!x3.1) && (decide (v15.FromA ≤ v16.FromA))) true (.d (.lp (List.map eCross v6) (x1).toNat 1)))), (139, (gd ((!x3.1) && (decide (v15.FromA ≤ v16.FromA))) true (.d (i64 v18.ToA)))), (140, (gd ((!x3.1) && (decide (v15.FromA ≤ v16.FromA))) true (.d (bo (decide (v17.ToA ≥ v18.ToA)))))), (141, (gd (!x3.1) true (.d (bo ((decide (v15.FromA ≤ v16.FromA)) && (decide (v17.ToA ≥ v18.ToA))))))), (142, (gd (!x3.1) true (.d (bo ((decide (v15.FromA ≤ v16.FromA)) && (decide (v17.ToA ≥ v18.ToA))))))), (143, (gd ((!x3.1) && ((decide (v15.FromA ≤ v16.FromA)) && (decide (v17.ToA ≥ v18.ToA)))) true (.d (.list (List.map eCross v8))))), (144, (gd ((!x3.1) && ((decide (v15.FromA ≤ v16.FromA)) && (decide (v17.ToA ≥ v18.ToA)))) true (.d (i64 x3.2)))), (145, (gd ((!x3.1) && ((decide (v15.FromA ≤ v16.FromA)) && (decide (v17.ToA ≥ v18.ToA)))) true (.d (.lp (List.map eCross v8) (x3.2).toNat 0)))), (146, (gd ((!x3.1) && ((decide (v15.FromA ≤ v16.FromA)) && (decide (v17.ToA ≥ v18.ToA)))) true (.d (.lp (List.map eCross v8) (x3.2).toNat 2)))), (147, (gd ((!x3.1) && ((decide (v15.FromA ≤ v16.FromA)) && (decide (v17.ToA ≥ v18.ToA)))) true (.d (i64 v19.FromB)))), (148, (gd ((!x3.1) && ((decide (v15.FromA ≤ v16.FromA)) && (decide (v17.ToA ≥ v18.ToA)))) true (.d (.list (List.map eCross v6))))), (149, (gd ((!x3.1) && ((decide (v15.FromA ≤ v16.FromA)) && (decide (v17.ToA ≥ v18.ToA)))) true (.d (i64 x1)))), (150, (gd ((!x3.1) && ((decide (v15.FromA ≤ v16.FromA)) && (decide (v17.ToA ≥ v18.ToA)))) true (.d (.lp (List.map eCross v6) (x1).toNat 0)))), (151, (gd ((!x3.1) && ((decide (v15.FromA ≤ v16.FromA)) && (decide (v17.ToA ≥ v18.ToA)))) true (.d (.lp (List.map eCross v6) (x1).toNat 2)))), (152, (gd ((!x3.1) && ((decide (v15.FromA ≤ v16.FromA)) && (decide (v17.ToA ≥ v18.ToA)))) true (.d (i64 v20.FromB)))), (153, (gd ((!x3.1) && ((decide (v15.FromA ≤ v16.FromA)) && (decide (v17.ToA ≥ v18.ToA)))) true (.d (bo (decide (v19.FromB ≤ v20.FromB)))))), (154, (gd (!x3.1) true (.d (bo (((decide (v15.FromA ≤ v16.FromA)) && (decide (v17.ToA ≥ v18.ToA))) && (decide (v19.FromB ≤ v20.FromB))))))), (155, (gd (!x3.1) true (.d (bo (((decide (v15.FromA ≤ v16.FromA)) && (decide (v17.ToA ≥ v18.ToA))) && (decide (v19.FromB ≤ v20.FromB))))))), (156, (gd ((!x3.1) && (((decide (v15.FromA ≤ v16.FromA)) && (decide (v17.ToA ≥ v18.ToA))) && (decide (v19.FromB ≤ v20.FromB)))) true (.d (.list (List.map eCross v8))))), (157, (gd ((!x3.1) && (((decide (v15.FromA ≤ v16.FromA)) && (decide (v17.ToA ≥ v18.ToA))) && (decide (v19.FromB ≤ v20.FromB)))) true (.d (i64 x3.2)))), (158, (gd ((!x3.1) && (((decide (v15.FromA ≤ v16.FromA)) && (decide (v17.ToA ≥ v18.ToA))) && (decide (v19.FromB ≤ v20.FromB)))) true (.d (.lp (List.map eCross v8) (x3.2).toNat 0)))), (159, (gd ((!x3.1) && (((decide (v15.FromA ≤ v16.FromA)) && (decide (v17.ToA ≥ v18.ToA))) && (decide (v19.FromB ≤ v20.FromB)))) true (.d (.lp (List.map eCross v8) (x3.2).toNat 3)))), (160, (gd ((!x3.1) && (((decide (v15.FromA ≤ v16.FromA)) && (decide (v17.ToA ≥ v18.ToA))) && (decide (v19.FromB ≤ v20.FromB)))) true (.d (i64 v21.ToB)))), (161, (gd ((!x3.1) && (((decide (v15.FromA ≤ v16.FromA)) && (decide (v17.ToA ≥ v18.ToA))) && (decide (v19.FromB ≤ v20.FromB)))) true (.d (.list (List.map eCross v6))))), (162, (gd ((!x3.1) && (((decide (v15.FromA ≤ v16.FromA)) && (decide (v17.ToA ≥ v18.ToA))) && (decide (v19.FromB ≤ v20.FromB)))) true (.d (i64 x1)))), (163, (gd ((!x3.1) && (((decide (v15.FromA ≤ v16.FromA)) && (decide (v17.ToA ≥ v18.ToA))) && (decide (v19.FromB ≤ v20.FromB)))) true (.d (.lp (List.map eCross v6) (x1).toNat 0)))), (164, (gd ((!x3.1) && (((decide (v15.FromA ≤ v16.FromA)) && (decide (v17.ToA ≥ v18.ToA))) && (decide (v19.FromB ≤ v20.FromB)))) true (.d (.lp (List.map eCross v6) (x1).toNat 3)))), (165, (gd ((!x3.1) && (((decide (v15.FromA ≤ v16.FromA)) && (decide (v17.ToA ≥ v18.ToA))) && (decide (v19.FromB ≤ v20.FromB)))) true (.d (i64 v22.ToB)))), (166, (gd ((!x3.1) && (((decide (v15.FromA ≤ v16.FromA)) && (decide (v17.ToA ≥ v18.ToA))) && (decide (v19.FromB ≤ v20.FromB)))) true (.d (bo (decide (v21.ToB ≥ v22.ToB)))))), (167, (gd (!x3.1) true (.d (bo ((((decide (v15.FromA ≤ v16.FromA)) && (decide (v17.ToA ≥ v18.ToA))) && (decide (v19.FromB ≤ v20.FromB))) && (decide (v21.ToB ≥ v22.ToB)))))))], G [((11, u2), some (.box 24 [(.d (.list (List.map eSpot v1.Pts)))])), ((12, u2), some (.box 24 [(.d (.list (List.map eSpot v2.Pts)))]))]⟩) (sb_of ⟨.of rfl, .of rfl, .of rfl, .of rfl, .of rfl, .of rfl, .of rfl, .of rfl, .of rfl, .of rfl, .of rfl, .of rfl, .of rfl, .of rfl, .of rfl, .of rfl, .of rfl, .of rfl, .of rfl, .of rfl, .of rfl, .of rfl, .of rfl, .of rfl, .of rfl, .of rfl, .of rfl, .of rfl, .of rfl, .of rfl, .of rfl, .of rfl, .of rfl, .of rfl, .of rfl, .of rfl, .of rfl, .of rfl, .of rfl, .of rfl, .of rfl, .of rfl, .of rfl, .of rfl, .of rfl, .of rfl, .of rfl, .of rfl, .of rfl, .of rfl, .of rfl, .of rfl, .of rfl, .of rfl, .of rfl, .of rfl, .of rfl, .of rfl, .of rfl, trivial⟩ (sbG_some G_hit (.of rfl) (sbG_some (G_skip rfl G_hit) (.of rfl) trivial))) ?_
              refine l_reg fun u18 hu18 => ?_
              refine s_val (.d _) rfl rfl ?_
              refine s_val (.d _) rfl rfl ?_
              refine s_val (.d _) rfl rfl ?_
              refine s_nil ?_
              refine l_nil ?_
              obtain rfl := Option.some.inj hz4
              exact ⟨rfl, (), (sb_of ⟨.of rfl, .of rfl, .of rfl, .of rfl, .of rfl, .of rfl, .of rfl, .of rfl, .of rfl, trivial⟩ (sbG_some G_hit (.of rfl) (sbG_some (G_skip rfl G_hit) (.of rfl) trivial)))⟩
            · replace hz4 := cond_f c4 hz4
              refine l_exitN rfl ?_
              obtain rfl := Option.some.inj hz4
              obtain rfl := ez4 _ rfl
              refine ⟨nofun, awl_pop rfl (l_j ?_)⟩
              exact ⟨(), (sb_of ⟨.of rfl, .of rfl, .of rfl, .of rfl, .of rfl, .of rfl, .of rfl, .of rfl, trivial⟩ (sbG_some G_hit (.of rfl) (sbG_some (G_skip rfl G_hit) (.of rfl) trivial)))⟩
          · rintro _ ⟨g5, q2⟩
            refine l_sub q2 ?_
            refine l_seq ?_
            refine l_draw rfl fun u19 hu19 => ?_
            refine s_val (.d _) rfl rfl ?_
            refine s_val (.d _) rfl rfl ?_
            refine s_val (.d _) rfl rfl ?_
            refine g_val (!(!y2)) (.d _) rfl (gw_f rfl) (fun w65 => rfl) ?_
            refine g_val (!(!y2)) (.d _) rfl (gw_f rfl) (fun w66 => (by simp only [gd_pos w66]; rfl)) ?_
            refine s_val (.d _) rfl (v_or rfl rfl (fun hc => gd_pos (not_t hc))) ?_
            refine s_val (.d _) rfl rfl ?_
            refine g_val (!((!y2) || (!y3))) (.d _) rfl (gw_f rfl) (fun w67 => rfl) ?_
            refine g_val (!((!y2) || (!y3))) (.d _) rfl (gw_f rfl) (fun w68 => rfl) ?_
            obtain ⟨v23, hv23, hz2⟩ := bind_some hz2
            refine g_val (!((!y2) || (!y3))) (.d _) rfl (gw_f rfl) (fun w69 => (v_idx (gd_pos w69) (gd_pos w69) (cond_t w69 hv23) rfl)) ?_
            refine g_val (!((!y2) || (!y3))) (.d _) rfl (gw_f rfl) (fun w70 => (by simp only [gd_pos w70]; rfl)) ?_
            refine g_val (!((!y2) || (!y3))) (.d _) rfl (gw_f rfl) (fun w71 => (v_loadL (gd_pos w71) (cond_t w71 hv23) rfl)) ?_
            refine g_val (!((!y2) || (!y3))) (.d _) rfl (gw_f rfl) (fun w72 => (v_bin (gd_pos w72) rfl rfl)) ?_
            refine s_val (.d _) rfl (v_or rfl rfl (fun hc => gd_pos (not_t hc))) ?_
            refine s_val (.d _) rfl rfl ?_
            refine g_val (!(((!y2) || (!y3)) || (decide (v23.FromA < 0)))) (.d _) rfl (gw_f rfl) (fun w73 => rfl) ?_
            refine g_val (!(((!y2) || (!y3)) || (decide (v23.FromA < 0)))) (.d _) rfl (gw_f rfl) (fun w74 => rfl) ?_
            obtain ⟨v24, hv24, hz2⟩ := bind_some hz2
            refine g_val (!(((!y2) || (!y3)) || (decide (v23.FromA < 0)))) (.d _) rfl (gw_f rfl) (fun w75 => (v_idx (gd_pos w75) (gd_pos w75) (cond_t w75 hv24) rfl)) ?_
            refine g_val (!(((!y2) || (!y3)) || (decide (v23.FromA < 0)))) (.d _) rfl (gw_f rfl) (fun w76 => (by simp only [gd_pos w76]; rfl)) ?_
            refine g_val (!(((!y2) || (!y3)) || (decide (v23.FromA < 0)))) (.d _) rfl (gw_f rfl) (fun w77 => (v_loadL (gd_pos w77) (cond_t w77 hv24) rfl)) ?_
            refine g_val (!(((!y2) || (!y3)) || (decide (v23.FromA < 0)))) (.d _) rfl (gw_f rfl) (fun w78 => rfl) ?_
            refine g_val (!(((!y2) || (!y3)) || (decide (v23.FromA < 0)))) (.d _) rfl (gw_f rfl) (fun w79 => rfl) ?_
            obtain ⟨v25, hv25, hz2⟩ := bind_some hz2
            refine g_val (!(((!y2) || (!y3)) || (decide (v23.FromA < 0)))) (.d _) rfl (gw_f rfl) (fun w80 => (v_idx (gd_pos w80) (gd_pos w80) (cond_t w80 hv25) rfl)) ?_
            refine g_val (!(((!y2) || (!y3)) || (decide (v23.FromA < 0)))) (.d _) rfl (gw_f rfl) (fun w81 => (by simp only [gd_pos w81]; rfl)) ?_
            refine g_val (!(((!y2) || (!y3)) || (decide (v23.FromA < 0)))) (.d _) rfl (gw_f rfl) (fun w82 => (v_loadL (gd_pos w82) (cond_t w82 hv25) rfl)) ?_
            refine g_val (!(((!y2) || (!y3)) || (decide (v23.FromA < 0)))) (.d _) rfl (gw_f rfl) (fun w83 => (v_bin (gd_pos w83) (gd_pos w83) rfl)) ?_
            refine s_val (.d _) rfl (v_or rfl rfl (fun hc => gd_pos (not_t hc))) ?_
            refine s_val (.d _) rfl rfl ?_
            refine g_val (!((((!y2) || (!y3)) || (decide (v23.FromA < 0))) || (decide (v24.FromA ≥ v25.ToA)))) (.d _) rfl (gw_f rfl) (fun w84 => rfl) ?_
            refine g_val (!((((!y2) || (!y3)) || (decide (v23.FromA < 0))) || (decide (v24.FromA ≥ v25.ToA)))) (.d _) rfl (gw_f rfl) (fun w85 => rfl) ?_
            obtain ⟨v26, hv26, hz2⟩ := bind_some hz2
            refine g_val (!((((!y2) || (!y3)) || (decide (v23.FromA < 0))) || (decide (v24.FromA ≥ v25.ToA)))) (.d _) rfl (gw_f rfl) (fun w86 => (v_idx (gd_pos w86) (gd_pos w86) (cond_t w86 hv26) rfl)) ?_
            refine g_val (!((((!y2) || (!y3)) || (decide (v23.FromA < 0))) || (decide (v24.FromA ≥ v25.ToA)))) (.d _) rfl (gw_f rfl) (fun w87 => (by simp only [gd_pos w87]; rfl)) ?_
            refine g_val (!((((!y2) || (!y3)) || (decide (v23.FromA < 0))) || (decide (v24.FromA ≥ v25.ToA)))) (.d _) rfl (gw_f rfl) (fun w88 => (v_loadL (gd_pos w88) (cond_t w88 hv26) rfl)) ?_
            refine g_val (!((((!y2) || (!y3)) || (decide (v23.FromA < 0))) || (decide (v24.FromA ≥ v25.ToA)))) (.d _) rfl (gw_f rfl) (fun w89 => (v_loadG rfl G_hit rfl rfl)) ?_
            obtain ⟨v27, hv27, hz2⟩ := bind_some hz2
            refine g_call (!((((!y2) || (!y3)) || (decide (v23.FromA < 0))) || (decide (v24.FromA ≥ v25.ToA)))) (i64 v27) (gw_f rfl) (fun w90 => ⟨_, [(.d (.agg [(.list (List.map eSpot v1.Pts))]))], _, _, (by simp only [gd_pos w90]; rfl), rfl, all2_refl, curve_Length_ok _  _ (cond_t w90 hv27), (.inl rfl)⟩) ?_
            refine g_val (!((((!y2) || (!y3)) || (decide (v23.FromA < 0))) || (decide (v24.FromA ≥ v25.ToA)))) (.d _) rfl (gw_f rfl) (fun w91 => (v_bin (gd_pos w91) (gd_pos w91) rfl)) ?_
            refine s_val (.d _) rfl (v_or rfl rfl (fun hc => gd_pos (not_t hc))) ?_
            refine s_val (.d _) rfl rfl ?_
            refine g_val (!(((((!y2) || (!y3)) || (decide (v23.FromA < 0))) || (decide (v24.FromA ≥ v25.ToA))) || (decide (v26.ToA > v27)))) (.d _) rfl (gw_f rfl) (fun w92 => rfl) ?_
            refine g_val (!(((((!y2) || (!y3)) || (decide (v23.FromA < 0))) || (decide (v24.FromA ≥ v25.ToA))) || (decide (v26.ToA > v27)))) (.d _) rfl (gw_f rfl) (fun w93 => rfl) ?_
            obtain ⟨v28, hv28, hz2⟩ := bind_some hz2
            refine g_val (!(((((!y2) || (!y3)) || (decide (v23.FromA < 0))) || (decide (v24.FromA ≥ v25.ToA))) || (decide (v26.ToA > v27)))) (.d _) rfl (gw_f rfl) (fun w94 => (v_idx (gd_pos w94) (gd_pos w94) (cond_t w94 hv28) rfl)) ?_
            refine g_val (!(((((!y2) || (!y3)) || (decide (v23.FromA < 0))) || (decide (v24.FromA ≥ v25.ToA))) || (decide (v26.ToA > v27)))) (.d _) rfl (gw_f rfl) (fun w95 => (by simp only [gd_pos w95]; rfl)) ?_
            refine g_val (!(((((!y2) || (!y3)) || (decide (v23.FromA < 0))) || (decide (v24.FromA ≥ v25.ToA))) || (decide (v26.ToA > v27)))) (.d _) rfl (gw_f rfl) (fun w96 => (v_loadL (gd_pos w96) (cond_t w96 hv28) rfl)) ?_
            refine g_val (!(((((!y2) || (!y3)) || (decide (v23.FromA < 0))) || (decide (v24.FromA ≥ v25.ToA))) || (decide (v26.ToA > v27)))) (.d _) rfl (gw_f rfl) (fun w97 => (v_loadG rfl (G_skip rfl G_hit) rfl rfl)) ?_
            obtain ⟨v29, hv29, hz2⟩ := bind_some hz2
            refine g_call (!(((((!y2) || (!y3)) || (decide (v23.FromA < 0))) || (decide (v24.FromA ≥ v25.ToA))) || (decide (v26.ToA > v27)))) (i64 v29) (gw_f rfl) (fun w98 => ⟨_, [(.d (.agg [(.list (List.map eSpot v2.Pts))]))], _, _, (by simp only [gd_pos w98]; rfl), rfl, all2_refl, curve_Length_ok _  _ (cond_t w98 hv29), (.inl rfl)⟩) ?_
            refine g_val (!(((((!y2) || (!y3)) || (decide (v23.FromA < 0))) || (decide (v24.FromA ≥ v25.ToA))) || (decide (v26.ToA > v27)))) (.d _) rfl (gw_f rfl) (fun w99 => (v_bin (gd_pos w99) (gd_pos w99) rfl)) ?_
            refine s_val (.d _) rfl (v_or rfl rfl (fun hc => gd_pos (not_t hc))) ?_
            refine s_nil ?_
            refine l_cond ((((((!y2) || (!y3)) || (decide (v23.FromA < 0))) || (decide (v24.FromA ≥ v25.ToA))) || (decide (v26.ToA > v27))) || (decide (v28.ToB > v29))) rfl (fun c5 => ?_) (fun c5 => ?_)
            · replace hz2 := cond_t c5 hz2
              refine l_seq ?_
              refine l_sub (s0 := ⟨T [], G []⟩) (sb_of trivial trivial) ?_
              refine l_reg fun u20 hu20 => ?_
              refine s_val (.d _) rfl rfl ?_
              refine s_nil ?_
              refine l_ret ?_
              obtain rfl := Option.some.inj hz2
              obtain rfl := ez2 _ rfl
              refine ⟨nofun, awl_ret ?_⟩
              rw [Sum.elim_inr] at h
              obtain rfl := Option.some.inj h
              refine fin_ok (.inr rfl) (resD1 (res_t rfl) rf_d) ?_
              exact (.refl _)
            · replace hz2 := cond_f c5 hz2
              refine l_skip ?_
              refine l_end ?_
              refine l_sub (s0 := ⟨T [(11, (.ptr (11, u2) 0)), (12, (.ptr (12, u2) 0)), (13, (.d (.list (List.map eCross v6)))), (14, (.d (.list (List.map eCross v7)))), (15, (.d (.list (List.map eCross v8)))), (16, (.d (i64 x1))), (172, (gd (!(!y2)) true (.d (bo y3)))), (173, (gd (!(!y2)) true (.d (bo (!y3))))), (176, (gd (!((!y2) || (!y3))) true (.d (.list (List.map eCross v6))))), (177, (gd (!((!y2) || (!y3))) true (.d (i64 x1)))), (178, (gd (!((!y2) || (!y3))) true (.d (.lp (List.map eCross v6) (x1).toNat 0)))), (179, (gd (!((!y2) || (!y3))) true (.d (.lp (List.map eCross v6) (x1).toNat 0)))), (180, (gd (!((!y2) || (!y3))) true (.d (i64 v23.FromA)))), (181, (gd (!((!y2) || (!y3))) true (.d (bo (decide (v23.FromA < 0)))))), (184, (gd (!(((!y2) || (!y3)) || (decide (v23.FromA < 0)))) true (.d (.list (List.map eCross v6))))), (185, (gd (!(((!y2) || (!y3)) || (decide (v23.FromA < 0)))) true (.d (i64 x1)))), (186, (gd (!(((!y2) || (!y3)) || (decide (v23.FromA < 0)))) true (.d (.lp (List.map eCross v6) (x1).toNat 0)))), (187, (gd (!(((!y2) || (!y3)) || (decide (v23.FromA < 0)))) true (.d (.lp (List.map eCross v6) (x1).toNat 0)))), (188, (gd (!(((!y2) || (!y3)) || (decide (v23.FromA < 0)))) true (.d (i64 v24.FromA)))), (189, (gd (!(((!y2) || (!y3)) || (decide (v23.FromA < 0)))) true (.d (.list (List.map eCross v6))))), (190, (gd (!(((!y2) || (!y3)) || (decide (v23.FromA < 0)))) true (.d (i64 x1)))), (191, (gd (!(((!y2) || (!y3)) || (decide (v23.FromA < 0)))) true (.d (.lp (List.map eCross v6) (x1).toNat 0)))), (192, (gd (!(((!y2) || (!y3)) || (decide (v23.FromA < 0)))) true (.d (.lp (List.map eCross v6) (x1).toNat 1)))), (193, (gd (!(((!y2) || (!y3)) || (decide (v23.FromA < 0)))) true (.d (i64 v25.ToA)))), (194, (gd (!(((!y2) || (!y3)) || (decide (v23.FromA < 0)))) true (.d (bo (decide (v24.FromA ≥ v25.ToA)))))), (197, (gd (!((((!y2) || (!y3)) || (decide (v23.FromA < 0))) || (decide (v24.FromA ≥ v25.ToA)))) true (.d (.list (List.map eCross v6))))), (198, (gd (!((((!y2) || (!y3)) || (decide (v23.FromA < 0))) || (decide (v24.FromA ≥ v25.ToA)))) true (.d (i64 x1)))), (199, (gd (!((((!y2) || (!y3)) || (decide (v23.FromA < 0))) || (decide (v24.FromA ≥ v25.ToA)))) true (.d (.lp (List.map eCross v6) (x1).toNat 0)))), (200, (gd (!((((!y2) || (!y3)) || (decide (v23.FromA < 0))) || (decide (v24.FromA ≥ v25.ToA)))) true (.d (.lp (List.map eCross v6) (x1).toNat 1)))), (201, (gd (!((((!y2) || (!y3)) || (decide (v23.FromA < 0))) || (decide (v24.FromA ≥ v25.ToA)))) true (.d (i64 v26.ToA)))), (202, (gd (!((((!y2) || (!y3)) || (decide (v23.FromA < 0))) || (decide (v24.FromA ≥ v25.ToA)))) true (.d (.agg [(.list (List.map eSpot v1.Pts))])))), (203, (gd (!((((!y2) || (!y3)) || (decide (v23.FromA < 0))) || (decide (v24.FromA ≥ v25.ToA)))) true (.d (i64 v27)))), (204, (gd (!((((!y2) || (!y3)) || (decide (v23.FromA < 0))) || (decide (v24.FromA ≥ v25.ToA)))) true (.d (bo (decide (v26.ToA > v27)))))), (207, (gd (!(((((!y2) || (!y3)) || (decide (v23.FromA < 0))) || (decide (v24.FromA ≥ v25.ToA))) || (decide (v26.ToA > v27)))) true (.d (.list (List.map eCross v6))))), (208, (gd (!(((((!y2) || (!y3)) || (decide (v23.FromA < 0))) || (decide (v24.FromA ≥ v25.ToA))) || (decide (v26.ToA > v27)))) true (.d (i64 x1)))), (209, (gd (!(((((!y2) || (!y3)) || (decide (v23.FromA < 0))) || (decide (v24.FromA ≥ v25.ToA))) || (decide (v26.ToA > v27)))) true (.d (.lp (List.map eCross v6) (x1).toNat 0)))), (210, (gd (!(((((!y2) || (!y3)) || (decide (v23.FromA < 0))) || (decide (v24.FromA ≥ v25.ToA))) || (decide (v26.ToA > v27)))) true (.d (.lp (List.map eCross v6) (x1).toNat 3)))), (211, (gd (!(((((!y2) || (!y3)) || (decide (v23.FromA < 0))) || (decide (v24.FromA ≥ v25.ToA))) || (decide (v26.ToA > v27)))) true (.d (i64 v28.ToB)))), (212, (gd (!(((((!y2) || (!y3)) || (decide (v23.FromA < 0))) || (decide (v24.FromA ≥ v25.ToA))) || (decide (v26.ToA > v27)))) true (.d (.agg [(.list (List.map eSpot v2.Pts))])))), (213, (gd (!(((((!y2) || (!y3)) || (decide (v23.FromA < 0))) || (decide (v24.FromA ≥ v25.ToA))) || (decide (v26.ToA > v27)))) true (.d (i64 v29)))), (214, (gd (!(((((!y2) || (!y3)) || (decide (v23.FromA < 0))) || (decide (v24.FromA ≥ v25.ToA))) || (decide (v26.ToA > v27)))) true (.d (bo (decide (v28.ToB > v29))))))], G [((11, u2), some (.box 24 [(.d (.list (List.map eSpot v1.Pts)))])), ((12, u2), some (.box 24 [(.d (.list (List.map eSpot v2.Pts)))]))]⟩) (sb_of ⟨.of rfl, .of rfl, .of rfl, .of rfl, .of rfl, .of rfl, .of rfl, .of rfl, .of rfl, .of rfl, .of rfl, .of rfl, .of rfl, .of rfl, .of rfl, .of rfl, .of rfl, .of rfl, .of rfl, .of rfl, .of rfl, .of rfl, .of rfl, .of rfl, .of rfl, .of rfl, .of rfl, .of rfl, .of rfl, .of rfl, .of rfl, .of rfl, .of rfl, .of rfl, .of rfl, .of rfl, .of rfl, .of rfl, .of rfl, .of rfl, .of rfl, trivial⟩ (sbG_some G_hit (.of rfl) (sbG_some (G_skip rfl G_hit) (.of rfl) trivial))) ?_
              refine l_reg fun u21 hu21 => ?_
              refine s_val (.d _) rfl rfl ?_
              refine s_val (.d _) rfl rfl ?_
              refine s_val (.d _) rfl rfl ?_
              refine s_nil ?_
              refine l_nil ?_
              obtain rfl := Option.some.inj hz2
              exact ⟨rfl, (), (sb_of ⟨.of rfl, .of rfl, .of rfl, .of rfl, .of rfl, .of rfl, trivial⟩ (sbG_some G_hit (.of rfl) (sbG_some (G_skip rfl G_hit) (.of rfl) trivial)))⟩
      · replace hz2 := cond_f c2 hz2
        refine l_exitN rfl ?_
        obtain rfl := Option.some.inj hz2
        obtain rfl := ez2 _ rfl
        refine ⟨nofun, awl_pop rfl (l_j ?_)⟩
        exact ⟨_, (), rfl, (sb_of trivial trivial)⟩
    · rintro _ ⟨y1, g1, rfl, q3⟩
      rw [Sum.elim_inl] at h
      refine l_sub q3 ?_
      refine l_seq ?_
      refine l_reg fun u22 hu22 => ?_
      obtain ⟨v30, hv30, h⟩ := bind_some h
      refine s_call rfl rfl all2_refl (law01_awake_ok  _ hv30) (.inl rfl) ?_
      refine s_val (.d _) rfl rfl ?_
      refine s_nil ?_
      refine l_ret ?_
      obtain rfl := Option.some.inj h
      refine fin_ok (.inr rfl) (resD1 (res_t rfl) rf_d) ?_
      exact (.refl _)
end Go.Abs.Curve
