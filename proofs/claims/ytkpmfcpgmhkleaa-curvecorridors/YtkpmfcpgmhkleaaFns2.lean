/-
  The functions, part 2.
-/
import Derived.Test.YtkpmfcpgmhkleaaFns1
set_option maxRecDepth 20000
namespace Go.Abs.Curve
open Go Go.Abs Go.Proofs

noncomputable def curve_corridor_span_l2 (p2 : CurveCorridor) (x2 : (Int × Int × CurveCorridor)) : Option (Stp (Int × Int × CurveCorridor) Int) :=
  cond (decide (x2.1 < x2.2.1)) ((curve_corridor_meets (CurveCorridor.mk x2.2.2.piece x2.2.2.half ((w64 ((w64 ((w64 (x2.1 + x2.2.1)) + 1)).tdiv 2)), x2.2.2.ends.2)) p2).bind fun v2 => cond v2 (some (.go ((w64 ((w64 ((w64 (x2.1 + x2.2.1)) + 1)).tdiv 2)), x2.2.1, (CurveCorridor.mk x2.2.2.piece x2.2.2.half ((w64 ((w64 ((w64 (x2.1 + x2.2.1)) + 1)).tdiv 2)), x2.2.2.ends.2))))) (some (.go (x2.1, (w64 ((w64 ((w64 ((w64 (x2.1 + x2.2.1)) + 1)).tdiv 2)) - 1)), (CurveCorridor.mk x2.2.2.piece x2.2.2.half ((w64 ((w64 ((w64 (x2.1 + x2.2.1)) + 1)).tdiv 2)), x2.2.2.ends.2)))))) (some (.out x2.1))
noncomputable def curve_corridor_span_l1 (p2 : CurveCorridor) (x1 : (Int × Int × CurveCorridor)) : Option (Stp (Int × Int × CurveCorridor) Int) :=
  cond (decide (x1.1 < x1.2.1)) ((curve_corridor_meets (CurveCorridor.mk x1.2.2.piece x1.2.2.half (x1.2.2.ends.1, (w64 ((w64 (x1.1 + x1.2.1)).tdiv 2)))) p2).bind fun v1 => cond v1 (some (.go (x1.1, (w64 ((w64 (x1.1 + x1.2.1)).tdiv 2)), (CurveCorridor.mk x1.2.2.piece x1.2.2.half (x1.2.2.ends.1, (w64 ((w64 (x1.1 + x1.2.1)).tdiv 2))))))) (some (.go ((w64 ((w64 ((w64 (x1.1 + x1.2.1)).tdiv 2)) + 1)), x1.2.1, (CurveCorridor.mk x1.2.2.piece x1.2.2.half (x1.2.2.ends.1, (w64 ((w64 (x1.1 + x1.2.1)).tdiv 2)))))))) (some (.out x1.1))
noncomputable def curve_corridor_span (p1 : CurveCorridor) (p2 : CurveCorridor) : Option (Int × Int) :=
  (loop (curve_corridor_span_l1 p2) (0, p1.piece.l, p1)).bind fun y1 => (loop (curve_corridor_span_l2 p2) (0, p1.piece.l, p1)).bind fun y2 => some ((w64 (p1.piece.start + (mm2 true 0 (w64 (y1 - 1))))), (w64 (p1.piece.start + (mm2 false p1.piece.l (w64 (y2 + 1))))))

/-- (kerbstone/curve.corridor).span -/
def ac82 : AC :=
  (.seq (.reg [⟨(some 2), .box 102 true (.t 0), none⟩, ⟨(some 3), .box 102 true (.t 1), none⟩, ⟨(some 4), .mv (.c (.v (.int .i64 0))), none⟩, ⟨(some 5), .mv (.c (.v (.int .i64 0))), none⟩])
  (.seq (.draw [⟨(some 11), .load 9 true (.t 2), none⟩, ⟨(some 12), .load 9 true (.t 2), none⟩, ⟨(some 6), .alloc 102 [(.v (.int .i64 0)), (.v (.int .i64 0)), (.v (.int .i64 0)), (.v (.int .i64 0)), (.v (.int .i64 0)), (.v (.int .i64 0)), (.v (.int .i64 0)), (.v (.int .i64 0)), (.v (.int .i64 0))], none⟩, ⟨(some 7), .alloc 102 [(.v (.int .i64 0)), (.v (.int .i64 0)), (.v (.int .i64 0)), (.v (.int .i64 0)), (.v (.int .i64 0)), (.v (.int .i64 0)), (.v (.int .i64 0)), (.v (.int .i64 0)), (.v (.int .i64 0))], none⟩, ⟨none, .store 9 (.t 6) (.t 11), none⟩, ⟨none, .store 9 (.t 7) (.t 12), none⟩] [(1, 4)])
  (.seq (.draw [⟨(some 13), .fieldA 0 (.t 2), none⟩, ⟨(some 14), .fieldA 4 (.t 13), none⟩, ⟨(some 15), .load 1 false (.t 14), none⟩, ⟨(some 8), .mv (.c (.v (.int .i64 0))), none⟩, ⟨(some 9), .mv (.t 15), none⟩] [])
  (.seq (.block 0
    (.loop
      (.seq (.seq (.reg [⟨(some 16), .mv (.t 8), none⟩, ⟨(some 17), .mv (.t 9), none⟩, ⟨(some 18), .bin .lss (.t 16) (.t 17), none⟩])
      (.cond (.t 18)
        .skip
        (.exit 0)))
      (.block 1
        (.seq (.reg [⟨(some 19), .mv (.t 8), none⟩, ⟨(some 20), .mv (.t 9), none⟩, ⟨(some 21), .bin .add (.t 19) (.t 20), none⟩, ⟨(some 22), .bin .quo (.t 21) (.c (.v (.int .i64 2))), none⟩, ⟨(some 23), .fieldA 7 (.t 6), none⟩, ⟨(some 24), .idxP 2 1 (.t 23) (.c (.v (.int .i64 1))), none⟩, ⟨none, .store 1 (.t 24) (.t 22), none⟩])
        (.seq (.reg [⟨(some 25), .load 9 true (.t 6), none⟩, ⟨(some 26), .load 9 true (.t 3), none⟩, ⟨(some 27), .call (.c (.fn (.func 81) [] [])) [(.t 25), (.t 26)], none⟩])
        (.cond (.t 27)
          (.reg [⟨(some 28), .fieldA 7 (.t 6), none⟩, ⟨(some 29), .idxP 2 1 (.t 28) (.c (.v (.int .i64 1))), none⟩, ⟨(some 30), .load 1 false (.t 29), none⟩, ⟨(some 9), .mv (.t 30), none⟩])
          (.reg [⟨(some 31), .fieldA 7 (.t 6), none⟩, ⟨(some 32), .idxP 2 1 (.t 31) (.c (.v (.int .i64 1))), none⟩, ⟨(some 33), .load 1 false (.t 32), none⟩, ⟨(some 34), .bin .add (.t 33) (.c (.v (.int .i64 1))), none⟩, ⟨(some 8), .mv (.t 34), none⟩]))))))))
  (.seq (.reg [⟨(some 35), .mv (.t 8), none⟩, ⟨(some 10), .mv (.t 35), none⟩])
  (.seq (.draw [⟨(some 36), .fieldA 0 (.t 2), none⟩, ⟨(some 37), .fieldA 4 (.t 36), none⟩, ⟨(some 38), .load 1 false (.t 37), none⟩, ⟨(some 8), .mv (.c (.v (.int .i64 0))), none⟩, ⟨(some 9), .mv (.t 38), none⟩] [])
  (.seq (.block 2
    (.loop
      (.seq (.seq (.reg [⟨(some 39), .mv (.t 8), none⟩, ⟨(some 40), .mv (.t 9), none⟩, ⟨(some 41), .bin .lss (.t 39) (.t 40), none⟩])
      (.cond (.t 41)
        .skip
        (.exit 2)))
      (.block 3
        (.seq (.reg [⟨(some 42), .mv (.t 8), none⟩, ⟨(some 43), .mv (.t 9), none⟩, ⟨(some 44), .bin .add (.t 42) (.t 43), none⟩, ⟨(some 45), .bin .add (.t 44) (.c (.v (.int .i64 1))), none⟩, ⟨(some 46), .bin .quo (.t 45) (.c (.v (.int .i64 2))), none⟩, ⟨(some 47), .fieldA 7 (.t 7), none⟩, ⟨(some 48), .idxP 2 1 (.t 47) (.c (.v (.int .i64 0))), none⟩, ⟨none, .store 1 (.t 48) (.t 46), none⟩])
        (.seq (.reg [⟨(some 49), .load 9 true (.t 7), none⟩, ⟨(some 50), .load 9 true (.t 3), none⟩, ⟨(some 51), .call (.c (.fn (.func 81) [] [])) [(.t 49), (.t 50)], none⟩])
        (.cond (.t 51)
          (.reg [⟨(some 52), .fieldA 7 (.t 7), none⟩, ⟨(some 53), .idxP 2 1 (.t 52) (.c (.v (.int .i64 0))), none⟩, ⟨(some 54), .load 1 false (.t 53), none⟩, ⟨(some 8), .mv (.t 54), none⟩])
          (.reg [⟨(some 55), .fieldA 7 (.t 7), none⟩, ⟨(some 56), .idxP 2 1 (.t 55) (.c (.v (.int .i64 0))), none⟩, ⟨(some 57), .load 1 false (.t 56), none⟩, ⟨(some 58), .bin .sub (.t 57) (.c (.v (.int .i64 1))), none⟩, ⟨(some 9), .mv (.t 58), none⟩]))))))))
  (.seq (.draw [⟨(some 59), .fieldA 0 (.t 2), none⟩, ⟨(some 60), .fieldA 5 (.t 59), none⟩, ⟨(some 61), .load 1 false (.t 60), none⟩, ⟨(some 62), .mv (.t 10), none⟩, ⟨(some 63), .bin .sub (.t 62) (.c (.v (.int .i64 1))), none⟩, ⟨(some 64), .mm true (.c (.v (.int .i64 0))) [(.t 63)], none⟩, ⟨(some 65), .bin .add (.t 61) (.t 64), none⟩, ⟨(some 66), .fieldA 0 (.t 2), none⟩, ⟨(some 67), .fieldA 5 (.t 66), none⟩, ⟨(some 68), .load 1 false (.t 67), none⟩, ⟨(some 69), .fieldA 0 (.t 2), none⟩, ⟨(some 70), .fieldA 4 (.t 69), none⟩, ⟨(some 71), .load 1 false (.t 70), none⟩, ⟨(some 72), .mv (.t 8), none⟩, ⟨(some 73), .bin .add (.t 72) (.c (.v (.int .i64 1))), none⟩, ⟨(some 74), .mm false (.t 71) [(.t 73)], none⟩, ⟨(some 75), .bin .add (.t 68) (.t 74), none⟩, ⟨(some 4), .mv (.t 65), none⟩, ⟨(some 5), .mv (.t 75), none⟩] [])
  .ret))))))))
theorem fn82 : FnOK Try.prog 82 76 [.t 4, .t 5] ac82 := ⟨_, _, Try.func82, rfl, Try.ntmps82, by kernel_rfl, ⟨fun _ => allD', by kernel_rfl⟩, by kernel_rfl⟩
theorem curve_corridor_span_ok (p1 : CurveCorridor) (p2 : CurveCorridor) (r : (Int × Int)) (h : curve_corridor_span p1 p2 = some r) : PCall Try.prog 82 [(.agg [(i64 p1.piece.p.X), (i64 p1.piece.p.Y), (i64 p1.piece.v.x), (i64 p1.piece.v.y), (i64 p1.piece.l), (i64 p1.piece.start), (i64 p1.half), (i64 p1.ends.1), (i64 p1.ends.2)]), (.agg [(i64 p2.piece.p.X), (i64 p2.piece.p.Y), (i64 p2.piece.v.x), (i64 p2.piece.v.y), (i64 p2.piece.l), (i64 p2.piece.start), (i64 p2.half), (i64 p2.ends.1), (i64 p2.ends.2)])] (.tup [(i64 r.1), (i64 r.2)]) := by
  refine l_call fn82 (Nat.le_of_ble_eq_true rfl) ?_
  unfold curve_corridor_span at h
  unfold ac82
  refine (l_sub (s0 := ⟨T [(0, (.d (.agg [(i64 p1.piece.p.X), (i64 p1.piece.p.Y), (i64 p1.piece.v.x), (i64 p1.piece.v.y), (i64 p1.piece.l), (i64 p1.piece.start), (i64 p1.half), (i64 p1.ends.1), (i64 p1.ends.2)]))), (1, (.d (.agg [(i64 p2.piece.p.X), (i64 p2.piece.p.Y), (i64 p2.piece.v.x), (i64 p2.piece.v.y), (i64 p2.piece.l), (i64 p2.piece.start), (i64 p2.half), (i64 p2.ends.1), (i64 p2.ends.2)])))], G []⟩) (sb_of ⟨.of rfl, .of rfl, trivial⟩ trivial) ?_)
  refine l_seq ?_
  refine l_reg fun u1 hu1 => ?_
  refine s_new (.ptr _ _) (.box _ _) rfl rfl ?_
  refine s_new (.ptr _ _) (.box _ _) rfl rfl ?_
  refine s_val (.d _) rfl rfl ?_
  refine s_val (.d _) rfl rfl ?_
  refine s_nil ?_
  refine l_seq ?_
  refine l_drawT fun u2 hu2 => ?_
  refine t_val (.d _) rfl (v_loadG rfl (G_skip rfl G_hit) rfl rfl) ?_
  refine t_val (.d _) rfl (v_loadG rfl (G_skip rfl G_hit) rfl rfl) ?_
  refine t_new (.ptr _ _) (.box _ _) rfl rfl ?_
  refine t_new (.ptr _ _) (.box _ _) rfl rfl ?_
  refine t_store _ _ _ _ _ rfl rfl rfl (G_skip rfl G_hit) (Nat.le_of_ble_eq_true rfl) _ rfl ?_
  refine t_store _ _ _ _ _ rfl rfl rfl (G_skip rfl G_hit) (Nat.le_of_ble_eq_true rfl) _ rfl ?_
  refine t_nil ⟨rfl, ?_⟩
  refine l_seq ?_
  refine l_draw rfl fun u3 hu3 => ?_
  refine s_val (.ptr _ _) rfl rfl ?_
  refine s_val (.ptr _ _) rfl rfl ?_
  refine s_val (.d _) rfl (v_load rfl (G_skip rfl (G_skip rfl (G_skip rfl (G_skip rfl (G_skip rfl G_hit))))) rfl) ?_
  refine s_val (.d _) rfl rfl ?_
  refine s_val (.d _) rfl rfl ?_
  refine s_nil ?_
  refine l_seq ?_
  obtain ⟨y1, hy1, h⟩ := bind_some h
  refine l_join (fun s => ∃ g1 : Unit, Sb ⟨T [(2, (.ptr (2, u1) 0)), (3, (.ptr (3, u1) 0)), (7, (.ptr (7, u2) 0)), (8, (.d (i64 y1)))], G [((2, u1), some (.box 102 [(.d (i64 p1.piece.p.X)), (.d (i64 p1.piece.p.Y)), (.d (i64 p1.piece.v.x)), (.d (i64 p1.piece.v.y)), (.d (i64 p1.piece.l)), (.d (i64 p1.piece.start)), (.d (i64 p1.half)), (.d (i64 p1.ends.1)), (.d (i64 p1.ends.2))])), ((3, u1), some (.box 102 [(.d (i64 p2.piece.p.X)), (.d (i64 p2.piece.p.Y)), (.d (i64 p2.piece.v.x)), (.d (i64 p2.piece.v.y)), (.d (i64 p2.piece.l)), (.d (i64 p2.piece.start)), (.d (i64 p2.half)), (.d (i64 p2.ends.1)), (.d (i64 p2.ends.2))])), ((7, u2), some (.box 102 [(.d (i64 p1.piece.p.X)), (.d (i64 p1.piece.p.Y)), (.d (i64 p1.piece.v.x)), (.d (i64 p1.piece.v.y)), (.d (i64 p1.piece.l)), (.d (i64 p1.piece.start)), (.d (i64 p1.half)), (.d (i64 p1.ends.1)), (.d (i64 p1.ends.2))]))]⟩ s) ?_ ?_
  · skip
    refine l_block ?_
    refine l_loop (curve_corridor_span_l1 p2) (fun (x1 : (Int × Int × CurveCorridor)) (g2 : Unit) => ⟨T [(2, (.ptr (2, u1) 0)), (3, (.ptr (3, u1) 0)), (6, (.ptr (6, u2) 0)), (7, (.ptr (7, u2) 0)), (8, (.d (i64 x1.1))), (9, (.d (i64 x1.2.1)))], G [((2, u1), some (.box 102 [(.d (i64 p1.piece.p.X)), (.d (i64 p1.piece.p.Y)), (.d (i64 p1.piece.v.x)), (.d (i64 p1.piece.v.y)), (.d (i64 p1.piece.l)), (.d (i64 p1.piece.start)), (.d (i64 p1.half)), (.d (i64 p1.ends.1)), (.d (i64 p1.ends.2))])), ((3, u1), some (.box 102 [(.d (i64 p2.piece.p.X)), (.d (i64 p2.piece.p.Y)), (.d (i64 p2.piece.v.x)), (.d (i64 p2.piece.v.y)), (.d (i64 p2.piece.l)), (.d (i64 p2.piece.start)), (.d (i64 p2.half)), (.d (i64 p2.ends.1)), (.d (i64 p2.ends.2))])), ((6, u2), some (.box 102 [(.d (i64 x1.2.2.piece.p.X)), (.d (i64 x1.2.2.piece.p.Y)), (.d (i64 x1.2.2.piece.v.x)), (.d (i64 x1.2.2.piece.v.y)), (.d (i64 x1.2.2.piece.l)), (.d (i64 x1.2.2.piece.start)), (.d (i64 x1.2.2.half)), (.d (i64 x1.2.2.ends.1)), (.d (i64 x1.2.2.ends.2))])), ((7, u2), some (.box 102 [(.d (i64 p1.piece.p.X)), (.d (i64 p1.piece.p.Y)), (.d (i64 p1.piece.v.x)), (.d (i64 p1.piece.v.y)), (.d (i64 p1.piece.l)), (.d (i64 p1.piece.start)), (.d (i64 p1.half)), (.d (i64 p1.ends.1)), (.d (i64 p1.ends.2))]))]⟩) (0, p1.piece.l, p1) () _ hy1 (sb_of ⟨.of rfl, .of rfl, .of rfl, .of rfl, .of rfl, .of rfl, trivial⟩ (sbG_some (G_skip rfl (G_skip rfl (G_skip rfl (G_skip rfl (G_skip rfl G_hit))))) (.of rfl) (sbG_some (G_skip rfl (G_skip rfl (G_skip rfl (G_skip rfl G_hit)))) (.of rfl) (sbG_some (G_skip rfl G_hit) (.of rfl) (sbG_some G_hit (.of rfl) trivial))))) ?_
    intro x1 g2 z1 hz1 ez1
    unfold curve_corridor_span_l1 at hz1
    refine l_seq ?_
    refine l_seq ?_
    refine l_reg fun u4 hu4 => ?_
    refine s_val (.d _) rfl rfl ?_
    refine s_val (.d _) rfl rfl ?_
    refine s_val (.d _) rfl rfl ?_
    refine s_nil ?_
    refine l_cond (decide (x1.1 < x1.2.1)) rfl (fun c1 => ?_) (fun c1 => ?_)
    · replace hz1 := cond_t c1 hz1
      refine l_skip ?_
      refine l_block ?_
      refine l_seq ?_
      refine l_reg fun u5 hu5 => ?_
      refine s_val (.d _) rfl rfl ?_
      refine s_val (.d _) rfl rfl ?_
      refine s_val (.d _) rfl rfl ?_
      refine s_val (.d _) rfl rfl ?_
      refine s_val (.ptr _ _) rfl rfl ?_
      refine s_val (.ptr _ _) rfl rfl ?_
      refine s_store _ _ _ _ _ rfl rfl rfl (G_skip rfl (G_skip rfl G_hit)) (Nat.le_of_ble_eq_true rfl) _ rfl ?_
      refine s_nil ?_
      refine l_seq ?_
      refine l_reg fun u6 hu6 => ?_
      refine s_val (.d _) rfl (v_loadG rfl G_hit rfl rfl) ?_
      refine s_val (.d _) rfl (v_loadG rfl (G_skip rfl (G_skip rfl G_hit)) rfl rfl) ?_
      obtain ⟨v1, hv1, hz1⟩ := bind_some hz1
      refine s_call rfl rfl all2_refl (curve_corridor_meets_ok _ _  _ hv1) (.inl rfl) ?_
      refine s_nil ?_
      refine l_cond v1 rfl (fun c2 => ?_) (fun c2 => ?_)
      · replace hz1 := cond_t c2 hz1
        refine l_sub (s0 := ⟨T [(2, (.ptr (2, u1) 0)), (3, (.ptr (3, u1) 0)), (6, (.ptr (6, u2) 0)), (7, (.ptr (7, u2) 0)), (8, (.d (i64 x1.1)))], G [((2, u1), some (.box 102 [(.d (i64 p1.piece.p.X)), (.d (i64 p1.piece.p.Y)), (.d (i64 p1.piece.v.x)), (.d (i64 p1.piece.v.y)), (.d (i64 p1.piece.l)), (.d (i64 p1.piece.start)), (.d (i64 p1.half)), (.d (i64 p1.ends.1)), (.d (i64 p1.ends.2))])), ((3, u1), some (.box 102 [(.d (i64 p2.piece.p.X)), (.d (i64 p2.piece.p.Y)), (.d (i64 p2.piece.v.x)), (.d (i64 p2.piece.v.y)), (.d (i64 p2.piece.l)), (.d (i64 p2.piece.start)), (.d (i64 p2.half)), (.d (i64 p2.ends.1)), (.d (i64 p2.ends.2))])), ((6, u2), some (.box 102 [(.d (i64 x1.2.2.piece.p.X)), (.d (i64 x1.2.2.piece.p.Y)), (.d (i64 x1.2.2.piece.v.x)), (.d (i64 x1.2.2.piece.v.y)), (.d (i64 x1.2.2.piece.l)), (.d (i64 x1.2.2.piece.start)), (.d (i64 x1.2.2.half)), (.d (i64 x1.2.2.ends.1)), (.d (i64 (w64 ((w64 (x1.1 + x1.2.1)).tdiv 2))))])), ((7, u2), some (.box 102 [(.d (i64 p1.piece.p.X)), (.d (i64 p1.piece.p.Y)), (.d (i64 p1.piece.v.x)), (.d (i64 p1.piece.v.y)), (.d (i64 p1.piece.l)), (.d (i64 p1.piece.start)), (.d (i64 p1.half)), (.d (i64 p1.ends.1)), (.d (i64 p1.ends.2))]))]⟩) (sb_of ⟨.of rfl, .of rfl, .of rfl, .of rfl, .of rfl, trivial⟩ (sbG_some (G_skip rfl G_hit) (.of rfl) (sbG_some (G_skip rfl (G_skip rfl G_hit)) (.of rfl) (sbG_some G_hit (.of rfl) (sbG_some (G_skip rfl (G_skip rfl (G_skip rfl (G_skip rfl G_hit)))) (.of rfl) trivial))))) ?_
        refine l_reg fun u7 hu7 => ?_
        refine s_val (.ptr _ _) rfl rfl ?_
        refine s_val (.ptr _ _) rfl rfl ?_
        refine s_val (.d _) rfl (v_load rfl (G_skip rfl (G_skip rfl G_hit)) rfl) ?_
        refine s_val (.d _) rfl rfl ?_
        refine s_nil ?_
        refine l_end ?_
        refine l_nil ?_
        obtain rfl := Option.some.inj hz1
        exact ⟨rfl, (), (sb_of ⟨.of rfl, .of rfl, .of rfl, .of rfl, .of rfl, .of rfl, trivial⟩ (sbG_some G_hit (.of rfl) (sbG_some (G_skip rfl G_hit) (.of rfl) (sbG_some (G_skip rfl (G_skip rfl G_hit)) (.of rfl) (sbG_some (G_skip rfl (G_skip rfl (G_skip rfl G_hit))) (.of rfl) trivial)))))⟩
      · replace hz1 := cond_f c2 hz1
        refine l_sub (s0 := ⟨T [(2, (.ptr (2, u1) 0)), (3, (.ptr (3, u1) 0)), (6, (.ptr (6, u2) 0)), (7, (.ptr (7, u2) 0)), (9, (.d (i64 x1.2.1)))], G [((2, u1), some (.box 102 [(.d (i64 p1.piece.p.X)), (.d (i64 p1.piece.p.Y)), (.d (i64 p1.piece.v.x)), (.d (i64 p1.piece.v.y)), (.d (i64 p1.piece.l)), (.d (i64 p1.piece.start)), (.d (i64 p1.half)), (.d (i64 p1.ends.1)), (.d (i64 p1.ends.2))])), ((3, u1), some (.box 102 [(.d (i64 p2.piece.p.X)), (.d (i64 p2.piece.p.Y)), (.d (i64 p2.piece.v.x)), (.d (i64 p2.piece.v.y)), (.d (i64 p2.piece.l)), (.d (i64 p2.piece.start)), (.d (i64 p2.half)), (.d (i64 p2.ends.1)), (.d (i64 p2.ends.2))])), ((6, u2), some (.box 102 [(.d (i64 x1.2.2.piece.p.X)), (.d (i64 x1.2.2.piece.p.Y)), (.d (i64 x1.2.2.piece.v.x)), (.d (i64 x1.2.2.piece.v.y)), (.d (i64 x1.2.2.piece.l)), (.d (i64 x1.2.2.piece.start)), (.d (i64 x1.2.2.half)), (.d (i64 x1.2.2.ends.1)), (.d (i64 (w64 ((w64 (x1.1 + x1.2.1)).tdiv 2))))])), ((7, u2), some (.box 102 [(.d (i64 p1.piece.p.X)), (.d (i64 p1.piece.p.Y)), (.d (i64 p1.piece.v.x)), (.d (i64 p1.piece.v.y)), (.d (i64 p1.piece.l)), (.d (i64 p1.piece.start)), (.d (i64 p1.half)), (.d (i64 p1.ends.1)), (.d (i64 p1.ends.2))]))]⟩) (sb_of ⟨.of rfl, .of rfl, .of rfl, .of rfl, .of rfl, trivial⟩ (sbG_some (G_skip rfl G_hit) (.of rfl) (sbG_some (G_skip rfl (G_skip rfl G_hit)) (.of rfl) (sbG_some G_hit (.of rfl) (sbG_some (G_skip rfl (G_skip rfl (G_skip rfl (G_skip rfl G_hit)))) (.of rfl) trivial))))) ?_
        refine l_reg fun u8 hu8 => ?_
        refine s_val (.ptr _ _) rfl rfl ?_
        refine s_val (.ptr _ _) rfl rfl ?_
        refine s_val (.d _) rfl (v_load rfl (G_skip rfl (G_skip rfl G_hit)) rfl) ?_
        refine s_val (.d _) rfl rfl ?_
        refine s_val (.d _) rfl rfl ?_
        refine s_nil ?_
        refine l_end ?_
        refine l_nil ?_
        obtain rfl := Option.some.inj hz1
        exact ⟨rfl, (), (sb_of ⟨.of rfl, .of rfl, .of rfl, .of rfl, .of rfl, .of rfl, trivial⟩ (sbG_some G_hit (.of rfl) (sbG_some (G_skip rfl G_hit) (.of rfl) (sbG_some (G_skip rfl (G_skip rfl G_hit)) (.of rfl) (sbG_some (G_skip rfl (G_skip rfl (G_skip rfl G_hit))) (.of rfl) trivial)))))⟩
    · replace hz1 := cond_f c1 hz1
      refine l_exitN rfl ?_
      obtain rfl := Option.some.inj hz1
      obtain rfl := ez1 _ rfl
      refine ⟨nofun, awl_pop rfl (l_j ?_)⟩
      exact ⟨(), (sb_of ⟨.of rfl, .of rfl, .of rfl, .of rfl, trivial⟩ (sbG_some G_hit (.of rfl) (sbG_some (G_skip rfl G_hit) (.of rfl) (sbG_some (G_skip rfl (G_skip rfl (G_skip rfl G_hit))) (.of rfl) trivial))))⟩
  · rintro _ ⟨g1, q1⟩
    refine l_sub q1 ?_
    refine l_seq ?_
    refine l_reg fun u9 hu9 => ?_
    refine s_val (.d _) rfl rfl ?_
    refine s_val (.d _) rfl rfl ?_
    refine s_nil ?_
    refine l_seq ?_
    refine l_draw rfl fun u10 hu10 => ?_
    refine s_val (.ptr _ _) rfl rfl ?_
    refine s_val (.ptr _ _) rfl rfl ?_
    refine s_val (.d _) rfl (v_load rfl G_hit rfl) ?_
    refine s_val (.d _) rfl rfl ?_
    refine s_val (.d _) rfl rfl ?_
    refine s_nil ?_
    refine l_seq ?_
    obtain ⟨y2, hy2, h⟩ := bind_some h
    refine l_join (fun s => ∃ g3 : Unit, Sb ⟨T [(2, (.ptr (2, u1) 0)), (8, (.d (i64 y2))), (10, (.d (i64 y1)))], G [((2, u1), some (.box 102 [(.d (i64 p1.piece.p.X)), (.d (i64 p1.piece.p.Y)), (.d (i64 p1.piece.v.x)), (.d (i64 p1.piece.v.y)), (.d (i64 p1.piece.l)), (.d (i64 p1.piece.start)), (.d (i64 p1.half)), (.d (i64 p1.ends.1)), (.d (i64 p1.ends.2))]))]⟩ s) ?_ ?_
    · skip
      refine l_block ?_
      refine l_loop (curve_corridor_span_l2 p2) (fun (x2 : (Int × Int × CurveCorridor)) (g4 : Unit) => ⟨T [(2, (.ptr (2, u1) 0)), (3, (.ptr (3, u1) 0)), (7, (.ptr (7, u2) 0)), (8, (.d (i64 x2.1))), (9, (.d (i64 x2.2.1))), (10, (.d (i64 y1)))], G [((2, u1), some (.box 102 [(.d (i64 p1.piece.p.X)), (.d (i64 p1.piece.p.Y)), (.d (i64 p1.piece.v.x)), (.d (i64 p1.piece.v.y)), (.d (i64 p1.piece.l)), (.d (i64 p1.piece.start)), (.d (i64 p1.half)), (.d (i64 p1.ends.1)), (.d (i64 p1.ends.2))])), ((3, u1), some (.box 102 [(.d (i64 p2.piece.p.X)), (.d (i64 p2.piece.p.Y)), (.d (i64 p2.piece.v.x)), (.d (i64 p2.piece.v.y)), (.d (i64 p2.piece.l)), (.d (i64 p2.piece.start)), (.d (i64 p2.half)), (.d (i64 p2.ends.1)), (.d (i64 p2.ends.2))])), ((7, u2), some (.box 102 [(.d (i64 x2.2.2.piece.p.X)), (.d (i64 x2.2.2.piece.p.Y)), (.d (i64 x2.2.2.piece.v.x)), (.d (i64 x2.2.2.piece.v.y)), (.d (i64 x2.2.2.piece.l)), (.d (i64 x2.2.2.piece.start)), (.d (i64 x2.2.2.half)), (.d (i64 x2.2.2.ends.1)), (.d (i64 x2.2.2.ends.2))]))]⟩) (0, p1.piece.l, p1) () _ hy2 (sb_of ⟨.of rfl, .of rfl, .of rfl, .of rfl, .of rfl, .of rfl, trivial⟩ (sbG_some G_hit (.of rfl) (sbG_some (G_skip rfl G_hit) (.of rfl) (sbG_some (G_skip rfl (G_skip rfl G_hit)) (.of rfl) trivial)))) ?_
      intro x2 g4 z2 hz2 ez2
      unfold curve_corridor_span_l2 at hz2
      refine l_seq ?_
      refine l_seq ?_
      refine l_reg fun u11 hu11 => ?_
      refine s_val (.d _) rfl rfl ?_
      refine s_val (.d _) rfl rfl ?_
      refine s_val (.d _) rfl rfl ?_
      refine s_nil ?_
      refine l_cond (decide (x2.1 < x2.2.1)) rfl (fun c3 => ?_) (fun c3 => ?_)
      · replace hz2 := cond_t c3 hz2
        refine l_skip ?_
        refine l_block ?_
        refine l_seq ?_
        refine l_reg fun u12 hu12 => ?_
        refine s_val (.d _) rfl rfl ?_
        refine s_val (.d _) rfl rfl ?_
        refine s_val (.d _) rfl rfl ?_
        refine s_val (.d _) rfl rfl ?_
        refine s_val (.d _) rfl rfl ?_
        refine s_val (.ptr _ _) rfl rfl ?_
        refine s_val (.ptr _ _) rfl rfl ?_
        refine s_store _ _ _ _ _ rfl rfl rfl (G_skip rfl (G_skip rfl G_hit)) (Nat.le_of_ble_eq_true rfl) _ rfl ?_
        refine s_nil ?_
        refine l_seq ?_
        refine l_reg fun u13 hu13 => ?_
        refine s_val (.d _) rfl (v_loadG rfl G_hit rfl rfl) ?_
        refine s_val (.d _) rfl (v_loadG rfl (G_skip rfl (G_skip rfl G_hit)) rfl rfl) ?_
        obtain ⟨v2, hv2, hz2⟩ := bind_some hz2
        refine s_call rfl rfl all2_refl (curve_corridor_meets_ok _ _  _ hv2) (.inl rfl) ?_
        refine s_nil ?_
        refine l_cond v2 rfl (fun c4 => ?_) (fun c4 => ?_)
        · replace hz2 := cond_t c4 hz2
          refine l_sub (s0 := ⟨T [(2, (.ptr (2, u1) 0)), (3, (.ptr (3, u1) 0)), (7, (.ptr (7, u2) 0)), (9, (.d (i64 x2.2.1))), (10, (.d (i64 y1)))], G [((2, u1), some (.box 102 [(.d (i64 p1.piece.p.X)), (.d (i64 p1.piece.p.Y)), (.d (i64 p1.piece.v.x)), (.d (i64 p1.piece.v.y)), (.d (i64 p1.piece.l)), (.d (i64 p1.piece.start)), (.d (i64 p1.half)), (.d (i64 p1.ends.1)), (.d (i64 p1.ends.2))])), ((3, u1), some (.box 102 [(.d (i64 p2.piece.p.X)), (.d (i64 p2.piece.p.Y)), (.d (i64 p2.piece.v.x)), (.d (i64 p2.piece.v.y)), (.d (i64 p2.piece.l)), (.d (i64 p2.piece.start)), (.d (i64 p2.half)), (.d (i64 p2.ends.1)), (.d (i64 p2.ends.2))])), ((7, u2), some (.box 102 [(.d (i64 x2.2.2.piece.p.X)), (.d (i64 x2.2.2.piece.p.Y)), (.d (i64 x2.2.2.piece.v.x)), (.d (i64 x2.2.2.piece.v.y)), (.d (i64 x2.2.2.piece.l)), (.d (i64 x2.2.2.piece.start)), (.d (i64 x2.2.2.half)), (.d (i64 (w64 ((w64 ((w64 (x2.1 + x2.2.1)) + 1)).tdiv 2)))), (.d (i64 x2.2.2.ends.2))]))]⟩) (sb_of ⟨.of rfl, .of rfl, .of rfl, .of rfl, .of rfl, trivial⟩ (sbG_some (G_skip rfl G_hit) (.of rfl) (sbG_some (G_skip rfl (G_skip rfl G_hit)) (.of rfl) (sbG_some G_hit (.of rfl) trivial)))) ?_
          refine l_reg fun u14 hu14 => ?_
          refine s_val (.ptr _ _) rfl rfl ?_
          refine s_val (.ptr _ _) rfl rfl ?_
          refine s_val (.d _) rfl (v_load rfl (G_skip rfl (G_skip rfl G_hit)) rfl) ?_
          refine s_val (.d _) rfl rfl ?_
          refine s_nil ?_
          refine l_end ?_
          refine l_nil ?_
          obtain rfl := Option.some.inj hz2
          exact ⟨rfl, (), (sb_of ⟨.of rfl, .of rfl, .of rfl, .of rfl, .of rfl, .of rfl, trivial⟩ (sbG_some G_hit (.of rfl) (sbG_some (G_skip rfl G_hit) (.of rfl) (sbG_some (G_skip rfl (G_skip rfl G_hit)) (.of rfl) trivial))))⟩
        · replace hz2 := cond_f c4 hz2
          refine l_sub (s0 := ⟨T [(2, (.ptr (2, u1) 0)), (3, (.ptr (3, u1) 0)), (7, (.ptr (7, u2) 0)), (8, (.d (i64 x2.1))), (10, (.d (i64 y1)))], G [((2, u1), some (.box 102 [(.d (i64 p1.piece.p.X)), (.d (i64 p1.piece.p.Y)), (.d (i64 p1.piece.v.x)), (.d (i64 p1.piece.v.y)), (.d (i64 p1.piece.l)), (.d (i64 p1.piece.start)), (.d (i64 p1.half)), (.d (i64 p1.ends.1)), (.d (i64 p1.ends.2))])), ((3, u1), some (.box 102 [(.d (i64 p2.piece.p.X)), (.d (i64 p2.piece.p.Y)), (.d (i64 p2.piece.v.x)), (.d (i64 p2.piece.v.y)), (.d (i64 p2.piece.l)), (.d (i64 p2.piece.start)), (.d (i64 p2.half)), (.d (i64 p2.ends.1)), (.d (i64 p2.ends.2))])), ((7, u2), some (.box 102 [(.d (i64 x2.2.2.piece.p.X)), (.d (i64 x2.2.2.piece.p.Y)), (.d (i64 x2.2.2.piece.v.x)), (.d (i64 x2.2.2.piece.v.y)), (.d (i64 x2.2.2.piece.l)), (.d (i64 x2.2.2.piece.start)), (.d (i64 x2.2.2.half)), (.d (i64 (w64 ((w64 ((w64 (x2.1 + x2.2.1)) + 1)).tdiv 2)))), (.d (i64 x2.2.2.ends.2))]))]⟩) (sb_of ⟨.of rfl, .of rfl, .of rfl, .of rfl, .of rfl, trivial⟩ (sbG_some (G_skip rfl G_hit) (.of rfl) (sbG_some (G_skip rfl (G_skip rfl G_hit)) (.of rfl) (sbG_some G_hit (.of rfl) trivial)))) ?_
          refine l_reg fun u15 hu15 => ?_
          refine s_val (.ptr _ _) rfl rfl ?_
          refine s_val (.ptr _ _) rfl rfl ?_
          refine s_val (.d _) rfl (v_load rfl (G_skip rfl (G_skip rfl G_hit)) rfl) ?_
          refine s_val (.d _) rfl rfl ?_
          refine s_val (.d _) rfl rfl ?_
          refine s_nil ?_
          refine l_end ?_
          refine l_nil ?_
          obtain rfl := Option.some.inj hz2
          exact ⟨rfl, (), (sb_of ⟨.of rfl, .of rfl, .of rfl, .of rfl, .of rfl, .of rfl, trivial⟩ (sbG_some G_hit (.of rfl) (sbG_some (G_skip rfl G_hit) (.of rfl) (sbG_some (G_skip rfl (G_skip rfl G_hit)) (.of rfl) trivial))))⟩
      · replace hz2 := cond_f c3 hz2
        refine l_exitN rfl ?_
        obtain rfl := Option.some.inj hz2
        obtain rfl := ez2 _ rfl
        refine ⟨nofun, awl_pop rfl (l_j ?_)⟩
        exact ⟨(), (sb_of ⟨.of rfl, .of rfl, .of rfl, trivial⟩ (sbG_some G_hit (.of rfl) trivial))⟩
    · rintro _ ⟨g3, q2⟩
      refine l_sub q2 ?_
      refine l_seq ?_
      refine l_draw rfl fun u16 hu16 => ?_
      refine s_val (.ptr _ _) rfl rfl ?_
      refine s_val (.ptr _ _) rfl rfl ?_
      refine s_val (.d _) rfl (v_load rfl G_hit rfl) ?_
      refine s_val (.d _) rfl rfl ?_
      refine s_val (.d _) rfl rfl ?_
      refine s_val (.d _) rfl rfl ?_
      refine s_val (.d _) rfl rfl ?_
      refine s_val (.ptr _ _) rfl rfl ?_
      refine s_val (.ptr _ _) rfl rfl ?_
      refine s_val (.d _) rfl (v_load rfl G_hit rfl) ?_
      refine s_val (.ptr _ _) rfl rfl ?_
      refine s_val (.ptr _ _) rfl rfl ?_
      refine s_val (.d _) rfl (v_load rfl G_hit rfl) ?_
      refine s_val (.d _) rfl rfl ?_
      refine s_val (.d _) rfl rfl ?_
      refine s_val (.d _) rfl rfl ?_
      refine s_val (.d _) rfl rfl ?_
      refine s_val (.d _) rfl rfl ?_
      refine s_val (.d _) rfl rfl ?_
      refine s_nil ?_
      refine l_ret ?_
      obtain rfl := Option.some.inj h
      refine fin_ok (.inr rfl) (resD2 (res_t rfl) (res_t rfl) rf_d rf_d) ?_
      exact .refl _

noncomputable def curve_Corridors_l2 (p2 : Int) (p4 : Int) (a1 : (Int × CurvePiece)) (x2 : (List Cross)) (a2 : (Int × CurvePiece)) : Option (Stp (List Cross) (List Cross)) :=
  (curve_corridor_meets (CurveCorridor.mk a1.2 p2 (0, a1.2.l)) (CurveCorridor.mk a2.2 p4 (0, a2.2.l))).bind fun v5 => cond (!v5) (some (.go x2)) ((curve_corridor_span (CurveCorridor.mk a1.2 p2 (0, a1.2.l)) (CurveCorridor.mk a2.2 p4 (0, a2.2.l))).bind fun v6 => (curve_corridor_span (CurveCorridor.mk a2.2 p4 (0, a2.2.l)) (CurveCorridor.mk a1.2 p2 (0, a1.2.l))).bind fun v7 => (appc x2 [(Cross.mk v6.1 v6.2 v7.1 v7.2)]).bind fun v8 => some (.go v8))
noncomputable def curve_Corridors_l1 (p2 : Int) (p3 : Curve) (p4 : Int) (x1 : (List Cross)) (a1 : (Int × CurvePiece)) : Option (Stp (List Cross) (List Cross)) :=
  ((piecesC p3.Pts).bind fun v4 => loopL (curve_Corridors_l2 p2 p4 a1) (fun (x2 : (List Cross)) => x2) v4 x1).bind fun y2 => some (.go y2)
noncomputable def curve_Corridors (p1 : Curve) (p2 : Int) (p3 : Curve) (p4 : Int) : Option (List Cross) :=
  (curve_Check p1).bind fun v1 => ((cond (!(v1 != 0)) (curve_Check p3) (some default))).bind fun v2 => cond ((((v1 != 0) || (v2 != 0)) || (decide ((mm2 false p2 p4) < 0))) || (decide ((mm2 true p2 p4) > 4000))) (some []) (((piecesC p1.Pts).bind fun v3 => loopL (curve_Corridors_l1 p2 p3 p4) (fun (x1 : (List Cross)) => x1) v3 []).bind fun y1 => some y1)

/-- kerbstone/curve.Corridors -/
def ac54 : AC :=
  (.seq (.reg [⟨(some 4), .box 24 true (.t 0), none⟩, ⟨(some 5), .box 2 false (.t 1), none⟩, ⟨(some 6), .box 24 true (.t 2), none⟩, ⟨(some 7), .box 2 false (.t 3), none⟩, ⟨(some 8), .mv (.c .nilS), none⟩])
  (.seq (.seq (.reg [⟨(some 17), .load 1 true (.t 4), none⟩, ⟨(some 18), .call (.c (.fn (.func 20) [] [])) [(.t 17)], none⟩, ⟨(some 19), .bin .neq (.t 18) (.c (.v (.int .i64 0))), none⟩, ⟨(some 20), .mv (.t 19), none⟩, ⟨(some 21), .load 1 true (.t 6), (some (20, false))⟩, ⟨(some 22), .call (.c (.fn (.func 20) [] [])) [(.t 21)], (some (20, false))⟩, ⟨(some 23), .bin .neq (.t 22) (.c (.v (.int .i64 0))), (some (20, false))⟩, ⟨(some 24), .pick (.t 20) (.c (.v (.bool true))) (.t 23), none⟩, ⟨(some 25), .mv (.t 24), none⟩, ⟨(some 26), .load 1 false (.t 5), (some (25, false))⟩, ⟨(some 27), .load 1 false (.t 7), (some (25, false))⟩, ⟨(some 28), .mm false (.t 26) [(.t 27)], (some (25, false))⟩, ⟨(some 29), .bin .lss (.t 28) (.c (.v (.int .i64 0))), (some (25, false))⟩, ⟨(some 30), .pick (.t 25) (.c (.v (.bool true))) (.t 29), none⟩, ⟨(some 31), .mv (.t 30), none⟩, ⟨(some 32), .load 1 false (.t 5), (some (31, false))⟩, ⟨(some 33), .load 1 false (.t 7), (some (31, false))⟩, ⟨(some 34), .mm true (.t 32) [(.t 33)], (some (31, false))⟩, ⟨(some 35), .bin .gtr (.t 34) (.c (.v (.int .i64 4000))), (some (31, false))⟩, ⟨(some 36), .pick (.t 31) (.c (.v (.bool true))) (.t 35), none⟩])
  (.cond (.t 36)
    (.seq (.reg [⟨(some 8), .mv (.c .nilS), none⟩])
    .ret)
    .skip))
  (.seq (.reg [⟨(some 9), .alloc 65 [.nilS], none⟩])
  (.seq (.seq (.reg [⟨(some 37), .load 1 true (.t 4), none⟩, ⟨(some 38), .call (.c (.fn (.func 66) [] [])) [(.t 37)], none⟩])
  (.block 0
    (.rangeF (.t 38) [39, 40]
      (.reg [⟨(some 11), .alloc 89 [(.v (.int .i64 0)), (.v (.int .i64 0)), (.v (.int .i64 0)), (.v (.int .i64 0)), (.v (.int .i64 0)), (.v (.int .i64 0))], none⟩, ⟨none, .store 6 (.t 11) (.t 40), none⟩])
      (.block 1
        (.seq (.reg [⟨(some 41), .load 1 true (.t 6), none⟩, ⟨(some 42), .call (.c (.fn (.func 66) [] [])) [(.t 41)], none⟩])
        (.block 2
          (.rangeF (.t 42) [43, 44]
            (.reg [⟨(some 13), .alloc 89 [(.v (.int .i64 0)), (.v (.int .i64 0)), (.v (.int .i64 0)), (.v (.int .i64 0)), (.v (.int .i64 0)), (.v (.int .i64 0))], none⟩, ⟨none, .store 6 (.t 13) (.t 44), none⟩])
            (.block 3
              (.seq (.draw [⟨(some 45), .load 6 true (.t 11), none⟩, ⟨(some 46), .load 1 false (.t 5), none⟩, ⟨(some 47), .fieldA 4 (.t 11), none⟩, ⟨(some 48), .load 1 false (.t 47), none⟩, ⟨(some 49), .build [(.v (.int .i64 0)), (.v (.int .i64 0))] [(0, 1, (.c (.v (.int .i64 0)))), (1, 1, (.t 48))], none⟩, ⟨(some 50), .build [(.v (.int .i64 0)), (.v (.int .i64 0)), (.v (.int .i64 0)), (.v (.int .i64 0)), (.v (.int .i64 0)), (.v (.int .i64 0)), (.v (.int .i64 0)), (.v (.int .i64 0)), (.v (.int .i64 0))] [(0, 6, (.t 45)), (6, 1, (.t 46)), (7, 2, (.t 49))], none⟩, ⟨(some 51), .load 6 true (.t 13), none⟩, ⟨(some 52), .load 1 false (.t 7), none⟩, ⟨(some 53), .fieldA 4 (.t 13), none⟩, ⟨(some 54), .load 1 false (.t 53), none⟩, ⟨(some 55), .build [(.v (.int .i64 0)), (.v (.int .i64 0))] [(0, 1, (.c (.v (.int .i64 0)))), (1, 1, (.t 54))], none⟩, ⟨(some 56), .build [(.v (.int .i64 0)), (.v (.int .i64 0)), (.v (.int .i64 0)), (.v (.int .i64 0)), (.v (.int .i64 0)), (.v (.int .i64 0)), (.v (.int .i64 0)), (.v (.int .i64 0)), (.v (.int .i64 0))] [(0, 6, (.t 51)), (6, 1, (.t 52)), (7, 2, (.t 55))], none⟩, ⟨(some 14), .alloc 102 [(.v (.int .i64 0)), (.v (.int .i64 0)), (.v (.int .i64 0)), (.v (.int .i64 0)), (.v (.int .i64 0)), (.v (.int .i64 0)), (.v (.int .i64 0)), (.v (.int .i64 0)), (.v (.int .i64 0))], none⟩, ⟨(some 15), .alloc 102 [(.v (.int .i64 0)), (.v (.int .i64 0)), (.v (.int .i64 0)), (.v (.int .i64 0)), (.v (.int .i64 0)), (.v (.int .i64 0)), (.v (.int .i64 0)), (.v (.int .i64 0)), (.v (.int .i64 0))], none⟩, ⟨none, .store 9 (.t 14) (.t 50), none⟩, ⟨none, .store 9 (.t 15) (.t 56), none⟩] [(6, 14), (7, 14), (9, 14)])
              (.seq (.seq (.reg [⟨(some 57), .load 9 true (.t 14), none⟩, ⟨(some 58), .load 9 true (.t 15), none⟩, ⟨(some 59), .call (.c (.fn (.func 81) [] [])) [(.t 57), (.t 58)], none⟩, ⟨(some 60), .un .not (.t 59), none⟩])
              (.cond (.t 60)
                (.exit 3)
                .skip))
              (.seq (.reg [⟨(some 16), .alloc 69 [(.v (.int .i64 0)), (.v (.int .i64 0)), (.v (.int .i64 0)), (.v (.int .i64 0))], none⟩])
              (.seq (.reg [⟨(some 62), .load 9 true (.t 14), none⟩, ⟨(some 63), .load 9 true (.t 15), none⟩, ⟨(some 64), .call (.c (.fn (.func 82) [] [])) [(.t 62), (.t 63)], none⟩, ⟨(some 61), .mv (.t 64), none⟩, ⟨(some 65), .ext (.t 61) 0, none⟩, ⟨(some 66), .ext (.t 61) 1, none⟩, ⟨(some 67), .fieldA 0 (.t 16), none⟩, ⟨none, .store 1 (.t 67) (.t 65), none⟩, ⟨(some 68), .fieldA 1 (.t 16), none⟩, ⟨none, .store 1 (.t 68) (.t 66), none⟩])
              (.seq (.reg [⟨(some 70), .load 9 true (.t 15), none⟩, ⟨(some 71), .load 9 true (.t 14), none⟩, ⟨(some 72), .call (.c (.fn (.func 82) [] [])) [(.t 70), (.t 71)], none⟩, ⟨(some 69), .mv (.t 72), none⟩, ⟨(some 73), .ext (.t 69) 0, none⟩, ⟨(some 74), .ext (.t 69) 1, none⟩, ⟨(some 75), .fieldA 2 (.t 16), none⟩, ⟨none, .store 1 (.t 75) (.t 73), none⟩, ⟨(some 76), .fieldA 3 (.t 16), none⟩, ⟨none, .store 1 (.t 76) (.t 74), none⟩])
              (.reg [⟨(some 77), .load 1 false (.t 9), none⟩, ⟨(some 78), .load 4 true (.t 16), none⟩, ⟨(some 79), .dslice 69 4 1 [(.v (.int .i64 0)), (.v (.int .i64 0)), (.v (.int .i64 0)), (.v (.int .i64 0))] [(0, 4, (.t 78))], none⟩, ⟨(some 80), .append 65 69 4 (.t 77) (.t 79), none⟩, ⟨none, .store 1 (.t 9) (.t 80), none⟩]))))))))))))))
  (.seq (.reg [⟨(some 81), .load 1 false (.t 9), none⟩, ⟨(some 8), .mv (.t 81), none⟩])
  .ret)))))
theorem fn54 : FnOK Try.prog 54 82 [.t 8] ac54 := ⟨_, _, Try.func54, rfl, Try.ntmps54, by kernel_rfl, ⟨fun _ => allD', by kernel_rfl⟩, by kernel_rfl⟩
theorem curve_Corridors_ok (p1 : Curve) (p2 : Int) (p3 : Curve) (p4 : Int) (r : (List Cross)) (h : curve_Corridors p1 p2 p3 p4 = some r) : PCall Try.prog 54 [(.agg [(.list (List.map eSpot p1.Pts))]), (i64 p2), (.agg [(.list (List.map eSpot p3.Pts))]), (i64 p4)] (.list (List.map eCross r)) := by
  refine l_call fn54 (Nat.le_of_ble_eq_true rfl) ?_
  unfold curve_Corridors at h
  unfold ac54
  refine (l_sub (s0 := ⟨T [(0, (.d (.agg [(.list (List.map eSpot p1.Pts))]))), (1, (.d (i64 p2))), (2, (.d (.agg [(.list (List.map eSpot p3.Pts))]))), (3, (.d (i64 p4)))], G []⟩) (sb_of ⟨.of rfl, .of rfl, .of rfl, .of rfl, trivial⟩ trivial) ?_)
  refine l_seq ?_
  refine l_reg fun u1 hu1 => ?_
  refine s_new (.ptr _ _) (.box _ _) rfl rfl ?_
  refine s_new (.ptr _ _) (.box _ _) rfl rfl ?_
  refine s_new (.ptr _ _) (.box _ _) rfl rfl ?_
  refine s_new (.ptr _ _) (.box _ _) rfl rfl ?_
  refine s_val (.d _) rfl rfl ?_
  refine s_nil ?_
  refine l_seq ?_
  refine l_seq ?_
  refine l_reg fun u2 hu2 => ?_
  refine s_val (.d _) rfl (v_loadG rfl (G_skip rfl (G_skip rfl (G_skip rfl G_hit))) rfl rfl) ?_
  obtain ⟨v1, hv1, h⟩ := bind_some h
  refine s_call rfl rfl all2_refl (curve_Check_ok _  _ hv1) (.inl rfl) ?_
  refine s_val (.d _) rfl rfl ?_
  refine s_val (.d _) rfl rfl ?_
  refine g_val (!(v1 != 0)) (.d _) rfl (gw_f rfl) (fun w1 => (v_loadG rfl (G_skip rfl G_hit) rfl rfl)) ?_
  obtain ⟨v2, hv2, h⟩ := bind_some h
  refine g_call (!(v1 != 0)) (i64 v2) (gw_f rfl) (fun w2 => ⟨_, [(.d (.agg [(.list (List.map eSpot p3.Pts))]))], _, _, (by simp only [gd_pos w2]; rfl), rfl, all2_refl, curve_Check_ok _  _ (cond_t w2 hv2), (.inl rfl)⟩) ?_
  refine g_val (!(v1 != 0)) (.d _) rfl (gw_f rfl) (fun w3 => (v_bin (gd_pos w3) rfl rfl)) ?_
  refine s_val (.d _) rfl (v_or rfl rfl (fun hc => gd_pos (not_t hc))) ?_
  refine s_val (.d _) rfl rfl ?_
  refine g_val (!((v1 != 0) || (v2 != 0))) (.d _) rfl (gw_f rfl) (fun w4 => (v_load rfl (G_skip rfl (G_skip rfl G_hit)) rfl)) ?_
  refine g_val (!((v1 != 0) || (v2 != 0))) (.d _) rfl (gw_f rfl) (fun w5 => (v_load rfl G_hit rfl)) ?_
  refine g_val (!((v1 != 0) || (v2 != 0))) (.d _) rfl (gw_f rfl) (fun w6 => (by simp only [gd_pos w6]; rfl)) ?_
  refine g_val (!((v1 != 0) || (v2 != 0))) (.d _) rfl (gw_f rfl) (fun w7 => (v_bin (gd_pos w7) rfl rfl)) ?_
  refine s_val (.d _) rfl (v_or rfl rfl (fun hc => gd_pos (not_t hc))) ?_
  refine s_val (.d _) rfl rfl ?_
  refine g_val (!(((v1 != 0) || (v2 != 0)) || (decide ((mm2 false p2 p4) < 0)))) (.d _) rfl (gw_f rfl) (fun w8 => (v_load rfl (G_skip rfl (G_skip rfl G_hit)) rfl)) ?_
  refine g_val (!(((v1 != 0) || (v2 != 0)) || (decide ((mm2 false p2 p4) < 0)))) (.d _) rfl (gw_f rfl) (fun w9 => (v_load rfl G_hit rfl)) ?_
  refine g_val (!(((v1 != 0) || (v2 != 0)) || (decide ((mm2 false p2 p4) < 0)))) (.d _) rfl (gw_f rfl) (fun w10 => (by simp only [gd_pos w10]; rfl)) ?_
  refine g_val (!(((v1 != 0) || (v2 != 0)) || (decide ((mm2 false p2 p4) < 0)))) (.d _) rfl (gw_f rfl) (fun w11 => (v_bin (gd_pos w11) rfl rfl)) ?_
  refine s_val (.d _) rfl (v_or rfl rfl (fun hc => gd_pos (not_t hc))) ?_
  refine s_nil ?_
  refine l_cond ((((v1 != 0) || (v2 != 0)) || (decide ((mm2 false p2 p4) < 0))) || (decide ((mm2 true p2 p4) > 4000))) rfl (fun c1 => ?_) (fun c1 => ?_)
  · replace h := cond_t c1 h
    refine l_seq ?_
    refine l_sub (s0 := ⟨T [], G []⟩) (sb_of trivial trivial) ?_
    refine l_reg fun u3 hu3 => ?_
    refine s_val (.d _) rfl rfl ?_
    refine s_nil ?_
    refine l_ret ?_
    obtain rfl := Option.some.inj h
    refine fin_ok (.inr rfl) (resD1 (res_t rfl) rf_d) ?_
    exact DLe.nil
  · replace h := cond_f c1 h
    refine l_skip ?_
    refine l_seq ?_
    refine l_sub (s0 := ⟨T [(4, (.ptr (4, u1) 0)), (5, (.ptr (5, u1) 0)), (6, (.ptr (6, u1) 0)), (7, (.ptr (7, u1) 0)), (8, (.d .nilS))], G [((4, u1), some (.box 24 [(.d (.list (List.map eSpot p1.Pts)))])), ((5, u1), some (.box 2 [(.d (i64 p2))])), ((6, u1), some (.box 24 [(.d (.list (List.map eSpot p3.Pts)))])), ((7, u1), some (.box 2 [(.d (i64 p4))]))]⟩) (sb_of ⟨.of rfl, .of rfl, .of rfl, .of rfl, .of rfl, trivial⟩ (sbG_some (G_skip rfl (G_skip rfl (G_skip rfl G_hit))) (.of rfl) (sbG_some (G_skip rfl (G_skip rfl G_hit)) (.of rfl) (sbG_some (G_skip rfl G_hit) (.of rfl) (sbG_some G_hit (.of rfl) trivial))))) ?_
    refine l_reg fun u4 hu4 => ?_
    refine s_new (.ptr _ _) (.box _ _) rfl rfl ?_
    refine s_nil ?_
    refine l_seq ?_
    refine l_seq ?_
    refine l_reg fun u5 hu5 => ?_
    refine s_val (.d _) rfl (v_loadG rfl (G_skip rfl G_hit) rfl rfl) ?_
    refine s_call rfl rfl all2_refl (pieces_clos p1) (.inl rfl) ?_
    refine s_nil ?_
    obtain ⟨y1, hy1, h⟩ := bind_some h
    refine l_join (fun s => ∃ g1 : Nat, Sb ⟨T [(9, (.ptr (9, u4) 0))], G [((9, u4), some (.box 65 [(oS y1 (80, g1))])), ((80, g1), oB 69 4 eCross y1)]⟩ s) ?_ ?_
    · skip
      refine l_block ?_
      obtain ⟨v3, hv3, hy1⟩ := bind_some hy1
      refine l_sub (s0 := ⟨T [(5, (.ptr (5, u1) 0)), (6, (.ptr (6, u1) 0)), (7, (.ptr (7, u1) 0)), (8, (.d .nilS)), (9, (.ptr (9, u4) 0)), (38, (.d (.fn (.func 86) [] [(.bp [(.list (List.map eSpot p1.Pts))] 0)])))], G [((5, u1), some (.box 2 [(.d (i64 p2))])), ((6, u1), some (.box 24 [(.d (.list (List.map eSpot p3.Pts)))])), ((7, u1), some (.box 2 [(.d (i64 p4))])), ((9, u4), some (.box 65 [(.d .nilS)]))]⟩) (sb_of ⟨.of rfl, .of rfl, .of rfl, .of rfl, .of rfl, .of rfl, trivial⟩ (sbG_some (G_skip rfl (G_skip rfl G_hit)) (.of rfl) (sbG_some (G_skip rfl (G_skip rfl (G_skip rfl G_hit))) (.of rfl) (sbG_some (G_skip rfl (G_skip rfl (G_skip rfl (G_skip rfl G_hit)))) (.of rfl) (sbG_some G_hit (.of rfl) trivial))))) ?_
      refine l_rangeL (.fn (.func 86) [] [(.bp [(.list (List.map eSpot p1.Pts))] 0)]) ePiece v3 (curve_Corridors_l1 p2 p3 p4) (fun (x1 : (List Cross)) => x1) (fun (x1 : (List Cross)) (g2 : Nat) => [((5, u1), some (.box 2 [(.d (i64 p2))])), ((6, u1), some (.box 24 [(.d (.list (List.map eSpot p3.Pts)))])), ((7, u1), some (.box 2 [(.d (i64 p4))])), ((9, u4), some (.box 65 [(oS x1 (80, g2))])), ((80, g2), oB 69 4 eCross x1)]) [] 0 _ rfl (pieces_iter hv3) (fun _ => rfl) hy1 (sb_of trivial (sbG_some G_hit (.of rfl) (sbG_some (G_skip rfl G_hit) (.of rfl) (sbG_some (G_skip rfl (G_skip rfl G_hit)) (.of rfl) (sbG_some (G_skip rfl (G_skip rfl (G_skip rfl G_hit))) (.of rfl) (sbG_nil trivial)))))) nofun ?_ ?_
      · intro u7 hu7 hku7
        refine ⟨fun x1 g2 => (G_skip rfl (G_skip rfl (G_skip rfl (G_skip rfl (G_skip rfl rfl))))), ?_⟩
        intro r1 x1 g2 a1 z1 hrr1 hz1 ez1
        unfold curve_Corridors_l1 at hz1
        show AWL _ _ _ _ _ _ ⟨T [(40, (.d (.agg [(i64 a1.2.p.X), (i64 a1.2.p.Y), (i64 a1.2.v.x), (i64 a1.2.v.y), (i64 a1.2.l), (i64 a1.2.start)]))), (39, (.d (i64 a1.1))), (5, (.ptr (5, u1) 0)), (6, (.ptr (6, u1) 0)), (7, (.ptr (7, u1) 0)), (8, (.d .nilS)), (9, (.ptr (9, u4) 0)), (38, (.d (.fn (.func 86) [] [(.bp [(.list (List.map eSpot p1.Pts))] 0)])))], G [((1000000, u7), some (.obj (T [(5, (.ptr (5, u1) 0)), (6, (.ptr (6, u1) 0)), (7, (.ptr (7, u1) 0)), (8, (.d .nilS)), (9, (.ptr (9, u4) 0)), (38, (.d (.fn (.func 86) [] [(.bp [(.list (List.map eSpot p1.Pts))] 0)])))]) r1)), ((5, u1), some (.box 2 [(.d (i64 p2))])), ((6, u1), some (.box 24 [(.d (.list (List.map eSpot p3.Pts)))])), ((7, u1), some (.box 2 [(.d (i64 p4))])), ((9, u4), some (.box 65 [(oS x1 (80, g2))])), ((80, g2), oB 69 4 eCross x1)]⟩
        refine l_reg fun u8 hu8 => ?_
        refine s_new (.ptr _ _) (.box _ _) rfl rfl ?_
        refine s_store _ _ _ _ _ rfl rfl rfl G_hit (Nat.le_of_ble_eq_true rfl) _ rfl ?_
        refine s_nil ?_
        refine l_j (mid_ok (G_skip rfl (G_skip rfl G_hit)) ?_)
        refine l_block ?_
        refine l_seq ?_
        refine l_reg fun u9 hu9 => ?_
        refine s_val (.d _) rfl (v_loadG rfl (G_skip rfl (G_skip rfl (G_skip rfl (G_skip rfl (G_skip rfl G_hit))))) rfl rfl) ?_
        refine s_call rfl rfl all2_refl (pieces_clos p3) (.inl rfl) ?_
        refine s_nil ?_
        obtain ⟨y2, hy2, hz1⟩ := bind_some hz1
        refine l_join (fun s => ∃ g3 : Nat, Sb ⟨T [], G [((5, u1), some (.box 2 [(.d (i64 p2))])), ((6, u1), some (.box 24 [(.d (.list (List.map eSpot p3.Pts)))])), ((7, u1), some (.box 2 [(.d (i64 p4))])), ((9, u4), some (.box 65 [(oS y2 (80, g3))])), ((1000000, u7), some (.obj (T [(5, (.ptr (5, u1) 0)), (6, (.ptr (6, u1) 0)), (7, (.ptr (7, u1) 0)), (8, (.d .nilS)), (9, (.ptr (9, u4) 0)), (38, (.d (.fn (.func 86) [] [(.bp [(.list (List.map eSpot p1.Pts))] 0)])))]) { r1 with state := .busy })), ((80, g3), oB 69 4 eCross y2)]⟩ s) ?_ ?_
        · skip
          refine l_block ?_
          obtain ⟨v4, hv4, hy2⟩ := bind_some hy2
          refine l_sub (s0 := ⟨T [(5, (.ptr (5, u1) 0)), (7, (.ptr (7, u1) 0)), (9, (.ptr (9, u4) 0)), (11, (.ptr (11, u8) 0)), (42, (.d (.fn (.func 86) [] [(.bp [(.list (List.map eSpot p3.Pts))] 0)])))], G [((5, u1), some (.box 2 [(.d (i64 p2))])), ((7, u1), some (.box 2 [(.d (i64 p4))])), ((9, u4), some (.box 65 [(oS x1 (80, g2))])), ((80, g2), oB 69 4 eCross x1), ((11, u8), some (.box 89 [(.d (i64 a1.2.p.X)), (.d (i64 a1.2.p.Y)), (.d (i64 a1.2.v.x)), (.d (i64 a1.2.v.y)), (.d (i64 a1.2.l)), (.d (i64 a1.2.start))])), ((6, u1), some (.box 24 [(.d (.list (List.map eSpot p3.Pts)))])), ((1000000, u7), some (.obj (T [(5, (.ptr (5, u1) 0)), (6, (.ptr (6, u1) 0)), (7, (.ptr (7, u1) 0)), (8, (.d .nilS)), (9, (.ptr (9, u4) 0)), (38, (.d (.fn (.func 86) [] [(.bp [(.list (List.map eSpot p1.Pts))] 0)])))]) { r1 with state := .busy }))]⟩) (sb_of ⟨.of rfl, .of rfl, .of rfl, .of rfl, .of rfl, trivial⟩ (sbG_some (G_skip rfl (G_skip rfl (G_skip rfl (G_skip rfl G_hit)))) (.of rfl) (sbG_some (G_skip rfl (G_skip rfl (G_skip rfl (G_skip rfl (G_skip rfl (G_skip rfl G_hit)))))) (.of rfl) (sbG_some (G_skip rfl (G_skip rfl (G_skip rfl (G_skip rfl (G_skip rfl (G_skip rfl (G_skip rfl G_hit))))))) (.of rfl) (sbG_oB (G_skip rfl (G_skip rfl (G_skip rfl (G_skip rfl (G_skip rfl (G_skip rfl (G_skip rfl (G_skip rfl G_hit)))))))) (sbG_some (G_skip rfl G_hit) (.of rfl) (sbG_some (G_skip rfl (G_skip rfl (G_skip rfl (G_skip rfl (G_skip rfl G_hit))))) (.of rfl) (sbG_some G_hit (.of rfl) trivial)))))))) ?_
          refine l_rangeL (.fn (.func 86) [] [(.bp [(.list (List.map eSpot p3.Pts))] 0)]) ePiece v4 (curve_Corridors_l2 p2 p4 a1) (fun (x2 : (List Cross)) => x2) (fun (x2 : (List Cross)) (g4 : Nat) => [((5, u1), some (.box 2 [(.d (i64 p2))])), ((7, u1), some (.box 2 [(.d (i64 p4))])), ((9, u4), some (.box 65 [(oS x2 (80, g4))])), ((11, u8), some (.box 89 [(.d (i64 a1.2.p.X)), (.d (i64 a1.2.p.Y)), (.d (i64 a1.2.v.x)), (.d (i64 a1.2.v.y)), (.d (i64 a1.2.l)), (.d (i64 a1.2.start))])), ((6, u1), some (.box 24 [(.d (.list (List.map eSpot p3.Pts)))])), ((1000000, u7), some (.obj (T [(5, (.ptr (5, u1) 0)), (6, (.ptr (6, u1) 0)), (7, (.ptr (7, u1) 0)), (8, (.d .nilS)), (9, (.ptr (9, u4) 0)), (38, (.d (.fn (.func 86) [] [(.bp [(.list (List.map eSpot p1.Pts))] 0)])))]) { r1 with state := .busy })), ((80, g4), oB 69 4 eCross x2)]) x1 g2 _ rfl (pieces_iter hv4) (fun _ => rfl) hy2 (sb_of trivial (sbG_some G_hit (.of rfl) (sbG_some (G_skip rfl G_hit) (.of rfl) (sbG_some (G_skip rfl (G_skip rfl G_hit)) (.of rfl) (sbG_some (G_skip rfl (G_skip rfl (G_skip rfl (G_skip rfl G_hit)))) (.of rfl) (sbG_some (G_skip rfl (G_skip rfl (G_skip rfl (G_skip rfl (G_skip rfl G_hit))))) (.of rfl) (sbG_some (G_skip rfl (G_skip rfl (G_skip rfl (G_skip rfl (G_skip rfl (G_skip rfl G_hit)))))) (.of rfl) (sbG_oB (G_skip rfl (G_skip rfl (G_skip rfl G_hit))) trivial)))))))) (fun kk hk => by cases hk; exact ⟨_, _, (G_skip rfl (G_skip rfl (G_skip rfl (G_skip rfl (G_skip rfl (G_skip rfl G_hit))))))⟩) ?_ ?_
          · intro u11 hu11 hku11
            refine ⟨fun x2 g4 => (G_skip rfl (G_skip rfl (G_skip rfl (G_skip rfl (G_skip rfl (G_skipU (Ne.symm (fresh_ne hu11 (G_skip rfl (G_skip rfl (G_skip rfl (G_skip rfl (G_skip rfl (G_skip rfl G_hit)))))))) (G_skip rfl rfl))))))), ?_⟩
            intro r2 x2 g4 a2 z2 hrr2 hz2 ez2
            unfold curve_Corridors_l2 at hz2
            show AWL _ _ _ _ _ _ ⟨T [(44, (.d (.agg [(i64 a2.2.p.X), (i64 a2.2.p.Y), (i64 a2.2.v.x), (i64 a2.2.v.y), (i64 a2.2.l), (i64 a2.2.start)]))), (43, (.d (i64 a2.1))), (5, (.ptr (5, u1) 0)), (7, (.ptr (7, u1) 0)), (9, (.ptr (9, u4) 0)), (11, (.ptr (11, u8) 0)), (42, (.d (.fn (.func 86) [] [(.bp [(.list (List.map eSpot p3.Pts))] 0)])))], G [((1000000, u11), some (.obj (T [(5, (.ptr (5, u1) 0)), (7, (.ptr (7, u1) 0)), (9, (.ptr (9, u4) 0)), (11, (.ptr (11, u8) 0)), (42, (.d (.fn (.func 86) [] [(.bp [(.list (List.map eSpot p3.Pts))] 0)])))]) r2)), ((5, u1), some (.box 2 [(.d (i64 p2))])), ((7, u1), some (.box 2 [(.d (i64 p4))])), ((9, u4), some (.box 65 [(oS x2 (80, g4))])), ((11, u8), some (.box 89 [(.d (i64 a1.2.p.X)), (.d (i64 a1.2.p.Y)), (.d (i64 a1.2.v.x)), (.d (i64 a1.2.v.y)), (.d (i64 a1.2.l)), (.d (i64 a1.2.start))])), ((6, u1), some (.box 24 [(.d (.list (List.map eSpot p3.Pts)))])), ((1000000, u7), some (.obj (T [(5, (.ptr (5, u1) 0)), (6, (.ptr (6, u1) 0)), (7, (.ptr (7, u1) 0)), (8, (.d .nilS)), (9, (.ptr (9, u4) 0)), (38, (.d (.fn (.func 86) [] [(.bp [(.list (List.map eSpot p1.Pts))] 0)])))]) { r1 with state := .busy })), ((80, g4), oB 69 4 eCross x2)]⟩
            refine l_reg fun u12 hu12 => ?_
            refine s_new (.ptr _ _) (.box _ _) rfl rfl ?_
            refine s_store _ _ _ _ _ rfl rfl rfl G_hit (Nat.le_of_ble_eq_true rfl) _ rfl ?_
            refine s_nil ?_
            refine l_j (mid_ok (G_skip rfl (G_skip rfl G_hit)) ?_)
            refine l_block ?_
            refine l_seq ?_
            refine l_drawT fun u13 hu13 => ?_
            refine t_val (.d _) rfl (v_loadG rfl (G_skip rfl (G_skip rfl (G_skip rfl (G_skip rfl (G_skip rfl (G_skip rfl (G_skip rfl G_hit))))))) rfl rfl) ?_
            refine t_val (.d _) rfl (v_load rfl (G_skip rfl (G_skip rfl (G_skip rfl (G_skip rfl G_hit)))) rfl) ?_
            refine t_val (.ptr _ _) rfl rfl ?_
            refine t_val (.d _) rfl (v_load rfl (G_skip rfl (G_skip rfl (G_skip rfl (G_skip rfl (G_skip rfl (G_skip rfl (G_skip rfl G_hit))))))) rfl) ?_
            refine t_val (.d _) rfl rfl ?_
            refine t_val (.d _) rfl rfl ?_
            refine t_val (.d _) rfl (v_loadG rfl (G_skip rfl G_hit) rfl rfl) ?_
            refine t_val (.d _) rfl (v_load rfl (G_skip rfl (G_skip rfl (G_skip rfl (G_skip rfl (G_skip rfl G_hit))))) rfl) ?_
            refine t_val (.ptr _ _) rfl rfl ?_
            refine t_val (.d _) rfl (v_load rfl (G_skip rfl G_hit) rfl) ?_
            refine t_val (.d _) rfl rfl ?_
            refine t_val (.d _) rfl rfl ?_
            refine t_new (.ptr _ _) (.box _ _) rfl rfl ?_
            refine t_new (.ptr _ _) (.box _ _) rfl rfl ?_
            refine t_store _ _ _ _ _ rfl rfl rfl (G_skip rfl G_hit) (Nat.le_of_ble_eq_true rfl) _ rfl ?_
            refine t_store _ _ _ _ _ rfl rfl rfl (G_skip rfl G_hit) (Nat.le_of_ble_eq_true rfl) _ rfl ?_
            refine t_nil ⟨rfl, ?_⟩
            refine l_seq ?_
            refine l_seq ?_
            refine l_sub (s0 := ⟨T [(9, (.ptr (9, u4) 0)), (14, (.ptr (14, u13) 0)), (15, (.ptr (15, u13) 0))], G [((9, u4), some (.box 65 [(oS x2 (80, g4))])), ((80, g4), oB 69 4 eCross x2), ((14, u13), some (.box 102 [(.d (i64 a1.2.p.X)), (.d (i64 a1.2.p.Y)), (.d (i64 a1.2.v.x)), (.d (i64 a1.2.v.y)), (.d (i64 a1.2.l)), (.d (i64 a1.2.start)), (.d (i64 p2)), (.d (i64 0)), (.d (i64 a1.2.l))])), ((15, u13), some (.box 102 [(.d (i64 a2.2.p.X)), (.d (i64 a2.2.p.Y)), (.d (i64 a2.2.v.x)), (.d (i64 a2.2.v.y)), (.d (i64 a2.2.l)), (.d (i64 a2.2.start)), (.d (i64 p4)), (.d (i64 0)), (.d (i64 a2.2.l))])), ((5, u1), some (.box 2 [(.d (i64 p2))])), ((6, u1), some (.box 24 [(.d (.list (List.map eSpot p3.Pts)))])), ((7, u1), some (.box 2 [(.d (i64 p4))])), ((11, u8), some (.box 89 [(.d (i64 a1.2.p.X)), (.d (i64 a1.2.p.Y)), (.d (i64 a1.2.v.x)), (.d (i64 a1.2.v.y)), (.d (i64 a1.2.l)), (.d (i64 a1.2.start))])), ((1000000, u7), some (.obj (T [(5, (.ptr (5, u1) 0)), (6, (.ptr (6, u1) 0)), (7, (.ptr (7, u1) 0)), (8, (.d .nilS)), (9, (.ptr (9, u4) 0)), (38, (.d (.fn (.func 86) [] [(.bp [(.list (List.map eSpot p1.Pts))] 0)])))]) { r1 with state := .busy })), ((1000000, u11), some (.obj (T [(5, (.ptr (5, u1) 0)), (7, (.ptr (7, u1) 0)), (9, (.ptr (9, u4) 0)), (11, (.ptr (11, u8) 0)), (42, (.d (.fn (.func 86) [] [(.bp [(.list (List.map eSpot p3.Pts))] 0)])))]) { r2 with state := .busy }))]⟩) (sb_of ⟨.of rfl, .of rfl, .of rfl, trivial⟩ (sbG_some (G_skip rfl (G_skip rfl (G_skip rfl (G_skip rfl (G_skip rfl (G_skip rfl (G_skip rfl (G_skip rfl (G_skip rfl (G_skip rfl G_hit)))))))))) (.of rfl) (sbG_oB (G_skip rfl (G_skip rfl (G_skip rfl (G_skip rfl (G_skip rfl (G_skip rfl (G_skip rfl (G_skip rfl (G_skip rfl (G_skip rfl (G_skip rfl (G_skip rfl (G_skip rfl (G_skip rfl G_hit)))))))))))))) (sbG_some (G_skip rfl G_hit) (.of rfl) (sbG_some G_hit (.of rfl) (sbG_some (G_skip rfl (G_skip rfl (G_skip rfl (G_skip rfl (G_skip rfl (G_skip rfl (G_skip rfl (G_skip rfl G_hit)))))))) (.of rfl) (sbG_some (G_skip rfl (G_skip rfl (G_skip rfl (G_skip rfl (G_skip rfl (G_skip rfl (G_skip rfl (G_skip rfl (G_skip rfl (G_skip rfl (G_skip rfl (G_skip rfl G_hit)))))))))))) (.of rfl) (sbG_some (G_skip rfl (G_skip rfl (G_skip rfl (G_skip rfl (G_skip rfl (G_skip rfl (G_skip rfl (G_skip rfl (G_skip rfl G_hit))))))))) (.of rfl) (sbG_some (G_skip rfl (G_skip rfl (G_skip rfl (G_skip rfl (G_skip rfl (G_skip rfl (G_skip rfl (G_skip rfl (G_skip rfl (G_skip rfl (G_skip rfl G_hit))))))))))) (.of rfl) (sbG_some (G_skip rfl (G_skip rfl (G_skip rfl (G_skip rfl (G_skipU (fresh_ne hu11 (G_skip rfl (G_skip rfl (G_skip rfl (G_skip rfl (G_skip rfl (G_skip rfl G_hit))))))) (G_skip rfl (G_skip rfl (G_skipU (fresh_ne hu11 (G_skip rfl (G_skip rfl (G_skip rfl (G_skip rfl (G_skip rfl (G_skip rfl G_hit))))))) (G_skip rfl (G_skip rfl (G_skip rfl (G_skip rfl (G_skip rfl G_hit))))))))))))) (.of rfl) (sbG_some (G_skip rfl (G_skip rfl (G_skip rfl (G_skip rfl G_hit)))) (.of rfl) trivial))))))))))) ?_
            refine l_reg fun u14 hu14 => ?_
            refine s_val (.d _) rfl (v_loadG rfl (G_skip rfl (G_skip rfl G_hit)) rfl rfl) ?_
            refine s_val (.d _) rfl (v_loadG rfl (G_skip rfl (G_skip rfl (G_skip rfl G_hit))) rfl rfl) ?_
            obtain ⟨v5, hv5, hz2⟩ := bind_some hz2
            refine s_call rfl rfl all2_refl (curve_corridor_meets_ok _ _  _ hv5) (.inl rfl) ?_
            refine s_val (.d _) rfl rfl ?_
            refine s_nil ?_
            refine l_cond (!v5) rfl (fun c2 => ?_) (fun c2 => ?_)
            · replace hz2 := cond_t c2 hz2
              refine l_exit rfl ?_
              refine l_nil ?_
              obtain rfl := Option.some.inj hz2
              exact rnd_go (G_skip rfl (G_skip rfl (G_skip rfl (G_skip rfl (G_skip rfl (G_skip rfl (G_skip rfl (G_skip rfl (G_skipU (Ne.symm (fresh_ne hu11 (G_skip rfl (G_skip rfl (G_skip rfl (G_skip rfl (G_skip rfl (G_skip rfl G_hit)))))))) G_hit))))))))) g4 (sbG_some (G_skip rfl (G_skip rfl (G_skip rfl (G_skip rfl G_hit)))) (.of rfl) (sbG_some (G_skip rfl (G_skip rfl (G_skip rfl (G_skip rfl (G_skip rfl (G_skip rfl G_hit)))))) (.of rfl) (sbG_some G_hit (.of rfl) (sbG_some (G_skip rfl (G_skip rfl (G_skip rfl (G_skip rfl (G_skip rfl (G_skip rfl (G_skip rfl G_hit))))))) (.of rfl) (sbG_some (G_skip rfl (G_skip rfl (G_skip rfl (G_skip rfl (G_skip rfl G_hit))))) (.of rfl) (sbG_some (G_skip rfl (G_skip rfl (G_skip rfl (G_skip rfl (G_skip rfl (G_skip rfl (G_skip rfl (G_skip rfl G_hit)))))))) (.of rfl) (sbG_oB (G_skip rfl G_hit) trivial)))))))
            · replace hz2 := cond_f c2 hz2
              refine l_skip ?_
              refine l_seq ?_
              refine l_reg fun u15 hu15 => ?_
              refine s_new (.ptr _ _) (.box _ _) rfl rfl ?_
              refine s_nil ?_
              refine l_seq ?_
              refine l_reg fun u16 hu16 => ?_
              refine s_val (.d _) rfl (v_loadG rfl (G_skip rfl (G_skip rfl (G_skip rfl G_hit))) rfl rfl) ?_
              refine s_val (.d _) rfl (v_loadG rfl (G_skip rfl (G_skip rfl (G_skip rfl (G_skip rfl G_hit)))) rfl rfl) ?_
              obtain ⟨v6, hv6, hz2⟩ := bind_some hz2
              refine s_call rfl rfl all2_refl (curve_corridor_span_ok _ _  _ hv6) (.inl rfl) ?_
              refine s_val (.d _) rfl rfl ?_
              refine s_val (.d _) rfl rfl ?_
              refine s_val (.d _) rfl rfl ?_
              refine s_val (.ptr _ _) rfl rfl ?_
              refine s_store _ _ _ _ _ rfl rfl rfl G_hit (Nat.le_of_ble_eq_true rfl) _ rfl ?_
              refine s_val (.ptr _ _) rfl rfl ?_
              refine s_store _ _ _ _ _ rfl rfl rfl G_hit (Nat.le_of_ble_eq_true rfl) _ rfl ?_
              refine s_nil ?_
              refine l_seq ?_
              refine l_sub (s0 := ⟨T [(9, (.ptr (9, u4) 0)), (14, (.ptr (14, u13) 0)), (15, (.ptr (15, u13) 0)), (16, (.ptr (16, u15) 0))], G [((9, u4), some (.box 65 [(oS x2 (80, g4))])), ((80, g4), oB 69 4 eCross x2), ((14, u13), some (.box 102 [(.d (i64 a1.2.p.X)), (.d (i64 a1.2.p.Y)), (.d (i64 a1.2.v.x)), (.d (i64 a1.2.v.y)), (.d (i64 a1.2.l)), (.d (i64 a1.2.start)), (.d (i64 p2)), (.d (i64 0)), (.d (i64 a1.2.l))])), ((15, u13), some (.box 102 [(.d (i64 a2.2.p.X)), (.d (i64 a2.2.p.Y)), (.d (i64 a2.2.v.x)), (.d (i64 a2.2.v.y)), (.d (i64 a2.2.l)), (.d (i64 a2.2.start)), (.d (i64 p4)), (.d (i64 0)), (.d (i64 a2.2.l))])), ((16, u15), some (.box 69 [(.d (i64 v6.1)), (.d (i64 v6.2)), (.d (i64 0)), (.d (i64 0))])), ((5, u1), some (.box 2 [(.d (i64 p2))])), ((6, u1), some (.box 24 [(.d (.list (List.map eSpot p3.Pts)))])), ((7, u1), some (.box 2 [(.d (i64 p4))])), ((11, u8), some (.box 89 [(.d (i64 a1.2.p.X)), (.d (i64 a1.2.p.Y)), (.d (i64 a1.2.v.x)), (.d (i64 a1.2.v.y)), (.d (i64 a1.2.l)), (.d (i64 a1.2.start))])), ((1000000, u7), some (.obj (T [(5, (.ptr (5, u1) 0)), (6, (.ptr (6, u1) 0)), (7, (.ptr (7, u1) 0)), (8, (.d .nilS)), (9, (.ptr (9, u4) 0)), (38, (.d (.fn (.func 86) [] [(.bp [(.list (List.map eSpot p1.Pts))] 0)])))]) { r1 with state := .busy })), ((1000000, u11), some (.obj (T [(5, (.ptr (5, u1) 0)), (7, (.ptr (7, u1) 0)), (9, (.ptr (9, u4) 0)), (11, (.ptr (11, u8) 0)), (42, (.d (.fn (.func 86) [] [(.bp [(.list (List.map eSpot p3.Pts))] 0)])))]) { r2 with state := .busy }))]⟩) (sb_of ⟨.of rfl, .of rfl, .of rfl, .of rfl, trivial⟩ (sbG_some (G_skip rfl (G_skip rfl (G_skip rfl G_hit))) (.of rfl) (sbG_oB (G_skip rfl (G_skip rfl (G_skip rfl (G_skip rfl G_hit)))) (sbG_some (G_skip rfl (G_skip rfl (G_skip rfl (G_skip rfl (G_skip rfl G_hit))))) (.of rfl) (sbG_some (G_skip rfl (G_skip rfl (G_skip rfl (G_skip rfl (G_skip rfl (G_skip rfl G_hit)))))) (.of rfl) (sbG_some G_hit (.of rfl) (sbG_some (G_skip rfl (G_skip rfl (G_skip rfl (G_skip rfl (G_skip rfl (G_skip rfl (G_skip rfl G_hit))))))) (.of rfl) (sbG_some (G_skip rfl (G_skip rfl (G_skip rfl (G_skip rfl (G_skip rfl (G_skip rfl (G_skip rfl (G_skip rfl G_hit)))))))) (.of rfl) (sbG_some (G_skip rfl (G_skip rfl (G_skip rfl (G_skip rfl (G_skip rfl (G_skip rfl (G_skip rfl (G_skip rfl (G_skip rfl G_hit))))))))) (.of rfl) (sbG_some (G_skip rfl (G_skip rfl (G_skip rfl (G_skip rfl (G_skip rfl (G_skip rfl (G_skip rfl (G_skip rfl (G_skip rfl (G_skip rfl G_hit)))))))))) (.of rfl) (sbG_some (G_skip rfl (G_skip rfl (G_skip rfl (G_skip rfl (G_skip rfl (G_skip rfl (G_skip rfl (G_skip rfl (G_skip rfl (G_skip rfl (G_skip rfl G_hit))))))))))) (.of rfl) (sbG_some (G_skip rfl (G_skip rfl (G_skip rfl (G_skip rfl (G_skip rfl (G_skip rfl (G_skip rfl (G_skip rfl (G_skip rfl (G_skip rfl (G_skip rfl (G_skipU (Ne.symm (fresh_ne hu11 (G_skip rfl (G_skip rfl (G_skip rfl (G_skip rfl (G_skip rfl (G_skip rfl G_hit)))))))) G_hit)))))))))))) (.of rfl) trivial)))))))))))) ?_
              refine l_reg fun u17 hu17 => ?_
              refine s_val (.d _) rfl (v_loadG rfl (G_skip rfl (G_skip rfl (G_skip rfl G_hit))) rfl rfl) ?_
              refine s_val (.d _) rfl (v_loadG rfl (G_skip rfl (G_skip rfl G_hit)) rfl rfl) ?_
              obtain ⟨v7, hv7, hz2⟩ := bind_some hz2
              refine s_call rfl rfl all2_refl (curve_corridor_span_ok _ _  _ hv7) (.inl rfl) ?_
              refine s_val (.d _) rfl rfl ?_
              refine s_val (.d _) rfl rfl ?_
              refine s_val (.d _) rfl rfl ?_
              refine s_val (.ptr _ _) rfl rfl ?_
              refine s_store _ _ _ _ _ rfl rfl rfl (G_skip rfl (G_skip rfl (G_skip rfl (G_skip rfl G_hit)))) (Nat.le_of_ble_eq_true rfl) _ rfl ?_
              refine s_val (.ptr _ _) rfl rfl ?_
              refine s_store _ _ _ _ _ rfl rfl rfl G_hit (Nat.le_of_ble_eq_true rfl) _ rfl ?_
              refine s_nil ?_
              refine l_sub (s0 := ⟨T [(9, (.ptr (9, u4) 0)), (16, (.ptr (16, u15) 0))], G [((9, u4), some (.box 65 [(oS x2 (80, g4))])), ((80, g4), oB 69 4 eCross x2), ((16, u15), some (.box 69 [(.d (i64 v6.1)), (.d (i64 v6.2)), (.d (i64 v7.1)), (.d (i64 v7.2))])), ((5, u1), some (.box 2 [(.d (i64 p2))])), ((6, u1), some (.box 24 [(.d (.list (List.map eSpot p3.Pts)))])), ((7, u1), some (.box 2 [(.d (i64 p4))])), ((11, u8), some (.box 89 [(.d (i64 a1.2.p.X)), (.d (i64 a1.2.p.Y)), (.d (i64 a1.2.v.x)), (.d (i64 a1.2.v.y)), (.d (i64 a1.2.l)), (.d (i64 a1.2.start))])), ((1000000, u7), some (.obj (T [(5, (.ptr (5, u1) 0)), (6, (.ptr (6, u1) 0)), (7, (.ptr (7, u1) 0)), (8, (.d .nilS)), (9, (.ptr (9, u4) 0)), (38, (.d (.fn (.func 86) [] [(.bp [(.list (List.map eSpot p1.Pts))] 0)])))]) { r1 with state := .busy })), ((1000000, u11), some (.obj (T [(5, (.ptr (5, u1) 0)), (7, (.ptr (7, u1) 0)), (9, (.ptr (9, u4) 0)), (11, (.ptr (11, u8) 0)), (42, (.d (.fn (.func 86) [] [(.bp [(.list (List.map eSpot p3.Pts))] 0)])))]) { r2 with state := .busy }))]⟩) (sb_of ⟨.of rfl, .of rfl, trivial⟩ (sbG_some (G_skip rfl (G_skip rfl G_hit)) (.of rfl) (sbG_oB (G_skip rfl (G_skip rfl (G_skip rfl G_hit))) (sbG_some G_hit (.of rfl) (sbG_some (G_skip rfl (G_skip rfl (G_skip rfl (G_skip rfl (G_skip rfl (G_skip rfl (G_skip rfl G_hit))))))) (.of rfl) (sbG_some (G_skip rfl (G_skip rfl (G_skip rfl (G_skip rfl (G_skip rfl (G_skip rfl (G_skip rfl (G_skip rfl G_hit)))))))) (.of rfl) (sbG_some (G_skip rfl (G_skip rfl (G_skip rfl (G_skip rfl (G_skip rfl (G_skip rfl (G_skip rfl (G_skip rfl (G_skip rfl G_hit))))))))) (.of rfl) (sbG_some (G_skip rfl (G_skip rfl (G_skip rfl (G_skip rfl (G_skip rfl (G_skip rfl (G_skip rfl (G_skip rfl (G_skip rfl (G_skip rfl G_hit)))))))))) (.of rfl) (sbG_some (G_skip rfl (G_skip rfl (G_skip rfl (G_skip rfl (G_skip rfl (G_skip rfl (G_skip rfl (G_skip rfl (G_skip rfl (G_skip rfl (G_skip rfl G_hit))))))))))) (.of rfl) (sbG_some (G_skip rfl (G_skip rfl (G_skip rfl (G_skip rfl (G_skip rfl (G_skip rfl (G_skip rfl (G_skip rfl (G_skip rfl (G_skip rfl (G_skip rfl (G_skipU (Ne.symm (fresh_ne hu11 (G_skip rfl (G_skip rfl (G_skip rfl (G_skip rfl (G_skip rfl (G_skip rfl G_hit)))))))) G_hit)))))))))))) (.of rfl) trivial)))))))))) ?_
              refine l_reg fun u18 hu18 => ?_
              refine s_val (oS x2 (80, g4)) rfl (v_load rfl G_hit rfl) ?_
              refine s_val (.d _) rfl (v_loadG rfl (G_skip rfl (G_skip rfl G_hit)) rfl rfl) ?_
              refine s_val (.d (.list (List.map eCross [(Cross.mk v6.1 v6.2 v7.1 v7.2)]))) rfl rfl ?_
              obtain ⟨v8, hv8, hz2⟩ := bind_some hz2
              refine s_appendO eCross (80, g4) x2 (Cross.mk v6.1 v6.2 v7.1 v7.2) [] _ (elems_list (fun _ => rfl)) rfl (G_skip rfl G_hit) hv8 ?_
              refine s_store _ _ _ _ _ rfl rfl rfl (G_skip rfl (G_skip rfl G_hit)) (Nat.le_of_ble_eq_true rfl) _ rfl ?_
              refine s_nil ?_
              refine l_end ?_
              refine l_nil ?_
              obtain rfl := Option.some.inj hz2
              exact rnd_go (G_skip rfl (G_skip rfl (G_skip rfl (G_skip rfl (G_skip rfl (G_skip rfl (G_skip rfl (G_skip rfl (G_skip rfl (G_skip rfl (G_skipU (Ne.symm (fresh_ne hu11 (G_skip rfl (G_skip rfl (G_skip rfl (G_skip rfl (G_skip rfl (G_skip rfl G_hit)))))))) G_hit))))))))))) u18 (sbG_some (G_skip rfl (G_skip rfl (G_skip rfl (G_skip rfl (G_skip rfl (G_skip rfl G_hit)))))) (.of rfl) (sbG_some (G_skip rfl (G_skip rfl (G_skip rfl (G_skip rfl (G_skip rfl (G_skip rfl (G_skip rfl (G_skip rfl G_hit)))))))) (.of rfl) (sbG_some G_hit (.box (.cons (.of (oS_ne (appc_ne hv8)).symm) .nil)) (sbG_some (G_skip rfl (G_skip rfl (G_skip rfl (G_skip rfl (G_skip rfl (G_skip rfl (G_skip rfl (G_skip rfl (G_skip rfl G_hit))))))))) (.of rfl) (sbG_some (G_skip rfl (G_skip rfl (G_skip rfl (G_skip rfl (G_skip rfl (G_skip rfl (G_skip rfl G_hit))))))) (.of rfl) (sbG_some (G_skip rfl (G_skip rfl (G_skip rfl (G_skip rfl (G_skip rfl (G_skip rfl (G_skip rfl (G_skip rfl (G_skip rfl (G_skip rfl G_hit)))))))))) (.of rfl) (sbG_own (G_skip rfl G_hit) trivial)))))))
          · rintro x2 g4 _ rfl qx2
            refine l_end (l_j ?_)
            exact ⟨g4, (Sb.after qx2 (sb_of trivial (sbG_some G_hit (.of rfl) (sbG_some (G_skip rfl (G_skip rfl (G_skip rfl (G_skip rfl G_hit)))) (.of rfl) (sbG_some (G_skip rfl G_hit) (.of rfl) (sbG_some (G_skip rfl (G_skip rfl G_hit)) (.of rfl) (sbG_some (G_skip rfl (G_skip rfl (G_skip rfl (G_skip rfl (G_skip rfl G_hit))))) (.of rfl) (sbG_oB (G_skip rfl (G_skip rfl (G_skip rfl (G_skip rfl (G_skip rfl (G_skip rfl G_hit)))))) trivial))))))))⟩
        · rintro _ ⟨g3, q1⟩
          refine l_end ?_
          refine l_nil ?_
          obtain rfl := Option.some.inj hz1
          exact rnd_goV q1 (G_skip rfl (G_skip rfl (G_skip rfl (G_skip rfl G_hit)))) g3 (sbG_some G_hit (.of rfl) (sbG_some (G_skip rfl G_hit) (.of rfl) (sbG_some (G_skip rfl (G_skip rfl G_hit)) (.of rfl) (sbG_some (G_skip rfl (G_skip rfl (G_skip rfl G_hit))) (.of rfl) (sbG_oB (G_skip rfl (G_skip rfl (G_skip rfl (G_skip rfl (G_skip rfl G_hit))))) trivial)))))
      · rintro x1 g2 _ rfl qx1
        refine l_end (l_j ?_)
        exact ⟨g2, (Sb.after qx1 (sb_of ⟨.of rfl, trivial⟩ (sbG_some (G_skip rfl (G_skip rfl (G_skip rfl G_hit))) (.of rfl) (sbG_oB (G_skip rfl (G_skip rfl (G_skip rfl (G_skip rfl G_hit)))) trivial))))⟩
    · rintro _ ⟨g1, q2⟩
      refine l_sub q2 ?_
      refine l_seq ?_
      refine l_reg fun u19 hu19 => ?_
      refine s_val (oS y1 (80, g1)) rfl (v_load rfl G_hit rfl) ?_
      refine s_val (oS y1 (80, g1)) rfl rfl ?_
      refine s_nil ?_
      refine l_ret ?_
      obtain rfl := Option.some.inj h
      refine fin_ok (.inr rfl) (resD1 (res_t rfl) (rf_oS (G_skip rfl G_hit))) ?_
      exact oD_le

noncomputable def ref01_Minus (p1 : Spot) (p2 : Spot) : Option Spot :=
  some (Spot.mk (w64 (p1.X - p2.X)) (w64 (p1.Y - p2.Y)))

/-- kerbstone/kerbstoneref01.Minus -/
def ac40 : AC :=
  (.seq (.reg [⟨(some 2), .box 43 true (.t 0), none⟩, ⟨(some 3), .box 43 true (.t 1), none⟩, ⟨(some 4), .alloc 43 [(.v (.int .i64 0)), (.v (.int .i64 0))], none⟩])
  (.seq (.reg [⟨(some 5), .fieldA 0 (.t 2), none⟩, ⟨(some 6), .load 1 false (.t 5), none⟩, ⟨(some 7), .fieldA 0 (.t 3), none⟩, ⟨(some 8), .load 1 false (.t 7), none⟩, ⟨(some 9), .bin .sub (.t 6) (.t 8), none⟩, ⟨(some 10), .fieldA 1 (.t 2), none⟩, ⟨(some 11), .load 1 false (.t 10), none⟩, ⟨(some 12), .fieldA 1 (.t 3), none⟩, ⟨(some 13), .load 1 false (.t 12), none⟩, ⟨(some 14), .bin .sub (.t 11) (.t 13), none⟩, ⟨(some 15), .build [(.v (.int .i64 0)), (.v (.int .i64 0))] [(0, 1, (.t 9)), (1, 1, (.t 14))], none⟩, ⟨none, .store 2 (.t 4) (.t 15), none⟩])
  .ret))
theorem fn40 : FnOK Try.prog 40 16 [.cell 4 2 true] ac40 := ⟨_, _, Try.func40, rfl, Try.ntmps40, by kernel_rfl, ⟨fun _ => allD', by kernel_rfl⟩, by kernel_rfl⟩
theorem ref01_Minus_ok (p1 : Spot) (p2 : Spot) (r : Spot) (h : ref01_Minus p1 p2 = some r) : PCall Try.prog 40 [(.agg [(i64 p1.X), (i64 p1.Y)]), (.agg [(i64 p2.X), (i64 p2.Y)])] (.agg [(i64 r.X), (i64 r.Y)]) := by
  refine l_call fn40 (Nat.le_of_ble_eq_true rfl) ?_
  unfold ref01_Minus at h
  unfold ac40
  refine (l_sub (s0 := ⟨T [(0, (.d (.agg [(i64 p1.X), (i64 p1.Y)]))), (1, (.d (.agg [(i64 p2.X), (i64 p2.Y)])))], G []⟩) (sb_of ⟨.of rfl, .of rfl, trivial⟩ trivial) ?_)
  refine l_seq ?_
  refine l_reg fun u1 hu1 => ?_
  refine s_new (.ptr _ _) (.box _ _) rfl rfl ?_
  refine s_new (.ptr _ _) (.box _ _) rfl rfl ?_
  refine s_new (.ptr _ _) (.box _ _) rfl rfl ?_
  refine s_nil ?_
  refine l_seq ?_
  refine l_reg fun u2 hu2 => ?_
  refine s_val (.ptr _ _) rfl rfl ?_
  refine s_val (.d _) rfl (v_load rfl (G_skip rfl (G_skip rfl G_hit)) rfl) ?_
  refine s_val (.ptr _ _) rfl rfl ?_
  refine s_val (.d _) rfl (v_load rfl (G_skip rfl G_hit) rfl) ?_
  refine s_val (.d _) rfl rfl ?_
  refine s_val (.ptr _ _) rfl rfl ?_
  refine s_val (.d _) rfl (v_load rfl (G_skip rfl (G_skip rfl G_hit)) rfl) ?_
  refine s_val (.ptr _ _) rfl rfl ?_
  refine s_val (.d _) rfl (v_load rfl (G_skip rfl G_hit) rfl) ?_
  refine s_val (.d _) rfl rfl ?_
  refine s_val (.d _) rfl rfl ?_
  refine s_store _ _ _ _ _ rfl rfl rfl G_hit (Nat.le_of_ble_eq_true rfl) _ rfl ?_
  refine s_nil ?_
  refine l_ret ?_
  obtain rfl := Option.some.inj h
  refine fin_ok (.inr rfl) (resD1 (res_cellG rfl G_hit (Nat.le_of_ble_eq_true rfl) rfl) rf_d) ?_
  exact (.refl _)

noncomputable def ref01_Valid (p1 : Spot) : Option Bool :=
  some ((((decide (p1.X ≥ (-16777216))) && (decide (p1.X ≤ 16777216))) && (decide (p1.Y ≥ (-16777216)))) && (decide (p1.Y ≤ 16777216)))

/-- kerbstone/kerbstoneref01.Valid -/
def ac63 : AC :=
  (.seq (.reg [⟨(some 1), .box 43 true (.t 0), none⟩, ⟨(some 2), .mv (.c (.v (.bool false))), none⟩])
  (.seq (.reg [⟨(some 3), .fieldA 0 (.t 1), none⟩, ⟨(some 4), .load 1 false (.t 3), none⟩, ⟨(some 5), .bin .geq (.t 4) (.c (.v (.int .i64 (-16777216)))), none⟩, ⟨(some 6), .mv (.t 5), none⟩, ⟨(some 7), .fieldA 0 (.t 1), (some (6, true))⟩, ⟨(some 8), .load 1 false (.t 7), (some (6, true))⟩, ⟨(some 9), .bin .leq (.t 8) (.c (.v (.int .i64 16777216))), (some (6, true))⟩, ⟨(some 10), .pick (.t 6) (.t 9) (.c (.v (.bool false))), none⟩, ⟨(some 11), .mv (.t 10), none⟩, ⟨(some 12), .fieldA 1 (.t 1), (some (11, true))⟩, ⟨(some 13), .load 1 false (.t 12), (some (11, true))⟩, ⟨(some 14), .bin .geq (.t 13) (.c (.v (.int .i64 (-16777216)))), (some (11, true))⟩, ⟨(some 15), .pick (.t 11) (.t 14) (.c (.v (.bool false))), none⟩, ⟨(some 16), .mv (.t 15), none⟩, ⟨(some 17), .fieldA 1 (.t 1), (some (16, true))⟩, ⟨(some 18), .load 1 false (.t 17), (some (16, true))⟩, ⟨(some 19), .bin .leq (.t 18) (.c (.v (.int .i64 16777216))), (some (16, true))⟩, ⟨(some 20), .pick (.t 16) (.t 19) (.c (.v (.bool false))), none⟩, ⟨(some 2), .mv (.t 20), none⟩])
  .ret))
theorem fn63 : FnOK Try.prog 63 21 [.t 2] ac63 := ⟨_, _, Try.func63, rfl, Try.ntmps63, by kernel_rfl, ⟨fun _ => allD', by kernel_rfl⟩, by kernel_rfl⟩
theorem ref01_Valid_ok (p1 : Spot) (r : Bool) (h : ref01_Valid p1 = some r) : PCall Try.prog 63 [(.agg [(i64 p1.X), (i64 p1.Y)])] (bo r) := by
  refine l_call fn63 (Nat.le_of_ble_eq_true rfl) ?_
  unfold ref01_Valid at h
  unfold ac63
  refine (l_sub (s0 := ⟨T [(0, (.d (.agg [(i64 p1.X), (i64 p1.Y)])))], G []⟩) (sb_of ⟨.of rfl, trivial⟩ trivial) ?_)
  refine l_seq ?_
  refine l_reg fun u1 hu1 => ?_
  refine s_new (.ptr _ _) (.box _ _) rfl rfl ?_
  refine s_val (.d _) rfl rfl ?_
  refine s_nil ?_
  refine l_seq ?_
  refine l_reg fun u2 hu2 => ?_
  refine s_val (.ptr _ _) rfl rfl ?_
  refine s_val (.d _) rfl (v_load rfl G_hit rfl) ?_
  refine s_val (.d _) rfl rfl ?_
  refine s_val (.d _) rfl rfl ?_
  refine g_val (decide (p1.X ≥ (-16777216))) (.ptr _ _) rfl (gw_t rfl) (fun w1 => rfl) ?_
  refine g_val (decide (p1.X ≥ (-16777216))) (.d _) rfl (gw_t rfl) (fun w2 => (v_load (gd_pos w2) G_hit rfl)) ?_
  refine g_val (decide (p1.X ≥ (-16777216))) (.d _) rfl (gw_t rfl) (fun w3 => (v_bin (gd_pos w3) rfl rfl)) ?_
  refine s_val (.d _) rfl (v_and rfl (fun hc => gd_pos hc) rfl) ?_
  refine s_val (.d _) rfl rfl ?_
  refine g_val ((decide (p1.X ≥ (-16777216))) && (decide (p1.X ≤ 16777216))) (.ptr _ _) rfl (gw_t rfl) (fun w4 => rfl) ?_
  refine g_val ((decide (p1.X ≥ (-16777216))) && (decide (p1.X ≤ 16777216))) (.d _) rfl (gw_t rfl) (fun w5 => (v_load (gd_pos w5) G_hit rfl)) ?_
  refine g_val ((decide (p1.X ≥ (-16777216))) && (decide (p1.X ≤ 16777216))) (.d _) rfl (gw_t rfl) (fun w6 => (v_bin (gd_pos w6) rfl rfl)) ?_
  refine s_val (.d _) rfl (v_and rfl (fun hc => gd_pos hc) rfl) ?_
  refine s_val (.d _) rfl rfl ?_
  refine g_val (((decide (p1.X ≥ (-16777216))) && (decide (p1.X ≤ 16777216))) && (decide (p1.Y ≥ (-16777216)))) (.ptr _ _) rfl (gw_t rfl) (fun w7 => rfl) ?_
  refine g_val (((decide (p1.X ≥ (-16777216))) && (decide (p1.X ≤ 16777216))) && (decide (p1.Y ≥ (-16777216)))) (.d _) rfl (gw_t rfl) (fun w8 => (v_load (gd_pos w8) G_hit rfl)) ?_
  refine g_val (((decide (p1.X ≥ (-16777216))) && (decide (p1.X ≤ 16777216))) && (decide (p1.Y ≥ (-16777216)))) (.d _) rfl (gw_t rfl) (fun w9 => (v_bin (gd_pos w9) rfl rfl)) ?_
  refine s_val (.d _) rfl (v_and rfl (fun hc => gd_pos hc) rfl) ?_
  refine s_val (.d _) rfl rfl ?_
  refine s_nil ?_
  refine l_ret ?_
  obtain rfl := Option.some.inj h
  refine fin_ok (.inr rfl) (resD1 (res_t rfl) rf_d) ?_
  exact (.refl _)

noncomputable def ref01_root_l1 (p1 : Int) (x1 : (Int × Int)) : Option (Stp (Int × Int) Int) :=
  cond (decide (x1.2 > 0)) (cond (decide ((w64 ((w64 (x1.1 + x1.2)) * (w64 (x1.1 + x1.2)))) ≤ p1)) (some (.go ((w64 (x1.1 + x1.2)), (w64 (x1.2.tdiv 2))))) (some (.go (x1.1, (w64 (x1.2.tdiv 2)))))) (some (.out x1.1))
noncomputable def ref01_root (p1 : Int) : Option Int :=
  (loop (ref01_root_l1 p1) (0, 67108864)).bind fun y1 => some y1

/-- kerbstone/kerbstoneref01.root -/
def ac64 : AC :=
  (.seq (.reg [⟨(some 2), .mv (.c (.v (.int .i64 0))), none⟩])
  (.seq (.reg [⟨(some 3), .mv (.c (.v (.int .i64 0))), none⟩])
  (.seq (.seq (.reg [⟨(some 4), .mv (.c (.v (.int .i64 67108864))), none⟩])
  (.block 0
    (.loop
      (.seq (.seq (.reg [⟨(some 5), .mv (.t 4), none⟩, ⟨(some 6), .bin .gtr (.t 5) (.c (.v (.int .i64 0))), none⟩])
      (.cond (.t 6)
        .skip
        (.exit 0)))
      (.seq (.block 1
        (.seq (.reg [⟨(some 9), .mv (.t 3), none⟩, ⟨(some 10), .mv (.t 4), none⟩, ⟨(some 11), .bin .add (.t 9) (.t 10), none⟩, ⟨(some 12), .mv (.t 3), none⟩, ⟨(some 13), .mv (.t 4), none⟩, ⟨(some 14), .bin .add (.t 12) (.t 13), none⟩, ⟨(some 15), .bin .mul (.t 11) (.t 14), none⟩, ⟨(some 16), .mv (.t 0), none⟩, ⟨(some 17), .bin .leq (.t 15) (.t 16), none⟩])
        (.cond (.t 17)
          (.reg [⟨(some 18), .mv (.t 3), none⟩, ⟨(some 19), .mv (.t 4), none⟩, ⟨(some 20), .bin .add (.t 18) (.t 19), none⟩, ⟨(some 3), .mv (.t 20), none⟩])
          .skip)))
      (.reg [⟨(some 7), .mv (.t 4), none⟩, ⟨(some 8), .bin .quo (.t 7) (.c (.v (.int .i64 2))), none⟩, ⟨(some 4), .mv (.t 8), none⟩]))))))
  (.seq (.reg [⟨(some 21), .mv (.t 3), none⟩, ⟨(some 2), .mv (.t 21), none⟩])
  .ret))))
theorem fn64 : FnOK Try.prog 64 22 [.t 2] ac64 := ⟨_, _, Try.func64, rfl, Try.ntmps64, by kernel_rfl, ⟨fun _ => allD', by kernel_rfl⟩, by kernel_rfl⟩
theorem ref01_root_ok (p1 : Int) (r : Int) (h : ref01_root p1 = some r) : PCall Try.prog 64 [(i64 p1)] (i64 r) := by
  refine l_call fn64 (Nat.le_of_ble_eq_true rfl) ?_
  unfold ref01_root at h
  unfold ac64
  refine (l_sub (s0 := ⟨T [(0, (.d (i64 p1)))], G []⟩) (sb_of ⟨.of rfl, trivial⟩ trivial) ?_)
  refine l_seq ?_
  refine l_reg fun u1 hu1 => ?_
  refine s_val (.d _) rfl rfl ?_
  refine s_nil ?_
  refine l_seq ?_
  refine l_reg fun u2 hu2 => ?_
  refine s_val (.d _) rfl rfl ?_
  refine s_nil ?_
  refine l_seq ?_
  refine l_seq ?_
  refine l_reg fun u3 hu3 => ?_
  refine s_val (.d _) rfl rfl ?_
  refine s_nil ?_
  obtain ⟨y1, hy1, h⟩ := bind_some h
  refine l_join (fun s => ∃ g1 : Unit, Sb ⟨T [(3, (.d (i64 y1)))], G []⟩ s) ?_ ?_
  · skip
    refine l_block ?_
    refine l_loop (ref01_root_l1 p1) (fun (x1 : (Int × Int)) (g2 : Unit) => ⟨T [(0, (.d (i64 p1))), (3, (.d (i64 x1.1))), (4, (.d (i64 x1.2)))], G []⟩) (0, 67108864) () _ hy1 (sb_of ⟨.of rfl, .of rfl, .of rfl, trivial⟩ trivial) ?_
    intro x1 g2 z1 hz1 ez1
    unfold ref01_root_l1 at hz1
    refine l_seq ?_
    refine l_seq ?_
    refine l_reg fun u4 hu4 => ?_
    refine s_val (.d _) rfl rfl ?_
    refine s_val (.d _) rfl rfl ?_
    refine s_nil ?_
    refine l_cond (decide (x1.2 > 0)) rfl (fun c1 => ?_) (fun c1 => ?_)
    · replace hz1 := cond_t c1 hz1
      refine l_skip ?_
      refine l_seq ?_
      refine l_block ?_
      refine l_seq ?_
      refine l_reg fun u5 hu5 => ?_
      refine s_val (.d _) rfl rfl ?_
      refine s_val (.d _) rfl rfl ?_
      refine s_val (.d _) rfl rfl ?_
      refine s_val (.d _) rfl rfl ?_
      refine s_val (.d _) rfl rfl ?_
      refine s_val (.d _) rfl rfl ?_
      refine s_val (.d _) rfl rfl ?_
      refine s_val (.d _) rfl rfl ?_
      refine s_val (.d _) rfl rfl ?_
      refine s_nil ?_
      refine l_cond (decide ((w64 ((w64 (x1.1 + x1.2)) * (w64 (x1.1 + x1.2)))) ≤ p1)) rfl (fun c2 => ?_) (fun c2 => ?_)
      · replace hz1 := cond_t c2 hz1
        refine l_reg fun u6 hu6 => ?_
        refine s_val (.d _) rfl rfl ?_
        refine s_val (.d _) rfl rfl ?_
        refine s_val (.d _) rfl rfl ?_
        refine s_val (.d _) rfl rfl ?_
        refine s_nil ?_
        refine l_end ?_
        refine l_reg fun u7 hu7 => ?_
        refine s_val (.d _) rfl rfl ?_
        refine s_val (.d _) rfl rfl ?_
        refine s_val (.d _) rfl rfl ?_
        refine s_nil ?_
        refine l_nil ?_
        obtain rfl := Option.some.inj hz1
        exact ⟨rfl, (), (sb_of ⟨.of rfl, .of rfl, .of rfl, trivial⟩ trivial)⟩
      · replace hz1 := cond_f c2 hz1
        refine l_skip ?_
        refine l_end ?_
        refine l_reg fun u8 hu8 => ?_
        refine s_val (.d _) rfl rfl ?_
        refine s_val (.d _) rfl rfl ?_
        refine s_val (.d _) rfl rfl ?_
        refine s_nil ?_
        refine l_nil ?_
        obtain rfl := Option.some.inj hz1
        exact ⟨rfl, (), (sb_of ⟨.of rfl, .of rfl, .of rfl, trivial⟩ trivial)⟩
    · replace hz1 := cond_f c1 hz1
      refine l_exitN rfl ?_
      obtain rfl := Option.some.inj hz1
      obtain rfl := ez1 _ rfl
      refine ⟨nofun, awl_pop rfl (l_j ?_)⟩
      exact ⟨(), (sb_of ⟨.of rfl, trivial⟩ trivial)⟩
  · rintro _ ⟨g1, q1⟩
    refine l_sub q1 ?_
    refine l_seq ?_
    refine l_reg fun u9 hu9 => ?_
    refine s_val (.d _) rfl rfl ?_
    refine s_val (.d _) rfl rfl ?_
    refine s_nil ?_
    refine l_ret ?_
    obtain rfl := Option.some.inj h
    refine fin_ok (.inr rfl) (resD1 (res_t rfl) rf_d) ?_
    exact (.refl _)

noncomputable def ref01_Dot (p1 : Spot) (p2 : Spot) : Option Int :=
  some (w64 ((w64 (p1.X * p2.X)) + (w64 (p1.Y * p2.Y))))

/-- kerbstone/kerbstoneref01.Dot -/
def ac65 : AC :=
  (.seq (.reg [⟨(some 2), .box 43 true (.t 0), none⟩, ⟨(some 3), .box 43 true (.t 1), none⟩, ⟨(some 4), .mv (.c (.v (.int .i64 0))), none⟩])
  (.seq (.reg [⟨(some 5), .fieldA 0 (.t 2), none⟩, ⟨(some 6), .load 1 false (.t 5), none⟩, ⟨(some 7), .fieldA 0 (.t 3), none⟩, ⟨(some 8), .load 1 false (.t 7), none⟩, ⟨(some 9), .bin .mul (.t 6) (.t 8), none⟩, ⟨(some 10), .fieldA 1 (.t 2), none⟩, ⟨(some 11), .load 1 false (.t 10), none⟩, ⟨(some 12), .fieldA 1 (.t 3), none⟩, ⟨(some 13), .load 1 false (.t 12), none⟩, ⟨(some 14), .bin .mul (.t 11) (.t 13), none⟩, ⟨(some 15), .bin .add (.t 9) (.t 14), none⟩, ⟨(some 4), .mv (.t 15), none⟩])
  .ret))
theorem fn65 : FnOK Try.prog 65 16 [.t 4] ac65 := ⟨_, _, Try.func65, rfl, Try.ntmps65, by kernel_rfl, ⟨fun _ => allD', by kernel_rfl⟩, by kernel_rfl⟩
theorem ref01_Dot_ok (p1 : Spot) (p2 : Spot) (r : Int) (h : ref01_Dot p1 p2 = some r) : PCall Try.prog 65 [(.agg [(i64 p1.X), (i64 p1.Y)]), (.agg [(i64 p2.X), (i64 p2.Y)])] (i64 r) := by
  refine l_call fn65 (Nat.le_of_ble_eq_true rfl) ?_
  unfold ref01_Dot at h
  unfold ac65
  refine (l_sub (s0 := ⟨T [(0, (.d (.agg [(i64 p1.X), (i64 p1.Y)]))), (1, (.d (.agg [(i64 p2.X), (i64 p2.Y)])))], G []⟩) (sb_of ⟨.of rfl, .of rfl, trivial⟩ trivial) ?_)
  refine l_seq ?_
  refine l_reg fun u1 hu1 => ?_
  refine s_new (.ptr _ _) (.box _ _) rfl rfl ?_
  refine s_new (.ptr _ _) (.box _ _) rfl rfl ?_
  refine s_val (.d _) rfl rfl ?_
  refine s_nil ?_
  refine l_seq ?_
  refine l_reg fun u2 hu2 => ?_
  refine s_val (.ptr _ _) rfl rfl ?_
  refine s_val (.d _) rfl (v_load rfl (G_skip rfl G_hit) rfl) ?_
  refine s_val (.ptr _ _) rfl rfl ?_
  refine s_val (.d _) rfl (v_load rfl G_hit rfl) ?_
  refine s_val (.d _) rfl rfl ?_
  refine s_val (.ptr _ _) rfl rfl ?_
  refine s_val (.d _) rfl (v_load rfl (G_skip rfl G_hit) rfl) ?_
  refine s_val (.ptr _ _) rfl rfl ?_
  refine s_val (.d _) rfl (v_load rfl G_hit rfl) ?_
  refine s_val (.d _) rfl rfl ?_
  refine s_val (.d _) rfl rfl ?_
  refine s_val (.d _) rfl rfl ?_
  refine s_nil ?_
  refine l_ret ?_
  obtain rfl := Option.some.inj h
  refine fin_ok (.inr rfl) (resD1 (res_t rfl) rf_d) ?_
  exact (.refl _)

noncomputable def ref01_Check_l2 (p1 : Curve) (x2 : Int) : Option (Stp Int (Sum Unit Int)) :=
  cond (decide ((w64 (x2 + 1)) < (p1.Pts.length : Int))) ((geti p1.Pts (w64 (x2 + 1))).bind fun v3 => (geti p1.Pts x2).bind fun v4 => (ref01_Minus v3 v4).bind fun v5 => (ref01_Dot v5 v5).bind fun v6 => (ref01_root v6).bind fun v7 => (ref01_Dot v5 v5).bind fun v8 => cond ((w64 (v7 * v7)) != v8) (some (.out (.inr 3))) (cond ((decide (v7 < 1000)) || (decide (v7 > 1048576))) (some (.out (.inr 2))) (((cond (decide (x2 > 0)) (geti p1.Pts x2) (some default))).bind fun v9 => ((cond (decide (x2 > 0)) (geti p1.Pts (w64 (x2 - 1))) (some default))).bind fun v10 => ((cond (decide (x2 > 0)) (ref01_Minus v9 v10) (some default))).bind fun v11 => ((cond (decide (x2 > 0)) (ref01_Dot v5 v11) (some default))).bind fun v12 => cond ((decide (x2 > 0)) && (decide (v12 ≤ 0))) (some (.out (.inr 12))) (some (.go (w64 (x2 + 1))))))) (some (.out (.inl ())))
noncomputable def ref01_Check_l1 (p1 : Curve) (x1 : Int) : Option (Stp Int (Sum Unit Int)) :=
  cond (decide (x1 < (p1.Pts.length : Int))) ((geti p1.Pts x1).bind fun v1 => (ref01_Valid v1).bind fun v2 => cond (!v2) (some (.out (.inr 2))) (some (.go (w64 (x1 + 1))))) (some (.out (.inl ())))
noncomputable def ref01_Check (p1 : Curve) : Option Int :=
  cond (decide ((p1.Pts.length : Int) < 2)) (some 6) (cond (decide ((p1.Pts.length : Int) > 16)) (some 5) (thenS (loop (ref01_Check_l1 p1) 0) (fun _ => thenS (loop (ref01_Check_l2 p1) 0) (fun _ => some 0) (fun r => some r)) (fun r => some r)))

/-- kerbstone/kerbstoneref01.Check -/
def ac21 : AC :=
  (.seq (.reg [⟨(some 1), .box 24 true (.t 0), none⟩, ⟨(some 2), .mv (.c (.v (.int .i64 0))), none⟩])
  (.seq (.seq (.reg [⟨(some 7), .fieldA 0 (.t 1), none⟩, ⟨(some 8), .load 1 false (.t 7), none⟩, ⟨(some 9), .len (.t 8), none⟩, ⟨(some 10), .bin .lss (.t 9) (.c (.v (.int .i64 2))), none⟩])
  (.cond (.t 10)
    (.seq (.reg [⟨(some 2), .mv (.c (.v (.int .i64 6))), none⟩])
    .ret)
    .skip))
  (.seq (.seq (.reg [⟨(some 11), .fieldA 0 (.t 1), none⟩, ⟨(some 12), .load 1 false (.t 11), none⟩, ⟨(some 13), .len (.t 12), none⟩, ⟨(some 14), .bin .gtr (.t 13) (.c (.v (.int .i64 16))), none⟩])
  (.cond (.t 14)
    (.seq (.reg [⟨(some 2), .mv (.c (.v (.int .i64 5))), none⟩])
    .ret)
    .skip))
  (.seq (.seq (.reg [⟨(some 3), .mv (.c (.v (.int .i64 0))), none⟩])
  (.block 0
    (.loop
      (.seq (.seq (.reg [⟨(some 15), .mv (.t 3), none⟩, ⟨(some 16), .fieldA 0 (.t 1), none⟩, ⟨(some 17), .load 1 false (.t 16), none⟩, ⟨(some 18), .len (.t 17), none⟩, ⟨(some 19), .bin .lss (.t 15) (.t 18), none⟩])
      (.cond (.t 19)
        .skip
        (.exit 0)))
      (.seq (.block 1
        (.seq (.reg [⟨(some 22), .fieldA 0 (.t 1), none⟩, ⟨(some 23), .load 1 false (.t 22), none⟩, ⟨(some 24), .mv (.t 3), none⟩, ⟨(some 25), .idxS 2 (.t 23) (.t 24), none⟩, ⟨(some 26), .load 2 true (.t 25), none⟩, ⟨(some 27), .call (.c (.fn (.func 63) [] [])) [(.t 26)], none⟩, ⟨(some 28), .un .not (.t 27), none⟩])
        (.cond (.t 28)
          (.seq (.reg [⟨(some 2), .mv (.c (.v (.int .i64 2))), none⟩])
          .ret)
          .skip)))
      (.reg [⟨(some 20), .mv (.t 3), none⟩, ⟨(some 21), .bin .add (.t 20) (.c (.v (.int .i64 1))), none⟩, ⟨(some 3), .mv (.t 21), none⟩]))))))
  (.seq (.seq (.reg [⟨(some 4), .mv (.c (.v (.int .i64 0))), none⟩])
  (.block 2
    (.loop
      (.seq (.seq (.reg [⟨(some 29), .mv (.t 4), none⟩, ⟨(some 30), .bin .add (.t 29) (.c (.v (.int .i64 1))), none⟩, ⟨(some 31), .fieldA 0 (.t 1), none⟩, ⟨(some 32), .load 1 false (.t 31), none⟩, ⟨(some 33), .len (.t 32), none⟩, ⟨(some 34), .bin .lss (.t 30) (.t 33), none⟩])
      (.cond (.t 34)
        .skip
        (.exit 2)))
      (.seq (.block 3
        (.seq (.draw [⟨(some 37), .fieldA 0 (.t 1), none⟩, ⟨(some 38), .load 1 false (.t 37), none⟩, ⟨(some 39), .mv (.t 4), none⟩, ⟨(some 40), .bin .add (.t 39) (.c (.v (.int .i64 1))), none⟩, ⟨(some 41), .idxS 2 (.t 38) (.t 40), none⟩, ⟨(some 42), .load 2 true (.t 41), none⟩, ⟨(some 43), .fieldA 0 (.t 1), none⟩, ⟨(some 44), .load 1 false (.t 43), none⟩, ⟨(some 45), .mv (.t 4), none⟩, ⟨(some 46), .idxS 2 (.t 44) (.t 45), none⟩, ⟨(some 47), .load 2 true (.t 46), none⟩, ⟨(some 48), .call (.c (.fn (.func 40) [] [])) [(.t 42), (.t 47)], none⟩, ⟨(some 5), .alloc 43 [(.v (.int .i64 0)), (.v (.int .i64 0))], none⟩, ⟨none, .store 2 (.t 5) (.t 48), none⟩] [])
        (.seq (.reg [⟨(some 49), .load 2 true (.t 5), none⟩, ⟨(some 50), .load 2 true (.t 5), none⟩, ⟨(some 51), .call (.c (.fn (.func 65) [] [])) [(.t 49), (.t 50)], none⟩, ⟨(some 52), .call (.c (.fn (.func 64) [] [])) [(.t 51)], none⟩, ⟨(some 6), .mv (.t 52), none⟩])
        (.seq (.seq (.reg [⟨(some 53), .mv (.t 6), none⟩, ⟨(some 54), .mv (.t 6), none⟩, ⟨(some 55), .bin .mul (.t 53) (.t 54), none⟩, ⟨(some 56), .load 2 true (.t 5), none⟩, ⟨(some 57), .load 2 true (.t 5), none⟩, ⟨(some 58), .call (.c (.fn (.func 65) [] [])) [(.t 56), (.t 57)], none⟩, ⟨(some 59), .bin .neq (.t 55) (.t 58), none⟩])
        (.cond (.t 59)
          (.seq (.reg [⟨(some 2), .mv (.c (.v (.int .i64 3))), none⟩])
          .ret)
          .skip))
        (.seq (.seq (.reg [⟨(some 60), .mv (.t 6), none⟩, ⟨(some 61), .bin .lss (.t 60) (.c (.v (.int .i64 1000))), none⟩, ⟨(some 62), .mv (.t 61), none⟩, ⟨(some 63), .mv (.t 6), (some (62, false))⟩, ⟨(some 64), .bin .gtr (.t 63) (.c (.v (.int .i64 1048576))), (some (62, false))⟩, ⟨(some 65), .pick (.t 62) (.c (.v (.bool true))) (.t 64), none⟩])
        (.cond (.t 65)
          (.seq (.reg [⟨(some 2), .mv (.c (.v (.int .i64 2))), none⟩])
          .ret)
          .skip))
        (.seq (.draw [⟨(some 66), .mv (.t 4), none⟩, ⟨(some 67), .bin .gtr (.t 66) (.c (.v (.int .i64 0))), none⟩, ⟨(some 68), .mv (.t 67), none⟩, ⟨(some 69), .load 2 true (.t 5), (some (68, true))⟩, ⟨(some 70), .fieldA 0 (.t 1), (some (68, true))⟩, ⟨(some 71), .load 1 false (.t 70), (some (68, true))⟩, ⟨(some 72), .mv (.t 4), (some (68, true))⟩, ⟨(some 73), .idxS 2 (.t 71) (.t 72), (some (68, true))⟩, ⟨(some 74), .load 2 true (.t 73), (some (68, true))⟩, ⟨(some 75), .fieldA 0 (.t 1), (some (68, true))⟩, ⟨(some 76), .load 1 false (.t 75), (some (68, true))⟩, ⟨(some 77), .mv (.t 4), (some (68, true))⟩, ⟨(some 78), .bin .sub (.t 77) (.c (.v (.int .i64 1))), (some (68, true))⟩, ⟨(some 79), .idxS 2 (.t 76) (.t 78), (some (68, true))⟩, ⟨(some 80), .load 2 true (.t 79), (some (68, true))⟩, ⟨(some 81), .call (.c (.fn (.func 40) [] [])) [(.t 74), (.t 80)], (some (68, true))⟩, ⟨(some 82), .call (.c (.fn (.func 65) [] [])) [(.t 69), (.t 81)], (some (68, true))⟩, ⟨(some 83), .bin .leq (.t 82) (.c (.v (.int .i64 0))), (some (68, true))⟩, ⟨(some 84), .pick (.t 68) (.t 83) (.c (.v (.bool false))), none⟩] [])
        (.cond (.t 84)
          (.seq (.reg [⟨(some 2), .mv (.c (.v (.int .i64 12))), none⟩])
          .ret)
          .skip)))))))
      (.reg [⟨(some 35), .mv (.t 4), none⟩, ⟨(some 36), .bin .add (.t 35) (.c (.v (.int .i64 1))), none⟩, ⟨(some 4), .mv (.t 36), none⟩]))))))
  (.seq (.reg [⟨(some 2), .mv (.c (.v (.int .i64 0))), none⟩])
  .ret))))))
theorem fn21 : FnOK Try.prog 21 85 [.t 2] ac21 := ⟨_, _, Try.func21, rfl, Try.ntmps21, by kernel_rfl, ⟨fun _ => allD', by kernel_rfl⟩, by kernel_rfl⟩
theorem ref01_Check_ok (p1 : Curve) (r : Int) (h : ref01_Check p1 = some r) : PCall Try.prog 21 [(.agg [(.list (List.map eSpot p1.Pts))])] (i64 r) := by
  refine l_call fn21 (Nat.le_of_ble_eq_true rfl) ?_
  unfold ref01_Check at h
  unfold ac21
  refine (l_sub (s0 := ⟨T [(0, (.d (.agg [(.list (List.map eSpot p1.Pts))])))], G []⟩) (sb_of ⟨.of rfl, trivial⟩ trivial) ?_)
  refine l_seq ?_
  refine l_reg fun u1 hu1 => ?_
  refine s_new (.ptr _ _) (.box _ _) rfl rfl ?_
  refine s_val (.d _) rfl rfl ?_
  refine s_nil ?_
  refine l_seq ?_
  refine l_seq ?_
  refine l_reg fun u2 hu2 => ?_
  refine s_val (.ptr _ _) rfl rfl ?_
  refine s_val (.d _) rfl (v_load rfl G_hit rfl) ?_
  refine s_val (.d _) rfl (v_len rfl) ?_
  refine s_val (.d _) rfl rfl ?_
  refine s_nil ?_
  refine l_cond (decide ((p1.Pts.length : Int) < 2)) rfl (fun c1 => ?_) (fun c1 => ?_)
  · replace h := cond_t c1 h
    refine l_seq ?_
    refine l_reg fun u3 hu3 => ?_
    refine s_val (.d _) rfl rfl ?_
    refine s_nil ?_
    refine l_ret ?_
    obtain rfl := Option.some.inj h
    refine fin_ok (.inr rfl) (resD1 (res_t rfl) rf_d) ?_
    exact (.refl _)
  · replace h := cond_f c1 h
    refine l_skip ?_
    refine l_seq ?_
    refine l_seq ?_
    refine l_reg fun u4 hu4 => ?_
    refine s_val (.ptr _ _) rfl rfl ?_
    refine s_val (.d _) rfl (v_load rfl G_hit rfl) ?_
    refine s_val (.d _) rfl (v_len rfl) ?_
    refine s_val (.d _) rfl rfl ?_
    refine s_nil ?_
    refine l_cond (decide ((p1.Pts.length : Int) > 16)) rfl (fun c2 => ?_) (fun c2 => ?_)
    · replace h := cond_t c2 h
      refine l_seq ?_
      refine l_reg fun u5 hu5 => ?_
      refine s_val (.d _) rfl rfl ?_
      refine s_nil ?_
      refine l_ret ?_
      obtain rfl := Option.some.inj h
      refine fin_ok (.inr rfl) (resD1 (res_t rfl) rf_d) ?_
      exact (.refl _)
    · replace h := cond_f c2 h
      refine l_skip ?_
      refine l_seq ?_
      refine l_seq ?_
      refine l_reg fun u6 hu6 => ?_
      refine s_val (.d _) rfl rfl ?_
      refine s_nil ?_
      obtain ⟨z1, hz1, h⟩ := thenS_some h
      refine l_join (fun s => ∃ (y1 : Unit) (g1 : Unit), z1 = .inl y1 ∧ Sb ⟨T [(1, (.ptr (1, u1) 0))], G [((1, u1), some (.box 24 [(.d (.list (List.map eSpot p1.Pts)))]))]⟩ s) ?_ ?_
      · skip
        refine l_block ?_
        refine l_loop (ref01_Check_l1 p1) (fun (x1 : Int) (g2 : Unit) => ⟨T [(1, (.ptr (1, u1) 0)), (3, (.d (i64 x1)))], G [((1, u1), some (.box 24 [(.d (.list (List.map eSpot p1.Pts)))]))]⟩) 0 () _ hz1 (sb_of ⟨.of rfl, .of rfl, trivial⟩ (sbG_some G_hit (.of rfl) trivial)) ?_
        intro x1 g2 z2 hz2 ez2
        unfold ref01_Check_l1 at hz2
        refine l_seq ?_
        refine l_seq ?_
        refine l_reg fun u7 hu7 => ?_
        refine s_val (.d _) rfl rfl ?_
        refine s_val (.ptr _ _) rfl rfl ?_
        refine s_val (.d _) rfl (v_load rfl G_hit rfl) ?_
        refine s_val (.d _) rfl (v_len rfl) ?_
        refine s_val (.d _) rfl rfl ?_
        refine s_nil ?_
        refine l_cond (decide (x1 < (p1.Pts.length : Int))) rfl (fun c3 => ?_) (fun c3 => ?_)
        · replace hz2 := cond_t c3 hz2
          refine l_skip ?_
          refine l_seq ?_
          refine l_block ?_
          refine l_seq ?_
          refine l_reg fun u8 hu8 => ?_
          refine s_val (.ptr _ _) rfl rfl ?_
          refine s_val (.d _) rfl (v_load rfl G_hit rfl) ?_
          refine s_val (.d _) rfl rfl ?_
          obtain ⟨v1, hv1, hz2⟩ := bind_some hz2
          refine s_val (.d _) rfl (v_idx rfl rfl hv1 rfl) ?_
          refine s_val (.d _) rfl (v_loadLG rfl hv1 rfl rfl) ?_
          obtain ⟨v2, hv2, hz2⟩ := bind_some hz2
          refine s_call rfl rfl all2_refl (ref01_Valid_ok _  _ hv2) (.inl rfl) ?_
          refine s_val (.d _) rfl rfl ?_
          refine s_nil ?_
          refine l_cond (!v2) rfl (fun c4 => ?_) (fun c4 => ?_)
          · replace hz2 := cond_t c4 hz2
            refine l_seq ?_
            refine l_reg fun u9 hu9 => ?_
            refine s_val (.d _) rfl rfl ?_
            refine s_nil ?_
            refine l_ret ?_
            obtain rfl := Option.some.inj hz2
            obtain rfl := ez2 _ rfl
            refine ⟨nofun, awl_ret ?_⟩
            rw [Sum.elim_inr] at h
            obtain rfl := Option.some.inj h
            refine fin_ok (.inr rfl) (resD1 (res_t rfl) rf_d) ?_
            exact (.refl _)
          · replace hz2 := cond_f c4 hz2
            refine l_skip ?_
            refine l_end ?_
            refine l_reg fun u10 hu10 => ?_
            refine s_val (.d _) rfl rfl ?_
            refine s_val (.d _) rfl rfl ?_
            refine s_val (.d _) rfl rfl ?_
            refine s_nil ?_
            refine l_nil ?_
            obtain rfl := Option.some.inj hz2
            exact ⟨rfl, (), (sb_of ⟨.of rfl, .of rfl, trivial⟩ (sbG_some G_hit (.of rfl) trivial))⟩
        · replace hz2 := cond_f c3 hz2
          refine l_exitN rfl ?_
          obtain rfl := Option.some.inj hz2
          obtain rfl := ez2 _ rfl
          refine ⟨nofun, awl_pop rfl (l_j ?_)⟩
          exact ⟨_, (), rfl, (sb_of ⟨.of rfl, trivial⟩ (sbG_some G_hit (.of rfl) trivial))⟩
      · rintro _ ⟨y1, g1, rfl, q1⟩
        rw [Sum.elim_inl] at h
        refine l_sub q1 ?_
        refine l_seq ?_
        refine l_seq ?_
        refine l_reg fun u11 hu11 => ?_
        refine s_val (.d _) rfl rfl ?_
        refine s_nil ?_
        obtain ⟨z3, hz3, h⟩ := thenS_some h
        refine l_join (fun s => ∃ (y2 : Unit) (g3 : Unit), z3 = .inl y2 ∧ Sb ⟨T [], G []⟩ s) ?_ ?_
        · skip
          refine l_block ?_
          refine l_loop (ref01_Check_l2 p1) (fun (x2 : Int) (g4 : Unit) => ⟨T [(1, (.ptr (1, u1) 0)), (4, (.d (i64 x2)))], G [((1, u1), some (.box 24 [(.d (.list (List.map eSpot p1.Pts)))]))]⟩) 0 () _ hz3 (sb_of ⟨.of rfl, .of rfl, trivial⟩ (sbG_some G_hit (.of rfl) trivial)) ?_
          intro x2 g4 z4 hz4 ez4
          unfold ref01_Check_l2 at hz4
          refine l_seq ?_
          refine l_seq ?_
          refine l_reg fun u12 hu12 => ?_
          refine s_val (.d _) rfl rfl ?_
          refine s_val (.d _) rfl rfl ?_
          refine s_val (.ptr _ _) rfl rfl ?_
          refine s_val (.d _) rfl (v_load rfl G_hit rfl) ?_
          refine s_val (.d _) rfl (v_len rfl) ?_
          refine s_val (.d _) rfl rfl ?_
          refine s_nil ?_
          refine l_cond (decide ((w64 (x2 + 1)) < (p1.Pts.length : Int))) rfl (fun c5 => ?_) (fun c5 => ?_)
          · replace hz4 := cond_t c5 hz4
            refine l_skip ?_
            refine l_seq ?_
            refine l_block ?_
            refine l_seq ?_
            refine l_draw rfl fun u13 hu13 => ?_
            refine s_val (.ptr _ _) rfl rfl ?_
            refine s_val (.d _) rfl (v_load rfl G_hit rfl) ?_
            refine s_val (.d _) rfl rfl ?_
            refine s_val (.d _) rfl rfl ?_
            obtain ⟨v3, hv3, hz4⟩ := bind_some hz4
            refine s_val (.d _) rfl (v_idx rfl rfl hv3 rfl) ?_
            refine s_val (.d _) rfl (v_loadLG rfl hv3 rfl rfl) ?_
            refine s_val (.ptr _ _) rfl rfl ?_
            refine s_val (.d _) rfl (v_load rfl G_hit rfl) ?_
            refine s_val (.d _) rfl rfl ?_
            obtain ⟨v4, hv4, hz4⟩ := bind_some hz4
            refine s_val (.d _) rfl (v_idx rfl rfl hv4 rfl) ?_
            refine s_val (.d _) rfl (v_loadLG rfl hv4 rfl rfl) ?_
            obtain ⟨v5, hv5, hz4⟩ := bind_some hz4
            refine s_call rfl rfl all2_refl (ref01_Minus_ok _ _  _ hv5) (.inl rfl) ?_
            refine s_new (.ptr _ _) (.box _ _) rfl rfl ?_
            refine s_store _ _ _ _ _ rfl rfl rfl G_hit (Nat.le_of_ble_eq_true rfl) _ rfl ?_
            refine s_nil ?_
            refine l_seq ?_
            refine l_sub (s0 := ⟨T [(1, (.ptr (1, u1) 0)), (4, (.d (i64 x2))), (5, (.ptr (5, u13) 0))], G [((1, u1), some (.box 24 [(.d (.list (List.map eSpot p1.Pts)))])), ((5, u13), some (.box 43 [(.d (i64 v5.X)), (.d (i64 v5.Y))]))]⟩) (sb_of ⟨.of rfl, .of rfl, .of rfl, trivial⟩ (sbG_some (G_skip rfl (G_skip rfl G_hit)) (.of rfl) (sbG_some G_hit (.of rfl) trivial))) ?_
            refine l_reg fun u14 hu14 => ?_
            refine s_val (.d _) rfl (v_loadG rfl (G_skip rfl G_hit) rfl rfl) ?_
            refine s_val (.d _) rfl (v_loadG rfl (G_skip rfl G_hit) rfl rfl) ?_
            obtain ⟨v6, hv6, hz4⟩ := bind_some hz4
            refine s_call rfl rfl all2_refl (ref01_Dot_ok _ _  _ hv6) (.inl rfl) ?_
            obtain ⟨v7, hv7, hz4⟩ := bind_some hz4
            refine s_call rfl rfl all2_refl (ref01_root_ok _  _ hv7) (.inl rfl) ?_
            refine s_val (.d _) rfl rfl ?_
            refine s_nil ?_
            refine l_seq ?_
            refine l_seq ?_
            refine l_reg fun u15 hu15 => ?_
            refine s_val (.d _) rfl rfl ?_
            refine s_val (.d _) rfl rfl ?_
            refine s_val (.d _) rfl rfl ?_
            refine s_val (.d _) rfl (v_loadG rfl (G_skip rfl G_hit) rfl rfl) ?_
            refine s_val (.d _) rfl (v_loadG rfl (G_skip rfl G_hit) rfl rfl) ?_
            obtain ⟨v8, hv8, hz4⟩ := bind_some hz4
            refine s_call rfl rfl all2_refl (ref01_Dot_ok _ _  _ hv8) (.inl rfl) ?_
            refine s_val (.d _) rfl rfl ?_
            refine s_nil ?_
            refine l_cond ((w64 (v7 * v7)) != v8) rfl (fun c6 => ?_) (fun c6 => ?_)
            · replace hz4 := cond_t c6 hz4
              refine l_seq ?_
              refine l_reg fun u16 hu16 => ?_
              refine s_val (.d _) rfl rfl ?_
              refine s_nil ?_
              refine l_ret ?_
              obtain rfl := Option.some.inj hz4
              obtain rfl := ez4 _ rfl
              refine ⟨nofun, awl_ret ?_⟩
              rw [Sum.elim_inr] at h
              obtain rfl := Option.some.inj h
              refine fin_ok (.inr rfl) (resD1 (res_t rfl) rf_d) ?_
              exact (.refl _)
            · replace hz4 := cond_f c6 hz4
              refine l_skip ?_
              refine l_seq ?_
              refine l_seq ?_
              refine l_reg fun u17 hu17 => ?_
              refine s_val (.d _) rfl rfl ?_
              refine s_val (.d _) rfl rfl ?_
              refine s_val (.d _) rfl rfl ?_
              refine g_val (!(decide (v7 < 1000))) (.d _) rfl (gw_f rfl) (fun w1 => rfl) ?_
              refine g_val (!(decide (v7 < 1000))) (.d _) rfl (gw_f rfl) (fun w2 => (v_bin (gd_pos w2) rfl rfl)) ?_
              refine s_val (.d _) rfl (v_or rfl rfl (fun hc => gd_pos (not_t hc))) ?_
              refine s_nil ?_
              refine l_cond ((decide (v7 < 1000)) || (decide (v7 > 1048576))) rfl (fun c7 => ?_) (fun c7 => ?_)
              · replace hz4 := cond_t c7 hz4
                refine l_seq ?_
                refine l_sub (s0 := ⟨T [], G []⟩) (sb_of trivial trivial) ?_
                refine l_reg fun u18 hu18 => ?_
                refine s_val (.d _) rfl rfl ?_
                refine s_nil ?_
                refine l_ret ?_
                obtain rfl := Option.some.inj hz4
                obtain rfl := ez4 _ rfl
                refine ⟨nofun, awl_ret ?_⟩
                rw [Sum.elim_inr] at h
                obtain rfl := Option.some.inj h
                refine fin_ok (.inr rfl) (resD1 (res_t rfl) rf_d) ?_
                exact (.refl _)
              · replace hz4 := cond_f c7 hz4
                refine l_skip ?_
                refine l_seq ?_
                refine l_sub (s0 := ⟨T [(1, (.ptr (1, u1) 0)), (4, (.d (i64 x2))), (5, (.ptr (5, u13) 0)), (63, (gd (!(decide (v7 < 1000))) true (.d (i64 v7)))), (64, (gd (!(decide (v7 < 1000))) true (.d (bo (decide (v7 > 1048576))))))], G [((1, u1), some (.box 24 [(.d (.list (List.map eSpot p1.Pts)))])), ((5, u13), some (.box 43 [(.d (i64 v5.X)), (.d (i64 v5.Y))]))]⟩) (sb_of ⟨.of rfl, .of rfl, .of rfl, .of rfl, .of rfl, trivial⟩ (sbG_some G_hit (.of rfl) (sbG_some (G_skip rfl G_hit) (.of rfl) trivial))) ?_
                refine l_draw rfl fun u19 hu19 => ?_
                refine s_val (.d _) rfl rfl ?_
                refine s_val (.d _) rfl rfl ?_
                refine s_val (.d _) rfl rfl ?_
                refine g_val (decide (x2 > 0)) (.d _) rfl (gw_t rfl) (fun w3 => (v_loadG rfl (G_skip rfl G_hit) rfl rfl)) ?_
                refine g_val (decide (x2 > 0)) (.ptr _ _) rfl (gw_t rfl) (fun w4 => rfl) ?_
                refine g_val (decide (x2 > 0)) (.d _) rfl (gw_t rfl) (fun w5 => (v_load (gd_pos w5) G_hit rfl)) ?_
                refine g_val (decide (x2 > 0)) (.d _) rfl (gw_t rfl) (fun w6 => rfl) ?_
                obtain ⟨v9, hv9, hz4⟩ := bind_some hz4
                refine g_val (decide (x2 > 0)) (.d _) rfl (gw_t rfl) (fun w7 => (v_idx (gd_pos w7) (gd_pos w7) (cond_t w7 hv9) rfl)) ?_
                refine g_val (decide (x2 > 0)) (.d _) rfl (gw_t rfl) (fun w8 => (v_loadLG (gd_pos w8) (cond_t w8 hv9) rfl rfl)) ?_
                refine g_val (decide (x2 > 0)) (.ptr _ _) rfl (gw_t rfl) (fun w9 => rfl) ?_
                refine g_val (decide (x2 > 0)) (.d _) rfl (gw_t rfl) (fun w10 => (v_load (gd_pos w10) G_hit rfl)) ?_
                refine g_val (decide (x2 > 0)) (.d _) rfl (gw_t rfl) (fun w11 => rfl) ?_
                refine g_val (decide (x2 > 0)) (.d _) rfl (gw_t rfl) (fun w12 => (v_bin (gd_pos w12) rfl rfl)) ?_
                obtain ⟨v10, hv10, hz4⟩ := bind_some hz4
                refine g_val (decide (x2 > 0)) (.d _) rfl (gw_t rfl) (fun w13 => (v_idx (gd_pos w13) (gd_pos w13) (cond_t w13 hv10) rfl)) ?_
                refine g_val (decide (x2 > 0)) (.d _) rfl (gw_t rfl) (fun w14 => (v_loadLG (gd_pos w14) (cond_t w14 hv10) rfl rfl)) ?_
                obtain ⟨v11, hv11, hz4⟩ := bind_some hz4
                refine g_call (decide (x2 > 0)) (.agg [(i64 v11.X), (i64 v11.Y)]) (gw_t rfl) (fun w15 => ⟨_, [(.d (.agg [(i64 v9.X), (i64 v9.Y)])), (.d (.agg [(i64 v10.X), (i64 v10.Y)]))], _, _, (by simp only [gd_pos w15]; rfl), rfl, all2_refl, ref01_Minus_ok _ _  _ (cond_t w15 hv11), (.inl rfl)⟩) ?_
                obtain ⟨v12, hv12, hz4⟩ := bind_some hz4
                refine g_call (decide (x2 > 0)) (i64 v12) (gw_t rfl) (fun w16 => ⟨_, [(.d (.agg [(i64 v5.X), (i64 v5.Y)])), (.d (.agg [(i64 v11.X), (i64 v11.Y)]))], _, _, (by simp only [gd_pos w16]; rfl), rfl, all2_refl, ref01_Dot_ok _ _  _ (cond_t w16 hv12), (.inl rfl)⟩) ?_
                refine g_val (decide (x2 > 0)) (.d _) rfl (gw_t rfl) (fun w17 => (v_bin (gd_pos w17) rfl rfl)) ?_
                refine s_val (.d _) rfl (v_and rfl (fun hc => gd_pos hc) rfl) ?_
                refine s_nil ?_
                refine l_cond ((decide (x2 > 0)) && (decide (v12 ≤ 0))) rfl (fun c8 => ?_) (fun c8 => ?_)
                · replace hz4 := cond_t c8 hz4
                  refine l_seq ?_
                  refine l_sub (s0 := ⟨T [], G []⟩) (sb_of trivial trivial) ?_
                  refine l_reg fun u20 hu20 => ?_
                  refine s_val (.d _) rfl rfl ?_
                  refine s_nil ?_
                  refine l_ret ?_
                  obtain rfl := Option.some.inj hz4
                  obtain rfl := ez4 _ rfl
                  refine ⟨nofun, awl_ret ?_⟩
                  rw [Sum.elim_inr] at h
                  obtain rfl := Option.some.inj h
                  refine fin_ok (.inr rfl) (resD1 (res_t rfl) rf_d) ?_
                  exact (.refl _)
                · replace hz4 := cond_f c8 hz4
                  refine l_skip ?_
                  refine l_end ?_
                  refine l_reg fun u21 hu21 => ?_
                  refine s_val (.d _) rfl rfl ?_
                  refine s_val (.d _) rfl rfl ?_
                  refine s_val (.d _) rfl rfl ?_
                  refine s_nil ?_
                  refine l_nil ?_
                  obtain rfl := Option.some.inj hz4
                  exact ⟨rfl, (), (sb_of ⟨.of rfl, .of rfl, trivial⟩ (sbG_some G_hit (.of rfl) trivial))⟩
          · replace hz4 := cond_f c5 hz4
            refine l_exitN rfl ?_
            obtain rfl := Option.some.inj hz4
            obtain rfl := ez4 _ rfl
            refine ⟨nofun, awl_pop rfl (l_j ?_)⟩
            exact ⟨_, (), rfl, (sb_of trivial trivial)⟩
        · rintro _ ⟨y2, g3, rfl, q2⟩
          rw [Sum.elim_inl] at h
          refine l_sub q2 ?_
          refine l_seq ?_
          refine l_reg fun u22 hu22 => ?_
          refine s_val (.d _) rfl rfl ?_
          refine s_nil ?_
          refine l_ret ?_
          obtain rfl := Option.some.inj h
          refine fin_ok (.inr rfl) (resD1 (res_t rfl) rf_d) ?_
          exact (.refl _)

noncomputable def ref01_Pieces_l1 (p1 : Curve) (x1 : ((List Int) × Int)) : Option (Stp ((List Int) × Int) (List Int)) :=
  cond (decide ((w64 (x1.2 + 1)) < (p1.Pts.length : Int))) ((geti p1.Pts (w64 (x1.2 + 1))).bind fun v2 => (geti p1.Pts x1.2).bind fun v3 => (ref01_Minus v2 v3).bind fun v4 => (ref01_Dot v4 v4).bind fun v5 => (ref01_root v5).bind fun v6 => (appc x1.1 [v6]).bind fun v7 => some (.go (v7, (w64 (x1.2 + 1))))) (some (.out x1.1))
noncomputable def ref01_Pieces (p1 : Curve) : Option (List Int) :=
  (ref01_Check p1).bind fun v1 => cond (v1 != 0) (some []) ((loop (ref01_Pieces_l1 p1) ([], 0)).bind fun y1 => some y1)

/-- kerbstone/kerbstoneref01.Pieces -/
def ac26 : AC :=
  (.seq (.reg [⟨(some 1), .box 24 true (.t 0), none⟩, ⟨(some 2), .mv (.c .nilS), none⟩])
  (.seq (.seq (.reg [⟨(some 6), .load 1 true (.t 1), none⟩, ⟨(some 7), .call (.c (.fn (.func 21) [] [])) [(.t 6)], none⟩, ⟨(some 8), .bin .neq (.t 7) (.c (.v (.int .i64 0))), none⟩])
  (.cond (.t 8)
    (.seq (.reg [⟨(some 2), .mv (.c .nilS), none⟩])
    .ret)
    .skip))
  (.seq (.reg [⟨(some 3), .mv (.c .nilS), none⟩])
  (.seq (.seq (.reg [⟨(some 4), .mv (.c (.v (.int .i64 0))), none⟩])
  (.block 0
    (.loop
      (.seq (.seq (.reg [⟨(some 9), .mv (.t 4), none⟩, ⟨(some 10), .bin .add (.t 9) (.c (.v (.int .i64 1))), none⟩, ⟨(some 11), .fieldA 0 (.t 1), none⟩, ⟨(some 12), .load 1 false (.t 11), none⟩, ⟨(some 13), .len (.t 12), none⟩, ⟨(some 14), .bin .lss (.t 10) (.t 13), none⟩])
      (.cond (.t 14)
        .skip
        (.exit 0)))
      (.seq (.block 1
        (.seq (.draw [⟨(some 17), .fieldA 0 (.t 1), none⟩, ⟨(some 18), .load 1 false (.t 17), none⟩, ⟨(some 19), .mv (.t 4), none⟩, ⟨(some 20), .bin .add (.t 19) (.c (.v (.int .i64 1))), none⟩, ⟨(some 21), .idxS 2 (.t 18) (.t 20), none⟩, ⟨(some 22), .load 2 true (.t 21), none⟩, ⟨(some 23), .fieldA 0 (.t 1), none⟩, ⟨(some 24), .load 1 false (.t 23), none⟩, ⟨(some 25), .mv (.t 4), none⟩, ⟨(some 26), .idxS 2 (.t 24) (.t 25), none⟩, ⟨(some 27), .load 2 true (.t 26), none⟩, ⟨(some 28), .call (.c (.fn (.func 40) [] [])) [(.t 22), (.t 27)], none⟩, ⟨(some 5), .alloc 43 [(.v (.int .i64 0)), (.v (.int .i64 0))], none⟩, ⟨none, .store 2 (.t 5) (.t 28), none⟩] [])
        (.reg [⟨(some 29), .mv (.t 3), none⟩, ⟨(some 30), .load 2 true (.t 5), none⟩, ⟨(some 31), .load 2 true (.t 5), none⟩, ⟨(some 32), .call (.c (.fn (.func 65) [] [])) [(.t 30), (.t 31)], none⟩, ⟨(some 33), .call (.c (.fn (.func 64) [] [])) [(.t 32)], none⟩, ⟨(some 34), .dslice 2 1 1 [(.v (.int .i64 0))] [(0, 1, (.t 33))], none⟩, ⟨(some 35), .append 32 2 1 (.t 29) (.t 34), none⟩, ⟨(some 3), .mv (.t 35), none⟩])))
      (.reg [⟨(some 15), .mv (.t 4), none⟩, ⟨(some 16), .bin .add (.t 15) (.c (.v (.int .i64 1))), none⟩, ⟨(some 4), .mv (.t 16), none⟩]))))))
  (.seq (.reg [⟨(some 36), .mv (.t 3), none⟩, ⟨(some 2), .mv (.t 36), none⟩])
  .ret)))))
theorem fn26 : FnOK Try.prog 26 37 [.t 2] ac26 := ⟨_, _, Try.func26, rfl, Try.ntmps26, by kernel_rfl, ⟨fun _ => allD', by kernel_rfl⟩, by kernel_rfl⟩
theorem ref01_Pieces_ok (p1 : Curve) (r : (List Int)) (h : ref01_Pieces p1 = some r) : PCall Try.prog 26 [(.agg [(.list (List.map eSpot p1.Pts))])] (.list (List.map eInt_i64 r)) := by
  refine l_call fn26 (Nat.le_of_ble_eq_true rfl) ?_
  unfold ref01_Pieces at h
  unfold ac26
  refine (l_sub (s0 := ⟨T [(0, (.d (.agg [(.list (List.map eSpot p1.Pts))])))], G []⟩) (sb_of ⟨.of rfl, trivial⟩ trivial) ?_)
  refine l_seq ?_
  refine l_reg fun u1 hu1 => ?_
  refine s_new (.ptr _ _) (.box _ _) rfl rfl ?_
  refine s_val (.d _) rfl rfl ?_
  refine s_nil ?_
  refine l_seq ?_
  refine l_seq ?_
  refine l_reg fun u2 hu2 => ?_
  refine s_val (.d _) rfl (v_loadG rfl G_hit rfl rfl) ?_
  obtain ⟨v1, hv1, h⟩ := bind_some h
  refine s_call rfl rfl all2_refl (ref01_Check_ok _  _ hv1) (.inl rfl) ?_
  refine s_val (.d _) rfl rfl ?_
  refine s_nil ?_
  refine l_cond (v1 != 0) rfl (fun c1 => ?_) (fun c1 => ?_)
  · replace h := cond_t c1 h
    refine l_seq ?_
    refine l_reg fun u3 hu3 => ?_
    refine s_val (.d _) rfl rfl ?_
    refine s_nil ?_
    refine l_ret ?_
    obtain rfl := Option.some.inj h
    refine fin_ok (.inr rfl) (resD1 (res_t rfl) rf_d) ?_
    exact DLe.nil
  · replace h := cond_f c1 h
    refine l_skip ?_
    refine l_seq ?_
    refine l_reg fun u4 hu4 => ?_
    refine s_val (.d _) rfl rfl ?_
    refine s_nil ?_
    refine l_seq ?_
    refine l_seq ?_
    refine l_reg fun u5 hu5 => ?_
    refine s_val (.d _) rfl rfl ?_
    refine s_nil ?_
    obtain ⟨y1, hy1, h⟩ := bind_some h
    refine l_join (fun s => ∃ g1 : Nat, Sb ⟨T [(3, (oS y1 (35, g1)))], G [((35, g1), oB 2 1 eInt_i64 y1)]⟩ s) ?_ ?_
    · skip
      refine l_block ?_
      refine l_loop (ref01_Pieces_l1 p1) (fun (x1 : ((List Int) × Int)) (g2 : Nat) => ⟨T [(1, (.ptr (1, u1) 0)), (3, (oS x1.1 (35, g2))), (4, (.d (i64 x1.2)))], G [((1, u1), some (.box 24 [(.d (.list (List.map eSpot p1.Pts)))])), ((35, g2), oB 2 1 eInt_i64 x1.1)]⟩) ([], 0) 0 _ hy1 (sb_of ⟨.of rfl, .of rfl, .of rfl, trivial⟩ (sbG_some G_hit (.of rfl) (sbG_nil trivial))) ?_
      intro x1 g2 z1 hz1 ez1
      unfold ref01_Pieces_l1 at hz1
      refine l_seq ?_
      refine l_seq ?_
      refine l_reg fun u6 hu6 => ?_
      refine s_val (.d _) rfl rfl ?_
      refine s_val (.d _) rfl rfl ?_
      refine s_val (.ptr _ _) rfl rfl ?_
      refine s_val (.d _) rfl (v_load rfl G_hit rfl) ?_
      refine s_val (.d _) rfl (v_len rfl) ?_
      refine s_val (.d _) rfl rfl ?_
      refine s_nil ?_
      refine l_cond (decide ((w64 (x1.2 + 1)) < (p1.Pts.length : Int))) rfl (fun c2 => ?_) (fun c2 => ?_)
      · replace hz1 := cond_t c2 hz1
        refine l_skip ?_
        refine l_seq ?_
        refine l_block ?_
        refine l_seq ?_
        refine l_draw rfl fun u7 hu7 => ?_
        refine s_val (.ptr _ _) rfl rfl ?_
        refine s_val (.d _) rfl (v_load rfl G_hit rfl) ?_
        refine s_val (.d _) rfl rfl ?_
        refine s_val (.d _) rfl rfl ?_
        obtain ⟨v2, hv2, hz1⟩ := bind_some hz1
        refine s_val (.d _) rfl (v_idx rfl rfl hv2 rfl) ?_
        refine s_val (.d _) rfl (v_loadLG rfl hv2 rfl rfl) ?_
        refine s_val (.ptr _ _) rfl rfl ?_
        refine s_val (.d _) rfl (v_load rfl G_hit rfl) ?_
        refine s_val (.d _) rfl rfl ?_
        obtain ⟨v3, hv3, hz1⟩ := bind_some hz1
        refine s_val (.d _) rfl (v_idx rfl rfl hv3 rfl) ?_
        refine s_val (.d _) rfl (v_loadLG rfl hv3 rfl rfl) ?_
        obtain ⟨v4, hv4, hz1⟩ := bind_some hz1
        refine s_call rfl rfl all2_refl (ref01_Minus_ok _ _  _ hv4) (.inl rfl) ?_
        refine s_new (.ptr _ _) (.box _ _) rfl rfl ?_
        refine s_store _ _ _ _ _ rfl rfl rfl G_hit (Nat.le_of_ble_eq_true rfl) _ rfl ?_
        refine s_nil ?_
        refine l_sub (s0 := ⟨T [(1, (.ptr (1, u1) 0)), (3, (oS x1.1 (35, g2))), (4, (.d (i64 x1.2))), (5, (.ptr (5, u7) 0))], G [((1, u1), some (.box 24 [(.d (.list (List.map eSpot p1.Pts)))])), ((35, g2), oB 2 1 eInt_i64 x1.1), ((5, u7), some (.box 43 [(.d (i64 v4.X)), (.d (i64 v4.Y))]))]⟩) (sb_of ⟨.of rfl, .of rfl, .of rfl, .of rfl, trivial⟩ (sbG_some (G_skip rfl (G_skip rfl G_hit)) (.of rfl) (sbG_oB (G_skip rfl (G_skip rfl (G_skip rfl G_hit))) (sbG_some G_hit (.of rfl) trivial)))) ?_
        refine l_reg fun u8 hu8 => ?_
        refine s_val (oS x1.1 (35, g2)) rfl rfl ?_
        refine s_val (.d _) rfl (v_loadG rfl (G_skip rfl (G_skip rfl G_hit)) rfl rfl) ?_
        refine s_val (.d _) rfl (v_loadG rfl (G_skip rfl (G_skip rfl G_hit)) rfl rfl) ?_
        obtain ⟨v5, hv5, hz1⟩ := bind_some hz1
        refine s_call rfl rfl all2_refl (ref01_Dot_ok _ _  _ hv5) (.inl rfl) ?_
        obtain ⟨v6, hv6, hz1⟩ := bind_some hz1
        refine s_call rfl rfl all2_refl (ref01_root_ok _  _ hv6) (.inl rfl) ?_
        refine s_val (.d (.list (List.map eInt_i64 [v6]))) rfl rfl ?_
        obtain ⟨v7, hv7, hz1⟩ := bind_some hz1
        refine s_appendO eInt_i64 (35, g2) x1.1 v6 [] _ (elems_list (fun _ => rfl)) rfl (G_skip rfl G_hit) hv7 ?_
        refine s_val (.sl _) rfl rfl ?_
        refine s_nil ?_
        refine l_end ?_
        refine l_reg fun u9 hu9 => ?_
        refine s_val (.d _) rfl rfl ?_
        refine s_val (.d _) rfl rfl ?_
        refine s_val (.d _) rfl rfl ?_
        refine s_nil ?_
        refine l_nil ?_
        obtain rfl := Option.some.inj hz1
        exact ⟨rfl, u8, (sb_of ⟨.of rfl, (.of (oS_ne (appc_ne hv7)).symm), .of rfl, trivial⟩ (sbG_some (G_skip rfl (G_skip rfl G_hit)) (.of rfl) (sbG_own G_hit trivial)))⟩
      · replace hz1 := cond_f c2 hz1
        refine l_exitN rfl ?_
        obtain rfl := Option.some.inj hz1
        obtain rfl := ez1 _ rfl
        refine ⟨nofun, awl_pop rfl (l_j ?_)⟩
        exact ⟨g2, (sb_of ⟨.of rfl, trivial⟩ (sbG_oB (G_skip rfl G_hit) trivial))⟩
    · rintro _ ⟨g1, q1⟩
      refine l_sub q1 ?_
      refine l_seq ?_
      refine l_reg fun u10 hu10 => ?_
      refine s_val (oS y1 (35, g1)) rfl rfl ?_
      refine s_val (oS y1 (35, g1)) rfl rfl ?_
      refine s_nil ?_
      refine l_ret ?_
      obtain rfl := Option.some.inj h
      refine fin_ok (.inr rfl) (resD1 (res_t rfl) (rf_oS G_hit)) ?_
      exact oD_le

noncomputable def ref01_stripes_l1 (p1 : Curve) (p2 : Int) (v1 : (List Int)) (x1 : ((List Ref01Stripe) × Int)) : Option (Stp ((List Ref01Stripe) × Int) (List Ref01Stripe)) :=
  cond (decide (x1.2 < (v1.length : Int))) ((geti p1.Pts x1.2).bind fun v2 => (geti p1.Pts (w64 (x1.2 + 1))).bind fun v3 => (geti p1.Pts x1.2).bind fun v4 => (ref01_Minus v3 v4).bind fun v5 => (geti v1 x1.2).bind fun v6 => (geti v1 x1.2).bind fun v7 => (appc x1.1 [(Ref01Stripe.mk v2 v5 v6 p2 0 v7)]).bind fun v8 => some (.go (v8, (w64 (x1.2 + 1))))) (some (.out x1.1))
noncomputable def ref01_stripes (p1 : Curve) (p2 : Int) : Option (List Ref01Stripe) :=
  (ref01_Pieces p1).bind fun v1 => (loop (ref01_stripes_l1 p1 p2 v1) ([], 0)).bind fun y1 => some y1

/-- kerbstone/kerbstoneref01.stripes -/
def ac83 : AC :=
  (.seq (.reg [⟨(some 2), .box 24 true (.t 0), none⟩, ⟨(some 4), .mv (.c .nilS), none⟩])
  (.seq (.reg [⟨(some 5), .mv (.c .nilS), none⟩])
  (.seq (.reg [⟨(some 8), .load 1 true (.t 2), none⟩, ⟨(some 9), .call (.c (.fn (.func 26) [] [])) [(.t 8)], none⟩, ⟨(some 6), .mv (.t 9), none⟩])
  (.seq (.seq (.reg [⟨(some 7), .mv (.c (.v (.int .i64 0))), none⟩])
  (.block 0
    (.loop
      (.seq (.seq (.reg [⟨(some 10), .mv (.t 7), none⟩, ⟨(some 11), .mv (.t 6), none⟩, ⟨(some 12), .len (.t 11), none⟩, ⟨(some 13), .bin .lss (.t 10) (.t 12), none⟩])
      (.cond (.t 13)
        .skip
        (.exit 0)))
      (.seq (.block 1
        (.draw [⟨(some 16), .mv (.t 5), none⟩, ⟨(some 17), .fieldA 0 (.t 2), none⟩, ⟨(some 18), .load 1 false (.t 17), none⟩, ⟨(some 19), .mv (.t 7), none⟩, ⟨(some 20), .idxS 2 (.t 18) (.t 19), none⟩, ⟨(some 21), .load 2 true (.t 20), none⟩, ⟨(some 22), .fieldA 0 (.t 2), none⟩, ⟨(some 23), .load 1 false (.t 22), none⟩, ⟨(some 24), .mv (.t 7), none⟩, ⟨(some 25), .bin .add (.t 24) (.c (.v (.int .i64 1))), none⟩, ⟨(some 26), .idxS 2 (.t 23) (.t 25), none⟩, ⟨(some 27), .load 2 true (.t 26), none⟩, ⟨(some 28), .fieldA 0 (.t 2), none⟩, ⟨(some 29), .load 1 false (.t 28), none⟩, ⟨(some 30), .mv (.t 7), none⟩, ⟨(some 31), .idxS 2 (.t 29) (.t 30), none⟩, ⟨(some 32), .load 2 true (.t 31), none⟩, ⟨(some 33), .call (.c (.fn (.func 40) [] [])) [(.t 27), (.t 32)], none⟩, ⟨(some 34), .mv (.t 6), none⟩, ⟨(some 35), .mv (.t 7), none⟩, ⟨(some 36), .idxS 1 (.t 34) (.t 35), none⟩, ⟨(some 37), .load 1 false (.t 36), none⟩, ⟨(some 38), .mv (.t 1), none⟩, ⟨(some 39), .mv (.t 6), none⟩, ⟨(some 40), .mv (.t 7), none⟩, ⟨(some 41), .idxS 1 (.t 39) (.t 40), none⟩, ⟨(some 42), .load 1 false (.t 41), none⟩, ⟨(some 43), .build [(.v (.int .i64 0)), (.v (.int .i64 0)), (.v (.int .i64 0)), (.v (.int .i64 0)), (.v (.int .i64 0)), (.v (.int .i64 0)), (.v (.int .i64 0)), (.v (.int .i64 0))] [(0, 2, (.t 21)), (2, 2, (.t 33)), (4, 1, (.t 37)), (5, 1, (.t 38)), (7, 1, (.t 42))], none⟩, ⟨(some 44), .dslice 110 8 1 [(.v (.int .i64 0)), (.v (.int .i64 0)), (.v (.int .i64 0)), (.v (.int .i64 0)), (.v (.int .i64 0)), (.v (.int .i64 0)), (.v (.int .i64 0)), (.v (.int .i64 0))] [(0, 8, (.t 43))], none⟩, ⟨(some 45), .append 106 110 8 (.t 16) (.t 44), none⟩, ⟨(some 5), .mv (.t 45), none⟩] []))
      (.reg [⟨(some 14), .mv (.t 7), none⟩, ⟨(some 15), .bin .add (.t 14) (.c (.v (.int .i64 1))), none⟩, ⟨(some 7), .mv (.t 15), none⟩]))))))
  (.seq (.reg [⟨(some 46), .mv (.t 5), none⟩, ⟨(some 4), .mv (.t 46), none⟩])
  .ret)))))
theorem fn83 : FnOK Try.prog 83 47 [.t 4] ac83 := ⟨_, _, Try.func83, rfl, Try.ntmps83, by kernel_rfl, ⟨fun _ => allD', by kernel_rfl⟩, by kernel_rfl⟩
theorem ref01_stripes_ok (p1 : Curve) (p2 : Int) (r : (List Ref01Stripe)) (h : ref01_stripes p1 p2 = some r) : PCall Try.prog 83 [(.agg [(.list (List.map eSpot p1.Pts))]), (i64 p2)] (.list (List.map eRef01Stripe r)) := by
  refine l_call fn83 (Nat.le_of_ble_eq_true rfl) ?_
  unfold ref01_stripes at h
  unfold ac83
  refine (l_sub (s0 := ⟨T [(0, (.d (.agg [(.list (List.map eSpot p1.Pts))]))), (1, (.d (i64 p2)))], G []⟩) (sb_of ⟨.of rfl, .of rfl, trivial⟩ trivial) ?_)
  refine l_seq ?_
  refine l_reg fun u1 hu1 => ?_
  refine s_new (.ptr _ _) (.box _ _) rfl rfl ?_
  refine s_val (.d _) rfl rfl ?_
  refine s_nil ?_
  refine l_seq ?_
  refine l_reg fun u2 hu2 => ?_
  refine s_val (.d _) rfl rfl ?_
  refine s_nil ?_
  refine l_seq ?_
  refine l_reg fun u3 hu3 => ?_
  refine s_val (.d _) rfl (v_loadG rfl G_hit rfl rfl) ?_
  obtain ⟨v1, hv1, h⟩ := bind_some h
  refine s_call rfl rfl all2_refl (ref01_Pieces_ok _  _ hv1) (.inl rfl) ?_
  refine s_val (.d _) rfl rfl ?_
  refine s_nil ?_
  refine l_seq ?_
  refine l_seq ?_
  refine l_reg fun u4 hu4 => ?_
  refine s_val (.d _) rfl rfl ?_
  refine s_nil ?_
  obtain ⟨y1, hy1, h⟩ := bind_some h
  refine l_join (fun s => ∃ g1 : Nat, Sb ⟨T [(5, (oS y1 (45, g1)))], G [((45, g1), oB 110 8 eRef01Stripe y1)]⟩ s) ?_ ?_
  · skip
    refine l_block ?_
    refine l_loop (ref01_stripes_l1 p1 p2 v1) (fun (x1 : ((List Ref01Stripe) × Int)) (g2 : Nat) => ⟨T [(1, (.d (i64 p2))), (2, (.ptr (2, u1) 0)), (5, (oS x1.1 (45, g2))), (6, (.d (.list (List.map eInt_i64 v1)))), (7, (.d (i64 x1.2)))], G [((2, u1), some (.box 24 [(.d (.list (List.map eSpot p1.Pts)))])), ((45, g2), oB 110 8 eRef01Stripe x1.1)]⟩) ([], 0) 0 _ hy1 (sb_of ⟨.of rfl, .of rfl, .of rfl, .of rfl, .of rfl, trivial⟩ (sbG_some G_hit (.of rfl) (sbG_nil trivial))) ?_
    intro x1 g2 z1 hz1 ez1
    unfold ref01_stripes_l1 at hz1
    refine l_seq ?_
    refine l_seq ?_
    refine l_reg fun u5 hu5 => ?_
    refine s_val (.d _) rfl rfl ?_
    refine s_val (.d _) rfl rfl ?_
    refine s_val (.d _) rfl (v_len rfl) ?_
    refine s_val (.d _) rfl rfl ?_
    refine s_nil ?_
    refine l_cond (decide (x1.2 < (v1.length : Int))) rfl (fun c1 => ?_) (fun c1 => ?_)
    · replace hz1 := cond_t c1 hz1
      refine l_skip ?_
      refine l_seq ?_
      refine l_block ?_
      refine l_draw rfl fun u6 hu6 => ?_
      refine s_val (oS x1.1 (45, g2)) rfl rfl ?_
      refine s_val (.ptr _ _) rfl rfl ?_
      refine s_val (.d _) rfl (v_load rfl G_hit rfl) ?_
      refine s_val (.d _) rfl rfl ?_
      obtain ⟨v2, hv2, hz1⟩ := bind_some hz1
      refine s_val (.d _) rfl (v_idx rfl rfl hv2 rfl) ?_
      refine s_val (.d _) rfl (v_loadLG rfl hv2 rfl rfl) ?_
      refine s_val (.ptr _ _) rfl rfl ?_
      refine s_val (.d _) rfl (v_load rfl G_hit rfl) ?_
      refine s_val (.d _) rfl rfl ?_
      refine s_val (.d _) rfl rfl ?_
      obtain ⟨v3, hv3, hz1⟩ := bind_some hz1
      refine s_val (.d _) rfl (v_idx rfl rfl hv3 rfl) ?_
      refine s_val (.d _) rfl (v_loadLG rfl hv3 rfl rfl) ?_
      refine s_val (.ptr _ _) rfl rfl ?_
      refine s_val (.d _) rfl (v_load rfl G_hit rfl) ?_
      refine s_val (.d _) rfl rfl ?_
      obtain ⟨v4, hv4, hz1⟩ := bind_some hz1
      refine s_val (.d _) rfl (v_idx rfl rfl hv4 rfl) ?_
      refine s_val (.d _) rfl (v_loadLG rfl hv4 rfl rfl) ?_
      obtain ⟨v5, hv5, hz1⟩ := bind_some hz1
      refine s_call rfl rfl all2_refl (ref01_Minus_ok _ _  _ hv5) (.inl rfl) ?_
      refine s_val (.d _) rfl rfl ?_
      refine s_val (.d _) rfl rfl ?_
      obtain ⟨v6, hv6, hz1⟩ := bind_some hz1
      refine s_val (.d _) rfl (v_idx rfl rfl hv6 rfl) ?_
      refine s_val (.d _) rfl (v_loadL rfl hv6 rfl) ?_
      refine s_val (.d _) rfl rfl ?_
      refine s_val (.d _) rfl rfl ?_
      refine s_val (.d _) rfl rfl ?_
      obtain ⟨v7, hv7, hz1⟩ := bind_some hz1
      refine s_val (.d _) rfl (v_idx rfl rfl hv7 rfl) ?_
      refine s_val (.d _) rfl (v_loadL rfl hv7 rfl) ?_
      refine s_val (.d _) rfl rfl ?_
      refine s_val (.d (.list (List.map eRef01Stripe [(Ref01Stripe.mk v2 v5 v6 p2 0 v7)]))) rfl rfl ?_
      obtain ⟨v8, hv8, hz1⟩ := bind_some hz1
      refine s_appendO eRef01Stripe (45, g2) x1.1 (Ref01Stripe.mk v2 v5 v6 p2 0 v7) [] _ (elems_list (fun _ => rfl)) rfl (G_skip rfl G_hit) hv8 ?_
      refine s_val (.sl _) rfl rfl ?_
      refine s_nil ?_
      refine l_end ?_
      refine l_sub (s0 := ⟨T [(1, (.d (i64 p2))), (2, (.ptr (2, u1) 0)), (5, (.sl (45, u6))), (6, (.d (.list (List.map eInt_i64 v1)))), (7, (.d (i64 x1.2)))], G [((2, u1), some (.box 24 [(.d (.list (List.map eSpot p1.Pts)))])), ((45, u6), some (.arr 110 8 (List.map eRef01Stripe v8)))]⟩) (sb_of ⟨.of rfl, .of rfl, .of rfl, .of rfl, .of rfl, trivial⟩ (sbG_some (G_skip rfl (G_skip rfl G_hit)) (.of rfl) (sbG_some G_hit (.of rfl) trivial))) ?_
      refine l_reg fun u7 hu7 => ?_
      refine s_val (.d _) rfl rfl ?_
      refine s_val (.d _) rfl rfl ?_
      refine s_val (.d _) rfl rfl ?_
      refine s_nil ?_
      refine l_nil ?_
      obtain rfl := Option.some.inj hz1
      exact ⟨rfl, u6, (sb_of ⟨.of rfl, .of rfl, (.of (oS_ne (appc_ne hv8)).symm), .of rfl, .of rfl, trivial⟩ (sbG_some G_hit (.of rfl) (sbG_own (G_skip rfl G_hit) trivial)))⟩
    · replace hz1 := cond_f c1 hz1
      refine l_exitN rfl ?_
      obtain rfl := Option.some.inj hz1
      obtain rfl := ez1 _ rfl
      refine ⟨nofun, awl_pop rfl (l_j ?_)⟩
      exact ⟨g2, (sb_of ⟨.of rfl, trivial⟩ (sbG_oB (G_skip rfl G_hit) trivial))⟩
  · rintro _ ⟨g1, q1⟩
    refine l_sub q1 ?_
    refine l_seq ?_
    refine l_reg fun u8 hu8 => ?_
    refine s_val (oS y1 (45, g1)) rfl rfl ?_
    refine s_val (oS y1 (45, g1)) rfl rfl ?_
    refine s_nil ?_
    refine l_ret ?_
    obtain rfl := Option.some.inj h
    refine fin_ok (.inr rfl) (resD1 (res_t rfl) (rf_oS G_hit)) ?_
    exact oD_le

noncomputable def ref01_Cross (p1 : Spot) (p2 : Spot) : Option Int :=
  some (w64 ((w64 (p1.X * p2.Y)) - (w64 (p1.Y * p2.X))))

/-- kerbstone/kerbstoneref01.Cross -/
def ac76 : AC :=
  (.seq (.reg [⟨(some 2), .box 43 true (.t 0), none⟩, ⟨(some 3), .box 43 true (.t 1), none⟩, ⟨(some 4), .mv (.c (.v (.int .i64 0))), none⟩])
  (.seq (.reg [⟨(some 5), .fieldA 0 (.t 2), none⟩, ⟨(some 6), .load 1 false (.t 5), none⟩, ⟨(some 7), .fieldA 1 (.t 3), none⟩, ⟨(some 8), .load 1 false (.t 7), none⟩, ⟨(some 9), .bin .mul (.t 6) (.t 8), none⟩, ⟨(some 10), .fieldA 1 (.t 2), none⟩, ⟨(some 11), .load 1 false (.t 10), none⟩, ⟨(some 12), .fieldA 0 (.t 3), none⟩, ⟨(some 13), .load 1 false (.t 12), none⟩, ⟨(some 14), .bin .mul (.t 11) (.t 13), none⟩, ⟨(some 15), .bin .sub (.t 9) (.t 14), none⟩, ⟨(some 4), .mv (.t 15), none⟩])
  .ret))
theorem fn76 : FnOK Try.prog 76 16 [.t 4] ac76 := ⟨_, _, Try.func76, rfl, Try.ntmps76, by kernel_rfl, ⟨fun _ => allD', by kernel_rfl⟩, by kernel_rfl⟩
theorem ref01_Cross_ok (p1 : Spot) (p2 : Spot) (r : Int) (h : ref01_Cross p1 p2 = some r) : PCall Try.prog 76 [(.agg [(i64 p1.X), (i64 p1.Y)]), (.agg [(i64 p2.X), (i64 p2.Y)])] (i64 r) := by
  refine l_call fn76 (Nat.le_of_ble_eq_true rfl) ?_
  unfold ref01_Cross at h
  unfold ac76
  refine (l_sub (s0 := ⟨T [(0, (.d (.agg [(i64 p1.X), (i64 p1.Y)]))), (1, (.d (.agg [(i64 p2.X), (i64 p2.Y)])))], G []⟩) (sb_of ⟨.of rfl, .of rfl, trivial⟩ trivial) ?_)
  refine l_seq ?_
  refine l_reg fun u1 hu1 => ?_
  refine s_new (.ptr _ _) (.box _ _) rfl rfl ?_
  refine s_new (.ptr _ _) (.box _ _) rfl rfl ?_
  refine s_val (.d _) rfl rfl ?_
  refine s_nil ?_
  refine l_seq ?_
  refine l_reg fun u2 hu2 => ?_
  refine s_val (.ptr _ _) rfl rfl ?_
  refine s_val (.d _) rfl (v_load rfl (G_skip rfl G_hit) rfl) ?_
  refine s_val (.ptr _ _) rfl rfl ?_
  refine s_val (.d _) rfl (v_load rfl G_hit rfl) ?_
  refine s_val (.d _) rfl rfl ?_
  refine s_val (.ptr _ _) rfl rfl ?_
  refine s_val (.d _) rfl (v_load rfl (G_skip rfl G_hit) rfl) ?_
  refine s_val (.ptr _ _) rfl rfl ?_
  refine s_val (.d _) rfl (v_load rfl G_hit rfl) ?_
  refine s_val (.d _) rfl rfl ?_
  refine s_val (.d _) rfl rfl ?_
  refine s_val (.d _) rfl rfl ?_
  refine s_nil ?_
  refine l_ret ?_
  obtain rfl := Option.some.inj h
  refine fin_ok (.inr rfl) (resD1 (res_t rfl) rf_d) ?_
  exact (.refl _)

noncomputable def ref01_outside_l1 (p1 : Ref01Stripe) (p2 : Ref01Stripe) (v1 : Spot) (x1 : (Int × Int × Int × Int × Int)) : Option (Stp (Int × Int × Int × Int × Int) (Int × Int × Int × Int)) :=
  cond (decide (x1.2.2.2.2 < 4)) (((cond ((x1.2.2.2.2.tmod 2) == 1) (some p2.t) (some p2.s)).bind fun y3 => (cond (decide (x1.2.2.2.2 ≥ 2)) (some (w64 (0 - p2.h))) (some p2.h)).bind fun y4 => (ref01_Dot v1 p1.v).bind fun v2 => (ref01_Dot p2.v p1.v).bind fun v3 => (ref01_Dot (Spot.mk (w64 (0 - p2.v.Y)) p2.v.X) p1.v).bind fun v4 => (ref01_Cross p1.v v1).bind fun v5 => (ref01_Cross p1.v p2.v).bind fun v6 => (ref01_Cross p1.v (Spot.mk (w64 (0 - p2.v.Y)) p2.v.X)).bind fun v7 => (cond (x1.2.2.2.2 == 0) (some ((w64 ((w64 ((w64 (p2.l * v2)) + (w64 (y3 * v3)))) + (w64 (y4 * v4)))), (w64 ((w64 ((w64 (p2.l * v2)) + (w64 (y3 * v3)))) + (w64 (y4 * v4)))), (w64 ((w64 ((w64 (p2.l * v5)) + (w64 (y3 * v6)))) + (w64 (y4 * v7)))), (w64 ((w64 ((w64 (p2.l * v5)) + (w64 (y3 * v6)))) + (w64 (y4 * v7)))))) (some (x1.1, x1.2.1, x1.2.2.1, x1.2.2.2.1))).bind fun y5 => some ((mm2 false y5.1 (w64 ((w64 ((w64 (p2.l * v2)) + (w64 (y3 * v3)))) + (w64 (y4 * v4))))), (mm2 true y5.2.1 (w64 ((w64 ((w64 (p2.l * v2)) + (w64 (y3 * v3)))) + (w64 (y4 * v4))))), (mm2 false y5.2.2.1 (w64 ((w64 ((w64 (p2.l * v5)) + (w64 (y3 * v6)))) + (w64 (y4 * v7))))), (mm2 true y5.2.2.2 (w64 ((w64 ((w64 (p2.l * v5)) + (w64 (y3 * v6)))) + (w64 (y4 * v7))))))).bind fun y2 => some (.go (y2.1, y2.2.1, y2.2.2.1, y2.2.2.2, (w64 (x1.2.2.2.2 + 1))))) (some (.out (x1.1, x1.2.1, x1.2.2.1, x1.2.2.2.1)))
noncomputable def ref01_outside (p1 : Ref01Stripe) (p2 : Ref01Stripe) : Option Bool :=
  (ref01_Minus p2.p p1.p).bind fun v1 => (loop (ref01_outside_l1 p1 p2 v1) (0, 0, 0, 0, 0)).bind fun y1 => some ((((decide (y1.2.1 < (w64 (p1.s * (w64 (p1.l * p2.l)))))) || (decide (y1.1 > (w64 (p1.t * (w64 (p1.l * p2.l))))))) || (decide (y1.2.2.2 < (w64 ((w64 (0 - p1.h)) * (w64 (p1.l * p2.l))))))) || (decide (y1.2.2.1 > (w64 (p1.h * (w64 (p1.l * p2.l)))))))

/-- kerbstone/kerbstoneref01.outside -/
def ac88 : AC :=
  (.seq (.reg [⟨(some 2), .box 110 true (.t 0), none⟩, ⟨(some 3), .box 110 true (.t 1), none⟩, ⟨(some 4), .mv (.c (.v (.bool false))), none⟩])
  (.seq (.reg [⟨(some 17), .fieldA 2 (.t 3), none⟩, ⟨(some 18), .fieldA 1 (.t 17), none⟩, ⟨(some 19), .load 1 false (.t 18), none⟩, ⟨(some 20), .un .neg (.t 19), none⟩, ⟨(some 21), .fieldA 2 (.t 3), none⟩, ⟨(some 22), .fieldA 0 (.t 21), none⟩, ⟨(some 23), .load 1 false (.t 22), none⟩, ⟨(some 24), .build [(.v (.int .i64 0)), (.v (.int .i64 0))] [(0, 1, (.t 20)), (1, 1, (.t 23))], none⟩, ⟨(some 5), .alloc 43 [(.v (.int .i64 0)), (.v (.int .i64 0))], none⟩, ⟨none, .store 2 (.t 5) (.t 24), none⟩])
  (.seq (.reg [⟨(some 25), .fieldA 0 (.t 3), none⟩, ⟨(some 26), .load 2 true (.t 25), none⟩, ⟨(some 27), .fieldA 0 (.t 2), none⟩, ⟨(some 28), .load 2 true (.t 27), none⟩, ⟨(some 29), .call (.c (.fn (.func 40) [] [])) [(.t 26), (.t 28)], none⟩, ⟨(some 6), .alloc 43 [(.v (.int .i64 0)), (.v (.int .i64 0))], none⟩, ⟨none, .store 2 (.t 6) (.t 29), none⟩])
  (.seq (.reg [⟨(some 7), .mv (.c (.v (.int .i64 0))), none⟩, ⟨(some 8), .mv (.c (.v (.int .i64 0))), none⟩, ⟨(some 9), .mv (.c (.v (.int .i64 0))), none⟩, ⟨(some 10), .mv (.c (.v (.int .i64 0))), none⟩])
  (.seq (.seq (.reg [⟨(some 11), .mv (.c (.v (.int .i64 0))), none⟩])
  (.block 0
    (.loop
      (.seq (.seq (.reg [⟨(some 30), .mv (.t 11), none⟩, ⟨(some 31), .bin .lss (.t 30) (.c (.v (.int .i64 4))), none⟩])
      (.cond (.t 31)
        .skip
        (.exit 0)))
      (.seq (.block 1
        (.seq (.draw [⟨(some 34), .fieldA 6 (.t 3), none⟩, ⟨(some 35), .load 1 false (.t 34), none⟩, ⟨(some 36), .fieldA 5 (.t 3), none⟩, ⟨(some 37), .load 1 false (.t 36), none⟩, ⟨(some 12), .mv (.t 35), none⟩, ⟨(some 13), .mv (.t 37), none⟩] [])
        (.seq (.seq (.reg [⟨(some 38), .mv (.t 11), none⟩, ⟨(some 39), .bin .rem (.t 38) (.c (.v (.int .i64 2))), none⟩, ⟨(some 40), .bin .eql (.t 39) (.c (.v (.int .i64 1))), none⟩])
        (.cond (.t 40)
          (.reg [⟨(some 41), .fieldA 7 (.t 3), none⟩, ⟨(some 42), .load 1 false (.t 41), none⟩, ⟨(some 12), .mv (.t 42), none⟩])
          .skip))
        (.seq (.seq (.reg [⟨(some 43), .mv (.t 11), none⟩, ⟨(some 44), .bin .geq (.t 43) (.c (.v (.int .i64 2))), none⟩])
        (.cond (.t 44)
          (.reg [⟨(some 45), .fieldA 5 (.t 3), none⟩, ⟨(some 46), .load 1 false (.t 45), none⟩, ⟨(some 47), .un .neg (.t 46), none⟩, ⟨(some 13), .mv (.t 47), none⟩])
          .skip))
        (.seq (.draw [⟨(some 48), .fieldA 4 (.t 3), none⟩, ⟨(some 49), .load 1 false (.t 48), none⟩, ⟨(some 50), .load 2 true (.t 6), none⟩, ⟨(some 51), .fieldA 2 (.t 2), none⟩, ⟨(some 52), .load 2 true (.t 51), none⟩, ⟨(some 53), .call (.c (.fn (.func 65) [] [])) [(.t 50), (.t 52)], none⟩, ⟨(some 54), .bin .mul (.t 49) (.t 53), none⟩, ⟨(some 55), .mv (.t 12), none⟩, ⟨(some 56), .fieldA 2 (.t 3), none⟩, ⟨(some 57), .load 2 true (.t 56), none⟩, ⟨(some 58), .fieldA 2 (.t 2), none⟩, ⟨(some 59), .load 2 true (.t 58), none⟩, ⟨(some 60), .call (.c (.fn (.func 65) [] [])) [(.t 57), (.t 59)], none⟩, ⟨(some 61), .bin .mul (.t 55) (.t 60), none⟩, ⟨(some 62), .bin .add (.t 54) (.t 61), none⟩, ⟨(some 63), .mv (.t 13), none⟩, ⟨(some 64), .load 2 true (.t 5), none⟩, ⟨(some 65), .fieldA 2 (.t 2), none⟩, ⟨(some 66), .load 2 true (.t 65), none⟩, ⟨(some 67), .call (.c (.fn (.func 65) [] [])) [(.t 64), (.t 66)], none⟩, ⟨(some 68), .bin .mul (.t 63) (.t 67), none⟩, ⟨(some 69), .bin .add (.t 62) (.t 68), none⟩, ⟨(some 14), .mv (.t 69), none⟩] [])
        (.seq (.draw [⟨(some 70), .fieldA 4 (.t 3), none⟩, ⟨(some 71), .load 1 false (.t 70), none⟩, ⟨(some 72), .fieldA 2 (.t 2), none⟩, ⟨(some 73), .load 2 true (.t 72), none⟩, ⟨(some 74), .load 2 true (.t 6), none⟩, ⟨(some 75), .call (.c (.fn (.func 76) [] [])) [(.t 73), (.t 74)], none⟩, ⟨(some 76), .bin .mul (.t 71) (.t 75), none⟩, ⟨(some 77), .mv (.t 12), none⟩, ⟨(some 78), .fieldA 2 (.t 2), none⟩, ⟨(some 79), .load 2 true (.t 78), none⟩, ⟨(some 80), .fieldA 2 (.t 3), none⟩, ⟨(some 81), .load 2 true (.t 80), none⟩, ⟨(some 82), .call (.c (.fn (.func 76) [] [])) [(.t 79), (.t 81)], none⟩, ⟨(some 83), .bin .mul (.t 77) (.t 82), none⟩, ⟨(some 84), .bin .add (.t 76) (.t 83), none⟩, ⟨(some 85), .mv (.t 13), none⟩, ⟨(some 86), .fieldA 2 (.t 2), none⟩, ⟨(some 87), .load 2 true (.t 86), none⟩, ⟨(some 88), .load 2 true (.t 5), none⟩, ⟨(some 89), .call (.c (.fn (.func 76) [] [])) [(.t 87), (.t 88)], none⟩, ⟨(some 90), .bin .mul (.t 85) (.t 89), none⟩, ⟨(some 91), .bin .add (.t 84) (.t 90), none⟩, ⟨(some 15), .mv (.t 91), none⟩] [])
        (.seq (.seq (.reg [⟨(some 92), .mv (.t 11), none⟩, ⟨(some 93), .bin .eql (.t 92) (.c (.v (.int .i64 0))), none⟩])
        (.cond (.t 93)
          (.reg [⟨(some 94), .mv (.t 14), none⟩, ⟨(some 95), .mv (.t 14), none⟩, ⟨(some 96), .mv (.t 15), none⟩, ⟨(some 97), .mv (.t 15), none⟩, ⟨(some 7), .mv (.t 94), none⟩, ⟨(some 8), .mv (.t 95), none⟩, ⟨(some 9), .mv (.t 96), none⟩, ⟨(some 10), .mv (.t 97), none⟩])
          .skip))
        (.reg [⟨(some 98), .mv (.t 7), none⟩, ⟨(some 99), .mv (.t 14), none⟩, ⟨(some 100), .mm false (.t 98) [(.t 99)], none⟩, ⟨(some 101), .mv (.t 8), none⟩, ⟨(some 102), .mv (.t 14), none⟩, ⟨(some 103), .mm true (.t 101) [(.t 102)], none⟩, ⟨(some 104), .mv (.t 9), none⟩, ⟨(some 105), .mv (.t 15), none⟩, ⟨(some 106), .mm false (.t 104) [(.t 105)], none⟩, ⟨(some 107), .mv (.t 10), none⟩, ⟨(some 108), .mv (.t 15), none⟩, ⟨(some 109), .mm true (.t 107) [(.t 108)], none⟩, ⟨(some 7), .mv (.t 100), none⟩, ⟨(some 8), .mv (.t 103), none⟩, ⟨(some 9), .mv (.t 106), none⟩, ⟨(some 10), .mv (.t 109), none⟩]))))))))
      (.reg [⟨(some 32), .mv (.t 11), none⟩, ⟨(some 33), .bin .add (.t 32) (.c (.v (.int .i64 1))), none⟩, ⟨(some 11), .mv (.t 33), none⟩]))))))
  (.seq (.reg [⟨(some 110), .fieldA 4 (.t 2), none⟩, ⟨(some 111), .load 1 false (.t 110), none⟩, ⟨(some 112), .fieldA 4 (.t 3), none⟩, ⟨(some 113), .load 1 false (.t 112), none⟩, ⟨(some 114), .bin .mul (.t 111) (.t 113), none⟩, ⟨(some 16), .mv (.t 114), none⟩])
  (.seq (.reg [⟨(some 115), .mv (.t 8), none⟩, ⟨(some 116), .fieldA 6 (.t 2), none⟩, ⟨(some 117), .load 1 false (.t 116), none⟩, ⟨(some 118), .mv (.t 16), none⟩, ⟨(some 119), .bin .mul (.t 117) (.t 118), none⟩, ⟨(some 120), .bin .lss (.t 115) (.t 119), none⟩, ⟨(some 121), .mv (.t 120), none⟩, ⟨(some 122), .mv (.t 7), (some (121, false))⟩, ⟨(some 123), .fieldA 7 (.t 2), (some (121, false))⟩, ⟨(some 124), .load 1 false (.t 123), (some (121, false))⟩, ⟨(some 125), .mv (.t 16), (some (121, false))⟩, ⟨(some 126), .bin .mul (.t 124) (.t 125), (some (121, false))⟩, ⟨(some 127), .bin .gtr (.t 122) (.t 126), (some (121, false))⟩, ⟨(some 128), .pick (.t 121) (.c (.v (.bool true))) (.t 127), none⟩, ⟨(some 129), .mv (.t 128), none⟩, ⟨(some 130), .mv (.t 10), (some (129, false))⟩, ⟨(some 131), .fieldA 5 (.t 2), (some (129, false))⟩, ⟨(some 132), .load 1 false (.t 131), (some (129, false))⟩, ⟨(some 133), .un .neg (.t 132), (some (129, false))⟩, ⟨(some 134), .mv (.t 16), (some (129, false))⟩, ⟨(some 135), .bin .mul (.t 133) (.t 134), (some (129, false))⟩, ⟨(some 136), .bin .lss (.t 130) (.t 135), (some (129, false))⟩, ⟨(some 137), .pick (.t 129) (.c (.v (.bool true))) (.t 136), none⟩, ⟨(some 138), .mv (.t 137), none⟩, ⟨(some 139), .mv (.t 9), (some (138, false))⟩, ⟨(some 140), .fieldA 5 (.t 2), (some (138, false))⟩, ⟨(some 141), .load 1 false (.t 140), (some (138, false))⟩, ⟨(some 142), .mv (.t 16), (some (138, false))⟩, ⟨(some 143), .bin .mul (.t 141) (.t 142), (some (138, false))⟩, ⟨(some 144), .bin .gtr (.t 139) (.t 143), (some (138, false))⟩, ⟨(some 145), .pick (.t 138) (.c (.v (.bool true))) (.t 144), none⟩, ⟨(some 4), .mv (.t 145), none⟩])
  .ret)))))))
theorem fn88 : FnOK Try.prog 88 146 [.t 4] ac88 := ⟨_, _, Try.func88, rfl, Try.ntmps88, by kernel_rfl, ⟨fun _ => allD', by kernel_rfl⟩, by kernel_rfl⟩
theorem ref01_outside_ok (p1 : Ref01Stripe) (p2 : Ref01Stripe) (r : Bool) (h : ref01_outside p1 p2 = some r) : PCall Try.prog 88 [(.agg [(i64 p1.p.X), (i64 p1.p.Y), (i64 p1.v.X), (i64 p1.v.Y), (i64 p1.l), (i64 p1.h), (i64 p1.s), (i64 p1.t)]), (.agg [(i64 p2.p.X), (i64 p2.p.Y), (i64 p2.v.X), (i64 p2.v.Y), (i64 p2.l), (i64 p2.h), (i64 p2.s), (i64 p2.t)])] (bo r) := by
  refine l_call fn88 (Nat.le_of_ble_eq_true rfl) ?_
  unfold ref01_outside at h
  unfold ac88
  refine (l_sub (s0 := ⟨T [(0, (.d (.agg [(i64 p1.p.X), (i64 p1.p.Y), (i64 p1.v.X), (i64 p1.v.Y), (i64 p1.l), (i64 p1.h), (i64 p1.s), (i64 p1.t)]))), (1, (.d (.agg [(i64 p2.p.X), (i64 p2.p.Y), (i64 p2.v.X), (i64 p2.v.Y), (i64 p2.l), (i64 p2.h), (i64 p2.s), (i64 p2.t)])))], G []⟩) (sb_of ⟨.of rfl, .of rfl, trivial⟩ trivial) ?_)
  refine l_seq ?_
  refine l_reg fun u1 hu1 => ?_
  refine s_new (.ptr _ _) (.box _ _) rfl rfl ?_
  refine s_new (.ptr _ _) (.box _ _) rfl rfl ?_
  refine s_val (.d _) rfl rfl ?_
  refine s_nil ?_
  refine l_seq ?_
  refine l_reg fun u2 hu2 => ?_
  refine s_val (.ptr _ _) rfl rfl ?_
  refine s_val (.ptr _ _) rfl rfl ?_
  refine s_val (.d _) rfl (v_load rfl G_hit rfl) ?_
  refine s_val (.d _) rfl rfl ?_
  refine s_val (.ptr _ _) rfl rfl ?_
  refine s_val (.ptr _ _) rfl rfl ?_
  refine s_val (.d _) rfl (v_load rfl G_hit rfl) ?_
  refine s_val (.d _) rfl rfl ?_
  refine s_new (.ptr _ _) (.box _ _) rfl rfl ?_
  refine s_store _ _ _ _ _ rfl rfl rfl G_hit (Nat.le_of_ble_eq_true rfl) _ rfl ?_
  refine s_nil ?_
  refine l_seq ?_
  refine l_reg fun u3 hu3 => ?_
  refine s_val (.ptr _ _) rfl rfl ?_
  refine s_val (.d _) rfl (v_loadG rfl (G_skip rfl (G_skip rfl G_hit)) rfl rfl) ?_
  refine s_val (.ptr _ _) rfl rfl ?_
  refine s_val (.d _) rfl (v_loadG rfl (G_skip rfl (G_skip rfl (G_skip rfl G_hit))) rfl rfl) ?_
  obtain ⟨v1, hv1, h⟩ := bind_some h
  refine s_call rfl rfl all2_refl (ref01_Minus_ok _ _  _ hv1) (.inl rfl) ?_
  refine s_new (.ptr _ _) (.box _ _) rfl rfl ?_
  refine s_store _ _ _ _ _ rfl rfl rfl G_hit (Nat.le_of_ble_eq_true rfl) _ rfl ?_
  refine s_nil ?_
  refine l_seq ?_
  refine l_sub (s0 := ⟨T [(2, (.ptr (2, u1) 0)), (3, (.ptr (3, u1) 0)), (5, (.ptr (5, u2) 0)), (6, (.ptr (6, u3) 0))], G [((2, u1), some (.box 110 [(.d (i64 p1.p.X)), (.d (i64 p1.p.Y)), (.d (i64 p1.v.X)), (.d (i64 p1.v.Y)), (.d (i64 p1.l)), (.d (i64 p1.h)), (.d (i64 p1.s)), (.d (i64 p1.t))])), ((3, u1), some (.box 110 [(.d (i64 p2.p.X)), (.d (i64 p2.p.Y)), (.d (i64 p2.v.X)), (.d (i64 p2.v.Y)), (.d (i64 p2.l)), (.d (i64 p2.h)), (.d (i64 p2.s)), (.d (i64 p2.t))])), ((5, u2), some (.box 43 [(.d (i64 (w64 (0 - p2.v.Y)))), (.d (i64 p2.v.X))])), ((6, u3), some (.box 43 [(.d (i64 v1.X)), (.d (i64 v1.Y))]))]⟩) (sb_of ⟨.of rfl, .of rfl, .of rfl, .of rfl, trivial⟩ (sbG_some (G_skip rfl (G_skip rfl (G_skip rfl (G_skip rfl (G_skip rfl G_hit))))) (.of rfl) (sbG_some (G_skip rfl (G_skip rfl (G_skip rfl (G_skip rfl G_hit)))) (.of rfl) (sbG_some (G_skip rfl (G_skip rfl G_hit)) (.of rfl) (sbG_some G_hit (.of rfl) trivial))))) ?_
  refine l_reg fun u4 hu4 => ?_
  refine s_val (.d _) rfl rfl ?_
  refine s_val (.d _) rfl rfl ?_
  refine s_val (.d _) rfl rfl ?_
  refine s_val (.d _) rfl rfl ?_
  refine s_nil ?_
  refine l_seq ?_
  refine l_seq ?_
  refine l_reg fun u5 hu5 => ?_
  refine s_val (.d _) rfl rfl ?_
  refine s_nil ?_
  obtain ⟨y1, hy1, h⟩ := bind_some h
  refine l_join (fun s => ∃ g1 : Unit, Sb ⟨T [(2, (.ptr (2, u1) 0)), (3, (.ptr (3, u1) 0)), (7, (.d (i64 y1.1))), (8, (.d (i64 y1.2.1))), (9, (.d (i64 y1.2.2.1))), (10, (.d (i64 y1.2.2.2)))], G [((2, u1), some (.box 110 [(.d (i64 p1.p.X)), (.d (i64 p1.p.Y)), (.d (i64 p1.v.X)), (.d (i64 p1.v.Y)), (.d (i64 p1.l)), (.d (i64 p1.h)), (.d (i64 p1.s)), (.d (i64 p1.t))])), ((3, u1), some (.box 110 [(.d (i64 p2.p.X)), (.d (i64 p2.p.Y)), (.d (i64 p2.v.X)), (.d (i64 p2.v.Y)), (.d (i64 p2.l)), (.d (i64 p2.h)), (.d (i64 p2.s)), (.d (i64 p2.t))]))]⟩ s) ?_ ?_
  · skip
    refine l_block ?_
    refine l_loop (ref01_outside_l1 p1 p2 v1) (fun (x1 : (Int × Int × Int × Int × Int)) (g2 : Unit) => ⟨T [(2, (.ptr (2, u1) 0)), (3, (.ptr (3, u1) 0)), (5, (.ptr (5, u2) 0)), (6, (.ptr (6, u3) 0)), (7, (.d (i64 x1.1))), (8, (.d (i64 x1.2.1))), (9, (.d (i64 x1.2.2.1))), (10, (.d (i64 x1.2.2.2.1))), (11, (.d (i64 x1.2.2.2.2)))], G [((2, u1), some (.box 110 [(.d (i64 p1.p.X)), (.d (i64 p1.p.Y)), (.d (i64 p1.v.X)), (.d (i64 p1.v.Y)), (.d (i64 p1.l)), (.d (i64 p1.h)), (.d (i64 p1.s)), (.d (i64 p1.t))])), ((3, u1), some (.box 110 [(.d (i64 p2.p.X)), (.d (i64 p2.p.Y)), (.d (i64 p2.v.X)), (.d (i64 p2.v.Y)), (.d (i64 p2.l)), (.d (i64 p2.h)), (.d (i64 p2.s)), (.d (i64 p2.t))])), ((5, u2), some (.box 43 [(.d (i64 (w64 (0 - p2.v.Y)))), (.d (i64 p2.v.X))])), ((6, u3), some (.box 43 [(.d (i64 v1.X)), (.d (i64 v1.Y))]))]⟩) (0, 0, 0, 0, 0) () _ hy1 (sb_of ⟨.of rfl, .of rfl, .of rfl, .of rfl, .of rfl, .of rfl, .of rfl, .of rfl, .of rfl, trivial⟩ (sbG_some G_hit (.of rfl) (sbG_some (G_skip rfl G_hit) (.of rfl) (sbG_some (G_skip rfl (G_skip rfl G_hit)) (.of rfl) (sbG_some (G_skip rfl (G_skip rfl (G_skip rfl G_hit))) (.of rfl) trivial))))) ?_
    intro x1 g2 z1 hz1 ez1
    unfold ref01_outside_l1 at hz1
    refine l_seq ?_
    refine l_seq ?_
    refine l_reg fun u6 hu6 => ?_
    refine s_val (.d _) rfl rfl ?_
    refine s_val (.d _) rfl rfl ?_
    refine s_nil ?_
    refine l_cond (decide (x1.2.2.2.2 < 4)) rfl (fun c1 => ?_) (fun c1 => ?_)
    · replace hz1 := cond_t c1 hz1
      refine l_skip ?_
      refine l_seq ?_
      obtain ⟨y2, hy2, hz1⟩ := bind_some hz1
      refine l_join (fun s => ∃ g3 : Unit, Sb ⟨T [(2, (.ptr (2, u1) 0)), (3, (.ptr (3, u1) 0)), (5, (.ptr (5, u2) 0)), (6, (.ptr (6, u3) 0)), (7, (.d (i64 y2.1))), (8, (.d (i64 y2.2.1))), (9, (.d (i64 y2.2.2.1))), (10, (.d (i64 y2.2.2.2))), (11, (.d (i64 x1.2.2.2.2)))], G [((2, u1), some (.box 110 [(.d (i64 p1.p.X)), (.d (i64 p1.p.Y)), (.d (i64 p1.v.X)), (.d (i64 p1.v.Y)), (.d (i64 p1.l)), (.d (i64 p1.h)), (.d (i64 p1.s)), (.d (i64 p1.t))])), ((3, u1), some (.box 110 [(.d (i64 p2.p.X)), (.d (i64 p2.p.Y)), (.d (i64 p2.v.X)), (.d (i64 p2.v.Y)), (.d (i64 p2.l)), (.d (i64 p2.h)), (.d (i64 p2.s)), (.d (i64 p2.t))])), ((5, u2), some (.box 43 [(.d (i64 (w64 (0 - p2.v.Y)))), (.d (i64 p2.v.X))])), ((6, u3), some (.box 43 [(.d (i64 v1.X)), (.d (i64 v1.Y))]))]⟩ s) ?_ ?_
      · skip
        refine l_block ?_
        refine l_seq ?_
        refine l_draw rfl fun u7 hu7 => ?_
        refine s_val (.ptr _ _) rfl rfl ?_
        refine s_val (.d _) rfl (v_load rfl (G_skip rfl G_hit) rfl) ?_
        refine s_val (.ptr _ _) rfl rfl ?_
        refine s_val (.d _) rfl (v_load rfl (G_skip rfl G_hit) rfl) ?_
        refine s_val (.d _) rfl rfl ?_
        refine s_val (.d _) rfl rfl ?_
        refine s_nil ?_
        refine l_seq ?_
        refine l_seq ?_
        refine l_reg fun u8 hu8 => ?_
        refine s_val (.d _) rfl rfl ?_
        refine s_val (.d _) rfl rfl ?_
        refine s_val (.d _) rfl rfl ?_
        refine s_nil ?_
        obtain ⟨y3, hy3, hy2⟩ := bind_some hy2
        refine l_join (fun s => ∃ g4 : Unit, Sb ⟨T [(2, (.ptr (2, u1) 0)), (3, (.ptr (3, u1) 0)), (5, (.ptr (5, u2) 0)), (6, (.ptr (6, u3) 0)), (7, (.d (i64 x1.1))), (8, (.d (i64 x1.2.1))), (9, (.d (i64 x1.2.2.1))), (10, (.d (i64 x1.2.2.2.1))), (11, (.d (i64 x1.2.2.2.2))), (12, (.d (i64 y3))), (13, (.d (i64 p2.h)))], G [((2, u1), some (.box 110 [(.d (i64 p1.p.X)), (.d (i64 p1.p.Y)), (.d (i64 p1.v.X)), (.d (i64 p1.v.Y)), (.d (i64 p1.l)), (.d (i64 p1.h)), (.d (i64 p1.s)), (.d (i64 p1.t))])), ((3, u1), some (.box 110 [(.d (i64 p2.p.X)), (.d (i64 p2.p.Y)), (.d (i64 p2.v.X)), (.d (i64 p2.v.Y)), (.d (i64 p2.l)), (.d (i64 p2.h)), (.d (i64 p2.s)), (.d (i64 p2.t))])), ((5, u2), some (.box 43 [(.d (i64 (w64 (0 - p2.v.Y)))), (.d (i64 p2.v.X))])), ((6, u3), some (.box 43 [(.d (i64 v1.X)), (.d (i64 v1.Y))]))]⟩ s) ?_ ?_
        · skip
          refine l_cond ((x1.2.2.2.2.tmod 2) == 1) rfl (fun c2 => ?_) (fun c2 => ?_)
          · replace hy3 := cond_t c2 hy3
            refine l_sub (s0 := ⟨T [(2, (.ptr (2, u1) 0)), (3, (.ptr (3, u1) 0)), (5, (.ptr (5, u2) 0)), (6, (.ptr (6, u3) 0)), (7, (.d (i64 x1.1))), (8, (.d (i64 x1.2.1))), (9, (.d (i64 x1.2.2.1))), (10, (.d (i64 x1.2.2.2.1))), (11, (.d (i64 x1.2.2.2.2))), (13, (.d (i64 p2.h)))], G [((2, u1), some (.box 110 [(.d (i64 p1.p.X)), (.d (i64 p1.p.Y)), (.d (i64 p1.v.X)), (.d (i64 p1.v.Y)), (.d (i64 p1.l)), (.d (i64 p1.h)), (.d (i64 p1.s)), (.d (i64 p1.t))])), ((3, u1), some (.box 110 [(.d (i64 p2.p.X)), (.d (i64 p2.p.Y)), (.d (i64 p2.v.X)), (.d (i64 p2.v.Y)), (.d (i64 p2.l)), (.d (i64 p2.h)), (.d (i64 p2.s)), (.d (i64 p2.t))])), ((5, u2), some (.box 43 [(.d (i64 (w64 (0 - p2.v.Y)))), (.d (i64 p2.v.X))])), ((6, u3), some (.box 43 [(.d (i64 v1.X)), (.d (i64 v1.Y))]))]⟩) (sb_of ⟨.of rfl, .of rfl, .of rfl, .of rfl, .of rfl, .of rfl, .of rfl, .of rfl, .of rfl, .of rfl, trivial⟩ (sbG_some G_hit (.of rfl) (sbG_some (G_skip rfl G_hit) (.of rfl) (sbG_some (G_skip rfl (G_skip rfl G_hit)) (.of rfl) (sbG_some (G_skip rfl (G_skip rfl (G_skip rfl G_hit))) (.of rfl) trivial))))) ?_
            refine l_reg fun u9 hu9 => ?_
            refine s_val (.ptr _ _) rfl rfl ?_
            refine s_val (.d _) rfl (v_load rfl (G_skip rfl G_hit) rfl) ?_
            refine s_val (.d _) rfl rfl ?_
            refine s_nil ?_
            obtain rfl := Option.some.inj hy3
            exact l_j ⟨(), (sb_of ⟨.of rfl, .of rfl, .of rfl, .of rfl, .of rfl, .of rfl, .of rfl, .of rfl, .of rfl, .of rfl, .of rfl, trivial⟩ (sbG_some G_hit (.of rfl) (sbG_some (G_skip rfl G_hit) (.of rfl) (sbG_some (G_skip rfl (G_skip rfl G_hit)) (.of rfl) (sbG_some (G_skip rfl (G_skip rfl (G_skip rfl G_hit))) (.of rfl) trivial)))))⟩
          · replace hy3 := cond_f c2 hy3
            refine l_skip ?_
            obtain rfl := Option.some.inj hy3
            exact l_j ⟨(), (sb_of ⟨.of rfl, .of rfl, .of rfl, .of rfl, .of rfl, .of rfl, .of rfl, .of rfl, .of rfl, .of rfl, .of rfl, trivial⟩ (sbG_some G_hit (.of rfl) (sbG_some (G_skip rfl G_hit) (.of rfl) (sbG_some (G_skip rfl (G_skip rfl G_hit)) (.of rfl) (sbG_some (G_skip rfl (G_skip rfl (G_skip rfl G_hit))) (.of rfl) trivial)))))⟩
        · rintro _ ⟨g4, q1⟩
          refine l_sub q1 ?_
          refine l_seq ?_
          refine l_seq ?_
          refine l_reg fun u10 hu10 => ?_
          refine s_val (.d _) rfl rfl ?_
          refine s_val (.d _) rfl rfl ?_
          refine s_nil ?_
          obtain ⟨y4, hy4, hy2⟩ := bind_some hy2
          refine l_join (fun s => ∃ g5 : Unit, Sb ⟨T [(2, (.ptr (2, u1) 0)), (3, (.ptr (3, u1) 0)), (5, (.ptr (5, u2) 0)), (6, (.ptr (6, u3) 0)), (7, (.d (i64 x1.1))), (8, (.d (i64 x1.2.1))), (9, (.d (i64 x1.2.2.1))), (10, (.d (i64 x1.2.2.2.1))), (11, (.d (i64 x1.2.2.2.2))), (12, (.d (i64 y3))), (13, (.d (i64 y4)))], G [((2, u1), some (.box 110 [(.d (i64 p1.p.X)), (.d (i64 p1.p.Y)), (.d (i64 p1.v.X)), (.d (i64 p1.v.Y)), (.d (i64 p1.l)), (.d (i64 p1.h)), (.d (i64 p1.s)), (.d (i64 p1.t))])), ((3, u1), some (.box 110 [(.d (i64 p2.p.X)), (.d (i64 p2.p.Y)), (.d (i64 p2.v.X)), (.d (i64 p2.v.Y)), (.d (i64 p2.l)), (.d (i64 p2.h)), (.d (i64 p2.s)), (.d (i64 p2.t))])), ((5, u2), some (.box 43 [(.d (i64 (w64 (0 - p2.v.Y)))), (.d (i64 p2.v.X))])), ((6, u3), some (.box 43 [(.d (i64 v1.X)), (.d (i64 v1.Y))]))]⟩ s) ?_ ?_
          · skip
            refine l_cond (decide (x1.2.2.2.2 ≥ 2)) rfl (fun c3 => ?_) (fun c3 => ?_)
            · replace hy4 := cond_t c3 hy4
              refine l_reg fun u11 hu11 => ?_
              refine s_val (.ptr _ _) rfl rfl ?_
              refine s_val (.d _) rfl (v_load rfl (G_skip rfl G_hit) rfl) ?_
              refine s_val (.d _) rfl rfl ?_
              refine s_val (.d _) rfl rfl ?_
              refine s_nil ?_
              obtain rfl := Option.some.inj hy4
              exact l_j ⟨(), (sb_of ⟨.of rfl, .of rfl, .of rfl, .of rfl, .of rfl, .of rfl, .of rfl, .of rfl, .of rfl, .of rfl, .of rfl, trivial⟩ (sbG_some G_hit (.of rfl) (sbG_some (G_skip rfl G_hit) (.of rfl) (sbG_some (G_skip rfl (G_skip rfl G_hit)) (.of rfl) (sbG_some (G_skip rfl (G_skip rfl (G_skip rfl G_hit))) (.of rfl) trivial)))))⟩
            · replace hy4 := cond_f c3 hy4
              refine l_skip ?_
              obtain rfl := Option.some.inj hy4
              exact l_j ⟨(), (sb_of ⟨.of rfl, .of rfl, .of rfl, .of rfl, .of rfl, .of rfl, .of rfl, .of rfl, .of rfl, .of rfl, .of rfl, trivial⟩ (sbG_some G_hit (.of rfl) (sbG_some (G_skip rfl G_hit) (.of rfl) (sbG_some (G_skip rfl (G_skip rfl G_hit)) (.of rfl) (sbG_some (G_skip rfl (G_skip rfl (G_skip rfl G_hit))) (.of rfl) trivial)))))⟩
          · rintro _ ⟨g5, q2⟩
            refine l_sub q2 ?_
            refine l_seq ?_
            refine l_draw rfl fun u12 hu12 => ?_
            refine s_val (.ptr _ _) rfl rfl ?_
            refine s_val (.d _) rfl (v_load rfl (G_skip rfl G_hit) rfl) ?_
            refine s_val (.d _) rfl (v_loadG rfl (G_skip rfl (G_skip rfl (G_skip rfl G_hit))) rfl rfl) ?_
            refine s_val (.ptr _ _) rfl rfl ?_
            refine s_val (.d _) rfl (v_loadG rfl G_hit rfl rfl) ?_
            obtain ⟨v2, hv2, hy2⟩ := bind_some hy2
            refine s_call rfl rfl all2_refl (ref01_Dot_ok _ _  _ hv2) (.inl rfl) ?_
            refine s_val (.d _) rfl rfl ?_
            refine s_val (.d _) rfl rfl ?_
            refine s_val (.ptr _ _) rfl rfl ?_
            refine s_val (.d _) rfl (v_loadG rfl (G_skip rfl G_hit) rfl rfl) ?_
            refine s_val (.ptr _ _) rfl rfl ?_
            refine s_val (.d _) rfl (v_loadG rfl G_hit rfl rfl) ?_
            obtain ⟨v3, hv3, hy2⟩ := bind_some hy2
            refine s_call rfl rfl all2_refl (ref01_Dot_ok _ _  _ hv3) (.inl rfl) ?_
            refine s_val (.d _) rfl rfl ?_
            refine s_val (.d _) rfl rfl ?_
            refine s_val (.d _) rfl rfl ?_
            refine s_val (.d _) rfl (v_loadG rfl (G_skip rfl (G_skip rfl G_hit)) rfl rfl) ?_
            refine s_val (.ptr _ _) rfl rfl ?_
            refine s_val (.d _) rfl (v_loadG rfl G_hit rfl rfl) ?_
            obtain ⟨v4, hv4, hy2⟩ := bind_some hy2
            refine s_call rfl rfl all2_refl (ref01_Dot_ok _ _  _ hv4) (.inl rfl) ?_
            refine s_val (.d _) rfl rfl ?_
            refine s_val (.d _) rfl rfl ?_
            refine s_val (.d _) rfl rfl ?_
            refine s_nil ?_
            refine l_seq ?_
            refine l_sub (s0 := ⟨T [(2, (.ptr (2, u1) 0)), (3, (.ptr (3, u1) 0)), (5, (.ptr (5, u2) 0)), (6, (.ptr (6, u3) 0)), (7, (.d (i64 x1.1))), (8, (.d (i64 x1.2.1))), (9, (.d (i64 x1.2.2.1))), (10, (.d (i64 x1.2.2.2.1))), (11, (.d (i64 x1.2.2.2.2))), (12, (.d (i64 y3))), (13, (.d (i64 y4))), (14, (.d (i64 (w64 ((w64 ((w64 (p2.l * v2)) + (w64 (y3 * v3)))) + (w64 (y4 * v4)))))))], G [((2, u1), some (.box 110 [(.d (i64 p1.p.X)), (.d (i64 p1.p.Y)), (.d (i64 p1.v.X)), (.d (i64 p1.v.Y)), (.d (i64 p1.l)), (.d (i64 p1.h)), (.d (i64 p1.s)), (.d (i64 p1.t))])), ((3, u1), some (.box 110 [(.d (i64 p2.p.X)), (.d (i64 p2.p.Y)), (.d (i64 p2.v.X)), (.d (i64 p2.v.Y)), (.d (i64 p2.l)), (.d (i64 p2.h)), (.d (i64 p2.s)), (.d (i64 p2.t))])), ((5, u2), some (.box 43 [(.d (i64 (w64 (0 - p2.v.Y)))), (.d (i64 p2.v.X))])), ((6, u3), some (.box 43 [(.d (i64 v1.X)), (.d (i64 v1.Y))]))]⟩) (sb_of ⟨.of rfl, .of rfl, .of rfl, .of rfl, .of rfl, .of rfl, .of rfl, .of rfl, .of rfl, .of rfl, .of rfl, .of rfl, trivial⟩ (sbG_some G_hit (.of rfl) (sbG_some (G_skip rfl G_hit) (.of rfl) (sbG_some (G_skip rfl (G_skip rfl G_hit)) (.of rfl) (sbG_some (G_skip rfl (G_skip rfl (G_skip rfl G_hit))) (.of rfl) trivial))))) ?_
            refine l_draw rfl fun u13 hu13 => ?_
            refine s_val (.ptr _ _) rfl rfl ?_
            refine s_val (.d _) rfl (v_load rfl (G_skip rfl G_hit) rfl) ?_
            refine s_val (.ptr _ _) rfl rfl ?_
            refine s_val (.d _) rfl (v_loadG rfl G_hit rfl rfl) ?_
            refine s_val (.d _) rfl (v_loadG rfl (G_skip rfl (G_skip rfl (G_skip rfl G_hit))) rfl rfl) ?_
            obtain ⟨v5, hv5, hy2⟩ := bind_some hy2
            refine s_call rfl rfl all2_refl (ref01_Cross_ok _ _  _ hv5) (.inl rfl) ?_
            refine s_val (.d _) rfl rfl ?_
            refine s_val (.d _) rfl rfl ?_
            refine s_val (.ptr _ _) rfl rfl ?_
            refine s_val (.d _) rfl (v_loadG rfl G_hit rfl rfl) ?_
            refine s_val (.ptr _ _) rfl rfl ?_
            refine s_val (.d _) rfl (v_loadG rfl (G_skip rfl G_hit) rfl rfl) ?_
            obtain ⟨v6, hv6, hy2⟩ := bind_some hy2
            refine s_call rfl rfl all2_refl (ref01_Cross_ok _ _  _ hv6) (.inl rfl) ?_
            refine s_val (.d _) rfl rfl ?_
            refine s_val (.d _) rfl rfl ?_
            refine s_val (.d _) rfl rfl ?_
            refine s_val (.ptr _ _) rfl rfl ?_
            refine s_val (.d _) rfl (v_loadG rfl G_hit rfl rfl) ?_
            refine s_val (.d _) rfl (v_loadG rfl (G_skip rfl (G_skip rfl G_hit)) rfl rfl) ?_
            obtain ⟨v7, hv7, hy2⟩ := bind_some hy2
            refine s_call rfl rfl all2_refl (ref01_Cross_ok _ _  _ hv7) (.inl rfl) ?_
            refine s_val (.d _) rfl rfl ?_
            refine s_val (.d _) rfl rfl ?_
            refine s_val (.d _) rfl rfl ?_
            refine s_nil ?_
            refine l_seq ?_
            refine l_seq ?_
            refine l_sub (s0 := ⟨T [(2, (.ptr (2, u1) 0)), (3, (.ptr (3, u1) 0)), (5, (.ptr (5, u2) 0)), (6, (.ptr (6, u3) 0)), (7, (.d (i64 x1.1))), (8, (.d (i64 x1.2.1))), (9, (.d (i64 x1.2.2.1))), (10, (.d (i64 x1.2.2.2.1))), (11, (.d (i64 x1.2.2.2.2))), (14, (.d (i64 (w64 ((w64 ((w64 (p2.l * v2)) + (w64 (y3 * v3)))) + (w64 (y4 * v4))))))), (15, (.d (i64 (w64 ((w64 ((w64 (p2.l * v5)) + (w64 (y3 * v6)))) + (w64 (y4 * v7)))))))], G [((2, u1), some (.box 110 [(.d (i64 p1.p.X)), (.d (i64 p1.p.Y)), (.d (i64 p1.v.X)), (.d (i64 p1.v.Y)), (.d (i64 p1.l)), (.d (i64 p1.h)), (.d (i64 p1.s)), (.d (i64 p1.t))])), ((3, u1), some (.box 110 [(.d (i64 p2.p.X)), (.d (i64 p2.p.Y)), (.d (i64 p2.v.X)), (.d (i64 p2.v.Y)), (.d (i64 p2.l)), (.d (i64 p2.h)), (.d (i64 p2.s)), (.d (i64 p2.t))])), ((5, u2), some (.box 43 [(.d (i64 (w64 (0 - p2.v.Y)))), (.d (i64 p2.v.X))])), ((6, u3), some (.box 43 [(.d (i64 v1.X)), (.d (i64 v1.Y))]))]⟩) (sb_of ⟨.of rfl, .of rfl, .of rfl, .of rfl, .of rfl, .of rfl, .of rfl, .of rfl, .of rfl, .of rfl, .of rfl, trivial⟩ (sbG_some G_hit (.of rfl) (sbG_some (G_skip rfl G_hit) (.of rfl) (sbG_some (G_skip rfl (G_skip rfl G_hit)) (.of rfl) (sbG_some (G_skip rfl (G_skip rfl (G_skip rfl G_hit))) (.of rfl) trivial))))) ?_
            refine l_reg fun u14 hu14 => ?_
            refine s_val (.d _) rfl rfl ?_
            refine s_val (.d _) rfl rfl ?_
            refine s_nil ?_
            obtain ⟨y5, hy5, hy2⟩ := bind_some hy2
            refine l_join (fun s => ∃ g6 : Unit, Sb ⟨T [(2, (.ptr (2, u1) 0)), (3, (.ptr (3, u1) 0)), (5, (.ptr (5, u2) 0)), (6, (.ptr (6, u3) 0)), (7, (.d (i64 y5.1))), (8, (.d (i64 y5.2.1))), (9, (.d (i64 y5.2.2.1))), (10, (.d (i64 y5.2.2.2))), (11, (.d (i64 x1.2.2.2.2))), (14, (.d (i64 (w64 ((w64 ((w64 (p2.l * v2)) + (w64 (y3 * v3)))) + (w64 (y4 * v4))))))), (15, (.d (i64 (w64 ((w64 ((w64 (p2.l * v5)) + (w64 (y3 * v6)))) + (w64 (y4 * v7)))))))], G [((2, u1), some (.box 110 [(.d (i64 p1.p.X)), (.d (i64 p1.p.Y)), (.d (i64 p1.v.X)), (.d (i64 p1.v.Y)), (.d (i64 p1.l)), (.d (i64 p1.h)), (.d (i64 p1.s)), (.d (i64 p1.t))])), ((3, u1), some (.box 110 [(.d (i64 p2.p.X)), (.d (i64 p2.p.Y)), (.d (i64 p2.v.X)), (.d (i64 p2.v.Y)), (.d (i64 p2.l)), (.d (i64 p2.h)), (.d (i64 p2.s)), (.d (i64 p2.t))])), ((5, u2), some (.box 43 [(.d (i64 (w64 (0 - p2.v.Y)))), (.d (i64 p2.v.X))])), ((6, u3), some (.box 43 [(.d (i64 v1.X)), (.d (i64 v1.Y))]))]⟩ s) ?_ ?_
            · skip
              refine l_cond (x1.2.2.2.2 == 0) rfl (fun c4 => ?_) (fun c4 => ?_)
              · replace hy5 := cond_t c4 hy5
                refine l_reg fun u15 hu15 => ?_
                refine s_val (.d _) rfl rfl ?_
                refine s_val (.d _) rfl rfl ?_
                refine s_val (.d _) rfl rfl ?_
                refine s_val (.d _) rfl rfl ?_
                refine s_val (.d _) rfl rfl ?_
                refine s_val (.d _) rfl rfl ?_
                refine s_val (.d _) rfl rfl ?_
                refine s_val (.d _) rfl rfl ?_
                refine s_nil ?_
                obtain rfl := Option.some.inj hy5
                exact l_j ⟨(), (sb_of ⟨.of rfl, .of rfl, .of rfl, .of rfl, .of rfl, .of rfl, .of rfl, .of rfl, .of rfl, .of rfl, .of rfl, trivial⟩ (sbG_some G_hit (.of rfl) (sbG_some (G_skip rfl G_hit) (.of rfl) (sbG_some (G_skip rfl (G_skip rfl G_hit)) (.of rfl) (sbG_some (G_skip rfl (G_skip rfl (G_skip rfl G_hit))) (.of rfl) trivial)))))⟩
              · replace hy5 := cond_f c4 hy5
                refine l_skip ?_
                obtain rfl := Option.some.inj hy5
                exact l_j ⟨(), (sb_of ⟨.of rfl, .of rfl, .of rfl, .of rfl, .of rfl, .of rfl, .of rfl, .of rfl, .of rfl, .of rfl, .of rfl, trivial⟩ (sbG_some G_hit (.of rfl) (sbG_some (G_skip rfl G_hit) (.of rfl) (sbG_some (G_skip rfl (G_skip rfl G_hit)) (.of rfl) (sbG_some (G_skip rfl (G_skip rfl (G_skip rfl G_hit))) (.of rfl) trivial)))))⟩
            · rintro _ ⟨g6, q3⟩
              refine l_sub q3 ?_
              refine l_reg fun u16 hu16 => ?_
              refine s_val (.d _) rfl rfl ?_
              refine s_val (.d _) rfl rfl ?_
              refine s_val (.d _) rfl rfl ?_
              refine s_val (.d _) rfl rfl ?_
              refine s_val (.d _) rfl rfl ?_
              refine s_val (.d _) rfl rfl ?_
              refine s_val (.d _) rfl rfl ?_
              refine s_val (.d _) rfl rfl ?_
              refine s_val (.d _) rfl rfl ?_
              refine s_val (.d _) rfl rfl ?_
              refine s_val (.d _) rfl rfl ?_
              refine s_val (.d _) rfl rfl ?_
              refine s_val (.d _) rfl rfl ?_
              refine s_val (.d _) rfl rfl ?_
              refine s_val (.d _) rfl rfl ?_
              refine s_val (.d _) rfl rfl ?_
              refine s_nil ?_
              refine l_end ?_
              obtain rfl := Option.some.inj hy2
              exact l_j ⟨(), (sb_of ⟨.of rfl, .of rfl, .of rfl, .of rfl, .of rfl, .of rfl, .of rfl, .of rfl, .of rfl, trivial⟩ (sbG_some G_hit (.of rfl) (sbG_some (G_skip rfl G_hit) (.of rfl) (sbG_some (G_skip rfl (G_skip rfl G_hit)) (.of rfl) (sbG_some (G_skip rfl (G_skip rfl (G_skip rfl G_hit))) (.of rfl) trivial)))))⟩
      · rintro _ ⟨g3, q4⟩
        refine l_sub q4 ?_
        refine l_reg fun u17 hu17 => ?_
        refine s_val (.d _) rfl rfl ?_
        refine s_val (.d _) rfl rfl ?_
        refine s_val (.d _) rfl rfl ?_
        refine s_nil ?_
        refine l_nil ?_
        obtain rfl := Option.some.inj hz1
        exact ⟨rfl, (), (sb_of ⟨.of rfl, .of rfl, .of rfl, .of rfl, .of rfl, .of rfl, .of rfl, .of rfl, .of rfl, trivial⟩ (sbG_some G_hit (.of rfl) (sbG_some (G_skip rfl G_hit) (.of rfl) (sbG_some (G_skip rfl (G_skip rfl G_hit)) (.of rfl) (sbG_some (G_skip rfl (G_skip rfl (G_skip rfl G_hit))) (.of rfl) trivial)))))⟩
    · replace hz1 := cond_f c1 hz1
      refine l_exitN rfl ?_
      obtain rfl := Option.some.inj hz1
      obtain rfl := ez1 _ rfl
      refine ⟨nofun, awl_pop rfl (l_j ?_)⟩
      exact ⟨(), (sb_of ⟨.of rfl, .of rfl, .of rfl, .of rfl, .of rfl, .of rfl, trivial⟩ (sbG_some G_hit (.of rfl) (sbG_some (G_skip rfl G_hit) (.of rfl) trivial)))⟩
  · rintro _ ⟨g1, q5⟩
    refine l_sub q5 ?_
    refine l_seq ?_
    refine l_reg fun u18 hu18 => ?_
    refine s_val (.ptr _ _) rfl rfl ?_
    refine s_val (.d _) rfl (v_load rfl G_hit rfl) ?_
    refine s_val (.ptr _ _) rfl rfl ?_
    refine s_val (.d _) rfl (v_load rfl (G_skip rfl G_hit) rfl) ?_
    refine s_val (.d _) rfl rfl ?_
    refine s_val (.d _) rfl rfl ?_
    refine s_nil ?_
    refine l_seq ?_
    refine l_reg fun u19 hu19 => ?_
    refine s_val (.d _) rfl rfl ?_
    refine s_val (.ptr _ _) rfl rfl ?_
    refine s_val (.d _) rfl (v_load rfl G_hit rfl) ?_
    refine s_val (.d _) rfl rfl ?_
    refine s_val (.d _) rfl rfl ?_
    refine s_val (.d _) rfl rfl ?_
    refine s_val (.d _) rfl rfl ?_
    refine g_val (!(decide (y1.2.1 < (w64 (p1.s * (w64 (p1.l * p2.l))))))) (.d _) rfl (gw_f rfl) (fun w1 => rfl) ?_
    refine g_val (!(decide (y1.2.1 < (w64 (p1.s * (w64 (p1.l * p2.l))))))) (.ptr _ _) rfl (gw_f rfl) (fun w2 => rfl) ?_
    refine g_val (!(decide (y1.2.1 < (w64 (p1.s * (w64 (p1.l * p2.l))))))) (.d _) rfl (gw_f rfl) (fun w3 => (v_load (gd_pos w3) G_hit rfl)) ?_
    refine g_val (!(decide (y1.2.1 < (w64 (p1.s * (w64 (p1.l * p2.l))))))) (.d _) rfl (gw_f rfl) (fun w4 => rfl) ?_
    refine g_val (!(decide (y1.2.1 < (w64 (p1.s * (w64 (p1.l * p2.l))))))) (.d _) rfl (gw_f rfl) (fun w5 => (v_bin (gd_pos w5) (gd_pos w5) rfl)) ?_
    refine g_val (!(decide (y1.2.1 < (w64 (p1.s * (w64 (p1.l * p2.l))))))) (.d _) rfl (gw_f rfl) (fun w6 => (v_bin (gd_pos w6) (gd_pos w6) rfl)) ?_
    refine s_val (.d _) rfl (v_or rfl rfl (fun hc => gd_pos (not_t hc))) ?_
    refine s_val (.d _) rfl rfl ?_
    refine g_val (!((decide (y1.2.1 < (w64 (p1.s * (w64 (p1.l * p2.l)))))) || (decide (y1.1 > (w64 (p1.t * (w64 (p1.l * p2.l)))))))) (.d _) rfl (gw_f rfl) (fun w7 => rfl) ?_
    refine g_val (!((decide (y1.2.1 < (w64 (p1.s * (w64 (p1.l * p2.l)))))) || (decide (y1.1 > (w64 (p1.t * (w64 (p1.l * p2.l)))))))) (.ptr _ _) rfl (gw_f rfl) (fun w8 => rfl) ?_
    refine g_val (!((decide (y1.2.1 < (w64 (p1.s * (w64 (p1.l * p2.l)))))) || (decide (y1.1 > (w64 (p1.t * (w64 (p1.l * p2.l)))))))) (.d _) rfl (gw_f rfl) (fun w9 => (v_load (gd_pos w9) G_hit rfl)) ?_
    refine g_val (!((decide (y1.2.1 < (w64 (p1.s * (w64 (p1.l * p2.l)))))) || (decide (y1.1 > (w64 (p1.t * (w64 (p1.l * p2.l)))))))) (.d _) rfl (gw_f rfl) (fun w10 => (by simp only [gd_pos w10]; rfl)) ?_
    refine g_val (!((decide (y1.2.1 < (w64 (p1.s * (w64 (p1.l * p2.l)))))) || (decide (y1.1 > (w64 (p1.t * (w64 (p1.l * p2.l)))))))) (.d _) rfl (gw_f rfl) (fun w11 => rfl) ?_
    refine g_val (!((decide (y1.2.1 < (w64 (p1.s * (w64 (p1.l * p2.l)))))) || (decide (y1.1 > (w64 (p1.t * (w64 (p1.l * p2.l)))))))) (.d _) rfl (gw_f rfl) (fun w12 => (v_bin (gd_pos w12) (gd_pos w12) rfl)) ?_
    refine g_val (!((decide (y1.2.1 < (w64 (p1.s * (w64 (p1.l * p2.l)))))) || (decide (y1.1 > (w64 (p1.t * (w64 (p1.l * p2.l)))))))) (.d _) rfl (gw_f rfl) (fun w13 => (v_bin (gd_pos w13) (gd_pos w13) rfl)) ?_
    refine s_val (.d _) rfl (v_or rfl rfl (fun hc => gd_pos (not_t hc))) ?_
    refine s_val (.d _) rfl rfl ?_
    refine g_val (!(((decide (y1.2.1 < (w64 (p1.s * (w64 (p1.l * p2.l)))))) || (decide (y1.1 > (w64 (p1.t * (w64 (p1.l * p2.l))))))) || (decide (y1.2.2.2 < (w64 ((w64 (0 - p1.h)) * (w64 (p1.l * p2.l)))))))) (.d _) rfl (gw_f rfl) (fun w14 => rfl) ?_
    refine g_val (!(((decide (y1.2.1 < (w64 (p1.s * (w64 (p1.l * p2.l)))))) || (decide (y1.1 > (w64 (p1.t * (w64 (p1.l * p2.l))))))) || (decide (y1.2.2.2 < (w64 ((w64 (0 - p1.h)) * (w64 (p1.l * p2.l)))))))) (.ptr _ _) rfl (gw_f rfl) (fun w15 => rfl) ?_
    refine g_val (!(((decide (y1.2.1 < (w64 (p1.s * (w64 (p1.l * p2.l)))))) || (decide (y1.1 > (w64 (p1.t * (w64 (p1.l * p2.l))))))) || (decide (y1.2.2.2 < (w64 ((w64 (0 - p1.h)) * (w64 (p1.l * p2.l)))))))) (.d _) rfl (gw_f rfl) (fun w16 => (v_load (gd_pos w16) G_hit rfl)) ?_
    refine g_val (!(((decide (y1.2.1 < (w64 (p1.s * (w64 (p1.l * p2.l)))))) || (decide (y1.1 > (w64 (p1.t * (w64 (p1.l * p2.l))))))) || (decide (y1.2.2.2 < (w64 ((w64 (0 - p1.h)) * (w64 (p1.l * p2.l)))))))) (.d _) rfl (gw_f rfl) (fun w17 => rfl) ?_
    refine g_val (!(((decide (y1.2.1 < (w64 (p1.s * (w64 (p1.l * p2.l)))))) || (decide (y1.1 > (w64 (p1.t * (w64 (p1.l * p2.l))))))) || (decide (y1.2.2.2 < (w64 ((w64 (0 - p1.h)) * (w64 (p1.l * p2.l)))))))) (.d _) rfl (gw_f rfl) (fun w18 => (v_bin (gd_pos w18) (gd_pos w18) rfl)) ?_
    refine g_val (!(((decide (y1.2.1 < (w64 (p1.s * (w64 (p1.l * p2.l)))))) || (decide (y1.1 > (w64 (p1.t * (w64 (p1.l * p2.l))))))) || (decide (y1.2.2.2 < (w64 ((w64 (0 - p1.h)) * (w64 (p1.l * p2.l)))))))) (.d _) rfl (gw_f rfl) (fun w19 => (v_bin (gd_pos w19) (gd_pos w19) rfl)) ?_
    refine s_val (.d _) rfl (v_or rfl rfl (fun hc => gd_pos (not_t hc))) ?_
    refine s_val (.d _) rfl rfl ?_
    refine s_nil ?_
    refine l_ret ?_
    obtain rfl := Option.some.inj h
    refine fin_ok (.inr rfl) (resD1 (res_t rfl) rf_d) ?_
    exact (.refl _)

noncomputable def ref01_meet (p1 : Ref01Stripe) (p2 : Ref01Stripe) : Option Bool :=
  (ref01_Minus p2.p p1.p).bind fun v1 => (ref01_Dot v1 v1).bind fun v2 => ((cond (decide (v2 ≤ (w64 ((w64 ((w64 ((w64 (p1.l + p2.l)) + p1.h)) + p2.h)) * (w64 ((w64 ((w64 (p1.l + p2.l)) + p1.h)) + p2.h)))))) (ref01_outside p1 p2) (some default))).bind fun v3 => ((cond ((decide (v2 ≤ (w64 ((w64 ((w64 ((w64 (p1.l + p2.l)) + p1.h)) + p2.h)) * (w64 ((w64 ((w64 (p1.l + p2.l)) + p1.h)) + p2.h)))))) && (!v3)) (ref01_outside p2 p1) (some default))).bind fun v4 => some (((decide (v2 ≤ (w64 ((w64 ((w64 ((w64 (p1.l + p2.l)) + p1.h)) + p2.h)) * (w64 ((w64 ((w64 (p1.l + p2.l)) + p1.h)) + p2.h)))))) && (!v3)) && (!v4))

/-- kerbstone/kerbstoneref01.meet -/
def ac84 : AC :=
  (.seq (.reg [⟨(some 2), .box 110 true (.t 0), none⟩, ⟨(some 3), .box 110 true (.t 1), none⟩, ⟨(some 4), .mv (.c (.v (.bool false))), none⟩])
  (.seq (.reg [⟨(some 7), .fieldA 0 (.t 3), none⟩, ⟨(some 8), .load 2 true (.t 7), none⟩, ⟨(some 9), .fieldA 0 (.t 2), none⟩, ⟨(some 10), .load 2 true (.t 9), none⟩, ⟨(some 11), .call (.c (.fn (.func 40) [] [])) [(.t 8), (.t 10)], none⟩, ⟨(some 5), .alloc 43 [(.v (.int .i64 0)), (.v (.int .i64 0))], none⟩, ⟨none, .store 2 (.t 5) (.t 11), none⟩])
  (.seq (.reg [⟨(some 12), .fieldA 4 (.t 2), none⟩, ⟨(some 13), .load 1 false (.t 12), none⟩, ⟨(some 14), .fieldA 4 (.t 3), none⟩, ⟨(some 15), .load 1 false (.t 14), none⟩, ⟨(some 16), .bin .add (.t 13) (.t 15), none⟩, ⟨(some 17), .fieldA 5 (.t 2), none⟩, ⟨(some 18), .load 1 false (.t 17), none⟩, ⟨(some 19), .bin .add (.t 16) (.t 18), none⟩, ⟨(some 20), .fieldA 5 (.t 3), none⟩, ⟨(some 21), .load 1 false (.t 20), none⟩, ⟨(some 22), .bin .add (.t 19) (.t 21), none⟩, ⟨(some 6), .mv (.t 22), none⟩])
  (.seq (.reg [⟨(some 23), .load 2 true (.t 5), none⟩, ⟨(some 24), .load 2 true (.t 5), none⟩, ⟨(some 25), .call (.c (.fn (.func 65) [] [])) [(.t 23), (.t 24)], none⟩, ⟨(some 26), .mv (.t 6), none⟩, ⟨(some 27), .mv (.t 6), none⟩, ⟨(some 28), .bin .mul (.t 26) (.t 27), none⟩, ⟨(some 29), .bin .leq (.t 25) (.t 28), none⟩, ⟨(some 30), .mv (.t 29), none⟩, ⟨(some 31), .load 8 true (.t 2), (some (30, true))⟩, ⟨(some 32), .load 8 true (.t 3), (some (30, true))⟩, ⟨(some 33), .call (.c (.fn (.func 88) [] [])) [(.t 31), (.t 32)], (some (30, true))⟩, ⟨(some 34), .un .not (.t 33), (some (30, true))⟩, ⟨(some 35), .pick (.t 30) (.t 34) (.c (.v (.bool false))), none⟩, ⟨(some 36), .mv (.t 35), none⟩, ⟨(some 37), .load 8 true (.t 3), (some (36, true))⟩, ⟨(some 38), .load 8 true (.t 2), (some (36, true))⟩, ⟨(some 39), .call (.c (.fn (.func 88) [] [])) [(.t 37), (.t 38)], (some (36, true))⟩, ⟨(some 40), .un .not (.t 39), (some (36, true))⟩, ⟨(some 41), .pick (.t 36) (.t 40) (.c (.v (.bool false))), none⟩, ⟨(some 4), .mv (.t 41), none⟩])
  .ret))))
theorem fn84 : FnOK Try.prog 84 42 [.t 4] ac84 := ⟨_, _, Try.func84, rfl, Try.ntmps84, by kernel_rfl, ⟨fun _ => allD', by kernel_rfl⟩, by kernel_rfl⟩
theorem ref01_meet_ok (p1 : Ref01Stripe) (p2 : Ref01Stripe) (r : Bool) (h : ref01_meet p1 p2 = some r) : PCall Try.prog 84 [(.agg [(i64 p1.p.X), (i64 p1.p.Y), (i64 p1.v.X), (i64 p1.v.Y), (i64 p1.l), (i64 p1.h), (i64 p1.s), (i64 p1.t)]), (.agg [(i64 p2.p.X), (i64 p2.p.Y), (i64 p2.v.X), (i64 p2.v.Y), (i64 p2.l), (i64 p2.h), (i64 p2.s), (i64 p2.t)])] (bo r) := by
  refine l_call fn84 (Nat.le_of_ble_eq_true rfl) ?_
  unfold ref01_meet at h
  unfold ac84
  refine (l_sub (s0 := ⟨T [(0, (.d (.agg [(i64 p1.p.X), (i64 p1.p.Y), (i64 p1.v.X), (i64 p1.v.Y), (i64 p1.l), (i64 p1.h), (i64 p1.s), (i64 p1.t)]))), (1, (.d (.agg [(i64 p2.p.X), (i64 p2.p.Y), (i64 p2.v.X), (i64 p2.v.Y), (i64 p2.l), (i64 p2.h), (i64 p2.s), (i64 p2.t)])))], G []⟩) (sb_of ⟨.of rfl, .of rfl, trivial⟩ trivial) ?_)
  refine l_seq ?_
  refine l_reg fun u1 hu1 => ?_
  refine s_new (.ptr _ _) (.box _ _) rfl rfl ?_
  refine s_new (.ptr _ _) (.box _ _) rfl rfl ?_
  refine s_val (.d _) rfl rfl ?_
  refine s_nil ?_
  refine l_seq ?_
  refine l_reg fun u2 hu2 => ?_
  refine s_val (.ptr _ _) rfl rfl ?_
  refine s_val (.d _) rfl (v_loadG rfl G_hit rfl rfl) ?_
  refine s_val (.ptr _ _) rfl rfl ?_
  refine s_val (.d _) rfl (v_loadG rfl (G_skip rfl G_hit) rfl rfl) ?_
  obtain ⟨v1, hv1, h⟩ := bind_some h
  refine s_call rfl rfl all2_refl (ref01_Minus_ok _ _  _ hv1) (.inl rfl) ?_
  refine s_new (.ptr _ _) (.box _ _) rfl rfl ?_
  refine s_store _ _ _ _ _ rfl rfl rfl G_hit (Nat.le_of_ble_eq_true rfl) _ rfl ?_
  refine s_nil ?_
  refine l_seq ?_
  refine l_reg fun u3 hu3 => ?_
  refine s_val (.ptr _ _) rfl rfl ?_
  refine s_val (.d _) rfl (v_load rfl (G_skip rfl (G_skip rfl (G_skip rfl G_hit))) rfl) ?_
  refine s_val (.ptr _ _) rfl rfl ?_
  refine s_val (.d _) rfl (v_load rfl (G_skip rfl (G_skip rfl G_hit)) rfl) ?_
  refine s_val (.d _) rfl rfl ?_
  refine s_val (.ptr _ _) rfl rfl ?_
  refine s_val (.d _) rfl (v_load rfl (G_skip rfl (G_skip rfl (G_skip rfl G_hit))) rfl) ?_
  refine s_val (.d _) rfl rfl ?_
  refine s_val (.ptr _ _) rfl rfl ?_
  refine s_val (.d _) rfl (v_load rfl (G_skip rfl (G_skip rfl G_hit)) rfl) ?_
  refine s_val (.d _) rfl rfl ?_
  refine s_val (.d _) rfl rfl ?_
  refine s_nil ?_
  refine l_seq ?_
  refine l_sub (s0 := ⟨T [(2, (.ptr (2, u1) 0)), (3, (.ptr (3, u1) 0)), (5, (.ptr (5, u2) 0)), (6, (.d (i64 (w64 ((w64 ((w64 (p1.l + p2.l)) + p1.h)) + p2.h)))))], G [((2, u1), some (.box 110 [(.d (i64 p1.p.X)), (.d (i64 p1.p.Y)), (.d (i64 p1.v.X)), (.d (i64 p1.v.Y)), (.d (i64 p1.l)), (.d (i64 p1.h)), (.d (i64 p1.s)), (.d (i64 p1.t))])), ((3, u1), some (.box 110 [(.d (i64 p2.p.X)), (.d (i64 p2.p.Y)), (.d (i64 p2.v.X)), (.d (i64 p2.v.Y)), (.d (i64 p2.l)), (.d (i64 p2.h)), (.d (i64 p2.s)), (.d (i64 p2.t))])), ((5, u2), some (.box 43 [(.d (i64 v1.X)), (.d (i64 v1.Y))]))]⟩) (sb_of ⟨.of rfl, .of rfl, .of rfl, .of rfl, trivial⟩ (sbG_some (G_skip rfl (G_skip rfl (G_skip rfl G_hit))) (.of rfl) (sbG_some (G_skip rfl (G_skip rfl G_hit)) (.of rfl) (sbG_some G_hit (.of rfl) trivial)))) ?_
  refine l_reg fun u4 hu4 => ?_
  refine s_val (.d _) rfl (v_loadG rfl (G_skip rfl (G_skip rfl G_hit)) rfl rfl) ?_
  refine s_val (.d _) rfl (v_loadG rfl (G_skip rfl (G_skip rfl G_hit)) rfl rfl) ?_
  obtain ⟨v2, hv2, h⟩ := bind_some h
  refine s_call rfl rfl all2_refl (ref01_Dot_ok _ _  _ hv2) (.inl rfl) ?_
  refine s_val (.d _) rfl rfl ?_
  refine s_val (.d _) rfl rfl ?_
  refine s_val (.d _) rfl rfl ?_
  refine s_val (.d _) rfl rfl ?_
  refine s_val (.d _) rfl rfl ?_
  refine g_val (decide (v2 ≤ (w64 ((w64 ((w64 ((w64 (p1.l + p2.l)) + p1.h)) + p2.h)) * (w64 ((w64 ((w64 (p1.l + p2.l)) + p1.h)) + p2.h)))))) (.d _) rfl (gw_t rfl) (fun w1 => (v_loadG rfl G_hit rfl rfl)) ?_
  refine g_val (decide (v2 ≤ (w64 ((w64 ((w64 ((w64 (p1.l + p2.l)) + p1.h)) + p2.h)) * (w64 ((w64 ((w64 (p1.l + p2.l)) + p1.h)) + p2.h)))))) (.d _) rfl (gw_t rfl) (fun w2 => (v_loadG rfl (G_skip rfl G_hit) rfl rfl)) ?_
  obtain ⟨v3, hv3, h⟩ := bind_some h
  refine g_call (decide (v2 ≤ (w64 ((w64 ((w64 ((w64 (p1.l + p2.l)) + p1.h)) + p2.h)) * (w64 ((w64 ((w64 (p1.l + p2.l)) + p1.h)) + p2.h)))))) (bo v3) (gw_t rfl) (fun w3 => ⟨_, [(.d (.agg [(i64 p1.p.X), (i64 p1.p.Y), (i64 p1.v.X), (i64 p1.v.Y), (i64 p1.l), (i64 p1.h), (i64 p1.s), (i64 p1.t)])), (.d (.agg [(i64 p2.p.X), (i64 p2.p.Y), (i64 p2.v.X), (i64 p2.v.Y), (i64 p2.l), (i64 p2.h), (i64 p2.s), (i64 p2.t)]))], _, _, (by simp only [gd_pos w3]; rfl), rfl, all2_refl, ref01_outside_ok _ _  _ (cond_t w3 hv3), (.inl rfl)⟩) ?_
  refine g_val (decide (v2 ≤ (w64 ((w64 ((w64 ((w64 (p1.l + p2.l)) + p1.h)) + p2.h)) * (w64 ((w64 ((w64 (p1.l + p2.l)) + p1.h)) + p2.h)))))) (.d _) rfl (gw_t rfl) (fun w4 => (by simp only [gd_pos w4]; rfl)) ?_
  refine s_val (.d _) rfl (v_and rfl (fun hc => gd_pos hc) rfl) ?_
  refine s_val (.d _) rfl rfl ?_
  refine g_val ((decide (v2 ≤ (w64 ((w64 ((w64 ((w64 (p1.l + p2.l)) + p1.h)) + p2.h)) * (w64 ((w64 ((w64 (p1.l + p2.l)) + p1.h)) + p2.h)))))) && (!v3)) (.d _) rfl (gw_t rfl) (fun w5 => (v_loadG rfl (G_skip rfl G_hit) rfl rfl)) ?_
  refine g_val ((decide (v2 ≤ (w64 ((w64 ((w64 ((w64 (p1.l + p2.l)) + p1.h)) + p2.h)) * (w64 ((w64 ((w64 (p1.l + p2.l)) + p1.h)) + p2.h)))))) && (!v3)) (.d _) rfl (gw_t rfl) (fun w6 => (v_loadG rfl G_hit rfl rfl)) ?_
  obtain ⟨v4, hv4, h⟩ := bind_some h
  refine g_call ((decide (v2 ≤ (w64 ((w64 ((w64 ((w64 (p1.l + p2.l)) + p1.h)) + p2.h)) * (w64 ((w64 ((w64 (p1.l + p2.l)) + p1.h)) + p2.h)))))) && (!v3)) (bo v4) (gw_t rfl) (fun w7 => ⟨_, [(.d (.agg [(i64 p2.p.X), (i64 p2.p.Y), (i64 p2.v.X), (i64 p2.v.Y), (i64 p2.l), (i64 p2.h), (i64 p2.s), (i64 p2.t)])), (.d (.agg [(i64 p1.p.X), (i64 p1.p.Y), (i64 p1.v.X), (i64 p1.v.Y), (i64 p1.l), (i64 p1.h), (i64 p1.s), (i64 p1.t)]))], _, _, (by simp only [gd_pos w7]; rfl), rfl, all2_refl, ref01_outside_ok _ _  _ (cond_t w7 hv4), (.inl rfl)⟩) ?_
  refine g_val ((decide (v2 ≤ (w64 ((w64 ((w64 ((w64 (p1.l + p2.l)) + p1.h)) + p2.h)) * (w64 ((w64 ((w64 (p1.l + p2.l)) + p1.h)) + p2.h)))))) && (!v3)) (.d _) rfl (gw_t rfl) (fun w8 => (by simp only [gd_pos w8]; rfl)) ?_
  refine s_val (.d _) rfl (v_and rfl (fun hc => gd_pos hc) rfl) ?_
  refine s_val (.d _) rfl rfl ?_
  refine s_nil ?_
  refine l_ret ?_
  obtain rfl := Option.some.inj h
  refine fin_ok (.inr rfl) (resD1 (res_t rfl) rf_d) ?_
  exact (.refl _)

noncomputable def ref01_common_l2 (p2 : Ref01Stripe) (x2 : (Int × Int × Ref01Stripe)) : Option (Stp (Int × Int × Ref01Stripe) (Int × Ref01Stripe)) :=
  cond (decide (x2.1 < x2.2.1)) ((ref01_meet (Ref01Stripe.mk x2.2.2.p x2.2.2.v x2.2.2.l x2.2.2.h (w64 ((w64 ((w64 (x2.1 + x2.2.1)) + 1)).tdiv 2)) x2.2.2.l) p2).bind fun v2 => cond v2 (some (.go ((w64 ((w64 ((w64 (x2.1 + x2.2.1)) + 1)).tdiv 2)), x2.2.1, (Ref01Stripe.mk x2.2.2.p x2.2.2.v x2.2.2.l x2.2.2.h (w64 ((w64 ((w64 (x2.1 + x2.2.1)) + 1)).tdiv 2)) x2.2.2.l)))) (some (.go (x2.1, (w64 ((w64 ((w64 ((w64 (x2.1 + x2.2.1)) + 1)).tdiv 2)) - 1)), (Ref01Stripe.mk x2.2.2.p x2.2.2.v x2.2.2.l x2.2.2.h (w64 ((w64 ((w64 (x2.1 + x2.2.1)) + 1)).tdiv 2)) x2.2.2.l))))) (some (.out (x2.1, x2.2.2)))
noncomputable def ref01_common_l1 (p2 : Ref01Stripe) (x1 : (Int × Int × Ref01Stripe)) : Option (Stp (Int × Int × Ref01Stripe) (Int × Ref01Stripe)) :=
  cond (decide (x1.1 < x1.2.1)) ((ref01_meet (Ref01Stripe.mk x1.2.2.p x1.2.2.v x1.2.2.l x1.2.2.h 0 (w64 ((w64 (x1.1 + x1.2.1)).tdiv 2))) p2).bind fun v1 => cond v1 (some (.go (x1.1, (w64 ((w64 (x1.1 + x1.2.1)).tdiv 2)), (Ref01Stripe.mk x1.2.2.p x1.2.2.v x1.2.2.l x1.2.2.h 0 (w64 ((w64 (x1.1 + x1.2.1)).tdiv 2)))))) (some (.go ((w64 ((w64 ((w64 (x1.1 + x1.2.1)).tdiv 2)) + 1)), x1.2.1, (Ref01Stripe.mk x1.2.2.p x1.2.2.v x1.2.2.l x1.2.2.h 0 (w64 ((w64 (x1.1 + x1.2.1)).tdiv 2))))))) (some (.out (x1.1, x1.2.2)))
noncomputable def ref01_common (p1 : Ref01Stripe) (p2 : Ref01Stripe) : Option (Int × Int) :=
  (loop (ref01_common_l1 p2) (0, p1.l, p1)).bind fun y1 => (loop (ref01_common_l2 p2) (0, y1.2.l, y1.2)).bind fun y2 => some ((mm2 true 0 (w64 (y1.1 - 1))), (mm2 false y2.2.l (w64 (y2.1 + 1))))

/-- kerbstone/kerbstoneref01.common -/
def ac85 : AC :=
  (.seq (.reg [⟨(some 2), .box 110 true (.t 0), none⟩, ⟨(some 3), .box 110 true (.t 1), none⟩, ⟨(some 4), .mv (.c (.v (.int .i64 0))), none⟩, ⟨(some 5), .mv (.c (.v (.int .i64 0))), none⟩])
  (.seq (.draw [⟨(some 9), .fieldA 4 (.t 2), none⟩, ⟨(some 10), .load 1 false (.t 9), none⟩, ⟨(some 6), .mv (.c (.v (.int .i64 0))), none⟩, ⟨(some 7), .mv (.t 10), none⟩] [])
  (.seq (.block 0
    (.loop
      (.seq (.seq (.reg [⟨(some 11), .mv (.t 6), none⟩, ⟨(some 12), .mv (.t 7), none⟩, ⟨(some 13), .bin .lss (.t 11) (.t 12), none⟩])
      (.cond (.t 13)
        .skip
        (.exit 0)))
      (.block 1
        (.seq (.reg [⟨(some 14), .mv (.t 6), none⟩, ⟨(some 15), .mv (.t 7), none⟩, ⟨(some 16), .bin .add (.t 14) (.t 15), none⟩, ⟨(some 17), .bin .quo (.t 16) (.c (.v (.int .i64 2))), none⟩, ⟨(some 18), .fieldA 6 (.t 2), none⟩, ⟨none, .store 1 (.t 18) (.c (.v (.int .i64 0))), none⟩, ⟨(some 19), .fieldA 7 (.t 2), none⟩, ⟨none, .store 1 (.t 19) (.t 17), none⟩])
        (.seq (.reg [⟨(some 20), .load 8 true (.t 2), none⟩, ⟨(some 21), .load 8 true (.t 3), none⟩, ⟨(some 22), .call (.c (.fn (.func 84) [] [])) [(.t 20), (.t 21)], none⟩])
        (.cond (.t 22)
          (.reg [⟨(some 23), .fieldA 7 (.t 2), none⟩, ⟨(some 24), .load 1 false (.t 23), none⟩, ⟨(some 7), .mv (.t 24), none⟩])
          (.reg [⟨(some 25), .fieldA 7 (.t 2), none⟩, ⟨(some 26), .load 1 false (.t 25), none⟩, ⟨(some 27), .bin .add (.t 26) (.c (.v (.int .i64 1))), none⟩, ⟨(some 6), .mv (.t 27), none⟩]))))))))
  (.seq (.reg [⟨(some 28), .mv (.t 6), none⟩, ⟨(some 29), .bin .sub (.t 28) (.c (.v (.int .i64 1))), none⟩, ⟨(some 30), .mm true (.c (.v (.int .i64 0))) [(.t 29)], none⟩, ⟨(some 8), .mv (.t 30), none⟩])
  (.seq (.draw [⟨(some 31), .fieldA 4 (.t 2), none⟩, ⟨(some 32), .load 1 false (.t 31), none⟩, ⟨(some 6), .mv (.c (.v (.int .i64 0))), none⟩, ⟨(some 7), .mv (.t 32), none⟩] [])
  (.seq (.block 2
    (.loop
      (.seq (.seq (.reg [⟨(some 33), .mv (.t 6), none⟩, ⟨(some 34), .mv (.t 7), none⟩, ⟨(some 35), .bin .lss (.t 33) (.t 34), none⟩])
      (.cond (.t 35)
        .skip
        (.exit 2)))
      (.block 3
        (.seq (.reg [⟨(some 36), .mv (.t 6), none⟩, ⟨(some 37), .mv (.t 7), none⟩, ⟨(some 38), .bin .add (.t 36) (.t 37), none⟩, ⟨(some 39), .bin .add (.t 38) (.c (.v (.int .i64 1))), none⟩, ⟨(some 40), .bin .quo (.t 39) (.c (.v (.int .i64 2))), none⟩, ⟨(some 41), .fieldA 4 (.t 2), none⟩, ⟨(some 42), .load 1 false (.t 41), none⟩, ⟨(some 43), .fieldA 6 (.t 2), none⟩, ⟨none, .store 1 (.t 43) (.t 40), none⟩, ⟨(some 44), .fieldA 7 (.t 2), none⟩, ⟨none, .store 1 (.t 44) (.t 42), none⟩])
        (.seq (.reg [⟨(some 45), .load 8 true (.t 2), none⟩, ⟨(some 46), .load 8 true (.t 3), none⟩, ⟨(some 47), .call (.c (.fn (.func 84) [] [])) [(.t 45), (.t 46)], none⟩])
        (.cond (.t 47)
          (.reg [⟨(some 48), .fieldA 6 (.t 2), none⟩, ⟨(some 49), .load 1 false (.t 48), none⟩, ⟨(some 6), .mv (.t 49), none⟩])
          (.reg [⟨(some 50), .fieldA 6 (.t 2), none⟩, ⟨(some 51), .load 1 false (.t 50), none⟩, ⟨(some 52), .bin .sub (.t 51) (.c (.v (.int .i64 1))), none⟩, ⟨(some 7), .mv (.t 52), none⟩]))))))))
  (.seq (.draw [⟨(some 53), .mv (.t 8), none⟩, ⟨(some 54), .fieldA 4 (.t 2), none⟩, ⟨(some 55), .load 1 false (.t 54), none⟩, ⟨(some 56), .mv (.t 6), none⟩, ⟨(some 57), .bin .add (.t 56) (.c (.v (.int .i64 1))), none⟩, ⟨(some 58), .mm false (.t 55) [(.t 57)], none⟩, ⟨(some 4), .mv (.t 53), none⟩, ⟨(some 5), .mv (.t 58), none⟩] [])
  .ret)))))))
theorem fn85 : FnOK Try.prog 85 59 [.t 4, .t 5] ac85 := ⟨_, _, Try.func85, rfl, Try.ntmps85, by kernel_rfl, ⟨fun _ => allD', by kernel_rfl⟩, by kernel_rfl⟩
theorem ref01_common_ok (p1 : Ref01Stripe) (p2 : Ref01Stripe) (r : (Int × Int)) (h : ref01_common p1 p2 = some r) : PCall Try.prog 85 [(.agg [(i64 p1.p.X), (i64 p1.p.Y), (i64 p1.v.X), (i64 p1.v.Y), (i64 p1.l), (i64 p1.h), (i64 p1.s), (i64 p1.t)]), (.agg [(i64 p2.p.X), (i64 p2.p.Y), (i64 p2.v.X), (i64 p2.v.Y), (i64 p2.l), (i64 p2.h), (i64 p2.s), (i64 p2.t)])] (.tup [(i64 r.1), (i64 r.2)]) := by
  refine l_call fn85 (Nat.le_of_ble_eq_true rfl) ?_
  unfold ref01_common at h
  unfold ac85
  refine (l_sub (s0 := ⟨T [(0, (.d (.agg [(i64 p1.p.X), (i64 p1.p.Y), (i64 p1.v.X), (i64 p1.v.Y), (i64 p1.l), (i64 p1.h), (i64 p1.s), (i64 p1.t)]))), (1, (.d (.agg [(i64 p2.p.X), (i64 p2.p.Y), (i64 p2.v.X), (i64 p2.v.Y), (i64 p2.l), (i64 p2.h), (i64 p2.s), (i64 p2.t)])))], G []⟩) (sb_of ⟨.of rfl, .of rfl, trivial⟩ trivial) ?_)
  refine l_seq ?_
  refine l_reg fun u1 hu1 => ?_
  refine s_new (.ptr _ _) (.box _ _) rfl rfl ?_
  refine s_new (.ptr _ _) (.box _ _) rfl rfl ?_
  refine s_val (.d _) rfl rfl ?_
  refine s_val (.d _) rfl rfl ?_
  refine s_nil ?_
  refine l_seq ?_
  refine l_draw rfl fun u2 hu2 => ?_
  refine s_val (.ptr _ _) rfl rfl ?_
  refine s_val (.d _) rfl (v_load rfl (G_skip rfl G_hit) rfl) ?_
  refine s_val (.d _) rfl rfl ?_
  refine s_val (.d _) rfl rfl ?_
  refine s_nil ?_
  refine l_seq ?_
  obtain ⟨y1, hy1, h⟩ := bind_some h
  refine l_join (fun s => ∃ g1 : Unit, Sb ⟨T [(2, (.ptr (2, u1) 0)), (3, (.ptr (3, u1) 0)), (6, (.d (i64 y1.1)))], G [((2, u1), some (.box 110 [(.d (i64 y1.2.p.X)), (.d (i64 y1.2.p.Y)), (.d (i64 y1.2.v.X)), (.d (i64 y1.2.v.Y)), (.d (i64 y1.2.l)), (.d (i64 y1.2.h)), (.d (i64 y1.2.s)), (.d (i64 y1.2.t))])), ((3, u1), some (.box 110 [(.d (i64 p2.p.X)), (.d (i64 p2.p.Y)), (.d (i64 p2.v.X)), (.d (i64 p2.v.Y)), (.d (i64 p2.l)), (.d (i64 p2.h)), (.d (i64 p2.s)), (.d (i64 p2.t))]))]⟩ s) ?_ ?_
  · skip
    refine l_block ?_
    refine l_loop (ref01_common_l1 p2) (fun (x1 : (Int × Int × Ref01Stripe)) (g2 : Unit) => ⟨T [(2, (.ptr (2, u1) 0)), (3, (.ptr (3, u1) 0)), (6, (.d (i64 x1.1))), (7, (.d (i64 x1.2.1)))], G [((2, u1), some (.box 110 [(.d (i64 x1.2.2.p.X)), (.d (i64 x1.2.2.p.Y)), (.d (i64 x1.2.2.v.X)), (.d (i64 x1.2.2.v.Y)), (.d (i64 x1.2.2.l)), (.d (i64 x1.2.2.h)), (.d (i64 x1.2.2.s)), (.d (i64 x1.2.2.t))])), ((3, u1), some (.box 110 [(.d (i64 p2.p.X)), (.d (i64 p2.p.Y)), (.d (i64 p2.v.X)), (.d (i64 p2.v.Y)), (.d (i64 p2.l)), (.d (i64 p2.h)), (.d (i64 p2.s)), (.d (i64 p2.t))]))]⟩) (0, p1.l, p1) () _ hy1 (sb_of ⟨.of rfl, .of rfl, .of rfl, .of rfl, trivial⟩ (sbG_some (G_skip rfl G_hit) (.of rfl) (sbG_some G_hit (.of rfl) trivial))) ?_
    intro x1 g2 z1 hz1 ez1
    unfold ref01_common_l1 at hz1
    refine l_seq ?_
    refine l_seq ?_
    refine l_reg fun u3 hu3 => ?_
    refine s_val (.d _) rfl rfl ?_
    refine s_val (.d _) rfl rfl ?_
    refine s_val (.d _) rfl rfl ?_
    refine s_nil ?_
    refine l_cond (decide (x1.1 < x1.2.1)) rfl (fun c1 => ?_) (fun c1 => ?_)
    · replace hz1 := cond_t c1 hz1
      refine l_skip ?_
      refine l_block ?_
      refine l_seq ?_
      refine l_reg fun u4 hu4 => ?_
      refine s_val (.d _) rfl rfl ?_
      refine s_val (.d _) rfl rfl ?_
      refine s_val (.d _) rfl rfl ?_
      refine s_val (.d _) rfl rfl ?_
      refine s_val (.ptr _ _) rfl rfl ?_
      refine s_store _ _ _ _ _ rfl rfl rfl G_hit (Nat.le_of_ble_eq_true rfl) _ rfl ?_
      refine s_val (.ptr _ _) rfl rfl ?_
      refine s_store _ _ _ _ _ rfl rfl rfl G_hit (Nat.le_of_ble_eq_true rfl) _ rfl ?_
      refine s_nil ?_
      refine l_seq ?_
      refine l_reg fun u5 hu5 => ?_
      refine s_val (.d _) rfl (v_loadG rfl G_hit rfl rfl) ?_
      refine s_val (.d _) rfl (v_loadG rfl (G_skip rfl (G_skip rfl (G_skip rfl G_hit))) rfl rfl) ?_
      obtain ⟨v1, hv1, hz1⟩ := bind_some hz1
      refine s_call rfl rfl all2_refl (ref01_meet_ok _ _  _ hv1) (.inl rfl) ?_
      refine s_nil ?_
      refine l_cond v1 rfl (fun c2 => ?_) (fun c2 => ?_)
      · replace hz1 := cond_t c2 hz1
        refine l_reg fun u6 hu6 => ?_
        refine s_val (.ptr _ _) rfl rfl ?_
        refine s_val (.d _) rfl (v_load rfl G_hit rfl) ?_
        refine s_val (.d _) rfl rfl ?_
        refine s_nil ?_
        refine l_end ?_
        refine l_nil ?_
        obtain rfl := Option.some.inj hz1
        exact ⟨rfl, (), (sb_of ⟨.of rfl, .of rfl, .of rfl, .of rfl, trivial⟩ (sbG_some G_hit (.of rfl) (sbG_some (G_skip rfl (G_skip rfl (G_skip rfl G_hit))) (.of rfl) trivial)))⟩
      · replace hz1 := cond_f c2 hz1
        refine l_reg fun u7 hu7 => ?_
        refine s_val (.ptr _ _) rfl rfl ?_
        refine s_val (.d _) rfl (v_load rfl G_hit rfl) ?_
        refine s_val (.d _) rfl rfl ?_
        refine s_val (.d _) rfl rfl ?_
        refine s_nil ?_
        refine l_end ?_
        refine l_nil ?_
        obtain rfl := Option.some.inj hz1
        exact ⟨rfl, (), (sb_of ⟨.of rfl, .of rfl, .of rfl, .of rfl, trivial⟩ (sbG_some G_hit (.of rfl) (sbG_some (G_skip rfl (G_skip rfl (G_skip rfl G_hit))) (.of rfl) trivial)))⟩
    · replace hz1 := cond_f c1 hz1
      refine l_exitN rfl ?_
      obtain rfl := Option.some.inj hz1
      obtain rfl := ez1 _ rfl
      refine ⟨nofun, awl_pop rfl (l_j ?_)⟩
      exact ⟨(), (sb_of ⟨.of rfl, .of rfl, .of rfl, trivial⟩ (sbG_some G_hit (.of rfl) (sbG_some (G_skip rfl G_hit) (.of rfl) trivial)))⟩
  · rintro _ ⟨g1, q1⟩
    refine l_sub q1 ?_
    refine l_seq ?_
    refine l_reg fun u8 hu8 => ?_
    refine s_val (.d _) rfl rfl ?_
    refine s_val (.d _) rfl rfl ?_
    refine s_val (.d _) rfl rfl ?_
    refine s_val (.d _) rfl rfl ?_
    refine s_nil ?_
    refine l_seq ?_
    refine l_draw rfl fun u9 hu9 => ?_
    refine s_val (.ptr _ _) rfl rfl ?_
    refine s_val (.d _) rfl (v_load rfl G_hit rfl) ?_
    refine s_val (.d _) rfl rfl ?_
    refine s_val (.d _) rfl rfl ?_
    refine s_nil ?_
    refine l_seq ?_
    obtain ⟨y2, hy2, h⟩ := bind_some h
    refine l_join (fun s => ∃ g3 : Unit, Sb ⟨T [(2, (.ptr (2, u1) 0)), (6, (.d (i64 y2.1))), (8, (.d (i64 (mm2 true 0 (w64 (y1.1 - 1))))))], G [((2, u1), some (.box 110 [(.d (i64 y2.2.p.X)), (.d (i64 y2.2.p.Y)), (.d (i64 y2.2.v.X)), (.d (i64 y2.2.v.Y)), (.d (i64 y2.2.l)), (.d (i64 y2.2.h)), (.d (i64 y2.2.s)), (.d (i64 y2.2.t))]))]⟩ s) ?_ ?_
    · skip
      refine l_block ?_
      refine l_loop (ref01_common_l2 p2) (fun (x2 : (Int × Int × Ref01Stripe)) (g4 : Unit) => ⟨T [(2, (.ptr (2, u1) 0)), (3, (.ptr (3, u1) 0)), (6, (.d (i64 x2.1))), (7, (.d (i64 x2.2.1))), (8, (.d (i64 (mm2 true 0 (w64 (y1.1 - 1))))))], G [((2, u1), some (.box 110 [(.d (i64 x2.2.2.p.X)), (.d (i64 x2.2.2.p.Y)), (.d (i64 x2.2.2.v.X)), (.d (i64 x2.2.2.v.Y)), (.d (i64 x2.2.2.l)), (.d (i64 x2.2.2.h)), (.d (i64 x2.2.2.s)), (.d (i64 x2.2.2.t))])), ((3, u1), some (.box 110 [(.d (i64 p2.p.X)), (.d (i64 p2.p.Y)), (.d (i64 p2.v.X)), (.d (i64 p2.v.Y)), (.d (i64 p2.l)), (.d (i64 p2.h)), (.d (i64 p2.s)), (.d (i64 p2.t))]))]⟩) (0, y1.2.l, y1.2) () _ hy2 (sb_of ⟨.of rfl, .of rfl, .of rfl, .of rfl, .of rfl, trivial⟩ (sbG_some G_hit (.of rfl) (sbG_some (G_skip rfl G_hit) (.of rfl) trivial))) ?_
      intro x2 g4 z2 hz2 ez2
      unfold ref01_common_l2 at hz2
      refine l_seq ?_
      refine l_seq ?_
      refine l_reg fun u10 hu10 => ?_
      refine s_val (.d _) rfl rfl ?_
      refine s_val (.d _) rfl rfl ?_
      refine s_val (.d _) rfl rfl ?_
      refine s_nil ?_
      refine l_cond (decide (x2.1 < x2.2.1)) rfl (fun c3 => ?_) (fun c3 => ?_)
      · replace hz2 := cond_t c3 hz2
        refine l_skip ?_
        refine l_block ?_
        refine l_seq ?_
        refine l_reg fun u11 hu11 => ?_
        refine s_val (.d _) rfl rfl ?_
        refine s_val (.d _) rfl rfl ?_
        refine s_val (.d _) rfl rfl ?_
        refine s_val (.d _) rfl rfl ?_
        refine s_val (.d _) rfl rfl ?_
        refine s_val (.ptr _ _) rfl rfl ?_
        refine s_val (.d _) rfl (v_load rfl G_hit rfl) ?_
        refine s_val (.ptr _ _) rfl rfl ?_
        refine s_store _ _ _ _ _ rfl rfl rfl G_hit (Nat.le_of_ble_eq_true rfl) _ rfl ?_
        refine s_val (.ptr _ _) rfl rfl ?_
        refine s_store _ _ _ _ _ rfl rfl rfl G_hit (Nat.le_of_ble_eq_true rfl) _ rfl ?_
        refine s_nil ?_
        refine l_seq ?_
        refine l_reg fun u12 hu12 => ?_
        refine s_val (.d _) rfl (v_loadG rfl G_hit rfl rfl) ?_
        refine s_val (.d _) rfl (v_loadG rfl (G_skip rfl (G_skip rfl (G_skip rfl G_hit))) rfl rfl) ?_
        obtain ⟨v2, hv2, hz2⟩ := bind_some hz2
        refine s_call rfl rfl all2_refl (ref01_meet_ok _ _  _ hv2) (.inl rfl) ?_
        refine s_nil ?_
        refine l_cond v2 rfl (fun c4 => ?_) (fun c4 => ?_)
        · replace hz2 := cond_t c4 hz2
          refine l_sub (s0 := ⟨T [(2, (.ptr (2, u1) 0)), (3, (.ptr (3, u1) 0)), (7, (.d (i64 x2.2.1))), (8, (.d (i64 (mm2 true 0 (w64 (y1.1 - 1))))))], G [((2, u1), some (.box 110 [(.d (i64 x2.2.2.p.X)), (.d (i64 x2.2.2.p.Y)), (.d (i64 x2.2.2.v.X)), (.d (i64 x2.2.2.v.Y)), (.d (i64 x2.2.2.l)), (.d (i64 x2.2.2.h)), (.d (i64 (w64 ((w64 ((w64 (x2.1 + x2.2.1)) + 1)).tdiv 2)))), (.d (i64 x2.2.2.l))])), ((3, u1), some (.box 110 [(.d (i64 p2.p.X)), (.d (i64 p2.p.Y)), (.d (i64 p2.v.X)), (.d (i64 p2.v.Y)), (.d (i64 p2.l)), (.d (i64 p2.h)), (.d (i64 p2.s)), (.d (i64 p2.t))]))]⟩) (sb_of ⟨.of rfl, .of rfl, .of rfl, .of rfl, trivial⟩ (sbG_some G_hit (.of rfl) (sbG_some (G_skip rfl (G_skip rfl (G_skip rfl G_hit))) (.of rfl) trivial))) ?_
          refine l_reg fun u13 hu13 => ?_
          refine s_val (.ptr _ _) rfl rfl ?_
          refine s_val (.d _) rfl (v_load rfl G_hit rfl) ?_
          refine s_val (.d _) rfl rfl ?_
          refine s_nil ?_
          refine l_end ?_
          refine l_nil ?_
          obtain rfl := Option.some.inj hz2
          exact ⟨rfl, (), (sb_of ⟨.of rfl, .of rfl, .of rfl, .of rfl, .of rfl, trivial⟩ (sbG_some G_hit (.of rfl) (sbG_some (G_skip rfl G_hit) (.of rfl) trivial)))⟩
        · replace hz2 := cond_f c4 hz2
          refine l_sub (s0 := ⟨T [(2, (.ptr (2, u1) 0)), (3, (.ptr (3, u1) 0)), (6, (.d (i64 x2.1))), (8, (.d (i64 (mm2 true 0 (w64 (y1.1 - 1))))))], G [((2, u1), some (.box 110 [(.d (i64 x2.2.2.p.X)), (.d (i64 x2.2.2.p.Y)), (.d (i64 x2.2.2.v.X)), (.d (i64 x2.2.2.v.Y)), (.d (i64 x2.2.2.l)), (.d (i64 x2.2.2.h)), (.d (i64 (w64 ((w64 ((w64 (x2.1 + x2.2.1)) + 1)).tdiv 2)))), (.d (i64 x2.2.2.l))])), ((3, u1), some (.box 110 [(.d (i64 p2.p.X)), (.d (i64 p2.p.Y)), (.d (i64 p2.v.X)), (.d (i64 p2.v.Y)), (.d (i64 p2.l)), (.d (i64 p2.h)), (.d (i64 p2.s)), (.d (i64 p2.t))]))]⟩) (sb_of ⟨.of rfl, .of rfl, .of rfl, .of rfl, trivial⟩ (sbG_some G_hit (.of rfl) (sbG_some (G_skip rfl (G_skip rfl (G_skip rfl G_hit))) (.of rfl) trivial))) ?_
          refine l_reg fun u14 hu14 => ?_
          refine s_val (.ptr _ _) rfl rfl ?_
          refine s_val (.d _) rfl (v_load rfl G_hit rfl) ?_
          refine s_val (.d _) rfl rfl ?_
          refine s_val (.d _) rfl rfl ?_
          refine s_nil ?_
          refine l_end ?_
          refine l_nil ?_
          obtain rfl := Option.some.inj hz2
          exact ⟨rfl, (), (sb_of ⟨.of rfl, .of rfl, .of rfl, .of rfl, .of rfl, trivial⟩ (sbG_some G_hit (.of rfl) (sbG_some (G_skip rfl G_hit) (.of rfl) trivial)))⟩
      · replace hz2 := cond_f c3 hz2
        refine l_exitN rfl ?_
        obtain rfl := Option.some.inj hz2
        obtain rfl := ez2 _ rfl
        refine ⟨nofun, awl_pop rfl (l_j ?_)⟩
        exact ⟨(), (sb_of ⟨.of rfl, .of rfl, .of rfl, trivial⟩ (sbG_some G_hit (.of rfl) trivial))⟩
    · rintro _ ⟨g3, q2⟩
      refine l_sub q2 ?_
      refine l_seq ?_
      refine l_draw rfl fun u15 hu15 => ?_
      refine s_val (.d _) rfl rfl ?_
      refine s_val (.ptr _ _) rfl rfl ?_
      refine s_val (.d _) rfl (v_load rfl G_hit rfl) ?_
      refine s_val (.d _) rfl rfl ?_
      refine s_val (.d _) rfl rfl ?_
      refine s_val (.d _) rfl rfl ?_
      refine s_val (.d _) rfl rfl ?_
      refine s_val (.d _) rfl rfl ?_
      refine s_nil ?_
      refine l_ret ?_
      obtain rfl := Option.some.inj h
      refine fin_ok (.inr rfl) (resD2 (res_t rfl) (res_t rfl) rf_d rf_d) ?_
      exact .refl _

noncomputable def ref01_Corridors_l2 (v1 : (List Ref01Stripe)) (v2 : (List Ref01Stripe)) (x1 : ((List Cross) × Int × Int)) (x2 : ((List Cross) × Int × Int)) : Option (Stp ((List Cross) × Int × Int) (List Cross)) :=
  cond (decide (x2.2.2 < (v2.length : Int))) ((geti v1 x1.2.2).bind fun v3 => (geti v2 x2.2.2).bind fun v4 => (ref01_meet v3 v4).bind fun v5 => (cond v5 ((geti v1 x1.2.2).bind fun v6 => (geti v2 x2.2.2).bind fun v7 => (ref01_common v6 v7).bind fun v8 => (geti v2 x2.2.2).bind fun v9 => (geti v1 x1.2.2).bind fun v10 => (ref01_common v9 v10).bind fun v11 => (appc x2.1 [(Cross.mk (w64 (x1.2.1 + v8.1)) (w64 (x1.2.1 + v8.2)) (w64 (x2.2.1 + v11.1)) (w64 (x2.2.1 + v11.2)))]).bind fun v12 => some v12) (some x2.1)).bind fun y3 => (geti v2 x2.2.2).bind fun v13 => some (.go (y3, (w64 (x2.2.1 + v13.l)), (w64 (x2.2.2 + 1))))) (some (.out x2.1))
noncomputable def ref01_Corridors_l1 (v1 : (List Ref01Stripe)) (v2 : (List Ref01Stripe)) (x1 : ((List Cross) × Int × Int)) : Option (Stp ((List Cross) × Int × Int) (List Cross)) :=
  cond (decide (x1.2.2 < (v1.length : Int))) ((loop (ref01_Corridors_l2 v1 v2 x1) (x1.1, 0, 0)).bind fun y2 => (geti v1 x1.2.2).bind fun v14 => some (.go (y2, (w64 (x1.2.1 + v14.l)), (w64 (x1.2.2 + 1))))) (some (.out x1.1))
noncomputable def ref01_Corridors (p1 : Curve) (p2 : Int) (p3 : Curve) (p4 : Int) : Option (List Cross) :=
  cond ((((decide (p2 < 0)) || (decide (p2 > 4000))) || (decide (p4 < 0))) || (decide (p4 > 4000))) (some []) ((ref01_stripes p1 p2).bind fun v1 => (ref01_stripes p3 p4).bind fun v2 => (loop (ref01_Corridors_l1 v1 v2) ([], 0, 0)).bind fun y1 => some y1)

/-- kerbstone/kerbstoneref01.Corridors -/
def ac55 : AC :=
  (.seq (.reg [⟨(some 4), .box 24 true (.t 0), none⟩, ⟨(some 6), .box 24 true (.t 2), none⟩, ⟨(some 8), .mv (.c .nilS), none⟩])
  (.seq (.seq (.reg [⟨(some 20), .mv (.t 1), none⟩, ⟨(some 21), .bin .lss (.t 20) (.c (.v (.int .i64 0))), none⟩, ⟨(some 22), .mv (.t 21), none⟩, ⟨(some 23), .mv (.t 1), (some (22, false))⟩, ⟨(some 24), .bin .gtr (.t 23) (.c (.v (.int .i64 4000))), (some (22, false))⟩, ⟨(some 25), .pick (.t 22) (.c (.v (.bool true))) (.t 24), none⟩, ⟨(some 26), .mv (.t 25), none⟩, ⟨(some 27), .mv (.t 3), (some (26, false))⟩, ⟨(some 28), .bin .lss (.t 27) (.c (.v (.int .i64 0))), (some (26, false))⟩, ⟨(some 29), .pick (.t 26) (.c (.v (.bool true))) (.t 28), none⟩, ⟨(some 30), .mv (.t 29), none⟩, ⟨(some 31), .mv (.t 3), (some (30, false))⟩, ⟨(some 32), .bin .gtr (.t 31) (.c (.v (.int .i64 4000))), (some (30, false))⟩, ⟨(some 33), .pick (.t 30) (.c (.v (.bool true))) (.t 32), none⟩])
  (.cond (.t 33)
    (.seq (.reg [⟨(some 8), .mv (.c .nilS), none⟩])
    .ret)
    .skip))
  (.seq (.reg [⟨(some 9), .mv (.c .nilS), none⟩])
  (.seq (.draw [⟨(some 34), .load 1 true (.t 4), none⟩, ⟨(some 35), .mv (.t 1), none⟩, ⟨(some 36), .call (.c (.fn (.func 83) [] [])) [(.t 34), (.t 35)], none⟩, ⟨(some 37), .load 1 true (.t 6), none⟩, ⟨(some 38), .mv (.t 3), none⟩, ⟨(some 39), .call (.c (.fn (.func 83) [] [])) [(.t 37), (.t 38)], none⟩, ⟨(some 10), .mv (.t 36), none⟩, ⟨(some 11), .mv (.t 39), none⟩] [])
  (.seq (.reg [⟨(some 12), .mv (.c (.v (.int .i64 0))), none⟩])
  (.seq (.seq (.reg [⟨(some 13), .mv (.c (.v (.int .i64 0))), none⟩])
  (.block 0
    (.loop
      (.seq (.seq (.reg [⟨(some 40), .mv (.t 13), none⟩, ⟨(some 41), .mv (.t 10), none⟩, ⟨(some 42), .len (.t 41), none⟩, ⟨(some 43), .bin .lss (.t 40) (.t 42), none⟩])
      (.cond (.t 43)
        .skip
        (.exit 0)))
      (.seq (.block 1
        (.seq (.reg [⟨(some 14), .mv (.c (.v (.int .i64 0))), none⟩])
        (.seq (.seq (.reg [⟨(some 15), .mv (.c (.v (.int .i64 0))), none⟩])
        (.block 2
          (.loop
            (.seq (.seq (.reg [⟨(some 46), .mv (.t 15), none⟩, ⟨(some 47), .mv (.t 11), none⟩, ⟨(some 48), .len (.t 47), none⟩, ⟨(some 49), .bin .lss (.t 46) (.t 48), none⟩])
            (.cond (.t 49)
              .skip
              (.exit 2)))
            (.seq (.block 3
              (.seq (.seq (.draw [⟨(some 52), .mv (.t 10), none⟩, ⟨(some 53), .mv (.t 13), none⟩, ⟨(some 54), .idxS 8 (.t 52) (.t 53), none⟩, ⟨(some 55), .load 8 true (.t 54), none⟩, ⟨(some 56), .mv (.t 11), none⟩, ⟨(some 57), .mv (.t 15), none⟩, ⟨(some 58), .idxS 8 (.t 56) (.t 57), none⟩, ⟨(some 59), .load 8 true (.t 58), none⟩, ⟨(some 60), .call (.c (.fn (.func 84) [] [])) [(.t 55), (.t 59)], none⟩] [])
              (.cond (.t 60)
                (.seq (.draw [⟨(some 62), .mv (.t 10), none⟩, ⟨(some 63), .mv (.t 13), none⟩, ⟨(some 64), .idxS 8 (.t 62) (.t 63), none⟩, ⟨(some 65), .load 8 true (.t 64), none⟩, ⟨(some 66), .mv (.t 11), none⟩, ⟨(some 67), .mv (.t 15), none⟩, ⟨(some 68), .idxS 8 (.t 66) (.t 67), none⟩, ⟨(some 69), .load 8 true (.t 68), none⟩, ⟨(some 70), .call (.c (.fn (.func 85) [] [])) [(.t 65), (.t 69)], none⟩, ⟨(some 61), .mv (.t 70), none⟩, ⟨(some 71), .ext (.t 61) 0, none⟩, ⟨(some 72), .ext (.t 61) 1, none⟩, ⟨(some 16), .mv (.t 71), none⟩, ⟨(some 17), .mv (.t 72), none⟩] [])
                (.seq (.draw [⟨(some 74), .mv (.t 11), none⟩, ⟨(some 75), .mv (.t 15), none⟩, ⟨(some 76), .idxS 8 (.t 74) (.t 75), none⟩, ⟨(some 77), .load 8 true (.t 76), none⟩, ⟨(some 78), .mv (.t 10), none⟩, ⟨(some 79), .mv (.t 13), none⟩, ⟨(some 80), .idxS 8 (.t 78) (.t 79), none⟩, ⟨(some 81), .load 8 true (.t 80), none⟩, ⟨(some 82), .call (.c (.fn (.func 85) [] [])) [(.t 77), (.t 81)], none⟩, ⟨(some 73), .mv (.t 82), none⟩, ⟨(some 83), .ext (.t 73) 0, none⟩, ⟨(some 84), .ext (.t 73) 1, none⟩, ⟨(some 18), .mv (.t 83), none⟩, ⟨(some 19), .mv (.t 84), none⟩] [])
                (.reg [⟨(some 85), .mv (.t 9), none⟩, ⟨(some 86), .mv (.t 12), none⟩, ⟨(some 87), .mv (.t 16), none⟩, ⟨(some 88), .bin .add (.t 86) (.t 87), none⟩, ⟨(some 89), .mv (.t 12), none⟩, ⟨(some 90), .mv (.t 17), none⟩, ⟨(some 91), .bin .add (.t 89) (.t 90), none⟩, ⟨(some 92), .mv (.t 14), none⟩, ⟨(some 93), .mv (.t 18), none⟩, ⟨(some 94), .bin .add (.t 92) (.t 93), none⟩, ⟨(some 95), .mv (.t 14), none⟩, ⟨(some 96), .mv (.t 19), none⟩, ⟨(some 97), .bin .add (.t 95) (.t 96), none⟩, ⟨(some 98), .build [(.v (.int .i64 0)), (.v (.int .i64 0)), (.v (.int .i64 0)), (.v (.int .i64 0))] [(0, 1, (.t 88)), (1, 1, (.t 91)), (2, 1, (.t 94)), (3, 1, (.t 97))], none⟩, ⟨(some 99), .dslice 69 4 1 [(.v (.int .i64 0)), (.v (.int .i64 0)), (.v (.int .i64 0)), (.v (.int .i64 0))] [(0, 4, (.t 98))], none⟩, ⟨(some 100), .append 65 69 4 (.t 85) (.t 99), none⟩, ⟨(some 9), .mv (.t 100), none⟩])))
                .skip))
              (.reg [⟨(some 101), .mv (.t 14), none⟩, ⟨(some 102), .mv (.t 11), none⟩, ⟨(some 103), .mv (.t 15), none⟩, ⟨(some 104), .idxS 8 (.t 102) (.t 103), none⟩, ⟨(some 105), .fieldA 4 (.t 104), none⟩, ⟨(some 106), .load 1 false (.t 105), none⟩, ⟨(some 107), .bin .add (.t 101) (.t 106), none⟩, ⟨(some 14), .mv (.t 107), none⟩])))
            (.reg [⟨(some 50), .mv (.t 15), none⟩, ⟨(some 51), .bin .add (.t 50) (.c (.v (.int .i64 1))), none⟩, ⟨(some 15), .mv (.t 51), none⟩]))))))
        (.reg [⟨(some 108), .mv (.t 12), none⟩, ⟨(some 109), .mv (.t 10), none⟩, ⟨(some 110), .mv (.t 13), none⟩, ⟨(some 111), .idxS 8 (.t 109) (.t 110), none⟩, ⟨(some 112), .fieldA 4 (.t 111), none⟩, ⟨(some 113), .load 1 false (.t 112), none⟩, ⟨(some 114), .bin .add (.t 108) (.t 113), none⟩, ⟨(some 12), .mv (.t 114), none⟩]))))
      (.reg [⟨(some 44), .mv (.t 13), none⟩, ⟨(some 45), .bin .add (.t 44) (.c (.v (.int .i64 1))), none⟩, ⟨(some 13), .mv (.t 45), none⟩]))))))
  (.seq (.reg [⟨(some 115), .mv (.t 9), none⟩, ⟨(some 8), .mv (.t 115), none⟩])
  .ret)))))))
theorem fn55 : FnOK Try.prog 55 116 [.t 8] ac55 := ⟨_, _, Try.func55, rfl, Try.ntmps55, by kernel_rfl, ⟨fun _ => allD', by kernel_rfl⟩, by kernel_rfl⟩
theorem ref01_Corridors_ok (p1 : Curve) (p2 : Int) (p3 : Curve) (p4 : Int) (r : (List Cross)) (h : ref01_Corridors p1 p2 p3 p4 = some r) : PCall Try.prog 55 [(.agg [(.list (List.map eSpot p1.Pts))]), (i64 p2), (.agg [(.list (List.map eSpot p3.Pts))]), (i64 p4)] (.list (List.map eCross r)) := by
  refine l_call fn55 (Nat.le_of_ble_eq_true rfl) ?_
  unfold ref01_Corridors at h
  unfold ac55
  refine (l_sub (s0 := ⟨T [(0, (.d (.agg [(.list (List.map eSpot p1.Pts))]))), (1, (.d (i64 p2))), (2, (.d (.agg [(.list (List.map eSpot p3.Pts))]))), (3, (.d (i64 p4)))], G []⟩) (sb_of ⟨.of rfl, .of rfl, .of rfl, .of rfl, trivial⟩ trivial) ?_)
  refine l_seq ?_
  refine l_reg fun u1 hu1 => ?_
  refine s_new (.ptr _ _) (.box _ _) rfl rfl ?_
  refine s_new (.ptr _ _) (.box _ _) rfl rfl ?_
  refine s_val (.d _) rfl rfl ?_
  refine s_nil ?_
  refine l_seq ?_
  refine l_seq ?_
  refine l_reg fun u2 hu2 => ?_
  refine s_val (.d _) rfl rfl ?_
  refine s_val (.d _) rfl rfl ?_
  refine s_val (.d _) rfl rfl ?_
  refine g_val (!(decide (p2 < 0))) (.d _) rfl (gw_f rfl) (fun w1 => rfl) ?_
  refine g_val (!(decide (p2 < 0))) (.d _) rfl (gw_f rfl) (fun w2 => (v_bin (gd_pos w2) rfl rfl)) ?_
  refine s_val (.d _) rfl (v_or rfl rfl (fun hc => gd_pos (not_t hc))) ?_
  refine s_val (.d _) rfl rfl ?_
  refine g_val (!((decide (p2 < 0)) || (decide (p2 > 4000)))) (.d _) rfl (gw_f rfl) (fun w3 => rfl) ?_
  refine g_val (!((decide (p2 < 0)) || (decide (p2 > 4000)))) (.d _) rfl (gw_f rfl) (fun w4 => (v_bin (gd_pos w4) rfl rfl)) ?_
  refine s_val (.d _) rfl (v_or rfl rfl (fun hc => gd_pos (not_t hc))) ?_
  refine s_val (.d _) rfl rfl ?_
  refine g_val (!(((decide (p2 < 0)) || (decide (p2 > 4000))) || (decide (p4 < 0)))) (.d _) rfl (gw_f rfl) (fun w5 => rfl) ?_
  refine g_val (!(((decide (p2 < 0)) || (decide (p2 > 4000))) || (decide (p4 < 0)))) (.d _) rfl (gw_f rfl) (fun w6 => (v_bin (gd_pos w6) rfl rfl)) ?_
  refine s_val (.d _) rfl (v_or rfl rfl (fun hc => gd_pos (not_t hc))) ?_
  refine s_nil ?_
  refine l_cond ((((decide (p2 < 0)) || (decide (p2 > 4000))) || (decide (p4 < 0))) || (decide (p4 > 4000))) rfl (fun c1 => ?_) (fun c1 => ?_)
  · replace h := cond_t c1 h
    refine l_seq ?_
    refine l_sub (s0 := ⟨T [], G []⟩) (sb_of trivial trivial) ?_
    refine l_reg fun u3 hu3 => ?_
    refine s_val (.d _) rfl rfl ?_
    refine s_nil ?_
    refine l_ret ?_
    obtain rfl := Option.some.inj h
    refine fin_ok (.inr rfl) (resD1 (res_t rfl) rf_d) ?_
    exact DLe.nil
  · replace h := cond_f c1 h
    refine l_skip ?_
    refine l_seq ?_
    refine l_sub (s0 := ⟨T [(1, (.d (i64 p2))), (3, (.d (i64 p4))), (4, (.ptr (4, u1) 0)), (6, (.ptr (6, u1) 0))], G [((4, u1), some (.box 24 [(.d (.list (List.map eSpot p1.Pts)))])), ((6, u1), some (.box 24 [(.d (.list (List.map eSpot p3.Pts)))]))]⟩) (sb_of ⟨.of rfl, .of rfl, .of rfl, .of rfl, trivial⟩ (sbG_some (G_skip rfl G_hit) (.of rfl) (sbG_some G_hit (.of rfl) trivial))) ?_
    refine l_reg fun u4 hu4 => ?_
    refine s_val (.d _) rfl rfl ?_
    refine s_nil ?_
    refine l_seq ?_
    refine l_draw rfl fun u5 hu5 => ?_
    refine s_val (.d _) rfl (v_loadG rfl G_hit rfl rfl) ?_
    refine s_val (.d _) rfl rfl ?_
    obtain ⟨v1, hv1, h⟩ := bind_some h
    refine s_call rfl rfl all2_refl (ref01_stripes_ok _ _  _ hv1) (.inl rfl) ?_
    refine s_val (.d _) rfl (v_loadG rfl (G_skip rfl G_hit) rfl rfl) ?_
    refine s_val (.d _) rfl rfl ?_
    obtain ⟨v2, hv2, h⟩ := bind_some h
    refine s_call rfl rfl all2_refl (ref01_stripes_ok _ _  _ hv2) (.inl rfl) ?_
    refine s_val (.d _) rfl rfl ?_
    refine s_val (.d _) rfl rfl ?_
    refine s_nil ?_
    refine l_seq ?_
    refine l_reg fun u6 hu6 => ?_
    refine s_val (.d _) rfl rfl ?_
    refine s_nil ?_
    refine l_seq ?_
    refine l_seq ?_
    refine l_reg fun u7 hu7 => ?_
    refine s_val (.d _) rfl rfl ?_
    refine s_nil ?_
    obtain ⟨y1, hy1, h⟩ := bind_some h
    refine l_join (fun s => ∃ g1 : Nat, Sb ⟨T [(9, (oS y1 (100, g1)))], G [((100, g1), oB 69 4 eCross y1)]⟩ s) ?_ ?_
    · skip
      refine l_block ?_
      refine l_loop (ref01_Corridors_l1 v1 v2) (fun (x1 : ((List Cross) × Int × Int)) (g2 : Nat) => ⟨T [(9, (oS x1.1 (100, g2))), (10, (.d (.list (List.map eRef01Stripe v1)))), (11, (.d (.list (List.map eRef01Stripe v2)))), (12, (.d (i64 x1.2.1))), (13, (.d (i64 x1.2.2)))], G [((100, g2), oB 69 4 eCross x1.1)]⟩) ([], 0, 0) 0 _ hy1 (sb_of ⟨.of rfl, .of rfl, .of rfl, .of rfl, .of rfl, trivial⟩ (sbG_nil trivial)) ?_
      intro x1 g2 z1 hz1 ez1
      unfold ref01_Corridors_l1 at hz1
      refine l_seq ?_
      refine l_seq ?_
      refine l_reg fun u8 hu8 => ?_
      refine s_val (.d _) rfl rfl ?_
      refine s_val (.d _) rfl rfl ?_
      refine s_val (.d _) rfl (v_len rfl) ?_
      refine s_val (.d _) rfl rfl ?_
      refine s_nil ?_
      refine l_cond (decide (x1.2.2 < (v1.length : Int))) rfl (fun c2 => ?_) (fun c2 => ?_)
      · replace hz1 := cond_t c2 hz1
        refine l_skip ?_
        refine l_seq ?_
        refine l_block ?_
        refine l_seq ?_
        refine l_reg fun u9 hu9 => ?_
        refine s_val (.d _) rfl rfl ?_
        refine s_nil ?_
        refine l_seq ?_
        refine l_seq ?_
        refine l_reg fun u10 hu10 => ?_
        refine s_val (.d _) rfl rfl ?_
        refine s_nil ?_
        obtain ⟨y2, hy2, hz1⟩ := bind_some hz1
        refine l_join (fun s => ∃ g3 : Nat, Sb ⟨T [(9, (oS y2 (100, g3))), (10, (.d (.list (List.map eRef01Stripe v1)))), (11, (.d (.list (List.map eRef01Stripe v2)))), (12, (.d (i64 x1.2.1))), (13, (.d (i64 x1.2.2)))], G [((100, g3), oB 69 4 eCross y2)]⟩ s) ?_ ?_
        · skip
          refine l_block ?_
          refine l_loop (ref01_Corridors_l2 v1 v2 x1) (fun (x2 : ((List Cross) × Int × Int)) (g4 : Nat) => ⟨T [(9, (oS x2.1 (100, g4))), (10, (.d (.list (List.map eRef01Stripe v1)))), (11, (.d (.list (List.map eRef01Stripe v2)))), (12, (.d (i64 x1.2.1))), (13, (.d (i64 x1.2.2))), (14, (.d (i64 x2.2.1))), (15, (.d (i64 x2.2.2)))], G [((100, g4), oB 69 4 eCross x2.1)]⟩) (x1.1, 0, 0) g2 _ hy2 (sb_of ⟨.of rfl, .of rfl, .of rfl, .of rfl, .of rfl, .of rfl, .of rfl, trivial⟩ (sbG_oB G_hit trivial)) ?_
          intro x2 g4 z2 hz2 ez2
          unfold ref01_Corridors_l2 at hz2
          refine l_seq ?_
          refine l_seq ?_
          refine l_reg fun u11 hu11 => ?_
          refine s_val (.d _) rfl rfl ?_
          refine s_val (.d _) rfl rfl ?_
          refine s_val (.d _) rfl (v_len rfl) ?_
          refine s_val (.d _) rfl rfl ?_
          refine s_nil ?_
          refine l_cond (decide (x2.2.2 < (v2.length : Int))) rfl (fun c3 => ?_) (fun c3 => ?_)
          · replace hz2 := cond_t c3 hz2
            refine l_skip ?_
            refine l_seq ?_
            refine l_block ?_
            refine l_seq ?_
            refine l_seq ?_
            refine l_draw rfl fun u12 hu12 => ?_
            refine s_val (.d _) rfl rfl ?_
            refine s_val (.d _) rfl rfl ?_
            obtain ⟨v3, hv3, hz2⟩ := bind_some hz2
            refine s_val (.d _) rfl (v_idx rfl rfl hv3 rfl) ?_
            refine s_val (.d _) rfl (v_loadLG rfl hv3 rfl rfl) ?_
            refine s_val (.d _) rfl rfl ?_
            refine s_val (.d _) rfl rfl ?_
            obtain ⟨v4, hv4, hz2⟩ := bind_some hz2
            refine s_val (.d _) rfl (v_idx rfl rfl hv4 rfl) ?_
            refine s_val (.d _) rfl (v_loadLG rfl hv4 rfl rfl) ?_
            obtain ⟨v5, hv5, hz2⟩ := bind_some hz2
            refine s_call rfl rfl all2_refl (ref01_meet_ok _ _  _ hv5) (.inl rfl) ?_
            refine s_nil ?_
            obtain ⟨y3, hy3, hz2⟩ := bind_some hz2
            refine l_join (fun s => ∃ g5 : Nat, Sb ⟨T [(9, (oS y3 (100, g5))), (10, (.d (.list (List.map eRef01Stripe v1)))), (11, (.d (.list (List.map eRef01Stripe v2)))), (12, (.d (i64 x1.2.1))), (13, (.d (i64 x1.2.2))), (14, (.d (i64 x2.2.1))), (15, (.d (i64 x2.2.2)))], G [((100, g5), oB 69 4 eCross y3)]⟩ s) ?_ ?_
            · skip
              refine l_cond v5 rfl (fun c4 => ?_) (fun c4 => ?_)
              · replace hy3 := cond_t c4 hy3
                refine l_seq ?_
                refine l_draw rfl fun u13 hu13 => ?_
                refine s_val (.d _) rfl rfl ?_
                refine s_val (.d _) rfl rfl ?_
                obtain ⟨v6, hv6, hy3⟩ := bind_some hy3
                refine s_val (.d _) rfl (v_idx rfl rfl hv6 rfl) ?_
                refine s_val (.d _) rfl (v_loadLG rfl hv6 rfl rfl) ?_
                refine s_val (.d _) rfl rfl ?_
                refine s_val (.d _) rfl rfl ?_
                obtain ⟨v7, hv7, hy3⟩ := bind_some hy3
                refine s_val (.d _) rfl (v_idx rfl rfl hv7 rfl) ?_
                refine s_val (.d _) rfl (v_loadLG rfl hv7 rfl rfl) ?_
                obtain ⟨v8, hv8, hy3⟩ := bind_some hy3
                refine s_call rfl rfl all2_refl (ref01_common_ok _ _  _ hv8) (.inl rfl) ?_
                refine s_val (.d _) rfl rfl ?_
                refine s_val (.d _) rfl rfl ?_
                refine s_val (.d _) rfl rfl ?_
                refine s_val (.d _) rfl rfl ?_
                refine s_val (.d _) rfl rfl ?_
                refine s_nil ?_
                refine l_seq ?_
                refine l_sub (s0 := ⟨T [(9, (oS x2.1 (100, g4))), (10, (.d (.list (List.map eRef01Stripe v1)))), (11, (.d (.list (List.map eRef01Stripe v2)))), (12, (.d (i64 x1.2.1))), (13, (.d (i64 x1.2.2))), (14, (.d (i64 x2.2.1))), (15, (.d (i64 x2.2.2))), (16, (.d (i64 v8.1))), (17, (.d (i64 v8.2)))], G [((100, g4), oB 69 4 eCross x2.1)]⟩) (sb_of ⟨.of rfl, .of rfl, .of rfl, .of rfl, .of rfl, .of rfl, .of rfl, .of rfl, .of rfl, trivial⟩ (sbG_oB G_hit trivial)) ?_
                refine l_draw rfl fun u14 hu14 => ?_
                refine s_val (.d _) rfl rfl ?_
                refine s_val (.d _) rfl rfl ?_
                obtain ⟨v9, hv9, hy3⟩ := bind_some hy3
                refine s_val (.d _) rfl (v_idx rfl rfl hv9 rfl) ?_
                refine s_val (.d _) rfl (v_loadLG rfl hv9 rfl rfl) ?_
                refine s_val (.d _) rfl rfl ?_
                refine s_val (.d _) rfl rfl ?_
                obtain ⟨v10, hv10, hy3⟩ := bind_some hy3
                refine s_val (.d _) rfl (v_idx rfl rfl hv10 rfl) ?_
                refine s_val (.d _) rfl (v_loadLG rfl hv10 rfl rfl) ?_
                obtain ⟨v11, hv11, hy3⟩ := bind_some hy3
                refine s_call rfl rfl all2_refl (ref01_common_ok _ _  _ hv11) (.inl rfl) ?_
                refine s_val (.d _) rfl rfl ?_
                refine s_val (.d _) rfl rfl ?_
                refine s_val (.d _) rfl rfl ?_
                refine s_val (.d _) rfl rfl ?_
                refine s_val (.d _) rfl rfl ?_
                refine s_nil ?_
                refine l_sub (s0 := ⟨T [(9, (oS x2.1 (100, g4))), (10, (.d (.list (List.map eRef01Stripe v1)))), (11, (.d (.list (List.map eRef01Stripe v2)))), (12, (.d (i64 x1.2.1))), (13, (.d (i64 x1.2.2))), (14, (.d (i64 x2.2.1))), (15, (.d (i64 x2.2.2))), (16, (.d (i64 v8.1))), (17, (.d (i64 v8.2))), (18, (.d (i64 v11.1))), (19, (.d (i64 v11.2)))], G [((100, g4), oB 69 4 eCross x2.1)]⟩) (sb_of ⟨.of rfl, .of rfl, .of rfl, .of rfl, .of rfl, .of rfl, .of rfl, .of rfl, .of rfl, .of rfl, .of rfl, trivial⟩ (sbG_oB G_hit trivial)) ?_
                refine l_reg fun u15 hu15 => ?_
                refine s_val (oS x2.1 (100, g4)) rfl rfl ?_
                refine s_val (.d _) rfl rfl ?_
                refine s_val (.d _) rfl rfl ?_
                refine s_val (.d _) rfl rfl ?_
                refine s_val (.d _) rfl rfl ?_
                refine s_val (.d _) rfl rfl ?_
                refine s_val (.d _) rfl rfl ?_
                refine s_val (.d _) rfl rfl ?_
                refine s_val (.d _) rfl rfl ?_
                refine s_val (.d _) rfl rfl ?_
                refine s_val (.d _) rfl rfl ?_
                refine s_val (.d _) rfl rfl ?_
                refine s_val (.d _) rfl rfl ?_
                refine s_val (.d _) rfl rfl ?_
                refine s_val (.d (.list (List.map eCross [(Cross.mk (w64 (x1.2.1 + v8.1)) (w64 (x1.2.1 + v8.2)) (w64 (x2.2.1 + v11.1)) (w64 (x2.2.1 + v11.2)))]))) rfl rfl ?_
                obtain ⟨v12, hv12, hy3⟩ := bind_some hy3
                refine s_appendO eCross (100, g4) x2.1 (Cross.mk (w64 (x1.2.1 + v8.1)) (w64 (x1.2.1 + v8.2)) (w64 (x2.2.1 + v11.1)) (w64 (x2.2.1 + v11.2))) [] _ (elems_list (fun _ => rfl)) rfl G_hit hv12 ?_
                refine s_val (.sl _) rfl rfl ?_
                refine s_nil ?_
                obtain rfl := Option.some.inj hy3
                exact l_j ⟨u15, (sb_of ⟨(.of (oS_ne (appc_ne hv12)).symm), .of rfl, .of rfl, .of rfl, .of rfl, .of rfl, .of rfl, trivial⟩ (sbG_own G_hit trivial))⟩
              · replace hy3 := cond_f c4 hy3
                refine l_skip ?_
                obtain rfl := Option.some.inj hy3
                exact l_j ⟨g4, (sb_of ⟨.of rfl, .of rfl, .of rfl, .of rfl, .of rfl, .of rfl, .of rfl, trivial⟩ (sbG_oB G_hit trivial))⟩
            · rintro _ ⟨g5, q1⟩
              refine l_sub q1 ?_
              refine l_reg fun u16 hu16 => ?_
              refine s_val (.d _) rfl rfl ?_
              refine s_val (.d _) rfl rfl ?_
              refine s_val (.d _) rfl rfl ?_
              obtain ⟨v13, hv13, hz2⟩ := bind_some hz2
              refine s_val (.d _) rfl (v_idx rfl rfl hv13 rfl) ?_
              refine s_val (.d _) rfl rfl ?_
              refine s_val (.d _) rfl (v_loadL rfl hv13 rfl) ?_
              refine s_val (.d _) rfl rfl ?_
              refine s_val (.d _) rfl rfl ?_
              refine s_nil ?_
              refine l_end ?_
              refine l_reg fun u17 hu17 => ?_
              refine s_val (.d _) rfl rfl ?_
              refine s_val (.d _) rfl rfl ?_
              refine s_val (.d _) rfl rfl ?_
              refine s_nil ?_
              refine l_nil ?_
              obtain rfl := Option.some.inj hz2
              exact ⟨rfl, g5, (sb_of ⟨.of rfl, .of rfl, .of rfl, .of rfl, .of rfl, .of rfl, .of rfl, trivial⟩ (sbG_oB G_hit trivial))⟩
          · replace hz2 := cond_f c3 hz2
            refine l_exitN rfl ?_
            obtain rfl := Option.some.inj hz2
            obtain rfl := ez2 _ rfl
            refine ⟨nofun, awl_pop rfl (l_j ?_)⟩
            exact ⟨g4, (sb_of ⟨.of rfl, .of rfl, .of rfl, .of rfl, .of rfl, trivial⟩ (sbG_oB G_hit trivial))⟩
        · rintro _ ⟨g3, q2⟩
          refine l_sub q2 ?_
          refine l_reg fun u18 hu18 => ?_
          refine s_val (.d _) rfl rfl ?_
          refine s_val (.d _) rfl rfl ?_
          refine s_val (.d _) rfl rfl ?_
          obtain ⟨v14, hv14, hz1⟩ := bind_some hz1
          refine s_val (.d _) rfl (v_idx rfl rfl hv14 rfl) ?_
          refine s_val (.d _) rfl rfl ?_
          refine s_val (.d _) rfl (v_loadL rfl hv14 rfl) ?_
          refine s_val (.d _) rfl rfl ?_
          refine s_val (.d _) rfl rfl ?_
          refine s_nil ?_
          refine l_end ?_
          refine l_reg fun u19 hu19 => ?_
          refine s_val (.d _) rfl rfl ?_
          refine s_val (.d _) rfl rfl ?_
          refine s_val (.d _) rfl rfl ?_
          refine s_nil ?_
          refine l_nil ?_
          obtain rfl := Option.some.inj hz1
          exact ⟨rfl, g3, (sb_of ⟨.of rfl, .of rfl, .of rfl, .of rfl, .of rfl, trivial⟩ (sbG_oB G_hit trivial))⟩
      · replace hz1 := cond_f c2 hz1
        refine l_exitN rfl ?_
        obtain rfl := Option.some.inj hz1
        obtain rfl := ez1 _ rfl
        refine ⟨nofun, awl_pop rfl (l_j ?_)⟩
        exact ⟨g2, (sb_of ⟨.of rfl, trivial⟩ (sbG_oB G_hit trivial))⟩
    · rintro _ ⟨g1, q3⟩
      refine l_sub q3 ?_
      refine l_seq ?_
      refine l_reg fun u20 hu20 => ?_
      refine s_val (oS y1 (100, g1)) rfl rfl ?_
      refine s_val (oS y1 (100, g1)) rfl rfl ?_
      refine s_nil ?_
      refine l_ret ?_
      obtain rfl := Option.some.inj h
      refine fin_ok (.inr rfl) (resD1 (res_t rfl) (rf_oS G_hit)) ?_
      exact oD_le

noncomputable def law01_CurveCorridors (p1 : Curve) (p2 : Curve) (p3 : KitChain) (p4 : KitChain) (p5 : Int) (p6 : Int) : Option Bool :=
  (law01_long p1).bind fun v1 => ((cond (!v1) (law01_long p2) (some default))).bind fun v2 => cond (v1 || v2) ((law01_awake).bind fun v3 => some v3) ((law01_own p1).bind fun v4 => (law01_own p2).bind fun v5 => (curve_Corridors v4 p5 v5 p6).bind fun v6 => (ref01_Corridors p1 p5 p2 p6).bind fun v7 => (kit_SameCrosses v6 v7).bind fun v8 => ((cond (!(!v8)) (kit_SameSpots v4.Pts p1.Pts) (some default))).bind fun v9 => ((cond (!((!v8) || (!v9))) (kit_SameSpots v5.Pts p2.Pts) (some default))).bind fun v10 => cond (((!v8) || (!v9)) || (!v10)) (some false) ((kit_Curve p3).bind fun v11 => (kit_Curve p4).bind fun v12 => (curve_Corridors v11 p5 v12 p6).bind fun v13 => (ref01_Corridors v11 p5 v12 p6).bind fun v14 => (kit_SameCrosses v13 v14).bind fun v15 => ((cond v15 (law01_awake) (some default))).bind fun v16 => some (v15 && v16)))

/-- kerbstone/kerbstonelaw01.CurveCorridors -/
def ac12 : AC :=
  (.seq (.reg [⟨(some 6), .box 24 true (.t 0), none⟩, ⟨(some 7), .box 24 true (.t 1), none⟩, ⟨(some 8), .box 37 true (.t 2), none⟩, ⟨(some 9), .box 37 true (.t 3), none⟩, ⟨(some 12), .mv (.c (.v (.bool false))), none⟩])
  (.seq (.seq (.reg [⟨(some 17), .load 1 true (.t 6), none⟩, ⟨(some 18), .call (.c (.fn (.func 17) [] [])) [(.t 17)], none⟩, ⟨(some 19), .mv (.t 18), none⟩, ⟨(some 20), .load 1 true (.t 7), (some (19, false))⟩, ⟨(some 21), .call (.c (.fn (.func 17) [] [])) [(.t 20)], (some (19, false))⟩, ⟨(some 22), .pick (.t 19) (.c (.v (.bool true))) (.t 21), none⟩])
  (.cond (.t 22)
    (.seq (.reg [⟨(some 23), .call (.c (.fn (.func 18) [] [])) [], none⟩, ⟨(some 12), .mv (.t 23), none⟩])
    .ret)
    .skip))
  (.seq (.draw [⟨(some 24), .load 1 true (.t 6), none⟩, ⟨(some 25), .call (.c (.fn (.func 19) [] [])) [(.t 24)], none⟩, ⟨(some 26), .load 1 true (.t 7), none⟩, ⟨(some 27), .call (.c (.fn (.func 19) [] [])) [(.t 26)], none⟩, ⟨(some 13), .alloc 24 [.nilS], none⟩, ⟨(some 14), .alloc 24 [.nilS], none⟩, ⟨none, .store 1 (.t 13) (.t 25), none⟩, ⟨none, .store 1 (.t 14) (.t 27), none⟩] [])
  (.seq (.seq (.draw [⟨(some 28), .load 1 true (.t 13), none⟩, ⟨(some 29), .mv (.t 4), none⟩, ⟨(some 30), .load 1 true (.t 14), none⟩, ⟨(some 31), .mv (.t 5), none⟩, ⟨(some 32), .call (.c (.fn (.func 54) [] [])) [(.t 28), (.t 29), (.t 30), (.t 31)], none⟩, ⟨(some 33), .load 1 true (.t 6), none⟩, ⟨(some 34), .mv (.t 4), none⟩, ⟨(some 35), .load 1 true (.t 7), none⟩, ⟨(some 36), .mv (.t 5), none⟩, ⟨(some 37), .call (.c (.fn (.func 55) [] [])) [(.t 33), (.t 34), (.t 35), (.t 36)], none⟩, ⟨(some 38), .call (.c (.fn (.func 53) [] [])) [(.t 32), (.t 37)], none⟩, ⟨(some 39), .un .not (.t 38), none⟩, ⟨(some 40), .mv (.t 39), none⟩, ⟨(some 41), .fieldA 0 (.t 13), (some (40, false))⟩, ⟨(some 42), .load 1 false (.t 41), (some (40, false))⟩, ⟨(some 43), .fieldA 0 (.t 6), (some (40, false))⟩, ⟨(some 44), .load 1 false (.t 43), (some (40, false))⟩, ⟨(some 45), .call (.c (.fn (.func 27) [] [])) [(.t 42), (.t 44)], (some (40, false))⟩, ⟨(some 46), .un .not (.t 45), (some (40, false))⟩, ⟨(some 47), .pick (.t 40) (.c (.v (.bool true))) (.t 46), none⟩, ⟨(some 48), .mv (.t 47), none⟩, ⟨(some 49), .fieldA 0 (.t 14), (some (48, false))⟩, ⟨(some 50), .load 1 false (.t 49), (some (48, false))⟩, ⟨(some 51), .fieldA 0 (.t 7), (some (48, false))⟩, ⟨(some 52), .load 1 false (.t 51), (some (48, false))⟩, ⟨(some 53), .call (.c (.fn (.func 27) [] [])) [(.t 50), (.t 52)], (some (48, false))⟩, ⟨(some 54), .un .not (.t 53), (some (48, false))⟩, ⟨(some 55), .pick (.t 48) (.c (.v (.bool true))) (.t 54), none⟩] [])
  (.cond (.t 55)
    (.seq (.reg [⟨(some 12), .mv (.c (.v (.bool false))), none⟩])
    .ret)
    .skip))
  (.seq (.draw [⟨(some 56), .load 3 true (.t 8), none⟩, ⟨(some 57), .call (.c (.fn (.func 28) [] [])) [(.t 56)], none⟩, ⟨(some 58), .load 3 true (.t 9), none⟩, ⟨(some 59), .call (.c (.fn (.func 28) [] [])) [(.t 58)], none⟩, ⟨(some 15), .alloc 24 [.nilS], none⟩, ⟨(some 16), .alloc 24 [.nilS], none⟩, ⟨none, .store 1 (.t 15) (.t 57), none⟩, ⟨none, .store 1 (.t 16) (.t 59), none⟩] [])
  (.seq (.draw [⟨(some 60), .load 1 true (.t 15), none⟩, ⟨(some 61), .mv (.t 4), none⟩, ⟨(some 62), .load 1 true (.t 16), none⟩, ⟨(some 63), .mv (.t 5), none⟩, ⟨(some 64), .call (.c (.fn (.func 54) [] [])) [(.t 60), (.t 61), (.t 62), (.t 63)], none⟩, ⟨(some 65), .load 1 true (.t 15), none⟩, ⟨(some 66), .mv (.t 4), none⟩, ⟨(some 67), .load 1 true (.t 16), none⟩, ⟨(some 68), .mv (.t 5), none⟩, ⟨(some 69), .call (.c (.fn (.func 55) [] [])) [(.t 65), (.t 66), (.t 67), (.t 68)], none⟩, ⟨(some 70), .call (.c (.fn (.func 53) [] [])) [(.t 64), (.t 69)], none⟩, ⟨(some 71), .mv (.t 70), none⟩, ⟨(some 72), .call (.c (.fn (.func 18) [] [])) [], (some (71, true))⟩, ⟨(some 73), .pick (.t 71) (.t 72) (.c (.v (.bool false))), none⟩, ⟨(some 12), .mv (.t 73), none⟩] [])
  .ret))))))
theorem fn12 : FnOK Try.prog 12 74 [.t 12] ac12 := ⟨_, _, Try.func12, rfl, Try.ntmps12, by kernel_rfl, ⟨fun _ => allD', by kernel_rfl⟩, by kernel_rfl⟩
theorem law01_CurveCorridors_ok (p1 : Curve) (p2 : Curve) (p3 : KitChain) (p4 : KitChain) (p5 : Int) (p6 : Int) (r : Bool) (h : law01_CurveCorridors p1 p2 p3 p4 p5 p6 = some r) : PCall Try.prog 12 [(.agg [(.list (List.map eSpot p1.Pts))]), (.agg [(.list (List.map eSpot p2.Pts))]), (.agg [(i64 p3.X), (i64 p3.Y), (.list (List.map eInt_i64 p3.Steps))]), (.agg [(i64 p4.X), (i64 p4.Y), (.list (List.map eInt_i64 p4.Steps))]), (i64 p5), (i64 p6)] (bo r) := by
  refine l_call fn12 (Nat.le_of_ble_eq_true rfl) ?_
  unfold law01_CurveCorridors at h
  unfold ac12
  refine (l_sub (s0 := ⟨T [(0, (.d (.agg [(.list (List.map eSpot p1.Pts))]))), (1, (.d (.agg [(.list (List.map eSpot p2.Pts))]))), (2, (.d (.agg [(i64 p3.X), (i64 p3.Y), (.list (List.map eInt_i64 p3.Steps))]))), (3, (.d (.agg [(i64 p4.X), (i64 p4.Y), (.list (List.map eInt_i64 p4.Steps))]))), (4, (.d (i64 p5))), (5, (.d (i64 p6)))], G []⟩) (sb_of ⟨.of rfl, .of rfl, .of rfl, .of rfl, .of rfl, .of rfl, trivial⟩ trivial) ?_)
  refine l_seq ?_
  refine l_reg fun u1 hu1 => ?_
  refine s_new (.ptr _ _) (.box _ _) rfl rfl ?_
  refine s_new (.ptr _ _) (.box _ _) rfl rfl ?_
  refine s_new (.ptr _ _) (.box _ _) rfl rfl ?_
  refine s_new (.ptr _ _) (.box _ _) rfl rfl ?_
  refine s_val (.d _) rfl rfl ?_
  refine s_nil ?_
  refine l_seq ?_
  refine l_seq ?_
  refine l_reg fun u2 hu2 => ?_
  refine s_val (.d _) rfl (v_loadG rfl (G_skip rfl (G_skip rfl (G_skip rfl G_hit))) rfl rfl) ?_
  obtain ⟨v1, hv1, h⟩ := bind_some h
  refine s_call rfl rfl all2_refl (law01_long_ok _  _ hv1) (.inl rfl) ?_
  refine s_val (.d _) rfl rfl ?_
  refine g_val (!v1) (.d _) rfl (gw_f rfl) (fun w1 => (v_loadG rfl (G_skip rfl (G_skip rfl G_hit)) rfl rfl)) ?_
  obtain ⟨v2, hv2, h⟩ := bind_some h
  refine g_call (!v1) (bo v2) (gw_f rfl) (fun w2 => ⟨_, [(.d (.agg [(.list (List.map eSpot p2.Pts))]))], _, _, (by simp only [gd_pos w2]; rfl), rfl, all2_refl, law01_long_ok _  _ (cond_t w2 hv2), (.inl rfl)⟩) ?_
  refine s_val (.d _) rfl (v_or rfl rfl (fun hc => gd_pos (not_t hc))) ?_
  refine s_nil ?_
  refine l_cond (v1 || v2) rfl (fun c1 => ?_) (fun c1 => ?_)
  · replace h := cond_t c1 h
    refine l_seq ?_
    refine l_reg fun u3 hu3 => ?_
    obtain ⟨v3, hv3, h⟩ := bind_some h
    refine s_call rfl rfl all2_refl (law01_awake_ok  _ hv3) (.inl rfl) ?_
    refine s_val (.d _) rfl rfl ?_
    refine s_nil ?_
    refine l_ret ?_
    obtain rfl := Option.some.inj h
    refine fin_ok (.inr rfl) (resD1 (res_t rfl) rf_d) ?_
    exact (.refl _)
  · replace h := cond_f c1 h
    refine l_skip ?_
    refine l_seq ?_
    refine l_draw rfl fun u4 hu4 => ?_
    refine s_val (.d _) rfl (v_loadG rfl (G_skip rfl (G_skip rfl (G_skip rfl G_hit))) rfl rfl) ?_
    obtain ⟨v4, hv4, h⟩ := bind_some h
    refine s_call rfl rfl all2_refl (law01_own_ok _  _ hv4) (.inl rfl) ?_
    refine s_val (.d _) rfl (v_loadG rfl (G_skip rfl (G_skip rfl G_hit)) rfl rfl) ?_
    obtain ⟨v5, hv5, h⟩ := bind_some h
    refine s_call rfl rfl all2_refl (law01_own_ok _  _ hv5) (.inl rfl) ?_
    refine s_new (.ptr _ _) (.box _ _) rfl rfl ?_
    refine s_new (.ptr _ _) (.box _ _) rfl rfl ?_
    refine s_store _ _ _ _ _ rfl rfl rfl (G_skip rfl G_hit) (Nat.le_of_ble_eq_true rfl) _ rfl ?_
    refine s_store _ _ _ _ _ rfl rfl rfl (G_skip rfl G_hit) (Nat.le_of_ble_eq_true rfl) _ rfl ?_
    refine s_nil ?_
    refine l_seq ?_
    refine l_seq ?_
    refine l_sub (s0 := ⟨T [(4, (.d (i64 p5))), (5, (.d (i64 p6))), (6, (.ptr (6, u1) 0)), (7, (.ptr (7, u1) 0)), (8, (.ptr (8, u1) 0)), (9, (.ptr (9, u1) 0)), (13, (.ptr (13, u4) 0)), (14, (.ptr (14, u4) 0))], G [((6, u1), some (.box 24 [(.d (.list (List.map eSpot p1.Pts)))])), ((7, u1), some (.box 24 [(.d (.list (List.map eSpot p2.Pts)))])), ((8, u1), some (.box 37 [(.d (i64 p3.X)), (.d (i64 p3.Y)), (.d (.list (List.map eInt_i64 p3.Steps)))])), ((9, u1), some (.box 37 [(.d (i64 p4.X)), (.d (i64 p4.Y)), (.d (.list (List.map eInt_i64 p4.Steps)))])), ((13, u4), some (.box 24 [(.d (.list (List.map eSpot v4.Pts)))])), ((14, u4), some (.box 24 [(.d (.list (List.map eSpot v5.Pts)))]))]⟩) (sb_of ⟨.of rfl, .of rfl, .of rfl, .of rfl, .of rfl, .of rfl, .of rfl, .of rfl, trivial⟩ (sbG_some (G_skip rfl (G_skip rfl (G_skip rfl (G_skip rfl (G_skip rfl (G_skip rfl (G_skip rfl G_hit))))))) (.of rfl) (sbG_some (G_skip rfl (G_skip rfl (G_skip rfl (G_skip rfl (G_skip rfl (G_skip rfl G_hit)))))) (.of rfl) (sbG_some (G_skip rfl (G_skip rfl (G_skip rfl (G_skip rfl (G_skip rfl G_hit))))) (.of rfl) (sbG_some (G_skip rfl (G_skip rfl (G_skip rfl (G_skip rfl G_hit)))) (.of rfl) (sbG_some (G_skip rfl G_hit) (.of rfl) (sbG_some G_hit (.of rfl) trivial))))))) ?_
    refine l_draw rfl fun u5 hu5 => ?_
    refine s_val (.d _) rfl (v_loadG rfl (G_skip rfl (G_skip rfl (G_skip rfl (G_skip rfl G_hit)))) rfl rfl) ?_
    refine s_val (.d _) rfl rfl ?_
    refine s_val (.d _) rfl (v_loadG rfl (G_skip rfl (G_skip rfl (G_skip rfl (G_skip rfl (G_skip rfl G_hit))))) rfl rfl) ?_
    refine s_val (.d _) rfl rfl ?_
    obtain ⟨v6, hv6, h⟩ := bind_some h
    refine s_call rfl rfl all2_refl (curve_Corridors_ok _ _ _ _  _ hv6) (.inl rfl) ?_
    refine s_val (.d _) rfl (v_loadG rfl G_hit rfl rfl) ?_
    refine s_val (.d _) rfl rfl ?_
    refine s_val (.d _) rfl (v_loadG rfl (G_skip rfl G_hit) rfl rfl) ?_
    refine s_val (.d _) rfl rfl ?_
    obtain ⟨v7, hv7, h⟩ := bind_some h
    refine s_call rfl rfl all2_refl (ref01_Corridors_ok _ _ _ _  _ hv7) (.inl rfl) ?_
    obtain ⟨v8, hv8, h⟩ := bind_some h
    refine s_call rfl rfl all2_refl (kit_SameCrosses_ok _ _  _ hv8) (.inl rfl) ?_
    refine s_val (.d _) rfl rfl ?_
    refine s_val (.d _) rfl rfl ?_
    refine g_val (!(!v8)) (.ptr _ _) rfl (gw_f rfl) (fun w3 => rfl) ?_
    refine g_val (!(!v8)) (.d _) rfl (gw_f rfl) (fun w4 => (v_load (gd_pos w4) (G_skip rfl (G_skip rfl (G_skip rfl (G_skip rfl G_hit)))) rfl)) ?_
    refine g_val (!(!v8)) (.ptr _ _) rfl (gw_f rfl) (fun w5 => rfl) ?_
    refine g_val (!(!v8)) (.d _) rfl (gw_f rfl) (fun w6 => (v_load (gd_pos w6) G_hit rfl)) ?_
    obtain ⟨v9, hv9, h⟩ := bind_some h
    refine g_call (!(!v8)) (bo v9) (gw_f rfl) (fun w7 => ⟨_, [(.d (.list (List.map eSpot v4.Pts))), (.d (.list (List.map eSpot p1.Pts)))], _, _, (by simp only [gd_pos w7]; rfl), rfl, all2_refl, kit_SameSpots_ok _ _  _ (cond_t w7 hv9), (.inl rfl)⟩) ?_
    refine g_val (!(!v8)) (.d _) rfl (gw_f rfl) (fun w8 => (by simp only [gd_pos w8]; rfl)) ?_
    refine s_val (.d _) rfl (v_or rfl rfl (fun hc => gd_pos (not_t hc))) ?_
    refine s_val (.d _) rfl rfl ?_
    refine g_val (!((!v8) || (!v9))) (.ptr _ _) rfl (gw_f rfl) (fun w9 => rfl) ?_
    refine g_val (!((!v8) || (!v9))) (.d _) rfl (gw_f rfl) (fun w10 => (v_load (gd_pos w10) (G_skip rfl (G_skip rfl (G_skip rfl (G_skip rfl (G_skip rfl G_hit))))) rfl)) ?_
    refine g_val (!((!v8) || (!v9))) (.ptr _ _) rfl (gw_f rfl) (fun w11 => rfl) ?_
    refine g_val (!((!v8) || (!v9))) (.d _) rfl (gw_f rfl) (fun w12 => (v_load (gd_pos w12) (G_skip rfl G_hit) rfl)) ?_
    obtain ⟨v10, hv10, h⟩ := bind_some h
    refine g_call (!((!v8) || (!v9))) (bo v10) (gw_f rfl) (fun w13 => ⟨_, [(.d (.list (List.map eSpot v5.Pts))), (.d (.list (List.map eSpot p2.Pts)))], _, _, (by simp only [gd_pos w13]; rfl), rfl, all2_refl, kit_SameSpots_ok _ _  _ (cond_t w13 hv10), (.inl rfl)⟩) ?_
    refine g_val (!((!v8) || (!v9))) (.d _) rfl (gw_f rfl) (fun w14 => (by simp only [gd_pos w14]; rfl)) ?_
    refine s_val (.d _) rfl (v_or rfl rfl (fun hc => gd_pos (not_t hc))) ?_
    refine s_nil ?_
    refine l_cond (((!v8) || (!v9)) || (!v10)) rfl (fun c2 => ?_) (fun c2 => ?_)
    · replace h := cond_t c2 h
      refine l_seq ?_
      refine l_sub (s0 := ⟨T [], G []⟩) (sb_of trivial trivial) ?_
      refine l_reg fun u6 hu6 => ?_
      refine s_val (.d _) rfl rfl ?_
      refine s_nil ?_
      refine l_ret ?_
      obtain rfl := Option.some.inj h
      refine fin_ok (.inr rfl) (resD1 (res_t rfl) rf_d) ?_
      exact (.refl _)
    · replace h := cond_f c2 h
      refine l_skip ?_
      refine l_seq ?_
      refine l_sub (s0 := ⟨T [(4, (.d (i64 p5))), (5, (.d (i64 p6))), (8, (.ptr (8, u1) 0)), (9, (.ptr (9, u1) 0))], G [((8, u1), some (.box 37 [(.d (i64 p3.X)), (.d (i64 p3.Y)), (.d (.list (List.map eInt_i64 p3.Steps)))])), ((9, u1), some (.box 37 [(.d (i64 p4.X)), (.d (i64 p4.Y)), (.d (.list (List.map eInt_i64 p4.Steps)))]))]⟩) (sb_of ⟨.of rfl, .of rfl, .of rfl, .of rfl, trivial⟩ (sbG_some (G_skip rfl (G_skip rfl G_hit)) (.of rfl) (sbG_some (G_skip rfl (G_skip rfl (G_skip rfl G_hit))) (.of rfl) trivial))) ?_
      refine l_draw rfl fun u7 hu7 => ?_
      refine s_val (.d _) rfl (v_loadG rfl G_hit rfl rfl) ?_
      obtain ⟨v11, hv11, h⟩ := bind_some h
      refine s_call rfl rfl all2_refl (kit_Curve_ok _  _ hv11) (.inl rfl) ?_
      refine s_val (.d _) rfl (v_loadG rfl (G_skip rfl G_hit) rfl rfl) ?_
      obtain ⟨v12, hv12, h⟩ := bind_some h
      refine s_call rfl rfl all2_refl (kit_Curve_ok _  _ hv12) (.inl rfl) ?_
      refine s_new (.ptr _ _) (.box _ _) rfl rfl ?_
      refine s_new (.ptr _ _) (.box _ _) rfl rfl ?_
      refine s_store _ _ _ _ _ rfl rfl rfl (G_skip rfl G_hit) (Nat.le_of_ble_eq_true rfl) _ rfl ?_
      refine s_store _ _ _ _ _ rfl rfl rfl (G_skip rfl G_hit) (Nat.le_of_ble_eq_true rfl) _ rfl ?_
      refine s_nil ?_
      refine l_seq ?_
      refine l_draw rfl fun u8 hu8 => ?_
      refine s_val (.d _) rfl (v_loadG rfl (G_skip rfl G_hit) rfl rfl) ?_
      refine s_val (.d _) rfl rfl ?_
      refine s_val (.d _) rfl (v_loadG rfl G_hit rfl rfl) ?_
      refine s_val (.d _) rfl rfl ?_
      obtain ⟨v13, hv13, h⟩ := bind_some h
      refine s_call rfl rfl all2_refl (curve_Corridors_ok _ _ _ _  _ hv13) (.inl rfl) ?_
      refine s_val (.d _) rfl (v_loadG rfl (G_skip rfl G_hit) rfl rfl) ?_
      refine s_val (.d _) rfl rfl ?_
      refine s_val (.d _) rfl (v_loadG rfl G_hit rfl rfl) ?_
      refine s_val (.d _) rfl rfl ?_
      obtain ⟨v14, hv14, h⟩ := bind_some h
      refine s_call rfl rfl all2_refl (ref01_Corridors_ok _ _ _ _  _ hv14) (.inl rfl) ?_
      obtain ⟨v15, hv15, h⟩ := bind_some h
      refine s_call rfl rfl all2_refl (kit_SameCrosses_ok _ _  _ hv15) (.inl rfl) ?_
      refine s_val (.d _) rfl rfl ?_
      obtain ⟨v16, hv16, h⟩ := bind_some h
      refine g_call v15 (bo v16) (gw_t rfl) (fun w15 => ⟨_, _, _, _, rfl, rfl, all2_refl, law01_awake_ok  _ (cond_t w15 hv16), (.inl rfl)⟩) ?_
      refine s_val (.d _) rfl (v_and rfl (fun hc => gd_pos hc) rfl) ?_
      refine s_val (.d _) rfl rfl ?_
      refine s_nil ?_
      refine l_ret ?_
      obtain rfl := Option.some.inj h
      refine fin_ok (.inr rfl) (resD1 (res_t rfl) rf_d) ?_
      exact (.refl _)
end Go.Abs.Curve
