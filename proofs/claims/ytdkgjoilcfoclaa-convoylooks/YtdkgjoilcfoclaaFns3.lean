/-
  The functions, part 3.
-/
import Derived.Test.YtdkgjoilcfoclaaFns2
set_option maxRecDepth 20000
set_option linter.unusedVariables false
namespace Go.Abs.Convoy
open Go Go.Abs Go.Proofs
attribute [local irreducible] regW regT AWL

noncomputable def ref09_numbers_l3 (p1 : Convoy) (x2 : Int) (x3 : Int) : Option (Stp Int (Sum Unit Int)) :=
  cond (decide (x3 < x2)) ((geti p1.Mates x3).bind fun v6 => (geti p1.Mates x2).bind fun v7 => cond (v6.ID == v7.ID) (some (.out (.inr 9))) (some (.go (w64 (x3 + 1))))) (some (.out (.inl ())))
noncomputable def ref09_numbers_l2 (p1 : Convoy) (x2 : Int) : Option (Stp Int (Sum Unit Int)) :=
  cond (decide (x2 < (p1.Mates.length : Int))) (thenS (loop (ref09_numbers_l3 p1 x2) 0) (fun _ => (geti p1.Mates x2).bind fun v8 => cond (v8.ID == p1.Guest_.ID) (some (.out (.inr 9))) (some (.go (w64 (x2 + 1))))) (fun r => some (.out (.inr r)))) (some (.out (.inl ())))
noncomputable def ref09_numbers_l1 (p1 : Convoy) (x1 : Int) : Option (Stp Int (Sum Unit Int)) :=
  cond (decide (x1 < (p1.Mates.length : Int))) ((geti p1.Mates x1).bind fun v3 => (ref09_mate v3).bind fun v4 => cond (!v4) (some (.out (.inr 2))) (some (.go (w64 (x1 + 1))))) (some (.out (.inl ())))
noncomputable def ref09_numbers (p1 : Convoy) : Option Int :=
  (ref09_between p1.Tick 0 1099511627776).bind fun v1 => ((cond (!(!v1)) (ref09_between p1.Gap 1 20000) (some default))).bind fun v2 => cond ((!v1) || (!v2)) (some 2) (cond ((p1.Mates.length : Int) == 0) (some 6) ((cond (!(p1.Guest_.ID == 0 && (p1.Guest_.S == 0 && (p1.Guest_.V == 0 && (p1.Guest_.Len == 0 && (p1.Guest_.End == 0 && (p1.Guest_.Ahead == 0 && (p1.Guest_.Guess_.R == 0 && (p1.Guest_.Guess_.V == 0 && (p1.Guest_.From == 0 && (p1.Guest_.Until == 0 && true))))))))))) (some (w64 ((p1.Mates.length : Int) + 1))) (some (p1.Mates.length : Int))).bind fun y1 => cond (decide (y1 > 8)) (some 8) (thenS (loop (ref09_numbers_l1 p1) 0) (fun _ => ((cond (!(p1.Guest_.ID == 0 && (p1.Guest_.S == 0 && (p1.Guest_.V == 0 && (p1.Guest_.Len == 0 && (p1.Guest_.End == 0 && (p1.Guest_.Ahead == 0 && (p1.Guest_.Guess_.R == 0 && (p1.Guest_.Guess_.V == 0 && (p1.Guest_.From == 0 && (p1.Guest_.Until == 0 && true))))))))))) (ref09_guest p1.Guest_) (some default))).bind fun v5 => cond ((!(p1.Guest_.ID == 0 && (p1.Guest_.S == 0 && (p1.Guest_.V == 0 && (p1.Guest_.Len == 0 && (p1.Guest_.End == 0 && (p1.Guest_.Ahead == 0 && (p1.Guest_.Guess_.R == 0 && (p1.Guest_.Guess_.V == 0 && (p1.Guest_.From == 0 && (p1.Guest_.Until == 0 && true))))))))))) && (!v5)) (some 2) (thenS (loop (ref09_numbers_l2 p1) 0) (fun _ => some 0) (fun r => some r))) (fun r => some r))))

/-- kerbstone/kerbstoneref09.numbers -/
def ac_ref09_numbers : AC :=
  (.seq (.reg [⟨(some 1), .box 38 true (.t 0), none⟩, ⟨(some 2), .mv (.c (.v (.int .i64 0))), none⟩])
  (.seq (.seq (.reg [⟨(some 7), .fieldA 0 (.t 1), none⟩, ⟨(some 8), .load 1 false (.t 7), none⟩, ⟨(some 9), .call (.c (.fn (.func 104) [] [])) [(.t 8), (.c (.v (.int .i64 0))), (.c (.v (.int .i64 1099511627776)))], none⟩, ⟨(some 10), .un .not (.t 9), none⟩, ⟨(some 11), .mv (.t 10), none⟩, ⟨(some 12), .fieldA 1 (.t 1), (some (11, false))⟩, ⟨(some 13), .load 1 false (.t 12), (some (11, false))⟩, ⟨(some 14), .call (.c (.fn (.func 104) [] [])) [(.t 13), (.c (.v (.int .i64 1))), (.c (.v (.int .i64 20000)))], (some (11, false))⟩, ⟨(some 15), .un .not (.t 14), (some (11, false))⟩, ⟨(some 16), .pick (.t 11) (.c (.v (.bool true))) (.t 15), none⟩])
  (.cond (.t 16)
    (.seq (.reg [⟨(some 2), .mv (.c (.v (.int .i64 2))), none⟩])
    .ret)
    .skip))
  (.seq (.seq (.reg [⟨(some 17), .fieldA 2 (.t 1), none⟩, ⟨(some 18), .load 1 false (.t 17), none⟩, ⟨(some 19), .len (.t 18), none⟩, ⟨(some 20), .bin .eql (.t 19) (.c (.v (.int .i64 0))), none⟩])
  (.cond (.t 20)
    (.seq (.reg [⟨(some 2), .mv (.c (.v (.int .i64 6))), none⟩])
    .ret)
    .skip))
  (.seq (.reg [⟨(some 21), .fieldA 2 (.t 1), none⟩, ⟨(some 22), .load 1 false (.t 21), none⟩, ⟨(some 23), .len (.t 22), none⟩, ⟨(some 3), .mv (.t 23), none⟩])
  (.seq (.seq (.reg [⟨(some 24), .fieldA 3 (.t 1), none⟩, ⟨(some 25), .load 10 true (.t 24), none⟩, ⟨(some 26), .build [(.v (.int .i64 0)), (.v (.int .i64 0)), (.v (.int .i64 0)), (.v (.int .i64 0)), (.v (.int .i64 0)), (.v (.int .i64 0)), (.v (.int .i64 0)), (.v (.int .i64 0)), (.v (.int .i64 0)), (.v (.int .i64 0))] [], none⟩, ⟨(some 27), .eqA true [false, false, false, false, false, false, false, false, false, false] (.t 25) (.t 26), none⟩])
  (.cond (.t 27)
    (.reg [⟨(some 28), .mv (.t 3), none⟩, ⟨(some 29), .bin .add (.t 28) (.c (.v (.int .i64 1))), none⟩, ⟨(some 3), .mv (.t 29), none⟩])
    .skip))
  (.seq (.seq (.reg [⟨(some 30), .mv (.t 3), none⟩, ⟨(some 31), .bin .gtr (.t 30) (.c (.v (.int .i64 8))), none⟩])
  (.cond (.t 31)
    (.seq (.reg [⟨(some 2), .mv (.c (.v (.int .i64 8))), none⟩])
    .ret)
    .skip))
  (.seq (.seq (.reg [⟨(some 4), .mv (.c (.v (.int .i64 0))), none⟩])
  (.block 0
    (.loop
      (.seq (.seq (.reg [⟨(some 32), .mv (.t 4), none⟩, ⟨(some 33), .fieldA 2 (.t 1), none⟩, ⟨(some 34), .load 1 false (.t 33), none⟩, ⟨(some 35), .len (.t 34), none⟩, ⟨(some 36), .bin .lss (.t 32) (.t 35), none⟩])
      (.cond (.t 36)
        .skip
        (.exit 0)))
      (.seq (.block 1
        (.seq (.reg [⟨(some 39), .fieldA 2 (.t 1), none⟩, ⟨(some 40), .load 1 false (.t 39), none⟩, ⟨(some 41), .mv (.t 4), none⟩, ⟨(some 42), .idxS 12 (.t 40) (.t 41), none⟩, ⟨(some 43), .load 12 true (.t 42), none⟩, ⟨(some 44), .call (.c (.fn (.func 105) [] [])) [(.t 43)], none⟩, ⟨(some 45), .un .not (.t 44), none⟩])
        (.cond (.t 45)
          (.seq (.reg [⟨(some 2), .mv (.c (.v (.int .i64 2))), none⟩])
          .ret)
          .skip)))
      (.reg [⟨(some 37), .mv (.t 4), none⟩, ⟨(some 38), .bin .add (.t 37) (.c (.v (.int .i64 1))), none⟩, ⟨(some 4), .mv (.t 38), none⟩]))))))
  (.seq (.seq (.reg [⟨(some 46), .fieldA 3 (.t 1), none⟩, ⟨(some 47), .load 10 true (.t 46), none⟩, ⟨(some 48), .build [(.v (.int .i64 0)), (.v (.int .i64 0)), (.v (.int .i64 0)), (.v (.int .i64 0)), (.v (.int .i64 0)), (.v (.int .i64 0)), (.v (.int .i64 0)), (.v (.int .i64 0)), (.v (.int .i64 0)), (.v (.int .i64 0))] [], none⟩, ⟨(some 49), .eqA true [false, false, false, false, false, false, false, false, false, false] (.t 47) (.t 48), none⟩, ⟨(some 50), .mv (.t 49), none⟩, ⟨(some 51), .fieldA 3 (.t 1), (some (50, true))⟩, ⟨(some 52), .load 10 true (.t 51), (some (50, true))⟩, ⟨(some 53), .call (.c (.fn (.func 106) [] [])) [(.t 52)], (some (50, true))⟩, ⟨(some 54), .un .not (.t 53), (some (50, true))⟩, ⟨(some 55), .pick (.t 50) (.t 54) (.c (.v (.bool false))), none⟩])
  (.cond (.t 55)
    (.seq (.reg [⟨(some 2), .mv (.c (.v (.int .i64 2))), none⟩])
    .ret)
    .skip))
  (.seq (.seq (.reg [⟨(some 5), .mv (.c (.v (.int .i64 0))), none⟩])
  (.block 2
    (.loop
      (.seq (.seq (.reg [⟨(some 56), .mv (.t 5), none⟩, ⟨(some 57), .fieldA 2 (.t 1), none⟩, ⟨(some 58), .load 1 false (.t 57), none⟩, ⟨(some 59), .len (.t 58), none⟩, ⟨(some 60), .bin .lss (.t 56) (.t 59), none⟩])
      (.cond (.t 60)
        .skip
        (.exit 2)))
      (.seq (.block 3
        (.seq (.seq (.reg [⟨(some 6), .mv (.c (.v (.int .i64 0))), none⟩])
        (.block 4
          (.loop
            (.seq (.seq (.reg [⟨(some 63), .mv (.t 6), none⟩, ⟨(some 64), .mv (.t 5), none⟩, ⟨(some 65), .bin .lss (.t 63) (.t 64), none⟩])
            (.cond (.t 65)
              .skip
              (.exit 4)))
            (.seq (.block 5
              (.seq (.draw [⟨(some 68), .fieldA 2 (.t 1), none⟩, ⟨(some 69), .load 1 false (.t 68), none⟩, ⟨(some 70), .mv (.t 6), none⟩, ⟨(some 71), .idxS 12 (.t 69) (.t 70), none⟩, ⟨(some 72), .fieldA 0 (.t 71), none⟩, ⟨(some 73), .load 1 false (.t 72), none⟩, ⟨(some 74), .fieldA 2 (.t 1), none⟩, ⟨(some 75), .load 1 false (.t 74), none⟩, ⟨(some 76), .mv (.t 5), none⟩, ⟨(some 77), .idxS 12 (.t 75) (.t 76), none⟩, ⟨(some 78), .fieldA 0 (.t 77), none⟩, ⟨(some 79), .load 1 false (.t 78), none⟩, ⟨(some 80), .bin .eql (.t 73) (.t 79), none⟩] [])
              (.cond (.t 80)
                (.seq (.reg [⟨(some 2), .mv (.c (.v (.int .i64 9))), none⟩])
                .ret)
                .skip)))
            (.reg [⟨(some 66), .mv (.t 6), none⟩, ⟨(some 67), .bin .add (.t 66) (.c (.v (.int .i64 1))), none⟩, ⟨(some 6), .mv (.t 67), none⟩]))))))
        (.seq (.draw [⟨(some 81), .fieldA 2 (.t 1), none⟩, ⟨(some 82), .load 1 false (.t 81), none⟩, ⟨(some 83), .mv (.t 5), none⟩, ⟨(some 84), .idxS 12 (.t 82) (.t 83), none⟩, ⟨(some 85), .fieldA 0 (.t 84), none⟩, ⟨(some 86), .load 1 false (.t 85), none⟩, ⟨(some 87), .fieldA 3 (.t 1), none⟩, ⟨(some 88), .fieldA 0 (.t 87), none⟩, ⟨(some 89), .load 1 false (.t 88), none⟩, ⟨(some 90), .bin .eql (.t 86) (.t 89), none⟩] [])
        (.cond (.t 90)
          (.seq (.reg [⟨(some 2), .mv (.c (.v (.int .i64 9))), none⟩])
          .ret)
          .skip))))
      (.reg [⟨(some 61), .mv (.t 5), none⟩, ⟨(some 62), .bin .add (.t 61) (.c (.v (.int .i64 1))), none⟩, ⟨(some 5), .mv (.t 62), none⟩]))))))
  (.seq (.reg [⟨(some 2), .mv (.c (.v (.int .i64 0))), none⟩])
  .ret))))))))))
theorem fn_ref09_numbers : FnOK Try.prog 78 91 [.t 2] ac_ref09_numbers := ⟨_, _, Try.func78, rfl, Try.ntmps78, by kernel_rfl, ⟨fun _ => [], by kernel_rfl⟩, by kernel_rfl⟩
set_option maxHeartbeats 4000000 in
theorem ref09_numbers_ok (p1 : Convoy) (r : Int) (h : ref09_numbers p1 = some r) : PCall Try.prog 78 [(.agg [(i64 p1.Tick), (i64 p1.Gap), (.list (List.map eMate p1.Mates)), (i64 p1.Guest_.ID), (i64 p1.Guest_.S), (i64 p1.Guest_.V), (i64 p1.Guest_.Len), (i64 p1.Guest_.End), (i64 p1.Guest_.Ahead), (i64 p1.Guest_.Guess_.R), (i64 p1.Guest_.Guess_.V), (i64 p1.Guest_.From), (i64 p1.Guest_.Until)])] (i64 r) := by
  refine l_call fn_ref09_numbers (Nat.le_of_ble_eq_true rfl) ?_
  unfold ref09_numbers at h
  unfold ac_ref09_numbers
  refine (l_sub (s0 := ⟨T [(0, (.d (.agg [(i64 p1.Tick), (i64 p1.Gap), (.list (List.map eMate p1.Mates)), (i64 p1.Guest_.ID), (i64 p1.Guest_.S), (i64 p1.Guest_.V), (i64 p1.Guest_.Len), (i64 p1.Guest_.End), (i64 p1.Guest_.Ahead), (i64 p1.Guest_.Guess_.R), (i64 p1.Guest_.Guess_.V), (i64 p1.Guest_.From), (i64 p1.Guest_.Until)])))], G []⟩) (sb_of ⟨.of rfl, trivial⟩ trivial) ?_)
  refine l_seq ?_
  refine l_reg fun u1 hu1 => ?_
  refine s_new (.ptr _ _) (.box _ _) rfl rfl ?_
  refine s_val (.d _) rfl rfl ?_
  refine s_nil ?_
  refine l_seq ?_
  refine l_seq ?_
  refine l_reg fun u2 hu2 => ?_
  refine s_val (.ptr _ _) rfl rfl ?_
  refine s_val (.d _) rfl (v_load rfl G_hit rfl) ?_
  obtain ⟨v1, hv1, h⟩ := bind_some h
  refine s_call rfl rfl all2_refl (ref09_between_ok _ _ _  _ hv1) (.inl rfl) ?_
  refine s_val (.d _) rfl rfl ?_
  refine s_val (.d _) rfl rfl ?_
  refine g_val (!(!v1)) (.ptr _ _) rfl (gw_f rfl) (fun w1 => rfl) ?_
  refine g_val (!(!v1)) (.d _) rfl (gw_f rfl) (fun w2 => (v_load (gd_pos w2) G_hit rfl)) ?_
  obtain ⟨v2, hv2, h⟩ := bind_some h
  refine g_call (!(!v1)) (bo v2) (gw_f rfl) (fun w3 => ⟨_, [(.d (i64 p1.Gap)), (.d (i64 1)), (.d (i64 20000))], _, _, (by simp only [gd_pos w3]; rfl), rfl, all2_refl, ref09_between_ok _ _ _  _ (cond_t w3 hv2), (.inl rfl)⟩) ?_
  refine g_val (!(!v1)) (.d _) rfl (gw_f rfl) (fun w4 => (by simp only [gd_pos w4]; rfl)) ?_
  refine s_val (.d _) rfl (v_or rfl rfl (fun hc => gd_pos (not_t hc))) ?_
  refine s_nil ?_
  refine l_cond ((!v1) || (!v2)) rfl (fun c1 => ?_) (fun c1 => ?_)
  · replace h := cond_t c1 h
    refine l_seq ?_
    refine l_reg fun u3 hu3 => ?_
    refine s_val (.d _) rfl rfl ?_
    refine s_nil ?_
    refine l_ret ?_
    obtain rfl := Option.some.inj h
    refine fin_ok (.inr rfl) (resD1 (res_t rfl) rf_d) ?_
    exact (.refl _)
  · replace h := cond_f c1 h
    refine l_skip ?_
    refine l_seq ?_
    refine l_seq ?_
    refine l_reg fun u4 hu4 => ?_
    refine s_val (.ptr _ _) rfl rfl ?_
    refine s_val (.d _) rfl (v_load rfl G_hit rfl) ?_
    refine s_val (.d _) rfl (v_len rfl) ?_
    refine s_val (.d _) rfl rfl ?_
    refine s_nil ?_
    refine l_cond ((p1.Mates.length : Int) == 0) rfl (fun c2 => ?_) (fun c2 => ?_)
    · replace h := cond_t c2 h
      refine l_seq ?_
      refine l_reg fun u5 hu5 => ?_
      refine s_val (.d _) rfl rfl ?_
      refine s_nil ?_
      refine l_ret ?_
      obtain rfl := Option.some.inj h
      refine fin_ok (.inr rfl) (resD1 (res_t rfl) rf_d) ?_
      exact (.refl _)
    · replace h := cond_f c2 h
      refine l_skip ?_
      refine l_seq ?_
      refine l_reg fun u6 hu6 => ?_
      refine s_val (.ptr _ _) rfl rfl ?_
      refine s_val (.d _) rfl (v_load rfl G_hit rfl) ?_
      refine s_val (.d _) rfl (v_len rfl) ?_
      refine s_val (.d _) rfl rfl ?_
      refine s_nil ?_
      refine l_seq ?_
      refine l_seq ?_
      refine l_reg fun u7 hu7 => ?_
      refine s_val (.ptr _ _) rfl rfl ?_
      refine s_val (.d _) rfl (v_loadG rfl G_hit rfl rfl) ?_
      refine s_val (.d _) rfl rfl ?_
      refine s_val (.d _) rfl rfl ?_
      refine s_nil ?_
      obtain ⟨y1, hy1, h⟩ := bind_some h
      refine l_join (fun s => ∃ g1 : Unit, Sb ⟨T [(1, (.ptr (1, u1) 0)), (3, (.d (i64 y1)))], G [((1, u1), some (.box 38 [(.d (i64 p1.Tick)), (.d (i64 p1.Gap)), (.d (.list (List.map eMate p1.Mates))), (.d (i64 p1.Guest_.ID)), (.d (i64 p1.Guest_.S)), (.d (i64 p1.Guest_.V)), (.d (i64 p1.Guest_.Len)), (.d (i64 p1.Guest_.End)), (.d (i64 p1.Guest_.Ahead)), (.d (i64 p1.Guest_.Guess_.R)), (.d (i64 p1.Guest_.Guess_.V)), (.d (i64 p1.Guest_.From)), (.d (i64 p1.Guest_.Until))]))]⟩ s) ?_ ?_
      · skip
        refine l_cond (!(p1.Guest_.ID == 0 && (p1.Guest_.S == 0 && (p1.Guest_.V == 0 && (p1.Guest_.Len == 0 && (p1.Guest_.End == 0 && (p1.Guest_.Ahead == 0 && (p1.Guest_.Guess_.R == 0 && (p1.Guest_.Guess_.V == 0 && (p1.Guest_.From == 0 && (p1.Guest_.Until == 0 && true))))))))))) rfl (fun c3 => ?_) (fun c3 => ?_)
        · replace hy1 := cond_t c3 hy1
          refine l_sub (s0 := ⟨T [(1, (.ptr (1, u1) 0)), (3, (.d (i64 (p1.Mates.length : Int))))], G [((1, u1), some (.box 38 [(.d (i64 p1.Tick)), (.d (i64 p1.Gap)), (.d (.list (List.map eMate p1.Mates))), (.d (i64 p1.Guest_.ID)), (.d (i64 p1.Guest_.S)), (.d (i64 p1.Guest_.V)), (.d (i64 p1.Guest_.Len)), (.d (i64 p1.Guest_.End)), (.d (i64 p1.Guest_.Ahead)), (.d (i64 p1.Guest_.Guess_.R)), (.d (i64 p1.Guest_.Guess_.V)), (.d (i64 p1.Guest_.From)), (.d (i64 p1.Guest_.Until))]))]⟩) (sb_of ⟨.of rfl, .of rfl, trivial⟩ (sbG_some G_hit (.of rfl) trivial)) ?_
          refine l_reg fun u8 hu8 => ?_
          refine s_val (.d _) rfl rfl ?_
          refine s_val (.d _) rfl rfl ?_
          refine s_val (.d _) rfl rfl ?_
          refine s_nil ?_
          obtain rfl := Option.some.inj hy1
          exact l_j ⟨(), (sb_of ⟨.of rfl, .of rfl, trivial⟩ (sbG_some G_hit (.of rfl) trivial))⟩
        · replace hy1 := cond_f c3 hy1
          refine l_skip ?_
          obtain rfl := Option.some.inj hy1
          exact l_j ⟨(), (sb_of ⟨.of rfl, .of rfl, trivial⟩ (sbG_some G_hit (.of rfl) trivial))⟩
      · rintro _ ⟨g1, q1⟩
        refine l_sub q1 ?_
        refine l_seq ?_
        refine l_seq ?_
        refine l_reg fun u9 hu9 => ?_
        refine s_val (.d _) rfl rfl ?_
        refine s_val (.d _) rfl rfl ?_
        refine s_nil ?_
        refine l_cond (decide (y1 > 8)) rfl (fun c4 => ?_) (fun c4 => ?_)
        · replace h := cond_t c4 h
          refine l_seq ?_
          refine l_reg fun u10 hu10 => ?_
          refine s_val (.d _) rfl rfl ?_
          refine s_nil ?_
          refine l_ret ?_
          obtain rfl := Option.some.inj h
          refine fin_ok (.inr rfl) (resD1 (res_t rfl) rf_d) ?_
          exact (.refl _)
        · replace h := cond_f c4 h
          refine l_skip ?_
          refine l_seq ?_
          refine l_seq ?_
          refine l_reg fun u11 hu11 => ?_
          refine s_val (.d _) rfl rfl ?_
          refine s_nil ?_
          obtain ⟨z1, hz1, h⟩ := thenS_some h
          refine l_join (fun s => ∃ (y2 : Unit) (g2 : Unit), z1 = .inl y2 ∧ Sb ⟨T [(1, (.ptr (1, u1) 0))], G [((1, u1), some (.box 38 [(.d (i64 p1.Tick)), (.d (i64 p1.Gap)), (.d (.list (List.map eMate p1.Mates))), (.d (i64 p1.Guest_.ID)), (.d (i64 p1.Guest_.S)), (.d (i64 p1.Guest_.V)), (.d (i64 p1.Guest_.Len)), (.d (i64 p1.Guest_.End)), (.d (i64 p1.Guest_.Ahead)), (.d (i64 p1.Guest_.Guess_.R)), (.d (i64 p1.Guest_.Guess_.V)), (.d (i64 p1.Guest_.From)), (.d (i64 p1.Guest_.Until))]))]⟩ s) ?_ ?_
          · skip
            refine l_block ?_
            refine l_loop (ref09_numbers_l1 p1) (fun (x1 : Int) (g3 : Unit) => ⟨T [(1, (.ptr (1, u1) 0)), (4, (.d (i64 x1)))], G [((1, u1), some (.box 38 [(.d (i64 p1.Tick)), (.d (i64 p1.Gap)), (.d (.list (List.map eMate p1.Mates))), (.d (i64 p1.Guest_.ID)), (.d (i64 p1.Guest_.S)), (.d (i64 p1.Guest_.V)), (.d (i64 p1.Guest_.Len)), (.d (i64 p1.Guest_.End)), (.d (i64 p1.Guest_.Ahead)), (.d (i64 p1.Guest_.Guess_.R)), (.d (i64 p1.Guest_.Guess_.V)), (.d (i64 p1.Guest_.From)), (.d (i64 p1.Guest_.Until))]))]⟩) 0 () _ hz1 (sb_of ⟨.of rfl, .of rfl, trivial⟩ (sbG_some G_hit (.of rfl) trivial)) ?_
            intro x1 g3 z2 hz2 ez2
            unfold ref09_numbers_l1 at hz2
            refine l_seq ?_
            refine l_seq ?_
            refine l_reg fun u12 hu12 => ?_
            refine s_val (.d _) rfl rfl ?_
            refine s_val (.ptr _ _) rfl rfl ?_
            refine s_val (.d _) rfl (v_load rfl G_hit rfl) ?_
            refine s_val (.d _) rfl (v_len rfl) ?_
            refine s_val (.d _) rfl rfl ?_
            refine s_nil ?_
            refine l_cond (decide (x1 < (p1.Mates.length : Int))) rfl (fun c5 => ?_) (fun c5 => ?_)
            · replace hz2 := cond_t c5 hz2
              refine l_skip ?_
              refine l_seq ?_
              refine l_block ?_
              refine l_seq ?_
              refine l_reg fun u13 hu13 => ?_
              refine s_val (.ptr _ _) rfl rfl ?_
              refine s_val (.d _) rfl (v_load rfl G_hit rfl) ?_
              refine s_val (.d _) rfl rfl ?_
              obtain ⟨v3, hv3, hz2⟩ := bind_some hz2
              refine s_val (.d _) rfl (v_idx rfl rfl hv3 rfl) ?_
              refine s_val (.d _) rfl (v_loadLG rfl hv3 rfl rfl) ?_
              obtain ⟨v4, hv4, hz2⟩ := bind_some hz2
              refine s_call rfl rfl all2_refl (ref09_mate_ok _  _ hv4) (.inl rfl) ?_
              refine s_val (.d _) rfl rfl ?_
              refine s_nil ?_
              refine l_cond (!v4) rfl (fun c6 => ?_) (fun c6 => ?_)
              · replace hz2 := cond_t c6 hz2
                refine l_seq ?_
                refine l_reg fun u14 hu14 => ?_
                refine s_val (.d _) rfl rfl ?_
                refine s_nil ?_
                refine l_ret ?_
                obtain rfl := Option.some.inj hz2
                obtain rfl := ez2 _ rfl
                refine ⟨nofun, awl_ret ?_⟩
                rw [Sum.elim_inr] at h
                obtain rfl := Option.some.inj h
                refine fin_ok (.inr rfl) (resD1 (res_t rfl) rf_d) ?_
                exact (.refl _)
              · replace hz2 := cond_f c6 hz2
                refine l_skip ?_
                refine l_end ?_
                refine l_reg fun u15 hu15 => ?_
                refine s_val (.d _) rfl rfl ?_
                refine s_val (.d _) rfl rfl ?_
                refine s_val (.d _) rfl rfl ?_
                refine s_nil ?_
                refine l_nil ?_
                obtain rfl := Option.some.inj hz2
                exact ⟨rfl, (), (sb_of ⟨.of rfl, .of rfl, trivial⟩ (sbG_some G_hit (.of rfl) trivial))⟩
            · replace hz2 := cond_f c5 hz2
              refine l_exitN rfl ?_
              obtain rfl := Option.some.inj hz2
              obtain rfl := ez2 _ rfl
              refine ⟨nofun, awl_pop rfl (l_j ?_)⟩
              exact ⟨_, (), rfl, (sb_of ⟨.of rfl, trivial⟩ (sbG_some G_hit (.of rfl) trivial))⟩
          · rintro _ ⟨y2, g2, rfl, q2⟩
            rw [Sum.elim_inl] at h
            refine l_sub q2 ?_
            refine l_seq ?_
            refine l_seq ?_
            refine l_reg fun u16 hu16 => ?_
            refine s_val (.ptr _ _) rfl rfl ?_
            refine s_val (.d _) rfl (v_loadG rfl G_hit rfl rfl) ?_
            refine s_val (.d _) rfl rfl ?_
            refine s_val (.d _) rfl rfl ?_
            refine s_val (.d _) rfl rfl ?_
            refine g_val (!(p1.Guest_.ID == 0 && (p1.Guest_.S == 0 && (p1.Guest_.V == 0 && (p1.Guest_.Len == 0 && (p1.Guest_.End == 0 && (p1.Guest_.Ahead == 0 && (p1.Guest_.Guess_.R == 0 && (p1.Guest_.Guess_.V == 0 && (p1.Guest_.From == 0 && (p1.Guest_.Until == 0 && true))))))))))) (.ptr _ _) rfl (gw_t rfl) (fun w5 => rfl) ?_
            refine g_val (!(p1.Guest_.ID == 0 && (p1.Guest_.S == 0 && (p1.Guest_.V == 0 && (p1.Guest_.Len == 0 && (p1.Guest_.End == 0 && (p1.Guest_.Ahead == 0 && (p1.Guest_.Guess_.R == 0 && (p1.Guest_.Guess_.V == 0 && (p1.Guest_.From == 0 && (p1.Guest_.Until == 0 && true))))))))))) (.d _) rfl (gw_t rfl) (fun w6 => (v_loadG (gd_pos w6) G_hit rfl rfl)) ?_
            obtain ⟨v5, hv5, h⟩ := bind_some h
            refine g_call (!(p1.Guest_.ID == 0 && (p1.Guest_.S == 0 && (p1.Guest_.V == 0 && (p1.Guest_.Len == 0 && (p1.Guest_.End == 0 && (p1.Guest_.Ahead == 0 && (p1.Guest_.Guess_.R == 0 && (p1.Guest_.Guess_.V == 0 && (p1.Guest_.From == 0 && (p1.Guest_.Until == 0 && true))))))))))) (bo v5) (gw_t rfl) (fun w7 => ⟨_, [(.d (.agg [(i64 p1.Guest_.ID), (i64 p1.Guest_.S), (i64 p1.Guest_.V), (i64 p1.Guest_.Len), (i64 p1.Guest_.End), (i64 p1.Guest_.Ahead), (i64 p1.Guest_.Guess_.R), (i64 p1.Guest_.Guess_.V), (i64 p1.Guest_.From), (i64 p1.Guest_.Until)]))], _, _, (by simp only [gd_pos w7]; rfl), rfl, all2_refl, ref09_guest_ok _  _ (cond_t w7 hv5), (.inl rfl)⟩) ?_
            refine g_val (!(p1.Guest_.ID == 0 && (p1.Guest_.S == 0 && (p1.Guest_.V == 0 && (p1.Guest_.Len == 0 && (p1.Guest_.End == 0 && (p1.Guest_.Ahead == 0 && (p1.Guest_.Guess_.R == 0 && (p1.Guest_.Guess_.V == 0 && (p1.Guest_.From == 0 && (p1.Guest_.Until == 0 && true))))))))))) (.d _) rfl (gw_t rfl) (fun w8 => (by simp only [gd_pos w8]; rfl)) ?_
            refine s_val (.d _) rfl (v_and rfl (fun hc => gd_pos hc) rfl) ?_
            refine s_nil ?_
            refine l_cond ((!(p1.Guest_.ID == 0 && (p1.Guest_.S == 0 && (p1.Guest_.V == 0 && (p1.Guest_.Len == 0 && (p1.Guest_.End == 0 && (p1.Guest_.Ahead == 0 && (p1.Guest_.Guess_.R == 0 && (p1.Guest_.Guess_.V == 0 && (p1.Guest_.From == 0 && (p1.Guest_.Until == 0 && true))))))))))) && (!v5)) rfl (fun c7 => ?_) (fun c7 => ?_)
            · replace h := cond_t c7 h
              refine l_seq ?_
              refine l_reg fun u17 hu17 => ?_
              refine s_val (.d _) rfl rfl ?_
              refine s_nil ?_
              refine l_ret ?_
              obtain rfl := Option.some.inj h
              refine fin_ok (.inr rfl) (resD1 (res_t rfl) rf_d) ?_
              exact (.refl _)
            · replace h := cond_f c7 h
              refine l_skip ?_
              refine l_seq ?_
              refine l_seq ?_
              refine l_reg fun u18 hu18 => ?_
              refine s_val (.d _) rfl rfl ?_
              refine s_nil ?_
              obtain ⟨z3, hz3, h⟩ := thenS_some h
              refine l_join (fun s => ∃ (y3 : Unit) (g4 : Unit), z3 = .inl y3 ∧ Sb ⟨T [], G []⟩ s) ?_ ?_
              · skip
                refine l_block ?_
                refine l_loop (ref09_numbers_l2 p1) (fun (x2 : Int) (g5 : Unit) => ⟨T [(1, (.ptr (1, u1) 0)), (5, (.d (i64 x2)))], G [((1, u1), some (.box 38 [(.d (i64 p1.Tick)), (.d (i64 p1.Gap)), (.d (.list (List.map eMate p1.Mates))), (.d (i64 p1.Guest_.ID)), (.d (i64 p1.Guest_.S)), (.d (i64 p1.Guest_.V)), (.d (i64 p1.Guest_.Len)), (.d (i64 p1.Guest_.End)), (.d (i64 p1.Guest_.Ahead)), (.d (i64 p1.Guest_.Guess_.R)), (.d (i64 p1.Guest_.Guess_.V)), (.d (i64 p1.Guest_.From)), (.d (i64 p1.Guest_.Until))]))]⟩) 0 () _ hz3 (sb_of ⟨.of rfl, .of rfl, trivial⟩ (sbG_some G_hit (.of rfl) trivial)) ?_
                intro x2 g5 z4 hz4 ez4
                unfold ref09_numbers_l2 at hz4
                refine l_seq ?_
                refine l_seq ?_
                refine l_reg fun u19 hu19 => ?_
                refine s_val (.d _) rfl rfl ?_
                refine s_val (.ptr _ _) rfl rfl ?_
                refine s_val (.d _) rfl (v_load rfl G_hit rfl) ?_
                refine s_val (.d _) rfl (v_len rfl) ?_
                refine s_val (.d _) rfl rfl ?_
                refine s_nil ?_
                refine l_cond (decide (x2 < (p1.Mates.length : Int))) rfl (fun c8 => ?_) (fun c8 => ?_)
                · replace hz4 := cond_t c8 hz4
                  refine l_skip ?_
                  refine l_seq ?_
                  refine l_block ?_
                  refine l_seq ?_
                  refine l_seq ?_
                  refine l_reg fun u20 hu20 => ?_
                  refine s_val (.d _) rfl rfl ?_
                  refine s_nil ?_
                  obtain ⟨z5, hz5, hz4⟩ := thenS_some hz4
                  refine l_join (fun s => ∃ (y4 : Unit) (g6 : Unit), z5 = .inl y4 ∧ Sb ⟨T [(1, (.ptr (1, u1) 0)), (5, (.d (i64 x2)))], G [((1, u1), some (.box 38 [(.d (i64 p1.Tick)), (.d (i64 p1.Gap)), (.d (.list (List.map eMate p1.Mates))), (.d (i64 p1.Guest_.ID)), (.d (i64 p1.Guest_.S)), (.d (i64 p1.Guest_.V)), (.d (i64 p1.Guest_.Len)), (.d (i64 p1.Guest_.End)), (.d (i64 p1.Guest_.Ahead)), (.d (i64 p1.Guest_.Guess_.R)), (.d (i64 p1.Guest_.Guess_.V)), (.d (i64 p1.Guest_.From)), (.d (i64 p1.Guest_.Until))]))]⟩ s) ?_ ?_
                  · skip
                    refine l_block ?_
                    refine l_loop (ref09_numbers_l3 p1 x2) (fun (x3 : Int) (g7 : Unit) => ⟨T [(1, (.ptr (1, u1) 0)), (5, (.d (i64 x2))), (6, (.d (i64 x3)))], G [((1, u1), some (.box 38 [(.d (i64 p1.Tick)), (.d (i64 p1.Gap)), (.d (.list (List.map eMate p1.Mates))), (.d (i64 p1.Guest_.ID)), (.d (i64 p1.Guest_.S)), (.d (i64 p1.Guest_.V)), (.d (i64 p1.Guest_.Len)), (.d (i64 p1.Guest_.End)), (.d (i64 p1.Guest_.Ahead)), (.d (i64 p1.Guest_.Guess_.R)), (.d (i64 p1.Guest_.Guess_.V)), (.d (i64 p1.Guest_.From)), (.d (i64 p1.Guest_.Until))]))]⟩) 0 () _ hz5 (sb_of ⟨.of rfl, .of rfl, .of rfl, trivial⟩ (sbG_some G_hit (.of rfl) trivial)) ?_
                    intro x3 g7 z6 hz6 ez6
                    unfold ref09_numbers_l3 at hz6
                    refine l_seq ?_
                    refine l_seq ?_
                    refine l_reg fun u21 hu21 => ?_
                    refine s_val (.d _) rfl rfl ?_
                    refine s_val (.d _) rfl rfl ?_
                    refine s_val (.d _) rfl rfl ?_
                    refine s_nil ?_
                    refine l_cond (decide (x3 < x2)) rfl (fun c9 => ?_) (fun c9 => ?_)
                    · replace hz6 := cond_t c9 hz6
                      refine l_skip ?_
                      refine l_seq ?_
                      refine l_block ?_
                      refine l_seq ?_
                      refine l_draw rfl fun u22 hu22 => ?_
                      refine s_val (.ptr _ _) rfl rfl ?_
                      refine s_val (.d _) rfl (v_load rfl G_hit rfl) ?_
                      refine s_val (.d _) rfl rfl ?_
                      obtain ⟨v6, hv6, hz6⟩ := bind_some hz6
                      refine s_val (.d _) rfl (v_idx rfl rfl hv6 rfl) ?_
                      refine s_val (.d _) rfl rfl ?_
                      refine s_val (.d _) rfl (v_loadL rfl hv6 rfl) ?_
                      refine s_val (.ptr _ _) rfl rfl ?_
                      refine s_val (.d _) rfl (v_load rfl G_hit rfl) ?_
                      refine s_val (.d _) rfl rfl ?_
                      obtain ⟨v7, hv7, hz6⟩ := bind_some hz6
                      refine s_val (.d _) rfl (v_idx rfl rfl hv7 rfl) ?_
                      refine s_val (.d _) rfl rfl ?_
                      refine s_val (.d _) rfl (v_loadL rfl hv7 rfl) ?_
                      refine s_val (.d _) rfl rfl ?_
                      refine s_nil ?_
                      refine l_cond (v6.ID == v7.ID) rfl (fun c10 => ?_) (fun c10 => ?_)
                      · replace hz6 := cond_t c10 hz6
                        refine l_seq ?_
                        refine l_reg fun u23 hu23 => ?_
                        refine s_val (.d _) rfl rfl ?_
                        refine s_nil ?_
                        refine l_ret ?_
                        obtain rfl := Option.some.inj hz6
                        obtain rfl := ez6 _ rfl
                        refine ⟨nofun, awl_ret ?_⟩
                        rw [Sum.elim_inr] at hz4
                        obtain rfl := Option.some.inj hz4
                        obtain rfl := ez4 _ rfl
                        refine ⟨nofun, awl_ret ?_⟩
                        rw [Sum.elim_inr] at h
                        obtain rfl := Option.some.inj h
                        refine fin_ok (.inr rfl) (resD1 (res_t rfl) rf_d) ?_
                        exact (.refl _)
                      · replace hz6 := cond_f c10 hz6
                        refine l_skip ?_
                        refine l_end ?_
                        refine l_reg fun u24 hu24 => ?_
                        refine s_val (.d _) rfl rfl ?_
                        refine s_val (.d _) rfl rfl ?_
                        refine s_val (.d _) rfl rfl ?_
                        refine s_nil ?_
                        refine l_nil ?_
                        obtain rfl := Option.some.inj hz6
                        exact ⟨rfl, (), (sb_of ⟨.of rfl, .of rfl, .of rfl, trivial⟩ (sbG_some G_hit (.of rfl) trivial))⟩
                    · replace hz6 := cond_f c9 hz6
                      refine l_exitN rfl ?_
                      obtain rfl := Option.some.inj hz6
                      obtain rfl := ez6 _ rfl
                      refine ⟨nofun, awl_pop rfl (l_j ?_)⟩
                      exact ⟨_, (), rfl, (sb_of ⟨.of rfl, .of rfl, trivial⟩ (sbG_some G_hit (.of rfl) trivial))⟩
                  · rintro _ ⟨y4, g6, rfl, q3⟩
                    rw [Sum.elim_inl] at hz4
                    refine l_sub q3 ?_
                    refine l_seq ?_
                    refine l_draw rfl fun u25 hu25 => ?_
                    refine s_val (.ptr _ _) rfl rfl ?_
                    refine s_val (.d _) rfl (v_load rfl G_hit rfl) ?_
                    refine s_val (.d _) rfl rfl ?_
                    obtain ⟨v8, hv8, hz4⟩ := bind_some hz4
                    refine s_val (.d _) rfl (v_idx rfl rfl hv8 rfl) ?_
                    refine s_val (.d _) rfl rfl ?_
                    refine s_val (.d _) rfl (v_loadL rfl hv8 rfl) ?_
                    refine s_val (.ptr _ _) rfl rfl ?_
                    refine s_val (.ptr _ _) rfl rfl ?_
                    refine s_val (.d _) rfl (v_load rfl G_hit rfl) ?_
                    refine s_val (.d _) rfl rfl ?_
                    refine s_nil ?_
                    refine l_cond (v8.ID == p1.Guest_.ID) rfl (fun c11 => ?_) (fun c11 => ?_)
                    · replace hz4 := cond_t c11 hz4
                      refine l_seq ?_
                      refine l_reg fun u26 hu26 => ?_
                      refine s_val (.d _) rfl rfl ?_
                      refine s_nil ?_
                      refine l_ret ?_
                      obtain rfl := Option.some.inj hz4
                      obtain rfl := ez4 _ rfl
                      refine ⟨nofun, awl_ret ?_⟩
                      rw [Sum.elim_inr] at h
                      obtain rfl := Option.some.inj h
                      refine fin_ok (.inr rfl) (resD1 (res_t rfl) rf_d) ?_
                      exact (.refl _)
                    · replace hz4 := cond_f c11 hz4
                      refine l_skip ?_
                      refine l_end ?_
                      refine l_reg fun u27 hu27 => ?_
                      refine s_val (.d _) rfl rfl ?_
                      refine s_val (.d _) rfl rfl ?_
                      refine s_val (.d _) rfl rfl ?_
                      refine s_nil ?_
                      refine l_nil ?_
                      obtain rfl := Option.some.inj hz4
                      exact ⟨rfl, (), (sb_of ⟨.of rfl, .of rfl, trivial⟩ (sbG_some G_hit (.of rfl) trivial))⟩
                · replace hz4 := cond_f c8 hz4
                  refine l_exitN rfl ?_
                  obtain rfl := Option.some.inj hz4
                  obtain rfl := ez4 _ rfl
                  refine ⟨nofun, awl_pop rfl (l_j ?_)⟩
                  exact ⟨_, (), rfl, (sb_of trivial trivial)⟩
              · rintro _ ⟨y3, g4, rfl, q4⟩
                rw [Sum.elim_inl] at h
                refine l_sub q4 ?_
                refine l_seq ?_
                refine l_reg fun u28 hu28 => ?_
                refine s_val (.d _) rfl rfl ?_
                refine s_nil ?_
                refine l_ret ?_
                obtain rfl := Option.some.inj h
                refine fin_ok (.inr rfl) (resD1 (res_t rfl) rf_d) ?_
                exact (.refl _)

noncomputable def ref09_rear (p1 : Mate) : Option Int :=
  some (w64 (p1.S - p1.Len))

/-- kerbstone/kerbstoneref09.rear -/
def ac_ref09_rear : AC :=
  (.seq (.reg [⟨(some 1), .box 65 true (.t 0), none⟩, ⟨(some 2), .mv (.c (.v (.int .i64 0))), none⟩])
  (.seq (.reg [⟨(some 3), .fieldA 1 (.t 1), none⟩, ⟨(some 4), .load 1 false (.t 3), none⟩, ⟨(some 5), .fieldA 3 (.t 1), none⟩, ⟨(some 6), .load 1 false (.t 5), none⟩, ⟨(some 7), .bin .sub (.t 4) (.t 6), none⟩, ⟨(some 2), .mv (.t 7), none⟩])
  .ret))
theorem fn_ref09_rear : FnOK Try.prog 70 8 [.t 2] ac_ref09_rear := ⟨_, _, Try.func70, rfl, Try.ntmps70, by kernel_rfl, ⟨fun _ => [], by kernel_rfl⟩, by kernel_rfl⟩
theorem ref09_rear_ok (p1 : Mate) (r : Int) (h : ref09_rear p1 = some r) : PCall Try.prog 70 [(.agg [(i64 p1.ID), (i64 p1.S), (i64 p1.V), (i64 p1.Len), (i64 p1.Ahead), (i64 p1.Guess_.R), (i64 p1.Guess_.V), (bo p1.Trust), (i64 p1.Ward), (i64 p1.WardGuess.R), (i64 p1.WardGuess.V), (i64 p1.Until)])] (i64 r) := by
  refine l_call fn_ref09_rear (Nat.le_of_ble_eq_true rfl) ?_
  unfold ref09_rear at h
  unfold ac_ref09_rear
  refine (l_sub (s0 := ⟨T [(0, (.d (.agg [(i64 p1.ID), (i64 p1.S), (i64 p1.V), (i64 p1.Len), (i64 p1.Ahead), (i64 p1.Guess_.R), (i64 p1.Guess_.V), (bo p1.Trust), (i64 p1.Ward), (i64 p1.WardGuess.R), (i64 p1.WardGuess.V), (i64 p1.Until)])))], G []⟩) (sb_of ⟨.of rfl, trivial⟩ trivial) ?_)
  refine l_seq ?_
  refine l_reg fun u1 hu1 => ?_
  refine s_new (.ptr _ _) (.box _ _) rfl rfl ?_
  refine s_val (.d _) rfl rfl ?_
  refine s_nil ?_
  refine l_seq ?_
  refine l_reg fun u2 hu2 => ?_
  refine s_val (.ptr _ _) rfl rfl ?_
  refine s_val (.d _) rfl (v_load rfl G_hit rfl) ?_
  refine s_val (.ptr _ _) rfl rfl ?_
  refine s_val (.d _) rfl (v_load rfl G_hit rfl) ?_
  refine s_val (.d _) rfl rfl ?_
  refine s_val (.d _) rfl rfl ?_
  refine s_nil ?_
  refine l_ret ?_
  obtain rfl := Option.some.inj h
  refine fin_ok (.inr rfl) (resD1 (res_t rfl) rf_d) ?_
  exact (.refl _)

noncomputable def ref09_sane_l1 (p1 : (List Int)) (x1 : Int) : Option (Stp Int (Sum Unit Bool)) :=
  cond (decide (x1 < (p1.length : Int))) ((geti p1 x1).bind fun v1 => ((cond (!(decide (v1 < (-4398046511104)))) (geti p1 x1) (some default))).bind fun v2 => cond ((decide (v1 < (-4398046511104))) || (decide (v2 > 4398046511104))) (some (.out (.inr false))) (some (.go (w64 (x1 + 1))))) (some (.out (.inl ())))
noncomputable def ref09_sane (p1 : (List Int)) : Option Bool :=
  thenS (loop (ref09_sane_l1 p1) 0) (fun _ => some true) (fun r => some r)

/-- kerbstone/kerbstoneref09.sane -/
def ac_ref09_sane : AC :=
  (.seq (.reg [⟨(some 2), .mv (.c (.v (.bool false))), none⟩])
  (.seq (.seq (.reg [⟨(some 3), .mv (.c (.v (.int .i64 0))), none⟩])
  (.block 0
    (.loop
      (.seq (.seq (.reg [⟨(some 4), .mv (.t 3), none⟩, ⟨(some 5), .mv (.t 0), none⟩, ⟨(some 6), .len (.t 5), none⟩, ⟨(some 7), .bin .lss (.t 4) (.t 6), none⟩])
      (.cond (.t 7)
        .skip
        (.exit 0)))
      (.seq (.block 1
        (.seq (.reg [⟨(some 10), .mv (.t 0), none⟩, ⟨(some 11), .mv (.t 3), none⟩, ⟨(some 12), .idxS 1 (.t 10) (.t 11), none⟩, ⟨(some 13), .load 1 false (.t 12), none⟩, ⟨(some 14), .bin .lss (.t 13) (.c (.v (.int .i64 (-4398046511104)))), none⟩, ⟨(some 15), .mv (.t 14), none⟩, ⟨(some 16), .mv (.t 0), (some (15, false))⟩, ⟨(some 17), .mv (.t 3), (some (15, false))⟩, ⟨(some 18), .idxS 1 (.t 16) (.t 17), (some (15, false))⟩, ⟨(some 19), .load 1 false (.t 18), (some (15, false))⟩, ⟨(some 20), .bin .gtr (.t 19) (.c (.v (.int .i64 4398046511104))), (some (15, false))⟩, ⟨(some 21), .pick (.t 15) (.c (.v (.bool true))) (.t 20), none⟩])
        (.cond (.t 21)
          (.seq (.reg [⟨(some 2), .mv (.c (.v (.bool false))), none⟩])
          .ret)
          .skip)))
      (.reg [⟨(some 8), .mv (.t 3), none⟩, ⟨(some 9), .bin .add (.t 8) (.c (.v (.int .i64 1))), none⟩, ⟨(some 3), .mv (.t 9), none⟩]))))))
  (.seq (.reg [⟨(some 2), .mv (.c (.v (.bool true))), none⟩])
  .ret)))
theorem fn_ref09_sane : FnOK Try.prog 60 22 [.t 2] ac_ref09_sane := ⟨_, _, Try.func60, rfl, Try.ntmps60, by kernel_rfl, ⟨fun _ => [], by kernel_rfl⟩, by kernel_rfl⟩
set_option maxHeartbeats 4000000 in
theorem ref09_sane_ok (p1 : (List Int)) (r : Bool) (h : ref09_sane p1 = some r) : PCall Try.prog 60 [(.list (List.map eInt_i64 p1))] (bo r) := by
  refine l_call fn_ref09_sane (Nat.le_of_ble_eq_true rfl) ?_
  unfold ref09_sane at h
  unfold ac_ref09_sane
  refine (l_sub (s0 := ⟨T [(0, (.d (.list (List.map eInt_i64 p1))))], G []⟩) (sb_of ⟨.of rfl, trivial⟩ trivial) ?_)
  refine l_seq ?_
  refine l_reg fun u1 hu1 => ?_
  refine s_val (.d _) rfl rfl ?_
  refine s_nil ?_
  refine l_seq ?_
  refine l_seq ?_
  refine l_reg fun u2 hu2 => ?_
  refine s_val (.d _) rfl rfl ?_
  refine s_nil ?_
  obtain ⟨z1, hz1, h⟩ := thenS_some h
  refine l_join (fun s => ∃ (y1 : Unit) (g1 : Unit), z1 = .inl y1 ∧ Sb ⟨T [], G []⟩ s) ?_ ?_
  · skip
    refine l_block ?_
    refine l_loop (ref09_sane_l1 p1) (fun (x1 : Int) (g2 : Unit) => ⟨T [(0, (.d (.list (List.map eInt_i64 p1)))), (3, (.d (i64 x1)))], G []⟩) 0 () _ hz1 (sb_of ⟨.of rfl, .of rfl, trivial⟩ trivial) ?_
    intro x1 g2 z2 hz2 ez2
    unfold ref09_sane_l1 at hz2
    refine l_seq ?_
    refine l_seq ?_
    refine l_reg fun u3 hu3 => ?_
    refine s_val (.d _) rfl rfl ?_
    refine s_val (.d _) rfl rfl ?_
    refine s_val (.d _) rfl (v_len rfl) ?_
    refine s_val (.d _) rfl rfl ?_
    refine s_nil ?_
    refine l_cond (decide (x1 < (p1.length : Int))) rfl (fun c1 => ?_) (fun c1 => ?_)
    · replace hz2 := cond_t c1 hz2
      refine l_skip ?_
      refine l_seq ?_
      refine l_block ?_
      refine l_seq ?_
      refine l_reg fun u4 hu4 => ?_
      refine s_val (.d _) rfl rfl ?_
      refine s_val (.d _) rfl rfl ?_
      obtain ⟨v1, hv1, hz2⟩ := bind_some hz2
      refine s_val (.d _) rfl (v_idx rfl rfl hv1 rfl) ?_
      refine s_val (.d _) rfl (v_loadL rfl hv1 rfl) ?_
      refine s_val (.d _) rfl rfl ?_
      refine s_val (.d _) rfl rfl ?_
      refine g_val (!(decide (v1 < (-4398046511104)))) (.d _) rfl (gw_f rfl) (fun w1 => rfl) ?_
      refine g_val (!(decide (v1 < (-4398046511104)))) (.d _) rfl (gw_f rfl) (fun w2 => rfl) ?_
      obtain ⟨v2, hv2, hz2⟩ := bind_some hz2
      refine g_val (!(decide (v1 < (-4398046511104)))) (.d _) rfl (gw_f rfl) (fun w3 => (v_idx (gd_pos w3) (gd_pos w3) (cond_t w3 hv2) rfl)) ?_
      refine g_val (!(decide (v1 < (-4398046511104)))) (.d _) rfl (gw_f rfl) (fun w4 => (v_loadL (gd_pos w4) (cond_t w4 hv2) rfl)) ?_
      refine g_val (!(decide (v1 < (-4398046511104)))) (.d _) rfl (gw_f rfl) (fun w5 => (v_bin (gd_pos w5) rfl rfl)) ?_
      refine s_val (.d _) rfl (v_or rfl rfl (fun hc => gd_pos (not_t hc))) ?_
      refine s_nil ?_
      refine l_cond ((decide (v1 < (-4398046511104))) || (decide (v2 > 4398046511104))) rfl (fun c2 => ?_) (fun c2 => ?_)
      · replace hz2 := cond_t c2 hz2
        refine l_seq ?_
        refine l_reg fun u5 hu5 => ?_
        refine s_val (.d _) rfl rfl ?_
        refine s_nil ?_
        refine l_ret ?_
        obtain rfl := Option.some.inj hz2
        obtain rfl := ez2 _ rfl
        refine ⟨nofun, awl_ret ?_⟩
        rw [Sum.elim_inr] at h
        obtain rfl := Option.some.inj h
        refine fin_ok (.inr rfl) (resD1 (res_t rfl) rf_d) ?_
        exact (.refl _)
      · replace hz2 := cond_f c2 hz2
        refine l_skip ?_
        refine l_end ?_
        refine l_reg fun u6 hu6 => ?_
        refine s_val (.d _) rfl rfl ?_
        refine s_val (.d _) rfl rfl ?_
        refine s_val (.d _) rfl rfl ?_
        refine s_nil ?_
        refine l_nil ?_
        obtain rfl := Option.some.inj hz2
        exact ⟨rfl, (), (sb_of ⟨.of rfl, .of rfl, trivial⟩ trivial)⟩
    · replace hz2 := cond_f c1 hz2
      refine l_exitN rfl ?_
      obtain rfl := Option.some.inj hz2
      obtain rfl := ez2 _ rfl
      refine ⟨nofun, awl_pop rfl (l_j ?_)⟩
      exact ⟨_, (), rfl, (sb_of trivial trivial)⟩
  · rintro _ ⟨y1, g1, rfl, q1⟩
    rw [Sum.elim_inl] at h
    refine l_sub q1 ?_
    refine l_seq ?_
    refine l_reg fun u7 hu7 => ?_
    refine s_val (.d _) rfl rfl ?_
    refine s_nil ?_
    refine l_ret ?_
    obtain rfl := Option.some.inj h
    refine fin_ok (.inr rfl) (resD1 (res_t rfl) rf_d) ?_
    exact (.refl _)

noncomputable def ref04_Stop_l1 (p2 : Int) (x1 : (Int × Int)) : Option (Stp (Int × Int) Int) :=
  cond (decide (x1.1 > (mm2 false p2 1000000))) (some (.go ((w64 (x1.1 - (mm2 false p2 1000000))), (w64 (x1.2 + (w64 (x1.1 - (mm2 false p2 1000000)))))))) (some (.out x1.2))
noncomputable def ref04_Stop (p1 : Int) (p2 : Int) : Option Int :=
  cond ((decide ((mm2 false p1 1000000) < 1)) || (decide ((mm2 false p2 1000000) < 1))) (some 0) ((loop (ref04_Stop_l1 p2) ((mm2 false p1 1000000), 0)).bind fun y1 => some y1)

/-- kerbstone/kerbstoneref04.Stop -/
def ac_ref04_Stop : AC :=
  (.seq (.reg [⟨(some 4), .mv (.c (.v (.int .i64 0))), none⟩])
  (.seq (.reg [⟨(some 6), .mv (.t 0), none⟩, ⟨(some 7), .mm false (.t 6) [(.c (.v (.int .i64 1000000)))], none⟩, ⟨(some 8), .mv (.t 1), none⟩, ⟨(some 9), .mm false (.t 8) [(.c (.v (.int .i64 1000000)))], none⟩, ⟨(some 0), .mv (.t 7), none⟩, ⟨(some 1), .mv (.t 9), none⟩])
  (.seq (.reg [⟨(some 5), .mv (.c (.v (.int .i64 0))), none⟩])
  (.seq (.seq (.reg [⟨(some 10), .mv (.t 0), none⟩, ⟨(some 11), .bin .lss (.t 10) (.c (.v (.int .i64 1))), none⟩, ⟨(some 12), .mv (.t 11), none⟩, ⟨(some 13), .mv (.t 1), (some (12, false))⟩, ⟨(some 14), .bin .lss (.t 13) (.c (.v (.int .i64 1))), (some (12, false))⟩, ⟨(some 15), .pick (.t 12) (.c (.v (.bool true))) (.t 14), none⟩])
  (.cond (.t 15)
    (.seq (.reg [⟨(some 4), .mv (.c (.v (.int .i64 0))), none⟩])
    .ret)
    .skip))
  (.seq (.block 0
    (.loop
      (.seq (.seq (.reg [⟨(some 16), .mv (.t 0), none⟩, ⟨(some 17), .mv (.t 1), none⟩, ⟨(some 18), .bin .gtr (.t 16) (.t 17), none⟩])
      (.cond (.t 18)
        .skip
        (.exit 0)))
      (.block 1
        (.seq (.reg [⟨(some 19), .mv (.t 0), none⟩, ⟨(some 20), .mv (.t 1), none⟩, ⟨(some 21), .bin .sub (.t 19) (.t 20), none⟩, ⟨(some 0), .mv (.t 21), none⟩])
        (.reg [⟨(some 22), .mv (.t 5), none⟩, ⟨(some 23), .mv (.t 0), none⟩, ⟨(some 24), .bin .add (.t 22) (.t 23), none⟩, ⟨(some 5), .mv (.t 24), none⟩]))))))
  (.seq (.reg [⟨(some 25), .mv (.t 5), none⟩, ⟨(some 4), .mv (.t 25), none⟩])
  .ret))))))
theorem fn_ref04_Stop : FnOK Try.prog 97 26 [.t 4] ac_ref04_Stop := ⟨_, _, Try.func97, rfl, Try.ntmps97, by kernel_rfl, ⟨fun _ => [], by kernel_rfl⟩, by kernel_rfl⟩
set_option maxHeartbeats 4000000 in
theorem ref04_Stop_ok (p1 : Int) (p2 : Int) (r : Int) (h : ref04_Stop p1 p2 = some r) : PCall Try.prog 97 [(i64 p1), (i64 p2)] (i64 r) := by
  refine l_call fn_ref04_Stop (Nat.le_of_ble_eq_true rfl) ?_
  unfold ref04_Stop at h
  unfold ac_ref04_Stop
  refine (l_sub (s0 := ⟨T [(0, (.d (i64 p1))), (1, (.d (i64 p2)))], G []⟩) (sb_of ⟨.of rfl, .of rfl, trivial⟩ trivial) ?_)
  refine l_seq ?_
  refine l_reg fun u1 hu1 => ?_
  refine s_val (.d _) rfl rfl ?_
  refine s_nil ?_
  refine l_seq ?_
  refine l_reg fun u2 hu2 => ?_
  refine s_val (.d _) rfl rfl ?_
  refine s_val (.d _) rfl rfl ?_
  refine s_val (.d _) rfl rfl ?_
  refine s_val (.d _) rfl rfl ?_
  refine s_val (.d _) rfl rfl ?_
  refine s_val (.d _) rfl rfl ?_
  refine s_nil ?_
  refine l_seq ?_
  refine l_reg fun u3 hu3 => ?_
  refine s_val (.d _) rfl rfl ?_
  refine s_nil ?_
  refine l_seq ?_
  refine l_seq ?_
  refine l_reg fun u4 hu4 => ?_
  refine s_val (.d _) rfl rfl ?_
  refine s_val (.d _) rfl rfl ?_
  refine s_val (.d _) rfl rfl ?_
  refine g_val (!(decide ((mm2 false p1 1000000) < 1))) (.d _) rfl (gw_f rfl) (fun w1 => rfl) ?_
  refine g_val (!(decide ((mm2 false p1 1000000) < 1))) (.d _) rfl (gw_f rfl) (fun w2 => (v_bin (gd_pos w2) rfl rfl)) ?_
  refine s_val (.d _) rfl (v_or rfl rfl (fun hc => gd_pos (not_t hc))) ?_
  refine s_nil ?_
  refine l_cond ((decide ((mm2 false p1 1000000) < 1)) || (decide ((mm2 false p2 1000000) < 1))) rfl (fun c1 => ?_) (fun c1 => ?_)
  · replace h := cond_t c1 h
    refine l_seq ?_
    refine l_reg fun u5 hu5 => ?_
    refine s_val (.d _) rfl rfl ?_
    refine s_nil ?_
    refine l_ret ?_
    obtain rfl := Option.some.inj h
    refine fin_ok (.inr rfl) (resD1 (res_t rfl) rf_d) ?_
    exact (.refl _)
  · replace h := cond_f c1 h
    refine l_skip ?_
    refine l_seq ?_
    obtain ⟨y1, hy1, h⟩ := bind_some h
    refine l_join (fun s => ∃ g1 : Unit, Sb ⟨T [(5, (.d (i64 y1)))], G []⟩ s) ?_ ?_
    · skip
      refine l_block ?_
      refine l_loop (ref04_Stop_l1 p2) (fun (x1 : (Int × Int)) (g2 : Unit) => ⟨T [(0, (.d (i64 x1.1))), (1, (.d (i64 (mm2 false p2 1000000)))), (5, (.d (i64 x1.2)))], G []⟩) ((mm2 false p1 1000000), 0) () _ hy1 (sb_of ⟨.of rfl, .of rfl, .of rfl, trivial⟩ trivial) ?_
      intro x1 g2 z1 hz1 ez1
      unfold ref04_Stop_l1 at hz1
      refine l_seq ?_
      refine l_seq ?_
      refine l_reg fun u6 hu6 => ?_
      refine s_val (.d _) rfl rfl ?_
      refine s_val (.d _) rfl rfl ?_
      refine s_val (.d _) rfl rfl ?_
      refine s_nil ?_
      refine l_cond (decide (x1.1 > (mm2 false p2 1000000))) rfl (fun c2 => ?_) (fun c2 => ?_)
      · replace hz1 := cond_t c2 hz1
        refine l_skip ?_
        refine l_block ?_
        refine l_seq ?_
        refine l_reg fun u7 hu7 => ?_
        refine s_val (.d _) rfl rfl ?_
        refine s_val (.d _) rfl rfl ?_
        refine s_val (.d _) rfl rfl ?_
        refine s_val (.d _) rfl rfl ?_
        refine s_nil ?_
        refine l_reg fun u8 hu8 => ?_
        refine s_val (.d _) rfl rfl ?_
        refine s_val (.d _) rfl rfl ?_
        refine s_val (.d _) rfl rfl ?_
        refine s_val (.d _) rfl rfl ?_
        refine s_nil ?_
        refine l_end ?_
        refine l_nil ?_
        obtain rfl := Option.some.inj hz1
        exact ⟨rfl, (), (sb_of ⟨.of rfl, .of rfl, .of rfl, trivial⟩ trivial)⟩
      · replace hz1 := cond_f c2 hz1
        refine l_exitN rfl ?_
        obtain rfl := Option.some.inj hz1
        obtain rfl := ez1 _ rfl
        refine ⟨nofun, awl_pop rfl (l_j ?_)⟩
        exact ⟨(), (sb_of ⟨.of rfl, trivial⟩ trivial)⟩
    · rintro _ ⟨g1, q1⟩
      refine l_sub q1 ?_
      refine l_seq ?_
      refine l_reg fun u9 hu9 => ?_
      refine s_val (.d _) rfl rfl ?_
      refine s_val (.d _) rfl rfl ?_
      refine s_nil ?_
      refine l_ret ?_
      obtain rfl := Option.some.inj h
      refine fin_ok (.inr rfl) (resD1 (res_t rfl) rf_d) ?_
      exact (.refl _)

noncomputable def ref09_stop (p1 : Int) : Option Int :=
  (ref04_Stop p1 90).bind fun v1 => some v1

/-- kerbstone/kerbstoneref09.stop -/
def ac_ref09_stop : AC :=
  (.seq (.reg [⟨(some 2), .mv (.c (.v (.int .i64 0))), none⟩])
  (.seq (.reg [⟨(some 3), .mv (.t 0), none⟩, ⟨(some 4), .call (.c (.fn (.func 97) [] [])) [(.t 3), (.c (.v (.int .i64 90)))], none⟩, ⟨(some 2), .mv (.t 4), none⟩])
  .ret))
theorem fn_ref09_stop : FnOK Try.prog 63 5 [.t 2] ac_ref09_stop := ⟨_, _, Try.func63, rfl, Try.ntmps63, by kernel_rfl, ⟨fun _ => [], by kernel_rfl⟩, by kernel_rfl⟩
theorem ref09_stop_ok (p1 : Int) (r : Int) (h : ref09_stop p1 = some r) : PCall Try.prog 63 [(i64 p1)] (i64 r) := by
  refine l_call fn_ref09_stop (Nat.le_of_ble_eq_true rfl) ?_
  unfold ref09_stop at h
  unfold ac_ref09_stop
  refine (l_sub (s0 := ⟨T [(0, (.d (i64 p1)))], G []⟩) (sb_of ⟨.of rfl, trivial⟩ trivial) ?_)
  refine l_seq ?_
  refine l_reg fun u1 hu1 => ?_
  refine s_val (.d _) rfl rfl ?_
  refine s_nil ?_
  refine l_seq ?_
  refine l_reg fun u2 hu2 => ?_
  refine s_val (.d _) rfl rfl ?_
  obtain ⟨v1, hv1, h⟩ := bind_some h
  refine s_call rfl rfl all2_refl (ref04_Stop_ok _ _  _ hv1) (.inl rfl) ?_
  refine s_val (.d _) rfl rfl ?_
  refine s_nil ?_
  refine l_ret ?_
  obtain rfl := Option.some.inj h
  refine fin_ok (.inr rfl) (resD1 (res_t rfl) rf_d) ?_
  exact (.refl _)

noncomputable def ref09_Safe (p1 : Int) (p2 : Int) (p3 : Int) (p4 : Guess) : Option Bool :=
  (ref09_sane [p1, p2, p3, p4.R, p4.V]).bind fun v1 => ((cond (v1 && (decide (p1 ≤ (w64 (p4.R - p3))))) (ref09_stop p2) (some default))).bind fun v2 => ((cond (v1 && (decide (p1 ≤ (w64 (p4.R - p3))))) (ref09_stop p4.V) (some default))).bind fun v3 => some ((v1 && (decide (p1 ≤ (w64 (p4.R - p3))))) && (decide ((w64 (p1 + v2)) ≤ (w64 ((w64 (p4.R + v3)) - p3)))))

/-- kerbstone/kerbstoneref09.Safe -/
def ac_ref09_Safe : AC :=
  (.seq (.reg [⟨(some 7), .box 23 true (.t 3), none⟩, ⟨(some 8), .mv (.c (.v (.bool false))), none⟩])
  (.seq (.draw [⟨(some 9), .mv (.t 0), none⟩, ⟨(some 10), .mv (.t 1), none⟩, ⟨(some 11), .mv (.t 2), none⟩, ⟨(some 12), .fieldA 0 (.t 7), none⟩, ⟨(some 13), .load 1 false (.t 12), none⟩, ⟨(some 14), .fieldA 1 (.t 7), none⟩, ⟨(some 15), .load 1 false (.t 14), none⟩, ⟨(some 16), .dslice 2 1 5 [(.v (.int .i64 0))] [(0, 1, (.t 9)), (1, 1, (.t 10)), (2, 1, (.t 11)), (3, 1, (.t 13)), (4, 1, (.t 15))], none⟩, ⟨(some 17), .call (.c (.fn (.func 60) [] [])) [(.t 16)], none⟩, ⟨(some 18), .mv (.t 17), none⟩, ⟨(some 19), .mv (.t 0), (some (18, true))⟩, ⟨(some 20), .fieldA 0 (.t 7), (some (18, true))⟩, ⟨(some 21), .load 1 false (.t 20), (some (18, true))⟩, ⟨(some 22), .mv (.t 2), (some (18, true))⟩, ⟨(some 23), .bin .sub (.t 21) (.t 22), (some (18, true))⟩, ⟨(some 24), .bin .leq (.t 19) (.t 23), (some (18, true))⟩, ⟨(some 25), .pick (.t 18) (.t 24) (.c (.v (.bool false))), none⟩, ⟨(some 26), .mv (.t 25), none⟩, ⟨(some 27), .mv (.t 0), (some (26, true))⟩, ⟨(some 28), .mv (.t 1), (some (26, true))⟩, ⟨(some 29), .call (.c (.fn (.func 63) [] [])) [(.t 28)], (some (26, true))⟩, ⟨(some 30), .bin .add (.t 27) (.t 29), (some (26, true))⟩, ⟨(some 31), .fieldA 0 (.t 7), (some (26, true))⟩, ⟨(some 32), .load 1 false (.t 31), (some (26, true))⟩, ⟨(some 33), .fieldA 1 (.t 7), (some (26, true))⟩, ⟨(some 34), .load 1 false (.t 33), (some (26, true))⟩, ⟨(some 35), .call (.c (.fn (.func 63) [] [])) [(.t 34)], (some (26, true))⟩, ⟨(some 36), .bin .add (.t 32) (.t 35), (some (26, true))⟩, ⟨(some 37), .mv (.t 2), (some (26, true))⟩, ⟨(some 38), .bin .sub (.t 36) (.t 37), (some (26, true))⟩, ⟨(some 39), .bin .leq (.t 30) (.t 38), (some (26, true))⟩, ⟨(some 40), .pick (.t 26) (.t 39) (.c (.v (.bool false))), none⟩, ⟨(some 8), .mv (.t 40), none⟩] [])
  .ret))
theorem fn_ref09_Safe : FnOK Try.prog 22 41 [.t 8] ac_ref09_Safe := ⟨_, _, Try.func22, rfl, Try.ntmps22, by kernel_rfl, ⟨fun r => if r == 1 then [1007] else [], by kernel_rfl⟩, by kernel_rfl⟩
theorem ref09_Safe_ok (p1 : Int) (p2 : Int) (p3 : Int) (p4 : Guess) (r : Bool) (h : ref09_Safe p1 p2 p3 p4 = some r) : PCall Try.prog 22 [(i64 p1), (i64 p2), (i64 p3), (.agg [(i64 p4.R), (i64 p4.V)])] (bo r) := by
  refine l_call fn_ref09_Safe (Nat.le_of_ble_eq_true rfl) ?_
  unfold ref09_Safe at h
  unfold ac_ref09_Safe
  refine (l_sub (s0 := ⟨T [(0, (.d (i64 p1))), (1, (.d (i64 p2))), (2, (.d (i64 p3))), (3, (.d (.agg [(i64 p4.R), (i64 p4.V)])))], G []⟩) (sb_of ⟨.of rfl, .of rfl, .of rfl, .of rfl, trivial⟩ trivial) ?_)
  refine l_seq ?_
  refine l_reg fun u1 hu1 => ?_
  refine s_new (.ptr _ _) (.box _ _) rfl rfl ?_
  refine s_val (.d _) rfl rfl ?_
  refine s_nil ?_
  refine l_seq ?_
  refine l_draw rfl fun u2 hu2 => ?_
  refine s_val (.d _) rfl rfl ?_
  refine s_val (.d _) rfl rfl ?_
  refine s_val (.d _) rfl rfl ?_
  refine s_val (.ptr _ _) rfl rfl ?_
  refine s_val (.d _) rfl (v_load rfl G_hit rfl) ?_
  refine s_val (.ptr _ _) rfl rfl ?_
  refine s_val (.d _) rfl (v_load rfl G_hit rfl) ?_
  refine s_val (.d (.list (List.map eInt_i64 [p1, p2, p3, p4.R, p4.V]))) rfl rfl ?_
  obtain ⟨v1, hv1, h⟩ := bind_some h
  refine s_call rfl rfl all2_refl (ref09_sane_ok _  _ hv1) (.inl rfl) ?_
  refine s_val (.d _) rfl rfl ?_
  refine g_val v1 (.d _) rfl (gw_t rfl) (fun w1 => rfl) ?_
  refine g_val v1 (.ptr _ _) rfl (gw_t rfl) (fun w2 => rfl) ?_
  refine g_val v1 (.d _) rfl (gw_t rfl) (fun w3 => (v_load (gd_pos w3) G_hit rfl)) ?_
  refine g_val v1 (.d _) rfl (gw_t rfl) (fun w4 => rfl) ?_
  refine g_val v1 (.d _) rfl (gw_t rfl) (fun w5 => (v_bin (gd_pos w5) (gd_pos w5) rfl)) ?_
  refine g_val v1 (.d _) rfl (gw_t rfl) (fun w6 => (v_bin (gd_pos w6) (gd_pos w6) rfl)) ?_
  refine s_val (.d _) rfl (v_and rfl (fun hc => gd_pos hc) rfl) ?_
  refine s_val (.d _) rfl rfl ?_
  refine g_val (v1 && (decide (p1 ≤ (w64 (p4.R - p3))))) (.d _) rfl (gw_t rfl) (fun w7 => rfl) ?_
  refine g_val (v1 && (decide (p1 ≤ (w64 (p4.R - p3))))) (.d _) rfl (gw_t rfl) (fun w8 => rfl) ?_
  obtain ⟨v2, hv2, h⟩ := bind_some h
  refine g_call (v1 && (decide (p1 ≤ (w64 (p4.R - p3))))) (i64 v2) (gw_t rfl) (fun w9 => ⟨_, [(.d (i64 p2))], _, _, (by simp only [gd_pos w9]; rfl), rfl, all2_refl, ref09_stop_ok _  _ (cond_t w9 hv2), (.inl rfl)⟩) ?_
  refine g_val (v1 && (decide (p1 ≤ (w64 (p4.R - p3))))) (.d _) rfl (gw_t rfl) (fun w10 => (v_bin (gd_pos w10) (gd_pos w10) rfl)) ?_
  refine g_val (v1 && (decide (p1 ≤ (w64 (p4.R - p3))))) (.ptr _ _) rfl (gw_t rfl) (fun w11 => rfl) ?_
  refine g_val (v1 && (decide (p1 ≤ (w64 (p4.R - p3))))) (.d _) rfl (gw_t rfl) (fun w12 => (v_load (gd_pos w12) G_hit rfl)) ?_
  refine g_val (v1 && (decide (p1 ≤ (w64 (p4.R - p3))))) (.ptr _ _) rfl (gw_t rfl) (fun w13 => rfl) ?_
  refine g_val (v1 && (decide (p1 ≤ (w64 (p4.R - p3))))) (.d _) rfl (gw_t rfl) (fun w14 => (v_load (gd_pos w14) G_hit rfl)) ?_
  obtain ⟨v3, hv3, h⟩ := bind_some h
  refine g_call (v1 && (decide (p1 ≤ (w64 (p4.R - p3))))) (i64 v3) (gw_t rfl) (fun w15 => ⟨_, [(.d (i64 p4.V))], _, _, (by simp only [gd_pos w15]; rfl), rfl, all2_refl, ref09_stop_ok _  _ (cond_t w15 hv3), (.inl rfl)⟩) ?_
  refine g_val (v1 && (decide (p1 ≤ (w64 (p4.R - p3))))) (.d _) rfl (gw_t rfl) (fun w16 => (v_bin (gd_pos w16) (gd_pos w16) rfl)) ?_
  refine g_val (v1 && (decide (p1 ≤ (w64 (p4.R - p3))))) (.d _) rfl (gw_t rfl) (fun w17 => rfl) ?_
  refine g_val (v1 && (decide (p1 ≤ (w64 (p4.R - p3))))) (.d _) rfl (gw_t rfl) (fun w18 => (v_bin (gd_pos w18) (gd_pos w18) rfl)) ?_
  refine g_val (v1 && (decide (p1 ≤ (w64 (p4.R - p3))))) (.d _) rfl (gw_t rfl) (fun w19 => (v_bin (gd_pos w19) (gd_pos w19) rfl)) ?_
  refine s_val (.d _) rfl (v_and rfl (fun hc => gd_pos hc) rfl) ?_
  refine s_val (.d _) rfl rfl ?_
  refine s_nil ?_
  refine l_ret ?_
  obtain rfl := Option.some.inj h
  refine fin_ok (.inr rfl) (resD1 (res_t rfl) rf_d) ?_
  exact (.refl _)

noncomputable def ref09_Check_l3 (p1 : Convoy) (x3 : Int) : Option (Stp Int (Sum Unit Int)) :=
  cond (decide (x3 < (p1.Mates.length : Int))) ((geti p1.Mates x3).bind fun v6 => ((cond (v6.Ahead != 0) (ref09_Safe v6.S v6.V p1.Gap v6.Guess_) (some default))).bind fun v7 => ((cond ((!((v6.Ahead != 0) && (!v7))) && (v6.Until != 0)) (ref09_Safe v6.S v6.V p1.Gap v6.WardGuess) (some default))).bind fun v8 => cond (((v6.Ahead != 0) && (!v7)) || ((v6.Until != 0) && (!v8))) (some (.out (.inr 12))) (some (.go (w64 (x3 + 1))))) (some (.out (.inl ())))
noncomputable def ref09_Check_l2 (p1 : Convoy) (x2 : Int) : Option (Stp Int (Sum Unit Int)) :=
  cond (decide (x2 < (p1.Mates.length : Int))) ((geti p1.Mates x2).bind fun v5 => cond ((((x2 == 0) && (v5.Ahead != 0)) || (((decide (x2 > 0)) && (v5.Ahead == 0)) && (v5.Until == 0))) || ((v5.Ward == 0) && (v5.Until != 0))) (some (.out (.inr 10))) (some (.go (w64 (x2 + 1))))) (some (.out (.inl ())))
noncomputable def ref09_Check_l1 (p1 : Convoy) (x1 : Int) : Option (Stp Int (Sum Unit Int)) :=
  cond (decide (x1 < (p1.Mates.length : Int))) ((geti p1.Mates x1).bind fun v2 => (geti p1.Mates (w64 (x1 - 1))).bind fun v3 => (ref09_rear v3).bind fun v4 => cond (decide (v2.S ≥ v4)) (some (.out (.inr 11))) (some (.go (w64 (x1 + 1))))) (some (.out (.inl ())))
noncomputable def ref09_Check (p1 : Convoy) : Option Int :=
  (ref09_numbers p1).bind fun v1 => cond (v1 != 0) (some v1) (thenS (loop (ref09_Check_l1 p1) 1) (fun _ => thenS (loop (ref09_Check_l2 p1) 0) (fun _ => thenS (loop (ref09_Check_l3 p1) 0) (fun _ => ((cond (p1.Guest_.ID != 0) (ref09_stop p1.Guest_.V) (some default))).bind fun v9 => cond ((p1.Guest_.ID != 0) && (decide ((w64 (p1.Guest_.S + v9)) ≥ p1.Guest_.End))) (some 12) (some 0)) (fun r => some r)) (fun r => some r)) (fun r => some r))

/-- kerbstone/kerbstoneref09.Check -/
def ac_ref09_Check : AC :=
  (.seq (.reg [⟨(some 1), .box 38 true (.t 0), none⟩, ⟨(some 2), .mv (.c (.v (.int .i64 0))), none⟩])
  (.seq (.seq (.reg [⟨(some 9), .load 13 true (.t 1), none⟩, ⟨(some 10), .call (.c (.fn (.func 78) [] [])) [(.t 9)], none⟩, ⟨(some 3), .mv (.t 10), none⟩])
  (.seq (.reg [⟨(some 11), .mv (.t 3), none⟩, ⟨(some 12), .bin .neq (.t 11) (.c (.v (.int .i64 0))), none⟩])
  (.cond (.t 12)
    (.seq (.reg [⟨(some 13), .mv (.t 3), none⟩, ⟨(some 2), .mv (.t 13), none⟩])
    .ret)
    .skip)))
  (.seq (.seq (.reg [⟨(some 4), .mv (.c (.v (.int .i64 1))), none⟩])
  (.block 0
    (.loop
      (.seq (.seq (.reg [⟨(some 14), .mv (.t 4), none⟩, ⟨(some 15), .fieldA 2 (.t 1), none⟩, ⟨(some 16), .load 1 false (.t 15), none⟩, ⟨(some 17), .len (.t 16), none⟩, ⟨(some 18), .bin .lss (.t 14) (.t 17), none⟩])
      (.cond (.t 18)
        .skip
        (.exit 0)))
      (.seq (.block 1
        (.seq (.draw [⟨(some 21), .fieldA 2 (.t 1), none⟩, ⟨(some 22), .load 1 false (.t 21), none⟩, ⟨(some 23), .mv (.t 4), none⟩, ⟨(some 24), .idxS 12 (.t 22) (.t 23), none⟩, ⟨(some 25), .fieldA 1 (.t 24), none⟩, ⟨(some 26), .load 1 false (.t 25), none⟩, ⟨(some 27), .fieldA 2 (.t 1), none⟩, ⟨(some 28), .load 1 false (.t 27), none⟩, ⟨(some 29), .mv (.t 4), none⟩, ⟨(some 30), .bin .sub (.t 29) (.c (.v (.int .i64 1))), none⟩, ⟨(some 31), .idxS 12 (.t 28) (.t 30), none⟩, ⟨(some 32), .load 12 true (.t 31), none⟩, ⟨(some 33), .call (.c (.fn (.func 70) [] [])) [(.t 32)], none⟩, ⟨(some 34), .bin .geq (.t 26) (.t 33), none⟩] [])
        (.cond (.t 34)
          (.seq (.reg [⟨(some 2), .mv (.c (.v (.int .i64 11))), none⟩])
          .ret)
          .skip)))
      (.reg [⟨(some 19), .mv (.t 4), none⟩, ⟨(some 20), .bin .add (.t 19) (.c (.v (.int .i64 1))), none⟩, ⟨(some 4), .mv (.t 20), none⟩]))))))
  (.seq (.seq (.reg [⟨(some 5), .mv (.c (.v (.int .i64 0))), none⟩])
  (.block 2
    (.loop
      (.seq (.seq (.reg [⟨(some 35), .mv (.t 5), none⟩, ⟨(some 36), .fieldA 2 (.t 1), none⟩, ⟨(some 37), .load 1 false (.t 36), none⟩, ⟨(some 38), .len (.t 37), none⟩, ⟨(some 39), .bin .lss (.t 35) (.t 38), none⟩])
      (.cond (.t 39)
        .skip
        (.exit 2)))
      (.seq (.block 3
        (.seq (.reg [⟨(some 42), .fieldA 2 (.t 1), none⟩, ⟨(some 43), .load 1 false (.t 42), none⟩, ⟨(some 44), .mv (.t 5), none⟩, ⟨(some 45), .idxS 12 (.t 43) (.t 44), none⟩, ⟨(some 46), .load 12 true (.t 45), none⟩, ⟨(some 6), .alloc 65 [(.v (.int .i64 0)), (.v (.int .i64 0)), (.v (.int .i64 0)), (.v (.int .i64 0)), (.v (.int .i64 0)), (.v (.int .i64 0)), (.v (.int .i64 0)), (.v (.bool false)), (.v (.int .i64 0)), (.v (.int .i64 0)), (.v (.int .i64 0)), (.v (.int .i64 0))], none⟩, ⟨none, .store 12 (.t 6) (.t 46), none⟩])
        (.seq (.reg [⟨(some 47), .mv (.t 5), none⟩, ⟨(some 48), .bin .eql (.t 47) (.c (.v (.int .i64 0))), none⟩, ⟨(some 49), .mv (.t 48), none⟩, ⟨(some 50), .fieldA 4 (.t 6), (some (49, true))⟩, ⟨(some 51), .load 1 false (.t 50), (some (49, true))⟩, ⟨(some 52), .bin .neq (.t 51) (.c (.v (.int .i64 0))), (some (49, true))⟩, ⟨(some 53), .pick (.t 49) (.t 52) (.c (.v (.bool false))), none⟩, ⟨(some 54), .mv (.t 53), none⟩, ⟨(some 55), .mv (.t 5), (some (54, false))⟩, ⟨(some 56), .bin .gtr (.t 55) (.c (.v (.int .i64 0))), (some (54, false))⟩, ⟨(some 57), .mv (.t 56), (some (54, false))⟩, ⟨(some 58), .fieldA 4 (.t 6), (some (57, true))⟩, ⟨(some 59), .load 1 false (.t 58), (some (57, true))⟩, ⟨(some 60), .bin .eql (.t 59) (.c (.v (.int .i64 0))), (some (57, true))⟩, ⟨(some 61), .pick (.t 57) (.t 60) (.c (.v (.bool false))), (some (54, false))⟩, ⟨(some 62), .mv (.t 61), (some (54, false))⟩, ⟨(some 63), .fieldA 11 (.t 6), (some (62, true))⟩, ⟨(some 64), .load 1 false (.t 63), (some (62, true))⟩, ⟨(some 65), .bin .eql (.t 64) (.c (.v (.int .i64 0))), (some (62, true))⟩, ⟨(some 66), .pick (.t 62) (.t 65) (.c (.v (.bool false))), (some (54, false))⟩, ⟨(some 67), .pick (.t 54) (.c (.v (.bool true))) (.t 66), none⟩, ⟨(some 68), .mv (.t 67), none⟩, ⟨(some 69), .fieldA 8 (.t 6), (some (68, false))⟩, ⟨(some 70), .load 1 false (.t 69), (some (68, false))⟩, ⟨(some 71), .bin .eql (.t 70) (.c (.v (.int .i64 0))), (some (68, false))⟩, ⟨(some 72), .mv (.t 71), (some (68, false))⟩, ⟨(some 73), .fieldA 11 (.t 6), (some (72, true))⟩, ⟨(some 74), .load 1 false (.t 73), (some (72, true))⟩, ⟨(some 75), .bin .neq (.t 74) (.c (.v (.int .i64 0))), (some (72, true))⟩, ⟨(some 76), .pick (.t 72) (.t 75) (.c (.v (.bool false))), (some (68, false))⟩, ⟨(some 77), .pick (.t 68) (.c (.v (.bool true))) (.t 76), none⟩])
        (.cond (.t 77)
          (.seq (.reg [⟨(some 2), .mv (.c (.v (.int .i64 10))), none⟩])
          .ret)
          .skip))))
      (.reg [⟨(some 40), .mv (.t 5), none⟩, ⟨(some 41), .bin .add (.t 40) (.c (.v (.int .i64 1))), none⟩, ⟨(some 5), .mv (.t 41), none⟩]))))))
  (.seq (.seq (.reg [⟨(some 7), .mv (.c (.v (.int .i64 0))), none⟩])
  (.block 4
    (.loop
      (.seq (.seq (.reg [⟨(some 78), .mv (.t 7), none⟩, ⟨(some 79), .fieldA 2 (.t 1), none⟩, ⟨(some 80), .load 1 false (.t 79), none⟩, ⟨(some 81), .len (.t 80), none⟩, ⟨(some 82), .bin .lss (.t 78) (.t 81), none⟩])
      (.cond (.t 82)
        .skip
        (.exit 4)))
      (.seq (.block 5
        (.seq (.reg [⟨(some 85), .fieldA 2 (.t 1), none⟩, ⟨(some 86), .load 1 false (.t 85), none⟩, ⟨(some 87), .mv (.t 7), none⟩, ⟨(some 88), .idxS 12 (.t 86) (.t 87), none⟩, ⟨(some 89), .load 12 true (.t 88), none⟩, ⟨(some 8), .alloc 65 [(.v (.int .i64 0)), (.v (.int .i64 0)), (.v (.int .i64 0)), (.v (.int .i64 0)), (.v (.int .i64 0)), (.v (.int .i64 0)), (.v (.int .i64 0)), (.v (.bool false)), (.v (.int .i64 0)), (.v (.int .i64 0)), (.v (.int .i64 0)), (.v (.int .i64 0))], none⟩, ⟨none, .store 12 (.t 8) (.t 89), none⟩])
        (.seq (.reg [⟨(some 90), .fieldA 4 (.t 8), none⟩, ⟨(some 91), .load 1 false (.t 90), none⟩, ⟨(some 92), .bin .neq (.t 91) (.c (.v (.int .i64 0))), none⟩, ⟨(some 93), .mv (.t 92), none⟩, ⟨(some 94), .fieldA 1 (.t 8), (some (93, true))⟩, ⟨(some 95), .load 1 false (.t 94), (some (93, true))⟩, ⟨(some 96), .fieldA 2 (.t 8), (some (93, true))⟩, ⟨(some 97), .load 1 false (.t 96), (some (93, true))⟩, ⟨(some 98), .fieldA 1 (.t 1), (some (93, true))⟩, ⟨(some 99), .load 1 false (.t 98), (some (93, true))⟩, ⟨(some 100), .fieldA 5 (.t 8), (some (93, true))⟩, ⟨(some 101), .load 2 true (.t 100), (some (93, true))⟩, ⟨(some 102), .call (.c (.fn (.func 22) [] [])) [(.t 95), (.t 97), (.t 99), (.t 101)], (some (93, true))⟩, ⟨(some 103), .un .not (.t 102), (some (93, true))⟩, ⟨(some 104), .pick (.t 93) (.t 103) (.c (.v (.bool false))), none⟩, ⟨(some 105), .mv (.t 104), none⟩, ⟨(some 106), .fieldA 11 (.t 8), (some (105, false))⟩, ⟨(some 107), .load 1 false (.t 106), (some (105, false))⟩, ⟨(some 108), .bin .neq (.t 107) (.c (.v (.int .i64 0))), (some (105, false))⟩, ⟨(some 109), .mv (.t 108), (some (105, false))⟩, ⟨(some 110), .fieldA 1 (.t 8), (some (109, true))⟩, ⟨(some 111), .load 1 false (.t 110), (some (109, true))⟩, ⟨(some 112), .fieldA 2 (.t 8), (some (109, true))⟩, ⟨(some 113), .load 1 false (.t 112), (some (109, true))⟩, ⟨(some 114), .fieldA 1 (.t 1), (some (109, true))⟩, ⟨(some 115), .load 1 false (.t 114), (some (109, true))⟩, ⟨(some 116), .fieldA 9 (.t 8), (some (109, true))⟩, ⟨(some 117), .load 2 true (.t 116), (some (109, true))⟩, ⟨(some 118), .call (.c (.fn (.func 22) [] [])) [(.t 111), (.t 113), (.t 115), (.t 117)], (some (109, true))⟩, ⟨(some 119), .un .not (.t 118), (some (109, true))⟩, ⟨(some 120), .pick (.t 109) (.t 119) (.c (.v (.bool false))), (some (105, false))⟩, ⟨(some 121), .pick (.t 105) (.c (.v (.bool true))) (.t 120), none⟩])
        (.cond (.t 121)
          (.seq (.reg [⟨(some 2), .mv (.c (.v (.int .i64 12))), none⟩])
          .ret)
          .skip))))
      (.reg [⟨(some 83), .mv (.t 7), none⟩, ⟨(some 84), .bin .add (.t 83) (.c (.v (.int .i64 1))), none⟩, ⟨(some 7), .mv (.t 84), none⟩]))))))
  (.seq (.seq (.draw [⟨(some 122), .fieldA 3 (.t 1), none⟩, ⟨(some 123), .fieldA 0 (.t 122), none⟩, ⟨(some 124), .load 1 false (.t 123), none⟩, ⟨(some 125), .bin .neq (.t 124) (.c (.v (.int .i64 0))), none⟩, ⟨(some 126), .mv (.t 125), none⟩, ⟨(some 127), .fieldA 3 (.t 1), (some (126, true))⟩, ⟨(some 128), .fieldA 1 (.t 127), (some (126, true))⟩, ⟨(some 129), .load 1 false (.t 128), (some (126, true))⟩, ⟨(some 130), .fieldA 3 (.t 1), (some (126, true))⟩, ⟨(some 131), .fieldA 2 (.t 130), (some (126, true))⟩, ⟨(some 132), .load 1 false (.t 131), (some (126, true))⟩, ⟨(some 133), .call (.c (.fn (.func 63) [] [])) [(.t 132)], (some (126, true))⟩, ⟨(some 134), .bin .add (.t 129) (.t 133), (some (126, true))⟩, ⟨(some 135), .fieldA 3 (.t 1), (some (126, true))⟩, ⟨(some 136), .fieldA 4 (.t 135), (some (126, true))⟩, ⟨(some 137), .load 1 false (.t 136), (some (126, true))⟩, ⟨(some 138), .bin .geq (.t 134) (.t 137), (some (126, true))⟩, ⟨(some 139), .pick (.t 126) (.t 138) (.c (.v (.bool false))), none⟩] [])
  (.cond (.t 139)
    (.seq (.reg [⟨(some 2), .mv (.c (.v (.int .i64 12))), none⟩])
    .ret)
    .skip))
  (.seq (.reg [⟨(some 2), .mv (.c (.v (.int .i64 0))), none⟩])
  .ret)))))))
theorem fn_ref09_Check : FnOK Try.prog 33 140 [.t 2] ac_ref09_Check := ⟨_, _, Try.func33, rfl, Try.ntmps33, by kernel_rfl, ⟨fun _ => [], by kernel_rfl⟩, by kernel_rfl⟩
set_option maxHeartbeats 4000000 in
theorem ref09_Check_ok (p1 : Convoy) (r : Int) (h : ref09_Check p1 = some r) : PCall Try.prog 33 [(.agg [(i64 p1.Tick), (i64 p1.Gap), (.list (List.map eMate p1.Mates)), (i64 p1.Guest_.ID), (i64 p1.Guest_.S), (i64 p1.Guest_.V), (i64 p1.Guest_.Len), (i64 p1.Guest_.End), (i64 p1.Guest_.Ahead), (i64 p1.Guest_.Guess_.R), (i64 p1.Guest_.Guess_.V), (i64 p1.Guest_.From), (i64 p1.Guest_.Until)])] (i64 r) := by
  refine l_call fn_ref09_Check (Nat.le_of_ble_eq_true rfl) ?_
  unfold ref09_Check at h
  unfold ac_ref09_Check
  refine (l_sub (s0 := ⟨T [(0, (.d (.agg [(i64 p1.Tick), (i64 p1.Gap), (.list (List.map eMate p1.Mates)), (i64 p1.Guest_.ID), (i64 p1.Guest_.S), (i64 p1.Guest_.V), (i64 p1.Guest_.Len), (i64 p1.Guest_.End), (i64 p1.Guest_.Ahead), (i64 p1.Guest_.Guess_.R), (i64 p1.Guest_.Guess_.V), (i64 p1.Guest_.From), (i64 p1.Guest_.Until)])))], G []⟩) (sb_of ⟨.of rfl, trivial⟩ trivial) ?_)
  refine l_seq ?_
  refine l_reg fun u1 hu1 => ?_
  refine s_new (.ptr _ _) (.box _ _) rfl rfl ?_
  refine s_val (.d _) rfl rfl ?_
  refine s_nil ?_
  refine l_seq ?_
  refine l_seq ?_
  refine l_reg fun u2 hu2 => ?_
  refine s_val (.d _) rfl (v_loadG rfl G_hit rfl rfl) ?_
  obtain ⟨v1, hv1, h⟩ := bind_some h
  refine s_call rfl rfl all2_refl (ref09_numbers_ok _  _ hv1) (.inl rfl) ?_
  refine s_val (.d _) rfl rfl ?_
  refine s_nil ?_
  refine l_seq ?_
  refine l_reg fun u3 hu3 => ?_
  refine s_val (.d _) rfl rfl ?_
  refine s_val (.d _) rfl rfl ?_
  refine s_nil ?_
  refine l_cond (v1 != 0) rfl (fun c1 => ?_) (fun c1 => ?_)
  · replace h := cond_t c1 h
    refine l_seq ?_
    refine l_reg fun u4 hu4 => ?_
    refine s_val (.d _) rfl rfl ?_
    refine s_val (.d _) rfl rfl ?_
    refine s_nil ?_
    refine l_ret ?_
    obtain rfl := Option.some.inj h
    refine fin_ok (.inr rfl) (resD1 (res_t rfl) rf_d) ?_
    exact (.refl _)
  · replace h := cond_f c1 h
    refine l_skip ?_
    refine l_seq ?_
    refine l_seq ?_
    refine l_reg fun u5 hu5 => ?_
    refine s_val (.d _) rfl rfl ?_
    refine s_nil ?_
    obtain ⟨z1, hz1, h⟩ := thenS_some h
    refine l_join (fun s => ∃ (y1 : Unit) (g1 : Unit), z1 = .inl y1 ∧ Sb ⟨T [(1, (.ptr (1, u1) 0))], G [((1, u1), some (.box 38 [(.d (i64 p1.Tick)), (.d (i64 p1.Gap)), (.d (.list (List.map eMate p1.Mates))), (.d (i64 p1.Guest_.ID)), (.d (i64 p1.Guest_.S)), (.d (i64 p1.Guest_.V)), (.d (i64 p1.Guest_.Len)), (.d (i64 p1.Guest_.End)), (.d (i64 p1.Guest_.Ahead)), (.d (i64 p1.Guest_.Guess_.R)), (.d (i64 p1.Guest_.Guess_.V)), (.d (i64 p1.Guest_.From)), (.d (i64 p1.Guest_.Until))]))]⟩ s) ?_ ?_
    · skip
      refine l_block ?_
      refine l_loop (ref09_Check_l1 p1) (fun (x1 : Int) (g2 : Unit) => ⟨T [(1, (.ptr (1, u1) 0)), (4, (.d (i64 x1)))], G [((1, u1), some (.box 38 [(.d (i64 p1.Tick)), (.d (i64 p1.Gap)), (.d (.list (List.map eMate p1.Mates))), (.d (i64 p1.Guest_.ID)), (.d (i64 p1.Guest_.S)), (.d (i64 p1.Guest_.V)), (.d (i64 p1.Guest_.Len)), (.d (i64 p1.Guest_.End)), (.d (i64 p1.Guest_.Ahead)), (.d (i64 p1.Guest_.Guess_.R)), (.d (i64 p1.Guest_.Guess_.V)), (.d (i64 p1.Guest_.From)), (.d (i64 p1.Guest_.Until))]))]⟩) 1 () _ hz1 (sb_of ⟨.of rfl, .of rfl, trivial⟩ (sbG_some G_hit (.of rfl) trivial)) ?_
      intro x1 g2 z2 hz2 ez2
      unfold ref09_Check_l1 at hz2
      refine l_seq ?_
      refine l_seq ?_
      refine l_reg fun u6 hu6 => ?_
      refine s_val (.d _) rfl rfl ?_
      refine s_val (.ptr _ _) rfl rfl ?_
      refine s_val (.d _) rfl (v_load rfl G_hit rfl) ?_
      refine s_val (.d _) rfl (v_len rfl) ?_
      refine s_val (.d _) rfl rfl ?_
      refine s_nil ?_
      refine l_cond (decide (x1 < (p1.Mates.length : Int))) rfl (fun c2 => ?_) (fun c2 => ?_)
      · replace hz2 := cond_t c2 hz2
        refine l_skip ?_
        refine l_seq ?_
        refine l_block ?_
        refine l_seq ?_
        refine l_draw rfl fun u7 hu7 => ?_
        refine s_val (.ptr _ _) rfl rfl ?_
        refine s_val (.d _) rfl (v_load rfl G_hit rfl) ?_
        refine s_val (.d _) rfl rfl ?_
        obtain ⟨v2, hv2, hz2⟩ := bind_some hz2
        refine s_val (.d _) rfl (v_idx rfl rfl hv2 rfl) ?_
        refine s_val (.d _) rfl rfl ?_
        refine s_val (.d _) rfl (v_loadL rfl hv2 rfl) ?_
        refine s_val (.ptr _ _) rfl rfl ?_
        refine s_val (.d _) rfl (v_load rfl G_hit rfl) ?_
        refine s_val (.d _) rfl rfl ?_
        refine s_val (.d _) rfl rfl ?_
        obtain ⟨v3, hv3, hz2⟩ := bind_some hz2
        refine s_val (.d _) rfl (v_idx rfl rfl hv3 rfl) ?_
        refine s_val (.d _) rfl (v_loadLG rfl hv3 rfl rfl) ?_
        obtain ⟨v4, hv4, hz2⟩ := bind_some hz2
        refine s_call rfl rfl all2_refl (ref09_rear_ok _  _ hv4) (.inl rfl) ?_
        refine s_val (.d _) rfl rfl ?_
        refine s_nil ?_
        refine l_cond (decide (v2.S ≥ v4)) rfl (fun c3 => ?_) (fun c3 => ?_)
        · replace hz2 := cond_t c3 hz2
          refine l_seq ?_
          refine l_reg fun u8 hu8 => ?_
          refine s_val (.d _) rfl rfl ?_
          refine s_nil ?_
          refine l_ret ?_
          obtain rfl := Option.some.inj hz2
          obtain rfl := ez2 _ rfl
          refine ⟨nofun, awl_ret ?_⟩
          rw [Sum.elim_inr] at h
          obtain rfl := Option.some.inj h
          refine fin_ok (.inr rfl) (resD1 (res_t rfl) rf_d) ?_
          exact (.refl _)
        · replace hz2 := cond_f c3 hz2
          refine l_skip ?_
          refine l_end ?_
          refine l_reg fun u9 hu9 => ?_
          refine s_val (.d _) rfl rfl ?_
          refine s_val (.d _) rfl rfl ?_
          refine s_val (.d _) rfl rfl ?_
          refine s_nil ?_
          refine l_nil ?_
          obtain rfl := Option.some.inj hz2
          exact ⟨rfl, (), (sb_of ⟨.of rfl, .of rfl, trivial⟩ (sbG_some G_hit (.of rfl) trivial))⟩
      · replace hz2 := cond_f c2 hz2
        refine l_exitN rfl ?_
        obtain rfl := Option.some.inj hz2
        obtain rfl := ez2 _ rfl
        refine ⟨nofun, awl_pop rfl (l_j ?_)⟩
        exact ⟨_, (), rfl, (sb_of ⟨.of rfl, trivial⟩ (sbG_some G_hit (.of rfl) trivial))⟩
    · rintro _ ⟨y1, g1, rfl, q1⟩
      rw [Sum.elim_inl] at h
      refine l_sub q1 ?_
      refine l_seq ?_
      refine l_seq ?_
      refine l_reg fun u10 hu10 => ?_
      refine s_val (.d _) rfl rfl ?_
      refine s_nil ?_
      obtain ⟨z3, hz3, h⟩ := thenS_some h
      refine l_join (fun s => ∃ (y2 : Unit) (g3 : Unit), z3 = .inl y2 ∧ Sb ⟨T [(1, (.ptr (1, u1) 0))], G [((1, u1), some (.box 38 [(.d (i64 p1.Tick)), (.d (i64 p1.Gap)), (.d (.list (List.map eMate p1.Mates))), (.d (i64 p1.Guest_.ID)), (.d (i64 p1.Guest_.S)), (.d (i64 p1.Guest_.V)), (.d (i64 p1.Guest_.Len)), (.d (i64 p1.Guest_.End)), (.d (i64 p1.Guest_.Ahead)), (.d (i64 p1.Guest_.Guess_.R)), (.d (i64 p1.Guest_.Guess_.V)), (.d (i64 p1.Guest_.From)), (.d (i64 p1.Guest_.Until))]))]⟩ s) ?_ ?_
      · skip
        refine l_block ?_
        refine l_loop (ref09_Check_l2 p1) (fun (x2 : Int) (g4 : Unit) => ⟨T [(1, (.ptr (1, u1) 0)), (5, (.d (i64 x2)))], G [((1, u1), some (.box 38 [(.d (i64 p1.Tick)), (.d (i64 p1.Gap)), (.d (.list (List.map eMate p1.Mates))), (.d (i64 p1.Guest_.ID)), (.d (i64 p1.Guest_.S)), (.d (i64 p1.Guest_.V)), (.d (i64 p1.Guest_.Len)), (.d (i64 p1.Guest_.End)), (.d (i64 p1.Guest_.Ahead)), (.d (i64 p1.Guest_.Guess_.R)), (.d (i64 p1.Guest_.Guess_.V)), (.d (i64 p1.Guest_.From)), (.d (i64 p1.Guest_.Until))]))]⟩) 0 () _ hz3 (sb_of ⟨.of rfl, .of rfl, trivial⟩ (sbG_some G_hit (.of rfl) trivial)) ?_
        intro x2 g4 z4 hz4 ez4
        unfold ref09_Check_l2 at hz4
        refine l_seq ?_
        refine l_seq ?_
        refine l_reg fun u11 hu11 => ?_
        refine s_val (.d _) rfl rfl ?_
        refine s_val (.ptr _ _) rfl rfl ?_
        refine s_val (.d _) rfl (v_load rfl G_hit rfl) ?_
        refine s_val (.d _) rfl (v_len rfl) ?_
        refine s_val (.d _) rfl rfl ?_
        refine s_nil ?_
        refine l_cond (decide (x2 < (p1.Mates.length : Int))) rfl (fun c4 => ?_) (fun c4 => ?_)
        · replace hz4 := cond_t c4 hz4
          refine l_skip ?_
          refine l_seq ?_
          refine l_block ?_
          refine l_seq ?_
          refine l_reg fun u12 hu12 => ?_
          refine s_val (.ptr _ _) rfl rfl ?_
          refine s_val (.d _) rfl (v_load rfl G_hit rfl) ?_
          refine s_val (.d _) rfl rfl ?_
          obtain ⟨v5, hv5, hz4⟩ := bind_some hz4
          refine s_val (.d _) rfl (v_idx rfl rfl hv5 rfl) ?_
          refine s_val (.d _) rfl (v_loadLG rfl hv5 rfl rfl) ?_
          refine s_new (.ptr _ _) (.box _ _) rfl rfl ?_
          refine s_store _ _ _ _ _ rfl rfl rfl G_hit (Nat.le_of_ble_eq_true rfl) [(.d (i64 v5.ID)), (.d (i64 v5.S)), (.d (i64 v5.V)), (.d (i64 v5.Len)), (.d (i64 v5.Ahead)), (.d (i64 v5.Guess_.R)), (.d (i64 v5.Guess_.V)), (.d (bo v5.Trust)), (.d (i64 v5.Ward)), (.d (i64 v5.WardGuess.R)), (.d (i64 v5.WardGuess.V)), (.d (i64 v5.Until))] rfl ?_
          refine s_nil ?_
          refine l_seq ?_
          refine l_reg fun u13 hu13 => ?_
          refine s_val (.d _) rfl rfl ?_
          refine s_val (.d _) rfl rfl ?_
          refine s_val (.d _) rfl rfl ?_
          refine g_val (x2 == 0) (.ptr _ _) rfl (gw_t rfl) (fun w1 => rfl) ?_
          refine g_val (x2 == 0) (.d _) rfl (gw_t rfl) (fun w2 => (v_load (gd_pos w2) G_hit rfl)) ?_
          refine g_val (x2 == 0) (.d _) rfl (gw_t rfl) (fun w3 => (v_bin (gd_pos w3) rfl rfl)) ?_
          refine s_val (.d _) rfl (v_and rfl (fun hc => gd_pos hc) rfl) ?_
          refine s_val (.d _) rfl rfl ?_
          refine g_val (!((x2 == 0) && (v5.Ahead != 0))) (.d _) rfl (gw_f rfl) (fun w4 => rfl) ?_
          refine g_val (!((x2 == 0) && (v5.Ahead != 0))) (.d _) rfl (gw_f rfl) (fun w5 => (v_bin (gd_pos w5) rfl rfl)) ?_
          refine g_val (!((x2 == 0) && (v5.Ahead != 0))) (.d _) rfl (gw_f rfl) (fun w6 => (v_mv (gd_pos w6))) ?_
          refine g_val ((!((x2 == 0) && (v5.Ahead != 0))) && (decide (x2 > 0))) (.ptr _ _) rfl (gw_gt rfl) (fun w7 => rfl) ?_
          refine g_val ((!((x2 == 0) && (v5.Ahead != 0))) && (decide (x2 > 0))) (.d _) rfl (gw_gt rfl) (fun w8 => (v_load (gd_pos w8) G_hit rfl)) ?_
          refine g_val ((!((x2 == 0) && (v5.Ahead != 0))) && (decide (x2 > 0))) (.d _) rfl (gw_gt rfl) (fun w9 => (v_bin (gd_pos w9) rfl rfl)) ?_
          refine g_val (!((x2 == 0) && (v5.Ahead != 0))) (.d _) rfl (gw_f rfl) (fun w10 => (v_and (gd_pos w10) (fun hc => gd_pos (and_i w10 hc)) rfl)) ?_
          refine g_val (!((x2 == 0) && (v5.Ahead != 0))) (.d _) rfl (gw_f rfl) (fun w11 => (v_mv (gd_pos w11))) ?_
          refine g_val ((!((x2 == 0) && (v5.Ahead != 0))) && ((decide (x2 > 0)) && (v5.Ahead == 0))) (.ptr _ _) rfl (gw_gt rfl) (fun w12 => rfl) ?_
          refine g_val ((!((x2 == 0) && (v5.Ahead != 0))) && ((decide (x2 > 0)) && (v5.Ahead == 0))) (.d _) rfl (gw_gt rfl) (fun w13 => (v_load (gd_pos w13) G_hit rfl)) ?_
          refine g_val ((!((x2 == 0) && (v5.Ahead != 0))) && ((decide (x2 > 0)) && (v5.Ahead == 0))) (.d _) rfl (gw_gt rfl) (fun w14 => (v_bin (gd_pos w14) rfl rfl)) ?_
          refine g_val (!((x2 == 0) && (v5.Ahead != 0))) (.d _) rfl (gw_f rfl) (fun w15 => (v_and (gd_pos w15) (fun hc => gd_pos (and_i w15 hc)) rfl)) ?_
          refine s_val (.d _) rfl (v_or rfl rfl (fun hc => gd_pos (not_t hc))) ?_
          refine s_val (.d _) rfl rfl ?_
          refine g_val (!(((x2 == 0) && (v5.Ahead != 0)) || (((decide (x2 > 0)) && (v5.Ahead == 0)) && (v5.Until == 0)))) (.ptr _ _) rfl (gw_f rfl) (fun w16 => rfl) ?_
          refine g_val (!(((x2 == 0) && (v5.Ahead != 0)) || (((decide (x2 > 0)) && (v5.Ahead == 0)) && (v5.Until == 0)))) (.d _) rfl (gw_f rfl) (fun w17 => (v_load (gd_pos w17) G_hit rfl)) ?_
          refine g_val (!(((x2 == 0) && (v5.Ahead != 0)) || (((decide (x2 > 0)) && (v5.Ahead == 0)) && (v5.Until == 0)))) (.d _) rfl (gw_f rfl) (fun w18 => (v_bin (gd_pos w18) rfl rfl)) ?_
          refine g_val (!(((x2 == 0) && (v5.Ahead != 0)) || (((decide (x2 > 0)) && (v5.Ahead == 0)) && (v5.Until == 0)))) (.d _) rfl (gw_f rfl) (fun w19 => (v_mv (gd_pos w19))) ?_
          refine g_val ((!(((x2 == 0) && (v5.Ahead != 0)) || (((decide (x2 > 0)) && (v5.Ahead == 0)) && (v5.Until == 0)))) && (v5.Ward == 0)) (.ptr _ _) rfl (gw_gt rfl) (fun w20 => rfl) ?_
          refine g_val ((!(((x2 == 0) && (v5.Ahead != 0)) || (((decide (x2 > 0)) && (v5.Ahead == 0)) && (v5.Until == 0)))) && (v5.Ward == 0)) (.d _) rfl (gw_gt rfl) (fun w21 => (v_load (gd_pos w21) G_hit rfl)) ?_
          refine g_val ((!(((x2 == 0) && (v5.Ahead != 0)) || (((decide (x2 > 0)) && (v5.Ahead == 0)) && (v5.Until == 0)))) && (v5.Ward == 0)) (.d _) rfl (gw_gt rfl) (fun w22 => (v_bin (gd_pos w22) rfl rfl)) ?_
          refine g_val (!(((x2 == 0) && (v5.Ahead != 0)) || (((decide (x2 > 0)) && (v5.Ahead == 0)) && (v5.Until == 0)))) (.d _) rfl (gw_f rfl) (fun w23 => (v_and (gd_pos w23) (fun hc => gd_pos (and_i w23 hc)) rfl)) ?_
          refine s_val (.d _) rfl (v_or rfl rfl (fun hc => gd_pos (not_t hc))) ?_
          refine s_nil ?_
          refine l_cond ((((x2 == 0) && (v5.Ahead != 0)) || (((decide (x2 > 0)) && (v5.Ahead == 0)) && (v5.Until == 0))) || ((v5.Ward == 0) && (v5.Until != 0))) rfl (fun c5 => ?_) (fun c5 => ?_)
          · replace hz4 := cond_t c5 hz4
            refine l_seq ?_
            refine l_sub (s0 := ⟨T [], G []⟩) (sb_of trivial trivial) ?_
            refine l_reg fun u14 hu14 => ?_
            refine s_val (.d _) rfl rfl ?_
            refine s_nil ?_
            refine l_ret ?_
            obtain rfl := Option.some.inj hz4
            obtain rfl := ez4 _ rfl
            refine ⟨nofun, awl_ret ?_⟩
            rw [Sum.elim_inr] at h
            obtain rfl := Option.some.inj h
            refine fin_ok (.inr rfl) (resD1 (res_t rfl) rf_d) ?_
            exact (.refl _)
          · replace hz4 := cond_f c5 hz4
            refine l_skip ?_
            refine l_end ?_
            refine l_sub (s0 := ⟨T [(1, (.ptr (1, u1) 0)), (5, (.d (i64 x2))), (50, (gd (x2 == 0) true (.ptr (6, u12) 4))), (51, (gd (x2 == 0) true (.d (i64 v5.Ahead)))), (52, (gd (x2 == 0) true (.d (bo (v5.Ahead != 0))))), (55, (gd (!((x2 == 0) && (v5.Ahead != 0))) true (.d (i64 x2)))), (56, (gd (!((x2 == 0) && (v5.Ahead != 0))) true (.d (bo (decide (x2 > 0)))))), (57, (gd (!((x2 == 0) && (v5.Ahead != 0))) true (.d (bo (decide (x2 > 0)))))), (58, (gd ((!((x2 == 0) && (v5.Ahead != 0))) && (decide (x2 > 0))) true (.ptr (6, u12) 4))), (59, (gd ((!((x2 == 0) && (v5.Ahead != 0))) && (decide (x2 > 0))) true (.d (i64 v5.Ahead)))), (60, (gd ((!((x2 == 0) && (v5.Ahead != 0))) && (decide (x2 > 0))) true (.d (bo (v5.Ahead == 0))))), (61, (gd (!((x2 == 0) && (v5.Ahead != 0))) true (.d (bo ((decide (x2 > 0)) && (v5.Ahead == 0)))))), (62, (gd (!((x2 == 0) && (v5.Ahead != 0))) true (.d (bo ((decide (x2 > 0)) && (v5.Ahead == 0)))))), (63, (gd ((!((x2 == 0) && (v5.Ahead != 0))) && ((decide (x2 > 0)) && (v5.Ahead == 0))) true (.ptr (6, u12) 11))), (64, (gd ((!((x2 == 0) && (v5.Ahead != 0))) && ((decide (x2 > 0)) && (v5.Ahead == 0))) true (.d (i64 v5.Until)))), (65, (gd ((!((x2 == 0) && (v5.Ahead != 0))) && ((decide (x2 > 0)) && (v5.Ahead == 0))) true (.d (bo (v5.Until == 0))))), (66, (gd (!((x2 == 0) && (v5.Ahead != 0))) true (.d (bo (((decide (x2 > 0)) && (v5.Ahead == 0)) && (v5.Until == 0)))))), (69, (gd (!(((x2 == 0) && (v5.Ahead != 0)) || (((decide (x2 > 0)) && (v5.Ahead == 0)) && (v5.Until == 0)))) true (.ptr (6, u12) 8))), (70, (gd (!(((x2 == 0) && (v5.Ahead != 0)) || (((decide (x2 > 0)) && (v5.Ahead == 0)) && (v5.Until == 0)))) true (.d (i64 v5.Ward)))), (71, (gd (!(((x2 == 0) && (v5.Ahead != 0)) || (((decide (x2 > 0)) && (v5.Ahead == 0)) && (v5.Until == 0)))) true (.d (bo (v5.Ward == 0))))), (72, (gd (!(((x2 == 0) && (v5.Ahead != 0)) || (((decide (x2 > 0)) && (v5.Ahead == 0)) && (v5.Until == 0)))) true (.d (bo (v5.Ward == 0))))), (73, (gd ((!(((x2 == 0) && (v5.Ahead != 0)) || (((decide (x2 > 0)) && (v5.Ahead == 0)) && (v5.Until == 0)))) && (v5.Ward == 0)) true (.ptr (6, u12) 11))), (74, (gd ((!(((x2 == 0) && (v5.Ahead != 0)) || (((decide (x2 > 0)) && (v5.Ahead == 0)) && (v5.Until == 0)))) && (v5.Ward == 0)) true (.d (i64 v5.Until)))), (75, (gd ((!(((x2 == 0) && (v5.Ahead != 0)) || (((decide (x2 > 0)) && (v5.Ahead == 0)) && (v5.Until == 0)))) && (v5.Ward == 0)) true (.d (bo (v5.Until != 0))))), (76, (gd (!(((x2 == 0) && (v5.Ahead != 0)) || (((decide (x2 > 0)) && (v5.Ahead == 0)) && (v5.Until == 0)))) true (.d (bo ((v5.Ward == 0) && (v5.Until != 0))))))], G [((1, u1), some (.box 38 [(.d (i64 p1.Tick)), (.d (i64 p1.Gap)), (.d (.list (List.map eMate p1.Mates))), (.d (i64 p1.Guest_.ID)), (.d (i64 p1.Guest_.S)), (.d (i64 p1.Guest_.V)), (.d (i64 p1.Guest_.Len)), (.d (i64 p1.Guest_.End)), (.d (i64 p1.Guest_.Ahead)), (.d (i64 p1.Guest_.Guess_.R)), (.d (i64 p1.Guest_.Guess_.V)), (.d (i64 p1.Guest_.From)), (.d (i64 p1.Guest_.Until))])), ((6, u12), some (.box 65 [(.d (i64 v5.ID)), (.d (i64 v5.S)), (.d (i64 v5.V)), (.d (i64 v5.Len)), (.d (i64 v5.Ahead)), (.d (i64 v5.Guess_.R)), (.d (i64 v5.Guess_.V)), (.d (bo v5.Trust)), (.d (i64 v5.Ward)), (.d (i64 v5.WardGuess.R)), (.d (i64 v5.WardGuess.V)), (.d (i64 v5.Until))]))]⟩) (sb_of ⟨.of rfl, .of rfl, .of rfl, .of rfl, .of rfl, .of rfl, .of rfl, .of rfl, .of rfl, .of rfl, .of rfl, .of rfl, .of rfl, .of rfl, .of rfl, .of rfl, .of rfl, .of rfl, .of rfl, .of rfl, .of rfl, .of rfl, .of rfl, .of rfl, .of rfl, trivial⟩ (sbG_some (G_skip rfl (G_skip rfl G_hit)) (.of rfl) (sbG_some G_hit (.of rfl) trivial))) ?_
            refine l_reg fun u15 hu15 => ?_
            refine s_val (.d _) rfl rfl ?_
            refine s_val (.d _) rfl rfl ?_
            refine s_val (.d _) rfl rfl ?_
            refine s_nil ?_
            refine l_nil ?_
            obtain rfl := Option.some.inj hz4
            exact ⟨rfl, (), (sb_of ⟨.of rfl, .of rfl, trivial⟩ (sbG_some G_hit (.of rfl) trivial))⟩
        · replace hz4 := cond_f c4 hz4
          refine l_exitN rfl ?_
          obtain rfl := Option.some.inj hz4
          obtain rfl := ez4 _ rfl
          refine ⟨nofun, awl_pop rfl (l_j ?_)⟩
          exact ⟨_, (), rfl, (sb_of ⟨.of rfl, trivial⟩ (sbG_some G_hit (.of rfl) trivial))⟩
      · rintro _ ⟨y2, g3, rfl, q2⟩
        rw [Sum.elim_inl] at h
        refine l_sub q2 ?_
        refine l_seq ?_
        refine l_seq ?_
        refine l_reg fun u16 hu16 => ?_
        refine s_val (.d _) rfl rfl ?_
        refine s_nil ?_
        obtain ⟨z5, hz5, h⟩ := thenS_some h
        refine l_join (fun s => ∃ (y3 : Unit) (g5 : Unit), z5 = .inl y3 ∧ Sb ⟨T [(1, (.ptr (1, u1) 0))], G [((1, u1), some (.box 38 [(.d (i64 p1.Tick)), (.d (i64 p1.Gap)), (.d (.list (List.map eMate p1.Mates))), (.d (i64 p1.Guest_.ID)), (.d (i64 p1.Guest_.S)), (.d (i64 p1.Guest_.V)), (.d (i64 p1.Guest_.Len)), (.d (i64 p1.Guest_.End)), (.d (i64 p1.Guest_.Ahead)), (.d (i64 p1.Guest_.Guess_.R)), (.d (i64 p1.Guest_.Guess_.V)), (.d (i64 p1.Guest_.From)), (.d (i64 p1.Guest_.Until))]))]⟩ s) ?_ ?_
        · skip
          refine l_block ?_
          refine l_loop (ref09_Check_l3 p1) (fun (x3 : Int) (g6 : Unit) => ⟨T [(1, (.ptr (1, u1) 0)), (7, (.d (i64 x3)))], G [((1, u1), some (.box 38 [(.d (i64 p1.Tick)), (.d (i64 p1.Gap)), (.d (.list (List.map eMate p1.Mates))), (.d (i64 p1.Guest_.ID)), (.d (i64 p1.Guest_.S)), (.d (i64 p1.Guest_.V)), (.d (i64 p1.Guest_.Len)), (.d (i64 p1.Guest_.End)), (.d (i64 p1.Guest_.Ahead)), (.d (i64 p1.Guest_.Guess_.R)), (.d (i64 p1.Guest_.Guess_.V)), (.d (i64 p1.Guest_.From)), (.d (i64 p1.Guest_.Until))]))]⟩) 0 () _ hz5 (sb_of ⟨.of rfl, .of rfl, trivial⟩ (sbG_some G_hit (.of rfl) trivial)) ?_
          intro x3 g6 z6 hz6 ez6
          unfold ref09_Check_l3 at hz6
          refine l_seq ?_
          refine l_seq ?_
          refine l_reg fun u17 hu17 => ?_
          refine s_val (.d _) rfl rfl ?_
          refine s_val (.ptr _ _) rfl rfl ?_
          refine s_val (.d _) rfl (v_load rfl G_hit rfl) ?_
          refine s_val (.d _) rfl (v_len rfl) ?_
          refine s_val (.d _) rfl rfl ?_
          refine s_nil ?_
          refine l_cond (decide (x3 < (p1.Mates.length : Int))) rfl (fun c6 => ?_) (fun c6 => ?_)
          · replace hz6 := cond_t c6 hz6
            refine l_skip ?_
            refine l_seq ?_
            refine l_block ?_
            refine l_seq ?_
            refine l_reg fun u18 hu18 => ?_
            refine s_val (.ptr _ _) rfl rfl ?_
            refine s_val (.d _) rfl (v_load rfl G_hit rfl) ?_
            refine s_val (.d _) rfl rfl ?_
            obtain ⟨v6, hv6, hz6⟩ := bind_some hz6
            refine s_val (.d _) rfl (v_idx rfl rfl hv6 rfl) ?_
            refine s_val (.d _) rfl (v_loadLG rfl hv6 rfl rfl) ?_
            refine s_new (.ptr _ _) (.box _ _) rfl rfl ?_
            refine s_store _ _ _ _ _ rfl rfl rfl G_hit (Nat.le_of_ble_eq_true rfl) [(.d (i64 v6.ID)), (.d (i64 v6.S)), (.d (i64 v6.V)), (.d (i64 v6.Len)), (.d (i64 v6.Ahead)), (.d (i64 v6.Guess_.R)), (.d (i64 v6.Guess_.V)), (.d (bo v6.Trust)), (.d (i64 v6.Ward)), (.d (i64 v6.WardGuess.R)), (.d (i64 v6.WardGuess.V)), (.d (i64 v6.Until))] rfl ?_
            refine s_nil ?_
            refine l_seq ?_
            refine l_reg fun u19 hu19 => ?_
            refine s_val (.ptr _ _) rfl rfl ?_
            refine s_val (.d _) rfl (v_load rfl G_hit rfl) ?_
            refine s_val (.d _) rfl rfl ?_
            refine s_val (.d _) rfl rfl ?_
            refine g_val (v6.Ahead != 0) (.ptr _ _) rfl (gw_t rfl) (fun w24 => rfl) ?_
            refine g_val (v6.Ahead != 0) (.d _) rfl (gw_t rfl) (fun w25 => (v_load (gd_pos w25) G_hit rfl)) ?_
            refine g_val (v6.Ahead != 0) (.ptr _ _) rfl (gw_t rfl) (fun w26 => rfl) ?_
            refine g_val (v6.Ahead != 0) (.d _) rfl (gw_t rfl) (fun w27 => (v_load (gd_pos w27) G_hit rfl)) ?_
            refine g_val (v6.Ahead != 0) (.ptr _ _) rfl (gw_t rfl) (fun w28 => rfl) ?_
            refine g_val (v6.Ahead != 0) (.d _) rfl (gw_t rfl) (fun w29 => (v_load (gd_pos w29) (G_skip rfl (G_skip rfl G_hit)) rfl)) ?_
            refine g_val (v6.Ahead != 0) (.ptr _ _) rfl (gw_t rfl) (fun w30 => rfl) ?_
            refine g_val (v6.Ahead != 0) (.d _) rfl (gw_t rfl) (fun w31 => (v_loadG (gd_pos w31) G_hit rfl rfl)) ?_
            obtain ⟨v7, hv7, hz6⟩ := bind_some hz6
            refine g_call (v6.Ahead != 0) (bo v7) (gw_t rfl) (fun w32 => ⟨_, [(.d (i64 v6.S)), (.d (i64 v6.V)), (.d (i64 p1.Gap)), (.d (.agg [(i64 v6.Guess_.R), (i64 v6.Guess_.V)]))], _, _, (by simp only [gd_pos w32]; rfl), rfl, all2_refl, ref09_Safe_ok _ _ _ _  _ (cond_t w32 hv7), (.inl rfl)⟩) ?_
            refine g_val (v6.Ahead != 0) (.d _) rfl (gw_t rfl) (fun w33 => (by simp only [gd_pos w33]; rfl)) ?_
            refine s_val (.d _) rfl (v_and rfl (fun hc => gd_pos hc) rfl) ?_
            refine s_val (.d _) rfl rfl ?_
            refine g_val (!((v6.Ahead != 0) && (!v7))) (.ptr _ _) rfl (gw_f rfl) (fun w34 => rfl) ?_
            refine g_val (!((v6.Ahead != 0) && (!v7))) (.d _) rfl (gw_f rfl) (fun w35 => (v_load (gd_pos w35) G_hit rfl)) ?_
            refine g_val (!((v6.Ahead != 0) && (!v7))) (.d _) rfl (gw_f rfl) (fun w36 => (v_bin (gd_pos w36) rfl rfl)) ?_
            refine g_val (!((v6.Ahead != 0) && (!v7))) (.d _) rfl (gw_f rfl) (fun w37 => (v_mv (gd_pos w37))) ?_
            refine g_val ((!((v6.Ahead != 0) && (!v7))) && (v6.Until != 0)) (.ptr _ _) rfl (gw_gt rfl) (fun w38 => rfl) ?_
            refine g_val ((!((v6.Ahead != 0) && (!v7))) && (v6.Until != 0)) (.d _) rfl (gw_gt rfl) (fun w39 => (v_load (gd_pos w39) G_hit rfl)) ?_
            refine g_val ((!((v6.Ahead != 0) && (!v7))) && (v6.Until != 0)) (.ptr _ _) rfl (gw_gt rfl) (fun w40 => rfl) ?_
            refine g_val ((!((v6.Ahead != 0) && (!v7))) && (v6.Until != 0)) (.d _) rfl (gw_gt rfl) (fun w41 => (v_load (gd_pos w41) G_hit rfl)) ?_
            refine g_val ((!((v6.Ahead != 0) && (!v7))) && (v6.Until != 0)) (.ptr _ _) rfl (gw_gt rfl) (fun w42 => rfl) ?_
            refine g_val ((!((v6.Ahead != 0) && (!v7))) && (v6.Until != 0)) (.d _) rfl (gw_gt rfl) (fun w43 => (v_load (gd_pos w43) (G_skip rfl (G_skip rfl G_hit)) rfl)) ?_
            refine g_val ((!((v6.Ahead != 0) && (!v7))) && (v6.Until != 0)) (.ptr _ _) rfl (gw_gt rfl) (fun w44 => rfl) ?_
            refine g_val ((!((v6.Ahead != 0) && (!v7))) && (v6.Until != 0)) (.d _) rfl (gw_gt rfl) (fun w45 => (v_loadG (gd_pos w45) G_hit rfl rfl)) ?_
            obtain ⟨v8, hv8, hz6⟩ := bind_some hz6
            refine g_call ((!((v6.Ahead != 0) && (!v7))) && (v6.Until != 0)) (bo v8) (gw_gt rfl) (fun w46 => ⟨_, [(.d (i64 v6.S)), (.d (i64 v6.V)), (.d (i64 p1.Gap)), (.d (.agg [(i64 v6.WardGuess.R), (i64 v6.WardGuess.V)]))], _, _, (by simp only [gd_pos w46]; rfl), rfl, all2_refl, ref09_Safe_ok _ _ _ _  _ (cond_t w46 hv8), (.inl rfl)⟩) ?_
            refine g_val ((!((v6.Ahead != 0) && (!v7))) && (v6.Until != 0)) (.d _) rfl (gw_gt rfl) (fun w47 => (by simp only [gd_pos w47]; rfl)) ?_
            refine g_val (!((v6.Ahead != 0) && (!v7))) (.d _) rfl (gw_f rfl) (fun w48 => (v_and (gd_pos w48) (fun hc => gd_pos (and_i w48 hc)) rfl)) ?_
            refine s_val (.d _) rfl (v_or rfl rfl (fun hc => gd_pos (not_t hc))) ?_
            refine s_nil ?_
            refine l_cond (((v6.Ahead != 0) && (!v7)) || ((v6.Until != 0) && (!v8))) rfl (fun c7 => ?_) (fun c7 => ?_)
            · replace hz6 := cond_t c7 hz6
              refine l_seq ?_
              refine l_sub (s0 := ⟨T [], G []⟩) (sb_of trivial trivial) ?_
              refine l_reg fun u20 hu20 => ?_
              refine s_val (.d _) rfl rfl ?_
              refine s_nil ?_
              refine l_ret ?_
              obtain rfl := Option.some.inj hz6
              obtain rfl := ez6 _ rfl
              refine ⟨nofun, awl_ret ?_⟩
              rw [Sum.elim_inr] at h
              obtain rfl := Option.some.inj h
              refine fin_ok (.inr rfl) (resD1 (res_t rfl) rf_d) ?_
              exact (.refl _)
            · replace hz6 := cond_f c7 hz6
              refine l_skip ?_
              refine l_end ?_
              refine l_sub (s0 := ⟨T [(1, (.ptr (1, u1) 0)), (7, (.d (i64 x3))), (94, (gd (v6.Ahead != 0) true (.ptr (8, u18) 1))), (95, (gd (v6.Ahead != 0) true (.d (i64 v6.S)))), (96, (gd (v6.Ahead != 0) true (.ptr (8, u18) 2))), (97, (gd (v6.Ahead != 0) true (.d (i64 v6.V)))), (98, (gd (v6.Ahead != 0) true (.ptr (1, u1) 1))), (99, (gd (v6.Ahead != 0) true (.d (i64 p1.Gap)))), (100, (gd (v6.Ahead != 0) true (.ptr (8, u18) 5))), (101, (gd (v6.Ahead != 0) true (.d (.agg [(i64 v6.Guess_.R), (i64 v6.Guess_.V)])))), (102, (gd (v6.Ahead != 0) true (.d (bo v7)))), (103, (gd (v6.Ahead != 0) true (.d (bo (!v7))))), (106, (gd (!((v6.Ahead != 0) && (!v7))) true (.ptr (8, u18) 11))), (107, (gd (!((v6.Ahead != 0) && (!v7))) true (.d (i64 v6.Until)))), (108, (gd (!((v6.Ahead != 0) && (!v7))) true (.d (bo (v6.Until != 0))))), (109, (gd (!((v6.Ahead != 0) && (!v7))) true (.d (bo (v6.Until != 0))))), (110, (gd ((!((v6.Ahead != 0) && (!v7))) && (v6.Until != 0)) true (.ptr (8, u18) 1))), (111, (gd ((!((v6.Ahead != 0) && (!v7))) && (v6.Until != 0)) true (.d (i64 v6.S)))), (112, (gd ((!((v6.Ahead != 0) && (!v7))) && (v6.Until != 0)) true (.ptr (8, u18) 2))), (113, (gd ((!((v6.Ahead != 0) && (!v7))) && (v6.Until != 0)) true (.d (i64 v6.V)))), (114, (gd ((!((v6.Ahead != 0) && (!v7))) && (v6.Until != 0)) true (.ptr (1, u1) 1))), (115, (gd ((!((v6.Ahead != 0) && (!v7))) && (v6.Until != 0)) true (.d (i64 p1.Gap)))), (116, (gd ((!((v6.Ahead != 0) && (!v7))) && (v6.Until != 0)) true (.ptr (8, u18) 9))), (117, (gd ((!((v6.Ahead != 0) && (!v7))) && (v6.Until != 0)) true (.d (.agg [(i64 v6.WardGuess.R), (i64 v6.WardGuess.V)])))), (118, (gd ((!((v6.Ahead != 0) && (!v7))) && (v6.Until != 0)) true (.d (bo v8)))), (119, (gd ((!((v6.Ahead != 0) && (!v7))) && (v6.Until != 0)) true (.d (bo (!v8))))), (120, (gd (!((v6.Ahead != 0) && (!v7))) true (.d (bo ((v6.Until != 0) && (!v8))))))], G [((1, u1), some (.box 38 [(.d (i64 p1.Tick)), (.d (i64 p1.Gap)), (.d (.list (List.map eMate p1.Mates))), (.d (i64 p1.Guest_.ID)), (.d (i64 p1.Guest_.S)), (.d (i64 p1.Guest_.V)), (.d (i64 p1.Guest_.Len)), (.d (i64 p1.Guest_.End)), (.d (i64 p1.Guest_.Ahead)), (.d (i64 p1.Guest_.Guess_.R)), (.d (i64 p1.Guest_.Guess_.V)), (.d (i64 p1.Guest_.From)), (.d (i64 p1.Guest_.Until))])), ((8, u18), some (.box 65 [(.d (i64 v6.ID)), (.d (i64 v6.S)), (.d (i64 v6.V)), (.d (i64 v6.Len)), (.d (i64 v6.Ahead)), (.d (i64 v6.Guess_.R)), (.d (i64 v6.Guess_.V)), (.d (bo v6.Trust)), (.d (i64 v6.Ward)), (.d (i64 v6.WardGuess.R)), (.d (i64 v6.WardGuess.V)), (.d (i64 v6.Until))]))]⟩) (sb_of ⟨.of rfl, .of rfl, .of rfl, .of rfl, .of rfl, .of rfl, .of rfl, .of rfl, .of rfl, .of rfl, .of rfl, .of rfl, .of rfl, .of rfl, .of rfl, .of rfl, .of rfl, .of rfl, .of rfl, .of rfl, .of rfl, .of rfl, .of rfl, .of rfl, .of rfl, .of rfl, .of rfl, trivial⟩ (sbG_some (G_skip rfl (G_skip rfl G_hit)) (.of rfl) (sbG_some G_hit (.of rfl) trivial))) ?_
              refine l_reg fun u21 hu21 => ?_
              refine s_val (.d _) rfl rfl ?_
              refine s_val (.d _) rfl rfl ?_
              refine s_val (.d _) rfl rfl ?_
              refine s_nil ?_
              refine l_nil ?_
              obtain rfl := Option.some.inj hz6
              exact ⟨rfl, (), (sb_of ⟨.of rfl, .of rfl, trivial⟩ (sbG_some G_hit (.of rfl) trivial))⟩
          · replace hz6 := cond_f c6 hz6
            refine l_exitN rfl ?_
            obtain rfl := Option.some.inj hz6
            obtain rfl := ez6 _ rfl
            refine ⟨nofun, awl_pop rfl (l_j ?_)⟩
            exact ⟨_, (), rfl, (sb_of ⟨.of rfl, trivial⟩ (sbG_some G_hit (.of rfl) trivial))⟩
        · rintro _ ⟨y3, g5, rfl, q3⟩
          rw [Sum.elim_inl] at h
          refine l_sub q3 ?_
          refine l_seq ?_
          refine l_seq ?_
          refine l_draw rfl fun u22 hu22 => ?_
          refine s_val (.ptr _ _) rfl rfl ?_
          refine s_val (.ptr _ _) rfl rfl ?_
          refine s_val (.d _) rfl (v_load rfl G_hit rfl) ?_
          refine s_val (.d _) rfl rfl ?_
          refine s_val (.d _) rfl rfl ?_
          refine g_val (p1.Guest_.ID != 0) (.ptr _ _) rfl (gw_t rfl) (fun w49 => rfl) ?_
          refine g_val (p1.Guest_.ID != 0) (.ptr _ _) rfl (gw_t rfl) (fun w50 => (by simp only [gd_pos w50]; rfl)) ?_
          refine g_val (p1.Guest_.ID != 0) (.d _) rfl (gw_t rfl) (fun w51 => (v_load (gd_pos w51) G_hit rfl)) ?_
          refine g_val (p1.Guest_.ID != 0) (.ptr _ _) rfl (gw_t rfl) (fun w52 => rfl) ?_
          refine g_val (p1.Guest_.ID != 0) (.ptr _ _) rfl (gw_t rfl) (fun w53 => (by simp only [gd_pos w53]; rfl)) ?_
          refine g_val (p1.Guest_.ID != 0) (.d _) rfl (gw_t rfl) (fun w54 => (v_load (gd_pos w54) G_hit rfl)) ?_
          obtain ⟨v9, hv9, h⟩ := bind_some h
          refine g_call (p1.Guest_.ID != 0) (i64 v9) (gw_t rfl) (fun w55 => ⟨_, [(.d (i64 p1.Guest_.V))], _, _, (by simp only [gd_pos w55]; rfl), rfl, all2_refl, ref09_stop_ok _  _ (cond_t w55 hv9), (.inl rfl)⟩) ?_
          refine g_val (p1.Guest_.ID != 0) (.d _) rfl (gw_t rfl) (fun w56 => (v_bin (gd_pos w56) (gd_pos w56) rfl)) ?_
          refine g_val (p1.Guest_.ID != 0) (.ptr _ _) rfl (gw_t rfl) (fun w57 => rfl) ?_
          refine g_val (p1.Guest_.ID != 0) (.ptr _ _) rfl (gw_t rfl) (fun w58 => (by simp only [gd_pos w58]; rfl)) ?_
          refine g_val (p1.Guest_.ID != 0) (.d _) rfl (gw_t rfl) (fun w59 => (v_load (gd_pos w59) G_hit rfl)) ?_
          refine g_val (p1.Guest_.ID != 0) (.d _) rfl (gw_t rfl) (fun w60 => (v_bin (gd_pos w60) (gd_pos w60) rfl)) ?_
          refine s_val (.d _) rfl (v_and rfl (fun hc => gd_pos hc) rfl) ?_
          refine s_nil ?_
          refine l_cond ((p1.Guest_.ID != 0) && (decide ((w64 (p1.Guest_.S + v9)) ≥ p1.Guest_.End))) rfl (fun c8 => ?_) (fun c8 => ?_)
          · replace h := cond_t c8 h
            refine l_seq ?_
            refine l_reg fun u23 hu23 => ?_
            refine s_val (.d _) rfl rfl ?_
            refine s_nil ?_
            refine l_ret ?_
            obtain rfl := Option.some.inj h
            refine fin_ok (.inr rfl) (resD1 (res_t rfl) rf_d) ?_
            exact (.refl _)
          · replace h := cond_f c8 h
            refine l_skip ?_
            refine l_seq ?_
            refine l_reg fun u24 hu24 => ?_
            refine s_val (.d _) rfl rfl ?_
            refine s_nil ?_
            refine l_ret ?_
            obtain rfl := Option.some.inj h
            refine fin_ok (.inr rfl) (resD1 (res_t rfl) rf_d) ?_
            exact (.refl _)

noncomputable def ref09_find_l1 (p1 : Convoy) (p2 : Int) (x1 : Int) : Option (Stp Int (Sum Unit Int)) :=
  cond (decide (x1 < (p1.Mates.length : Int))) ((geti p1.Mates x1).bind fun v1 => cond (v1.ID == p2) (some (.out (.inr x1))) (some (.go (w64 (x1 + 1))))) (some (.out (.inl ())))
noncomputable def ref09_find (p1 : Convoy) (p2 : Int) : Option Int :=
  thenS (loop (ref09_find_l1 p1 p2) 0) (fun _ => some (-1)) (fun r => some r)

/-- kerbstone/kerbstoneref09.find -/
def ac_ref09_find : AC :=
  (.seq (.reg [⟨(some 2), .box 38 true (.t 0), none⟩, ⟨(some 4), .mv (.c (.v (.int .i64 0))), none⟩])
  (.seq (.seq (.reg [⟨(some 5), .mv (.c (.v (.int .i64 0))), none⟩])
  (.block 0
    (.loop
      (.seq (.seq (.reg [⟨(some 6), .mv (.t 5), none⟩, ⟨(some 7), .fieldA 2 (.t 2), none⟩, ⟨(some 8), .load 1 false (.t 7), none⟩, ⟨(some 9), .len (.t 8), none⟩, ⟨(some 10), .bin .lss (.t 6) (.t 9), none⟩])
      (.cond (.t 10)
        .skip
        (.exit 0)))
      (.seq (.block 1
        (.seq (.reg [⟨(some 13), .fieldA 2 (.t 2), none⟩, ⟨(some 14), .load 1 false (.t 13), none⟩, ⟨(some 15), .mv (.t 5), none⟩, ⟨(some 16), .idxS 12 (.t 14) (.t 15), none⟩, ⟨(some 17), .fieldA 0 (.t 16), none⟩, ⟨(some 18), .load 1 false (.t 17), none⟩, ⟨(some 19), .mv (.t 1), none⟩, ⟨(some 20), .bin .eql (.t 18) (.t 19), none⟩])
        (.cond (.t 20)
          (.seq (.reg [⟨(some 21), .mv (.t 5), none⟩, ⟨(some 4), .mv (.t 21), none⟩])
          .ret)
          .skip)))
      (.reg [⟨(some 11), .mv (.t 5), none⟩, ⟨(some 12), .bin .add (.t 11) (.c (.v (.int .i64 1))), none⟩, ⟨(some 5), .mv (.t 12), none⟩]))))))
  (.seq (.reg [⟨(some 4), .mv (.c (.v (.int .i64 (-1)))), none⟩])
  .ret)))
theorem fn_ref09_find : FnOK Try.prog 68 22 [.t 4] ac_ref09_find := ⟨_, _, Try.func68, rfl, Try.ntmps68, by kernel_rfl, ⟨fun _ => [], by kernel_rfl⟩, by kernel_rfl⟩
set_option maxHeartbeats 4000000 in
theorem ref09_find_ok (p1 : Convoy) (p2 : Int) (r : Int) (h : ref09_find p1 p2 = some r) : PCall Try.prog 68 [(.agg [(i64 p1.Tick), (i64 p1.Gap), (.list (List.map eMate p1.Mates)), (i64 p1.Guest_.ID), (i64 p1.Guest_.S), (i64 p1.Guest_.V), (i64 p1.Guest_.Len), (i64 p1.Guest_.End), (i64 p1.Guest_.Ahead), (i64 p1.Guest_.Guess_.R), (i64 p1.Guest_.Guess_.V), (i64 p1.Guest_.From), (i64 p1.Guest_.Until)]), (i64 p2)] (i64 r) := by
  refine l_call fn_ref09_find (Nat.le_of_ble_eq_true rfl) ?_
  unfold ref09_find at h
  unfold ac_ref09_find
  refine (l_sub (s0 := ⟨T [(0, (.d (.agg [(i64 p1.Tick), (i64 p1.Gap), (.list (List.map eMate p1.Mates)), (i64 p1.Guest_.ID), (i64 p1.Guest_.S), (i64 p1.Guest_.V), (i64 p1.Guest_.Len), (i64 p1.Guest_.End), (i64 p1.Guest_.Ahead), (i64 p1.Guest_.Guess_.R), (i64 p1.Guest_.Guess_.V), (i64 p1.Guest_.From), (i64 p1.Guest_.Until)]))), (1, (.d (i64 p2)))], G []⟩) (sb_of ⟨.of rfl, .of rfl, trivial⟩ trivial) ?_)
  refine l_seq ?_
  refine l_reg fun u1 hu1 => ?_
  refine s_new (.ptr _ _) (.box _ _) rfl rfl ?_
  refine s_val (.d _) rfl rfl ?_
  refine s_nil ?_
  refine l_seq ?_
  refine l_seq ?_
  refine l_reg fun u2 hu2 => ?_
  refine s_val (.d _) rfl rfl ?_
  refine s_nil ?_
  obtain ⟨z1, hz1, h⟩ := thenS_some h
  refine l_join (fun s => ∃ (y1 : Unit) (g1 : Unit), z1 = .inl y1 ∧ Sb ⟨T [], G []⟩ s) ?_ ?_
  · skip
    refine l_block ?_
    refine l_loop (ref09_find_l1 p1 p2) (fun (x1 : Int) (g2 : Unit) => ⟨T [(1, (.d (i64 p2))), (2, (.ptr (2, u1) 0)), (5, (.d (i64 x1)))], G [((2, u1), some (.box 38 [(.d (i64 p1.Tick)), (.d (i64 p1.Gap)), (.d (.list (List.map eMate p1.Mates))), (.d (i64 p1.Guest_.ID)), (.d (i64 p1.Guest_.S)), (.d (i64 p1.Guest_.V)), (.d (i64 p1.Guest_.Len)), (.d (i64 p1.Guest_.End)), (.d (i64 p1.Guest_.Ahead)), (.d (i64 p1.Guest_.Guess_.R)), (.d (i64 p1.Guest_.Guess_.V)), (.d (i64 p1.Guest_.From)), (.d (i64 p1.Guest_.Until))]))]⟩) 0 () _ hz1 (sb_of ⟨.of rfl, .of rfl, .of rfl, trivial⟩ (sbG_some G_hit (.of rfl) trivial)) ?_
    intro x1 g2 z2 hz2 ez2
    unfold ref09_find_l1 at hz2
    refine l_seq ?_
    refine l_seq ?_
    refine l_reg fun u3 hu3 => ?_
    refine s_val (.d _) rfl rfl ?_
    refine s_val (.ptr _ _) rfl rfl ?_
    refine s_val (.d _) rfl (v_load rfl G_hit rfl) ?_
    refine s_val (.d _) rfl (v_len rfl) ?_
    refine s_val (.d _) rfl rfl ?_
    refine s_nil ?_
    refine l_cond (decide (x1 < (p1.Mates.length : Int))) rfl (fun c1 => ?_) (fun c1 => ?_)
    · replace hz2 := cond_t c1 hz2
      refine l_skip ?_
      refine l_seq ?_
      refine l_block ?_
      refine l_seq ?_
      refine l_reg fun u4 hu4 => ?_
      refine s_val (.ptr _ _) rfl rfl ?_
      refine s_val (.d _) rfl (v_load rfl G_hit rfl) ?_
      refine s_val (.d _) rfl rfl ?_
      obtain ⟨v1, hv1, hz2⟩ := bind_some hz2
      refine s_val (.d _) rfl (v_idx rfl rfl hv1 rfl) ?_
      refine s_val (.d _) rfl rfl ?_
      refine s_val (.d _) rfl (v_loadL rfl hv1 rfl) ?_
      refine s_val (.d _) rfl rfl ?_
      refine s_val (.d _) rfl rfl ?_
      refine s_nil ?_
      refine l_cond (v1.ID == p2) rfl (fun c2 => ?_) (fun c2 => ?_)
      · replace hz2 := cond_t c2 hz2
        refine l_seq ?_
        refine l_reg fun u5 hu5 => ?_
        refine s_val (.d _) rfl rfl ?_
        refine s_val (.d _) rfl rfl ?_
        refine s_nil ?_
        refine l_ret ?_
        obtain rfl := Option.some.inj hz2
        obtain rfl := ez2 _ rfl
        refine ⟨nofun, awl_ret ?_⟩
        rw [Sum.elim_inr] at h
        obtain rfl := Option.some.inj h
        refine fin_ok (.inr rfl) (resD1 (res_t rfl) rf_d) ?_
        exact (.refl _)
      · replace hz2 := cond_f c2 hz2
        refine l_skip ?_
        refine l_end ?_
        refine l_reg fun u6 hu6 => ?_
        refine s_val (.d _) rfl rfl ?_
        refine s_val (.d _) rfl rfl ?_
        refine s_val (.d _) rfl rfl ?_
        refine s_nil ?_
        refine l_nil ?_
        obtain rfl := Option.some.inj hz2
        exact ⟨rfl, (), (sb_of ⟨.of rfl, .of rfl, .of rfl, trivial⟩ (sbG_some G_hit (.of rfl) trivial))⟩
    · replace hz2 := cond_f c1 hz2
      refine l_exitN rfl ?_
      obtain rfl := Option.some.inj hz2
      obtain rfl := ez2 _ rfl
      refine ⟨nofun, awl_pop rfl (l_j ?_)⟩
      exact ⟨_, (), rfl, (sb_of trivial trivial)⟩
  · rintro _ ⟨y1, g1, rfl, q1⟩
    rw [Sum.elim_inl] at h
    refine l_sub q1 ?_
    refine l_seq ?_
    refine l_reg fun u7 hu7 => ?_
    refine s_val (.d _) rfl rfl ?_
    refine s_nil ?_
    refine l_ret ?_
    obtain rfl := Option.some.inj h
    refine fin_ok (.inr rfl) (resD1 (res_t rfl) rf_d) ?_
    exact (.refl _)

noncomputable def ref09_beside_l1 (p1 : Convoy) (x1 : (Int × Int × Int)) : Option (Stp (Int × Int × Int) (Int × Int)) :=
  cond (decide (x1.2.2 < (p1.Mates.length : Int))) ((geti p1.Mates x1.2.2).bind fun v1 => cond (decide (v1.S > p1.Guest_.S)) (some (.go (x1.2.2, x1.2.1, (w64 (x1.2.2 + 1))))) (cond (decide (x1.2.1 < 0)) (some (.go (x1.1, x1.2.2, (w64 (x1.2.2 + 1))))) (some (.go (x1.1, x1.2.1, (w64 (x1.2.2 + 1))))))) (some (.out (x1.1, x1.2.1)))
noncomputable def ref09_beside (p1 : Convoy) : Option (Int × Int) :=
  (loop (ref09_beside_l1 p1) ((-1), (-1), 0)).bind fun y1 => some (y1.1, y1.2)

/-- kerbstone/kerbstoneref09.beside -/
def ac_ref09_beside : AC :=
  (.seq (.reg [⟨(some 1), .box 38 true (.t 0), none⟩, ⟨(some 2), .mv (.c (.v (.int .i64 0))), none⟩, ⟨(some 3), .mv (.c (.v (.int .i64 0))), none⟩])
  (.seq (.reg [⟨(some 4), .mv (.c (.v (.int .i64 (-1)))), none⟩, ⟨(some 5), .mv (.c (.v (.int .i64 (-1)))), none⟩])
  (.seq (.seq (.reg [⟨(some 6), .mv (.c (.v (.int .i64 0))), none⟩])
  (.block 0
    (.loop
      (.seq (.seq (.reg [⟨(some 7), .mv (.t 6), none⟩, ⟨(some 8), .fieldA 2 (.t 1), none⟩, ⟨(some 9), .load 1 false (.t 8), none⟩, ⟨(some 10), .len (.t 9), none⟩, ⟨(some 11), .bin .lss (.t 7) (.t 10), none⟩])
      (.cond (.t 11)
        .skip
        (.exit 0)))
      (.seq (.block 1
        (.seq (.draw [⟨(some 14), .fieldA 2 (.t 1), none⟩, ⟨(some 15), .load 1 false (.t 14), none⟩, ⟨(some 16), .mv (.t 6), none⟩, ⟨(some 17), .idxS 12 (.t 15) (.t 16), none⟩, ⟨(some 18), .fieldA 1 (.t 17), none⟩, ⟨(some 19), .load 1 false (.t 18), none⟩, ⟨(some 20), .fieldA 3 (.t 1), none⟩, ⟨(some 21), .fieldA 1 (.t 20), none⟩, ⟨(some 22), .load 1 false (.t 21), none⟩, ⟨(some 23), .bin .gtr (.t 19) (.t 22), none⟩] [])
        (.cond (.t 23)
          (.reg [⟨(some 24), .mv (.t 6), none⟩, ⟨(some 4), .mv (.t 24), none⟩])
          (.seq (.reg [⟨(some 25), .mv (.t 5), none⟩, ⟨(some 26), .bin .lss (.t 25) (.c (.v (.int .i64 0))), none⟩])
          (.cond (.t 26)
            (.reg [⟨(some 27), .mv (.t 6), none⟩, ⟨(some 5), .mv (.t 27), none⟩])
            .skip)))))
      (.reg [⟨(some 12), .mv (.t 6), none⟩, ⟨(some 13), .bin .add (.t 12) (.c (.v (.int .i64 1))), none⟩, ⟨(some 6), .mv (.t 13), none⟩]))))))
  (.seq (.reg [⟨(some 28), .mv (.t 4), none⟩, ⟨(some 29), .mv (.t 5), none⟩, ⟨(some 2), .mv (.t 28), none⟩, ⟨(some 3), .mv (.t 29), none⟩])
  .ret))))
theorem fn_ref09_beside : FnOK Try.prog 69 30 [.t 2, .t 3] ac_ref09_beside := ⟨_, _, Try.func69, rfl, Try.ntmps69, by kernel_rfl, ⟨fun _ => [], by kernel_rfl⟩, by kernel_rfl⟩
set_option maxHeartbeats 4000000 in
theorem ref09_beside_ok (p1 : Convoy) (r : (Int × Int)) (h : ref09_beside p1 = some r) : PCall Try.prog 69 [(.agg [(i64 p1.Tick), (i64 p1.Gap), (.list (List.map eMate p1.Mates)), (i64 p1.Guest_.ID), (i64 p1.Guest_.S), (i64 p1.Guest_.V), (i64 p1.Guest_.Len), (i64 p1.Guest_.End), (i64 p1.Guest_.Ahead), (i64 p1.Guest_.Guess_.R), (i64 p1.Guest_.Guess_.V), (i64 p1.Guest_.From), (i64 p1.Guest_.Until)])] (.tup [(i64 r.1), (i64 r.2)]) := by
  refine l_call fn_ref09_beside (Nat.le_of_ble_eq_true rfl) ?_
  unfold ref09_beside at h
  unfold ac_ref09_beside
  refine (l_sub (s0 := ⟨T [(0, (.d (.agg [(i64 p1.Tick), (i64 p1.Gap), (.list (List.map eMate p1.Mates)), (i64 p1.Guest_.ID), (i64 p1.Guest_.S), (i64 p1.Guest_.V), (i64 p1.Guest_.Len), (i64 p1.Guest_.End), (i64 p1.Guest_.Ahead), (i64 p1.Guest_.Guess_.R), (i64 p1.Guest_.Guess_.V), (i64 p1.Guest_.From), (i64 p1.Guest_.Until)])))], G []⟩) (sb_of ⟨.of rfl, trivial⟩ trivial) ?_)
  refine l_seq ?_
  refine l_reg fun u1 hu1 => ?_
  refine s_new (.ptr _ _) (.box _ _) rfl rfl ?_
  refine s_val (.d _) rfl rfl ?_
  refine s_val (.d _) rfl rfl ?_
  refine s_nil ?_
  refine l_seq ?_
  refine l_reg fun u2 hu2 => ?_
  refine s_val (.d _) rfl rfl ?_
  refine s_val (.d _) rfl rfl ?_
  refine s_nil ?_
  refine l_seq ?_
  refine l_seq ?_
  refine l_reg fun u3 hu3 => ?_
  refine s_val (.d _) rfl rfl ?_
  refine s_nil ?_
  obtain ⟨y1, hy1, h⟩ := bind_some h
  refine l_join (fun s => ∃ g1 : Unit, Sb ⟨T [(4, (.d (i64 y1.1))), (5, (.d (i64 y1.2)))], G []⟩ s) ?_ ?_
  · skip
    refine l_block ?_
    refine l_loop (ref09_beside_l1 p1) (fun (x1 : (Int × Int × Int)) (g2 : Unit) => ⟨T [(1, (.ptr (1, u1) 0)), (4, (.d (i64 x1.1))), (5, (.d (i64 x1.2.1))), (6, (.d (i64 x1.2.2)))], G [((1, u1), some (.box 38 [(.d (i64 p1.Tick)), (.d (i64 p1.Gap)), (.d (.list (List.map eMate p1.Mates))), (.d (i64 p1.Guest_.ID)), (.d (i64 p1.Guest_.S)), (.d (i64 p1.Guest_.V)), (.d (i64 p1.Guest_.Len)), (.d (i64 p1.Guest_.End)), (.d (i64 p1.Guest_.Ahead)), (.d (i64 p1.Guest_.Guess_.R)), (.d (i64 p1.Guest_.Guess_.V)), (.d (i64 p1.Guest_.From)), (.d (i64 p1.Guest_.Until))]))]⟩) ((-1), (-1), 0) () _ hy1 (sb_of ⟨.of rfl, .of rfl, .of rfl, .of rfl, trivial⟩ (sbG_some G_hit (.of rfl) trivial)) ?_
    intro x1 g2 z1 hz1 ez1
    unfold ref09_beside_l1 at hz1
    refine l_seq ?_
    refine l_seq ?_
    refine l_reg fun u4 hu4 => ?_
    refine s_val (.d _) rfl rfl ?_
    refine s_val (.ptr _ _) rfl rfl ?_
    refine s_val (.d _) rfl (v_load rfl G_hit rfl) ?_
    refine s_val (.d _) rfl (v_len rfl) ?_
    refine s_val (.d _) rfl rfl ?_
    refine s_nil ?_
    refine l_cond (decide (x1.2.2 < (p1.Mates.length : Int))) rfl (fun c1 => ?_) (fun c1 => ?_)
    · replace hz1 := cond_t c1 hz1
      refine l_skip ?_
      refine l_seq ?_
      refine l_block ?_
      refine l_seq ?_
      refine l_draw rfl fun u5 hu5 => ?_
      refine s_val (.ptr _ _) rfl rfl ?_
      refine s_val (.d _) rfl (v_load rfl G_hit rfl) ?_
      refine s_val (.d _) rfl rfl ?_
      obtain ⟨v1, hv1, hz1⟩ := bind_some hz1
      refine s_val (.d _) rfl (v_idx rfl rfl hv1 rfl) ?_
      refine s_val (.d _) rfl rfl ?_
      refine s_val (.d _) rfl (v_loadL rfl hv1 rfl) ?_
      refine s_val (.ptr _ _) rfl rfl ?_
      refine s_val (.ptr _ _) rfl rfl ?_
      refine s_val (.d _) rfl (v_load rfl G_hit rfl) ?_
      refine s_val (.d _) rfl rfl ?_
      refine s_nil ?_
      refine l_cond (decide (v1.S > p1.Guest_.S)) rfl (fun c2 => ?_) (fun c2 => ?_)
      · replace hz1 := cond_t c2 hz1
        refine l_reg fun u6 hu6 => ?_
        refine s_val (.d _) rfl rfl ?_
        refine s_val (.d _) rfl rfl ?_
        refine s_nil ?_
        refine l_end ?_
        refine l_reg fun u7 hu7 => ?_
        refine s_val (.d _) rfl rfl ?_
        refine s_val (.d _) rfl rfl ?_
        refine s_val (.d _) rfl rfl ?_
        refine s_nil ?_
        refine l_nil ?_
        obtain rfl := Option.some.inj hz1
        exact ⟨rfl, (), (sb_of ⟨.of rfl, .of rfl, .of rfl, .of rfl, trivial⟩ (sbG_some G_hit (.of rfl) trivial))⟩
      · replace hz1 := cond_f c2 hz1
        refine l_seq ?_
        refine l_reg fun u8 hu8 => ?_
        refine s_val (.d _) rfl rfl ?_
        refine s_val (.d _) rfl rfl ?_
        refine s_nil ?_
        refine l_cond (decide (x1.2.1 < 0)) rfl (fun c3 => ?_) (fun c3 => ?_)
        · replace hz1 := cond_t c3 hz1
          refine l_reg fun u9 hu9 => ?_
          refine s_val (.d _) rfl rfl ?_
          refine s_val (.d _) rfl rfl ?_
          refine s_nil ?_
          refine l_end ?_
          refine l_sub (s0 := ⟨T [(1, (.ptr (1, u1) 0)), (4, (.d (i64 x1.1))), (5, (.d (i64 x1.2.2))), (6, (.d (i64 x1.2.2)))], G [((1, u1), some (.box 38 [(.d (i64 p1.Tick)), (.d (i64 p1.Gap)), (.d (.list (List.map eMate p1.Mates))), (.d (i64 p1.Guest_.ID)), (.d (i64 p1.Guest_.S)), (.d (i64 p1.Guest_.V)), (.d (i64 p1.Guest_.Len)), (.d (i64 p1.Guest_.End)), (.d (i64 p1.Guest_.Ahead)), (.d (i64 p1.Guest_.Guess_.R)), (.d (i64 p1.Guest_.Guess_.V)), (.d (i64 p1.Guest_.From)), (.d (i64 p1.Guest_.Until))]))]⟩) (sb_of ⟨.of rfl, .of rfl, .of rfl, .of rfl, trivial⟩ (sbG_some G_hit (.of rfl) trivial)) ?_
          refine l_reg fun u10 hu10 => ?_
          refine s_val (.d _) rfl rfl ?_
          refine s_val (.d _) rfl rfl ?_
          refine s_val (.d _) rfl rfl ?_
          refine s_nil ?_
          refine l_nil ?_
          obtain rfl := Option.some.inj hz1
          exact ⟨rfl, (), (sb_of ⟨.of rfl, .of rfl, .of rfl, .of rfl, trivial⟩ (sbG_some G_hit (.of rfl) trivial))⟩
        · replace hz1 := cond_f c3 hz1
          refine l_skip ?_
          refine l_end ?_
          refine l_reg fun u11 hu11 => ?_
          refine s_val (.d _) rfl rfl ?_
          refine s_val (.d _) rfl rfl ?_
          refine s_val (.d _) rfl rfl ?_
          refine s_nil ?_
          refine l_nil ?_
          obtain rfl := Option.some.inj hz1
          exact ⟨rfl, (), (sb_of ⟨.of rfl, .of rfl, .of rfl, .of rfl, trivial⟩ (sbG_some G_hit (.of rfl) trivial))⟩
    · replace hz1 := cond_f c1 hz1
      refine l_exitN rfl ?_
      obtain rfl := Option.some.inj hz1
      obtain rfl := ez1 _ rfl
      refine ⟨nofun, awl_pop rfl (l_j ?_)⟩
      exact ⟨(), (sb_of ⟨.of rfl, .of rfl, trivial⟩ trivial)⟩
  · rintro _ ⟨g1, q1⟩
    refine l_sub q1 ?_
    refine l_seq ?_
    refine l_reg fun u12 hu12 => ?_
    refine s_val (.d _) rfl rfl ?_
    refine s_val (.d _) rfl rfl ?_
    refine s_val (.d _) rfl rfl ?_
    refine s_val (.d _) rfl rfl ?_
    refine s_nil ?_
    refine l_ret ?_
    obtain rfl := Option.some.inj h
    refine fin_ok (.inr rfl) (resD2 (res_t rfl) (res_t rfl) rf_d rf_d) ?_
    exact .refl _

noncomputable def ref09_mod (p1 : Int) (p2 : Int) : Option Int :=
  (remc p1 p2).bind fun v1 => cond (decide (v1 < 0)) (some (w64 (v1 + p2))) (some v1)

/-- kerbstone/kerbstoneref09.mod -/
def ac_ref09_mod : AC :=
  (.seq (.reg [⟨(some 4), .mv (.c (.v (.int .i64 0))), none⟩])
  (.seq (.reg [⟨(some 5), .mv (.t 0), none⟩, ⟨(some 6), .mv (.t 1), none⟩, ⟨(some 7), .bin .rem (.t 5) (.t 6), none⟩, ⟨(some 0), .mv (.t 7), none⟩])
  (.seq (.seq (.reg [⟨(some 8), .mv (.t 0), none⟩, ⟨(some 9), .bin .lss (.t 8) (.c (.v (.int .i64 0))), none⟩])
  (.cond (.t 9)
    (.reg [⟨(some 10), .mv (.t 0), none⟩, ⟨(some 11), .mv (.t 1), none⟩, ⟨(some 12), .bin .add (.t 10) (.t 11), none⟩, ⟨(some 0), .mv (.t 12), none⟩])
    .skip))
  (.seq (.reg [⟨(some 13), .mv (.t 0), none⟩, ⟨(some 4), .mv (.t 13), none⟩])
  .ret))))
theorem fn_ref09_mod : FnOK Try.prog 71 14 [.t 4] ac_ref09_mod := ⟨_, _, Try.func71, rfl, Try.ntmps71, by kernel_rfl, ⟨fun _ => [], by kernel_rfl⟩, by kernel_rfl⟩
theorem ref09_mod_ok (p1 : Int) (p2 : Int) (r : Int) (h : ref09_mod p1 p2 = some r) : PCall Try.prog 71 [(i64 p1), (i64 p2)] (i64 r) := by
  refine l_call fn_ref09_mod (Nat.le_of_ble_eq_true rfl) ?_
  unfold ref09_mod at h
  unfold ac_ref09_mod
  refine (l_sub (s0 := ⟨T [(0, (.d (i64 p1))), (1, (.d (i64 p2)))], G []⟩) (sb_of ⟨.of rfl, .of rfl, trivial⟩ trivial) ?_)
  refine l_seq ?_
  refine l_reg fun u1 hu1 => ?_
  refine s_val (.d _) rfl rfl ?_
  refine s_nil ?_
  refine l_seq ?_
  refine l_reg fun u2 hu2 => ?_
  refine s_val (.d _) rfl rfl ?_
  refine s_val (.d _) rfl rfl ?_
  obtain ⟨v1, hv1, h⟩ := bind_some h
  refine s_val (.d _) rfl (v_rem rfl rfl hv1) ?_
  refine s_val (.d _) rfl rfl ?_
  refine s_nil ?_
  refine l_seq ?_
  refine l_seq ?_
  refine l_reg fun u3 hu3 => ?_
  refine s_val (.d _) rfl rfl ?_
  refine s_val (.d _) rfl rfl ?_
  refine s_nil ?_
  refine l_cond (decide (v1 < 0)) rfl (fun c1 => ?_) (fun c1 => ?_)
  · replace h := cond_t c1 h
    refine l_reg fun u4 hu4 => ?_
    refine s_val (.d _) rfl rfl ?_
    refine s_val (.d _) rfl rfl ?_
    refine s_val (.d _) rfl rfl ?_
    refine s_val (.d _) rfl rfl ?_
    refine s_nil ?_
    refine l_seq ?_
    refine l_reg fun u5 hu5 => ?_
    refine s_val (.d _) rfl rfl ?_
    refine s_val (.d _) rfl rfl ?_
    refine s_nil ?_
    refine l_ret ?_
    obtain rfl := Option.some.inj h
    refine fin_ok (.inr rfl) (resD1 (res_t rfl) rf_d) ?_
    exact (.refl _)
  · replace h := cond_f c1 h
    refine l_skip ?_
    refine l_seq ?_
    refine l_reg fun u6 hu6 => ?_
    refine s_val (.d _) rfl rfl ?_
    refine s_val (.d _) rfl rfl ?_
    refine s_nil ?_
    refine l_ret ?_
    obtain rfl := Option.some.inj h
    refine fin_ok (.inr rfl) (resD1 (res_t rfl) rf_d) ?_
    exact (.refl _)

noncomputable def ref09_Look (p1 : Convoy) (p2 : Int) (p3 : (List Int)) : Option (Sight × Int) :=
  (ref09_Check p1).bind fun v1 => cond (v1 != 0) (some ((Sight.mk 0 0 0 0 0), v1)) ((ref09_find p1 p2).bind fun v2 => (cond ((p2 != 0) && (p2 == p1.Guest_.ID)) ((ref09_beside p1).bind fun v3 => some v3.1) (some (w64 (v2 - 1)))).bind fun y1 => cond (decide (y1 < 0)) (some ((Sight.mk 0 0 0 0 0), 7)) ((cond (true && (decide (0 < (p3.length : Int)))) ((geti p3 0).bind fun v4 => cond (true && (decide (1 < (p3.length : Int)))) ((geti p3 1).bind fun v5 => cond (true && (decide (2 < (p3.length : Int)))) ((geti p3 2).bind fun v6 => cond (true && (decide (3 < (p3.length : Int)))) ((geti p3 3).bind fun v7 => some (v4, v5, v6, v7)) (some (v4, v5, v6, 0))) (some (v4, v5, 0, 0))) (some (v4, 0, 0, 0))) (some (0, 0, 0, 0))).bind fun y2 => (geti p1.Mates y1).bind fun v8 => (ref09_rear v8).bind fun v9 => (geti p1.Mates y1).bind fun v10 => (ref09_mod y2.1 101).bind fun v11 => (ref09_mod y2.2.1 101).bind fun v12 => (ref09_mod y2.2.2.1 6).bind fun v13 => (ref09_mod y2.2.2.2 6).bind fun v14 => some ((Sight.mk p2 (w64 (v9 - v11)) (w64 (v9 + v12)) (mm2 true 0 (w64 (v10.V - v13))) (mm2 false 2000 (w64 (v10.V + v14)))), 0)))

/-- kerbstone/kerbstoneref09.Look -/
def ac_ref09_Look : AC :=
  (.seq (.reg [⟨(some 3), .box 38 true (.t 0), none⟩, ⟨(some 6), .alloc 42 [(.v (.int .i64 0)), (.v (.int .i64 0)), (.v (.int .i64 0)), (.v (.int .i64 0)), (.v (.int .i64 0))], none⟩, ⟨(some 7), .mv (.c (.v (.int .i64 0))), none⟩])
  (.seq (.seq (.reg [⟨(some 14), .load 13 true (.t 3), none⟩, ⟨(some 15), .call (.c (.fn (.func 33) [] [])) [(.t 14)], none⟩, ⟨(some 8), .mv (.t 15), none⟩])
  (.seq (.reg [⟨(some 16), .mv (.t 8), none⟩, ⟨(some 17), .bin .neq (.t 16) (.c (.v (.int .i64 0))), none⟩])
  (.cond (.t 17)
    (.seq (.reg [⟨(some 18), .build [(.v (.int .i64 0)), (.v (.int .i64 0)), (.v (.int .i64 0)), (.v (.int .i64 0)), (.v (.int .i64 0))] [], none⟩, ⟨(some 19), .mv (.t 8), none⟩, ⟨none, .store 5 (.t 6) (.t 18), none⟩, ⟨(some 7), .mv (.t 19), none⟩])
    .ret)
    .skip)))
  (.seq (.reg [⟨(some 20), .load 13 true (.t 3), none⟩, ⟨(some 21), .mv (.t 1), none⟩, ⟨(some 22), .call (.c (.fn (.func 68) [] [])) [(.t 20), (.t 21)], none⟩, ⟨(some 23), .bin .sub (.t 22) (.c (.v (.int .i64 1))), none⟩, ⟨(some 9), .mv (.t 23), none⟩])
  (.seq (.seq (.reg [⟨(some 24), .mv (.t 1), none⟩, ⟨(some 25), .bin .neq (.t 24) (.c (.v (.int .i64 0))), none⟩, ⟨(some 26), .mv (.t 25), none⟩, ⟨(some 27), .mv (.t 1), (some (26, true))⟩, ⟨(some 28), .fieldA 3 (.t 3), (some (26, true))⟩, ⟨(some 29), .fieldA 0 (.t 28), (some (26, true))⟩, ⟨(some 30), .load 1 false (.t 29), (some (26, true))⟩, ⟨(some 31), .bin .eql (.t 27) (.t 30), (some (26, true))⟩, ⟨(some 32), .pick (.t 26) (.t 31) (.c (.v (.bool false))), none⟩])
  (.cond (.t 32)
    (.reg [⟨(some 34), .load 13 true (.t 3), none⟩, ⟨(some 35), .call (.c (.fn (.func 69) [] [])) [(.t 34)], none⟩, ⟨(some 33), .mv (.t 35), none⟩, ⟨(some 36), .ext (.t 33) 0, none⟩, ⟨(some 37), .ext (.t 33) 1, none⟩, ⟨(some 9), .mv (.t 36), none⟩])
    .skip))
  (.seq (.seq (.reg [⟨(some 38), .mv (.t 9), none⟩, ⟨(some 39), .bin .lss (.t 38) (.c (.v (.int .i64 0))), none⟩])
  (.cond (.t 39)
    (.seq (.reg [⟨(some 40), .build [(.v (.int .i64 0)), (.v (.int .i64 0)), (.v (.int .i64 0)), (.v (.int .i64 0)), (.v (.int .i64 0))] [], none⟩, ⟨none, .store 5 (.t 6) (.t 40), none⟩, ⟨(some 7), .mv (.c (.v (.int .i64 7))), none⟩])
    .ret)
    .skip))
  (.seq (.reg [⟨(some 10), .alloc 91 [(.v (.int .i64 0)), (.v (.int .i64 0)), (.v (.int .i64 0)), (.v (.int .i64 0))], none⟩])
  (.seq (.seq (.reg [⟨(some 11), .mv (.c (.v (.int .i64 0))), none⟩])
  (.block 0
    (.loop
      (.seq (.seq (.reg [⟨(some 41), .mv (.t 11), none⟩, ⟨(some 42), .bin .lss (.t 41) (.c (.v (.int .i64 4))), none⟩, ⟨(some 43), .mv (.t 42), none⟩, ⟨(some 44), .mv (.t 11), (some (43, true))⟩, ⟨(some 45), .mv (.t 2), (some (43, true))⟩, ⟨(some 46), .len (.t 45), (some (43, true))⟩, ⟨(some 47), .bin .lss (.t 44) (.t 46), (some (43, true))⟩, ⟨(some 48), .pick (.t 43) (.t 47) (.c (.v (.bool false))), none⟩])
      (.cond (.t 48)
        .skip
        (.exit 0)))
      (.seq (.block 1
        (.reg [⟨(some 51), .mv (.t 11), none⟩, ⟨(some 52), .mv (.t 2), none⟩, ⟨(some 53), .mv (.t 11), none⟩, ⟨(some 54), .idxS 1 (.t 52) (.t 53), none⟩, ⟨(some 55), .load 1 false (.t 54), none⟩, ⟨(some 56), .idxP 4 1 (.t 10) (.t 51), none⟩, ⟨none, .store 1 (.t 56) (.t 55), none⟩]))
      (.reg [⟨(some 49), .mv (.t 11), none⟩, ⟨(some 50), .bin .add (.t 49) (.c (.v (.int .i64 1))), none⟩, ⟨(some 11), .mv (.t 50), none⟩]))))))
  (.seq (.draw [⟨(some 57), .fieldA 2 (.t 3), none⟩, ⟨(some 58), .load 1 false (.t 57), none⟩, ⟨(some 59), .mv (.t 9), none⟩, ⟨(some 60), .idxS 12 (.t 58) (.t 59), none⟩, ⟨(some 61), .load 12 true (.t 60), none⟩, ⟨(some 62), .call (.c (.fn (.func 70) [] [])) [(.t 61)], none⟩, ⟨(some 63), .fieldA 2 (.t 3), none⟩, ⟨(some 64), .load 1 false (.t 63), none⟩, ⟨(some 65), .mv (.t 9), none⟩, ⟨(some 66), .idxS 12 (.t 64) (.t 65), none⟩, ⟨(some 67), .fieldA 2 (.t 66), none⟩, ⟨(some 68), .load 1 false (.t 67), none⟩, ⟨(some 12), .mv (.t 62), none⟩, ⟨(some 13), .mv (.t 68), none⟩] [])
  (.seq (.draw [⟨(some 69), .mv (.t 1), none⟩, ⟨(some 70), .mv (.t 12), none⟩, ⟨(some 71), .idxP 4 1 (.t 10) (.c (.v (.int .i64 0))), none⟩, ⟨(some 72), .load 1 false (.t 71), none⟩, ⟨(some 73), .call (.c (.fn (.func 71) [] [])) [(.t 72), (.c (.v (.int .i64 101)))], none⟩, ⟨(some 74), .bin .sub (.t 70) (.t 73), none⟩, ⟨(some 75), .mv (.t 12), none⟩, ⟨(some 76), .idxP 4 1 (.t 10) (.c (.v (.int .i64 1))), none⟩, ⟨(some 77), .load 1 false (.t 76), none⟩, ⟨(some 78), .call (.c (.fn (.func 71) [] [])) [(.t 77), (.c (.v (.int .i64 101)))], none⟩, ⟨(some 79), .bin .add (.t 75) (.t 78), none⟩, ⟨(some 80), .mv (.t 13), none⟩, ⟨(some 81), .idxP 4 1 (.t 10) (.c (.v (.int .i64 2))), none⟩, ⟨(some 82), .load 1 false (.t 81), none⟩, ⟨(some 83), .call (.c (.fn (.func 71) [] [])) [(.t 82), (.c (.v (.int .i64 6)))], none⟩, ⟨(some 84), .bin .sub (.t 80) (.t 83), none⟩, ⟨(some 85), .mm true (.c (.v (.int .i64 0))) [(.t 84)], none⟩, ⟨(some 86), .mv (.t 13), none⟩, ⟨(some 87), .idxP 4 1 (.t 10) (.c (.v (.int .i64 3))), none⟩, ⟨(some 88), .load 1 false (.t 87), none⟩, ⟨(some 89), .call (.c (.fn (.func 71) [] [])) [(.t 88), (.c (.v (.int .i64 6)))], none⟩, ⟨(some 90), .bin .add (.t 86) (.t 89), none⟩, ⟨(some 91), .mm false (.c (.v (.int .i64 2000))) [(.t 90)], none⟩, ⟨(some 92), .build [(.v (.int .i64 0)), (.v (.int .i64 0)), (.v (.int .i64 0)), (.v (.int .i64 0)), (.v (.int .i64 0))] [(0, 1, (.t 69)), (1, 1, (.t 74)), (2, 1, (.t 79)), (3, 1, (.t 85)), (4, 1, (.t 91))], none⟩, ⟨none, .store 5 (.t 6) (.t 92), none⟩, ⟨(some 7), .mv (.c (.v (.int .i64 0))), none⟩] [])
  .ret)))))))))
theorem fn_ref09_Look : FnOK Try.prog 28 93 [.cell 6 5 true, .t 7] ac_ref09_Look := ⟨_, _, Try.func28, rfl, Try.ntmps28, by kernel_rfl, ⟨fun _ => [], by kernel_rfl⟩, by kernel_rfl⟩
set_option maxHeartbeats 4000000 in
theorem ref09_Look_ok (p1 : Convoy) (p2 : Int) (p3 : (List Int)) (r : (Sight × Int)) (h : ref09_Look p1 p2 p3 = some r) : PCall Try.prog 28 [(.agg [(i64 p1.Tick), (i64 p1.Gap), (.list (List.map eMate p1.Mates)), (i64 p1.Guest_.ID), (i64 p1.Guest_.S), (i64 p1.Guest_.V), (i64 p1.Guest_.Len), (i64 p1.Guest_.End), (i64 p1.Guest_.Ahead), (i64 p1.Guest_.Guess_.R), (i64 p1.Guest_.Guess_.V), (i64 p1.Guest_.From), (i64 p1.Guest_.Until)]), (i64 p2), (.list (List.map eInt_i64 p3))] (.tup [(.agg [(i64 r.1.By), (i64 r.1.Lo), (i64 r.1.Hi), (i64 r.1.VLo), (i64 r.1.VHi)]), (i64 r.2)]) := by
  refine l_call fn_ref09_Look (Nat.le_of_ble_eq_true rfl) ?_
  unfold ref09_Look at h
  unfold ac_ref09_Look
  refine (l_sub (s0 := ⟨T [(0, (.d (.agg [(i64 p1.Tick), (i64 p1.Gap), (.list (List.map eMate p1.Mates)), (i64 p1.Guest_.ID), (i64 p1.Guest_.S), (i64 p1.Guest_.V), (i64 p1.Guest_.Len), (i64 p1.Guest_.End), (i64 p1.Guest_.Ahead), (i64 p1.Guest_.Guess_.R), (i64 p1.Guest_.Guess_.V), (i64 p1.Guest_.From), (i64 p1.Guest_.Until)]))), (1, (.d (i64 p2))), (2, (.d (.list (List.map eInt_i64 p3))))], G []⟩) (sb_of ⟨.of rfl, .of rfl, .of rfl, trivial⟩ trivial) ?_)
  refine l_seq ?_
  refine l_reg fun u1 hu1 => ?_
  refine s_new (.ptr _ _) (.box _ _) rfl rfl ?_
  refine s_new (.ptr _ _) (.box _ _) rfl rfl ?_
  refine s_val (.d _) rfl rfl ?_
  refine s_nil ?_
  refine l_seq ?_
  refine l_seq ?_
  refine l_reg fun u2 hu2 => ?_
  refine s_val (.d _) rfl (v_loadG rfl (G_skip rfl G_hit) rfl rfl) ?_
  obtain ⟨v1, hv1, h⟩ := bind_some h
  refine s_call rfl rfl all2_refl (ref09_Check_ok _  _ hv1) (.inl rfl) ?_
  refine s_val (.d _) rfl rfl ?_
  refine s_nil ?_
  refine l_seq ?_
  refine l_reg fun u3 hu3 => ?_
  refine s_val (.d _) rfl rfl ?_
  refine s_val (.d _) rfl rfl ?_
  refine s_nil ?_
  refine l_cond (v1 != 0) rfl (fun c1 => ?_) (fun c1 => ?_)
  · replace h := cond_t c1 h
    refine l_seq ?_
    refine l_reg fun u4 hu4 => ?_
    refine s_val (.d _) rfl rfl ?_
    refine s_val (.d _) rfl rfl ?_
    refine s_store _ _ _ _ _ rfl rfl rfl G_hit (Nat.le_of_ble_eq_true rfl) [(.d (i64 0)), (.d (i64 0)), (.d (i64 0)), (.d (i64 0)), (.d (i64 0))] rfl ?_
    refine s_val (.d _) rfl rfl ?_
    refine s_nil ?_
    refine l_ret ?_
    obtain rfl := Option.some.inj h
    refine fin_ok (.inr rfl) (resD2 (res_cellG rfl G_hit (Nat.le_of_ble_eq_true rfl) rfl) (res_t rfl) rf_d rf_d) ?_
    exact .refl _
  · replace h := cond_f c1 h
    refine l_skip ?_
    refine l_seq ?_
    refine l_reg fun u5 hu5 => ?_
    refine s_val (.d _) rfl (v_loadG rfl (G_skip rfl G_hit) rfl rfl) ?_
    refine s_val (.d _) rfl rfl ?_
    obtain ⟨v2, hv2, h⟩ := bind_some h
    refine s_call rfl rfl all2_refl (ref09_find_ok _ _  _ hv2) (.inl rfl) ?_
    refine s_val (.d _) rfl rfl ?_
    refine s_val (.d _) rfl rfl ?_
    refine s_nil ?_
    refine l_seq ?_
    refine l_seq ?_
    refine l_reg fun u6 hu6 => ?_
    refine s_val (.d _) rfl rfl ?_
    refine s_val (.d _) rfl rfl ?_
    refine s_val (.d _) rfl rfl ?_
    refine g_val (p2 != 0) (.d _) rfl (gw_t rfl) (fun w1 => rfl) ?_
    refine g_val (p2 != 0) (.ptr _ _) rfl (gw_t rfl) (fun w2 => rfl) ?_
    refine g_val (p2 != 0) (.ptr _ _) rfl (gw_t rfl) (fun w3 => (by simp only [gd_pos w3]; rfl)) ?_
    refine g_val (p2 != 0) (.d _) rfl (gw_t rfl) (fun w4 => (v_load (gd_pos w4) (G_skip rfl G_hit) rfl)) ?_
    refine g_val (p2 != 0) (.d _) rfl (gw_t rfl) (fun w5 => (v_bin (gd_pos w5) (gd_pos w5) rfl)) ?_
    refine s_val (.d _) rfl (v_and rfl (fun hc => gd_pos hc) rfl) ?_
    refine s_nil ?_
    obtain ⟨y1, hy1, h⟩ := bind_some h
    refine l_join (fun s => ∃ g1 : Unit, Sb ⟨T [(1, (.d (i64 p2))), (2, (.d (.list (List.map eInt_i64 p3)))), (3, (.ptr (3, u1) 0)), (6, (.ptr (6, u1) 0)), (9, (.d (i64 y1)))], G [((3, u1), some (.box 38 [(.d (i64 p1.Tick)), (.d (i64 p1.Gap)), (.d (.list (List.map eMate p1.Mates))), (.d (i64 p1.Guest_.ID)), (.d (i64 p1.Guest_.S)), (.d (i64 p1.Guest_.V)), (.d (i64 p1.Guest_.Len)), (.d (i64 p1.Guest_.End)), (.d (i64 p1.Guest_.Ahead)), (.d (i64 p1.Guest_.Guess_.R)), (.d (i64 p1.Guest_.Guess_.V)), (.d (i64 p1.Guest_.From)), (.d (i64 p1.Guest_.Until))])), ((6, u1), some (.box 42 [(.d (i64 0)), (.d (i64 0)), (.d (i64 0)), (.d (i64 0)), (.d (i64 0))]))]⟩ s) ?_ ?_
    · skip
      refine l_cond ((p2 != 0) && (p2 == p1.Guest_.ID)) rfl (fun c2 => ?_) (fun c2 => ?_)
      · replace hy1 := cond_t c2 hy1
        refine l_sub (s0 := ⟨T [(1, (.d (i64 p2))), (2, (.d (.list (List.map eInt_i64 p3)))), (3, (.ptr (3, u1) 0)), (6, (.ptr (6, u1) 0))], G [((3, u1), some (.box 38 [(.d (i64 p1.Tick)), (.d (i64 p1.Gap)), (.d (.list (List.map eMate p1.Mates))), (.d (i64 p1.Guest_.ID)), (.d (i64 p1.Guest_.S)), (.d (i64 p1.Guest_.V)), (.d (i64 p1.Guest_.Len)), (.d (i64 p1.Guest_.End)), (.d (i64 p1.Guest_.Ahead)), (.d (i64 p1.Guest_.Guess_.R)), (.d (i64 p1.Guest_.Guess_.V)), (.d (i64 p1.Guest_.From)), (.d (i64 p1.Guest_.Until))])), ((6, u1), some (.box 42 [(.d (i64 0)), (.d (i64 0)), (.d (i64 0)), (.d (i64 0)), (.d (i64 0))]))]⟩) (sb_of ⟨.of rfl, .of rfl, .of rfl, .of rfl, trivial⟩ (sbG_some (G_skip rfl G_hit) (.of rfl) (sbG_some G_hit (.of rfl) trivial))) ?_
        refine l_reg fun u7 hu7 => ?_
        refine s_val (.d _) rfl (v_loadG rfl G_hit rfl rfl) ?_
        obtain ⟨v3, hv3, hy1⟩ := bind_some hy1
        refine s_call rfl rfl all2_refl (ref09_beside_ok _  _ hv3) (.inl rfl) ?_
        refine s_val (.d _) rfl rfl ?_
        refine s_val (.d _) rfl rfl ?_
        refine s_val (.d _) rfl rfl ?_
        refine s_val (.d _) rfl rfl ?_
        refine s_nil ?_
        obtain rfl := Option.some.inj hy1
        exact l_j ⟨(), (sb_of ⟨.of rfl, .of rfl, .of rfl, .of rfl, .of rfl, trivial⟩ (sbG_some G_hit (.of rfl) (sbG_some (G_skip rfl G_hit) (.of rfl) trivial)))⟩
      · replace hy1 := cond_f c2 hy1
        refine l_skip ?_
        obtain rfl := Option.some.inj hy1
        exact l_j ⟨(), (sb_of ⟨.of rfl, .of rfl, .of rfl, .of rfl, .of rfl, trivial⟩ (sbG_some (G_skip rfl G_hit) (.of rfl) (sbG_some G_hit (.of rfl) trivial)))⟩
    · rintro _ ⟨g1, q1⟩
      refine l_sub q1 ?_
      refine l_seq ?_
      refine l_seq ?_
      refine l_reg fun u8 hu8 => ?_
      refine s_val (.d _) rfl rfl ?_
      refine s_val (.d _) rfl rfl ?_
      refine s_nil ?_
      refine l_cond (decide (y1 < 0)) rfl (fun c3 => ?_) (fun c3 => ?_)
      · replace h := cond_t c3 h
        refine l_seq ?_
        refine l_reg fun u9 hu9 => ?_
        refine s_val (.d _) rfl rfl ?_
        refine s_store _ _ _ _ _ rfl rfl rfl (G_skip rfl G_hit) (Nat.le_of_ble_eq_true rfl) [(.d (i64 0)), (.d (i64 0)), (.d (i64 0)), (.d (i64 0)), (.d (i64 0))] rfl ?_
        refine s_val (.d _) rfl rfl ?_
        refine s_nil ?_
        refine l_ret ?_
        obtain rfl := Option.some.inj h
        refine fin_ok (.inr rfl) (resD2 (res_cellG rfl G_hit (Nat.le_of_ble_eq_true rfl) rfl) (res_t rfl) rf_d rf_d) ?_
        exact .refl _
      · replace h := cond_f c3 h
        refine l_skip ?_
        refine l_seq ?_
        refine l_reg fun u10 hu10 => ?_
        refine s_new (.ptr _ _) (.box _ _) rfl rfl ?_
        refine s_nil ?_
        refine l_seq ?_
        refine l_seq ?_
        refine l_reg fun u11 hu11 => ?_
        refine s_val (.d _) rfl rfl ?_
        refine s_nil ?_
        obtain ⟨y2, hy2, h⟩ := bind_some h
        refine l_join (fun s => ∃ g2 : Unit, Sb ⟨T [(1, (.d (i64 p2))), (3, (.ptr (3, u1) 0)), (6, (.ptr (6, u1) 0)), (9, (.d (i64 y1))), (10, (.ptr (10, u10) 0))], G [((3, u1), some (.box 38 [(.d (i64 p1.Tick)), (.d (i64 p1.Gap)), (.d (.list (List.map eMate p1.Mates))), (.d (i64 p1.Guest_.ID)), (.d (i64 p1.Guest_.S)), (.d (i64 p1.Guest_.V)), (.d (i64 p1.Guest_.Len)), (.d (i64 p1.Guest_.End)), (.d (i64 p1.Guest_.Ahead)), (.d (i64 p1.Guest_.Guess_.R)), (.d (i64 p1.Guest_.Guess_.V)), (.d (i64 p1.Guest_.From)), (.d (i64 p1.Guest_.Until))])), ((6, u1), some (.box 42 [(.d (i64 0)), (.d (i64 0)), (.d (i64 0)), (.d (i64 0)), (.d (i64 0))])), ((10, u10), some (.box 91 [(.d (i64 y2.1)), (.d (i64 y2.2.1)), (.d (i64 y2.2.2.1)), (.d (i64 y2.2.2.2))]))]⟩ s) ?_ ?_
        · skip
          refine l_block ?_
          refine l_unroll ?_
          refine l_seq ?_
          refine l_seq ?_
          refine l_reg fun u12 hu12 => ?_
          refine s_val (.d _) rfl rfl ?_
          refine s_val (.d _) rfl rfl ?_
          refine s_val (.d _) rfl rfl ?_
          refine g_val true (.d _) rfl (gw_t rfl) (fun w6 => rfl) ?_
          refine g_val true (.d _) rfl (gw_t rfl) (fun w7 => rfl) ?_
          refine g_val true (.d _) rfl (gw_t rfl) (fun w8 => (v_len (gd_pos w8))) ?_
          refine g_val true (.d _) rfl (gw_t rfl) (fun w9 => (v_bin (gd_pos w9) (gd_pos w9) rfl)) ?_
          refine s_val (.d _) rfl (v_and rfl (fun hc => gd_pos hc) rfl) ?_
          refine s_nil ?_
          refine l_cond (true && (decide (0 < (p3.length : Int)))) rfl (fun c4 => ?_) (fun c4 => ?_)
          · replace hy2 := cond_t c4 hy2
            refine l_skip ?_
            refine l_seq ?_
            refine l_block ?_
            refine l_reg fun u13 hu13 => ?_
            refine s_val (.d _) rfl rfl ?_
            refine s_val (.d _) rfl rfl ?_
            refine s_val (.d _) rfl rfl ?_
            obtain ⟨v4, hv4, hy2⟩ := bind_some hy2
            refine s_val (.d _) rfl (v_idx rfl rfl hv4 rfl) ?_
            refine s_val (.d _) rfl (v_loadL rfl hv4 rfl) ?_
            refine s_val (.ptr _ _) rfl rfl ?_
            refine s_store _ _ _ _ _ rfl rfl rfl G_hit (Nat.le_of_ble_eq_true rfl) [(.d (i64 v4)), (.d (i64 0)), (.d (i64 0)), (.d (i64 0))] rfl ?_
            refine s_nil ?_
            refine l_end ?_
            refine l_sub (s0 := ⟨T [(1, (.d (i64 p2))), (2, (.d (.list (List.map eInt_i64 p3)))), (3, (.ptr (3, u1) 0)), (6, (.ptr (6, u1) 0)), (9, (.d (i64 y1))), (10, (.ptr (10, u10) 0)), (11, (.d (i64 0))), (44, (gd true true (.d (i64 0)))), (45, (gd true true (.d (.list (List.map eInt_i64 p3))))), (46, (gd true true (.d (i64 (p3.length : Int))))), (47, (gd true true (.d (bo (decide (0 < (p3.length : Int)))))))], G [((3, u1), some (.box 38 [(.d (i64 p1.Tick)), (.d (i64 p1.Gap)), (.d (.list (List.map eMate p1.Mates))), (.d (i64 p1.Guest_.ID)), (.d (i64 p1.Guest_.S)), (.d (i64 p1.Guest_.V)), (.d (i64 p1.Guest_.Len)), (.d (i64 p1.Guest_.End)), (.d (i64 p1.Guest_.Ahead)), (.d (i64 p1.Guest_.Guess_.R)), (.d (i64 p1.Guest_.Guess_.V)), (.d (i64 p1.Guest_.From)), (.d (i64 p1.Guest_.Until))])), ((6, u1), some (.box 42 [(.d (i64 0)), (.d (i64 0)), (.d (i64 0)), (.d (i64 0)), (.d (i64 0))])), ((10, u10), some (.box 91 [(.d (i64 v4)), (.d (i64 0)), (.d (i64 0)), (.d (i64 0))]))]⟩) (sb_of ⟨.of rfl, .of rfl, .of rfl, .of rfl, .of rfl, .of rfl, .of rfl, .of rfl, .of rfl, .of rfl, .of rfl, trivial⟩ (sbG_some (G_skip rfl (G_skip rfl G_hit)) (.of rfl) (sbG_some (G_skip rfl (G_skip rfl (G_skip rfl G_hit))) (.of rfl) (sbG_some G_hit (.of rfl) trivial)))) ?_
            refine l_reg fun u14 hu14 => ?_
            refine s_val (.d _) rfl rfl ?_
            refine s_val (.d _) rfl rfl ?_
            refine s_val (.d _) rfl rfl ?_
            refine s_nil ?_
            refine l_unroll ?_
            refine l_seq ?_
            refine l_seq ?_
            refine l_reg fun u15 hu15 => ?_
            refine s_val (.d _) rfl rfl ?_
            refine s_val (.d _) rfl rfl ?_
            refine s_val (.d _) rfl rfl ?_
            refine g_val true (.d _) rfl (gw_t rfl) (fun w10 => rfl) ?_
            refine g_val true (.d _) rfl (gw_t rfl) (fun w11 => rfl) ?_
            refine g_val true (.d _) rfl (gw_t rfl) (fun w12 => (v_len (gd_pos w12))) ?_
            refine g_val true (.d _) rfl (gw_t rfl) (fun w13 => (v_bin (gd_pos w13) (gd_pos w13) rfl)) ?_
            refine s_val (.d _) rfl (v_and rfl (fun hc => gd_pos hc) rfl) ?_
            refine s_nil ?_
            refine l_cond (true && (decide (1 < (p3.length : Int)))) rfl (fun c5 => ?_) (fun c5 => ?_)
            · replace hy2 := cond_t c5 hy2
              refine l_skip ?_
              refine l_seq ?_
              refine l_block ?_
              refine l_reg fun u16 hu16 => ?_
              refine s_val (.d _) rfl rfl ?_
              refine s_val (.d _) rfl rfl ?_
              refine s_val (.d _) rfl rfl ?_
              obtain ⟨v5, hv5, hy2⟩ := bind_some hy2
              refine s_val (.d _) rfl (v_idx rfl rfl hv5 rfl) ?_
              refine s_val (.d _) rfl (v_loadL rfl hv5 rfl) ?_
              refine s_val (.ptr _ _) rfl rfl ?_
              refine s_store _ _ _ _ _ rfl rfl rfl (G_skip rfl (G_skip rfl G_hit)) (Nat.le_of_ble_eq_true rfl) [(.d (i64 v4)), (.d (i64 v5)), (.d (i64 0)), (.d (i64 0))] rfl ?_
              refine s_nil ?_
              refine l_end ?_
              refine l_sub (s0 := ⟨T [(1, (.d (i64 p2))), (2, (.d (.list (List.map eInt_i64 p3)))), (3, (.ptr (3, u1) 0)), (6, (.ptr (6, u1) 0)), (9, (.d (i64 y1))), (10, (.ptr (10, u10) 0)), (11, (.d (i64 1))), (44, (gd true true (.d (i64 1)))), (45, (gd true true (.d (.list (List.map eInt_i64 p3))))), (46, (gd true true (.d (i64 (p3.length : Int))))), (47, (gd true true (.d (bo (decide (1 < (p3.length : Int)))))))], G [((3, u1), some (.box 38 [(.d (i64 p1.Tick)), (.d (i64 p1.Gap)), (.d (.list (List.map eMate p1.Mates))), (.d (i64 p1.Guest_.ID)), (.d (i64 p1.Guest_.S)), (.d (i64 p1.Guest_.V)), (.d (i64 p1.Guest_.Len)), (.d (i64 p1.Guest_.End)), (.d (i64 p1.Guest_.Ahead)), (.d (i64 p1.Guest_.Guess_.R)), (.d (i64 p1.Guest_.Guess_.V)), (.d (i64 p1.Guest_.From)), (.d (i64 p1.Guest_.Until))])), ((6, u1), some (.box 42 [(.d (i64 0)), (.d (i64 0)), (.d (i64 0)), (.d (i64 0)), (.d (i64 0))])), ((10, u10), some (.box 91 [(.d (i64 v4)), (.d (i64 v5)), (.d (i64 0)), (.d (i64 0))]))]⟩) (sb_of ⟨.of rfl, .of rfl, .of rfl, .of rfl, .of rfl, .of rfl, .of rfl, .of rfl, .of rfl, .of rfl, .of rfl, trivial⟩ (sbG_some (G_skip rfl G_hit) (.of rfl) (sbG_some (G_skip rfl (G_skip rfl G_hit)) (.of rfl) (sbG_some G_hit (.of rfl) trivial)))) ?_
              refine l_reg fun u17 hu17 => ?_
              refine s_val (.d _) rfl rfl ?_
              refine s_val (.d _) rfl rfl ?_
              refine s_val (.d _) rfl rfl ?_
              refine s_nil ?_
              refine l_unroll ?_
              refine l_seq ?_
              refine l_seq ?_
              refine l_reg fun u18 hu18 => ?_
              refine s_val (.d _) rfl rfl ?_
              refine s_val (.d _) rfl rfl ?_
              refine s_val (.d _) rfl rfl ?_
              refine g_val true (.d _) rfl (gw_t rfl) (fun w14 => rfl) ?_
              refine g_val true (.d _) rfl (gw_t rfl) (fun w15 => rfl) ?_
              refine g_val true (.d _) rfl (gw_t rfl) (fun w16 => (v_len (gd_pos w16))) ?_
              refine g_val true (.d _) rfl (gw_t rfl) (fun w17 => (v_bin (gd_pos w17) (gd_pos w17) rfl)) ?_
              refine s_val (.d _) rfl (v_and rfl (fun hc => gd_pos hc) rfl) ?_
              refine s_nil ?_
              refine l_cond (true && (decide (2 < (p3.length : Int)))) rfl (fun c6 => ?_) (fun c6 => ?_)
              · replace hy2 := cond_t c6 hy2
                refine l_skip ?_
                refine l_seq ?_
                refine l_block ?_
                refine l_reg fun u19 hu19 => ?_
                refine s_val (.d _) rfl rfl ?_
                refine s_val (.d _) rfl rfl ?_
                refine s_val (.d _) rfl rfl ?_
                obtain ⟨v6, hv6, hy2⟩ := bind_some hy2
                refine s_val (.d _) rfl (v_idx rfl rfl hv6 rfl) ?_
                refine s_val (.d _) rfl (v_loadL rfl hv6 rfl) ?_
                refine s_val (.ptr _ _) rfl rfl ?_
                refine s_store _ _ _ _ _ rfl rfl rfl (G_skip rfl (G_skip rfl G_hit)) (Nat.le_of_ble_eq_true rfl) [(.d (i64 v4)), (.d (i64 v5)), (.d (i64 v6)), (.d (i64 0))] rfl ?_
                refine s_nil ?_
                refine l_end ?_
                refine l_sub (s0 := ⟨T [(1, (.d (i64 p2))), (2, (.d (.list (List.map eInt_i64 p3)))), (3, (.ptr (3, u1) 0)), (6, (.ptr (6, u1) 0)), (9, (.d (i64 y1))), (10, (.ptr (10, u10) 0)), (11, (.d (i64 2))), (44, (gd true true (.d (i64 2)))), (45, (gd true true (.d (.list (List.map eInt_i64 p3))))), (46, (gd true true (.d (i64 (p3.length : Int))))), (47, (gd true true (.d (bo (decide (2 < (p3.length : Int)))))))], G [((3, u1), some (.box 38 [(.d (i64 p1.Tick)), (.d (i64 p1.Gap)), (.d (.list (List.map eMate p1.Mates))), (.d (i64 p1.Guest_.ID)), (.d (i64 p1.Guest_.S)), (.d (i64 p1.Guest_.V)), (.d (i64 p1.Guest_.Len)), (.d (i64 p1.Guest_.End)), (.d (i64 p1.Guest_.Ahead)), (.d (i64 p1.Guest_.Guess_.R)), (.d (i64 p1.Guest_.Guess_.V)), (.d (i64 p1.Guest_.From)), (.d (i64 p1.Guest_.Until))])), ((6, u1), some (.box 42 [(.d (i64 0)), (.d (i64 0)), (.d (i64 0)), (.d (i64 0)), (.d (i64 0))])), ((10, u10), some (.box 91 [(.d (i64 v4)), (.d (i64 v5)), (.d (i64 v6)), (.d (i64 0))]))]⟩) (sb_of ⟨.of rfl, .of rfl, .of rfl, .of rfl, .of rfl, .of rfl, .of rfl, .of rfl, .of rfl, .of rfl, .of rfl, trivial⟩ (sbG_some (G_skip rfl G_hit) (.of rfl) (sbG_some (G_skip rfl (G_skip rfl G_hit)) (.of rfl) (sbG_some G_hit (.of rfl) trivial)))) ?_
                refine l_reg fun u20 hu20 => ?_
                refine s_val (.d _) rfl rfl ?_
                refine s_val (.d _) rfl rfl ?_
                refine s_val (.d _) rfl rfl ?_
                refine s_nil ?_
                refine l_unroll ?_
                refine l_seq ?_
                refine l_seq ?_
                refine l_reg fun u21 hu21 => ?_
                refine s_val (.d _) rfl rfl ?_
                refine s_val (.d _) rfl rfl ?_
                refine s_val (.d _) rfl rfl ?_
                refine g_val true (.d _) rfl (gw_t rfl) (fun w18 => rfl) ?_
                refine g_val true (.d _) rfl (gw_t rfl) (fun w19 => rfl) ?_
                refine g_val true (.d _) rfl (gw_t rfl) (fun w20 => (v_len (gd_pos w20))) ?_
                refine g_val true (.d _) rfl (gw_t rfl) (fun w21 => (v_bin (gd_pos w21) (gd_pos w21) rfl)) ?_
                refine s_val (.d _) rfl (v_and rfl (fun hc => gd_pos hc) rfl) ?_
                refine s_nil ?_
                refine l_cond (true && (decide (3 < (p3.length : Int)))) rfl (fun c7 => ?_) (fun c7 => ?_)
                · replace hy2 := cond_t c7 hy2
                  refine l_skip ?_
                  refine l_seq ?_
                  refine l_block ?_
                  refine l_reg fun u22 hu22 => ?_
                  refine s_val (.d _) rfl rfl ?_
                  refine s_val (.d _) rfl rfl ?_
                  refine s_val (.d _) rfl rfl ?_
                  obtain ⟨v7, hv7, hy2⟩ := bind_some hy2
                  refine s_val (.d _) rfl (v_idx rfl rfl hv7 rfl) ?_
                  refine s_val (.d _) rfl (v_loadL rfl hv7 rfl) ?_
                  refine s_val (.ptr _ _) rfl rfl ?_
                  refine s_store _ _ _ _ _ rfl rfl rfl (G_skip rfl (G_skip rfl G_hit)) (Nat.le_of_ble_eq_true rfl) [(.d (i64 v4)), (.d (i64 v5)), (.d (i64 v6)), (.d (i64 v7))] rfl ?_
                  refine s_nil ?_
                  refine l_end ?_
                  refine l_sub (s0 := ⟨T [(1, (.d (i64 p2))), (2, (.d (.list (List.map eInt_i64 p3)))), (3, (.ptr (3, u1) 0)), (6, (.ptr (6, u1) 0)), (9, (.d (i64 y1))), (10, (.ptr (10, u10) 0)), (11, (.d (i64 3))), (44, (gd true true (.d (i64 3)))), (45, (gd true true (.d (.list (List.map eInt_i64 p3))))), (46, (gd true true (.d (i64 (p3.length : Int))))), (47, (gd true true (.d (bo (decide (3 < (p3.length : Int)))))))], G [((3, u1), some (.box 38 [(.d (i64 p1.Tick)), (.d (i64 p1.Gap)), (.d (.list (List.map eMate p1.Mates))), (.d (i64 p1.Guest_.ID)), (.d (i64 p1.Guest_.S)), (.d (i64 p1.Guest_.V)), (.d (i64 p1.Guest_.Len)), (.d (i64 p1.Guest_.End)), (.d (i64 p1.Guest_.Ahead)), (.d (i64 p1.Guest_.Guess_.R)), (.d (i64 p1.Guest_.Guess_.V)), (.d (i64 p1.Guest_.From)), (.d (i64 p1.Guest_.Until))])), ((6, u1), some (.box 42 [(.d (i64 0)), (.d (i64 0)), (.d (i64 0)), (.d (i64 0)), (.d (i64 0))])), ((10, u10), some (.box 91 [(.d (i64 v4)), (.d (i64 v5)), (.d (i64 v6)), (.d (i64 v7))]))]⟩) (sb_of ⟨.of rfl, .of rfl, .of rfl, .of rfl, .of rfl, .of rfl, .of rfl, .of rfl, .of rfl, .of rfl, .of rfl, trivial⟩ (sbG_some (G_skip rfl G_hit) (.of rfl) (sbG_some (G_skip rfl (G_skip rfl G_hit)) (.of rfl) (sbG_some G_hit (.of rfl) trivial)))) ?_
                  refine l_reg fun u23 hu23 => ?_
                  refine s_val (.d _) rfl rfl ?_
                  refine s_val (.d _) rfl rfl ?_
                  refine s_val (.d _) rfl rfl ?_
                  refine s_nil ?_
                  refine l_unroll ?_
                  refine l_seq ?_
                  refine l_seq ?_
                  refine l_reg fun u24 hu24 => ?_
                  refine s_val (.d _) rfl rfl ?_
                  refine s_val (.d _) rfl rfl ?_
                  refine s_val (.d _) rfl rfl ?_
                  refine g_val false (.d (.tup [])) rfl (gw_t rfl) nofun ?_
                  refine g_val false (.d (.tup [])) rfl (gw_t rfl) nofun ?_
                  refine g_val false (.d (.tup [])) rfl (gw_t rfl) nofun ?_
                  refine g_val false (.d (.tup [])) rfl (gw_t rfl) nofun ?_
                  refine s_val (.d _) rfl (v_and (q := false) rfl nofun rfl) ?_
                  refine s_nil ?_
                  refine l_condF rfl ?_
                  refine l_exit rfl ?_
                  obtain rfl := Option.some.inj hy2
                  exact l_j ⟨(), (sb_of ⟨.of rfl, .of rfl, .of rfl, .of rfl, .of rfl, trivial⟩ (sbG_some G_hit (.of rfl) (sbG_some (G_skip rfl G_hit) (.of rfl) (sbG_some (G_skip rfl (G_skip rfl G_hit)) (.of rfl) trivial))))⟩
                · replace hy2 := cond_f c7 hy2
                  refine l_exit rfl ?_
                  obtain rfl := Option.some.inj hy2
                  exact l_j ⟨(), (sb_of ⟨.of rfl, .of rfl, .of rfl, .of rfl, .of rfl, trivial⟩ (sbG_some G_hit (.of rfl) (sbG_some (G_skip rfl G_hit) (.of rfl) (sbG_some (G_skip rfl (G_skip rfl G_hit)) (.of rfl) trivial))))⟩
              · replace hy2 := cond_f c6 hy2
                refine l_exit rfl ?_
                obtain rfl := Option.some.inj hy2
                exact l_j ⟨(), (sb_of ⟨.of rfl, .of rfl, .of rfl, .of rfl, .of rfl, trivial⟩ (sbG_some G_hit (.of rfl) (sbG_some (G_skip rfl G_hit) (.of rfl) (sbG_some (G_skip rfl (G_skip rfl G_hit)) (.of rfl) trivial))))⟩
            · replace hy2 := cond_f c5 hy2
              refine l_exit rfl ?_
              obtain rfl := Option.some.inj hy2
              exact l_j ⟨(), (sb_of ⟨.of rfl, .of rfl, .of rfl, .of rfl, .of rfl, trivial⟩ (sbG_some G_hit (.of rfl) (sbG_some (G_skip rfl G_hit) (.of rfl) (sbG_some (G_skip rfl (G_skip rfl G_hit)) (.of rfl) trivial))))⟩
          · replace hy2 := cond_f c4 hy2
            refine l_exit rfl ?_
            obtain rfl := Option.some.inj hy2
            exact l_j ⟨(), (sb_of ⟨.of rfl, .of rfl, .of rfl, .of rfl, .of rfl, trivial⟩ (sbG_some (G_skip rfl G_hit) (.of rfl) (sbG_some (G_skip rfl (G_skip rfl G_hit)) (.of rfl) (sbG_some G_hit (.of rfl) trivial))))⟩
        · rintro _ ⟨g2, q2⟩
          refine l_sub q2 ?_
          refine l_seq ?_
          refine l_draw rfl fun u25 hu25 => ?_
          refine s_val (.ptr _ _) rfl rfl ?_
          refine s_val (.d _) rfl (v_load rfl G_hit rfl) ?_
          refine s_val (.d _) rfl rfl ?_
          obtain ⟨v8, hv8, h⟩ := bind_some h
          refine s_val (.d _) rfl (v_idx rfl rfl hv8 rfl) ?_
          refine s_val (.d _) rfl (v_loadLG rfl hv8 rfl rfl) ?_
          obtain ⟨v9, hv9, h⟩ := bind_some h
          refine s_call rfl rfl all2_refl (ref09_rear_ok _  _ hv9) (.inl rfl) ?_
          refine s_val (.ptr _ _) rfl rfl ?_
          refine s_val (.d _) rfl (v_load rfl G_hit rfl) ?_
          refine s_val (.d _) rfl rfl ?_
          obtain ⟨v10, hv10, h⟩ := bind_some h
          refine s_val (.d _) rfl (v_idx rfl rfl hv10 rfl) ?_
          refine s_val (.d _) rfl rfl ?_
          refine s_val (.d _) rfl (v_loadL rfl hv10 rfl) ?_
          refine s_val (.d _) rfl rfl ?_
          refine s_val (.d _) rfl rfl ?_
          refine s_nil ?_
          refine l_seq ?_
          refine l_draw rfl fun u26 hu26 => ?_
          refine s_val (.d _) rfl rfl ?_
          refine s_val (.d _) rfl rfl ?_
          refine s_val (.ptr _ _) rfl rfl ?_
          refine s_val (.d _) rfl (v_load rfl (G_skip rfl (G_skip rfl G_hit)) rfl) ?_
          obtain ⟨v11, hv11, h⟩ := bind_some h
          refine s_call rfl rfl all2_refl (ref09_mod_ok _ _  _ hv11) (.inl rfl) ?_
          refine s_val (.d _) rfl rfl ?_
          refine s_val (.d _) rfl rfl ?_
          refine s_val (.ptr _ _) rfl rfl ?_
          refine s_val (.d _) rfl (v_load rfl (G_skip rfl (G_skip rfl G_hit)) rfl) ?_
          obtain ⟨v12, hv12, h⟩ := bind_some h
          refine s_call rfl rfl all2_refl (ref09_mod_ok _ _  _ hv12) (.inl rfl) ?_
          refine s_val (.d _) rfl rfl ?_
          refine s_val (.d _) rfl rfl ?_
          refine s_val (.ptr _ _) rfl rfl ?_
          refine s_val (.d _) rfl (v_load rfl (G_skip rfl (G_skip rfl G_hit)) rfl) ?_
          obtain ⟨v13, hv13, h⟩ := bind_some h
          refine s_call rfl rfl all2_refl (ref09_mod_ok _ _  _ hv13) (.inl rfl) ?_
          refine s_val (.d _) rfl rfl ?_
          refine s_val (.d _) rfl rfl ?_
          refine s_val (.d _) rfl rfl ?_
          refine s_val (.ptr _ _) rfl rfl ?_
          refine s_val (.d _) rfl (v_load rfl (G_skip rfl (G_skip rfl G_hit)) rfl) ?_
          obtain ⟨v14, hv14, h⟩ := bind_some h
          refine s_call rfl rfl all2_refl (ref09_mod_ok _ _  _ hv14) (.inl rfl) ?_
          refine s_val (.d _) rfl rfl ?_
          refine s_val (.d _) rfl rfl ?_
          refine s_val (.d _) rfl rfl ?_
          refine s_store _ _ _ _ _ rfl rfl rfl (G_skip rfl G_hit) (Nat.le_of_ble_eq_true rfl) [(.d (i64 p2)), (.d (i64 (w64 (v9 - v11)))), (.d (i64 (w64 (v9 + v12)))), (.d (i64 (mm2 true 0 (w64 (v10.V - v13))))), (.d (i64 (mm2 false 2000 (w64 (v10.V + v14)))))] rfl ?_
          refine s_val (.d _) rfl rfl ?_
          refine s_nil ?_
          refine l_ret ?_
          obtain rfl := Option.some.inj h
          refine fin_ok (.inr rfl) (resD2 (res_cellG rfl G_hit (Nat.le_of_ble_eq_true rfl) rfl) (res_t rfl) rf_d rf_d) ?_
          exact .refl _

noncomputable def kit_NewRing_m (p1 : (List Int)) : Option KitRing :=
  some (KitRing.mk p1 0)

/-- kerbstone/kerbstonekit.NewRing -/
def ac_kit_NewRing_m : AC :=
  (.seq (.reg [⟨(some 2), .mv (.c (.v (.pointer none))), none⟩])
  (.seq (.reg [⟨(some 3), .mv (.t 0), none⟩, ⟨(some 4), .build [.nilS, (.v (.int .i64 0))] [(0, 1, (.t 3))], none⟩, ⟨(some 5), .box 94 true (.t 4), none⟩, ⟨(some 2), .mv (.t 5), none⟩])
  .ret))
theorem fn_kit_NewRing_m : FnOK Try.prog 30 6 [.t 2] ac_kit_NewRing_m := ⟨_, _, Try.func30, rfl, Try.ntmps30, by kernel_rfl, ⟨fun _ => [], by kernel_rfl⟩, by kernel_rfl⟩
theorem kit_NewRing_m_ok (p1 : (List Int)) (r : KitRing) (h : kit_NewRing_m p1 = some r) : MCall Try.prog 30 [(.d (.list (List.map eInt_i64 p1)))] [] (.ptr (800000, 0) 0) [] [.box 94 [(.d (.list (List.map eInt_i64 r.l))), (.d (i64 r.at_))]] := by
  refine m_callT fn_kit_NewRing_m rfl (Nat.le_of_ble_eq_true rfl) ?_
  unfold kit_NewRing_m at h
  unfold ac_kit_NewRing_m
  refine (l_sub (s0 := ⟨T [(0, (.d (.list (List.map eInt_i64 p1))))], G []⟩) (sb_of ⟨.of rfl, trivial⟩ trivial) ?_)
  refine l_seq ?_
  refine l_reg fun u1 hu1 => ?_
  refine s_val (.d _) rfl rfl ?_
  refine s_nil ?_
  refine l_seq ?_
  refine l_reg fun u2 hu2 => ?_
  refine s_val (.d _) rfl rfl ?_
  refine s_val (.d _) rfl rfl ?_
  refine s_new (.ptr _ _) (.box _ _) rfl rfl ?_
  refine s_val (.ptr _ _) rfl rfl ?_
  refine s_nil ?_
  refine l_ret ?_
  obtain rfl := Option.some.inj h
  exact fin_m (v1 := (.ptr (5, u2) 0)) (.inr rfl) (resA1 (res_t rfl)) (.of rfl) [((5, u2), some (.box 94 [(.d (.list (List.map eInt_i64 p1))), (.d (i64 0))]))] (sbG_some G_hit (.of rfl) trivial) (mpost_of [(5, u2)] rfl trivial ⟨G_hit, trivial⟩ rfl (by simp only [List.mem_cons, List.not_mem_nil, or_false, forall_eq]; exact fun i => old_ne rfl i) nd1)

noncomputable def kit_Mod (p1 : Int) (p2 : Int) : Option Int :=
  (remc p1 p2).bind fun v1 => cond (decide (v1 < 0)) (some (w64 (v1 + p2))) (some v1)

/-- kerbstone/kerbstonekit.Mod -/
def ac_kit_Mod : AC :=
  (.seq (.reg [⟨(some 4), .mv (.c (.v (.int .i64 0))), none⟩])
  (.seq (.reg [⟨(some 5), .mv (.t 0), none⟩, ⟨(some 6), .mv (.t 1), none⟩, ⟨(some 7), .bin .rem (.t 5) (.t 6), none⟩, ⟨(some 0), .mv (.t 7), none⟩])
  (.seq (.seq (.reg [⟨(some 8), .mv (.t 0), none⟩, ⟨(some 9), .bin .lss (.t 8) (.c (.v (.int .i64 0))), none⟩])
  (.cond (.t 9)
    (.reg [⟨(some 10), .mv (.t 0), none⟩, ⟨(some 11), .mv (.t 1), none⟩, ⟨(some 12), .bin .add (.t 10) (.t 11), none⟩, ⟨(some 0), .mv (.t 12), none⟩])
    .skip))
  (.seq (.reg [⟨(some 13), .mv (.t 0), none⟩, ⟨(some 4), .mv (.t 13), none⟩])
  .ret))))
theorem fn_kit_Mod : FnOK Try.prog 26 14 [.t 4] ac_kit_Mod := ⟨_, _, Try.func26, rfl, Try.ntmps26, by kernel_rfl, ⟨fun _ => [], by kernel_rfl⟩, by kernel_rfl⟩
theorem kit_Mod_ok (p1 : Int) (p2 : Int) (r : Int) (h : kit_Mod p1 p2 = some r) : PCall Try.prog 26 [(i64 p1), (i64 p2)] (i64 r) := by
  refine l_call fn_kit_Mod (Nat.le_of_ble_eq_true rfl) ?_
  unfold kit_Mod at h
  unfold ac_kit_Mod
  refine (l_sub (s0 := ⟨T [(0, (.d (i64 p1))), (1, (.d (i64 p2)))], G []⟩) (sb_of ⟨.of rfl, .of rfl, trivial⟩ trivial) ?_)
  refine l_seq ?_
  refine l_reg fun u1 hu1 => ?_
  refine s_val (.d _) rfl rfl ?_
  refine s_nil ?_
  refine l_seq ?_
  refine l_reg fun u2 hu2 => ?_
  refine s_val (.d _) rfl rfl ?_
  refine s_val (.d _) rfl rfl ?_
  obtain ⟨v1, hv1, h⟩ := bind_some h
  refine s_val (.d _) rfl (v_rem rfl rfl hv1) ?_
  refine s_val (.d _) rfl rfl ?_
  refine s_nil ?_
  refine l_seq ?_
  refine l_seq ?_
  refine l_reg fun u3 hu3 => ?_
  refine s_val (.d _) rfl rfl ?_
  refine s_val (.d _) rfl rfl ?_
  refine s_nil ?_
  refine l_cond (decide (v1 < 0)) rfl (fun c1 => ?_) (fun c1 => ?_)
  · replace h := cond_t c1 h
    refine l_reg fun u4 hu4 => ?_
    refine s_val (.d _) rfl rfl ?_
    refine s_val (.d _) rfl rfl ?_
    refine s_val (.d _) rfl rfl ?_
    refine s_val (.d _) rfl rfl ?_
    refine s_nil ?_
    refine l_seq ?_
    refine l_reg fun u5 hu5 => ?_
    refine s_val (.d _) rfl rfl ?_
    refine s_val (.d _) rfl rfl ?_
    refine s_nil ?_
    refine l_ret ?_
    obtain rfl := Option.some.inj h
    refine fin_ok (.inr rfl) (resD1 (res_t rfl) rf_d) ?_
    exact (.refl _)
  · replace h := cond_f c1 h
    refine l_skip ?_
    refine l_seq ?_
    refine l_reg fun u6 hu6 => ?_
    refine s_val (.d _) rfl rfl ?_
    refine s_val (.d _) rfl rfl ?_
    refine s_nil ?_
    refine l_ret ?_
    obtain rfl := Option.some.inj h
    refine fin_ok (.inr rfl) (resD1 (res_t rfl) rf_d) ?_
    exact (.refl _)

noncomputable def kit_Ring_Next_o (p1 : KitRing) (p2 : Int) : Option (Int × KitRing) :=
  cond (decide ((p1.l.length : Int) > 0)) ((remc (w64 (p1.at_ + 1)) (p1.l.length : Int)).bind fun v1 => (geti p1.l v1).bind fun v2 => (kit_Mod v2 1048576).bind fun v3 => (quoc .i64 (w64 (p1.at_ + 1)) (p1.l.length : Int)).bind fun v4 => (quoc .i64 v3 (w64 (1 + v4))).bind fun v5 => (remc (w64 (((w64 ((w64 (p1.at_ + 1)) * 7919)).tmod 10007) + v5)) p2).bind fun v6 => some (v6, (KitRing.mk p1.l (w64 (p1.at_ + 1))))) ((remc ((w64 ((w64 (p1.at_ + 1)) * 7919)).tmod 10007) p2).bind fun v7 => some (v7, (KitRing.mk p1.l (w64 (p1.at_ + 1)))))

/-- (*kerbstone/kerbstonekit.Ring).Next -/
def ac_kit_Ring_Next_o : AC :=
  (.seq (.reg [⟨(some 4), .mv (.c (.v (.int .i64 0))), none⟩])
  (.seq (.reg [⟨(some 6), .mv (.t 0), none⟩, ⟨(some 7), .nilck (.t 6), none⟩, ⟨(some 8), .fieldA 1 (.t 7), none⟩, ⟨(some 9), .load 1 false (.t 8), none⟩, ⟨(some 10), .bin .add (.t 9) (.c (.v (.int .i64 1))), none⟩, ⟨(some 11), .nilck (.t 6), none⟩, ⟨(some 12), .fieldA 1 (.t 11), none⟩, ⟨none, .store 1 (.t 12) (.t 10), none⟩])
  (.seq (.reg [⟨(some 13), .mv (.t 0), none⟩, ⟨(some 14), .nilck (.t 13), none⟩, ⟨(some 15), .fieldA 1 (.t 14), none⟩, ⟨(some 16), .load 1 false (.t 15), none⟩, ⟨(some 17), .bin .mul (.t 16) (.c (.v (.int .i64 7919))), none⟩, ⟨(some 18), .bin .rem (.t 17) (.c (.v (.int .i64 10007))), none⟩, ⟨(some 5), .mv (.t 18), none⟩])
  (.seq (.seq (.reg [⟨(some 19), .mv (.t 0), none⟩, ⟨(some 20), .nilck (.t 19), none⟩, ⟨(some 21), .fieldA 0 (.t 20), none⟩, ⟨(some 22), .load 1 false (.t 21), none⟩, ⟨(some 23), .len (.t 22), none⟩, ⟨(some 24), .bin .gtr (.t 23) (.c (.v (.int .i64 0))), none⟩])
  (.cond (.t 24)
    (.draw [⟨(some 25), .mv (.t 5), none⟩, ⟨(some 26), .mv (.t 0), none⟩, ⟨(some 27), .nilck (.t 26), none⟩, ⟨(some 28), .fieldA 0 (.t 27), none⟩, ⟨(some 29), .load 1 false (.t 28), none⟩, ⟨(some 30), .mv (.t 0), none⟩, ⟨(some 31), .nilck (.t 30), none⟩, ⟨(some 32), .fieldA 1 (.t 31), none⟩, ⟨(some 33), .load 1 false (.t 32), none⟩, ⟨(some 34), .mv (.t 0), none⟩, ⟨(some 35), .nilck (.t 34), none⟩, ⟨(some 36), .fieldA 0 (.t 35), none⟩, ⟨(some 37), .load 1 false (.t 36), none⟩, ⟨(some 38), .len (.t 37), none⟩, ⟨(some 39), .bin .rem (.t 33) (.t 38), none⟩, ⟨(some 40), .idxS 1 (.t 29) (.t 39), none⟩, ⟨(some 41), .load 1 false (.t 40), none⟩, ⟨(some 42), .call (.c (.fn (.func 26) [] [])) [(.t 41), (.c (.v (.int .i64 1048576)))], none⟩, ⟨(some 43), .mv (.t 0), none⟩, ⟨(some 44), .nilck (.t 43), none⟩, ⟨(some 45), .fieldA 1 (.t 44), none⟩, ⟨(some 46), .load 1 false (.t 45), none⟩, ⟨(some 47), .mv (.t 0), none⟩, ⟨(some 48), .nilck (.t 47), none⟩, ⟨(some 49), .fieldA 0 (.t 48), none⟩, ⟨(some 50), .load 1 false (.t 49), none⟩, ⟨(some 51), .len (.t 50), none⟩, ⟨(some 52), .bin .quo (.t 46) (.t 51), none⟩, ⟨(some 53), .bin .add (.c (.v (.int .i64 1))) (.t 52), none⟩, ⟨(some 54), .bin .quo (.t 42) (.t 53), none⟩, ⟨(some 55), .bin .add (.t 25) (.t 54), none⟩, ⟨(some 5), .mv (.t 55), none⟩] [])
    .skip))
  (.seq (.reg [⟨(some 56), .mv (.t 5), none⟩, ⟨(some 57), .mv (.t 1), none⟩, ⟨(some 58), .bin .rem (.t 56) (.t 57), none⟩, ⟨(some 4), .mv (.t 58), none⟩])
  .ret)))))
theorem fn_kit_Ring_Next_o : FnOK Try.prog 49 59 [.t 4] ac_kit_Ring_Next_o := ⟨_, _, Try.func49, rfl, Try.ntmps49, by kernel_rfl, ⟨fun _ => [], by kernel_rfl⟩, by kernel_rfl⟩
set_option maxHeartbeats 4000000 in
theorem kit_Ring_Next_o_ok (p1 : KitRing) (p2 : Int) (r : (Int × KitRing)) (h : kit_Ring_Next_o p1 p2 = some r) : MCall Try.prog 49 [(.ptr (900000, 0) 0), (.d (i64 p2))] [(.box 94 [(.d (.list (List.map eInt_i64 p1.l))), (.d (i64 p1.at_))])] (.d (i64 r.1)) [some (.box 94 [(.d (.list (List.map eInt_i64 r.2.l))), (.d (i64 r.2.at_))])] [] := by
  refine m_callF fn_kit_Ring_Next_o rfl (Nat.le_of_ble_eq_true rfl) ?_
  unfold kit_Ring_Next_o at h
  unfold ac_kit_Ring_Next_o
  refine (l_sub (s0 := ⟨T [(0, (.ptr (900000, 0) 0)), (1, (.d (i64 p2)))], G [((900000, 0), some (.box 94 [(.d (.list (List.map eInt_i64 p1.l))), (.d (i64 p1.at_))]))]⟩) (sb_of ⟨.of rfl, .of rfl, trivial⟩ (sbG_some G_hit (.of rfl) trivial)) ?_)
  refine l_seq ?_
  refine l_reg fun u1 hu1 => ?_
  refine s_val (.d _) rfl rfl ?_
  refine s_nil ?_
  refine l_seq ?_
  refine l_reg fun u2 hu2 => ?_
  refine s_val (.ptr _ _) rfl rfl ?_
  refine s_val (.ptr _ _) rfl rfl ?_
  refine s_val (.ptr _ _) rfl rfl ?_
  refine s_val (.d _) rfl (v_load rfl G_hit rfl) ?_
  refine s_val (.d _) rfl rfl ?_
  refine s_val (.ptr _ _) rfl rfl ?_
  refine s_val (.ptr _ _) rfl rfl ?_
  refine s_store _ _ _ _ _ rfl rfl rfl G_hit (Nat.le_of_ble_eq_true rfl) [(.d (.list (List.map eInt_i64 p1.l))), (.d (i64 (w64 (p1.at_ + 1))))] rfl ?_
  refine s_nil ?_
  refine l_seq ?_
  refine l_reg fun u3 hu3 => ?_
  refine s_val (.ptr _ _) rfl rfl ?_
  refine s_val (.ptr _ _) rfl rfl ?_
  refine s_val (.ptr _ _) rfl rfl ?_
  refine s_val (.d _) rfl (v_load rfl G_hit rfl) ?_
  refine s_val (.d _) rfl rfl ?_
  refine s_val (.d _) rfl rfl ?_
  refine s_val (.d _) rfl rfl ?_
  refine s_nil ?_
  refine l_seq ?_
  refine l_seq ?_
  refine l_reg fun u4 hu4 => ?_
  refine s_val (.ptr _ _) rfl rfl ?_
  refine s_val (.ptr _ _) rfl rfl ?_
  refine s_val (.ptr _ _) rfl rfl ?_
  refine s_val (.d _) rfl (v_load rfl G_hit rfl) ?_
  refine s_val (.d _) rfl (v_len rfl) ?_
  refine s_val (.d _) rfl rfl ?_
  refine s_nil ?_
  refine l_cond (decide ((p1.l.length : Int) > 0)) rfl (fun c1 => ?_) (fun c1 => ?_)
  · replace h := cond_t c1 h
    refine l_sub (s0 := ⟨T [(0, (.ptr (900000, 0) 0)), (1, (.d (i64 p2))), (5, (.d (i64 ((w64 ((w64 (p1.at_ + 1)) * 7919)).tmod 10007))))], G [((900000, 0), some (.box 94 [(.d (.list (List.map eInt_i64 p1.l))), (.d (i64 (w64 (p1.at_ + 1))))]))]⟩) (sb_of ⟨.of rfl, .of rfl, .of rfl, trivial⟩ (sbG_some G_hit (.of rfl) trivial)) ?_
    refine l_draw rfl fun u5 hu5 => ?_
    refine s_val (.d _) rfl rfl ?_
    refine s_val (.ptr _ _) rfl rfl ?_
    refine s_val (.ptr _ _) rfl rfl ?_
    refine s_val (.ptr _ _) rfl rfl ?_
    refine s_val (.d _) rfl (v_load rfl G_hit rfl) ?_
    refine s_val (.ptr _ _) rfl rfl ?_
    refine s_val (.ptr _ _) rfl rfl ?_
    refine s_val (.ptr _ _) rfl rfl ?_
    refine s_val (.d _) rfl (v_load rfl G_hit rfl) ?_
    refine s_val (.ptr _ _) rfl rfl ?_
    refine s_val (.ptr _ _) rfl rfl ?_
    refine s_val (.ptr _ _) rfl rfl ?_
    refine s_val (.d _) rfl (v_load rfl G_hit rfl) ?_
    refine s_val (.d _) rfl (v_len rfl) ?_
    obtain ⟨v1, hv1, h⟩ := bind_some h
    refine s_val (.d _) rfl (v_rem rfl rfl hv1) ?_
    obtain ⟨v2, hv2, h⟩ := bind_some h
    refine s_val (.d _) rfl (v_idx rfl rfl hv2 rfl) ?_
    refine s_val (.d _) rfl (v_loadL rfl hv2 rfl) ?_
    obtain ⟨v3, hv3, h⟩ := bind_some h
    refine s_call rfl rfl all2_refl (kit_Mod_ok _ _  _ hv3) (.inl rfl) ?_
    refine s_val (.ptr _ _) rfl rfl ?_
    refine s_val (.ptr _ _) rfl rfl ?_
    refine s_val (.ptr _ _) rfl rfl ?_
    refine s_val (.d _) rfl (v_load rfl G_hit rfl) ?_
    refine s_val (.ptr _ _) rfl rfl ?_
    refine s_val (.ptr _ _) rfl rfl ?_
    refine s_val (.ptr _ _) rfl rfl ?_
    refine s_val (.d _) rfl (v_load rfl G_hit rfl) ?_
    refine s_val (.d _) rfl (v_len rfl) ?_
    obtain ⟨v4, hv4, h⟩ := bind_some h
    refine s_val (.d _) rfl (v_quo rfl rfl hv4) ?_
    refine s_val (.d _) rfl rfl ?_
    obtain ⟨v5, hv5, h⟩ := bind_some h
    refine s_val (.d _) rfl (v_quo rfl rfl hv5) ?_
    refine s_val (.d _) rfl rfl ?_
    refine s_val (.d _) rfl rfl ?_
    refine s_nil ?_
    refine l_seq ?_
    refine l_sub (s0 := ⟨T [(0, (.ptr (900000, 0) 0)), (1, (.d (i64 p2))), (5, (.d (i64 (w64 (((w64 ((w64 (p1.at_ + 1)) * 7919)).tmod 10007) + v5)))))], G [((900000, 0), some (.box 94 [(.d (.list (List.map eInt_i64 p1.l))), (.d (i64 (w64 (p1.at_ + 1))))]))]⟩) (sb_of ⟨.of rfl, .of rfl, .of rfl, trivial⟩ (sbG_some G_hit (.of rfl) trivial)) ?_
    refine l_reg fun u6 hu6 => ?_
    refine s_val (.d _) rfl rfl ?_
    refine s_val (.d _) rfl rfl ?_
    obtain ⟨v6, hv6, h⟩ := bind_some h
    refine s_val (.d _) rfl (v_rem rfl rfl hv6) ?_
    refine s_val (.d _) rfl rfl ?_
    refine s_nil ?_
    refine l_ret ?_
    obtain rfl := Option.some.inj h
    exact fin_mf (.inr rfl) [] (resDF1 (res_t rfl) rf_d) (.refl _) ⟨⟨_, _, _, G_hit, old_notin_nil, rfl, all2_d, rfl⟩, trivial⟩
  · replace h := cond_f c1 h
    refine l_skip ?_
    refine l_seq ?_
    refine l_sub (s0 := ⟨T [(0, (.ptr (900000, 0) 0)), (1, (.d (i64 p2))), (5, (.d (i64 ((w64 ((w64 (p1.at_ + 1)) * 7919)).tmod 10007))))], G [((900000, 0), some (.box 94 [(.d (.list (List.map eInt_i64 p1.l))), (.d (i64 (w64 (p1.at_ + 1))))]))]⟩) (sb_of ⟨.of rfl, .of rfl, .of rfl, trivial⟩ (sbG_some G_hit (.of rfl) trivial)) ?_
    refine l_reg fun u7 hu7 => ?_
    refine s_val (.d _) rfl rfl ?_
    refine s_val (.d _) rfl rfl ?_
    obtain ⟨v7, hv7, h⟩ := bind_some h
    refine s_val (.d _) rfl (v_rem rfl rfl hv7) ?_
    refine s_val (.d _) rfl rfl ?_
    refine s_nil ?_
    refine l_ret ?_
    obtain rfl := Option.some.inj h
    exact fin_mf (.inr rfl) [] (resDF1 (res_t rfl) rf_d) (.refl _) ⟨⟨_, _, _, G_hit, old_notin_nil, rfl, all2_d, rfl⟩, trivial⟩
end Go.Abs.Convoy
