/-
  The functions, part 5.
-/
import Derived.Test.YtdkgjoilcfoclaaFns4
set_option maxRecDepth 20000
set_option linter.unusedVariables false
namespace Go.Abs.Convoy
open Go Go.Abs Go.Proofs
attribute [local irreducible] regW regT AWL

noncomputable def ref09_Same_l1 (p1 : Convoy) (p2 : Convoy) (x1 : Int) : Option (Stp Int (Sum Unit Bool)) :=
  cond (decide (x1 < (p1.Mates.length : Int))) ((geti p1.Mates x1).bind fun v1 => (geti p2.Mates x1).bind fun v2 => cond (!(v1.ID == v2.ID && (v1.S == v2.S && (v1.V == v2.V && (v1.Len == v2.Len && (v1.Ahead == v2.Ahead && (v1.Guess_.R == v2.Guess_.R && (v1.Guess_.V == v2.Guess_.V && (v1.Trust == v2.Trust && (v1.Ward == v2.Ward && (v1.WardGuess.R == v2.WardGuess.R && (v1.WardGuess.V == v2.WardGuess.V && (v1.Until == v2.Until && true))))))))))))) (some (.out (.inr false))) (some (.go (w64 (x1 + 1))))) (some (.out (.inl ())))
noncomputable def ref09_Same (p1 : Convoy) (p2 : Convoy) : Option Bool :=
  cond ((((p1.Tick != p2.Tick) || (p1.Gap != p2.Gap)) || (!(p1.Guest_.ID == p2.Guest_.ID && (p1.Guest_.S == p2.Guest_.S && (p1.Guest_.V == p2.Guest_.V && (p1.Guest_.Len == p2.Guest_.Len && (p1.Guest_.End == p2.Guest_.End && (p1.Guest_.Ahead == p2.Guest_.Ahead && (p1.Guest_.Guess_.R == p2.Guest_.Guess_.R && (p1.Guest_.Guess_.V == p2.Guest_.Guess_.V && (p1.Guest_.From == p2.Guest_.From && (p1.Guest_.Until == p2.Guest_.Until && true)))))))))))) || ((p1.Mates.length : Int) != (p2.Mates.length : Int))) (some false) (thenS (loop (ref09_Same_l1 p1 p2) 0) (fun _ => some true) (fun r => some r))

/-- kerbstone/kerbstoneref09.Same -/
def ac_ref09_Same : AC :=
  (.seq (.reg [⟨(some 2), .box 38 true (.t 0), none⟩, ⟨(some 3), .box 38 true (.t 1), none⟩, ⟨(some 4), .mv (.c (.v (.bool false))), none⟩])
  (.seq (.seq (.reg [⟨(some 6), .fieldA 0 (.t 2), none⟩, ⟨(some 7), .load 1 false (.t 6), none⟩, ⟨(some 8), .fieldA 0 (.t 3), none⟩, ⟨(some 9), .load 1 false (.t 8), none⟩, ⟨(some 10), .bin .neq (.t 7) (.t 9), none⟩, ⟨(some 11), .mv (.t 10), none⟩, ⟨(some 12), .fieldA 1 (.t 2), (some (11, false))⟩, ⟨(some 13), .load 1 false (.t 12), (some (11, false))⟩, ⟨(some 14), .fieldA 1 (.t 3), (some (11, false))⟩, ⟨(some 15), .load 1 false (.t 14), (some (11, false))⟩, ⟨(some 16), .bin .neq (.t 13) (.t 15), (some (11, false))⟩, ⟨(some 17), .pick (.t 11) (.c (.v (.bool true))) (.t 16), none⟩, ⟨(some 18), .mv (.t 17), none⟩, ⟨(some 19), .fieldA 3 (.t 2), (some (18, false))⟩, ⟨(some 20), .load 10 true (.t 19), (some (18, false))⟩, ⟨(some 21), .fieldA 3 (.t 3), (some (18, false))⟩, ⟨(some 22), .load 10 true (.t 21), (some (18, false))⟩, ⟨(some 23), .eqA true [false, false, false, false, false, false, false, false, false, false] (.t 20) (.t 22), (some (18, false))⟩, ⟨(some 24), .pick (.t 18) (.c (.v (.bool true))) (.t 23), none⟩, ⟨(some 25), .mv (.t 24), none⟩, ⟨(some 26), .fieldA 2 (.t 2), (some (25, false))⟩, ⟨(some 27), .load 1 false (.t 26), (some (25, false))⟩, ⟨(some 28), .len (.t 27), (some (25, false))⟩, ⟨(some 29), .fieldA 2 (.t 3), (some (25, false))⟩, ⟨(some 30), .load 1 false (.t 29), (some (25, false))⟩, ⟨(some 31), .len (.t 30), (some (25, false))⟩, ⟨(some 32), .bin .neq (.t 28) (.t 31), (some (25, false))⟩, ⟨(some 33), .pick (.t 25) (.c (.v (.bool true))) (.t 32), none⟩])
  (.cond (.t 33)
    (.seq (.reg [⟨(some 4), .mv (.c (.v (.bool false))), none⟩])
    .ret)
    .skip))
  (.seq (.seq (.reg [⟨(some 5), .mv (.c (.v (.int .i64 0))), none⟩])
  (.block 0
    (.loop
      (.seq (.seq (.reg [⟨(some 34), .mv (.t 5), none⟩, ⟨(some 35), .fieldA 2 (.t 2), none⟩, ⟨(some 36), .load 1 false (.t 35), none⟩, ⟨(some 37), .len (.t 36), none⟩, ⟨(some 38), .bin .lss (.t 34) (.t 37), none⟩])
      (.cond (.t 38)
        .skip
        (.exit 0)))
      (.seq (.block 1
        (.seq (.draw [⟨(some 41), .fieldA 2 (.t 2), none⟩, ⟨(some 42), .load 1 false (.t 41), none⟩, ⟨(some 43), .mv (.t 5), none⟩, ⟨(some 44), .idxS 12 (.t 42) (.t 43), none⟩, ⟨(some 45), .load 12 true (.t 44), none⟩, ⟨(some 46), .fieldA 2 (.t 3), none⟩, ⟨(some 47), .load 1 false (.t 46), none⟩, ⟨(some 48), .mv (.t 5), none⟩, ⟨(some 49), .idxS 12 (.t 47) (.t 48), none⟩, ⟨(some 50), .load 12 true (.t 49), none⟩, ⟨(some 51), .eqA true [false, false, false, false, false, false, false, true, false, false, false, false] (.t 45) (.t 50), none⟩] [])
        (.cond (.t 51)
          (.seq (.reg [⟨(some 4), .mv (.c (.v (.bool false))), none⟩])
          .ret)
          .skip)))
      (.reg [⟨(some 39), .mv (.t 5), none⟩, ⟨(some 40), .bin .add (.t 39) (.c (.v (.int .i64 1))), none⟩, ⟨(some 5), .mv (.t 40), none⟩]))))))
  (.seq (.reg [⟨(some 4), .mv (.c (.v (.bool true))), none⟩])
  .ret))))
theorem fn_ref09_Same : FnOK Try.prog 42 52 [.t 4] ac_ref09_Same := ⟨_, _, Try.func42, rfl, Try.ntmps42, by kernel_rfl, ⟨fun _ => [], by kernel_rfl⟩, by kernel_rfl⟩
set_option maxHeartbeats 4000000 in
theorem ref09_Same_ok (p1 : Convoy) (p2 : Convoy) (r : Bool) (h : ref09_Same p1 p2 = some r) : PCall Try.prog 42 [(.agg [(i64 p1.Tick), (i64 p1.Gap), (.list (List.map eMate p1.Mates)), (i64 p1.Guest_.ID), (i64 p1.Guest_.S), (i64 p1.Guest_.V), (i64 p1.Guest_.Len), (i64 p1.Guest_.End), (i64 p1.Guest_.Ahead), (i64 p1.Guest_.Guess_.R), (i64 p1.Guest_.Guess_.V), (i64 p1.Guest_.From), (i64 p1.Guest_.Until)]), (.agg [(i64 p2.Tick), (i64 p2.Gap), (.list (List.map eMate p2.Mates)), (i64 p2.Guest_.ID), (i64 p2.Guest_.S), (i64 p2.Guest_.V), (i64 p2.Guest_.Len), (i64 p2.Guest_.End), (i64 p2.Guest_.Ahead), (i64 p2.Guest_.Guess_.R), (i64 p2.Guest_.Guess_.V), (i64 p2.Guest_.From), (i64 p2.Guest_.Until)])] (bo r) := by
  refine l_call fn_ref09_Same (Nat.le_of_ble_eq_true rfl) ?_
  unfold ref09_Same at h
  unfold ac_ref09_Same
  refine (l_sub (s0 := ⟨T [(0, (.d (.agg [(i64 p1.Tick), (i64 p1.Gap), (.list (List.map eMate p1.Mates)), (i64 p1.Guest_.ID), (i64 p1.Guest_.S), (i64 p1.Guest_.V), (i64 p1.Guest_.Len), (i64 p1.Guest_.End), (i64 p1.Guest_.Ahead), (i64 p1.Guest_.Guess_.R), (i64 p1.Guest_.Guess_.V), (i64 p1.Guest_.From), (i64 p1.Guest_.Until)]))), (1, (.d (.agg [(i64 p2.Tick), (i64 p2.Gap), (.list (List.map eMate p2.Mates)), (i64 p2.Guest_.ID), (i64 p2.Guest_.S), (i64 p2.Guest_.V), (i64 p2.Guest_.Len), (i64 p2.Guest_.End), (i64 p2.Guest_.Ahead), (i64 p2.Guest_.Guess_.R), (i64 p2.Guest_.Guess_.V), (i64 p2.Guest_.From), (i64 p2.Guest_.Until)])))], G []⟩) (sb_of ⟨.of rfl, .of rfl, trivial⟩ trivial) ?_)
  refine l_seq ?_
  refine l_reg fun u1 hu1 => ?_
  refine s_new (.ptr _ _) (.box _ _) rfl rfl ?_
  refine s_new (.ptr _ _) (.box _ _) rfl rfl ?_
  refine s_val (.d _) rfl rfl ?_
  refine s_nil ?_
  refine l_seq ?_
  refine l_seq ?_
  refine l_reg fun u2 hu2 => ?_
  refine s_val (.ptr _ _) rfl rfl ?_
  refine s_val (.d _) rfl (v_load rfl (G_skip rfl G_hit) rfl) ?_
  refine s_val (.ptr _ _) rfl rfl ?_
  refine s_val (.d _) rfl (v_load rfl G_hit rfl) ?_
  refine s_val (.d _) rfl rfl ?_
  refine s_val (.d _) rfl rfl ?_
  refine g_val (!(p1.Tick != p2.Tick)) (.ptr _ _) rfl (gw_f rfl) (fun w1 => rfl) ?_
  refine g_val (!(p1.Tick != p2.Tick)) (.d _) rfl (gw_f rfl) (fun w2 => (v_load (gd_pos w2) (G_skip rfl G_hit) rfl)) ?_
  refine g_val (!(p1.Tick != p2.Tick)) (.ptr _ _) rfl (gw_f rfl) (fun w3 => rfl) ?_
  refine g_val (!(p1.Tick != p2.Tick)) (.d _) rfl (gw_f rfl) (fun w4 => (v_load (gd_pos w4) G_hit rfl)) ?_
  refine g_val (!(p1.Tick != p2.Tick)) (.d _) rfl (gw_f rfl) (fun w5 => (v_bin (gd_pos w5) (gd_pos w5) rfl)) ?_
  refine s_val (.d _) rfl (v_or rfl rfl (fun hc => gd_pos (not_t hc))) ?_
  refine s_val (.d _) rfl rfl ?_
  refine g_val (!((p1.Tick != p2.Tick) || (p1.Gap != p2.Gap))) (.ptr _ _) rfl (gw_f rfl) (fun w6 => rfl) ?_
  refine g_val (!((p1.Tick != p2.Tick) || (p1.Gap != p2.Gap))) (.d _) rfl (gw_f rfl) (fun w7 => (v_loadG (gd_pos w7) (G_skip rfl G_hit) rfl rfl)) ?_
  refine g_val (!((p1.Tick != p2.Tick) || (p1.Gap != p2.Gap))) (.ptr _ _) rfl (gw_f rfl) (fun w8 => rfl) ?_
  refine g_val (!((p1.Tick != p2.Tick) || (p1.Gap != p2.Gap))) (.d _) rfl (gw_f rfl) (fun w9 => (v_loadG (gd_pos w9) G_hit rfl rfl)) ?_
  refine g_val (!((p1.Tick != p2.Tick) || (p1.Gap != p2.Gap))) (.d _) rfl (gw_f rfl) (fun w10 => (by simp only [gd_pos w10]; rfl)) ?_
  refine s_val (.d _) rfl (v_or rfl rfl (fun hc => gd_pos (not_t hc))) ?_
  refine s_val (.d _) rfl rfl ?_
  refine g_val (!(((p1.Tick != p2.Tick) || (p1.Gap != p2.Gap)) || (!(p1.Guest_.ID == p2.Guest_.ID && (p1.Guest_.S == p2.Guest_.S && (p1.Guest_.V == p2.Guest_.V && (p1.Guest_.Len == p2.Guest_.Len && (p1.Guest_.End == p2.Guest_.End && (p1.Guest_.Ahead == p2.Guest_.Ahead && (p1.Guest_.Guess_.R == p2.Guest_.Guess_.R && (p1.Guest_.Guess_.V == p2.Guest_.Guess_.V && (p1.Guest_.From == p2.Guest_.From && (p1.Guest_.Until == p2.Guest_.Until && true))))))))))))) (.ptr _ _) rfl (gw_f rfl) (fun w11 => rfl) ?_
  refine g_val (!(((p1.Tick != p2.Tick) || (p1.Gap != p2.Gap)) || (!(p1.Guest_.ID == p2.Guest_.ID && (p1.Guest_.S == p2.Guest_.S && (p1.Guest_.V == p2.Guest_.V && (p1.Guest_.Len == p2.Guest_.Len && (p1.Guest_.End == p2.Guest_.End && (p1.Guest_.Ahead == p2.Guest_.Ahead && (p1.Guest_.Guess_.R == p2.Guest_.Guess_.R && (p1.Guest_.Guess_.V == p2.Guest_.Guess_.V && (p1.Guest_.From == p2.Guest_.From && (p1.Guest_.Until == p2.Guest_.Until && true))))))))))))) (.d _) rfl (gw_f rfl) (fun w12 => (v_load (gd_pos w12) (G_skip rfl G_hit) rfl)) ?_
  refine g_val (!(((p1.Tick != p2.Tick) || (p1.Gap != p2.Gap)) || (!(p1.Guest_.ID == p2.Guest_.ID && (p1.Guest_.S == p2.Guest_.S && (p1.Guest_.V == p2.Guest_.V && (p1.Guest_.Len == p2.Guest_.Len && (p1.Guest_.End == p2.Guest_.End && (p1.Guest_.Ahead == p2.Guest_.Ahead && (p1.Guest_.Guess_.R == p2.Guest_.Guess_.R && (p1.Guest_.Guess_.V == p2.Guest_.Guess_.V && (p1.Guest_.From == p2.Guest_.From && (p1.Guest_.Until == p2.Guest_.Until && true))))))))))))) (.d _) rfl (gw_f rfl) (fun w13 => (v_len (gd_pos w13))) ?_
  refine g_val (!(((p1.Tick != p2.Tick) || (p1.Gap != p2.Gap)) || (!(p1.Guest_.ID == p2.Guest_.ID && (p1.Guest_.S == p2.Guest_.S && (p1.Guest_.V == p2.Guest_.V && (p1.Guest_.Len == p2.Guest_.Len && (p1.Guest_.End == p2.Guest_.End && (p1.Guest_.Ahead == p2.Guest_.Ahead && (p1.Guest_.Guess_.R == p2.Guest_.Guess_.R && (p1.Guest_.Guess_.V == p2.Guest_.Guess_.V && (p1.Guest_.From == p2.Guest_.From && (p1.Guest_.Until == p2.Guest_.Until && true))))))))))))) (.ptr _ _) rfl (gw_f rfl) (fun w14 => rfl) ?_
  refine g_val (!(((p1.Tick != p2.Tick) || (p1.Gap != p2.Gap)) || (!(p1.Guest_.ID == p2.Guest_.ID && (p1.Guest_.S == p2.Guest_.S && (p1.Guest_.V == p2.Guest_.V && (p1.Guest_.Len == p2.Guest_.Len && (p1.Guest_.End == p2.Guest_.End && (p1.Guest_.Ahead == p2.Guest_.Ahead && (p1.Guest_.Guess_.R == p2.Guest_.Guess_.R && (p1.Guest_.Guess_.V == p2.Guest_.Guess_.V && (p1.Guest_.From == p2.Guest_.From && (p1.Guest_.Until == p2.Guest_.Until && true))))))))))))) (.d _) rfl (gw_f rfl) (fun w15 => (v_load (gd_pos w15) G_hit rfl)) ?_
  refine g_val (!(((p1.Tick != p2.Tick) || (p1.Gap != p2.Gap)) || (!(p1.Guest_.ID == p2.Guest_.ID && (p1.Guest_.S == p2.Guest_.S && (p1.Guest_.V == p2.Guest_.V && (p1.Guest_.Len == p2.Guest_.Len && (p1.Guest_.End == p2.Guest_.End && (p1.Guest_.Ahead == p2.Guest_.Ahead && (p1.Guest_.Guess_.R == p2.Guest_.Guess_.R && (p1.Guest_.Guess_.V == p2.Guest_.Guess_.V && (p1.Guest_.From == p2.Guest_.From && (p1.Guest_.Until == p2.Guest_.Until && true))))))))))))) (.d _) rfl (gw_f rfl) (fun w16 => (v_len (gd_pos w16))) ?_
  refine g_val (!(((p1.Tick != p2.Tick) || (p1.Gap != p2.Gap)) || (!(p1.Guest_.ID == p2.Guest_.ID && (p1.Guest_.S == p2.Guest_.S && (p1.Guest_.V == p2.Guest_.V && (p1.Guest_.Len == p2.Guest_.Len && (p1.Guest_.End == p2.Guest_.End && (p1.Guest_.Ahead == p2.Guest_.Ahead && (p1.Guest_.Guess_.R == p2.Guest_.Guess_.R && (p1.Guest_.Guess_.V == p2.Guest_.Guess_.V && (p1.Guest_.From == p2.Guest_.From && (p1.Guest_.Until == p2.Guest_.Until && true))))))))))))) (.d _) rfl (gw_f rfl) (fun w17 => (v_bin (gd_pos w17) (gd_pos w17) rfl)) ?_
  refine s_val (.d _) rfl (v_or rfl rfl (fun hc => gd_pos (not_t hc))) ?_
  refine s_nil ?_
  refine l_cond ((((p1.Tick != p2.Tick) || (p1.Gap != p2.Gap)) || (!(p1.Guest_.ID == p2.Guest_.ID && (p1.Guest_.S == p2.Guest_.S && (p1.Guest_.V == p2.Guest_.V && (p1.Guest_.Len == p2.Guest_.Len && (p1.Guest_.End == p2.Guest_.End && (p1.Guest_.Ahead == p2.Guest_.Ahead && (p1.Guest_.Guess_.R == p2.Guest_.Guess_.R && (p1.Guest_.Guess_.V == p2.Guest_.Guess_.V && (p1.Guest_.From == p2.Guest_.From && (p1.Guest_.Until == p2.Guest_.Until && true)))))))))))) || ((p1.Mates.length : Int) != (p2.Mates.length : Int))) rfl (fun c1 => ?_) (fun c1 => ?_)
  · replace h := cond_t c1 h
    refine l_seq ?_
    refine l_sub (s0 := ⟨T [], G []⟩) (sb_of trivial trivial) ?_
    refine l_reg fun u3 hu3 => ?_
    refine s_val (.d _) rfl rfl ?_
    refine s_nil ?_
    refine l_ret ?_
    obtain rfl := Option.some.inj h
    refine fin_ok (.inr rfl) (resD1 (res_t rfl) rf_d) ?_
    exact (.refl _)
  · replace h := cond_f c1 h
    refine l_skip ?_
    refine l_seq ?_
    refine l_seq ?_
    refine l_sub (s0 := ⟨T [(2, (.ptr (2, u1) 0)), (3, (.ptr (3, u1) 0))], G [((2, u1), some (.box 38 [(.d (i64 p1.Tick)), (.d (i64 p1.Gap)), (.d (.list (List.map eMate p1.Mates))), (.d (i64 p1.Guest_.ID)), (.d (i64 p1.Guest_.S)), (.d (i64 p1.Guest_.V)), (.d (i64 p1.Guest_.Len)), (.d (i64 p1.Guest_.End)), (.d (i64 p1.Guest_.Ahead)), (.d (i64 p1.Guest_.Guess_.R)), (.d (i64 p1.Guest_.Guess_.V)), (.d (i64 p1.Guest_.From)), (.d (i64 p1.Guest_.Until))])), ((3, u1), some (.box 38 [(.d (i64 p2.Tick)), (.d (i64 p2.Gap)), (.d (.list (List.map eMate p2.Mates))), (.d (i64 p2.Guest_.ID)), (.d (i64 p2.Guest_.S)), (.d (i64 p2.Guest_.V)), (.d (i64 p2.Guest_.Len)), (.d (i64 p2.Guest_.End)), (.d (i64 p2.Guest_.Ahead)), (.d (i64 p2.Guest_.Guess_.R)), (.d (i64 p2.Guest_.Guess_.V)), (.d (i64 p2.Guest_.From)), (.d (i64 p2.Guest_.Until))]))]⟩) (sb_of ⟨.of rfl, .of rfl, trivial⟩ (sbG_some (G_skip rfl G_hit) (.of rfl) (sbG_some G_hit (.of rfl) trivial))) ?_
    refine l_reg fun u4 hu4 => ?_
    refine s_val (.d _) rfl rfl ?_
    refine s_nil ?_
    obtain ⟨z1, hz1, h⟩ := thenS_some h
    refine l_join (fun s => ∃ (y1 : Unit) (g1 : Unit), z1 = .inl y1 ∧ Sb ⟨T [], G []⟩ s) ?_ ?_
    · skip
      refine l_block ?_
      refine l_loop (ref09_Same_l1 p1 p2) (fun (x1 : Int) (g2 : Unit) => ⟨T [(2, (.ptr (2, u1) 0)), (3, (.ptr (3, u1) 0)), (5, (.d (i64 x1)))], G [((2, u1), some (.box 38 [(.d (i64 p1.Tick)), (.d (i64 p1.Gap)), (.d (.list (List.map eMate p1.Mates))), (.d (i64 p1.Guest_.ID)), (.d (i64 p1.Guest_.S)), (.d (i64 p1.Guest_.V)), (.d (i64 p1.Guest_.Len)), (.d (i64 p1.Guest_.End)), (.d (i64 p1.Guest_.Ahead)), (.d (i64 p1.Guest_.Guess_.R)), (.d (i64 p1.Guest_.Guess_.V)), (.d (i64 p1.Guest_.From)), (.d (i64 p1.Guest_.Until))])), ((3, u1), some (.box 38 [(.d (i64 p2.Tick)), (.d (i64 p2.Gap)), (.d (.list (List.map eMate p2.Mates))), (.d (i64 p2.Guest_.ID)), (.d (i64 p2.Guest_.S)), (.d (i64 p2.Guest_.V)), (.d (i64 p2.Guest_.Len)), (.d (i64 p2.Guest_.End)), (.d (i64 p2.Guest_.Ahead)), (.d (i64 p2.Guest_.Guess_.R)), (.d (i64 p2.Guest_.Guess_.V)), (.d (i64 p2.Guest_.From)), (.d (i64 p2.Guest_.Until))]))]⟩) 0 () _ hz1 (sb_of ⟨.of rfl, .of rfl, .of rfl, trivial⟩ (sbG_some G_hit (.of rfl) (sbG_some (G_skip rfl G_hit) (.of rfl) trivial))) ?_
      intro x1 g2 z2 hz2 ez2
      unfold ref09_Same_l1 at hz2
      refine l_seq ?_
      refine l_seq ?_
      refine l_reg fun u5 hu5 => ?_
      refine s_val (.d _) rfl rfl ?_
      refine s_val (.ptr _ _) rfl rfl ?_
      refine s_val (.d _) rfl (v_load rfl G_hit rfl) ?_
      refine s_val (.d _) rfl (v_len rfl) ?_
      refine s_val (.d _) rfl rfl ?_
      refine s_nil ?_
      refine l_cond (decide (x1 < (p1.Mates.length : Int))) rfl (fun c2 => ?_) (fun c2 => ?_)
      · replace hz2 := cond_t c2 hz2
        refine l_skip ?_
        refine l_seq ?_
        refine l_block ?_
        refine l_seq ?_
        refine l_draw rfl fun u6 hu6 => ?_
        refine s_val (.ptr _ _) rfl rfl ?_
        refine s_val (.d _) rfl (v_load rfl G_hit rfl) ?_
        refine s_val (.d _) rfl rfl ?_
        obtain ⟨v1, hv1, hz2⟩ := bind_some hz2
        refine s_val (.d _) rfl (v_idx rfl rfl hv1 rfl) ?_
        refine s_val (.d _) rfl (v_loadLG rfl hv1 rfl rfl) ?_
        refine s_val (.ptr _ _) rfl rfl ?_
        refine s_val (.d _) rfl (v_load rfl (G_skip rfl G_hit) rfl) ?_
        refine s_val (.d _) rfl rfl ?_
        obtain ⟨v2, hv2, hz2⟩ := bind_some hz2
        refine s_val (.d _) rfl (v_idx rfl rfl hv2 rfl) ?_
        refine s_val (.d _) rfl (v_loadLG rfl hv2 rfl rfl) ?_
        refine s_val (.d _) rfl rfl ?_
        refine s_nil ?_
        refine l_cond (!(v1.ID == v2.ID && (v1.S == v2.S && (v1.V == v2.V && (v1.Len == v2.Len && (v1.Ahead == v2.Ahead && (v1.Guess_.R == v2.Guess_.R && (v1.Guess_.V == v2.Guess_.V && (v1.Trust == v2.Trust && (v1.Ward == v2.Ward && (v1.WardGuess.R == v2.WardGuess.R && (v1.WardGuess.V == v2.WardGuess.V && (v1.Until == v2.Until && true))))))))))))) rfl (fun c3 => ?_) (fun c3 => ?_)
        · replace hz2 := cond_t c3 hz2
          refine l_seq ?_
          refine l_reg fun u7 hu7 => ?_
          refine s_val (.d _) rfl rfl ?_
          refine s_nil ?_
          refine l_ret ?_
          obtain rfl := Option.some.inj hz2
          obtain rfl := ez2 _ rfl
          refine ⟨nofun, awl_ret ?_⟩
          rw [Sum.elim_inr] at h
          obtain rfl := Option.some.inj h
          refine fin_ok (.inr rfl) (resD1 (res_t rfl) rf_d) ?_
          exact (.refl _)
        · replace hz2 := cond_f c3 hz2
          refine l_skip ?_
          refine l_end ?_
          refine l_reg fun u8 hu8 => ?_
          refine s_val (.d _) rfl rfl ?_
          refine s_val (.d _) rfl rfl ?_
          refine s_val (.d _) rfl rfl ?_
          refine s_nil ?_
          refine l_nil ?_
          obtain rfl := Option.some.inj hz2
          exact ⟨rfl, (), (sb_of ⟨.of rfl, .of rfl, .of rfl, trivial⟩ (sbG_some G_hit (.of rfl) (sbG_some (G_skip rfl G_hit) (.of rfl) trivial)))⟩
      · replace hz2 := cond_f c2 hz2
        refine l_exitN rfl ?_
        obtain rfl := Option.some.inj hz2
        obtain rfl := ez2 _ rfl
        refine ⟨nofun, awl_pop rfl (l_j ?_)⟩
        exact ⟨_, (), rfl, (sb_of trivial trivial)⟩
    · rintro _ ⟨y1, g1, rfl, q1⟩
      rw [Sum.elim_inl] at h
      refine l_sub q1 ?_
      refine l_seq ?_
      refine l_reg fun u9 hu9 => ?_
      refine s_val (.d _) rfl rfl ?_
      refine s_nil ?_
      refine l_ret ?_
      obtain rfl := Option.some.inj h
      refine fin_ok (.inr rfl) (resD1 (res_t rfl) rf_d) ?_
      exact (.refl _)

noncomputable def law09_ConvoyChecks_l1 (p1 : Convoy) (v3 : (Convoy × KitRing)) (x1 : Int) : Option (Stp Int (Sum Unit Bool)) :=
  cond (decide (x1 < 2)) ((geti [p1, v3.1] x1).bind fun v4 => (ref09_Copy v4).bind fun v5 => (convoy_Check v5).bind fun v6 => (geti [p1, v3.1] x1).bind fun v7 => (ref09_Check v7).bind fun v8 => ((cond (!(v6 != v8)) (convoy_Sound v5) (some default))).bind fun v9 => ((cond (!(v6 != v8)) (geti [p1, v3.1] x1) (some default))).bind fun v10 => ((cond (!(v6 != v8)) (ref09_Sound v10) (some default))).bind fun v11 => ((cond (!((v6 != v8) || (!(v9 == v11)))) (convoy_Gaps v5) (some default))).bind fun v12 => ((cond (!((v6 != v8) || (!(v9 == v11)))) (geti [p1, v3.1] x1) (some default))).bind fun v13 => ((cond (!((v6 != v8) || (!(v9 == v11)))) (ref09_Gaps v13) (some default))).bind fun v14 => ((cond (!((v6 != v8) || (!(v9 == v11)))) (kit_SameLongs v12 v14) (some default))).bind fun v15 => ((cond (!(((v6 != v8) || (!(v9 == v11))) || (!v15))) (convoy_Notes v5) (some default))).bind fun v16 => ((cond (!(((v6 != v8) || (!(v9 == v11))) || (!v15))) (geti [p1, v3.1] x1) (some default))).bind fun v17 => ((cond (!(((v6 != v8) || (!(v9 == v11))) || (!v15))) (ref09_Notes v17) (some default))).bind fun v18 => ((cond (!(((v6 != v8) || (!(v9 == v11))) || (!v15))) (kit_SameNotes v16 v18) (some default))).bind fun v19 => ((cond (!((((v6 != v8) || (!(v9 == v11))) || (!v15)) || (!v19))) (geti [p1, v3.1] x1) (some default))).bind fun v20 => ((cond (!((((v6 != v8) || (!(v9 == v11))) || (!v15)) || (!v19))) (ref09_Same v5 v20) (some default))).bind fun v21 => cond (((((v6 != v8) || (!(v9 == v11))) || (!v15)) || (!v19)) || (!v21)) (some (.out (.inr false))) (some (.go (w64 (x1 + 1))))) (some (.out (.inl ())))
noncomputable def law09_ConvoyChecks (p1 : Convoy) (p2 : (List Int)) : Option Bool :=
  cond (decide ((p1.Mates.length : Int) > 12)) ((law09_awake).bind fun v1 => some v1) ((kit_NewRing_m p2).bind fun v2 => (kit_Convoy_o v2 (((p2.length : Int).tmod 2) == 1)).bind fun v3 => thenS (loop (law09_ConvoyChecks_l1 p1 v3) 0) (fun _ => (law09_awake).bind fun v22 => some v22) (fun r => some r))

/-- kerbstone/kerbstonelaw09.ConvoyChecks -/
def ac_law09_ConvoyChecks : AC :=
  (.seq (.reg [⟨(some 2), .box 38 true (.t 0), none⟩, ⟨(some 4), .mv (.c (.v (.bool false))), none⟩])
  (.seq (.seq (.reg [⟨(some 8), .fieldA 2 (.t 2), none⟩, ⟨(some 9), .load 1 false (.t 8), none⟩, ⟨(some 10), .len (.t 9), none⟩, ⟨(some 11), .bin .gtr (.t 10) (.c (.v (.int .i64 12))), none⟩])
  (.cond (.t 11)
    (.seq (.reg [⟨(some 12), .call (.c (.fn (.func 23) [] [])) [], none⟩, ⟨(some 4), .mv (.t 12), none⟩])
    .ret)
    .skip))
  (.seq (.draw [⟨(some 13), .load 13 true (.t 2), none⟩, ⟨(some 14), .mv (.t 1), none⟩, ⟨(some 15), .ocall 10030020 (.c (.fn (.func 30) [] [])) [(.t 14)], none⟩, ⟨(some 16), .mv (.t 1), none⟩, ⟨(some 17), .len (.t 16), none⟩, ⟨(some 18), .bin .rem (.t 17) (.c (.v (.int .i64 2))), none⟩, ⟨(some 19), .bin .eql (.t 18) (.c (.v (.int .i64 1))), none⟩, ⟨(some 20), .ocall 10030070 (.c (.fn (.func 29) [] [])) [(.t 15), (.t 19)], none⟩, ⟨(some 21), .dslice 38 13 2 [(.v (.int .i64 0)), (.v (.int .i64 0)), .nilS, (.v (.int .i64 0)), (.v (.int .i64 0)), (.v (.int .i64 0)), (.v (.int .i64 0)), (.v (.int .i64 0)), (.v (.int .i64 0)), (.v (.int .i64 0)), (.v (.int .i64 0)), (.v (.int .i64 0)), (.v (.int .i64 0))] [(0, 13, (.t 13)), (13, 13, (.t 20))], none⟩, ⟨(some 5), .mv (.t 21), none⟩] [(0, 2), (2, 4), (0, 7)])
  (.seq (.seq (.reg [⟨(some 6), .mv (.c (.v (.int .i64 0))), none⟩])
  (.block 0
    (.loop
      (.seq (.seq (.reg [⟨(some 22), .mv (.t 6), none⟩, ⟨(some 23), .bin .lss (.t 22) (.c (.v (.int .i64 2))), none⟩])
      (.cond (.t 23)
        .skip
        (.exit 0)))
      (.seq (.block 1
        (.seq (.reg [⟨(some 26), .mv (.t 5), none⟩, ⟨(some 27), .mv (.t 6), none⟩, ⟨(some 28), .idxS 13 (.t 26) (.t 27), none⟩, ⟨(some 29), .load 13 true (.t 28), none⟩, ⟨(some 30), .call (.c (.fn (.func 31) [] [])) [(.t 29)], none⟩, ⟨(some 7), .alloc 38 [(.v (.int .i64 0)), (.v (.int .i64 0)), .nilS, (.v (.int .i64 0)), (.v (.int .i64 0)), (.v (.int .i64 0)), (.v (.int .i64 0)), (.v (.int .i64 0)), (.v (.int .i64 0)), (.v (.int .i64 0)), (.v (.int .i64 0)), (.v (.int .i64 0)), (.v (.int .i64 0))], none⟩, ⟨none, .store 13 (.t 7) (.t 30), none⟩])
        (.seq (.draw [⟨(some 31), .load 13 true (.t 7), none⟩, ⟨(some 32), .call (.c (.fn (.func 32) [] [])) [(.t 31)], none⟩, ⟨(some 33), .mv (.t 5), none⟩, ⟨(some 34), .mv (.t 6), none⟩, ⟨(some 35), .idxS 13 (.t 33) (.t 34), none⟩, ⟨(some 36), .load 13 true (.t 35), none⟩, ⟨(some 37), .call (.c (.fn (.func 33) [] [])) [(.t 36)], none⟩, ⟨(some 38), .bin .neq (.t 32) (.t 37), none⟩, ⟨(some 39), .mv (.t 38), none⟩, ⟨(some 40), .load 13 true (.t 7), (some (39, false))⟩, ⟨(some 41), .call (.c (.fn (.func 34) [] [])) [(.t 40)], (some (39, false))⟩, ⟨(some 42), .mv (.t 5), (some (39, false))⟩, ⟨(some 43), .mv (.t 6), (some (39, false))⟩, ⟨(some 44), .idxS 13 (.t 42) (.t 43), (some (39, false))⟩, ⟨(some 45), .load 13 true (.t 44), (some (39, false))⟩, ⟨(some 46), .call (.c (.fn (.func 35) [] [])) [(.t 45)], (some (39, false))⟩, ⟨(some 47), .eqB true (.t 41) (.t 46), (some (39, false))⟩, ⟨(some 48), .pick (.t 39) (.c (.v (.bool true))) (.t 47), none⟩, ⟨(some 49), .mv (.t 48), none⟩, ⟨(some 50), .load 13 true (.t 7), (some (49, false))⟩, ⟨(some 51), .call (.c (.fn (.func 37) [] [])) [(.t 50)], (some (49, false))⟩, ⟨(some 52), .mv (.t 5), (some (49, false))⟩, ⟨(some 53), .mv (.t 6), (some (49, false))⟩, ⟨(some 54), .idxS 13 (.t 52) (.t 53), (some (49, false))⟩, ⟨(some 55), .load 13 true (.t 54), (some (49, false))⟩, ⟨(some 56), .call (.c (.fn (.func 38) [] [])) [(.t 55)], (some (49, false))⟩, ⟨(some 57), .call (.c (.fn (.func 36) [] [])) [(.t 51), (.t 56)], (some (49, false))⟩, ⟨(some 58), .un .not (.t 57), (some (49, false))⟩, ⟨(some 59), .pick (.t 49) (.c (.v (.bool true))) (.t 58), none⟩, ⟨(some 60), .mv (.t 59), none⟩, ⟨(some 61), .load 13 true (.t 7), (some (60, false))⟩, ⟨(some 62), .call (.c (.fn (.func 40) [] [])) [(.t 61)], (some (60, false))⟩, ⟨(some 63), .mv (.t 5), (some (60, false))⟩, ⟨(some 64), .mv (.t 6), (some (60, false))⟩, ⟨(some 65), .idxS 13 (.t 63) (.t 64), (some (60, false))⟩, ⟨(some 66), .load 13 true (.t 65), (some (60, false))⟩, ⟨(some 67), .call (.c (.fn (.func 41) [] [])) [(.t 66)], (some (60, false))⟩, ⟨(some 68), .call (.c (.fn (.func 39) [] [])) [(.t 62), (.t 67)], (some (60, false))⟩, ⟨(some 69), .un .not (.t 68), (some (60, false))⟩, ⟨(some 70), .pick (.t 60) (.c (.v (.bool true))) (.t 69), none⟩, ⟨(some 71), .mv (.t 70), none⟩, ⟨(some 72), .load 13 true (.t 7), (some (71, false))⟩, ⟨(some 73), .mv (.t 5), (some (71, false))⟩, ⟨(some 74), .mv (.t 6), (some (71, false))⟩, ⟨(some 75), .idxS 13 (.t 73) (.t 74), (some (71, false))⟩, ⟨(some 76), .load 13 true (.t 75), (some (71, false))⟩, ⟨(some 77), .call (.c (.fn (.func 42) [] [])) [(.t 72), (.t 76)], (some (71, false))⟩, ⟨(some 78), .un .not (.t 77), (some (71, false))⟩, ⟨(some 79), .pick (.t 71) (.c (.v (.bool true))) (.t 78), none⟩] [])
        (.cond (.t 79)
          (.seq (.reg [⟨(some 4), .mv (.c (.v (.bool false))), none⟩])
          .ret)
          .skip))))
      (.reg [⟨(some 24), .mv (.t 6), none⟩, ⟨(some 25), .bin .add (.t 24) (.c (.v (.int .i64 1))), none⟩, ⟨(some 6), .mv (.t 25), none⟩]))))))
  (.seq (.reg [⟨(some 80), .call (.c (.fn (.func 23) [] [])) [], none⟩, ⟨(some 4), .mv (.t 80), none⟩])
  .ret)))))
theorem fn_law09_ConvoyChecks : FnOK Try.prog 6 81 [.t 4] ac_law09_ConvoyChecks := ⟨_, _, Try.func6, rfl, Try.ntmps6, by kernel_rfl, ⟨fun r => if r == 3 then [1003002, 1003007, 1008] else [], by kernel_rfl⟩, by kernel_rfl⟩
set_option maxHeartbeats 4000000 in
theorem law09_ConvoyChecks_ok (p1 : Convoy) (p2 : (List Int)) (r : Bool) (h : law09_ConvoyChecks p1 p2 = some r) : PCall Try.prog 6 [(.agg [(i64 p1.Tick), (i64 p1.Gap), (.list (List.map eMate p1.Mates)), (i64 p1.Guest_.ID), (i64 p1.Guest_.S), (i64 p1.Guest_.V), (i64 p1.Guest_.Len), (i64 p1.Guest_.End), (i64 p1.Guest_.Ahead), (i64 p1.Guest_.Guess_.R), (i64 p1.Guest_.Guess_.V), (i64 p1.Guest_.From), (i64 p1.Guest_.Until)]), (.list (List.map eInt_i64 p2))] (bo r) := by
  refine l_call fn_law09_ConvoyChecks (Nat.le_of_ble_eq_true rfl) ?_
  unfold law09_ConvoyChecks at h
  unfold ac_law09_ConvoyChecks
  refine (l_sub (s0 := ⟨T [(0, (.d (.agg [(i64 p1.Tick), (i64 p1.Gap), (.list (List.map eMate p1.Mates)), (i64 p1.Guest_.ID), (i64 p1.Guest_.S), (i64 p1.Guest_.V), (i64 p1.Guest_.Len), (i64 p1.Guest_.End), (i64 p1.Guest_.Ahead), (i64 p1.Guest_.Guess_.R), (i64 p1.Guest_.Guess_.V), (i64 p1.Guest_.From), (i64 p1.Guest_.Until)]))), (1, (.d (.list (List.map eInt_i64 p2))))], G []⟩) (sb_of ⟨.of rfl, .of rfl, trivial⟩ trivial) ?_)
  refine l_seq ?_
  refine l_reg fun u1 hu1 => ?_
  refine s_new (.ptr _ _) (.box _ _) rfl rfl ?_
  refine s_val (.d _) rfl rfl ?_
  refine s_nil ?_
  refine l_seq ?_
  refine l_seq ?_
  refine l_reg fun u2 hu2 => ?_
  refine s_val (.ptr _ _) rfl rfl ?_
  refine s_val (.d _) rfl (v_load rfl G_hit rfl) ?_
  refine s_val (.d _) rfl (v_len rfl) ?_
  refine s_val (.d _) rfl rfl ?_
  refine s_nil ?_
  refine l_cond (decide ((p1.Mates.length : Int) > 12)) rfl (fun c1 => ?_) (fun c1 => ?_)
  · replace h := cond_t c1 h
    refine l_seq ?_
    refine l_reg fun u3 hu3 => ?_
    obtain ⟨v1, hv1, h⟩ := bind_some h
    refine s_call rfl rfl all2_refl (law09_awake_ok  _ hv1) (.inl rfl) ?_
    refine s_val (.d _) rfl rfl ?_
    refine s_nil ?_
    refine l_ret ?_
    obtain rfl := Option.some.inj h
    refine fin_ok (.inr rfl) (resD1 (res_t rfl) rf_d) ?_
    exact (.refl _)
  · replace h := cond_f c1 h
    refine l_skip ?_
    refine l_seq ?_
    refine l_drawT fun u4 hu4 => ?_
    refine t_val (.d _) rfl (v_loadG rfl G_hit rfl rfl) ?_
    refine t_val (.d _) rfl rfl ?_
    obtain ⟨v2, hv2, h⟩ := bind_some h
    refine t_oc (v := .ptr (10030020, u4) 0) (us := [(10030020, u4)]) (oc_m (kit_NewRing_m_ok _ _ hv2) [] [] _ (((10030020, u4), some (.box 94 [(.d (.list (List.map eInt_i64 v2.l))), (.d (i64 v2.at_))])) :: _) rfl all2_av rfl live_nil trivial (fun _ h => h) List.nodup_nil rfl rfl rfl) ?_
    refine t_val (.d _) rfl rfl ?_
    refine t_val (.d _) rfl (v_len rfl) ?_
    refine t_val (.d _) rfl rfl ?_
    refine t_val (.d _) rfl rfl ?_
    obtain ⟨v3, hv3, h⟩ := bind_some h
    refine t_oc (v := .d (.agg [(i64 v3.1.Tick), (i64 v3.1.Gap), (.list (List.map eMate v3.1.Mates)), (i64 v3.1.Guest_.ID), (i64 v3.1.Guest_.S), (i64 v3.1.Guest_.V), (i64 v3.1.Guest_.Len), (i64 v3.1.Guest_.End), (i64 v3.1.Guest_.Ahead), (i64 v3.1.Guest_.Guess_.R), (i64 v3.1.Guest_.Guess_.V), (i64 v3.1.Guest_.From), (i64 v3.1.Guest_.Until)])) (us := [(10030020, u4)]) (oc_m (kit_Convoy_o_ok _ _ _ hv3) [(10030020, u4)] [(10030020, u4)] _ (((10030020, u4), some (.box 94 [(.d (.list (List.map eInt_i64 v3.2.l))), (.d (i64 v3.2.at_))])) :: _) rfl all2_av (kl_cons (kr_ptr G_hit rfl) (kl_cons kr_d kl_nil)) (live_cons G_hit live_nil) ⟨⟨_, G_hit, .of rfl⟩, trivial⟩ (fun _ h => h) nd1 rfl rfl rfl) ?_
    refine t_val (.d (.list (List.map eConvoy [p1, v3.1]))) rfl (v_dsliceN eConvoy ([p1, v3.1] : List Convoy) (fun _ => rfl) rfl rfl ⟨rfl, rfl, rfl, rfl, rfl, rfl, trivial⟩) ?_
    refine t_val (.d (.list (List.map eConvoy [p1, v3.1]))) rfl rfl ?_
    refine t_nil ⟨rfl, ?_⟩
    refine l_seq ?_
    refine l_seq ?_
    refine l_reg fun u5 hu5 => ?_
    refine s_val (.d _) rfl rfl ?_
    refine s_nil ?_
    obtain ⟨z1, hz1, h⟩ := thenS_some h
    refine l_join (fun s => ∃ (y1 : Unit) (g1 : Unit), z1 = .inl y1 ∧ Sb ⟨T [], G []⟩ s) ?_ ?_
    · skip
      refine l_block ?_
      refine l_loop (law09_ConvoyChecks_l1 p1 v3) (fun (x1 : Int) (g2 : Unit) => ⟨T [(5, (.d (.list (List.map eConvoy [p1, v3.1])))), (6, (.d (i64 x1)))], G []⟩) 0 () _ hz1 (sb_of ⟨.of rfl, .of rfl, trivial⟩ trivial) ?_
      intro x1 g2 z2 hz2 ez2
      unfold law09_ConvoyChecks_l1 at hz2
      refine l_seq ?_
      refine l_seq ?_
      refine l_reg fun u6 hu6 => ?_
      refine s_val (.d _) rfl rfl ?_
      refine s_val (.d _) rfl rfl ?_
      refine s_nil ?_
      refine l_cond (decide (x1 < 2)) rfl (fun c2 => ?_) (fun c2 => ?_)
      · replace hz2 := cond_t c2 hz2
        refine l_skip ?_
        refine l_seq ?_
        refine l_block ?_
        refine l_seq ?_
        refine l_reg fun u7 hu7 => ?_
        refine s_val (.d (.list (List.map eConvoy [p1, v3.1]))) rfl rfl ?_
        refine s_val (.d _) rfl rfl ?_
        obtain ⟨v4, hv4, hz2⟩ := bind_some hz2
        refine s_val (.d _) rfl (v_idx rfl rfl hv4 rfl) ?_
        refine s_val (.d _) rfl (v_loadLG rfl hv4 rfl rfl) ?_
        obtain ⟨v5, hv5, hz2⟩ := bind_some hz2
        refine s_call rfl rfl all2_refl (ref09_Copy_ok _  _ hv5) (.inl rfl) ?_
        refine s_new (.ptr _ _) (.box _ _) rfl rfl ?_
        refine s_store _ _ _ _ _ rfl rfl rfl G_hit (Nat.le_of_ble_eq_true rfl) [(.d (i64 v5.Tick)), (.d (i64 v5.Gap)), (.d (.list (List.map eMate v5.Mates))), (.d (i64 v5.Guest_.ID)), (.d (i64 v5.Guest_.S)), (.d (i64 v5.Guest_.V)), (.d (i64 v5.Guest_.Len)), (.d (i64 v5.Guest_.End)), (.d (i64 v5.Guest_.Ahead)), (.d (i64 v5.Guest_.Guess_.R)), (.d (i64 v5.Guest_.Guess_.V)), (.d (i64 v5.Guest_.From)), (.d (i64 v5.Guest_.Until))] rfl ?_
        refine s_nil ?_
        refine l_seq ?_
        refine l_draw rfl fun u8 hu8 => ?_
        refine s_val (.d _) rfl (v_loadG rfl G_hit rfl rfl) ?_
        obtain ⟨v6, hv6, hz2⟩ := bind_some hz2
        refine s_call rfl rfl all2_refl (convoy_Check_ok _  _ hv6) (.inl rfl) ?_
        refine s_val (.d (.list (List.map eConvoy [p1, v3.1]))) rfl rfl ?_
        refine s_val (.d _) rfl rfl ?_
        obtain ⟨v7, hv7, hz2⟩ := bind_some hz2
        refine s_val (.d _) rfl (v_idx rfl rfl hv7 rfl) ?_
        refine s_val (.d _) rfl (v_loadLG rfl hv7 rfl rfl) ?_
        obtain ⟨v8, hv8, hz2⟩ := bind_some hz2
        refine s_call rfl rfl all2_refl (ref09_Check_ok _  _ hv8) (.inl rfl) ?_
        refine s_val (.d _) rfl rfl ?_
        refine s_val (.d _) rfl rfl ?_
        refine g_val (!(v6 != v8)) (.d _) rfl (gw_f rfl) (fun w1 => (v_loadG rfl G_hit rfl rfl)) ?_
        obtain ⟨v9, hv9, hz2⟩ := bind_some hz2
        refine g_call (!(v6 != v8)) (bo v9) (gw_f rfl) (fun w2 => ⟨_, [(.d (.agg [(i64 v5.Tick), (i64 v5.Gap), (.list (List.map eMate v5.Mates)), (i64 v5.Guest_.ID), (i64 v5.Guest_.S), (i64 v5.Guest_.V), (i64 v5.Guest_.Len), (i64 v5.Guest_.End), (i64 v5.Guest_.Ahead), (i64 v5.Guest_.Guess_.R), (i64 v5.Guest_.Guess_.V), (i64 v5.Guest_.From), (i64 v5.Guest_.Until)]))], _, _, (by simp only [gd_pos w2]; rfl), rfl, all2_refl, convoy_Sound_ok _  _ (cond_t w2 hv9), (.inl rfl)⟩) ?_
        refine g_val (!(v6 != v8)) (.d (.list (List.map eConvoy [p1, v3.1]))) rfl (gw_f rfl) (fun w3 => rfl) ?_
        refine g_val (!(v6 != v8)) (.d _) rfl (gw_f rfl) (fun w4 => rfl) ?_
        obtain ⟨v10, hv10, hz2⟩ := bind_some hz2
        refine g_val (!(v6 != v8)) (.d _) rfl (gw_f rfl) (fun w5 => (v_idx (gd_pos w5) (gd_pos w5) (cond_t w5 hv10) rfl)) ?_
        refine g_val (!(v6 != v8)) (.d _) rfl (gw_f rfl) (fun w6 => (v_loadLG (gd_pos w6) (cond_t w6 hv10) rfl rfl)) ?_
        obtain ⟨v11, hv11, hz2⟩ := bind_some hz2
        refine g_call (!(v6 != v8)) (bo v11) (gw_f rfl) (fun w7 => ⟨_, [(.d (.agg [(i64 v10.Tick), (i64 v10.Gap), (.list (List.map eMate v10.Mates)), (i64 v10.Guest_.ID), (i64 v10.Guest_.S), (i64 v10.Guest_.V), (i64 v10.Guest_.Len), (i64 v10.Guest_.End), (i64 v10.Guest_.Ahead), (i64 v10.Guest_.Guess_.R), (i64 v10.Guest_.Guess_.V), (i64 v10.Guest_.From), (i64 v10.Guest_.Until)]))], _, _, (by simp only [gd_pos w7]; rfl), rfl, all2_refl, ref09_Sound_ok _  _ (cond_t w7 hv11), (.inl rfl)⟩) ?_
        refine g_val (!(v6 != v8)) (.d _) rfl (gw_f rfl) (fun w8 => (by simp only [gd_pos w8]; rfl)) ?_
        refine s_val (.d _) rfl (v_or rfl rfl (fun hc => gd_pos (not_t hc))) ?_
        refine s_val (.d _) rfl rfl ?_
        refine g_val (!((v6 != v8) || (!(v9 == v11)))) (.d _) rfl (gw_f rfl) (fun w9 => (v_loadG rfl G_hit rfl rfl)) ?_
        obtain ⟨v12, hv12, hz2⟩ := bind_some hz2
        refine g_call (!((v6 != v8) || (!(v9 == v11)))) (.list (List.map eInt_i64 v12)) (gw_f rfl) (fun w10 => ⟨_, [(.d (.agg [(i64 v5.Tick), (i64 v5.Gap), (.list (List.map eMate v5.Mates)), (i64 v5.Guest_.ID), (i64 v5.Guest_.S), (i64 v5.Guest_.V), (i64 v5.Guest_.Len), (i64 v5.Guest_.End), (i64 v5.Guest_.Ahead), (i64 v5.Guest_.Guess_.R), (i64 v5.Guest_.Guess_.V), (i64 v5.Guest_.From), (i64 v5.Guest_.Until)]))], _, _, (by simp only [gd_pos w10]; rfl), rfl, all2_refl, convoy_Gaps_ok _  _ (cond_t w10 hv12), (.inl rfl)⟩) ?_
        refine g_val (!((v6 != v8) || (!(v9 == v11)))) (.d (.list (List.map eConvoy [p1, v3.1]))) rfl (gw_f rfl) (fun w11 => rfl) ?_
        refine g_val (!((v6 != v8) || (!(v9 == v11)))) (.d _) rfl (gw_f rfl) (fun w12 => rfl) ?_
        obtain ⟨v13, hv13, hz2⟩ := bind_some hz2
        refine g_val (!((v6 != v8) || (!(v9 == v11)))) (.d _) rfl (gw_f rfl) (fun w13 => (v_idx (gd_pos w13) (gd_pos w13) (cond_t w13 hv13) rfl)) ?_
        refine g_val (!((v6 != v8) || (!(v9 == v11)))) (.d _) rfl (gw_f rfl) (fun w14 => (v_loadLG (gd_pos w14) (cond_t w14 hv13) rfl rfl)) ?_
        obtain ⟨v14, hv14, hz2⟩ := bind_some hz2
        refine g_call (!((v6 != v8) || (!(v9 == v11)))) (.list (List.map eInt_i64 v14)) (gw_f rfl) (fun w15 => ⟨_, [(.d (.agg [(i64 v13.Tick), (i64 v13.Gap), (.list (List.map eMate v13.Mates)), (i64 v13.Guest_.ID), (i64 v13.Guest_.S), (i64 v13.Guest_.V), (i64 v13.Guest_.Len), (i64 v13.Guest_.End), (i64 v13.Guest_.Ahead), (i64 v13.Guest_.Guess_.R), (i64 v13.Guest_.Guess_.V), (i64 v13.Guest_.From), (i64 v13.Guest_.Until)]))], _, _, (by simp only [gd_pos w15]; rfl), rfl, all2_refl, ref09_Gaps_ok _  _ (cond_t w15 hv14), (.inl rfl)⟩) ?_
        obtain ⟨v15, hv15, hz2⟩ := bind_some hz2
        refine g_call (!((v6 != v8) || (!(v9 == v11)))) (bo v15) (gw_f rfl) (fun w16 => ⟨_, [(.d (.list (List.map eInt_i64 v12))), (.d (.list (List.map eInt_i64 v14)))], _, _, (by simp only [gd_pos w16]; rfl), rfl, all2_refl, kit_SameLongs_ok _ _  _ (cond_t w16 hv15), (.inl rfl)⟩) ?_
        refine g_val (!((v6 != v8) || (!(v9 == v11)))) (.d _) rfl (gw_f rfl) (fun w17 => (by simp only [gd_pos w17]; rfl)) ?_
        refine s_val (.d _) rfl (v_or rfl rfl (fun hc => gd_pos (not_t hc))) ?_
        refine s_val (.d _) rfl rfl ?_
        refine g_val (!(((v6 != v8) || (!(v9 == v11))) || (!v15))) (.d _) rfl (gw_f rfl) (fun w18 => (v_loadG rfl G_hit rfl rfl)) ?_
        obtain ⟨v16, hv16, hz2⟩ := bind_some hz2
        refine g_call (!(((v6 != v8) || (!(v9 == v11))) || (!v15))) (.list (List.map eNote v16)) (gw_f rfl) (fun w19 => ⟨_, [(.d (.agg [(i64 v5.Tick), (i64 v5.Gap), (.list (List.map eMate v5.Mates)), (i64 v5.Guest_.ID), (i64 v5.Guest_.S), (i64 v5.Guest_.V), (i64 v5.Guest_.Len), (i64 v5.Guest_.End), (i64 v5.Guest_.Ahead), (i64 v5.Guest_.Guess_.R), (i64 v5.Guest_.Guess_.V), (i64 v5.Guest_.From), (i64 v5.Guest_.Until)]))], _, _, (by simp only [gd_pos w19]; rfl), rfl, all2_refl, convoy_Notes_ok _  _ (cond_t w19 hv16), (.inl rfl)⟩) ?_
        refine g_val (!(((v6 != v8) || (!(v9 == v11))) || (!v15))) (.d (.list (List.map eConvoy [p1, v3.1]))) rfl (gw_f rfl) (fun w20 => rfl) ?_
        refine g_val (!(((v6 != v8) || (!(v9 == v11))) || (!v15))) (.d _) rfl (gw_f rfl) (fun w21 => rfl) ?_
        obtain ⟨v17, hv17, hz2⟩ := bind_some hz2
        refine g_val (!(((v6 != v8) || (!(v9 == v11))) || (!v15))) (.d _) rfl (gw_f rfl) (fun w22 => (v_idx (gd_pos w22) (gd_pos w22) (cond_t w22 hv17) rfl)) ?_
        refine g_val (!(((v6 != v8) || (!(v9 == v11))) || (!v15))) (.d _) rfl (gw_f rfl) (fun w23 => (v_loadLG (gd_pos w23) (cond_t w23 hv17) rfl rfl)) ?_
        obtain ⟨v18, hv18, hz2⟩ := bind_some hz2
        refine g_call (!(((v6 != v8) || (!(v9 == v11))) || (!v15))) (.list (List.map eNote v18)) (gw_f rfl) (fun w24 => ⟨_, [(.d (.agg [(i64 v17.Tick), (i64 v17.Gap), (.list (List.map eMate v17.Mates)), (i64 v17.Guest_.ID), (i64 v17.Guest_.S), (i64 v17.Guest_.V), (i64 v17.Guest_.Len), (i64 v17.Guest_.End), (i64 v17.Guest_.Ahead), (i64 v17.Guest_.Guess_.R), (i64 v17.Guest_.Guess_.V), (i64 v17.Guest_.From), (i64 v17.Guest_.Until)]))], _, _, (by simp only [gd_pos w24]; rfl), rfl, all2_refl, ref09_Notes_ok _  _ (cond_t w24 hv18), (.inl rfl)⟩) ?_
        obtain ⟨v19, hv19, hz2⟩ := bind_some hz2
        refine g_call (!(((v6 != v8) || (!(v9 == v11))) || (!v15))) (bo v19) (gw_f rfl) (fun w25 => ⟨_, [(.d (.list (List.map eNote v16))), (.d (.list (List.map eNote v18)))], _, _, (by simp only [gd_pos w25]; rfl), rfl, all2_refl, kit_SameNotes_ok _ _  _ (cond_t w25 hv19), (.inl rfl)⟩) ?_
        refine g_val (!(((v6 != v8) || (!(v9 == v11))) || (!v15))) (.d _) rfl (gw_f rfl) (fun w26 => (by simp only [gd_pos w26]; rfl)) ?_
        refine s_val (.d _) rfl (v_or rfl rfl (fun hc => gd_pos (not_t hc))) ?_
        refine s_val (.d _) rfl rfl ?_
        refine g_val (!((((v6 != v8) || (!(v9 == v11))) || (!v15)) || (!v19))) (.d _) rfl (gw_f rfl) (fun w27 => (v_loadG rfl G_hit rfl rfl)) ?_
        refine g_val (!((((v6 != v8) || (!(v9 == v11))) || (!v15)) || (!v19))) (.d (.list (List.map eConvoy [p1, v3.1]))) rfl (gw_f rfl) (fun w28 => rfl) ?_
        refine g_val (!((((v6 != v8) || (!(v9 == v11))) || (!v15)) || (!v19))) (.d _) rfl (gw_f rfl) (fun w29 => rfl) ?_
        obtain ⟨v20, hv20, hz2⟩ := bind_some hz2
        refine g_val (!((((v6 != v8) || (!(v9 == v11))) || (!v15)) || (!v19))) (.d _) rfl (gw_f rfl) (fun w30 => (v_idx (gd_pos w30) (gd_pos w30) (cond_t w30 hv20) rfl)) ?_
        refine g_val (!((((v6 != v8) || (!(v9 == v11))) || (!v15)) || (!v19))) (.d _) rfl (gw_f rfl) (fun w31 => (v_loadLG (gd_pos w31) (cond_t w31 hv20) rfl rfl)) ?_
        obtain ⟨v21, hv21, hz2⟩ := bind_some hz2
        refine g_call (!((((v6 != v8) || (!(v9 == v11))) || (!v15)) || (!v19))) (bo v21) (gw_f rfl) (fun w32 => ⟨_, [(.d (.agg [(i64 v5.Tick), (i64 v5.Gap), (.list (List.map eMate v5.Mates)), (i64 v5.Guest_.ID), (i64 v5.Guest_.S), (i64 v5.Guest_.V), (i64 v5.Guest_.Len), (i64 v5.Guest_.End), (i64 v5.Guest_.Ahead), (i64 v5.Guest_.Guess_.R), (i64 v5.Guest_.Guess_.V), (i64 v5.Guest_.From), (i64 v5.Guest_.Until)])), (.d (.agg [(i64 v20.Tick), (i64 v20.Gap), (.list (List.map eMate v20.Mates)), (i64 v20.Guest_.ID), (i64 v20.Guest_.S), (i64 v20.Guest_.V), (i64 v20.Guest_.Len), (i64 v20.Guest_.End), (i64 v20.Guest_.Ahead), (i64 v20.Guest_.Guess_.R), (i64 v20.Guest_.Guess_.V), (i64 v20.Guest_.From), (i64 v20.Guest_.Until)]))], _, _, (by simp only [gd_pos w32]; rfl), rfl, all2_refl, ref09_Same_ok _ _  _ (cond_t w32 hv21), (.inl rfl)⟩) ?_
        refine g_val (!((((v6 != v8) || (!(v9 == v11))) || (!v15)) || (!v19))) (.d _) rfl (gw_f rfl) (fun w33 => (by simp only [gd_pos w33]; rfl)) ?_
        refine s_val (.d _) rfl (v_or rfl rfl (fun hc => gd_pos (not_t hc))) ?_
        refine s_nil ?_
        refine l_cond (((((v6 != v8) || (!(v9 == v11))) || (!v15)) || (!v19)) || (!v21)) rfl (fun c3 => ?_) (fun c3 => ?_)
        · replace hz2 := cond_t c3 hz2
          refine l_seq ?_
          refine l_sub (s0 := ⟨T [], G []⟩) (sb_of trivial trivial) ?_
          refine l_reg fun u9 hu9 => ?_
          refine s_val (.d _) rfl rfl ?_
          refine s_nil ?_
          refine l_ret ?_
          obtain rfl := Option.some.inj hz2
          obtain rfl := ez2 _ rfl
          refine ⟨nofun, awl_ret ?_⟩
          rw [Sum.elim_inr] at h
          obtain rfl := Option.some.inj h
          refine fin_ok (.inr rfl) (resD1 (res_t rfl) rf_d) ?_
          exact (.refl _)
        · replace hz2 := cond_f c3 hz2
          refine l_skip ?_
          refine l_end ?_
          refine l_sub (s0 := ⟨T [(5, (.d (.list (List.map eConvoy [p1, v3.1])))), (6, (.d (i64 x1))), (40, (gd (!(v6 != v8)) true (.d (.agg [(i64 v5.Tick), (i64 v5.Gap), (.list (List.map eMate v5.Mates)), (i64 v5.Guest_.ID), (i64 v5.Guest_.S), (i64 v5.Guest_.V), (i64 v5.Guest_.Len), (i64 v5.Guest_.End), (i64 v5.Guest_.Ahead), (i64 v5.Guest_.Guess_.R), (i64 v5.Guest_.Guess_.V), (i64 v5.Guest_.From), (i64 v5.Guest_.Until)])))), (41, (gd (!(v6 != v8)) true (.d (bo v9)))), (42, (gd (!(v6 != v8)) true (.d (.list (List.map eConvoy [p1, v3.1]))))), (43, (gd (!(v6 != v8)) true (.d (i64 x1)))), (44, (gd (!(v6 != v8)) true (.d (.lp (List.map eConvoy [p1, v3.1]) (x1).toNat 0)))), (45, (gd (!(v6 != v8)) true (.d (.agg [(i64 v10.Tick), (i64 v10.Gap), (.list (List.map eMate v10.Mates)), (i64 v10.Guest_.ID), (i64 v10.Guest_.S), (i64 v10.Guest_.V), (i64 v10.Guest_.Len), (i64 v10.Guest_.End), (i64 v10.Guest_.Ahead), (i64 v10.Guest_.Guess_.R), (i64 v10.Guest_.Guess_.V), (i64 v10.Guest_.From), (i64 v10.Guest_.Until)])))), (46, (gd (!(v6 != v8)) true (.d (bo v11)))), (47, (gd (!(v6 != v8)) true (.d (bo (!(v9 == v11)))))), (50, (gd (!((v6 != v8) || (!(v9 == v11)))) true (.d (.agg [(i64 v5.Tick), (i64 v5.Gap), (.list (List.map eMate v5.Mates)), (i64 v5.Guest_.ID), (i64 v5.Guest_.S), (i64 v5.Guest_.V), (i64 v5.Guest_.Len), (i64 v5.Guest_.End), (i64 v5.Guest_.Ahead), (i64 v5.Guest_.Guess_.R), (i64 v5.Guest_.Guess_.V), (i64 v5.Guest_.From), (i64 v5.Guest_.Until)])))), (51, (gd (!((v6 != v8) || (!(v9 == v11)))) true (.d (.list (List.map eInt_i64 v12))))), (52, (gd (!((v6 != v8) || (!(v9 == v11)))) true (.d (.list (List.map eConvoy [p1, v3.1]))))), (53, (gd (!((v6 != v8) || (!(v9 == v11)))) true (.d (i64 x1)))), (54, (gd (!((v6 != v8) || (!(v9 == v11)))) true (.d (.lp (List.map eConvoy [p1, v3.1]) (x1).toNat 0)))), (55, (gd (!((v6 != v8) || (!(v9 == v11)))) true (.d (.agg [(i64 v13.Tick), (i64 v13.Gap), (.list (List.map eMate v13.Mates)), (i64 v13.Guest_.ID), (i64 v13.Guest_.S), (i64 v13.Guest_.V), (i64 v13.Guest_.Len), (i64 v13.Guest_.End), (i64 v13.Guest_.Ahead), (i64 v13.Guest_.Guess_.R), (i64 v13.Guest_.Guess_.V), (i64 v13.Guest_.From), (i64 v13.Guest_.Until)])))), (56, (gd (!((v6 != v8) || (!(v9 == v11)))) true (.d (.list (List.map eInt_i64 v14))))), (57, (gd (!((v6 != v8) || (!(v9 == v11)))) true (.d (bo v15)))), (58, (gd (!((v6 != v8) || (!(v9 == v11)))) true (.d (bo (!v15))))), (61, (gd (!(((v6 != v8) || (!(v9 == v11))) || (!v15))) true (.d (.agg [(i64 v5.Tick), (i64 v5.Gap), (.list (List.map eMate v5.Mates)), (i64 v5.Guest_.ID), (i64 v5.Guest_.S), (i64 v5.Guest_.V), (i64 v5.Guest_.Len), (i64 v5.Guest_.End), (i64 v5.Guest_.Ahead), (i64 v5.Guest_.Guess_.R), (i64 v5.Guest_.Guess_.V), (i64 v5.Guest_.From), (i64 v5.Guest_.Until)])))), (62, (gd (!(((v6 != v8) || (!(v9 == v11))) || (!v15))) true (.d (.list (List.map eNote v16))))), (63, (gd (!(((v6 != v8) || (!(v9 == v11))) || (!v15))) true (.d (.list (List.map eConvoy [p1, v3.1]))))), (64, (gd (!(((v6 != v8) || (!(v9 == v11))) || (!v15))) true (.d (i64 x1)))), (65, (gd (!(((v6 != v8) || (!(v9 == v11))) || (!v15))) true (.d (.lp (List.map eConvoy [p1, v3.1]) (x1).toNat 0)))), (66, (gd (!(((v6 != v8) || (!(v9 == v11))) || (!v15))) true (.d (.agg [(i64 v17.Tick), (i64 v17.Gap), (.list (List.map eMate v17.Mates)), (i64 v17.Guest_.ID), (i64 v17.Guest_.S), (i64 v17.Guest_.V), (i64 v17.Guest_.Len), (i64 v17.Guest_.End), (i64 v17.Guest_.Ahead), (i64 v17.Guest_.Guess_.R), (i64 v17.Guest_.Guess_.V), (i64 v17.Guest_.From), (i64 v17.Guest_.Until)])))), (67, (gd (!(((v6 != v8) || (!(v9 == v11))) || (!v15))) true (.d (.list (List.map eNote v18))))), (68, (gd (!(((v6 != v8) || (!(v9 == v11))) || (!v15))) true (.d (bo v19)))), (69, (gd (!(((v6 != v8) || (!(v9 == v11))) || (!v15))) true (.d (bo (!v19))))), (72, (gd (!((((v6 != v8) || (!(v9 == v11))) || (!v15)) || (!v19))) true (.d (.agg [(i64 v5.Tick), (i64 v5.Gap), (.list (List.map eMate v5.Mates)), (i64 v5.Guest_.ID), (i64 v5.Guest_.S), (i64 v5.Guest_.V), (i64 v5.Guest_.Len), (i64 v5.Guest_.End), (i64 v5.Guest_.Ahead), (i64 v5.Guest_.Guess_.R), (i64 v5.Guest_.Guess_.V), (i64 v5.Guest_.From), (i64 v5.Guest_.Until)])))), (73, (gd (!((((v6 != v8) || (!(v9 == v11))) || (!v15)) || (!v19))) true (.d (.list (List.map eConvoy [p1, v3.1]))))), (74, (gd (!((((v6 != v8) || (!(v9 == v11))) || (!v15)) || (!v19))) true (.d (i64 x1)))), (75, (gd (!((((v6 != v8) || (!(v9 == v11))) || (!v15)) || (!v19))) true (.d (.lp (List.map eConvoy [p1, v3.1]) (x1).toNat 0)))), (76, (gd (!((((v6 != v8) || (!(v9 == v11))) || (!v15)) || (!v19))) true (.d (.agg [(i64 v20.Tick), (i64 v20.Gap), (.list (List.map eMate v20.Mates)), (i64 v20.Guest_.ID), (i64 v20.Guest_.S), (i64 v20.Guest_.V), (i64 v20.Guest_.Len), (i64 v20.Guest_.End), (i64 v20.Guest_.Ahead), (i64 v20.Guest_.Guess_.R), (i64 v20.Guest_.Guess_.V), (i64 v20.Guest_.From), (i64 v20.Guest_.Until)])))), (77, (gd (!((((v6 != v8) || (!(v9 == v11))) || (!v15)) || (!v19))) true (.d (bo v21)))), (78, (gd (!((((v6 != v8) || (!(v9 == v11))) || (!v15)) || (!v19))) true (.d (bo (!v21)))))], G []⟩) (sb_of ⟨.of rfl, .of rfl, .of rfl, .of rfl, .of rfl, .of rfl, .of rfl, .of rfl, .of rfl, .of rfl, .of rfl, .of rfl, .of rfl, .of rfl, .of rfl, .of rfl, .of rfl, .of rfl, .of rfl, .of rfl, .of rfl, .of rfl, .of rfl, .of rfl, .of rfl, .of rfl, .of rfl, .of rfl, .of rfl, .of rfl, .of rfl, .of rfl, .of rfl, .of rfl, .of rfl, trivial⟩ trivial) ?_
          refine l_reg fun u10 hu10 => ?_
          refine s_val (.d _) rfl rfl ?_
          refine s_val (.d _) rfl rfl ?_
          refine s_val (.d _) rfl rfl ?_
          refine s_nil ?_
          refine l_nil ?_
          obtain rfl := Option.some.inj hz2
          exact ⟨rfl, (), (sb_of ⟨.of rfl, .of rfl, trivial⟩ trivial)⟩
      · replace hz2 := cond_f c2 hz2
        refine l_exitN rfl ?_
        obtain rfl := Option.some.inj hz2
        obtain rfl := ez2 _ rfl
        refine ⟨nofun, awl_pop rfl (l_j ?_)⟩
        exact ⟨_, (), rfl, (sb_of trivial trivial)⟩
    · rintro _ ⟨y1, g1, rfl, q1⟩
      rw [Sum.elim_inl] at h
      refine l_sub q1 ?_
      refine l_seq ?_
      refine l_reg fun u11 hu11 => ?_
      obtain ⟨v22, hv22, h⟩ := bind_some h
      refine s_call rfl rfl all2_refl (law09_awake_ok  _ hv22) (.inl rfl) ?_
      refine s_val (.d _) rfl rfl ?_
      refine s_nil ?_
      refine l_ret ?_
      obtain rfl := Option.some.inj h
      refine fin_ok (.inr rfl) (resD1 (res_t rfl) rf_d) ?_
      exact (.refl _)
end Go.Abs.Convoy
