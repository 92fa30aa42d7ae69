/-
  The functions, part 2.
-/
import Derived.Test.YtdkgjoilcfoclaaFns1
set_option maxRecDepth 20000
set_option linter.unusedVariables false
namespace Go.Abs.Convoy
open Go Go.Abs Go.Proofs
attribute [local irreducible] regW regT AWL

noncomputable def convoy_Age_l1 (p2 : Int) (x1 : (Int × Guess)) : Option (Stp (Int × Guess) Guess) :=
  cond (decide (x1.1 < (mm2 true 0 (mm2 false p2 30)))) (some (.go ((w64 (x1.1 + 1)), (Guess.mk (w64 (x1.2.R + (mm2 true 0 (w64 (x1.2.V - 90))))) (mm2 true 0 (w64 (x1.2.V - 90))))))) (some (.out x1.2))
noncomputable def convoy_Age (p1 : Guess) (p2 : Int) : Option Guess :=
  (convoy_sane [p1.R, p1.V]).bind fun v1 => cond (!v1) (some (Guess.mk 0 0)) ((loop (convoy_Age_l1 p2) (0, p1)).bind fun y1 => some y1)

/-- kerbstone/convoy.Age -/
def ac_convoy_Age : AC :=
  (.seq (.reg [⟨(some 2), .box 23 true (.t 0), none⟩, ⟨(some 4), .alloc 23 [(.v (.int .i64 0)), (.v (.int .i64 0))], none⟩])
  (.seq (.seq (.reg [⟨(some 5), .fieldA 0 (.t 2), none⟩, ⟨(some 6), .load 1 false (.t 5), none⟩, ⟨(some 7), .fieldA 1 (.t 2), none⟩, ⟨(some 8), .load 1 false (.t 7), none⟩, ⟨(some 9), .dslice 2 1 2 [(.v (.int .i64 0))] [(0, 1, (.t 6)), (1, 1, (.t 8))], none⟩, ⟨(some 10), .call (.c (.fn (.func 59) [] [])) [(.t 9)], none⟩, ⟨(some 11), .un .not (.t 10), none⟩])
  (.cond (.t 11)
    (.seq (.reg [⟨(some 12), .build [(.v (.int .i64 0)), (.v (.int .i64 0))] [], none⟩, ⟨none, .store 2 (.t 4) (.t 12), none⟩])
    .ret)
    .skip))
  (.seq (.seq (.reg [⟨(some 13), .mv (.t 1), none⟩, ⟨(some 14), .mm false (.t 13) [(.c (.v (.int .i64 30)))], none⟩, ⟨(some 15), .mm true (.c (.v (.int .i64 0))) [(.t 14)], none⟩, ⟨(some 16), .mv (.c (.v (.int .i64 0))), none⟩])
  (.block 0
    (.loop
      (.seq (.reg [⟨(some 17), .bin .lss (.t 16) (.t 15), none⟩])
      (.seq (.cond (.t 17)
        .skip
        (.exit 0))
      (.seq (.block 1
        (.seq (.reg [⟨(some 18), .fieldA 1 (.t 2), none⟩, ⟨(some 19), .load 1 false (.t 18), none⟩, ⟨(some 20), .bin .sub (.t 19) (.c (.v (.int .i64 90))), none⟩, ⟨(some 21), .mm true (.c (.v (.int .i64 0))) [(.t 20)], none⟩, ⟨(some 22), .fieldA 1 (.t 2), none⟩, ⟨none, .store 1 (.t 22) (.t 21), none⟩])
        (.reg [⟨(some 23), .fieldA 0 (.t 2), none⟩, ⟨(some 24), .load 1 false (.t 23), none⟩, ⟨(some 25), .fieldA 1 (.t 2), none⟩, ⟨(some 26), .load 1 false (.t 25), none⟩, ⟨(some 27), .bin .add (.t 24) (.t 26), none⟩, ⟨(some 28), .fieldA 0 (.t 2), none⟩, ⟨none, .store 1 (.t 28) (.t 27), none⟩])))
      (.reg [⟨(some 29), .bin .add (.t 16) (.c (.v (.int .i64 1))), none⟩, ⟨(some 16), .mv (.t 29), none⟩])))))))
  (.seq (.reg [⟨(some 30), .load 2 true (.t 2), none⟩, ⟨none, .store 2 (.t 4) (.t 30), none⟩])
  .ret))))
theorem fn_convoy_Age : FnOK Try.prog 15 31 [.cell 4 2 true] ac_convoy_Age := ⟨_, _, Try.func15, rfl, Try.ntmps15, by kernel_rfl, ⟨fun r => if r == 1 then [1004] else [], by kernel_rfl⟩, by kernel_rfl⟩
set_option maxHeartbeats 4000000 in
theorem convoy_Age_ok (p1 : Guess) (p2 : Int) (r : Guess) (h : convoy_Age p1 p2 = some r) : PCall Try.prog 15 [(.agg [(i64 p1.R), (i64 p1.V)]), (i64 p2)] (.agg [(i64 r.R), (i64 r.V)]) := by
  refine l_call fn_convoy_Age (Nat.le_of_ble_eq_true rfl) ?_
  unfold convoy_Age at h
  unfold ac_convoy_Age
  refine (l_sub (s0 := ⟨T [(0, (.d (.agg [(i64 p1.R), (i64 p1.V)]))), (1, (.d (i64 p2)))], G []⟩) (sb_of ⟨.of rfl, .of rfl, trivial⟩ trivial) ?_)
  refine l_seq ?_
  refine l_reg fun u1 hu1 => ?_
  refine s_new (.ptr _ _) (.box _ _) rfl rfl ?_
  refine s_new (.ptr _ _) (.box _ _) rfl rfl ?_
  refine s_nil ?_
  refine l_seq ?_
  refine l_seq ?_
  refine l_reg fun u2 hu2 => ?_
  refine s_val (.ptr _ _) rfl rfl ?_
  refine s_val (.d _) rfl (v_load rfl (G_skip rfl G_hit) rfl) ?_
  refine s_val (.ptr _ _) rfl rfl ?_
  refine s_val (.d _) rfl (v_load rfl (G_skip rfl G_hit) rfl) ?_
  refine s_val (.d (.list (List.map eInt_i64 [p1.R, p1.V]))) rfl rfl ?_
  obtain ⟨v1, hv1, h⟩ := bind_some h
  refine s_call rfl rfl all2_refl (convoy_sane_ok _  _ hv1) (.inl rfl) ?_
  refine s_val (.d _) rfl rfl ?_
  refine s_nil ?_
  refine l_cond (!v1) rfl (fun c1 => ?_) (fun c1 => ?_)
  · replace h := cond_t c1 h
    refine l_seq ?_
    refine l_reg fun u3 hu3 => ?_
    refine s_val (.d _) rfl rfl ?_
    refine s_store _ _ _ _ _ rfl rfl rfl G_hit (Nat.le_of_ble_eq_true rfl) [(.d (i64 0)), (.d (i64 0))] rfl ?_
    refine s_nil ?_
    refine l_ret ?_
    obtain rfl := Option.some.inj h
    refine fin_ok (.inr rfl) (resD1 (res_cellG rfl G_hit (Nat.le_of_ble_eq_true rfl) rfl) rf_d) ?_
    exact (.refl _)
  · replace h := cond_f c1 h
    refine l_skip ?_
    refine l_seq ?_
    refine l_seq ?_
    refine l_reg fun u4 hu4 => ?_
    refine s_val (.d _) rfl rfl ?_
    refine s_val (.d _) rfl rfl ?_
    refine s_val (.d _) rfl rfl ?_
    refine s_val (.d _) rfl rfl ?_
    refine s_nil ?_
    obtain ⟨y1, hy1, h⟩ := bind_some h
    refine l_join (fun s => ∃ g1 : Unit, Sb ⟨T [(2, (.ptr (2, u1) 0)), (4, (.ptr (4, u1) 0))], G [((2, u1), some (.box 23 [(.d (i64 y1.R)), (.d (i64 y1.V))])), ((4, u1), some (.box 23 [(.d (i64 0)), (.d (i64 0))]))]⟩ s) ?_ ?_
    · skip
      refine l_block ?_
      refine l_loop (convoy_Age_l1 p2) (fun (x1 : (Int × Guess)) (g2 : Unit) => ⟨T [(2, (.ptr (2, u1) 0)), (4, (.ptr (4, u1) 0)), (15, (.d (i64 (mm2 true 0 (mm2 false p2 30))))), (16, (.d (i64 x1.1)))], G [((2, u1), some (.box 23 [(.d (i64 x1.2.R)), (.d (i64 x1.2.V))])), ((4, u1), some (.box 23 [(.d (i64 0)), (.d (i64 0))]))]⟩) (0, p1) () _ hy1 (sb_of ⟨.of rfl, .of rfl, .of rfl, .of rfl, trivial⟩ (sbG_some (G_skip rfl G_hit) (.of rfl) (sbG_some G_hit (.of rfl) trivial))) ?_
      intro x1 g2 z1 hz1 ez1
      unfold convoy_Age_l1 at hz1
      refine l_seq ?_
      refine l_reg fun u5 hu5 => ?_
      refine s_val (.d _) rfl rfl ?_
      refine s_nil ?_
      refine l_seq ?_
      refine l_cond (decide (x1.1 < (mm2 true 0 (mm2 false p2 30)))) rfl (fun c2 => ?_) (fun c2 => ?_)
      · replace hz1 := cond_t c2 hz1
        refine l_skip ?_
        refine l_seq ?_
        refine l_block ?_
        refine l_seq ?_
        refine l_reg fun u6 hu6 => ?_
        refine s_val (.ptr _ _) rfl rfl ?_
        refine s_val (.d _) rfl (v_load rfl G_hit rfl) ?_
        refine s_val (.d _) rfl rfl ?_
        refine s_val (.d _) rfl rfl ?_
        refine s_val (.ptr _ _) rfl rfl ?_
        refine s_store _ _ _ _ _ rfl rfl rfl G_hit (Nat.le_of_ble_eq_true rfl) [(.d (i64 x1.2.R)), (.d (i64 (mm2 true 0 (w64 (x1.2.V - 90)))))] rfl ?_
        refine s_nil ?_
        refine l_reg fun u7 hu7 => ?_
        refine s_val (.ptr _ _) rfl rfl ?_
        refine s_val (.d _) rfl (v_load rfl G_hit rfl) ?_
        refine s_val (.ptr _ _) rfl rfl ?_
        refine s_val (.d _) rfl (v_load rfl G_hit rfl) ?_
        refine s_val (.d _) rfl rfl ?_
        refine s_val (.ptr _ _) rfl rfl ?_
        refine s_store _ _ _ _ _ rfl rfl rfl G_hit (Nat.le_of_ble_eq_true rfl) [(.d (i64 (w64 (x1.2.R + (mm2 true 0 (w64 (x1.2.V - 90))))))), (.d (i64 (mm2 true 0 (w64 (x1.2.V - 90)))))] rfl ?_
        refine s_nil ?_
        refine l_end ?_
        refine l_reg fun u8 hu8 => ?_
        refine s_val (.d _) rfl rfl ?_
        refine s_val (.d _) rfl rfl ?_
        refine s_nil ?_
        refine l_nil ?_
        obtain rfl := Option.some.inj hz1
        exact ⟨rfl, (), (sb_of ⟨.of rfl, .of rfl, .of rfl, .of rfl, trivial⟩ (sbG_some G_hit (.of rfl) (sbG_some (G_skip rfl (G_skip rfl (G_skip rfl G_hit))) (.of rfl) trivial)))⟩
      · replace hz1 := cond_f c2 hz1
        refine l_exitN rfl ?_
        obtain rfl := Option.some.inj hz1
        obtain rfl := ez1 _ rfl
        refine ⟨nofun, awl_pop rfl (l_j ?_)⟩
        exact ⟨(), (sb_of ⟨.of rfl, .of rfl, trivial⟩ (sbG_some G_hit (.of rfl) (sbG_some (G_skip rfl G_hit) (.of rfl) trivial)))⟩
    · rintro _ ⟨g1, q1⟩
      refine l_sub q1 ?_
      refine l_seq ?_
      refine l_reg fun u9 hu9 => ?_
      refine s_val (.d _) rfl (v_loadG rfl G_hit rfl rfl) ?_
      refine s_store _ _ _ _ _ rfl rfl rfl (G_skip rfl G_hit) (Nat.le_of_ble_eq_true rfl) [(.d (i64 y1.R)), (.d (i64 y1.V))] rfl ?_
      refine s_nil ?_
      refine l_ret ?_
      obtain rfl := Option.some.inj h
      refine fin_ok (.inr rfl) (resD1 (res_cellG rfl G_hit (Nat.le_of_ble_eq_true rfl) rfl) rf_d) ?_
      exact (.refl _)

noncomputable def convoy_find_1_b (p1 : Mate) (p2 : Int) : Option Bool :=
  some (p1.ID == p2)

/-- kerbstone/convoy.find$1 -/
def ac_convoy_find_1_b : AC :=
  (.seq (.reg [⟨(some 2), .box 65 true (.t 0), none⟩, ⟨(some 3), .mv (.c (.v (.bool false))), none⟩])
  (.seq (.reg [⟨(some 4), .fieldA 0 (.t 2), none⟩, ⟨(some 5), .load 1 false (.t 4), none⟩, ⟨(some 6), .load 1 false (.t 1), none⟩, ⟨(some 7), .bin .eql (.t 5) (.t 6), none⟩, ⟨(some 3), .mv (.t 7), none⟩])
  .ret))
theorem fn_convoy_find_1_b : FnOK Try.prog 99 8 [.t 3] ac_convoy_find_1_b := ⟨_, _, Try.func99, rfl, Try.ntmps99, by kernel_rfl, ⟨fun _ => [], by kernel_rfl⟩, by kernel_rfl⟩
theorem convoy_find_1_b_ok (p1 : Mate) (p2 : Int) (r : Bool) (h : convoy_find_1_b p1 p2 = some r) : PCall Try.prog 99 [(.agg [(i64 p1.ID), (i64 p1.S), (i64 p1.V), (i64 p1.Len), (i64 p1.Ahead), (i64 p1.Guess_.R), (i64 p1.Guess_.V), (bo p1.Trust), (i64 p1.Ward), (i64 p1.WardGuess.R), (i64 p1.WardGuess.V), (i64 p1.Until)]), (.bp [(i64 p2)] 0)] (bo r) := by
  refine l_call fn_convoy_find_1_b (Nat.le_of_ble_eq_true rfl) ?_
  unfold convoy_find_1_b at h
  unfold ac_convoy_find_1_b
  refine (l_sub (s0 := ⟨T [(0, (.d (.agg [(i64 p1.ID), (i64 p1.S), (i64 p1.V), (i64 p1.Len), (i64 p1.Ahead), (i64 p1.Guess_.R), (i64 p1.Guess_.V), (bo p1.Trust), (i64 p1.Ward), (i64 p1.WardGuess.R), (i64 p1.WardGuess.V), (i64 p1.Until)]))), (1, (.d (.bp [(i64 p2)] 0)))], G []⟩) (sb_of ⟨.of rfl, .of rfl, trivial⟩ trivial) ?_)
  refine l_seq ?_
  refine l_reg fun u1 hu1 => ?_
  refine s_new (.ptr _ _) (.box _ _) rfl rfl ?_
  refine s_val (.d _) rfl rfl ?_
  refine s_nil ?_
  refine l_seq ?_
  refine l_reg fun u2 hu2 => ?_
  refine s_val (.ptr _ _) rfl rfl ?_
  refine s_val (.d _) rfl (v_load rfl G_hit rfl) ?_
  refine s_val (.d _) rfl rfl ?_
  refine s_val (.d _) rfl rfl ?_
  refine s_val (.d _) rfl rfl ?_
  refine s_nil ?_
  refine l_ret ?_
  obtain rfl := Option.some.inj h
  refine fin_ok (.inr rfl) (resD1 (res_t rfl) rf_d) ?_
  exact (.refl _)

noncomputable def slices_IndexFunc_Mate_Mate_convoy_find_1b_l1 (p1 : (List Mate)) (p2 : Int) (x1 : Int) : Option (Stp Int (Sum Unit Int)) :=
  cond (decide (x1 < (p1.length : Int))) ((geti p1 x1).bind fun v1 => (convoy_find_1_b v1 p2).bind fun v2 => cond v2 (some (.out (.inr x1))) (some (.go (w64 (x1 + 1))))) (some (.out (.inl ())))
noncomputable def slices_IndexFunc_Mate_Mate_convoy_find_1b (p1 : (List Mate)) (p2 : Int) : Option Int :=
  thenS (loop (slices_IndexFunc_Mate_Mate_convoy_find_1b_l1 p1 p2) 0) (fun _ => some (-1)) (fun r => some r)

/-- slices.IndexFunc[[]kerbstone/api.Mate,kerbstone/api.Mate] -/
def ac_slices_IndexFunc_Mate_Mate_convoy_find_1b : AC :=
  (.seq (.reg [⟨(some 4), .mv (.c (.v (.int .i64 0))), none⟩])
  (.seq (.seq (.reg [⟨(some 6), .mv (.t 0), none⟩, ⟨(some 7), .len (.t 6), none⟩, ⟨(some 8), .mv (.c (.v (.int .i64 0))), none⟩])
  (.block 0
    (.loop
      (.seq (.reg [⟨(some 9), .bin .lss (.t 8) (.t 7), none⟩])
      (.seq (.cond (.t 9)
        .skip
        (.exit 0))
      (.seq (.block 1
        (.seq (.reg [⟨(some 10), .mv (.t 8), none⟩, ⟨(some 5), .mv (.t 10), none⟩])
        (.seq (.reg [⟨(some 11), .mv (.t 1), none⟩, ⟨(some 12), .mv (.t 0), none⟩, ⟨(some 13), .mv (.t 5), none⟩, ⟨(some 14), .idxS 12 (.t 12) (.t 13), none⟩, ⟨(some 15), .load 12 true (.t 14), none⟩, ⟨(some 16), .call (.t 11) [(.t 15)], none⟩])
        (.cond (.t 16)
          (.seq (.reg [⟨(some 17), .mv (.t 5), none⟩, ⟨(some 4), .mv (.t 17), none⟩])
          .ret)
          .skip))))
      (.reg [⟨(some 18), .bin .add (.t 8) (.c (.v (.int .i64 1))), none⟩, ⟨(some 8), .mv (.t 18), none⟩])))))))
  (.seq (.reg [⟨(some 4), .mv (.c (.v (.int .i64 (-1)))), none⟩])
  .ret)))
theorem fn_slices_IndexFunc_Mate_Mate_convoy_find_1b : FnOK Try.prog 98 19 [.t 4] ac_slices_IndexFunc_Mate_Mate_convoy_find_1b := ⟨_, _, Try.func98, rfl, Try.ntmps98, by kernel_rfl, ⟨fun _ => [], by kernel_rfl⟩, by kernel_rfl⟩
set_option maxHeartbeats 4000000 in
theorem slices_IndexFunc_Mate_Mate_convoy_find_1b_ok (p1 : (List Mate)) (p2 : Int) (r : Int) (h : slices_IndexFunc_Mate_Mate_convoy_find_1b p1 p2 = some r) : PCall Try.prog 98 [(.list (List.map eMate p1)), (.fn (.func 99) [] [(.bp [(i64 p2)] 0)])] (i64 r) := by
  refine l_call fn_slices_IndexFunc_Mate_Mate_convoy_find_1b (Nat.le_of_ble_eq_true rfl) ?_
  unfold slices_IndexFunc_Mate_Mate_convoy_find_1b at h
  unfold ac_slices_IndexFunc_Mate_Mate_convoy_find_1b
  refine (l_sub (s0 := ⟨T [(0, (.d (.list (List.map eMate p1)))), (1, (.d (.fn (.func 99) [] [(.bp [(i64 p2)] 0)])))], G []⟩) (sb_of ⟨.of rfl, .of rfl, trivial⟩ trivial) ?_)
  refine l_seq ?_
  refine l_reg fun u1 hu1 => ?_
  refine s_val (.d _) rfl rfl ?_
  refine s_nil ?_
  refine l_seq ?_
  refine l_seq ?_
  refine l_reg fun u2 hu2 => ?_
  refine s_val (.d _) rfl rfl ?_
  refine s_val (.d _) rfl (v_len rfl) ?_
  refine s_val (.d _) rfl rfl ?_
  refine s_nil ?_
  obtain ⟨z1, hz1, h⟩ := thenS_some h
  refine l_join (fun s => ∃ (y1 : Unit) (g1 : Unit), z1 = .inl y1 ∧ Sb ⟨T [], G []⟩ s) ?_ ?_
  · skip
    refine l_block ?_
    refine l_loop (slices_IndexFunc_Mate_Mate_convoy_find_1b_l1 p1 p2) (fun (x1 : Int) (g2 : Unit) => ⟨T [(0, (.d (.list (List.map eMate p1)))), (1, (.d (.fn (.func 99) [] [(.bp [(i64 p2)] 0)]))), (7, (.d (i64 (p1.length : Int)))), (8, (.d (i64 x1)))], G []⟩) 0 () _ hz1 (sb_of ⟨.of rfl, .of rfl, .of rfl, .of rfl, trivial⟩ trivial) ?_
    intro x1 g2 z2 hz2 ez2
    unfold slices_IndexFunc_Mate_Mate_convoy_find_1b_l1 at hz2
    refine l_seq ?_
    refine l_reg fun u3 hu3 => ?_
    refine s_val (.d _) rfl rfl ?_
    refine s_nil ?_
    refine l_seq ?_
    refine l_cond (decide (x1 < (p1.length : Int))) rfl (fun c1 => ?_) (fun c1 => ?_)
    · replace hz2 := cond_t c1 hz2
      refine l_skip ?_
      refine l_seq ?_
      refine l_block ?_
      refine l_seq ?_
      refine l_reg fun u4 hu4 => ?_
      refine s_val (.d _) rfl rfl ?_
      refine s_val (.d _) rfl rfl ?_
      refine s_nil ?_
      refine l_seq ?_
      refine l_reg fun u5 hu5 => ?_
      refine s_val (.d _) rfl rfl ?_
      refine s_val (.d _) rfl rfl ?_
      refine s_val (.d _) rfl rfl ?_
      obtain ⟨v1, hv1, hz2⟩ := bind_some hz2
      refine s_val (.d _) rfl (v_idx rfl rfl hv1 rfl) ?_
      refine s_val (.d _) rfl (v_loadLG rfl hv1 rfl rfl) ?_
      obtain ⟨v2, hv2, hz2⟩ := bind_some hz2
      refine s_call rfl rfl all2_refl (convoy_find_1_b_ok _ _  _ hv2) (.inl rfl) ?_
      refine s_nil ?_
      refine l_cond v2 rfl (fun c2 => ?_) (fun c2 => ?_)
      · replace hz2 := cond_t c2 hz2
        refine l_seq ?_
        refine l_reg fun u6 hu6 => ?_
        refine s_val (.d _) rfl rfl ?_
        refine s_val (.d _) rfl rfl ?_
        refine s_nil ?_
        refine l_ret ?_
        obtain rfl := Option.some.inj hz2
        obtain rfl := ez2 _ rfl
        refine ⟨nofun, awl_ret ?_⟩
        rw [Sum.elim_inr] at h
        obtain rfl := Option.some.inj h
        refine fin_ok (.inr rfl) (resD1 (res_t rfl) rf_d) ?_
        exact (.refl _)
      · replace hz2 := cond_f c2 hz2
        refine l_skip ?_
        refine l_end ?_
        refine l_reg fun u7 hu7 => ?_
        refine s_val (.d _) rfl rfl ?_
        refine s_val (.d _) rfl rfl ?_
        refine s_nil ?_
        refine l_nil ?_
        obtain rfl := Option.some.inj hz2
        exact ⟨rfl, (), (sb_of ⟨.of rfl, .of rfl, .of rfl, .of rfl, trivial⟩ trivial)⟩
    · replace hz2 := cond_f c1 hz2
      refine l_exitN rfl ?_
      obtain rfl := Option.some.inj hz2
      obtain rfl := ez2 _ rfl
      refine ⟨nofun, awl_pop rfl (l_j ?_)⟩
      exact ⟨_, (), rfl, (sb_of trivial trivial)⟩
  · rintro _ ⟨y1, g1, rfl, q1⟩
    rw [Sum.elim_inl] at h
    refine l_sub q1 ?_
    refine l_seq ?_
    refine l_reg fun u8 hu8 => ?_
    refine s_val (.d _) rfl rfl ?_
    refine s_nil ?_
    refine l_ret ?_
    obtain rfl := Option.some.inj h
    refine fin_ok (.inr rfl) (resD1 (res_t rfl) rf_d) ?_
    exact (.refl _)

noncomputable def convoy_find (p1 : (List Mate)) (p2 : Int) : Option Int :=
  (slices_IndexFunc_Mate_Mate_convoy_find_1b p1 p2).bind fun v1 => some v1

/-- kerbstone/convoy.find -/
def ac_convoy_find : AC :=
  (.seq (.reg [⟨(some 3), .box 3 false (.t 1), none⟩, ⟨(some 4), .mv (.c (.v (.int .i64 0))), none⟩])
  (.seq (.reg [⟨(some 5), .mv (.t 0), none⟩, ⟨(some 6), .mkfn (.func 99) [] [(.t 3)], none⟩, ⟨(some 7), .call (.c (.fn (.func 98) [] [])) [(.t 5), (.t 6)], none⟩, ⟨(some 4), .mv (.t 7), none⟩])
  .ret))
theorem fn_convoy_find : FnOK Try.prog 64 8 [.t 4] ac_convoy_find := ⟨_, _, Try.func64, rfl, Try.ntmps64, by kernel_rfl, ⟨fun _ => [], by kernel_rfl⟩, by kernel_rfl⟩
theorem convoy_find_ok (p1 : (List Mate)) (p2 : Int) (r : Int) (h : convoy_find p1 p2 = some r) : PCall Try.prog 64 [(.list (List.map eMate p1)), (i64 p2)] (i64 r) := by
  refine l_call fn_convoy_find (Nat.le_of_ble_eq_true rfl) ?_
  unfold convoy_find at h
  unfold ac_convoy_find
  refine (l_sub (s0 := ⟨T [(0, (.d (.list (List.map eMate p1)))), (1, (.d (i64 p2)))], G []⟩) (sb_of ⟨.of rfl, .of rfl, trivial⟩ trivial) ?_)
  refine l_seq ?_
  refine l_reg fun u1 hu1 => ?_
  refine s_new (.ptr _ _) (.box _ _) rfl rfl ?_
  refine s_val (.d _) rfl rfl ?_
  refine s_nil ?_
  refine l_seq ?_
  refine l_reg fun u2 hu2 => ?_
  refine s_val (.d _) rfl rfl ?_
  refine s_val (.fn _ _ _) rfl rfl ?_
  obtain ⟨v1, hv1, h⟩ := bind_some h
  refine s_call rfl (rfL_cons rf_d (rfL_cons (rf_fn rfL_nil (rfL_cons (rf_ptr G_hit (rfL_cons rf_d rfL_nil)) rfL_nil)) rfL_nil)) all2_refl (slices_IndexFunc_Mate_Mate_convoy_find_1b_ok _ _  _ hv1) (.inr rfl) ?_
  refine s_val (.d _) rfl rfl ?_
  refine s_nil ?_
  refine l_ret ?_
  obtain rfl := Option.some.inj h
  refine fin_ok (.inr rfl) (resD1 (res_t rfl) rf_d) ?_
  exact (.refl _)

noncomputable def convoy_Below (p1 : Guess) (p2 : Int) (p3 : Int) : Option Bool :=
  (convoy_sane [p1.R, p1.V, p2, p3]).bind fun v1 => ((cond (v1 && (decide (p1.R ≤ p2))) (convoy_end p1) (some default))).bind fun v2 => ((cond (v1 && (decide (p1.R ≤ p2))) (convoy_stop p3) (some default))).bind fun v3 => some ((v1 && (decide (p1.R ≤ p2))) && (decide (v2 ≤ (w64 (p2 + v3)))))

/-- kerbstone/convoy.Below -/
def ac_convoy_Below : AC :=
  (.seq (.reg [⟨(some 3), .box 23 true (.t 0), none⟩, ⟨(some 6), .mv (.c (.v (.bool false))), none⟩])
  (.seq (.reg [⟨(some 7), .fieldA 0 (.t 3), none⟩, ⟨(some 8), .load 1 false (.t 7), none⟩, ⟨(some 9), .fieldA 1 (.t 3), none⟩, ⟨(some 10), .load 1 false (.t 9), none⟩, ⟨(some 11), .mv (.t 1), none⟩, ⟨(some 12), .mv (.t 2), none⟩, ⟨(some 13), .dslice 2 1 4 [(.v (.int .i64 0))] [(0, 1, (.t 8)), (1, 1, (.t 10)), (2, 1, (.t 11)), (3, 1, (.t 12))], none⟩, ⟨(some 14), .call (.c (.fn (.func 59) [] [])) [(.t 13)], none⟩, ⟨(some 15), .mv (.t 14), none⟩, ⟨(some 16), .fieldA 0 (.t 3), (some (15, true))⟩, ⟨(some 17), .load 1 false (.t 16), (some (15, true))⟩, ⟨(some 18), .mv (.t 1), (some (15, true))⟩, ⟨(some 19), .bin .leq (.t 17) (.t 18), (some (15, true))⟩, ⟨(some 20), .pick (.t 15) (.t 19) (.c (.v (.bool false))), none⟩, ⟨(some 21), .mv (.t 20), none⟩, ⟨(some 22), .load 2 true (.t 3), (some (21, true))⟩, ⟨(some 23), .call (.c (.fn (.func 61) [] [])) [(.t 22)], (some (21, true))⟩, ⟨(some 24), .mv (.t 1), (some (21, true))⟩, ⟨(some 25), .mv (.t 2), (some (21, true))⟩, ⟨(some 26), .call (.c (.fn (.func 62) [] [])) [(.t 25)], (some (21, true))⟩, ⟨(some 27), .bin .add (.t 24) (.t 26), (some (21, true))⟩, ⟨(some 28), .bin .leq (.t 23) (.t 27), (some (21, true))⟩, ⟨(some 29), .pick (.t 21) (.t 28) (.c (.v (.bool false))), none⟩, ⟨(some 6), .mv (.t 29), none⟩])
  .ret))
theorem fn_convoy_Below : FnOK Try.prog 17 30 [.t 6] ac_convoy_Below := ⟨_, _, Try.func17, rfl, Try.ntmps17, by kernel_rfl, ⟨fun r => if r == 1 then [1006] else [], by kernel_rfl⟩, by kernel_rfl⟩
theorem convoy_Below_ok (p1 : Guess) (p2 : Int) (p3 : Int) (r : Bool) (h : convoy_Below p1 p2 p3 = some r) : PCall Try.prog 17 [(.agg [(i64 p1.R), (i64 p1.V)]), (i64 p2), (i64 p3)] (bo r) := by
  refine l_call fn_convoy_Below (Nat.le_of_ble_eq_true rfl) ?_
  unfold convoy_Below at h
  unfold ac_convoy_Below
  refine (l_sub (s0 := ⟨T [(0, (.d (.agg [(i64 p1.R), (i64 p1.V)]))), (1, (.d (i64 p2))), (2, (.d (i64 p3)))], G []⟩) (sb_of ⟨.of rfl, .of rfl, .of rfl, trivial⟩ trivial) ?_)
  refine l_seq ?_
  refine l_reg fun u1 hu1 => ?_
  refine s_new (.ptr _ _) (.box _ _) rfl rfl ?_
  refine s_val (.d _) rfl rfl ?_
  refine s_nil ?_
  refine l_seq ?_
  refine l_reg fun u2 hu2 => ?_
  refine s_val (.ptr _ _) rfl rfl ?_
  refine s_val (.d _) rfl (v_load rfl G_hit rfl) ?_
  refine s_val (.ptr _ _) rfl rfl ?_
  refine s_val (.d _) rfl (v_load rfl G_hit rfl) ?_
  refine s_val (.d _) rfl rfl ?_
  refine s_val (.d _) rfl rfl ?_
  refine s_val (.d (.list (List.map eInt_i64 [p1.R, p1.V, p2, p3]))) rfl rfl ?_
  obtain ⟨v1, hv1, h⟩ := bind_some h
  refine s_call rfl rfl all2_refl (convoy_sane_ok _  _ hv1) (.inl rfl) ?_
  refine s_val (.d _) rfl rfl ?_
  refine g_val v1 (.ptr _ _) rfl (gw_t rfl) (fun w1 => rfl) ?_
  refine g_val v1 (.d _) rfl (gw_t rfl) (fun w2 => (v_load (gd_pos w2) G_hit rfl)) ?_
  refine g_val v1 (.d _) rfl (gw_t rfl) (fun w3 => rfl) ?_
  refine g_val v1 (.d _) rfl (gw_t rfl) (fun w4 => (v_bin (gd_pos w4) (gd_pos w4) rfl)) ?_
  refine s_val (.d _) rfl (v_and rfl (fun hc => gd_pos hc) rfl) ?_
  refine s_val (.d _) rfl rfl ?_
  refine g_val (v1 && (decide (p1.R ≤ p2))) (.d _) rfl (gw_t rfl) (fun w5 => (v_loadG rfl G_hit rfl rfl)) ?_
  obtain ⟨v2, hv2, h⟩ := bind_some h
  refine g_call (v1 && (decide (p1.R ≤ p2))) (i64 v2) (gw_t rfl) (fun w6 => ⟨_, [(.d (.agg [(i64 p1.R), (i64 p1.V)]))], _, _, (by simp only [gd_pos w6]; rfl), rfl, all2_refl, convoy_end_ok _  _ (cond_t w6 hv2), (.inl rfl)⟩) ?_
  refine g_val (v1 && (decide (p1.R ≤ p2))) (.d _) rfl (gw_t rfl) (fun w7 => rfl) ?_
  refine g_val (v1 && (decide (p1.R ≤ p2))) (.d _) rfl (gw_t rfl) (fun w8 => rfl) ?_
  obtain ⟨v3, hv3, h⟩ := bind_some h
  refine g_call (v1 && (decide (p1.R ≤ p2))) (i64 v3) (gw_t rfl) (fun w9 => ⟨_, [(.d (i64 p3))], _, _, (by simp only [gd_pos w9]; rfl), rfl, all2_refl, convoy_stop_ok _  _ (cond_t w9 hv3), (.inl rfl)⟩) ?_
  refine g_val (v1 && (decide (p1.R ≤ p2))) (.d _) rfl (gw_t rfl) (fun w10 => (v_bin (gd_pos w10) (gd_pos w10) rfl)) ?_
  refine g_val (v1 && (decide (p1.R ≤ p2))) (.d _) rfl (gw_t rfl) (fun w11 => (v_bin (gd_pos w11) (gd_pos w11) rfl)) ?_
  refine s_val (.d _) rfl (v_and rfl (fun hc => gd_pos hc) rfl) ?_
  refine s_val (.d _) rfl rfl ?_
  refine s_nil ?_
  refine l_ret ?_
  obtain rfl := Option.some.inj h
  refine fin_ok (.inr rfl) (resD1 (res_t rfl) rf_d) ?_
  exact (.refl _)

noncomputable def convoy_holds (p1 : (List Mate)) (p2 : Int) (p3 : Guess) : Option Bool :=
  (convoy_find p1 p2).bind fun v1 => ((cond (decide (v1 ≥ 0)) (geti p1 v1) (some default))).bind fun v2 => ((cond (decide (v1 ≥ 0)) (convoy_rear v2) (some default))).bind fun v3 => ((cond (decide (v1 ≥ 0)) (geti p1 v1) (some default))).bind fun v4 => ((cond (decide (v1 ≥ 0)) (convoy_Below p3 v3 v4.V) (some default))).bind fun v5 => some ((decide (v1 ≥ 0)) && v5)

/-- kerbstone/convoy.holds -/
def ac_convoy_holds : AC :=
  (.seq (.reg [⟨(some 5), .box 23 true (.t 2), none⟩, ⟨(some 6), .mv (.c (.v (.bool false))), none⟩])
  (.seq (.reg [⟨(some 8), .mv (.t 0), none⟩, ⟨(some 9), .mv (.t 1), none⟩, ⟨(some 10), .call (.c (.fn (.func 64) [] [])) [(.t 8), (.t 9)], none⟩, ⟨(some 7), .mv (.t 10), none⟩])
  (.seq (.draw [⟨(some 11), .mv (.t 7), none⟩, ⟨(some 12), .bin .geq (.t 11) (.c (.v (.int .i64 0))), none⟩, ⟨(some 13), .mv (.t 12), none⟩, ⟨(some 14), .load 2 true (.t 5), (some (13, true))⟩, ⟨(some 15), .mv (.t 0), (some (13, true))⟩, ⟨(some 16), .mv (.t 7), (some (13, true))⟩, ⟨(some 17), .idxS 12 (.t 15) (.t 16), (some (13, true))⟩, ⟨(some 18), .load 12 true (.t 17), (some (13, true))⟩, ⟨(some 19), .call (.c (.fn (.func 67) [] [])) [(.t 18)], (some (13, true))⟩, ⟨(some 20), .mv (.t 0), (some (13, true))⟩, ⟨(some 21), .mv (.t 7), (some (13, true))⟩, ⟨(some 22), .idxS 12 (.t 20) (.t 21), (some (13, true))⟩, ⟨(some 23), .fieldA 2 (.t 22), (some (13, true))⟩, ⟨(some 24), .load 1 false (.t 23), (some (13, true))⟩, ⟨(some 25), .call (.c (.fn (.func 17) [] [])) [(.t 14), (.t 19), (.t 24)], (some (13, true))⟩, ⟨(some 26), .pick (.t 13) (.t 25) (.c (.v (.bool false))), none⟩, ⟨(some 6), .mv (.t 26), none⟩] [])
  .ret)))
theorem fn_convoy_holds : FnOK Try.prog 79 27 [.t 6] ac_convoy_holds := ⟨_, _, Try.func79, rfl, Try.ntmps79, by kernel_rfl, ⟨fun _ => [], by kernel_rfl⟩, by kernel_rfl⟩
theorem convoy_holds_ok (p1 : (List Mate)) (p2 : Int) (p3 : Guess) (r : Bool) (h : convoy_holds p1 p2 p3 = some r) : PCall Try.prog 79 [(.list (List.map eMate p1)), (i64 p2), (.agg [(i64 p3.R), (i64 p3.V)])] (bo r) := by
  refine l_call fn_convoy_holds (Nat.le_of_ble_eq_true rfl) ?_
  unfold convoy_holds at h
  unfold ac_convoy_holds
  refine (l_sub (s0 := ⟨T [(0, (.d (.list (List.map eMate p1)))), (1, (.d (i64 p2))), (2, (.d (.agg [(i64 p3.R), (i64 p3.V)])))], G []⟩) (sb_of ⟨.of rfl, .of rfl, .of rfl, trivial⟩ trivial) ?_)
  refine l_seq ?_
  refine l_reg fun u1 hu1 => ?_
  refine s_new (.ptr _ _) (.box _ _) rfl rfl ?_
  refine s_val (.d _) rfl rfl ?_
  refine s_nil ?_
  refine l_seq ?_
  refine l_reg fun u2 hu2 => ?_
  refine s_val (.d _) rfl rfl ?_
  refine s_val (.d _) rfl rfl ?_
  obtain ⟨v1, hv1, h⟩ := bind_some h
  refine s_call rfl rfl all2_refl (convoy_find_ok _ _  _ hv1) (.inl rfl) ?_
  refine s_val (.d _) rfl rfl ?_
  refine s_nil ?_
  refine l_seq ?_
  refine l_draw rfl fun u3 hu3 => ?_
  refine s_val (.d _) rfl rfl ?_
  refine s_val (.d _) rfl rfl ?_
  refine s_val (.d _) rfl rfl ?_
  refine g_val (decide (v1 ≥ 0)) (.d _) rfl (gw_t rfl) (fun w1 => (v_loadG rfl G_hit rfl rfl)) ?_
  refine g_val (decide (v1 ≥ 0)) (.d _) rfl (gw_t rfl) (fun w2 => rfl) ?_
  refine g_val (decide (v1 ≥ 0)) (.d _) rfl (gw_t rfl) (fun w3 => rfl) ?_
  obtain ⟨v2, hv2, h⟩ := bind_some h
  refine g_val (decide (v1 ≥ 0)) (.d _) rfl (gw_t rfl) (fun w4 => (v_idx (gd_pos w4) (gd_pos w4) (cond_t w4 hv2) rfl)) ?_
  refine g_val (decide (v1 ≥ 0)) (.d _) rfl (gw_t rfl) (fun w5 => (v_loadLG (gd_pos w5) (cond_t w5 hv2) rfl rfl)) ?_
  obtain ⟨v3, hv3, h⟩ := bind_some h
  refine g_call (decide (v1 ≥ 0)) (i64 v3) (gw_t rfl) (fun w6 => ⟨_, [(.d (.agg [(i64 v2.ID), (i64 v2.S), (i64 v2.V), (i64 v2.Len), (i64 v2.Ahead), (i64 v2.Guess_.R), (i64 v2.Guess_.V), (bo v2.Trust), (i64 v2.Ward), (i64 v2.WardGuess.R), (i64 v2.WardGuess.V), (i64 v2.Until)]))], _, _, (by simp only [gd_pos w6]; rfl), rfl, all2_refl, convoy_rear_ok _  _ (cond_t w6 hv3), (.inl rfl)⟩) ?_
  refine g_val (decide (v1 ≥ 0)) (.d _) rfl (gw_t rfl) (fun w7 => rfl) ?_
  refine g_val (decide (v1 ≥ 0)) (.d _) rfl (gw_t rfl) (fun w8 => rfl) ?_
  obtain ⟨v4, hv4, h⟩ := bind_some h
  refine g_val (decide (v1 ≥ 0)) (.d _) rfl (gw_t rfl) (fun w9 => (v_idx (gd_pos w9) (gd_pos w9) (cond_t w9 hv4) rfl)) ?_
  refine g_val (decide (v1 ≥ 0)) (.d _) rfl (gw_t rfl) (fun w10 => (by simp only [gd_pos w10]; rfl)) ?_
  refine g_val (decide (v1 ≥ 0)) (.d _) rfl (gw_t rfl) (fun w11 => (v_loadL (gd_pos w11) (cond_t w11 hv4) rfl)) ?_
  obtain ⟨v5, hv5, h⟩ := bind_some h
  refine g_call (decide (v1 ≥ 0)) (bo v5) (gw_t rfl) (fun w12 => ⟨_, [(.d (.agg [(i64 p3.R), (i64 p3.V)])), (.d (i64 v3)), (.d (i64 v4.V))], _, _, (by simp only [gd_pos w12]; rfl), rfl, all2_refl, convoy_Below_ok _ _ _  _ (cond_t w12 hv5), (.inl rfl)⟩) ?_
  refine s_val (.d _) rfl (v_and rfl (fun hc => gd_pos hc) rfl) ?_
  refine s_val (.d _) rfl rfl ?_
  refine s_nil ?_
  refine l_ret ?_
  obtain rfl := Option.some.inj h
  refine fin_ok (.inr rfl) (resD1 (res_t rfl) rf_d) ?_
  exact (.refl _)

noncomputable def convoy_Sound_l1 (p1 : Convoy) (x1 : Int) : Option (Stp Int (Sum Unit Bool)) :=
  cond (decide (x1 < (p1.Mates.length : Int))) ((geti p1.Mates x1).bind fun v2 => ((cond (v2.Ahead != 0) (subl p1.Mates 0 x1) (some default))).bind fun v3 => ((cond (v2.Ahead != 0) (convoy_holds v3 v2.Ahead v2.Guess_) (some default))).bind fun v4 => cond ((v2.Ahead != 0) && (!v4)) (some (.out (.inr false))) (((cond (v2.Until != 0) (subl p1.Mates 0 x1) (some default))).bind fun v5 => ((cond (v2.Until != 0) (convoy_find v5 v2.Ward) (some default))).bind fun v6 => ((cond ((v2.Until != 0) && (decide (v6 ≥ 0))) (subl p1.Mates 0 x1) (some default))).bind fun v7 => ((cond ((v2.Until != 0) && (decide (v6 ≥ 0))) (convoy_holds v7 v2.Ward v2.WardGuess) (some default))).bind fun v8 => cond (((v2.Until != 0) && (decide (v6 ≥ 0))) && (!v8)) (some (.out (.inr false))) (((cond ((v2.Until != 0) && (v2.Ward == p1.Guest_.ID)) (convoy_Below v2.WardGuess (w64 (p1.Guest_.S - p1.Guest_.Len)) p1.Guest_.V) (some default))).bind fun v9 => cond (((v2.Until != 0) && (v2.Ward == p1.Guest_.ID)) && (!v9)) (some (.out (.inr false))) (((cond (decide (x1 > 0)) (geti p1.Mates (w64 (x1 - 1))) (some default))).bind fun v10 => ((cond (((decide (x1 > 0)) && (v10.ID != v2.Ahead)) && (!(v2.Until == 0))) (geti p1.Mates (w64 (x1 - 1))) (some default))).bind fun v11 => cond (((decide (x1 > 0)) && (v10.ID != v2.Ahead)) && ((v2.Until == 0) || (v11.ID != v2.Ward))) (some (.out (.inr false))) (some (.go (w64 (x1 + 1)))))))) (some (.out (.inl ())))
noncomputable def convoy_Sound (p1 : Convoy) : Option Bool :=
  (convoy_Check p1).bind fun v1 => cond (v1 != 0) (some false) (thenS (loop (convoy_Sound_l1 p1) 0) (fun _ => ((cond (!(p1.Guest_.Ahead == 0)) (convoy_holds p1.Mates p1.Guest_.Ahead p1.Guest_.Guess_) (some default))).bind fun v12 => some ((p1.Guest_.Ahead == 0) || v12)) (fun r => some r))

/-- kerbstone/convoy.Sound -/
def ac_convoy_Sound : AC :=
  (.seq (.reg [⟨(some 1), .box 38 true (.t 0), none⟩, ⟨(some 2), .mv (.c (.v (.bool false))), none⟩])
  (.seq (.seq (.reg [⟨(some 5), .load 13 true (.t 1), none⟩, ⟨(some 6), .call (.c (.fn (.func 32) [] [])) [(.t 5)], none⟩, ⟨(some 7), .bin .neq (.t 6) (.c (.v (.int .i64 0))), none⟩])
  (.cond (.t 7)
    (.seq (.reg [⟨(some 2), .mv (.c (.v (.bool false))), none⟩])
    .ret)
    .skip))
  (.seq (.seq (.reg [⟨(some 8), .fieldA 2 (.t 1), none⟩, ⟨(some 9), .load 1 false (.t 8), none⟩, ⟨(some 10), .len (.t 9), none⟩, ⟨(some 11), .mv (.c (.v (.int .i64 0))), none⟩])
  (.block 0
    (.loop
      (.seq (.reg [⟨(some 12), .bin .lss (.t 11) (.t 10), none⟩])
      (.seq (.cond (.t 12)
        .skip
        (.exit 0))
      (.seq (.block 1
        (.seq (.reg [⟨(some 13), .mv (.t 11), none⟩, ⟨(some 14), .idxS 12 (.t 9) (.t 11), none⟩, ⟨(some 15), .load 12 true (.t 14), none⟩, ⟨(some 4), .alloc 65 [(.v (.int .i64 0)), (.v (.int .i64 0)), (.v (.int .i64 0)), (.v (.int .i64 0)), (.v (.int .i64 0)), (.v (.int .i64 0)), (.v (.int .i64 0)), (.v (.bool false)), (.v (.int .i64 0)), (.v (.int .i64 0)), (.v (.int .i64 0)), (.v (.int .i64 0))], none⟩, ⟨(some 3), .mv (.t 13), none⟩, ⟨none, .store 12 (.t 4) (.t 15), none⟩])
        (.seq (.seq (.draw [⟨(some 16), .fieldA 4 (.t 4), none⟩, ⟨(some 17), .load 1 false (.t 16), none⟩, ⟨(some 18), .bin .neq (.t 17) (.c (.v (.int .i64 0))), none⟩, ⟨(some 19), .mv (.t 18), none⟩, ⟨(some 20), .fieldA 2 (.t 1), (some (19, true))⟩, ⟨(some 21), .load 1 false (.t 20), (some (19, true))⟩, ⟨(some 22), .mv (.t 3), (some (19, true))⟩, ⟨(some 23), .slice 12 (.t 21) none (some (.t 22)) none, (some (19, true))⟩, ⟨(some 24), .fieldA 4 (.t 4), (some (19, true))⟩, ⟨(some 25), .load 1 false (.t 24), (some (19, true))⟩, ⟨(some 26), .fieldA 5 (.t 4), (some (19, true))⟩, ⟨(some 27), .load 2 true (.t 26), (some (19, true))⟩, ⟨(some 28), .call (.c (.fn (.func 79) [] [])) [(.t 23), (.t 25), (.t 27)], (some (19, true))⟩, ⟨(some 29), .un .not (.t 28), (some (19, true))⟩, ⟨(some 30), .pick (.t 19) (.t 29) (.c (.v (.bool false))), none⟩] [])
        (.cond (.t 30)
          (.seq (.reg [⟨(some 2), .mv (.c (.v (.bool false))), none⟩])
          .ret)
          .skip))
        (.seq (.seq (.draw [⟨(some 31), .fieldA 11 (.t 4), none⟩, ⟨(some 32), .load 1 false (.t 31), none⟩, ⟨(some 33), .bin .neq (.t 32) (.c (.v (.int .i64 0))), none⟩, ⟨(some 34), .mv (.t 33), none⟩, ⟨(some 35), .fieldA 2 (.t 1), (some (34, true))⟩, ⟨(some 36), .load 1 false (.t 35), (some (34, true))⟩, ⟨(some 37), .mv (.t 3), (some (34, true))⟩, ⟨(some 38), .slice 12 (.t 36) none (some (.t 37)) none, (some (34, true))⟩, ⟨(some 39), .fieldA 8 (.t 4), (some (34, true))⟩, ⟨(some 40), .load 1 false (.t 39), (some (34, true))⟩, ⟨(some 41), .call (.c (.fn (.func 64) [] [])) [(.t 38), (.t 40)], (some (34, true))⟩, ⟨(some 42), .bin .geq (.t 41) (.c (.v (.int .i64 0))), (some (34, true))⟩, ⟨(some 43), .pick (.t 34) (.t 42) (.c (.v (.bool false))), none⟩, ⟨(some 44), .mv (.t 43), none⟩, ⟨(some 45), .fieldA 2 (.t 1), (some (44, true))⟩, ⟨(some 46), .load 1 false (.t 45), (some (44, true))⟩, ⟨(some 47), .mv (.t 3), (some (44, true))⟩, ⟨(some 48), .slice 12 (.t 46) none (some (.t 47)) none, (some (44, true))⟩, ⟨(some 49), .fieldA 8 (.t 4), (some (44, true))⟩, ⟨(some 50), .load 1 false (.t 49), (some (44, true))⟩, ⟨(some 51), .fieldA 9 (.t 4), (some (44, true))⟩, ⟨(some 52), .load 2 true (.t 51), (some (44, true))⟩, ⟨(some 53), .call (.c (.fn (.func 79) [] [])) [(.t 48), (.t 50), (.t 52)], (some (44, true))⟩, ⟨(some 54), .un .not (.t 53), (some (44, true))⟩, ⟨(some 55), .pick (.t 44) (.t 54) (.c (.v (.bool false))), none⟩] [])
        (.cond (.t 55)
          (.seq (.reg [⟨(some 2), .mv (.c (.v (.bool false))), none⟩])
          .ret)
          .skip))
        (.seq (.seq (.reg [⟨(some 56), .fieldA 11 (.t 4), none⟩, ⟨(some 57), .load 1 false (.t 56), none⟩, ⟨(some 58), .bin .neq (.t 57) (.c (.v (.int .i64 0))), none⟩, ⟨(some 59), .mv (.t 58), none⟩, ⟨(some 60), .fieldA 8 (.t 4), (some (59, true))⟩, ⟨(some 61), .load 1 false (.t 60), (some (59, true))⟩, ⟨(some 62), .fieldA 3 (.t 1), (some (59, true))⟩, ⟨(some 63), .fieldA 0 (.t 62), (some (59, true))⟩, ⟨(some 64), .load 1 false (.t 63), (some (59, true))⟩, ⟨(some 65), .bin .eql (.t 61) (.t 64), (some (59, true))⟩, ⟨(some 66), .pick (.t 59) (.t 65) (.c (.v (.bool false))), none⟩, ⟨(some 67), .mv (.t 66), none⟩, ⟨(some 68), .fieldA 9 (.t 4), (some (67, true))⟩, ⟨(some 69), .load 2 true (.t 68), (some (67, true))⟩, ⟨(some 70), .fieldA 3 (.t 1), (some (67, true))⟩, ⟨(some 71), .fieldA 1 (.t 70), (some (67, true))⟩, ⟨(some 72), .load 1 false (.t 71), (some (67, true))⟩, ⟨(some 73), .fieldA 3 (.t 1), (some (67, true))⟩, ⟨(some 74), .fieldA 3 (.t 73), (some (67, true))⟩, ⟨(some 75), .load 1 false (.t 74), (some (67, true))⟩, ⟨(some 76), .bin .sub (.t 72) (.t 75), (some (67, true))⟩, ⟨(some 77), .fieldA 3 (.t 1), (some (67, true))⟩, ⟨(some 78), .fieldA 2 (.t 77), (some (67, true))⟩, ⟨(some 79), .load 1 false (.t 78), (some (67, true))⟩, ⟨(some 80), .call (.c (.fn (.func 17) [] [])) [(.t 69), (.t 76), (.t 79)], (some (67, true))⟩, ⟨(some 81), .un .not (.t 80), (some (67, true))⟩, ⟨(some 82), .pick (.t 67) (.t 81) (.c (.v (.bool false))), none⟩])
        (.cond (.t 82)
          (.seq (.reg [⟨(some 2), .mv (.c (.v (.bool false))), none⟩])
          .ret)
          .skip))
        (.seq (.draw [⟨(some 83), .mv (.t 3), none⟩, ⟨(some 84), .bin .gtr (.t 83) (.c (.v (.int .i64 0))), none⟩, ⟨(some 85), .mv (.t 84), none⟩, ⟨(some 86), .fieldA 2 (.t 1), (some (85, true))⟩, ⟨(some 87), .load 1 false (.t 86), (some (85, true))⟩, ⟨(some 88), .mv (.t 3), (some (85, true))⟩, ⟨(some 89), .bin .sub (.t 88) (.c (.v (.int .i64 1))), (some (85, true))⟩, ⟨(some 90), .idxS 12 (.t 87) (.t 89), (some (85, true))⟩, ⟨(some 91), .fieldA 0 (.t 90), (some (85, true))⟩, ⟨(some 92), .load 1 false (.t 91), (some (85, true))⟩, ⟨(some 93), .fieldA 4 (.t 4), (some (85, true))⟩, ⟨(some 94), .load 1 false (.t 93), (some (85, true))⟩, ⟨(some 95), .bin .neq (.t 92) (.t 94), (some (85, true))⟩, ⟨(some 96), .pick (.t 85) (.t 95) (.c (.v (.bool false))), none⟩, ⟨(some 97), .mv (.t 96), none⟩, ⟨(some 98), .fieldA 11 (.t 4), (some (97, true))⟩, ⟨(some 99), .load 1 false (.t 98), (some (97, true))⟩, ⟨(some 100), .bin .eql (.t 99) (.c (.v (.int .i64 0))), (some (97, true))⟩, ⟨(some 101), .mv (.t 100), (some (97, true))⟩, ⟨(some 102), .fieldA 2 (.t 1), (some (101, false))⟩, ⟨(some 103), .load 1 false (.t 102), (some (101, false))⟩, ⟨(some 104), .mv (.t 3), (some (101, false))⟩, ⟨(some 105), .bin .sub (.t 104) (.c (.v (.int .i64 1))), (some (101, false))⟩, ⟨(some 106), .idxS 12 (.t 103) (.t 105), (some (101, false))⟩, ⟨(some 107), .fieldA 0 (.t 106), (some (101, false))⟩, ⟨(some 108), .load 1 false (.t 107), (some (101, false))⟩, ⟨(some 109), .fieldA 8 (.t 4), (some (101, false))⟩, ⟨(some 110), .load 1 false (.t 109), (some (101, false))⟩, ⟨(some 111), .bin .neq (.t 108) (.t 110), (some (101, false))⟩, ⟨(some 112), .pick (.t 101) (.c (.v (.bool true))) (.t 111), (some (97, true))⟩, ⟨(some 113), .pick (.t 97) (.t 112) (.c (.v (.bool false))), none⟩] [])
        (.cond (.t 113)
          (.seq (.reg [⟨(some 2), .mv (.c (.v (.bool false))), none⟩])
          .ret)
          .skip)))))))
      (.reg [⟨(some 114), .bin .add (.t 11) (.c (.v (.int .i64 1))), none⟩, ⟨(some 11), .mv (.t 114), none⟩])))))))
  (.seq (.reg [⟨(some 115), .fieldA 3 (.t 1), none⟩, ⟨(some 116), .fieldA 5 (.t 115), none⟩, ⟨(some 117), .load 1 false (.t 116), none⟩, ⟨(some 118), .bin .eql (.t 117) (.c (.v (.int .i64 0))), none⟩, ⟨(some 119), .mv (.t 118), none⟩, ⟨(some 120), .fieldA 2 (.t 1), (some (119, false))⟩, ⟨(some 121), .load 1 false (.t 120), (some (119, false))⟩, ⟨(some 122), .fieldA 3 (.t 1), (some (119, false))⟩, ⟨(some 123), .fieldA 5 (.t 122), (some (119, false))⟩, ⟨(some 124), .load 1 false (.t 123), (some (119, false))⟩, ⟨(some 125), .fieldA 3 (.t 1), (some (119, false))⟩, ⟨(some 126), .fieldA 6 (.t 125), (some (119, false))⟩, ⟨(some 127), .load 2 true (.t 126), (some (119, false))⟩, ⟨(some 128), .call (.c (.fn (.func 79) [] [])) [(.t 121), (.t 124), (.t 127)], (some (119, false))⟩, ⟨(some 129), .pick (.t 119) (.c (.v (.bool true))) (.t 128), none⟩, ⟨(some 2), .mv (.t 129), none⟩])
  .ret))))
theorem fn_convoy_Sound : FnOK Try.prog 34 130 [.t 2] ac_convoy_Sound := ⟨_, _, Try.func34, rfl, Try.ntmps34, by kernel_rfl, ⟨fun _ => [], by kernel_rfl⟩, by kernel_rfl⟩
set_option maxHeartbeats 4000000 in
theorem convoy_Sound_ok (p1 : Convoy) (r : Bool) (h : convoy_Sound p1 = some r) : PCall Try.prog 34 [(.agg [(i64 p1.Tick), (i64 p1.Gap), (.list (List.map eMate p1.Mates)), (i64 p1.Guest_.ID), (i64 p1.Guest_.S), (i64 p1.Guest_.V), (i64 p1.Guest_.Len), (i64 p1.Guest_.End), (i64 p1.Guest_.Ahead), (i64 p1.Guest_.Guess_.R), (i64 p1.Guest_.Guess_.V), (i64 p1.Guest_.From), (i64 p1.Guest_.Until)])] (bo r) := by
  refine l_call fn_convoy_Sound (Nat.le_of_ble_eq_true rfl) ?_
  unfold convoy_Sound at h
  unfold ac_convoy_Sound
  refine (l_sub (s0 := ⟨T [(0, (.d (.agg [(i64 p1.Tick), (i64 p1.Gap), (.list (List.map eMate p1.Mates)), (i64 p1.Guest_.ID), (i64 p1.Guest_.S), (i64 p1.Guest_.V), (i64 p1.Guest_.Len), (i64 p1.Guest_.End), (i64 p1.Guest_.Ahead), (i64 p1.Guest_.Guess_.R), (i64 p1.Guest_.Guess_.V), (i64 p1.Guest_.From), (i64 p1.Guest_.Until)])))], G []⟩) (sb_of ⟨.of rfl, trivial⟩ trivial) ?_)
  refine l_seq ?_
  refine l_reg fun u1 hu1 => ?_
  refine s_new (.ptr _ _) (.box _ _) rfl rfl ?_
  refine s_val (.d _) rfl rfl ?_
  refine s_nil ?_
  refine l_seq ?_
  refine l_seq ?_
  refine l_reg fun u2 hu2 => ?_
  refine s_val (.d _) rfl (v_loadG rfl G_hit rfl rfl) ?_
  obtain ⟨v1, hv1, h⟩ := bind_some h
  refine s_call rfl rfl all2_refl (convoy_Check_ok _  _ hv1) (.inl rfl) ?_
  refine s_val (.d _) rfl rfl ?_
  refine s_nil ?_
  refine l_cond (v1 != 0) rfl (fun c1 => ?_) (fun c1 => ?_)
  · replace h := cond_t c1 h
    refine l_seq ?_
    refine l_reg fun u3 hu3 => ?_
    refine s_val (.d _) rfl rfl ?_
    refine s_nil ?_
    refine l_ret ?_
    obtain rfl := Option.some.inj h
    refine fin_ok (.inr rfl) (resD1 (res_t rfl) rf_d) ?_
    exact (.refl _)
  · replace h := cond_f c1 h
    refine l_skip ?_
    refine l_seq ?_
    refine l_seq ?_
    refine l_reg fun u4 hu4 => ?_
    refine s_val (.ptr _ _) rfl rfl ?_
    refine s_val (.d _) rfl (v_load rfl G_hit rfl) ?_
    refine s_val (.d _) rfl (v_len rfl) ?_
    refine s_val (.d _) rfl rfl ?_
    refine s_nil ?_
    obtain ⟨z1, hz1, h⟩ := thenS_some h
    refine l_join (fun s => ∃ (y1 : Unit) (g1 : Unit), z1 = .inl y1 ∧ Sb ⟨T [(1, (.ptr (1, u1) 0))], G [((1, u1), some (.box 38 [(.d (i64 p1.Tick)), (.d (i64 p1.Gap)), (.d (.list (List.map eMate p1.Mates))), (.d (i64 p1.Guest_.ID)), (.d (i64 p1.Guest_.S)), (.d (i64 p1.Guest_.V)), (.d (i64 p1.Guest_.Len)), (.d (i64 p1.Guest_.End)), (.d (i64 p1.Guest_.Ahead)), (.d (i64 p1.Guest_.Guess_.R)), (.d (i64 p1.Guest_.Guess_.V)), (.d (i64 p1.Guest_.From)), (.d (i64 p1.Guest_.Until))]))]⟩ s) ?_ ?_
    · skip
      refine l_block ?_
      refine l_loop (convoy_Sound_l1 p1) (fun (x1 : Int) (g2 : Unit) => ⟨T [(1, (.ptr (1, u1) 0)), (9, (.d (.list (List.map eMate p1.Mates)))), (10, (.d (i64 (p1.Mates.length : Int)))), (11, (.d (i64 x1)))], G [((1, u1), some (.box 38 [(.d (i64 p1.Tick)), (.d (i64 p1.Gap)), (.d (.list (List.map eMate p1.Mates))), (.d (i64 p1.Guest_.ID)), (.d (i64 p1.Guest_.S)), (.d (i64 p1.Guest_.V)), (.d (i64 p1.Guest_.Len)), (.d (i64 p1.Guest_.End)), (.d (i64 p1.Guest_.Ahead)), (.d (i64 p1.Guest_.Guess_.R)), (.d (i64 p1.Guest_.Guess_.V)), (.d (i64 p1.Guest_.From)), (.d (i64 p1.Guest_.Until))]))]⟩) 0 () _ hz1 (sb_of ⟨.of rfl, .of rfl, .of rfl, .of rfl, trivial⟩ (sbG_some G_hit (.of rfl) trivial)) ?_
      intro x1 g2 z2 hz2 ez2
      unfold convoy_Sound_l1 at hz2
      refine l_seq ?_
      refine l_reg fun u5 hu5 => ?_
      refine s_val (.d _) rfl rfl ?_
      refine s_nil ?_
      refine l_seq ?_
      refine l_cond (decide (x1 < (p1.Mates.length : Int))) rfl (fun c2 => ?_) (fun c2 => ?_)
      · replace hz2 := cond_t c2 hz2
        refine l_skip ?_
        refine l_seq ?_
        refine l_block ?_
        refine l_seq ?_
        refine l_reg fun u6 hu6 => ?_
        refine s_val (.d _) rfl rfl ?_
        obtain ⟨v2, hv2, hz2⟩ := bind_some hz2
        refine s_val (.d _) rfl (v_idx rfl rfl hv2 rfl) ?_
        refine s_val (.d _) rfl (v_loadLG rfl hv2 rfl rfl) ?_
        refine s_new (.ptr _ _) (.box _ _) rfl rfl ?_
        refine s_val (.d _) rfl rfl ?_
        refine s_store _ _ _ _ _ rfl rfl rfl G_hit (Nat.le_of_ble_eq_true rfl) [(.d (i64 v2.ID)), (.d (i64 v2.S)), (.d (i64 v2.V)), (.d (i64 v2.Len)), (.d (i64 v2.Ahead)), (.d (i64 v2.Guess_.R)), (.d (i64 v2.Guess_.V)), (.d (bo v2.Trust)), (.d (i64 v2.Ward)), (.d (i64 v2.WardGuess.R)), (.d (i64 v2.WardGuess.V)), (.d (i64 v2.Until))] rfl ?_
        refine s_nil ?_
        refine l_seq ?_
        refine l_seq ?_
        refine l_draw rfl fun u7 hu7 => ?_
        refine s_val (.ptr _ _) rfl rfl ?_
        refine s_val (.d _) rfl (v_load rfl G_hit rfl) ?_
        refine s_val (.d _) rfl rfl ?_
        refine s_val (.d _) rfl rfl ?_
        refine g_val (v2.Ahead != 0) (.ptr _ _) rfl (gw_t rfl) (fun w1 => rfl) ?_
        refine g_val (v2.Ahead != 0) (.d _) rfl (gw_t rfl) (fun w2 => (v_load (gd_pos w2) (G_skip rfl (G_skip rfl G_hit)) rfl)) ?_
        refine g_val (v2.Ahead != 0) (.d _) rfl (gw_t rfl) (fun w3 => rfl) ?_
        obtain ⟨v3, hv3, hz2⟩ := bind_some hz2
        refine g_val (v2.Ahead != 0) (.d _) rfl (gw_t rfl) (fun w4 => (v_sub (gd_pos w4) (fun _ => rfl) bd_beg (bd_x (gd_pos w4)) (cond_t w4 hv3))) ?_
        refine g_val (v2.Ahead != 0) (.ptr _ _) rfl (gw_t rfl) (fun w5 => rfl) ?_
        refine g_val (v2.Ahead != 0) (.d _) rfl (gw_t rfl) (fun w6 => (v_load (gd_pos w6) G_hit rfl)) ?_
        refine g_val (v2.Ahead != 0) (.ptr _ _) rfl (gw_t rfl) (fun w7 => rfl) ?_
        refine g_val (v2.Ahead != 0) (.d _) rfl (gw_t rfl) (fun w8 => (v_loadG (gd_pos w8) G_hit rfl rfl)) ?_
        obtain ⟨v4, hv4, hz2⟩ := bind_some hz2
        refine g_call (v2.Ahead != 0) (bo v4) (gw_t rfl) (fun w9 => ⟨_, [(.d (.list (List.map eMate v3))), (.d (i64 v2.Ahead)), (.d (.agg [(i64 v2.Guess_.R), (i64 v2.Guess_.V)]))], _, _, (by simp only [gd_pos w9]; rfl), rfl, all2_refl, convoy_holds_ok _ _ _  _ (cond_t w9 hv4), (.inl rfl)⟩) ?_
        refine g_val (v2.Ahead != 0) (.d _) rfl (gw_t rfl) (fun w10 => (by simp only [gd_pos w10]; rfl)) ?_
        refine s_val (.d _) rfl (v_and rfl (fun hc => gd_pos hc) rfl) ?_
        refine s_nil ?_
        refine l_cond ((v2.Ahead != 0) && (!v4)) rfl (fun c3 => ?_) (fun c3 => ?_)
        · replace hz2 := cond_t c3 hz2
          refine l_seq ?_
          refine l_sub (s0 := ⟨T [], G []⟩) (sb_of trivial trivial) ?_
          refine l_reg fun u8 hu8 => ?_
          refine s_val (.d _) rfl rfl ?_
          refine s_nil ?_
          refine l_ret ?_
          obtain rfl := Option.some.inj hz2
          obtain rfl := ez2 _ rfl
          refine ⟨nofun, awl_ret ?_⟩
          rw [Sum.elim_inr] at h
          obtain rfl := Option.some.inj h
          refine fin_ok (.inr rfl) (resD1 (res_t rfl) rf_d) ?_
          exact (.refl _)
        · replace hz2 := cond_f c3 hz2
          refine l_skip ?_
          refine l_seq ?_
          refine l_seq ?_
          refine l_sub (s0 := ⟨T [(1, (.ptr (1, u1) 0)), (3, (.d (i64 x1))), (4, (.ptr (4, u6) 0)), (9, (.d (.list (List.map eMate p1.Mates)))), (10, (.d (i64 (p1.Mates.length : Int)))), (11, (.d (i64 x1))), (20, (gd (v2.Ahead != 0) true (.ptr (1, u1) 2))), (21, (gd (v2.Ahead != 0) true (.d (.list (List.map eMate p1.Mates))))), (22, (gd (v2.Ahead != 0) true (.d (i64 x1)))), (23, (gd (v2.Ahead != 0) true (.d (.list (List.map eMate v3))))), (24, (gd (v2.Ahead != 0) true (.ptr (4, u6) 4))), (25, (gd (v2.Ahead != 0) true (.d (i64 v2.Ahead)))), (26, (gd (v2.Ahead != 0) true (.ptr (4, u6) 5))), (27, (gd (v2.Ahead != 0) true (.d (.agg [(i64 v2.Guess_.R), (i64 v2.Guess_.V)])))), (28, (gd (v2.Ahead != 0) true (.d (bo v4)))), (29, (gd (v2.Ahead != 0) true (.d (bo (!v4)))))], G [((1, u1), some (.box 38 [(.d (i64 p1.Tick)), (.d (i64 p1.Gap)), (.d (.list (List.map eMate p1.Mates))), (.d (i64 p1.Guest_.ID)), (.d (i64 p1.Guest_.S)), (.d (i64 p1.Guest_.V)), (.d (i64 p1.Guest_.Len)), (.d (i64 p1.Guest_.End)), (.d (i64 p1.Guest_.Ahead)), (.d (i64 p1.Guest_.Guess_.R)), (.d (i64 p1.Guest_.Guess_.V)), (.d (i64 p1.Guest_.From)), (.d (i64 p1.Guest_.Until))])), ((4, u6), some (.box 65 [(.d (i64 v2.ID)), (.d (i64 v2.S)), (.d (i64 v2.V)), (.d (i64 v2.Len)), (.d (i64 v2.Ahead)), (.d (i64 v2.Guess_.R)), (.d (i64 v2.Guess_.V)), (.d (bo v2.Trust)), (.d (i64 v2.Ward)), (.d (i64 v2.WardGuess.R)), (.d (i64 v2.WardGuess.V)), (.d (i64 v2.Until))]))]⟩) (sb_of ⟨.of rfl, .of rfl, .of rfl, .of rfl, .of rfl, .of rfl, .of rfl, .of rfl, .of rfl, .of rfl, .of rfl, .of rfl, .of rfl, .of rfl, .of rfl, .of rfl, trivial⟩ (sbG_some (G_skip rfl (G_skip rfl G_hit)) (.of rfl) (sbG_some G_hit (.of rfl) trivial))) ?_
          refine l_draw rfl fun u9 hu9 => ?_
          refine s_val (.ptr _ _) rfl rfl ?_
          refine s_val (.d _) rfl (v_load rfl (G_skip rfl G_hit) rfl) ?_
          refine s_val (.d _) rfl rfl ?_
          refine s_val (.d _) rfl rfl ?_
          refine g_val (v2.Until != 0) (.ptr _ _) rfl (gw_t rfl) (fun w11 => rfl) ?_
          refine g_val (v2.Until != 0) (.d _) rfl (gw_t rfl) (fun w12 => (v_load (gd_pos w12) G_hit rfl)) ?_
          refine g_val (v2.Until != 0) (.d _) rfl (gw_t rfl) (fun w13 => rfl) ?_
          obtain ⟨v5, hv5, hz2⟩ := bind_some hz2
          refine g_val (v2.Until != 0) (.d _) rfl (gw_t rfl) (fun w14 => (v_sub (gd_pos w14) (fun _ => rfl) bd_beg (bd_x (gd_pos w14)) (cond_t w14 hv5))) ?_
          refine g_val (v2.Until != 0) (.ptr _ _) rfl (gw_t rfl) (fun w15 => rfl) ?_
          refine g_val (v2.Until != 0) (.d _) rfl (gw_t rfl) (fun w16 => (v_load (gd_pos w16) (G_skip rfl G_hit) rfl)) ?_
          obtain ⟨v6, hv6, hz2⟩ := bind_some hz2
          refine g_call (v2.Until != 0) (i64 v6) (gw_t rfl) (fun w17 => ⟨_, [(.d (.list (List.map eMate v5))), (.d (i64 v2.Ward))], _, _, (by simp only [gd_pos w17]; rfl), rfl, all2_refl, convoy_find_ok _ _  _ (cond_t w17 hv6), (.inl rfl)⟩) ?_
          refine g_val (v2.Until != 0) (.d _) rfl (gw_t rfl) (fun w18 => (v_bin (gd_pos w18) rfl rfl)) ?_
          refine s_val (.d _) rfl (v_and rfl (fun hc => gd_pos hc) rfl) ?_
          refine s_val (.d _) rfl rfl ?_
          refine g_val ((v2.Until != 0) && (decide (v6 ≥ 0))) (.ptr _ _) rfl (gw_t rfl) (fun w19 => rfl) ?_
          refine g_val ((v2.Until != 0) && (decide (v6 ≥ 0))) (.d _) rfl (gw_t rfl) (fun w20 => (v_load (gd_pos w20) G_hit rfl)) ?_
          refine g_val ((v2.Until != 0) && (decide (v6 ≥ 0))) (.d _) rfl (gw_t rfl) (fun w21 => rfl) ?_
          obtain ⟨v7, hv7, hz2⟩ := bind_some hz2
          refine g_val ((v2.Until != 0) && (decide (v6 ≥ 0))) (.d _) rfl (gw_t rfl) (fun w22 => (v_sub (gd_pos w22) (fun _ => rfl) bd_beg (bd_x (gd_pos w22)) (cond_t w22 hv7))) ?_
          refine g_val ((v2.Until != 0) && (decide (v6 ≥ 0))) (.ptr _ _) rfl (gw_t rfl) (fun w23 => rfl) ?_
          refine g_val ((v2.Until != 0) && (decide (v6 ≥ 0))) (.d _) rfl (gw_t rfl) (fun w24 => (v_load (gd_pos w24) (G_skip rfl G_hit) rfl)) ?_
          refine g_val ((v2.Until != 0) && (decide (v6 ≥ 0))) (.ptr _ _) rfl (gw_t rfl) (fun w25 => rfl) ?_
          refine g_val ((v2.Until != 0) && (decide (v6 ≥ 0))) (.d _) rfl (gw_t rfl) (fun w26 => (v_loadG (gd_pos w26) (G_skip rfl G_hit) rfl rfl)) ?_
          obtain ⟨v8, hv8, hz2⟩ := bind_some hz2
          refine g_call ((v2.Until != 0) && (decide (v6 ≥ 0))) (bo v8) (gw_t rfl) (fun w27 => ⟨_, [(.d (.list (List.map eMate v7))), (.d (i64 v2.Ward)), (.d (.agg [(i64 v2.WardGuess.R), (i64 v2.WardGuess.V)]))], _, _, (by simp only [gd_pos w27]; rfl), rfl, all2_refl, convoy_holds_ok _ _ _  _ (cond_t w27 hv8), (.inl rfl)⟩) ?_
          refine g_val ((v2.Until != 0) && (decide (v6 ≥ 0))) (.d _) rfl (gw_t rfl) (fun w28 => (by simp only [gd_pos w28]; rfl)) ?_
          refine s_val (.d _) rfl (v_and rfl (fun hc => gd_pos hc) rfl) ?_
          refine s_nil ?_
          refine l_cond (((v2.Until != 0) && (decide (v6 ≥ 0))) && (!v8)) rfl (fun c4 => ?_) (fun c4 => ?_)
          · replace hz2 := cond_t c4 hz2
            refine l_seq ?_
            refine l_sub (s0 := ⟨T [], G []⟩) (sb_of trivial trivial) ?_
            refine l_reg fun u10 hu10 => ?_
            refine s_val (.d _) rfl rfl ?_
            refine s_nil ?_
            refine l_ret ?_
            obtain rfl := Option.some.inj hz2
            obtain rfl := ez2 _ rfl
            refine ⟨nofun, awl_ret ?_⟩
            rw [Sum.elim_inr] at h
            obtain rfl := Option.some.inj h
            refine fin_ok (.inr rfl) (resD1 (res_t rfl) rf_d) ?_
            exact (.refl _)
          · replace hz2 := cond_f c4 hz2
            refine l_skip ?_
            refine l_seq ?_
            refine l_seq ?_
            refine l_sub (s0 := ⟨T [(1, (.ptr (1, u1) 0)), (3, (.d (i64 x1))), (4, (.ptr (4, u6) 0)), (9, (.d (.list (List.map eMate p1.Mates)))), (10, (.d (i64 (p1.Mates.length : Int)))), (11, (.d (i64 x1))), (20, (gd (v2.Ahead != 0) true (.ptr (1, u1) 2))), (21, (gd (v2.Ahead != 0) true (.d (.list (List.map eMate p1.Mates))))), (22, (gd (v2.Ahead != 0) true (.d (i64 x1)))), (23, (gd (v2.Ahead != 0) true (.d (.list (List.map eMate v3))))), (24, (gd (v2.Ahead != 0) true (.ptr (4, u6) 4))), (25, (gd (v2.Ahead != 0) true (.d (i64 v2.Ahead)))), (26, (gd (v2.Ahead != 0) true (.ptr (4, u6) 5))), (27, (gd (v2.Ahead != 0) true (.d (.agg [(i64 v2.Guess_.R), (i64 v2.Guess_.V)])))), (28, (gd (v2.Ahead != 0) true (.d (bo v4)))), (29, (gd (v2.Ahead != 0) true (.d (bo (!v4))))), (35, (gd (v2.Until != 0) true (.ptr (1, u1) 2))), (36, (gd (v2.Until != 0) true (.d (.list (List.map eMate p1.Mates))))), (37, (gd (v2.Until != 0) true (.d (i64 x1)))), (38, (gd (v2.Until != 0) true (.d (.list (List.map eMate v5))))), (39, (gd (v2.Until != 0) true (.ptr (4, u6) 8))), (40, (gd (v2.Until != 0) true (.d (i64 v2.Ward)))), (41, (gd (v2.Until != 0) true (.d (i64 v6)))), (42, (gd (v2.Until != 0) true (.d (bo (decide (v6 ≥ 0)))))), (45, (gd ((v2.Until != 0) && (decide (v6 ≥ 0))) true (.ptr (1, u1) 2))), (46, (gd ((v2.Until != 0) && (decide (v6 ≥ 0))) true (.d (.list (List.map eMate p1.Mates))))), (47, (gd ((v2.Until != 0) && (decide (v6 ≥ 0))) true (.d (i64 x1)))), (48, (gd ((v2.Until != 0) && (decide (v6 ≥ 0))) true (.d (.list (List.map eMate v7))))), (49, (gd ((v2.Until != 0) && (decide (v6 ≥ 0))) true (.ptr (4, u6) 8))), (50, (gd ((v2.Until != 0) && (decide (v6 ≥ 0))) true (.d (i64 v2.Ward)))), (51, (gd ((v2.Until != 0) && (decide (v6 ≥ 0))) true (.ptr (4, u6) 9))), (52, (gd ((v2.Until != 0) && (decide (v6 ≥ 0))) true (.d (.agg [(i64 v2.WardGuess.R), (i64 v2.WardGuess.V)])))), (53, (gd ((v2.Until != 0) && (decide (v6 ≥ 0))) true (.d (bo v8)))), (54, (gd ((v2.Until != 0) && (decide (v6 ≥ 0))) true (.d (bo (!v8)))))], G [((1, u1), some (.box 38 [(.d (i64 p1.Tick)), (.d (i64 p1.Gap)), (.d (.list (List.map eMate p1.Mates))), (.d (i64 p1.Guest_.ID)), (.d (i64 p1.Guest_.S)), (.d (i64 p1.Guest_.V)), (.d (i64 p1.Guest_.Len)), (.d (i64 p1.Guest_.End)), (.d (i64 p1.Guest_.Ahead)), (.d (i64 p1.Guest_.Guess_.R)), (.d (i64 p1.Guest_.Guess_.V)), (.d (i64 p1.Guest_.From)), (.d (i64 p1.Guest_.Until))])), ((4, u6), some (.box 65 [(.d (i64 v2.ID)), (.d (i64 v2.S)), (.d (i64 v2.V)), (.d (i64 v2.Len)), (.d (i64 v2.Ahead)), (.d (i64 v2.Guess_.R)), (.d (i64 v2.Guess_.V)), (.d (bo v2.Trust)), (.d (i64 v2.Ward)), (.d (i64 v2.WardGuess.R)), (.d (i64 v2.WardGuess.V)), (.d (i64 v2.Until))]))]⟩) (sb_of ⟨.of rfl, .of rfl, .of rfl, .of rfl, .of rfl, .of rfl, .of rfl, .of rfl, .of rfl, .of rfl, .of rfl, .of rfl, .of rfl, .of rfl, .of rfl, .of rfl, .of rfl, .of rfl, .of rfl, .of rfl, .of rfl, .of rfl, .of rfl, .of rfl, .of rfl, .of rfl, .of rfl, .of rfl, .of rfl, .of rfl, .of rfl, .of rfl, .of rfl, .of rfl, trivial⟩ (sbG_some G_hit (.of rfl) (sbG_some (G_skip rfl G_hit) (.of rfl) trivial))) ?_
            refine l_reg fun u11 hu11 => ?_
            refine s_val (.ptr _ _) rfl rfl ?_
            refine s_val (.d _) rfl (v_load rfl (G_skip rfl G_hit) rfl) ?_
            refine s_val (.d _) rfl rfl ?_
            refine s_val (.d _) rfl rfl ?_
            refine g_val (v2.Until != 0) (.ptr _ _) rfl (gw_t rfl) (fun w29 => rfl) ?_
            refine g_val (v2.Until != 0) (.d _) rfl (gw_t rfl) (fun w30 => (v_load (gd_pos w30) (G_skip rfl G_hit) rfl)) ?_
            refine g_val (v2.Until != 0) (.ptr _ _) rfl (gw_t rfl) (fun w31 => rfl) ?_
            refine g_val (v2.Until != 0) (.ptr _ _) rfl (gw_t rfl) (fun w32 => (by simp only [gd_pos w32]; rfl)) ?_
            refine g_val (v2.Until != 0) (.d _) rfl (gw_t rfl) (fun w33 => (v_load (gd_pos w33) G_hit rfl)) ?_
            refine g_val (v2.Until != 0) (.d _) rfl (gw_t rfl) (fun w34 => (v_bin (gd_pos w34) (gd_pos w34) rfl)) ?_
            refine s_val (.d _) rfl (v_and rfl (fun hc => gd_pos hc) rfl) ?_
            refine s_val (.d _) rfl rfl ?_
            refine g_val ((v2.Until != 0) && (v2.Ward == p1.Guest_.ID)) (.ptr _ _) rfl (gw_t rfl) (fun w35 => rfl) ?_
            refine g_val ((v2.Until != 0) && (v2.Ward == p1.Guest_.ID)) (.d _) rfl (gw_t rfl) (fun w36 => (v_loadG (gd_pos w36) (G_skip rfl G_hit) rfl rfl)) ?_
            refine g_val ((v2.Until != 0) && (v2.Ward == p1.Guest_.ID)) (.ptr _ _) rfl (gw_t rfl) (fun w37 => rfl) ?_
            refine g_val ((v2.Until != 0) && (v2.Ward == p1.Guest_.ID)) (.ptr _ _) rfl (gw_t rfl) (fun w38 => (by simp only [gd_pos w38]; rfl)) ?_
            refine g_val ((v2.Until != 0) && (v2.Ward == p1.Guest_.ID)) (.d _) rfl (gw_t rfl) (fun w39 => (v_load (gd_pos w39) G_hit rfl)) ?_
            refine g_val ((v2.Until != 0) && (v2.Ward == p1.Guest_.ID)) (.ptr _ _) rfl (gw_t rfl) (fun w40 => rfl) ?_
            refine g_val ((v2.Until != 0) && (v2.Ward == p1.Guest_.ID)) (.ptr _ _) rfl (gw_t rfl) (fun w41 => (by simp only [gd_pos w41]; rfl)) ?_
            refine g_val ((v2.Until != 0) && (v2.Ward == p1.Guest_.ID)) (.d _) rfl (gw_t rfl) (fun w42 => (v_load (gd_pos w42) G_hit rfl)) ?_
            refine g_val ((v2.Until != 0) && (v2.Ward == p1.Guest_.ID)) (.d _) rfl (gw_t rfl) (fun w43 => (v_bin (gd_pos w43) (gd_pos w43) rfl)) ?_
            refine g_val ((v2.Until != 0) && (v2.Ward == p1.Guest_.ID)) (.ptr _ _) rfl (gw_t rfl) (fun w44 => rfl) ?_
            refine g_val ((v2.Until != 0) && (v2.Ward == p1.Guest_.ID)) (.ptr _ _) rfl (gw_t rfl) (fun w45 => (by simp only [gd_pos w45]; rfl)) ?_
            refine g_val ((v2.Until != 0) && (v2.Ward == p1.Guest_.ID)) (.d _) rfl (gw_t rfl) (fun w46 => (v_load (gd_pos w46) G_hit rfl)) ?_
            obtain ⟨v9, hv9, hz2⟩ := bind_some hz2
            refine g_call ((v2.Until != 0) && (v2.Ward == p1.Guest_.ID)) (bo v9) (gw_t rfl) (fun w47 => ⟨_, [(.d (.agg [(i64 v2.WardGuess.R), (i64 v2.WardGuess.V)])), (.d (i64 (w64 (p1.Guest_.S - p1.Guest_.Len)))), (.d (i64 p1.Guest_.V))], _, _, (by simp only [gd_pos w47]; rfl), rfl, all2_refl, convoy_Below_ok _ _ _  _ (cond_t w47 hv9), (.inl rfl)⟩) ?_
            refine g_val ((v2.Until != 0) && (v2.Ward == p1.Guest_.ID)) (.d _) rfl (gw_t rfl) (fun w48 => (by simp only [gd_pos w48]; rfl)) ?_
            refine s_val (.d _) rfl (v_and rfl (fun hc => gd_pos hc) rfl) ?_
            refine s_nil ?_
            refine l_cond (((v2.Until != 0) && (v2.Ward == p1.Guest_.ID)) && (!v9)) rfl (fun c5 => ?_) (fun c5 => ?_)
            · replace hz2 := cond_t c5 hz2
              refine l_seq ?_
              refine l_sub (s0 := ⟨T [], G []⟩) (sb_of trivial trivial) ?_
              refine l_reg fun u12 hu12 => ?_
              refine s_val (.d _) rfl rfl ?_
              refine s_nil ?_
              refine l_ret ?_
              obtain rfl := Option.some.inj hz2
              obtain rfl := ez2 _ rfl
              refine ⟨nofun, awl_ret ?_⟩
              rw [Sum.elim_inr] at h
              obtain rfl := Option.some.inj h
              refine fin_ok (.inr rfl) (resD1 (res_t rfl) rf_d) ?_
              exact (.refl _)
            · replace hz2 := cond_f c5 hz2
              refine l_skip ?_
              refine l_seq ?_
              refine l_sub (s0 := ⟨T [(1, (.ptr (1, u1) 0)), (3, (.d (i64 x1))), (4, (.ptr (4, u6) 0)), (9, (.d (.list (List.map eMate p1.Mates)))), (10, (.d (i64 (p1.Mates.length : Int)))), (11, (.d (i64 x1))), (20, (gd (v2.Ahead != 0) true (.ptr (1, u1) 2))), (21, (gd (v2.Ahead != 0) true (.d (.list (List.map eMate p1.Mates))))), (22, (gd (v2.Ahead != 0) true (.d (i64 x1)))), (23, (gd (v2.Ahead != 0) true (.d (.list (List.map eMate v3))))), (24, (gd (v2.Ahead != 0) true (.ptr (4, u6) 4))), (25, (gd (v2.Ahead != 0) true (.d (i64 v2.Ahead)))), (26, (gd (v2.Ahead != 0) true (.ptr (4, u6) 5))), (27, (gd (v2.Ahead != 0) true (.d (.agg [(i64 v2.Guess_.R), (i64 v2.Guess_.V)])))), (28, (gd (v2.Ahead != 0) true (.d (bo v4)))), (29, (gd (v2.Ahead != 0) true (.d (bo (!v4))))), (35, (gd (v2.Until != 0) true (.ptr (1, u1) 2))), (36, (gd (v2.Until != 0) true (.d (.list (List.map eMate p1.Mates))))), (37, (gd (v2.Until != 0) true (.d (i64 x1)))), (38, (gd (v2.Until != 0) true (.d (.list (List.map eMate v5))))), (39, (gd (v2.Until != 0) true (.ptr (4, u6) 8))), (40, (gd (v2.Until != 0) true (.d (i64 v2.Ward)))), (41, (gd (v2.Until != 0) true (.d (i64 v6)))), (42, (gd (v2.Until != 0) true (.d (bo (decide (v6 ≥ 0)))))), (45, (gd ((v2.Until != 0) && (decide (v6 ≥ 0))) true (.ptr (1, u1) 2))), (46, (gd ((v2.Until != 0) && (decide (v6 ≥ 0))) true (.d (.list (List.map eMate p1.Mates))))), (47, (gd ((v2.Until != 0) && (decide (v6 ≥ 0))) true (.d (i64 x1)))), (48, (gd ((v2.Until != 0) && (decide (v6 ≥ 0))) true (.d (.list (List.map eMate v7))))), (49, (gd ((v2.Until != 0) && (decide (v6 ≥ 0))) true (.ptr (4, u6) 8))), (50, (gd ((v2.Until != 0) && (decide (v6 ≥ 0))) true (.d (i64 v2.Ward)))), (51, (gd ((v2.Until != 0) && (decide (v6 ≥ 0))) true (.ptr (4, u6) 9))), (52, (gd ((v2.Until != 0) && (decide (v6 ≥ 0))) true (.d (.agg [(i64 v2.WardGuess.R), (i64 v2.WardGuess.V)])))), (53, (gd ((v2.Until != 0) && (decide (v6 ≥ 0))) true (.d (bo v8)))), (54, (gd ((v2.Until != 0) && (decide (v6 ≥ 0))) true (.d (bo (!v8))))), (60, (gd (v2.Until != 0) true (.ptr (4, u6) 8))), (61, (gd (v2.Until != 0) true (.d (i64 v2.Ward)))), (62, (gd (v2.Until != 0) true (.ptr (1, u1) 3))), (63, (gd (v2.Until != 0) true (.ptr (1, u1) 3))), (64, (gd (v2.Until != 0) true (.d (i64 p1.Guest_.ID)))), (65, (gd (v2.Until != 0) true (.d (bo (v2.Ward == p1.Guest_.ID))))), (68, (gd ((v2.Until != 0) && (v2.Ward == p1.Guest_.ID)) true (.ptr (4, u6) 9))), (69, (gd ((v2.Until != 0) && (v2.Ward == p1.Guest_.ID)) true (.d (.agg [(i64 v2.WardGuess.R), (i64 v2.WardGuess.V)])))), (70, (gd ((v2.Until != 0) && (v2.Ward == p1.Guest_.ID)) true (.ptr (1, u1) 3))), (71, (gd ((v2.Until != 0) && (v2.Ward == p1.Guest_.ID)) true (.ptr (1, u1) 4))), (72, (gd ((v2.Until != 0) && (v2.Ward == p1.Guest_.ID)) true (.d (i64 p1.Guest_.S)))), (73, (gd ((v2.Until != 0) && (v2.Ward == p1.Guest_.ID)) true (.ptr (1, u1) 3))), (74, (gd ((v2.Until != 0) && (v2.Ward == p1.Guest_.ID)) true (.ptr (1, u1) 6))), (75, (gd ((v2.Until != 0) && (v2.Ward == p1.Guest_.ID)) true (.d (i64 p1.Guest_.Len)))), (76, (gd ((v2.Until != 0) && (v2.Ward == p1.Guest_.ID)) true (.d (i64 (w64 (p1.Guest_.S - p1.Guest_.Len)))))), (77, (gd ((v2.Until != 0) && (v2.Ward == p1.Guest_.ID)) true (.ptr (1, u1) 3))), (78, (gd ((v2.Until != 0) && (v2.Ward == p1.Guest_.ID)) true (.ptr (1, u1) 5))), (79, (gd ((v2.Until != 0) && (v2.Ward == p1.Guest_.ID)) true (.d (i64 p1.Guest_.V)))), (80, (gd ((v2.Until != 0) && (v2.Ward == p1.Guest_.ID)) true (.d (bo v9)))), (81, (gd ((v2.Until != 0) && (v2.Ward == p1.Guest_.ID)) true (.d (bo (!v9)))))], G [((1, u1), some (.box 38 [(.d (i64 p1.Tick)), (.d (i64 p1.Gap)), (.d (.list (List.map eMate p1.Mates))), (.d (i64 p1.Guest_.ID)), (.d (i64 p1.Guest_.S)), (.d (i64 p1.Guest_.V)), (.d (i64 p1.Guest_.Len)), (.d (i64 p1.Guest_.End)), (.d (i64 p1.Guest_.Ahead)), (.d (i64 p1.Guest_.Guess_.R)), (.d (i64 p1.Guest_.Guess_.V)), (.d (i64 p1.Guest_.From)), (.d (i64 p1.Guest_.Until))])), ((4, u6), some (.box 65 [(.d (i64 v2.ID)), (.d (i64 v2.S)), (.d (i64 v2.V)), (.d (i64 v2.Len)), (.d (i64 v2.Ahead)), (.d (i64 v2.Guess_.R)), (.d (i64 v2.Guess_.V)), (.d (bo v2.Trust)), (.d (i64 v2.Ward)), (.d (i64 v2.WardGuess.R)), (.d (i64 v2.WardGuess.V)), (.d (i64 v2.Until))]))]⟩) (sb_of ⟨.of rfl, .of rfl, .of rfl, .of rfl, .of rfl, .of rfl, .of rfl, .of rfl, .of rfl, .of rfl, .of rfl, .of rfl, .of rfl, .of rfl, .of rfl, .of rfl, .of rfl, .of rfl, .of rfl, .of rfl, .of rfl, .of rfl, .of rfl, .of rfl, .of rfl, .of rfl, .of rfl, .of rfl, .of rfl, .of rfl, .of rfl, .of rfl, .of rfl, .of rfl, .of rfl, .of rfl, .of rfl, .of rfl, .of rfl, .of rfl, .of rfl, .of rfl, .of rfl, .of rfl, .of rfl, .of rfl, .of rfl, .of rfl, .of rfl, .of rfl, .of rfl, .of rfl, .of rfl, .of rfl, trivial⟩ (sbG_some G_hit (.of rfl) (sbG_some (G_skip rfl G_hit) (.of rfl) trivial))) ?_
              refine l_draw rfl fun u13 hu13 => ?_
              refine s_val (.d _) rfl rfl ?_
              refine s_val (.d _) rfl rfl ?_
              refine s_val (.d _) rfl rfl ?_
              refine g_val (decide (x1 > 0)) (.ptr _ _) rfl (gw_t rfl) (fun w49 => rfl) ?_
              refine g_val (decide (x1 > 0)) (.d _) rfl (gw_t rfl) (fun w50 => (v_load (gd_pos w50) G_hit rfl)) ?_
              refine g_val (decide (x1 > 0)) (.d _) rfl (gw_t rfl) (fun w51 => rfl) ?_
              refine g_val (decide (x1 > 0)) (.d _) rfl (gw_t rfl) (fun w52 => (v_bin (gd_pos w52) rfl rfl)) ?_
              obtain ⟨v10, hv10, hz2⟩ := bind_some hz2
              refine g_val (decide (x1 > 0)) (.d _) rfl (gw_t rfl) (fun w53 => (v_idx (gd_pos w53) (gd_pos w53) (cond_t w53 hv10) rfl)) ?_
              refine g_val (decide (x1 > 0)) (.d _) rfl (gw_t rfl) (fun w54 => (by simp only [gd_pos w54]; rfl)) ?_
              refine g_val (decide (x1 > 0)) (.d _) rfl (gw_t rfl) (fun w55 => (v_loadL (gd_pos w55) (cond_t w55 hv10) rfl)) ?_
              refine g_val (decide (x1 > 0)) (.ptr _ _) rfl (gw_t rfl) (fun w56 => rfl) ?_
              refine g_val (decide (x1 > 0)) (.d _) rfl (gw_t rfl) (fun w57 => (v_load (gd_pos w57) (G_skip rfl G_hit) rfl)) ?_
              refine g_val (decide (x1 > 0)) (.d _) rfl (gw_t rfl) (fun w58 => (v_bin (gd_pos w58) (gd_pos w58) rfl)) ?_
              refine s_val (.d _) rfl (v_and rfl (fun hc => gd_pos hc) rfl) ?_
              refine s_val (.d _) rfl rfl ?_
              refine g_val ((decide (x1 > 0)) && (v10.ID != v2.Ahead)) (.ptr _ _) rfl (gw_t rfl) (fun w59 => rfl) ?_
              refine g_val ((decide (x1 > 0)) && (v10.ID != v2.Ahead)) (.d _) rfl (gw_t rfl) (fun w60 => (v_load (gd_pos w60) (G_skip rfl G_hit) rfl)) ?_
              refine g_val ((decide (x1 > 0)) && (v10.ID != v2.Ahead)) (.d _) rfl (gw_t rfl) (fun w61 => (v_bin (gd_pos w61) rfl rfl)) ?_
              refine g_val ((decide (x1 > 0)) && (v10.ID != v2.Ahead)) (.d _) rfl (gw_t rfl) (fun w62 => (v_mv (gd_pos w62))) ?_
              refine g_val (((decide (x1 > 0)) && (v10.ID != v2.Ahead)) && (!(v2.Until == 0))) (.ptr _ _) rfl (gw_gf rfl) (fun w63 => rfl) ?_
              refine g_val (((decide (x1 > 0)) && (v10.ID != v2.Ahead)) && (!(v2.Until == 0))) (.d _) rfl (gw_gf rfl) (fun w64 => (v_load (gd_pos w64) G_hit rfl)) ?_
              refine g_val (((decide (x1 > 0)) && (v10.ID != v2.Ahead)) && (!(v2.Until == 0))) (.d _) rfl (gw_gf rfl) (fun w65 => rfl) ?_
              refine g_val (((decide (x1 > 0)) && (v10.ID != v2.Ahead)) && (!(v2.Until == 0))) (.d _) rfl (gw_gf rfl) (fun w66 => (v_bin (gd_pos w66) rfl rfl)) ?_
              obtain ⟨v11, hv11, hz2⟩ := bind_some hz2
              refine g_val (((decide (x1 > 0)) && (v10.ID != v2.Ahead)) && (!(v2.Until == 0))) (.d _) rfl (gw_gf rfl) (fun w67 => (v_idx (gd_pos w67) (gd_pos w67) (cond_t w67 hv11) rfl)) ?_
              refine g_val (((decide (x1 > 0)) && (v10.ID != v2.Ahead)) && (!(v2.Until == 0))) (.d _) rfl (gw_gf rfl) (fun w68 => (by simp only [gd_pos w68]; rfl)) ?_
              refine g_val (((decide (x1 > 0)) && (v10.ID != v2.Ahead)) && (!(v2.Until == 0))) (.d _) rfl (gw_gf rfl) (fun w69 => (v_loadL (gd_pos w69) (cond_t w69 hv11) rfl)) ?_
              refine g_val (((decide (x1 > 0)) && (v10.ID != v2.Ahead)) && (!(v2.Until == 0))) (.ptr _ _) rfl (gw_gf rfl) (fun w70 => rfl) ?_
              refine g_val (((decide (x1 > 0)) && (v10.ID != v2.Ahead)) && (!(v2.Until == 0))) (.d _) rfl (gw_gf rfl) (fun w71 => (v_load (gd_pos w71) (G_skip rfl G_hit) rfl)) ?_
              refine g_val (((decide (x1 > 0)) && (v10.ID != v2.Ahead)) && (!(v2.Until == 0))) (.d _) rfl (gw_gf rfl) (fun w72 => (v_bin (gd_pos w72) (gd_pos w72) rfl)) ?_
              refine g_val ((decide (x1 > 0)) && (v10.ID != v2.Ahead)) (.d _) rfl (gw_t rfl) (fun w73 => (v_or (gd_pos w73) rfl (fun hc => gd_pos (and_i w73 (not_t hc))))) ?_
              refine s_val (.d _) rfl (v_and rfl (fun hc => gd_pos hc) rfl) ?_
              refine s_nil ?_
              refine l_cond (((decide (x1 > 0)) && (v10.ID != v2.Ahead)) && ((v2.Until == 0) || (v11.ID != v2.Ward))) rfl (fun c6 => ?_) (fun c6 => ?_)
              · replace hz2 := cond_t c6 hz2
                refine l_seq ?_
                refine l_sub (s0 := ⟨T [], G []⟩) (sb_of trivial trivial) ?_
                refine l_reg fun u14 hu14 => ?_
                refine s_val (.d _) rfl rfl ?_
                refine s_nil ?_
                refine l_ret ?_
                obtain rfl := Option.some.inj hz2
                obtain rfl := ez2 _ rfl
                refine ⟨nofun, awl_ret ?_⟩
                rw [Sum.elim_inr] at h
                obtain rfl := Option.some.inj h
                refine fin_ok (.inr rfl) (resD1 (res_t rfl) rf_d) ?_
                exact (.refl _)
              · replace hz2 := cond_f c6 hz2
                refine l_skip ?_
                refine l_end ?_
                refine l_sub (s0 := ⟨T [(1, (.ptr (1, u1) 0)), (9, (.d (.list (List.map eMate p1.Mates)))), (10, (.d (i64 (p1.Mates.length : Int)))), (11, (.d (i64 x1))), (20, (gd (v2.Ahead != 0) true (.ptr (1, u1) 2))), (21, (gd (v2.Ahead != 0) true (.d (.list (List.map eMate p1.Mates))))), (22, (gd (v2.Ahead != 0) true (.d (i64 x1)))), (23, (gd (v2.Ahead != 0) true (.d (.list (List.map eMate v3))))), (24, (gd (v2.Ahead != 0) true (.ptr (4, u6) 4))), (25, (gd (v2.Ahead != 0) true (.d (i64 v2.Ahead)))), (26, (gd (v2.Ahead != 0) true (.ptr (4, u6) 5))), (27, (gd (v2.Ahead != 0) true (.d (.agg [(i64 v2.Guess_.R), (i64 v2.Guess_.V)])))), (28, (gd (v2.Ahead != 0) true (.d (bo v4)))), (29, (gd (v2.Ahead != 0) true (.d (bo (!v4))))), (35, (gd (v2.Until != 0) true (.ptr (1, u1) 2))), (36, (gd (v2.Until != 0) true (.d (.list (List.map eMate p1.Mates))))), (37, (gd (v2.Until != 0) true (.d (i64 x1)))), (38, (gd (v2.Until != 0) true (.d (.list (List.map eMate v5))))), (39, (gd (v2.Until != 0) true (.ptr (4, u6) 8))), (40, (gd (v2.Until != 0) true (.d (i64 v2.Ward)))), (41, (gd (v2.Until != 0) true (.d (i64 v6)))), (42, (gd (v2.Until != 0) true (.d (bo (decide (v6 ≥ 0)))))), (45, (gd ((v2.Until != 0) && (decide (v6 ≥ 0))) true (.ptr (1, u1) 2))), (46, (gd ((v2.Until != 0) && (decide (v6 ≥ 0))) true (.d (.list (List.map eMate p1.Mates))))), (47, (gd ((v2.Until != 0) && (decide (v6 ≥ 0))) true (.d (i64 x1)))), (48, (gd ((v2.Until != 0) && (decide (v6 ≥ 0))) true (.d (.list (List.map eMate v7))))), (49, (gd ((v2.Until != 0) && (decide (v6 ≥ 0))) true (.ptr (4, u6) 8))), (50, (gd ((v2.Until != 0) && (decide (v6 ≥ 0))) true (.d (i64 v2.Ward)))), (51, (gd ((v2.Until != 0) && (decide (v6 ≥ 0))) true (.ptr (4, u6) 9))), (52, (gd ((v2.Until != 0) && (decide (v6 ≥ 0))) true (.d (.agg [(i64 v2.WardGuess.R), (i64 v2.WardGuess.V)])))), (53, (gd ((v2.Until != 0) && (decide (v6 ≥ 0))) true (.d (bo v8)))), (54, (gd ((v2.Until != 0) && (decide (v6 ≥ 0))) true (.d (bo (!v8))))), (60, (gd (v2.Until != 0) true (.ptr (4, u6) 8))), (61, (gd (v2.Until != 0) true (.d (i64 v2.Ward)))), (62, (gd (v2.Until != 0) true (.ptr (1, u1) 3))), (63, (gd (v2.Until != 0) true (.ptr (1, u1) 3))), (64, (gd (v2.Until != 0) true (.d (i64 p1.Guest_.ID)))), (65, (gd (v2.Until != 0) true (.d (bo (v2.Ward == p1.Guest_.ID))))), (68, (gd ((v2.Until != 0) && (v2.Ward == p1.Guest_.ID)) true (.ptr (4, u6) 9))), (69, (gd ((v2.Until != 0) && (v2.Ward == p1.Guest_.ID)) true (.d (.agg [(i64 v2.WardGuess.R), (i64 v2.WardGuess.V)])))), (70, (gd ((v2.Until != 0) && (v2.Ward == p1.Guest_.ID)) true (.ptr (1, u1) 3))), (71, (gd ((v2.Until != 0) && (v2.Ward == p1.Guest_.ID)) true (.ptr (1, u1) 4))), (72, (gd ((v2.Until != 0) && (v2.Ward == p1.Guest_.ID)) true (.d (i64 p1.Guest_.S)))), (73, (gd ((v2.Until != 0) && (v2.Ward == p1.Guest_.ID)) true (.ptr (1, u1) 3))), (74, (gd ((v2.Until != 0) && (v2.Ward == p1.Guest_.ID)) true (.ptr (1, u1) 6))), (75, (gd ((v2.Until != 0) && (v2.Ward == p1.Guest_.ID)) true (.d (i64 p1.Guest_.Len)))), (76, (gd ((v2.Until != 0) && (v2.Ward == p1.Guest_.ID)) true (.d (i64 (w64 (p1.Guest_.S - p1.Guest_.Len)))))), (77, (gd ((v2.Until != 0) && (v2.Ward == p1.Guest_.ID)) true (.ptr (1, u1) 3))), (78, (gd ((v2.Until != 0) && (v2.Ward == p1.Guest_.ID)) true (.ptr (1, u1) 5))), (79, (gd ((v2.Until != 0) && (v2.Ward == p1.Guest_.ID)) true (.d (i64 p1.Guest_.V)))), (80, (gd ((v2.Until != 0) && (v2.Ward == p1.Guest_.ID)) true (.d (bo v9)))), (81, (gd ((v2.Until != 0) && (v2.Ward == p1.Guest_.ID)) true (.d (bo (!v9))))), (86, (gd (decide (x1 > 0)) true (.ptr (1, u1) 2))), (87, (gd (decide (x1 > 0)) true (.d (.list (List.map eMate p1.Mates))))), (88, (gd (decide (x1 > 0)) true (.d (i64 x1)))), (89, (gd (decide (x1 > 0)) true (.d (i64 (w64 (x1 - 1)))))), (90, (gd (decide (x1 > 0)) true (.d (.lp (List.map eMate p1.Mates) ((w64 (x1 - 1))).toNat 0)))), (91, (gd (decide (x1 > 0)) true (.d (.lp (List.map eMate p1.Mates) ((w64 (x1 - 1))).toNat 0)))), (92, (gd (decide (x1 > 0)) true (.d (i64 v10.ID)))), (93, (gd (decide (x1 > 0)) true (.ptr (4, u6) 4))), (94, (gd (decide (x1 > 0)) true (.d (i64 v2.Ahead)))), (95, (gd (decide (x1 > 0)) true (.d (bo (v10.ID != v2.Ahead))))), (98, (gd ((decide (x1 > 0)) && (v10.ID != v2.Ahead)) true (.ptr (4, u6) 11))), (99, (gd ((decide (x1 > 0)) && (v10.ID != v2.Ahead)) true (.d (i64 v2.Until)))), (100, (gd ((decide (x1 > 0)) && (v10.ID != v2.Ahead)) true (.d (bo (v2.Until == 0))))), (101, (gd ((decide (x1 > 0)) && (v10.ID != v2.Ahead)) true (.d (bo (v2.Until == 0))))), (102, (gd (((decide (x1 > 0)) && (v10.ID != v2.Ahead)) && (!(v2.Until == 0))) true (.ptr (1, u1) 2))), (103, (gd (((decide (x1 > 0)) && (v10.ID != v2.Ahead)) && (!(v2.Until == 0))) true (.d (.list (List.map eMate p1.Mates))))), (104, (gd (((decide (x1 > 0)) && (v10.ID != v2.Ahead)) && (!(v2.Until == 0))) true (.d (i64 x1)))), (105, (gd (((decide (x1 > 0)) && (v10.ID != v2.Ahead)) && (!(v2.Until == 0))) true (.d (i64 (w64 (x1 - 1)))))), (106, (gd (((decide (x1 > 0)) && (v10.ID != v2.Ahead)) && (!(v2.Until == 0))) true (.d (.lp (List.map eMate p1.Mates) ((w64 (x1 - 1))).toNat 0)))), (107, (gd (((decide (x1 > 0)) && (v10.ID != v2.Ahead)) && (!(v2.Until == 0))) true (.d (.lp (List.map eMate p1.Mates) ((w64 (x1 - 1))).toNat 0)))), (108, (gd (((decide (x1 > 0)) && (v10.ID != v2.Ahead)) && (!(v2.Until == 0))) true (.d (i64 v11.ID)))), (109, (gd (((decide (x1 > 0)) && (v10.ID != v2.Ahead)) && (!(v2.Until == 0))) true (.ptr (4, u6) 8))), (110, (gd (((decide (x1 > 0)) && (v10.ID != v2.Ahead)) && (!(v2.Until == 0))) true (.d (i64 v2.Ward)))), (111, (gd (((decide (x1 > 0)) && (v10.ID != v2.Ahead)) && (!(v2.Until == 0))) true (.d (bo (v11.ID != v2.Ward))))), (112, (gd ((decide (x1 > 0)) && (v10.ID != v2.Ahead)) true (.d (bo ((v2.Until == 0) || (v11.ID != v2.Ward))))))], G [((1, u1), some (.box 38 [(.d (i64 p1.Tick)), (.d (i64 p1.Gap)), (.d (.list (List.map eMate p1.Mates))), (.d (i64 p1.Guest_.ID)), (.d (i64 p1.Guest_.S)), (.d (i64 p1.Guest_.V)), (.d (i64 p1.Guest_.Len)), (.d (i64 p1.Guest_.End)), (.d (i64 p1.Guest_.Ahead)), (.d (i64 p1.Guest_.Guess_.R)), (.d (i64 p1.Guest_.Guess_.V)), (.d (i64 p1.Guest_.From)), (.d (i64 p1.Guest_.Until))])), ((4, u6), some (.box 65 [(.d (i64 v2.ID)), (.d (i64 v2.S)), (.d (i64 v2.V)), (.d (i64 v2.Len)), (.d (i64 v2.Ahead)), (.d (i64 v2.Guess_.R)), (.d (i64 v2.Guess_.V)), (.d (bo v2.Trust)), (.d (i64 v2.Ward)), (.d (i64 v2.WardGuess.R)), (.d (i64 v2.WardGuess.V)), (.d (i64 v2.Until))]))]⟩) (sb_of ⟨.of rfl, .of rfl, .of rfl, .of rfl, .of rfl, .of rfl, .of rfl, .of rfl, .of rfl, .of rfl, .of rfl, .of rfl, .of rfl, .of rfl, .of rfl, .of rfl, .of rfl, .of rfl, .of rfl, .of rfl, .of rfl, .of rfl, .of rfl, .of rfl, .of rfl, .of rfl, .of rfl, .of rfl, .of rfl, .of rfl, .of rfl, .of rfl, .of rfl, .of rfl, .of rfl, .of rfl, .of rfl, .of rfl, .of rfl, .of rfl, .of rfl, .of rfl, .of rfl, .of rfl, .of rfl, .of rfl, .of rfl, .of rfl, .of rfl, .of rfl, .of rfl, .of rfl, .of rfl, .of rfl, .of rfl, .of rfl, .of rfl, .of rfl, .of rfl, .of rfl, .of rfl, .of rfl, .of rfl, .of rfl, .of rfl, .of rfl, .of rfl, .of rfl, .of rfl, .of rfl, .of rfl, .of rfl, .of rfl, .of rfl, .of rfl, .of rfl, .of rfl, trivial⟩ (sbG_some G_hit (.of rfl) (sbG_some (G_skip rfl G_hit) (.of rfl) trivial))) ?_
                refine l_reg fun u15 hu15 => ?_
                refine s_val (.d _) rfl rfl ?_
                refine s_val (.d _) rfl rfl ?_
                refine s_nil ?_
                refine l_nil ?_
                obtain rfl := Option.some.inj hz2
                exact ⟨rfl, (), (sb_of ⟨.of rfl, .of rfl, .of rfl, .of rfl, trivial⟩ (sbG_some G_hit (.of rfl) trivial))⟩
      · replace hz2 := cond_f c2 hz2
        refine l_exitN rfl ?_
        obtain rfl := Option.some.inj hz2
        obtain rfl := ez2 _ rfl
        refine ⟨nofun, awl_pop rfl (l_j ?_)⟩
        exact ⟨_, (), rfl, (sb_of ⟨.of rfl, trivial⟩ (sbG_some G_hit (.of rfl) trivial))⟩
    · rintro _ ⟨y1, g1, rfl, q1⟩
      rw [Sum.elim_inl] at h
      refine l_sub q1 ?_
      refine l_seq ?_
      refine l_reg fun u16 hu16 => ?_
      refine s_val (.ptr _ _) rfl rfl ?_
      refine s_val (.ptr _ _) rfl rfl ?_
      refine s_val (.d _) rfl (v_load rfl G_hit rfl) ?_
      refine s_val (.d _) rfl rfl ?_
      refine s_val (.d _) rfl rfl ?_
      refine g_val (!(p1.Guest_.Ahead == 0)) (.ptr _ _) rfl (gw_f rfl) (fun w74 => rfl) ?_
      refine g_val (!(p1.Guest_.Ahead == 0)) (.d _) rfl (gw_f rfl) (fun w75 => (v_load (gd_pos w75) G_hit rfl)) ?_
      refine g_val (!(p1.Guest_.Ahead == 0)) (.ptr _ _) rfl (gw_f rfl) (fun w76 => rfl) ?_
      refine g_val (!(p1.Guest_.Ahead == 0)) (.ptr _ _) rfl (gw_f rfl) (fun w77 => (by simp only [gd_pos w77]; rfl)) ?_
      refine g_val (!(p1.Guest_.Ahead == 0)) (.d _) rfl (gw_f rfl) (fun w78 => (v_load (gd_pos w78) G_hit rfl)) ?_
      refine g_val (!(p1.Guest_.Ahead == 0)) (.ptr _ _) rfl (gw_f rfl) (fun w79 => rfl) ?_
      refine g_val (!(p1.Guest_.Ahead == 0)) (.ptr _ _) rfl (gw_f rfl) (fun w80 => (by simp only [gd_pos w80]; rfl)) ?_
      refine g_val (!(p1.Guest_.Ahead == 0)) (.d _) rfl (gw_f rfl) (fun w81 => (v_loadG (gd_pos w81) G_hit rfl rfl)) ?_
      obtain ⟨v12, hv12, h⟩ := bind_some h
      refine g_call (!(p1.Guest_.Ahead == 0)) (bo v12) (gw_f rfl) (fun w82 => ⟨_, [(.d (.list (List.map eMate p1.Mates))), (.d (i64 p1.Guest_.Ahead)), (.d (.agg [(i64 p1.Guest_.Guess_.R), (i64 p1.Guest_.Guess_.V)]))], _, _, (by simp only [gd_pos w82]; rfl), rfl, all2_refl, convoy_holds_ok _ _ _  _ (cond_t w82 hv12), (.inl rfl)⟩) ?_
      refine s_val (.d _) rfl (v_or rfl rfl (fun hc => gd_pos (not_t hc))) ?_
      refine s_val (.d _) rfl rfl ?_
      refine s_nil ?_
      refine l_ret ?_
      obtain rfl := Option.some.inj h
      refine fin_ok (.inr rfl) (resD1 (res_t rfl) rf_d) ?_
      exact (.refl _)

noncomputable def convoy_Gaps_l1 (p1 : Convoy) (x1 : ((List Int) × Int)) : Option (Stp ((List Int) × Int) (List Int)) :=
  cond (decide (x1.2 < (p1.Mates.length : Int))) ((geti p1.Mates (w64 (x1.2 - 1))).bind fun v2 => (convoy_rear v2).bind fun v3 => (geti p1.Mates x1.2).bind fun v4 => (appc x1.1 [(w64 (v3 - v4.S))]).bind fun v5 => some (.go (v5, (w64 (x1.2 + 1))))) (some (.out x1.1))
noncomputable def convoy_Gaps (p1 : Convoy) : Option (List Int) :=
  (convoy_Check p1).bind fun v1 => cond (v1 != 0) (some []) ((loop (convoy_Gaps_l1 p1) ([], 1)).bind fun y1 => some y1)

/-- kerbstone/convoy.Gaps -/
def ac_convoy_Gaps : AC :=
  (.seq (.reg [⟨(some 1), .box 38 true (.t 0), none⟩, ⟨(some 2), .mv (.c .nilS), none⟩])
  (.seq (.seq (.reg [⟨(some 5), .load 13 true (.t 1), none⟩, ⟨(some 6), .call (.c (.fn (.func 32) [] [])) [(.t 5)], none⟩, ⟨(some 7), .bin .neq (.t 6) (.c (.v (.int .i64 0))), none⟩])
  (.cond (.t 7)
    (.seq (.reg [⟨(some 2), .mv (.c .nilS), none⟩])
    .ret)
    .skip))
  (.seq (.reg [⟨(some 3), .mv (.c .nilS), none⟩])
  (.seq (.seq (.reg [⟨(some 4), .mv (.c (.v (.int .i64 1))), none⟩])
  (.block 0
    (.loop
      (.seq (.seq (.reg [⟨(some 8), .mv (.t 4), none⟩, ⟨(some 9), .fieldA 2 (.t 1), none⟩, ⟨(some 10), .load 1 false (.t 9), none⟩, ⟨(some 11), .len (.t 10), none⟩, ⟨(some 12), .bin .lss (.t 8) (.t 11), none⟩])
      (.cond (.t 12)
        .skip
        (.exit 0)))
      (.seq (.block 1
        (.draw [⟨(some 15), .mv (.t 3), none⟩, ⟨(some 16), .fieldA 2 (.t 1), none⟩, ⟨(some 17), .load 1 false (.t 16), none⟩, ⟨(some 18), .mv (.t 4), none⟩, ⟨(some 19), .bin .sub (.t 18) (.c (.v (.int .i64 1))), none⟩, ⟨(some 20), .idxS 12 (.t 17) (.t 19), none⟩, ⟨(some 21), .load 12 true (.t 20), none⟩, ⟨(some 22), .call (.c (.fn (.func 67) [] [])) [(.t 21)], none⟩, ⟨(some 23), .fieldA 2 (.t 1), none⟩, ⟨(some 24), .load 1 false (.t 23), none⟩, ⟨(some 25), .mv (.t 4), none⟩, ⟨(some 26), .idxS 12 (.t 24) (.t 25), none⟩, ⟨(some 27), .fieldA 1 (.t 26), none⟩, ⟨(some 28), .load 1 false (.t 27), none⟩, ⟨(some 29), .bin .sub (.t 22) (.t 28), none⟩, ⟨(some 30), .dslice 2 1 1 [(.v (.int .i64 0))] [(0, 1, (.t 29))], none⟩, ⟨(some 31), .append 39 2 1 (.t 15) (.t 30), none⟩, ⟨(some 3), .mv (.t 31), none⟩] []))
      (.reg [⟨(some 13), .mv (.t 4), none⟩, ⟨(some 14), .bin .add (.t 13) (.c (.v (.int .i64 1))), none⟩, ⟨(some 4), .mv (.t 14), none⟩]))))))
  (.seq (.reg [⟨(some 32), .mv (.t 3), none⟩, ⟨(some 2), .mv (.t 32), none⟩])
  .ret)))))
theorem fn_convoy_Gaps : FnOK Try.prog 37 33 [.t 2] ac_convoy_Gaps := ⟨_, _, Try.func37, rfl, Try.ntmps37, by kernel_rfl, ⟨fun r => if r == 7 then [1015] else [], by kernel_rfl⟩, by kernel_rfl⟩
set_option maxHeartbeats 4000000 in
theorem convoy_Gaps_ok (p1 : Convoy) (r : (List Int)) (h : convoy_Gaps p1 = some r) : PCall Try.prog 37 [(.agg [(i64 p1.Tick), (i64 p1.Gap), (.list (List.map eMate p1.Mates)), (i64 p1.Guest_.ID), (i64 p1.Guest_.S), (i64 p1.Guest_.V), (i64 p1.Guest_.Len), (i64 p1.Guest_.End), (i64 p1.Guest_.Ahead), (i64 p1.Guest_.Guess_.R), (i64 p1.Guest_.Guess_.V), (i64 p1.Guest_.From), (i64 p1.Guest_.Until)])] (.list (List.map eInt_i64 r)) := by
  refine l_call fn_convoy_Gaps (Nat.le_of_ble_eq_true rfl) ?_
  unfold convoy_Gaps at h
  unfold ac_convoy_Gaps
  refine (l_sub (s0 := ⟨T [(0, (.d (.agg [(i64 p1.Tick), (i64 p1.Gap), (.list (List.map eMate p1.Mates)), (i64 p1.Guest_.ID), (i64 p1.Guest_.S), (i64 p1.Guest_.V), (i64 p1.Guest_.Len), (i64 p1.Guest_.End), (i64 p1.Guest_.Ahead), (i64 p1.Guest_.Guess_.R), (i64 p1.Guest_.Guess_.V), (i64 p1.Guest_.From), (i64 p1.Guest_.Until)])))], G []⟩) (sb_of ⟨.of rfl, trivial⟩ trivial) ?_)
  refine l_seq ?_
  refine l_reg fun u1 hu1 => ?_
  refine s_new (.ptr _ _) (.box _ _) rfl rfl ?_
  refine s_val (.d _) rfl rfl ?_
  refine s_nil ?_
  refine l_seq ?_
  refine l_seq ?_
  refine l_reg fun u2 hu2 => ?_
  refine s_val (.d _) rfl (v_loadG rfl G_hit rfl rfl) ?_
  obtain ⟨v1, hv1, h⟩ := bind_some h
  refine s_call rfl rfl all2_refl (convoy_Check_ok _  _ hv1) (.inl rfl) ?_
  refine s_val (.d _) rfl rfl ?_
  refine s_nil ?_
  refine l_cond (v1 != 0) rfl (fun c1 => ?_) (fun c1 => ?_)
  · replace h := cond_t c1 h
    refine l_seq ?_
    refine l_reg fun u3 hu3 => ?_
    refine s_val (.d _) rfl rfl ?_
    refine s_nil ?_
    refine l_ret ?_
    obtain rfl := Option.some.inj h
    refine fin_ok (.inr rfl) (resD1 (res_t rfl) rf_d) ?_
    exact DLe.nil
  · replace h := cond_f c1 h
    refine l_skip ?_
    refine l_seq ?_
    refine l_reg fun u4 hu4 => ?_
    refine s_val (.d _) rfl rfl ?_
    refine s_nil ?_
    refine l_seq ?_
    refine l_seq ?_
    refine l_reg fun u5 hu5 => ?_
    refine s_val (.d _) rfl rfl ?_
    refine s_nil ?_
    obtain ⟨y1, hy1, h⟩ := bind_some h
    refine l_join (fun s => ∃ g1 : Nat, Sb ⟨T [(3, (oS y1 (31, g1)))], G [((31, g1), oB 2 1 eInt_i64 y1)]⟩ s) ?_ ?_
    · skip
      refine l_block ?_
      refine l_loop (convoy_Gaps_l1 p1) (fun (x1 : ((List Int) × Int)) (g2 : Nat) => ⟨T [(1, (.ptr (1, u1) 0)), (3, (oS x1.1 (31, g2))), (4, (.d (i64 x1.2)))], G [((1, u1), some (.box 38 [(.d (i64 p1.Tick)), (.d (i64 p1.Gap)), (.d (.list (List.map eMate p1.Mates))), (.d (i64 p1.Guest_.ID)), (.d (i64 p1.Guest_.S)), (.d (i64 p1.Guest_.V)), (.d (i64 p1.Guest_.Len)), (.d (i64 p1.Guest_.End)), (.d (i64 p1.Guest_.Ahead)), (.d (i64 p1.Guest_.Guess_.R)), (.d (i64 p1.Guest_.Guess_.V)), (.d (i64 p1.Guest_.From)), (.d (i64 p1.Guest_.Until))])), ((31, g2), oB 2 1 eInt_i64 x1.1)]⟩) ([], 1) 0 _ hy1 (sb_of ⟨.of rfl, .of rfl, .of rfl, trivial⟩ (sbG_some G_hit (.of rfl) (sbG_nil trivial))) ?_
      intro x1 g2 z1 hz1 ez1
      unfold convoy_Gaps_l1 at hz1
      refine l_seq ?_
      refine l_seq ?_
      refine l_reg fun u6 hu6 => ?_
      refine s_val (.d _) rfl rfl ?_
      refine s_val (.ptr _ _) rfl rfl ?_
      refine s_val (.d _) rfl (v_load rfl G_hit rfl) ?_
      refine s_val (.d _) rfl (v_len rfl) ?_
      refine s_val (.d _) rfl rfl ?_
      refine s_nil ?_
      refine l_cond (decide (x1.2 < (p1.Mates.length : Int))) rfl (fun c2 => ?_) (fun c2 => ?_)
      · replace hz1 := cond_t c2 hz1
        refine l_skip ?_
        refine l_seq ?_
        refine l_block ?_
        refine l_draw rfl fun u7 hu7 => ?_
        refine s_val (oS x1.1 (31, g2)) rfl rfl ?_
        refine s_val (.ptr _ _) rfl rfl ?_
        refine s_val (.d _) rfl (v_load rfl G_hit rfl) ?_
        refine s_val (.d _) rfl rfl ?_
        refine s_val (.d _) rfl rfl ?_
        obtain ⟨v2, hv2, hz1⟩ := bind_some hz1
        refine s_val (.d _) rfl (v_idx rfl rfl hv2 rfl) ?_
        refine s_val (.d _) rfl (v_loadLG rfl hv2 rfl rfl) ?_
        obtain ⟨v3, hv3, hz1⟩ := bind_some hz1
        refine s_call rfl rfl all2_refl (convoy_rear_ok _  _ hv3) (.inl rfl) ?_
        refine s_val (.ptr _ _) rfl rfl ?_
        refine s_val (.d _) rfl (v_load rfl G_hit rfl) ?_
        refine s_val (.d _) rfl rfl ?_
        obtain ⟨v4, hv4, hz1⟩ := bind_some hz1
        refine s_val (.d _) rfl (v_idx rfl rfl hv4 rfl) ?_
        refine s_val (.d _) rfl rfl ?_
        refine s_val (.d _) rfl (v_loadL rfl hv4 rfl) ?_
        refine s_val (.d _) rfl rfl ?_
        refine s_val (.d (.list (List.map eInt_i64 [(w64 (v3 - v4.S))]))) rfl rfl ?_
        obtain ⟨v5, hv5, hz1⟩ := bind_some hz1
        refine s_appendO eInt_i64 (31, g2) x1.1 (w64 (v3 - v4.S)) [] _ (elems_list (fun _ => rfl)) rfl (G_skip rfl G_hit) hv5 ?_
        refine s_val (.sl _) rfl rfl ?_
        refine s_nil ?_
        refine l_end ?_
        refine l_sub (s0 := ⟨T [(1, (.ptr (1, u1) 0)), (3, (.sl (31, u7))), (4, (.d (i64 x1.2)))], G [((1, u1), some (.box 38 [(.d (i64 p1.Tick)), (.d (i64 p1.Gap)), (.d (.list (List.map eMate p1.Mates))), (.d (i64 p1.Guest_.ID)), (.d (i64 p1.Guest_.S)), (.d (i64 p1.Guest_.V)), (.d (i64 p1.Guest_.Len)), (.d (i64 p1.Guest_.End)), (.d (i64 p1.Guest_.Ahead)), (.d (i64 p1.Guest_.Guess_.R)), (.d (i64 p1.Guest_.Guess_.V)), (.d (i64 p1.Guest_.From)), (.d (i64 p1.Guest_.Until))])), ((31, u7), some (.arr 2 1 (List.map eInt_i64 v5)))]⟩) (sb_of ⟨.of rfl, .of rfl, .of rfl, trivial⟩ (sbG_some (G_skip rfl (G_skip rfl G_hit)) (.of rfl) (sbG_some G_hit (.of rfl) trivial))) ?_
        refine l_reg fun u8 hu8 => ?_
        refine s_val (.d _) rfl rfl ?_
        refine s_val (.d _) rfl rfl ?_
        refine s_val (.d _) rfl rfl ?_
        refine s_nil ?_
        refine l_nil ?_
        obtain rfl := Option.some.inj hz1
        exact ⟨rfl, u7, (sb_of ⟨.of rfl, (.of (oS_ne (appc_ne hv5)).symm), .of rfl, trivial⟩ (sbG_some G_hit (.of rfl) (sbG_own (G_skip rfl G_hit) trivial)))⟩
      · replace hz1 := cond_f c2 hz1
        refine l_exitN rfl ?_
        obtain rfl := Option.some.inj hz1
        obtain rfl := ez1 _ rfl
        refine ⟨nofun, awl_pop rfl (l_j ?_)⟩
        exact ⟨g2, (sb_of ⟨.of rfl, trivial⟩ (sbG_oB (G_skip rfl G_hit) trivial))⟩
    · rintro _ ⟨g1, q1⟩
      refine l_sub q1 ?_
      refine l_seq ?_
      refine l_reg fun u9 hu9 => ?_
      refine s_val (oS y1 (31, g1)) rfl rfl ?_
      refine s_val (oS y1 (31, g1)) rfl rfl ?_
      refine s_nil ?_
      refine l_ret ?_
      obtain rfl := Option.some.inj h
      refine fin_ok (.inr rfl) (resD1 (res_t rfl) (rf_oS G_hit)) ?_
      exact oD_le

noncomputable def kit_SameLongs_l1 (p1 : (List Int)) (p2 : (List Int)) (x1 : Int) : Option (Stp Int (Sum Unit Bool)) :=
  cond ((decide (x1 < (p1.length : Int))) && (decide (x1 < (p2.length : Int)))) ((geti p1 x1).bind fun v1 => (geti p2 x1).bind fun v2 => cond (v1 != v2) (some (.out (.inr false))) (some (.go (w64 (x1 + 1))))) (some (.out (.inl ())))
noncomputable def kit_SameLongs (p1 : (List Int)) (p2 : (List Int)) : Option Bool :=
  thenS (loop (kit_SameLongs_l1 p1 p2) 0) (fun _ => some ((p1.length : Int) == (p2.length : Int))) (fun r => some r)

/-- kerbstone/kerbstonekit.SameLongs -/
def ac_kit_SameLongs : AC :=
  (.seq (.reg [⟨(some 4), .mv (.c (.v (.bool false))), none⟩])
  (.seq (.seq (.reg [⟨(some 5), .mv (.c (.v (.int .i64 0))), none⟩])
  (.block 0
    (.loop
      (.seq (.seq (.reg [⟨(some 6), .mv (.t 5), none⟩, ⟨(some 7), .mv (.t 0), none⟩, ⟨(some 8), .len (.t 7), none⟩, ⟨(some 9), .bin .lss (.t 6) (.t 8), none⟩, ⟨(some 10), .mv (.t 9), none⟩, ⟨(some 11), .mv (.t 5), (some (10, true))⟩, ⟨(some 12), .mv (.t 1), (some (10, true))⟩, ⟨(some 13), .len (.t 12), (some (10, true))⟩, ⟨(some 14), .bin .lss (.t 11) (.t 13), (some (10, true))⟩, ⟨(some 15), .pick (.t 10) (.t 14) (.c (.v (.bool false))), none⟩])
      (.cond (.t 15)
        .skip
        (.exit 0)))
      (.seq (.block 1
        (.seq (.draw [⟨(some 18), .mv (.t 0), none⟩, ⟨(some 19), .mv (.t 5), none⟩, ⟨(some 20), .idxS 1 (.t 18) (.t 19), none⟩, ⟨(some 21), .load 1 false (.t 20), none⟩, ⟨(some 22), .mv (.t 1), none⟩, ⟨(some 23), .mv (.t 5), none⟩, ⟨(some 24), .idxS 1 (.t 22) (.t 23), none⟩, ⟨(some 25), .load 1 false (.t 24), none⟩, ⟨(some 26), .bin .neq (.t 21) (.t 25), none⟩] [])
        (.cond (.t 26)
          (.seq (.reg [⟨(some 4), .mv (.c (.v (.bool false))), none⟩])
          .ret)
          .skip)))
      (.reg [⟨(some 16), .mv (.t 5), none⟩, ⟨(some 17), .bin .add (.t 16) (.c (.v (.int .i64 1))), none⟩, ⟨(some 5), .mv (.t 17), none⟩]))))))
  (.seq (.reg [⟨(some 27), .mv (.t 0), none⟩, ⟨(some 28), .len (.t 27), none⟩, ⟨(some 29), .mv (.t 1), none⟩, ⟨(some 30), .len (.t 29), none⟩, ⟨(some 31), .bin .eql (.t 28) (.t 30), none⟩, ⟨(some 4), .mv (.t 31), none⟩])
  .ret)))
theorem fn_kit_SameLongs : FnOK Try.prog 36 32 [.t 4] ac_kit_SameLongs := ⟨_, _, Try.func36, rfl, Try.ntmps36, by kernel_rfl, ⟨fun _ => [], by kernel_rfl⟩, by kernel_rfl⟩
set_option maxHeartbeats 4000000 in
theorem kit_SameLongs_ok (p1 : (List Int)) (p2 : (List Int)) (r : Bool) (h : kit_SameLongs p1 p2 = some r) : PCall Try.prog 36 [(.list (List.map eInt_i64 p1)), (.list (List.map eInt_i64 p2))] (bo r) := by
  refine l_call fn_kit_SameLongs (Nat.le_of_ble_eq_true rfl) ?_
  unfold kit_SameLongs at h
  unfold ac_kit_SameLongs
  refine (l_sub (s0 := ⟨T [(0, (.d (.list (List.map eInt_i64 p1)))), (1, (.d (.list (List.map eInt_i64 p2))))], G []⟩) (sb_of ⟨.of rfl, .of rfl, trivial⟩ trivial) ?_)
  refine l_seq ?_
  refine l_reg fun u1 hu1 => ?_
  refine s_val (.d _) rfl rfl ?_
  refine s_nil ?_
  refine l_seq ?_
  refine l_seq ?_
  refine l_reg fun u2 hu2 => ?_
  refine s_val (.d _) rfl rfl ?_
  refine s_nil ?_
  obtain ⟨z1, hz1, h⟩ := thenS_some h
  refine l_join (fun s => ∃ (y1 : Unit) (g1 : Unit), z1 = .inl y1 ∧ Sb ⟨T [(0, (.d (.list (List.map eInt_i64 p1)))), (1, (.d (.list (List.map eInt_i64 p2))))], G []⟩ s) ?_ ?_
  · skip
    refine l_block ?_
    refine l_loop (kit_SameLongs_l1 p1 p2) (fun (x1 : Int) (g2 : Unit) => ⟨T [(0, (.d (.list (List.map eInt_i64 p1)))), (1, (.d (.list (List.map eInt_i64 p2)))), (5, (.d (i64 x1)))], G []⟩) 0 () _ hz1 (sb_of ⟨.of rfl, .of rfl, .of rfl, trivial⟩ trivial) ?_
    intro x1 g2 z2 hz2 ez2
    unfold kit_SameLongs_l1 at hz2
    refine l_seq ?_
    refine l_seq ?_
    refine l_reg fun u3 hu3 => ?_
    refine s_val (.d _) rfl rfl ?_
    refine s_val (.d _) rfl rfl ?_
    refine s_val (.d _) rfl (v_len rfl) ?_
    refine s_val (.d _) rfl rfl ?_
    refine s_val (.d _) rfl rfl ?_
    refine g_val (decide (x1 < (p1.length : Int))) (.d _) rfl (gw_t rfl) (fun w1 => rfl) ?_
    refine g_val (decide (x1 < (p1.length : Int))) (.d _) rfl (gw_t rfl) (fun w2 => rfl) ?_
    refine g_val (decide (x1 < (p1.length : Int))) (.d _) rfl (gw_t rfl) (fun w3 => (v_len (gd_pos w3))) ?_
    refine g_val (decide (x1 < (p1.length : Int))) (.d _) rfl (gw_t rfl) (fun w4 => (v_bin (gd_pos w4) (gd_pos w4) rfl)) ?_
    refine s_val (.d _) rfl (v_and rfl (fun hc => gd_pos hc) rfl) ?_
    refine s_nil ?_
    refine l_cond ((decide (x1 < (p1.length : Int))) && (decide (x1 < (p2.length : Int)))) rfl (fun c1 => ?_) (fun c1 => ?_)
    · replace hz2 := cond_t c1 hz2
      refine l_skip ?_
      refine l_seq ?_
      refine l_block ?_
      refine l_seq ?_
      refine l_draw rfl fun u4 hu4 => ?_
      refine s_val (.d _) rfl rfl ?_
      refine s_val (.d _) rfl rfl ?_
      obtain ⟨v1, hv1, hz2⟩ := bind_some hz2
      refine s_val (.d _) rfl (v_idx rfl rfl hv1 rfl) ?_
      refine s_val (.d _) rfl (v_loadL rfl hv1 rfl) ?_
      refine s_val (.d _) rfl rfl ?_
      refine s_val (.d _) rfl rfl ?_
      obtain ⟨v2, hv2, hz2⟩ := bind_some hz2
      refine s_val (.d _) rfl (v_idx rfl rfl hv2 rfl) ?_
      refine s_val (.d _) rfl (v_loadL rfl hv2 rfl) ?_
      refine s_val (.d _) rfl rfl ?_
      refine s_nil ?_
      refine l_cond (v1 != v2) rfl (fun c2 => ?_) (fun c2 => ?_)
      · replace hz2 := cond_t c2 hz2
        refine l_seq ?_
        refine l_reg fun u5 hu5 => ?_
        refine s_val (.d _) rfl rfl ?_
        refine s_nil ?_
        refine l_ret ?_
        obtain rfl := Option.some.inj hz2
        obtain rfl := ez2 _ rfl
        refine ⟨nofun, awl_ret ?_⟩
        rw [Sum.elim_inr] at h
        obtain rfl := Option.some.inj h
        refine fin_ok (.inr rfl) (resD1 (res_t rfl) rf_d) ?_
        exact (.refl _)
      · replace hz2 := cond_f c2 hz2
        refine l_skip ?_
        refine l_end ?_
        refine l_reg fun u6 hu6 => ?_
        refine s_val (.d _) rfl rfl ?_
        refine s_val (.d _) rfl rfl ?_
        refine s_val (.d _) rfl rfl ?_
        refine s_nil ?_
        refine l_nil ?_
        obtain rfl := Option.some.inj hz2
        exact ⟨rfl, (), (sb_of ⟨.of rfl, .of rfl, .of rfl, trivial⟩ trivial)⟩
    · replace hz2 := cond_f c1 hz2
      refine l_exitN rfl ?_
      obtain rfl := Option.some.inj hz2
      obtain rfl := ez2 _ rfl
      refine ⟨nofun, awl_pop rfl (l_j ?_)⟩
      exact ⟨_, (), rfl, (sb_of ⟨.of rfl, .of rfl, trivial⟩ trivial)⟩
  · rintro _ ⟨y1, g1, rfl, q1⟩
    rw [Sum.elim_inl] at h
    refine l_sub q1 ?_
    refine l_seq ?_
    refine l_reg fun u7 hu7 => ?_
    refine s_val (.d _) rfl rfl ?_
    refine s_val (.d _) rfl (v_len rfl) ?_
    refine s_val (.d _) rfl rfl ?_
    refine s_val (.d _) rfl (v_len rfl) ?_
    refine s_val (.d _) rfl rfl ?_
    refine s_val (.d _) rfl rfl ?_
    refine s_nil ?_
    refine l_ret ?_
    obtain rfl := Option.some.inj h
    refine fin_ok (.inr rfl) (resD1 (res_t rfl) rf_d) ?_
    exact (.refl _)

noncomputable def law09_awake : Option Bool :=
  (law09_shown).bind fun v1 => ((cond ((v1.Mates.length : Int) == 2) (convoy_Age (Guess.mk 0 200) 2) (some default))).bind fun v2 => ((cond (((v1.Mates.length : Int) == 2) && (v2.R == 130 && (v2.V == 20 && true))) (convoy_Sound v1) (some default))).bind fun v3 => ((cond ((((v1.Mates.length : Int) == 2) && (v2.R == 130 && (v2.V == 20 && true))) && v3) (convoy_Gaps v1) (some default))).bind fun v4 => ((cond ((((v1.Mates.length : Int) == 2) && (v2.R == 130 && (v2.V == 20 && true))) && v3) (kit_SameLongs v4 [6000]) (some default))).bind fun v5 => ((cond (((((v1.Mates.length : Int) == 2) && (v2.R == 130 && (v2.V == 20 && true))) && v3) && v5) (convoy_Safe 0 191 1000 (Guess.mk 1000 100)) (some default))).bind fun v6 => some ((((((v1.Mates.length : Int) == 2) && (v2.R == 130 && (v2.V == 20 && true))) && v3) && v5) && (!v6))

/-- kerbstone/kerbstonelaw09.awake -/
def ac_law09_awake : AC :=
  (.seq (.reg [⟨(some 0), .mv (.c (.v (.bool false))), none⟩])
  (.seq (.reg [⟨(some 2), .call (.c (.fn (.func 57) [] [])) [], none⟩, ⟨(some 1), .alloc 38 [(.v (.int .i64 0)), (.v (.int .i64 0)), .nilS, (.v (.int .i64 0)), (.v (.int .i64 0)), (.v (.int .i64 0)), (.v (.int .i64 0)), (.v (.int .i64 0)), (.v (.int .i64 0)), (.v (.int .i64 0)), (.v (.int .i64 0)), (.v (.int .i64 0)), (.v (.int .i64 0))], none⟩, ⟨none, .store 13 (.t 1) (.t 2), none⟩])
  (.seq (.reg [⟨(some 3), .fieldA 2 (.t 1), none⟩, ⟨(some 4), .load 1 false (.t 3), none⟩, ⟨(some 5), .len (.t 4), none⟩, ⟨(some 6), .bin .eql (.t 5) (.c (.v (.int .i64 2))), none⟩, ⟨(some 7), .mv (.t 6), none⟩, ⟨(some 8), .build [(.v (.int .i64 0)), (.v (.int .i64 0))] [(1, 1, (.c (.v (.int .i64 200))))], (some (7, true))⟩, ⟨(some 9), .call (.c (.fn (.func 15) [] [])) [(.t 8), (.c (.v (.int .i64 2)))], (some (7, true))⟩, ⟨(some 10), .build [(.v (.int .i64 0)), (.v (.int .i64 0))] [(0, 1, (.c (.v (.int .i64 130)))), (1, 1, (.c (.v (.int .i64 20))))], (some (7, true))⟩, ⟨(some 11), .eqA false [false, false] (.t 9) (.t 10), (some (7, true))⟩, ⟨(some 12), .pick (.t 7) (.t 11) (.c (.v (.bool false))), none⟩, ⟨(some 13), .mv (.t 12), none⟩, ⟨(some 14), .load 13 true (.t 1), (some (13, true))⟩, ⟨(some 15), .call (.c (.fn (.func 34) [] [])) [(.t 14)], (some (13, true))⟩, ⟨(some 16), .pick (.t 13) (.t 15) (.c (.v (.bool false))), none⟩, ⟨(some 17), .mv (.t 16), none⟩, ⟨(some 18), .load 13 true (.t 1), (some (17, true))⟩, ⟨(some 19), .call (.c (.fn (.func 37) [] [])) [(.t 18)], (some (17, true))⟩, ⟨(some 20), .dslice 2 1 1 [(.v (.int .i64 0))] [(0, 1, (.c (.v (.int .i64 6000))))], (some (17, true))⟩, ⟨(some 21), .call (.c (.fn (.func 36) [] [])) [(.t 19), (.t 20)], (some (17, true))⟩, ⟨(some 22), .pick (.t 17) (.t 21) (.c (.v (.bool false))), none⟩, ⟨(some 23), .mv (.t 22), none⟩, ⟨(some 24), .build [(.v (.int .i64 0)), (.v (.int .i64 0))] [(0, 1, (.c (.v (.int .i64 1000)))), (1, 1, (.c (.v (.int .i64 100))))], (some (23, true))⟩, ⟨(some 25), .call (.c (.fn (.func 21) [] [])) [(.c (.v (.int .i64 0))), (.c (.v (.int .i64 191))), (.c (.v (.int .i64 1000))), (.t 24)], (some (23, true))⟩, ⟨(some 26), .un .not (.t 25), (some (23, true))⟩, ⟨(some 27), .pick (.t 23) (.t 26) (.c (.v (.bool false))), none⟩, ⟨(some 0), .mv (.t 27), none⟩])
  .ret)))
theorem fn_law09_awake : FnOK Try.prog 23 28 [.t 0] ac_law09_awake := ⟨_, _, Try.func23, rfl, Try.ntmps23, by kernel_rfl, ⟨fun r => if r == 2 then [1017] else [], by kernel_rfl⟩, by kernel_rfl⟩
theorem law09_awake_ok (r : Bool) (h : law09_awake = some r) : PCall Try.prog 23 [] (bo r) := by
  refine l_call fn_law09_awake (Nat.le_of_ble_eq_true rfl) ?_
  unfold law09_awake at h
  unfold ac_law09_awake
  refine (l_sub (s0 := ⟨T [], G []⟩) (sb_of trivial trivial) ?_)
  refine l_seq ?_
  refine l_reg fun u1 hu1 => ?_
  refine s_val (.d _) rfl rfl ?_
  refine s_nil ?_
  refine l_seq ?_
  refine l_reg fun u2 hu2 => ?_
  obtain ⟨v1, hv1, h⟩ := bind_some h
  refine s_call rfl rfl all2_refl (law09_shown_ok  _ hv1) (.inl rfl) ?_
  refine s_new (.ptr _ _) (.box _ _) rfl rfl ?_
  refine s_store _ _ _ _ _ rfl rfl rfl G_hit (Nat.le_of_ble_eq_true rfl) [(.d (i64 v1.Tick)), (.d (i64 v1.Gap)), (.d (.list (List.map eMate v1.Mates))), (.d (i64 v1.Guest_.ID)), (.d (i64 v1.Guest_.S)), (.d (i64 v1.Guest_.V)), (.d (i64 v1.Guest_.Len)), (.d (i64 v1.Guest_.End)), (.d (i64 v1.Guest_.Ahead)), (.d (i64 v1.Guest_.Guess_.R)), (.d (i64 v1.Guest_.Guess_.V)), (.d (i64 v1.Guest_.From)), (.d (i64 v1.Guest_.Until))] rfl ?_
  refine s_nil ?_
  refine l_seq ?_
  refine l_reg fun u3 hu3 => ?_
  refine s_val (.ptr _ _) rfl rfl ?_
  refine s_val (.d _) rfl (v_load rfl G_hit rfl) ?_
  refine s_val (.d _) rfl (v_len rfl) ?_
  refine s_val (.d _) rfl rfl ?_
  refine s_val (.d _) rfl rfl ?_
  refine g_val ((v1.Mates.length : Int) == 2) (.d _) rfl (gw_t rfl) (fun w1 => rfl) ?_
  obtain ⟨v2, hv2, h⟩ := bind_some h
  refine g_call ((v1.Mates.length : Int) == 2) (.agg [(i64 v2.R), (i64 v2.V)]) (gw_t rfl) (fun w2 => ⟨_, [(.d (.agg [(i64 0), (i64 200)])), (.d (i64 2))], _, _, (by simp only [gd_pos w2]; rfl), rfl, all2_refl, convoy_Age_ok _ _  _ (cond_t w2 hv2), (.inl rfl)⟩) ?_
  refine g_val ((v1.Mates.length : Int) == 2) (.d _) rfl (gw_t rfl) (fun w3 => rfl) ?_
  refine g_val ((v1.Mates.length : Int) == 2) (.d _) rfl (gw_t rfl) (fun w4 => (by simp only [gd_pos w4]; rfl)) ?_
  refine s_val (.d _) rfl (v_and rfl (fun hc => gd_pos hc) rfl) ?_
  refine s_val (.d _) rfl rfl ?_
  refine g_val (((v1.Mates.length : Int) == 2) && (v2.R == 130 && (v2.V == 20 && true))) (.d _) rfl (gw_t rfl) (fun w5 => (v_loadG rfl G_hit rfl rfl)) ?_
  obtain ⟨v3, hv3, h⟩ := bind_some h
  refine g_call (((v1.Mates.length : Int) == 2) && (v2.R == 130 && (v2.V == 20 && true))) (bo v3) (gw_t rfl) (fun w6 => ⟨_, [(.d (.agg [(i64 v1.Tick), (i64 v1.Gap), (.list (List.map eMate v1.Mates)), (i64 v1.Guest_.ID), (i64 v1.Guest_.S), (i64 v1.Guest_.V), (i64 v1.Guest_.Len), (i64 v1.Guest_.End), (i64 v1.Guest_.Ahead), (i64 v1.Guest_.Guess_.R), (i64 v1.Guest_.Guess_.V), (i64 v1.Guest_.From), (i64 v1.Guest_.Until)]))], _, _, (by simp only [gd_pos w6]; rfl), rfl, all2_refl, convoy_Sound_ok _  _ (cond_t w6 hv3), (.inl rfl)⟩) ?_
  refine s_val (.d _) rfl (v_and rfl (fun hc => gd_pos hc) rfl) ?_
  refine s_val (.d _) rfl rfl ?_
  refine g_val ((((v1.Mates.length : Int) == 2) && (v2.R == 130 && (v2.V == 20 && true))) && v3) (.d _) rfl (gw_t rfl) (fun w7 => (v_loadG rfl G_hit rfl rfl)) ?_
  obtain ⟨v4, hv4, h⟩ := bind_some h
  refine g_call ((((v1.Mates.length : Int) == 2) && (v2.R == 130 && (v2.V == 20 && true))) && v3) (.list (List.map eInt_i64 v4)) (gw_t rfl) (fun w8 => ⟨_, [(.d (.agg [(i64 v1.Tick), (i64 v1.Gap), (.list (List.map eMate v1.Mates)), (i64 v1.Guest_.ID), (i64 v1.Guest_.S), (i64 v1.Guest_.V), (i64 v1.Guest_.Len), (i64 v1.Guest_.End), (i64 v1.Guest_.Ahead), (i64 v1.Guest_.Guess_.R), (i64 v1.Guest_.Guess_.V), (i64 v1.Guest_.From), (i64 v1.Guest_.Until)]))], _, _, (by simp only [gd_pos w8]; rfl), rfl, all2_refl, convoy_Gaps_ok _  _ (cond_t w8 hv4), (.inl rfl)⟩) ?_
  refine g_val ((((v1.Mates.length : Int) == 2) && (v2.R == 130 && (v2.V == 20 && true))) && v3) (.d (.list (List.map eInt_i64 [6000]))) rfl (gw_t rfl) (fun w9 => rfl) ?_
  obtain ⟨v5, hv5, h⟩ := bind_some h
  refine g_call ((((v1.Mates.length : Int) == 2) && (v2.R == 130 && (v2.V == 20 && true))) && v3) (bo v5) (gw_t rfl) (fun w10 => ⟨_, [(.d (.list (List.map eInt_i64 v4))), (.d (.list (List.map eInt_i64 [6000])))], _, _, (by simp only [gd_pos w10]; rfl), rfl, all2_refl, kit_SameLongs_ok _ _  _ (cond_t w10 hv5), (.inl rfl)⟩) ?_
  refine s_val (.d _) rfl (v_and rfl (fun hc => gd_pos hc) rfl) ?_
  refine s_val (.d _) rfl rfl ?_
  refine g_val (((((v1.Mates.length : Int) == 2) && (v2.R == 130 && (v2.V == 20 && true))) && v3) && v5) (.d _) rfl (gw_t rfl) (fun w11 => rfl) ?_
  obtain ⟨v6, hv6, h⟩ := bind_some h
  refine g_call (((((v1.Mates.length : Int) == 2) && (v2.R == 130 && (v2.V == 20 && true))) && v3) && v5) (bo v6) (gw_t rfl) (fun w12 => ⟨_, [(.d (i64 0)), (.d (i64 191)), (.d (i64 1000)), (.d (.agg [(i64 1000), (i64 100)]))], _, _, (by simp only [gd_pos w12]; rfl), rfl, all2_refl, convoy_Safe_ok _ _ _ _  _ (cond_t w12 hv6), (.inl rfl)⟩) ?_
  refine g_val (((((v1.Mates.length : Int) == 2) && (v2.R == 130 && (v2.V == 20 && true))) && v3) && v5) (.d _) rfl (gw_t rfl) (fun w13 => (by simp only [gd_pos w13]; rfl)) ?_
  refine s_val (.d _) rfl (v_and rfl (fun hc => gd_pos hc) rfl) ?_
  refine s_val (.d _) rfl rfl ?_
  refine s_nil ?_
  refine l_ret ?_
  obtain rfl := Option.some.inj h
  refine fin_ok (.inr rfl) (resD1 (res_t rfl) rf_d) ?_
  exact (.refl _)

noncomputable def kit_NewRing_m (p1 : (List Int)) : Option KitRing :=
  some (KitRing.mk p1 0)

/-- kerbstone/kerbstonekit.NewRing -/
def ac_kit_NewRing_m : AC :=
  (.seq (.reg [⟨(some 2), .mv (.c (.v (.pointer none))), none⟩])
  (.seq (.reg [⟨(some 3), .mv (.t 0), none⟩, ⟨(some 4), .build [.nilS, (.v (.int .i64 0))] [(0, 1, (.t 3))], none⟩, ⟨(some 5), .box 94 true (.t 4), none⟩, ⟨(some 2), .mv (.t 5), none⟩])
  .ret))
theorem fn_kit_NewRing_m : FnOK Try.prog 30 6 [.t 2] ac_kit_NewRing_m := ⟨_, _, Try.func30, rfl, Try.ntmps30, by kernel_rfl, ⟨fun _ => [], by kernel_rfl⟩, by kernel_rfl⟩
theorem kit_NewRing_m_ok (p1 : (List Int)) (r : KitRing) (h : kit_NewRing_m p1 = some r) : MCall Try.prog 30 [(.d (.list (List.map eInt_i64 p1)))] [] (.ptr (800000, 0) 0) [] [.box 94 [(.d (.list (List.map eInt_i64 r.l))), (.d (i64 r.at_))]] := by
  refine m_callT fn_kit_NewRing_m rfl (Nat.le_of_ble_eq_true rfl) ?_
  unfold kit_NewRing_m at h
  unfold ac_kit_NewRing_m
  refine (l_sub (s0 := ⟨T [(0, (.d (.list (List.map eInt_i64 p1))))], G []⟩) (sb_of ⟨.of rfl, trivial⟩ trivial) ?_)
  refine l_seq ?_
  refine l_reg fun u1 hu1 => ?_
  refine s_val (.d _) rfl rfl ?_
  refine s_nil ?_
  refine l_seq ?_
  refine l_reg fun u2 hu2 => ?_
  refine s_val (.d _) rfl rfl ?_
  refine s_val (.d _) rfl rfl ?_
  refine s_new (.ptr _ _) (.box _ _) rfl rfl ?_
  refine s_val (.ptr _ _) rfl rfl ?_
  refine s_nil ?_
  refine l_ret ?_
  obtain rfl := Option.some.inj h
  exact fin_m (v1 := (.ptr (5, u2) 0)) (.inr rfl) (resA1 (res_t rfl)) (.of rfl) [((5, u2), some (.box 94 [(.d (.list (List.map eInt_i64 p1))), (.d (i64 0))]))] (sbG_some G_hit (.of rfl) trivial) (mpost_of [(5, u2)] rfl trivial ⟨G_hit, trivial⟩ rfl (by simp only [List.mem_cons, List.not_mem_nil, or_false, forall_eq]; exact fun i => old_ne rfl i) nd1)

noncomputable def kit_Mod (p1 : Int) (p2 : Int) : Option Int :=
  (remc p1 p2).bind fun v1 => cond (decide (v1 < 0)) (some (w64 (v1 + p2))) (some v1)

/-- kerbstone/kerbstonekit.Mod -/
def ac_kit_Mod : AC :=
  (.seq (.reg [⟨(some 4), .mv (.c (.v (.int .i64 0))), none⟩])
  (.seq (.reg [⟨(some 5), .mv (.t 0), none⟩, ⟨(some 6), .mv (.t 1), none⟩, ⟨(some 7), .bin .rem (.t 5) (.t 6), none⟩, ⟨(some 0), .mv (.t 7), none⟩])
  (.seq (.seq (.reg [⟨(some 8), .mv (.t 0), none⟩, ⟨(some 9), .bin .lss (.t 8) (.c (.v (.int .i64 0))), none⟩])
  (.cond (.t 9)
    (.reg [⟨(some 10), .mv (.t 0), none⟩, ⟨(some 11), .mv (.t 1), none⟩, ⟨(some 12), .bin .add (.t 10) (.t 11), none⟩, ⟨(some 0), .mv (.t 12), none⟩])
    .skip))
  (.seq (.reg [⟨(some 13), .mv (.t 0), none⟩, ⟨(some 4), .mv (.t 13), none⟩])
  .ret))))
theorem fn_kit_Mod : FnOK Try.prog 26 14 [.t 4] ac_kit_Mod := ⟨_, _, Try.func26, rfl, Try.ntmps26, by kernel_rfl, ⟨fun _ => [], by kernel_rfl⟩, by kernel_rfl⟩
theorem kit_Mod_ok (p1 : Int) (p2 : Int) (r : Int) (h : kit_Mod p1 p2 = some r) : PCall Try.prog 26 [(i64 p1), (i64 p2)] (i64 r) := by
  refine l_call fn_kit_Mod (Nat.le_of_ble_eq_true rfl) ?_
  unfold kit_Mod at h
  unfold ac_kit_Mod
  refine (l_sub (s0 := ⟨T [(0, (.d (i64 p1))), (1, (.d (i64 p2)))], G []⟩) (sb_of ⟨.of rfl, .of rfl, trivial⟩ trivial) ?_)
  refine l_seq ?_
  refine l_reg fun u1 hu1 => ?_
  refine s_val (.d _) rfl rfl ?_
  refine s_nil ?_
  refine l_seq ?_
  refine l_reg fun u2 hu2 => ?_
  refine s_val (.d _) rfl rfl ?_
  refine s_val (.d _) rfl rfl ?_
  obtain ⟨v1, hv1, h⟩ := bind_some h
  refine s_val (.d _) rfl (v_rem rfl rfl hv1) ?_
  refine s_val (.d _) rfl rfl ?_
  refine s_nil ?_
  refine l_seq ?_
  refine l_seq ?_
  refine l_reg fun u3 hu3 => ?_
  refine s_val (.d _) rfl rfl ?_
  refine s_val (.d _) rfl rfl ?_
  refine s_nil ?_
  refine l_cond (decide (v1 < 0)) rfl (fun c1 => ?_) (fun c1 => ?_)
  · replace h := cond_t c1 h
    refine l_reg fun u4 hu4 => ?_
    refine s_val (.d _) rfl rfl ?_
    refine s_val (.d _) rfl rfl ?_
    refine s_val (.d _) rfl rfl ?_
    refine s_val (.d _) rfl rfl ?_
    refine s_nil ?_
    refine l_seq ?_
    refine l_reg fun u5 hu5 => ?_
    refine s_val (.d _) rfl rfl ?_
    refine s_val (.d _) rfl rfl ?_
    refine s_nil ?_
    refine l_ret ?_
    obtain rfl := Option.some.inj h
    refine fin_ok (.inr rfl) (resD1 (res_t rfl) rf_d) ?_
    exact (.refl _)
  · replace h := cond_f c1 h
    refine l_skip ?_
    refine l_seq ?_
    refine l_reg fun u6 hu6 => ?_
    refine s_val (.d _) rfl rfl ?_
    refine s_val (.d _) rfl rfl ?_
    refine s_nil ?_
    refine l_ret ?_
    obtain rfl := Option.some.inj h
    refine fin_ok (.inr rfl) (resD1 (res_t rfl) rf_d) ?_
    exact (.refl _)

noncomputable def kit_Ring_Next_o (p1 : KitRing) (p2 : Int) : Option (Int × KitRing) :=
  cond (decide ((p1.l.length : Int) > 0)) ((remc (w64 (p1.at_ + 1)) (p1.l.length : Int)).bind fun v1 => (geti p1.l v1).bind fun v2 => (kit_Mod v2 1048576).bind fun v3 => (quoc .i64 (w64 (p1.at_ + 1)) (p1.l.length : Int)).bind fun v4 => (quoc .i64 v3 (w64 (1 + v4))).bind fun v5 => (remc (w64 (((w64 ((w64 (p1.at_ + 1)) * 7919)).tmod 10007) + v5)) p2).bind fun v6 => some (v6, (KitRing.mk p1.l (w64 (p1.at_ + 1))))) ((remc ((w64 ((w64 (p1.at_ + 1)) * 7919)).tmod 10007) p2).bind fun v7 => some (v7, (KitRing.mk p1.l (w64 (p1.at_ + 1)))))

/-- (*kerbstone/kerbstonekit.Ring).Next -/
def ac_kit_Ring_Next_o : AC :=
  (.seq (.reg [⟨(some 4), .mv (.c (.v (.int .i64 0))), none⟩])
  (.seq (.reg [⟨(some 6), .mv (.t 0), none⟩, ⟨(some 7), .nilck (.t 6), none⟩, ⟨(some 8), .fieldA 1 (.t 7), none⟩, ⟨(some 9), .load 1 false (.t 8), none⟩, ⟨(some 10), .bin .add (.t 9) (.c (.v (.int .i64 1))), none⟩, ⟨(some 11), .nilck (.t 6), none⟩, ⟨(some 12), .fieldA 1 (.t 11), none⟩, ⟨none, .store 1 (.t 12) (.t 10), none⟩])
  (.seq (.reg [⟨(some 13), .mv (.t 0), none⟩, ⟨(some 14), .nilck (.t 13), none⟩, ⟨(some 15), .fieldA 1 (.t 14), none⟩, ⟨(some 16), .load 1 false (.t 15), none⟩, ⟨(some 17), .bin .mul (.t 16) (.c (.v (.int .i64 7919))), none⟩, ⟨(some 18), .bin .rem (.t 17) (.c (.v (.int .i64 10007))), none⟩, ⟨(some 5), .mv (.t 18), none⟩])
  (.seq (.seq (.reg [⟨(some 19), .mv (.t 0), none⟩, ⟨(some 20), .nilck (.t 19), none⟩, ⟨(some 21), .fieldA 0 (.t 20), none⟩, ⟨(some 22), .load 1 false (.t 21), none⟩, ⟨(some 23), .len (.t 22), none⟩, ⟨(some 24), .bin .gtr (.t 23) (.c (.v (.int .i64 0))), none⟩])
  (.cond (.t 24)
    (.draw [⟨(some 25), .mv (.t 5), none⟩, ⟨(some 26), .mv (.t 0), none⟩, ⟨(some 27), .nilck (.t 26), none⟩, ⟨(some 28), .fieldA 0 (.t 27), none⟩, ⟨(some 29), .load 1 false (.t 28), none⟩, ⟨(some 30), .mv (.t 0), none⟩, ⟨(some 31), .nilck (.t 30), none⟩, ⟨(some 32), .fieldA 1 (.t 31), none⟩, ⟨(some 33), .load 1 false (.t 32), none⟩, ⟨(some 34), .mv (.t 0), none⟩, ⟨(some 35), .nilck (.t 34), none⟩, ⟨(some 36), .fieldA 0 (.t 35), none⟩, ⟨(some 37), .load 1 false (.t 36), none⟩, ⟨(some 38), .len (.t 37), none⟩, ⟨(some 39), .bin .rem (.t 33) (.t 38), none⟩, ⟨(some 40), .idxS 1 (.t 29) (.t 39), none⟩, ⟨(some 41), .load 1 false (.t 40), none⟩, ⟨(some 42), .call (.c (.fn (.func 26) [] [])) [(.t 41), (.c (.v (.int .i64 1048576)))], none⟩, ⟨(some 43), .mv (.t 0), none⟩, ⟨(some 44), .nilck (.t 43), none⟩, ⟨(some 45), .fieldA 1 (.t 44), none⟩, ⟨(some 46), .load 1 false (.t 45), none⟩, ⟨(some 47), .mv (.t 0), none⟩, ⟨(some 48), .nilck (.t 47), none⟩, ⟨(some 49), .fieldA 0 (.t 48), none⟩, ⟨(some 50), .load 1 false (.t 49), none⟩, ⟨(some 51), .len (.t 50), none⟩, ⟨(some 52), .bin .quo (.t 46) (.t 51), none⟩, ⟨(some 53), .bin .add (.c (.v (.int .i64 1))) (.t 52), none⟩, ⟨(some 54), .bin .quo (.t 42) (.t 53), none⟩, ⟨(some 55), .bin .add (.t 25) (.t 54), none⟩, ⟨(some 5), .mv (.t 55), none⟩] [])
    .skip))
  (.seq (.reg [⟨(some 56), .mv (.t 5), none⟩, ⟨(some 57), .mv (.t 1), none⟩, ⟨(some 58), .bin .rem (.t 56) (.t 57), none⟩, ⟨(some 4), .mv (.t 58), none⟩])
  .ret)))))
theorem fn_kit_Ring_Next_o : FnOK Try.prog 49 59 [.t 4] ac_kit_Ring_Next_o := ⟨_, _, Try.func49, rfl, Try.ntmps49, by kernel_rfl, ⟨fun _ => [], by kernel_rfl⟩, by kernel_rfl⟩
set_option maxHeartbeats 4000000 in
theorem kit_Ring_Next_o_ok (p1 : KitRing) (p2 : Int) (r : (Int × KitRing)) (h : kit_Ring_Next_o p1 p2 = some r) : MCall Try.prog 49 [(.ptr (900000, 0) 0), (.d (i64 p2))] [(.box 94 [(.d (.list (List.map eInt_i64 p1.l))), (.d (i64 p1.at_))])] (.d (i64 r.1)) [some (.box 94 [(.d (.list (List.map eInt_i64 r.2.l))), (.d (i64 r.2.at_))])] [] := by
  refine m_callF fn_kit_Ring_Next_o rfl (Nat.le_of_ble_eq_true rfl) ?_
  unfold kit_Ring_Next_o at h
  unfold ac_kit_Ring_Next_o
  refine (l_sub (s0 := ⟨T [(0, (.ptr (900000, 0) 0)), (1, (.d (i64 p2)))], G [((900000, 0), some (.box 94 [(.d (.list (List.map eInt_i64 p1.l))), (.d (i64 p1.at_))]))]⟩) (sb_of ⟨.of rfl, .of rfl, trivial⟩ (sbG_some G_hit (.of rfl) trivial)) ?_)
  refine l_seq ?_
  refine l_reg fun u1 hu1 => ?_
  refine s_val (.d _) rfl rfl ?_
  refine s_nil ?_
  refine l_seq ?_
  refine l_reg fun u2 hu2 => ?_
  refine s_val (.ptr _ _) rfl rfl ?_
  refine s_val (.ptr _ _) rfl rfl ?_
  refine s_val (.ptr _ _) rfl rfl ?_
  refine s_val (.d _) rfl (v_load rfl G_hit rfl) ?_
  refine s_val (.d _) rfl rfl ?_
  refine s_val (.ptr _ _) rfl rfl ?_
  refine s_val (.ptr _ _) rfl rfl ?_
  refine s_store _ _ _ _ _ rfl rfl rfl G_hit (Nat.le_of_ble_eq_true rfl) [(.d (.list (List.map eInt_i64 p1.l))), (.d (i64 (w64 (p1.at_ + 1))))] rfl ?_
  refine s_nil ?_
  refine l_seq ?_
  refine l_reg fun u3 hu3 => ?_
  refine s_val (.ptr _ _) rfl rfl ?_
  refine s_val (.ptr _ _) rfl rfl ?_
  refine s_val (.ptr _ _) rfl rfl ?_
  refine s_val (.d _) rfl (v_load rfl G_hit rfl) ?_
  refine s_val (.d _) rfl rfl ?_
  refine s_val (.d _) rfl rfl ?_
  refine s_val (.d _) rfl rfl ?_
  refine s_nil ?_
  refine l_seq ?_
  refine l_seq ?_
  refine l_reg fun u4 hu4 => ?_
  refine s_val (.ptr _ _) rfl rfl ?_
  refine s_val (.ptr _ _) rfl rfl ?_
  refine s_val (.ptr _ _) rfl rfl ?_
  refine s_val (.d _) rfl (v_load rfl G_hit rfl) ?_
  refine s_val (.d _) rfl (v_len rfl) ?_
  refine s_val (.d _) rfl rfl ?_
  refine s_nil ?_
  refine l_cond (decide ((p1.l.length : Int) > 0)) rfl (fun c1 => ?_) (fun c1 => ?_)
  · replace h := cond_t c1 h
    refine l_sub (s0 := ⟨T [(0, (.ptr (900000, 0) 0)), (1, (.d (i64 p2))), (5, (.d (i64 ((w64 ((w64 (p1.at_ + 1)) * 7919)).tmod 10007))))], G [((900000, 0), some (.box 94 [(.d (.list (List.map eInt_i64 p1.l))), (.d (i64 (w64 (p1.at_ + 1))))]))]⟩) (sb_of ⟨.of rfl, .of rfl, .of rfl, trivial⟩ (sbG_some G_hit (.of rfl) trivial)) ?_
    refine l_draw rfl fun u5 hu5 => ?_
    refine s_val (.d _) rfl rfl ?_
    refine s_val (.ptr _ _) rfl rfl ?_
    refine s_val (.ptr _ _) rfl rfl ?_
    refine s_val (.ptr _ _) rfl rfl ?_
    refine s_val (.d _) rfl (v_load rfl G_hit rfl) ?_
    refine s_val (.ptr _ _) rfl rfl ?_
    refine s_val (.ptr _ _) rfl rfl ?_
    refine s_val (.ptr _ _) rfl rfl ?_
    refine s_val (.d _) rfl (v_load rfl G_hit rfl) ?_
    refine s_val (.ptr _ _) rfl rfl ?_
    refine s_val (.ptr _ _) rfl rfl ?_
    refine s_val (.ptr _ _) rfl rfl ?_
    refine s_val (.d _) rfl (v_load rfl G_hit rfl) ?_
    refine s_val (.d _) rfl (v_len rfl) ?_
    obtain ⟨v1, hv1, h⟩ := bind_some h
    refine s_val (.d _) rfl (v_rem rfl rfl hv1) ?_
    obtain ⟨v2, hv2, h⟩ := bind_some h
    refine s_val (.d _) rfl (v_idx rfl rfl hv2 rfl) ?_
    refine s_val (.d _) rfl (v_loadL rfl hv2 rfl) ?_
    obtain ⟨v3, hv3, h⟩ := bind_some h
    refine s_call rfl rfl all2_refl (kit_Mod_ok _ _  _ hv3) (.inl rfl) ?_
    refine s_val (.ptr _ _) rfl rfl ?_
    refine s_val (.ptr _ _) rfl rfl ?_
    refine s_val (.ptr _ _) rfl rfl ?_
    refine s_val (.d _) rfl (v_load rfl G_hit rfl) ?_
    refine s_val (.ptr _ _) rfl rfl ?_
    refine s_val (.ptr _ _) rfl rfl ?_
    refine s_val (.ptr _ _) rfl rfl ?_
    refine s_val (.d _) rfl (v_load rfl G_hit rfl) ?_
    refine s_val (.d _) rfl (v_len rfl) ?_
    obtain ⟨v4, hv4, h⟩ := bind_some h
    refine s_val (.d _) rfl (v_quo rfl rfl hv4) ?_
    refine s_val (.d _) rfl rfl ?_
    obtain ⟨v5, hv5, h⟩ := bind_some h
    refine s_val (.d _) rfl (v_quo rfl rfl hv5) ?_
    refine s_val (.d _) rfl rfl ?_
    refine s_val (.d _) rfl rfl ?_
    refine s_nil ?_
    refine l_seq ?_
    refine l_sub (s0 := ⟨T [(0, (.ptr (900000, 0) 0)), (1, (.d (i64 p2))), (5, (.d (i64 (w64 (((w64 ((w64 (p1.at_ + 1)) * 7919)).tmod 10007) + v5)))))], G [((900000, 0), some (.box 94 [(.d (.list (List.map eInt_i64 p1.l))), (.d (i64 (w64 (p1.at_ + 1))))]))]⟩) (sb_of ⟨.of rfl, .of rfl, .of rfl, trivial⟩ (sbG_some G_hit (.of rfl) trivial)) ?_
    refine l_reg fun u6 hu6 => ?_
    refine s_val (.d _) rfl rfl ?_
    refine s_val (.d _) rfl rfl ?_
    obtain ⟨v6, hv6, h⟩ := bind_some h
    refine s_val (.d _) rfl (v_rem rfl rfl hv6) ?_
    refine s_val (.d _) rfl rfl ?_
    refine s_nil ?_
    refine l_ret ?_
    obtain rfl := Option.some.inj h
    exact fin_mf (.inr rfl) [] (resDF1 (res_t rfl) rf_d) (.refl _) ⟨⟨_, _, _, G_hit, old_notin_nil, rfl, all2_d, rfl⟩, trivial⟩
  · replace h := cond_f c1 h
    refine l_skip ?_
    refine l_seq ?_
    refine l_sub (s0 := ⟨T [(0, (.ptr (900000, 0) 0)), (1, (.d (i64 p2))), (5, (.d (i64 ((w64 ((w64 (p1.at_ + 1)) * 7919)).tmod 10007))))], G [((900000, 0), some (.box 94 [(.d (.list (List.map eInt_i64 p1.l))), (.d (i64 (w64 (p1.at_ + 1))))]))]⟩) (sb_of ⟨.of rfl, .of rfl, .of rfl, trivial⟩ (sbG_some G_hit (.of rfl) trivial)) ?_
    refine l_reg fun u7 hu7 => ?_
    refine s_val (.d _) rfl rfl ?_
    refine s_val (.d _) rfl rfl ?_
    obtain ⟨v7, hv7, h⟩ := bind_some h
    refine s_val (.d _) rfl (v_rem rfl rfl hv7) ?_
    refine s_val (.d _) rfl rfl ?_
    refine s_nil ?_
    refine l_ret ?_
    obtain rfl := Option.some.inj h
    exact fin_mf (.inr rfl) [] (resDF1 (res_t rfl) rf_d) (.refl _) ⟨⟨_, _, _, G_hit, old_notin_nil, rfl, all2_d, rfl⟩, trivial⟩

noncomputable def ref09_sane_l1 (p1 : (List Int)) (x1 : Int) : Option (Stp Int (Sum Unit Bool)) :=
  cond (decide (x1 < (p1.length : Int))) ((geti p1 x1).bind fun v1 => ((cond (!(decide (v1 < (-4398046511104)))) (geti p1 x1) (some default))).bind fun v2 => cond ((decide (v1 < (-4398046511104))) || (decide (v2 > 4398046511104))) (some (.out (.inr false))) (some (.go (w64 (x1 + 1))))) (some (.out (.inl ())))
noncomputable def ref09_sane (p1 : (List Int)) : Option Bool :=
  thenS (loop (ref09_sane_l1 p1) 0) (fun _ => some true) (fun r => some r)

/-- kerbstone/kerbstoneref09.sane -/
def ac_ref09_sane : AC :=
  (.seq (.reg [⟨(some 2), .mv (.c (.v (.bool false))), none⟩])
  (.seq (.seq (.reg [⟨(some 3), .mv (.c (.v (.int .i64 0))), none⟩])
  (.block 0
    (.loop
      (.seq (.seq (.reg [⟨(some 4), .mv (.t 3), none⟩, ⟨(some 5), .mv (.t 0), none⟩, ⟨(some 6), .len (.t 5), none⟩, ⟨(some 7), .bin .lss (.t 4) (.t 6), none⟩])
      (.cond (.t 7)
        .skip
        (.exit 0)))
      (.seq (.block 1
        (.seq (.reg [⟨(some 10), .mv (.t 0), none⟩, ⟨(some 11), .mv (.t 3), none⟩, ⟨(some 12), .idxS 1 (.t 10) (.t 11), none⟩, ⟨(some 13), .load 1 false (.t 12), none⟩, ⟨(some 14), .bin .lss (.t 13) (.c (.v (.int .i64 (-4398046511104)))), none⟩, ⟨(some 15), .mv (.t 14), none⟩, ⟨(some 16), .mv (.t 0), (some (15, false))⟩, ⟨(some 17), .mv (.t 3), (some (15, false))⟩, ⟨(some 18), .idxS 1 (.t 16) (.t 17), (some (15, false))⟩, ⟨(some 19), .load 1 false (.t 18), (some (15, false))⟩, ⟨(some 20), .bin .gtr (.t 19) (.c (.v (.int .i64 4398046511104))), (some (15, false))⟩, ⟨(some 21), .pick (.t 15) (.c (.v (.bool true))) (.t 20), none⟩])
        (.cond (.t 21)
          (.seq (.reg [⟨(some 2), .mv (.c (.v (.bool false))), none⟩])
          .ret)
          .skip)))
      (.reg [⟨(some 8), .mv (.t 3), none⟩, ⟨(some 9), .bin .add (.t 8) (.c (.v (.int .i64 1))), none⟩, ⟨(some 3), .mv (.t 9), none⟩]))))))
  (.seq (.reg [⟨(some 2), .mv (.c (.v (.bool true))), none⟩])
  .ret)))
theorem fn_ref09_sane : FnOK Try.prog 60 22 [.t 2] ac_ref09_sane := ⟨_, _, Try.func60, rfl, Try.ntmps60, by kernel_rfl, ⟨fun _ => [], by kernel_rfl⟩, by kernel_rfl⟩
set_option maxHeartbeats 4000000 in
theorem ref09_sane_ok (p1 : (List Int)) (r : Bool) (h : ref09_sane p1 = some r) : PCall Try.prog 60 [(.list (List.map eInt_i64 p1))] (bo r) := by
  refine l_call fn_ref09_sane (Nat.le_of_ble_eq_true rfl) ?_
  unfold ref09_sane at h
  unfold ac_ref09_sane
  refine (l_sub (s0 := ⟨T [(0, (.d (.list (List.map eInt_i64 p1))))], G []⟩) (sb_of ⟨.of rfl, trivial⟩ trivial) ?_)
  refine l_seq ?_
  refine l_reg fun u1 hu1 => ?_
  refine s_val (.d _) rfl rfl ?_
  refine s_nil ?_
  refine l_seq ?_
  refine l_seq ?_
  refine l_reg fun u2 hu2 => ?_
  refine s_val (.d _) rfl rfl ?_
  refine s_nil ?_
  obtain ⟨z1, hz1, h⟩ := thenS_some h
  refine l_join (fun s => ∃ (y1 : Unit) (g1 : Unit), z1 = .inl y1 ∧ Sb ⟨T [], G []⟩ s) ?_ ?_
  · skip
    refine l_block ?_
    refine l_loop (ref09_sane_l1 p1) (fun (x1 : Int) (g2 : Unit) => ⟨T [(0, (.d (.list (List.map eInt_i64 p1)))), (3, (.d (i64 x1)))], G []⟩) 0 () _ hz1 (sb_of ⟨.of rfl, .of rfl, trivial⟩ trivial) ?_
    intro x1 g2 z2 hz2 ez2
    unfold ref09_sane_l1 at hz2
    refine l_seq ?_
    refine l_seq ?_
    refine l_reg fun u3 hu3 => ?_
    refine s_val (.d _) rfl rfl ?_
    refine s_val (.d _) rfl rfl ?_
    refine s_val (.d _) rfl (v_len rfl) ?_
    refine s_val (.d _) rfl rfl ?_
    refine s_nil ?_
    refine l_cond (decide (x1 < (p1.length : Int))) rfl (fun c1 => ?_) (fun c1 => ?_)
    · replace hz2 := cond_t c1 hz2
      refine l_skip ?_
      refine l_seq ?_
      refine l_block ?_
      refine l_seq ?_
      refine l_reg fun u4 hu4 => ?_
      refine s_val (.d _) rfl rfl ?_
      refine s_val (.d _) rfl rfl ?_
      obtain ⟨v1, hv1, hz2⟩ := bind_some hz2
      refine s_val (.d _) rfl (v_idx rfl rfl hv1 rfl) ?_
      refine s_val (.d _) rfl (v_loadL rfl hv1 rfl) ?_
      refine s_val (.d _) rfl rfl ?_
      refine s_val (.d _) rfl rfl ?_
      refine g_val (!(decide (v1 < (-4398046511104)))) (.d _) rfl (gw_f rfl) (fun w1 => rfl) ?_
      refine g_val (!(decide (v1 < (-4398046511104)))) (.d _) rfl (gw_f rfl) (fun w2 => rfl) ?_
      obtain ⟨v2, hv2, hz2⟩ := bind_some hz2
      refine g_val (!(decide (v1 < (-4398046511104)))) (.d _) rfl (gw_f rfl) (fun w3 => (v_idx (gd_pos w3) (gd_pos w3) (cond_t w3 hv2) rfl)) ?_
      refine g_val (!(decide (v1 < (-4398046511104)))) (.d _) rfl (gw_f rfl) (fun w4 => (v_loadL (gd_pos w4) (cond_t w4 hv2) rfl)) ?_
      refine g_val (!(decide (v1 < (-4398046511104)))) (.d _) rfl (gw_f rfl) (fun w5 => (v_bin (gd_pos w5) rfl rfl)) ?_
      refine s_val (.d _) rfl (v_or rfl rfl (fun hc => gd_pos (not_t hc))) ?_
      refine s_nil ?_
      refine l_cond ((decide (v1 < (-4398046511104))) || (decide (v2 > 4398046511104))) rfl (fun c2 => ?_) (fun c2 => ?_)
      · replace hz2 := cond_t c2 hz2
        refine l_seq ?_
        refine l_reg fun u5 hu5 => ?_
        refine s_val (.d _) rfl rfl ?_
        refine s_nil ?_
        refine l_ret ?_
        obtain rfl := Option.some.inj hz2
        obtain rfl := ez2 _ rfl
        refine ⟨nofun, awl_ret ?_⟩
        rw [Sum.elim_inr] at h
        obtain rfl := Option.some.inj h
        refine fin_ok (.inr rfl) (resD1 (res_t rfl) rf_d) ?_
        exact (.refl _)
      · replace hz2 := cond_f c2 hz2
        refine l_skip ?_
        refine l_end ?_
        refine l_reg fun u6 hu6 => ?_
        refine s_val (.d _) rfl rfl ?_
        refine s_val (.d _) rfl rfl ?_
        refine s_val (.d _) rfl rfl ?_
        refine s_nil ?_
        refine l_nil ?_
        obtain rfl := Option.some.inj hz2
        exact ⟨rfl, (), (sb_of ⟨.of rfl, .of rfl, trivial⟩ trivial)⟩
    · replace hz2 := cond_f c1 hz2
      refine l_exitN rfl ?_
      obtain rfl := Option.some.inj hz2
      obtain rfl := ez2 _ rfl
      refine ⟨nofun, awl_pop rfl (l_j ?_)⟩
      exact ⟨_, (), rfl, (sb_of trivial trivial)⟩
  · rintro _ ⟨y1, g1, rfl, q1⟩
    rw [Sum.elim_inl] at h
    refine l_sub q1 ?_
    refine l_seq ?_
    refine l_reg fun u7 hu7 => ?_
    refine s_val (.d _) rfl rfl ?_
    refine s_nil ?_
    refine l_ret ?_
    obtain rfl := Option.some.inj h
    refine fin_ok (.inr rfl) (resD1 (res_t rfl) rf_d) ?_
    exact (.refl _)

noncomputable def ref04_Stop_l1 (p2 : Int) (x1 : (Int × Int)) : Option (Stp (Int × Int) Int) :=
  cond (decide (x1.1 > (mm2 false p2 1000000))) (some (.go ((w64 (x1.1 - (mm2 false p2 1000000))), (w64 (x1.2 + (w64 (x1.1 - (mm2 false p2 1000000)))))))) (some (.out x1.2))
noncomputable def ref04_Stop (p1 : Int) (p2 : Int) : Option Int :=
  cond ((decide ((mm2 false p1 1000000) < 1)) || (decide ((mm2 false p2 1000000) < 1))) (some 0) ((loop (ref04_Stop_l1 p2) ((mm2 false p1 1000000), 0)).bind fun y1 => some y1)

/-- kerbstone/kerbstoneref04.Stop -/
def ac_ref04_Stop : AC :=
  (.seq (.reg [⟨(some 4), .mv (.c (.v (.int .i64 0))), none⟩])
  (.seq (.reg [⟨(some 6), .mv (.t 0), none⟩, ⟨(some 7), .mm false (.t 6) [(.c (.v (.int .i64 1000000)))], none⟩, ⟨(some 8), .mv (.t 1), none⟩, ⟨(some 9), .mm false (.t 8) [(.c (.v (.int .i64 1000000)))], none⟩, ⟨(some 0), .mv (.t 7), none⟩, ⟨(some 1), .mv (.t 9), none⟩])
  (.seq (.reg [⟨(some 5), .mv (.c (.v (.int .i64 0))), none⟩])
  (.seq (.seq (.reg [⟨(some 10), .mv (.t 0), none⟩, ⟨(some 11), .bin .lss (.t 10) (.c (.v (.int .i64 1))), none⟩, ⟨(some 12), .mv (.t 11), none⟩, ⟨(some 13), .mv (.t 1), (some (12, false))⟩, ⟨(some 14), .bin .lss (.t 13) (.c (.v (.int .i64 1))), (some (12, false))⟩, ⟨(some 15), .pick (.t 12) (.c (.v (.bool true))) (.t 14), none⟩])
  (.cond (.t 15)
    (.seq (.reg [⟨(some 4), .mv (.c (.v (.int .i64 0))), none⟩])
    .ret)
    .skip))
  (.seq (.block 0
    (.loop
      (.seq (.seq (.reg [⟨(some 16), .mv (.t 0), none⟩, ⟨(some 17), .mv (.t 1), none⟩, ⟨(some 18), .bin .gtr (.t 16) (.t 17), none⟩])
      (.cond (.t 18)
        .skip
        (.exit 0)))
      (.block 1
        (.seq (.reg [⟨(some 19), .mv (.t 0), none⟩, ⟨(some 20), .mv (.t 1), none⟩, ⟨(some 21), .bin .sub (.t 19) (.t 20), none⟩, ⟨(some 0), .mv (.t 21), none⟩])
        (.reg [⟨(some 22), .mv (.t 5), none⟩, ⟨(some 23), .mv (.t 0), none⟩, ⟨(some 24), .bin .add (.t 22) (.t 23), none⟩, ⟨(some 5), .mv (.t 24), none⟩]))))))
  (.seq (.reg [⟨(some 25), .mv (.t 5), none⟩, ⟨(some 4), .mv (.t 25), none⟩])
  .ret))))))
theorem fn_ref04_Stop : FnOK Try.prog 97 26 [.t 4] ac_ref04_Stop := ⟨_, _, Try.func97, rfl, Try.ntmps97, by kernel_rfl, ⟨fun _ => [], by kernel_rfl⟩, by kernel_rfl⟩
set_option maxHeartbeats 4000000 in
theorem ref04_Stop_ok (p1 : Int) (p2 : Int) (r : Int) (h : ref04_Stop p1 p2 = some r) : PCall Try.prog 97 [(i64 p1), (i64 p2)] (i64 r) := by
  refine l_call fn_ref04_Stop (Nat.le_of_ble_eq_true rfl) ?_
  unfold ref04_Stop at h
  unfold ac_ref04_Stop
  refine (l_sub (s0 := ⟨T [(0, (.d (i64 p1))), (1, (.d (i64 p2)))], G []⟩) (sb_of ⟨.of rfl, .of rfl, trivial⟩ trivial) ?_)
  refine l_seq ?_
  refine l_reg fun u1 hu1 => ?_
  refine s_val (.d _) rfl rfl ?_
  refine s_nil ?_
  refine l_seq ?_
  refine l_reg fun u2 hu2 => ?_
  refine s_val (.d _) rfl rfl ?_
  refine s_val (.d _) rfl rfl ?_
  refine s_val (.d _) rfl rfl ?_
  refine s_val (.d _) rfl rfl ?_
  refine s_val (.d _) rfl rfl ?_
  refine s_val (.d _) rfl rfl ?_
  refine s_nil ?_
  refine l_seq ?_
  refine l_reg fun u3 hu3 => ?_
  refine s_val (.d _) rfl rfl ?_
  refine s_nil ?_
  refine l_seq ?_
  refine l_seq ?_
  refine l_reg fun u4 hu4 => ?_
  refine s_val (.d _) rfl rfl ?_
  refine s_val (.d _) rfl rfl ?_
  refine s_val (.d _) rfl rfl ?_
  refine g_val (!(decide ((mm2 false p1 1000000) < 1))) (.d _) rfl (gw_f rfl) (fun w1 => rfl) ?_
  refine g_val (!(decide ((mm2 false p1 1000000) < 1))) (.d _) rfl (gw_f rfl) (fun w2 => (v_bin (gd_pos w2) rfl rfl)) ?_
  refine s_val (.d _) rfl (v_or rfl rfl (fun hc => gd_pos (not_t hc))) ?_
  refine s_nil ?_
  refine l_cond ((decide ((mm2 false p1 1000000) < 1)) || (decide ((mm2 false p2 1000000) < 1))) rfl (fun c1 => ?_) (fun c1 => ?_)
  · replace h := cond_t c1 h
    refine l_seq ?_
    refine l_reg fun u5 hu5 => ?_
    refine s_val (.d _) rfl rfl ?_
    refine s_nil ?_
    refine l_ret ?_
    obtain rfl := Option.some.inj h
    refine fin_ok (.inr rfl) (resD1 (res_t rfl) rf_d) ?_
    exact (.refl _)
  · replace h := cond_f c1 h
    refine l_skip ?_
    refine l_seq ?_
    obtain ⟨y1, hy1, h⟩ := bind_some h
    refine l_join (fun s => ∃ g1 : Unit, Sb ⟨T [(5, (.d (i64 y1)))], G []⟩ s) ?_ ?_
    · skip
      refine l_block ?_
      refine l_loop (ref04_Stop_l1 p2) (fun (x1 : (Int × Int)) (g2 : Unit) => ⟨T [(0, (.d (i64 x1.1))), (1, (.d (i64 (mm2 false p2 1000000)))), (5, (.d (i64 x1.2)))], G []⟩) ((mm2 false p1 1000000), 0) () _ hy1 (sb_of ⟨.of rfl, .of rfl, .of rfl, trivial⟩ trivial) ?_
      intro x1 g2 z1 hz1 ez1
      unfold ref04_Stop_l1 at hz1
      refine l_seq ?_
      refine l_seq ?_
      refine l_reg fun u6 hu6 => ?_
      refine s_val (.d _) rfl rfl ?_
      refine s_val (.d _) rfl rfl ?_
      refine s_val (.d _) rfl rfl ?_
      refine s_nil ?_
      refine l_cond (decide (x1.1 > (mm2 false p2 1000000))) rfl (fun c2 => ?_) (fun c2 => ?_)
      · replace hz1 := cond_t c2 hz1
        refine l_skip ?_
        refine l_block ?_
        refine l_seq ?_
        refine l_reg fun u7 hu7 => ?_
        refine s_val (.d _) rfl rfl ?_
        refine s_val (.d _) rfl rfl ?_
        refine s_val (.d _) rfl rfl ?_
        refine s_val (.d _) rfl rfl ?_
        refine s_nil ?_
        refine l_reg fun u8 hu8 => ?_
        refine s_val (.d _) rfl rfl ?_
        refine s_val (.d _) rfl rfl ?_
        refine s_val (.d _) rfl rfl ?_
        refine s_val (.d _) rfl rfl ?_
        refine s_nil ?_
        refine l_end ?_
        refine l_nil ?_
        obtain rfl := Option.some.inj hz1
        exact ⟨rfl, (), (sb_of ⟨.of rfl, .of rfl, .of rfl, trivial⟩ trivial)⟩
      · replace hz1 := cond_f c2 hz1
        refine l_exitN rfl ?_
        obtain rfl := Option.some.inj hz1
        obtain rfl := ez1 _ rfl
        refine ⟨nofun, awl_pop rfl (l_j ?_)⟩
        exact ⟨(), (sb_of ⟨.of rfl, trivial⟩ trivial)⟩
    · rintro _ ⟨g1, q1⟩
      refine l_sub q1 ?_
      refine l_seq ?_
      refine l_reg fun u9 hu9 => ?_
      refine s_val (.d _) rfl rfl ?_
      refine s_val (.d _) rfl rfl ?_
      refine s_nil ?_
      refine l_ret ?_
      obtain rfl := Option.some.inj h
      refine fin_ok (.inr rfl) (resD1 (res_t rfl) rf_d) ?_
      exact (.refl _)

noncomputable def ref09_stop (p1 : Int) : Option Int :=
  (ref04_Stop p1 90).bind fun v1 => some v1

/-- kerbstone/kerbstoneref09.stop -/
def ac_ref09_stop : AC :=
  (.seq (.reg [⟨(some 2), .mv (.c (.v (.int .i64 0))), none⟩])
  (.seq (.reg [⟨(some 3), .mv (.t 0), none⟩, ⟨(some 4), .call (.c (.fn (.func 97) [] [])) [(.t 3), (.c (.v (.int .i64 90)))], none⟩, ⟨(some 2), .mv (.t 4), none⟩])
  .ret))
theorem fn_ref09_stop : FnOK Try.prog 63 5 [.t 2] ac_ref09_stop := ⟨_, _, Try.func63, rfl, Try.ntmps63, by kernel_rfl, ⟨fun _ => [], by kernel_rfl⟩, by kernel_rfl⟩
theorem ref09_stop_ok (p1 : Int) (r : Int) (h : ref09_stop p1 = some r) : PCall Try.prog 63 [(i64 p1)] (i64 r) := by
  refine l_call fn_ref09_stop (Nat.le_of_ble_eq_true rfl) ?_
  unfold ref09_stop at h
  unfold ac_ref09_stop
  refine (l_sub (s0 := ⟨T [(0, (.d (i64 p1)))], G []⟩) (sb_of ⟨.of rfl, trivial⟩ trivial) ?_)
  refine l_seq ?_
  refine l_reg fun u1 hu1 => ?_
  refine s_val (.d _) rfl rfl ?_
  refine s_nil ?_
  refine l_seq ?_
  refine l_reg fun u2 hu2 => ?_
  refine s_val (.d _) rfl rfl ?_
  obtain ⟨v1, hv1, h⟩ := bind_some h
  refine s_call rfl rfl all2_refl (ref04_Stop_ok _ _  _ hv1) (.inl rfl) ?_
  refine s_val (.d _) rfl rfl ?_
  refine s_nil ?_
  refine l_ret ?_
  obtain rfl := Option.some.inj h
  refine fin_ok (.inr rfl) (resD1 (res_t rfl) rf_d) ?_
  exact (.refl _)

noncomputable def ref09_Safe (p1 : Int) (p2 : Int) (p3 : Int) (p4 : Guess) : Option Bool :=
  (ref09_sane [p1, p2, p3, p4.R, p4.V]).bind fun v1 => ((cond (v1 && (decide (p1 ≤ (w64 (p4.R - p3))))) (ref09_stop p2) (some default))).bind fun v2 => ((cond (v1 && (decide (p1 ≤ (w64 (p4.R - p3))))) (ref09_stop p4.V) (some default))).bind fun v3 => some ((v1 && (decide (p1 ≤ (w64 (p4.R - p3))))) && (decide ((w64 (p1 + v2)) ≤ (w64 ((w64 (p4.R + v3)) - p3)))))

/-- kerbstone/kerbstoneref09.Safe -/
def ac_ref09_Safe : AC :=
  (.seq (.reg [⟨(some 7), .box 23 true (.t 3), none⟩, ⟨(some 8), .mv (.c (.v (.bool false))), none⟩])
  (.seq (.draw [⟨(some 9), .mv (.t 0), none⟩, ⟨(some 10), .mv (.t 1), none⟩, ⟨(some 11), .mv (.t 2), none⟩, ⟨(some 12), .fieldA 0 (.t 7), none⟩, ⟨(some 13), .load 1 false (.t 12), none⟩, ⟨(some 14), .fieldA 1 (.t 7), none⟩, ⟨(some 15), .load 1 false (.t 14), none⟩, ⟨(some 16), .dslice 2 1 5 [(.v (.int .i64 0))] [(0, 1, (.t 9)), (1, 1, (.t 10)), (2, 1, (.t 11)), (3, 1, (.t 13)), (4, 1, (.t 15))], none⟩, ⟨(some 17), .call (.c (.fn (.func 60) [] [])) [(.t 16)], none⟩, ⟨(some 18), .mv (.t 17), none⟩, ⟨(some 19), .mv (.t 0), (some (18, true))⟩, ⟨(some 20), .fieldA 0 (.t 7), (some (18, true))⟩, ⟨(some 21), .load 1 false (.t 20), (some (18, true))⟩, ⟨(some 22), .mv (.t 2), (some (18, true))⟩, ⟨(some 23), .bin .sub (.t 21) (.t 22), (some (18, true))⟩, ⟨(some 24), .bin .leq (.t 19) (.t 23), (some (18, true))⟩, ⟨(some 25), .pick (.t 18) (.t 24) (.c (.v (.bool false))), none⟩, ⟨(some 26), .mv (.t 25), none⟩, ⟨(some 27), .mv (.t 0), (some (26, true))⟩, ⟨(some 28), .mv (.t 1), (some (26, true))⟩, ⟨(some 29), .call (.c (.fn (.func 63) [] [])) [(.t 28)], (some (26, true))⟩, ⟨(some 30), .bin .add (.t 27) (.t 29), (some (26, true))⟩, ⟨(some 31), .fieldA 0 (.t 7), (some (26, true))⟩, ⟨(some 32), .load 1 false (.t 31), (some (26, true))⟩, ⟨(some 33), .fieldA 1 (.t 7), (some (26, true))⟩, ⟨(some 34), .load 1 false (.t 33), (some (26, true))⟩, ⟨(some 35), .call (.c (.fn (.func 63) [] [])) [(.t 34)], (some (26, true))⟩, ⟨(some 36), .bin .add (.t 32) (.t 35), (some (26, true))⟩, ⟨(some 37), .mv (.t 2), (some (26, true))⟩, ⟨(some 38), .bin .sub (.t 36) (.t 37), (some (26, true))⟩, ⟨(some 39), .bin .leq (.t 30) (.t 38), (some (26, true))⟩, ⟨(some 40), .pick (.t 26) (.t 39) (.c (.v (.bool false))), none⟩, ⟨(some 8), .mv (.t 40), none⟩] [])
  .ret))
theorem fn_ref09_Safe : FnOK Try.prog 22 41 [.t 8] ac_ref09_Safe := ⟨_, _, Try.func22, rfl, Try.ntmps22, by kernel_rfl, ⟨fun r => if r == 1 then [1007] else [], by kernel_rfl⟩, by kernel_rfl⟩
theorem ref09_Safe_ok (p1 : Int) (p2 : Int) (p3 : Int) (p4 : Guess) (r : Bool) (h : ref09_Safe p1 p2 p3 p4 = some r) : PCall Try.prog 22 [(i64 p1), (i64 p2), (i64 p3), (.agg [(i64 p4.R), (i64 p4.V)])] (bo r) := by
  refine l_call fn_ref09_Safe (Nat.le_of_ble_eq_true rfl) ?_
  unfold ref09_Safe at h
  unfold ac_ref09_Safe
  refine (l_sub (s0 := ⟨T [(0, (.d (i64 p1))), (1, (.d (i64 p2))), (2, (.d (i64 p3))), (3, (.d (.agg [(i64 p4.R), (i64 p4.V)])))], G []⟩) (sb_of ⟨.of rfl, .of rfl, .of rfl, .of rfl, trivial⟩ trivial) ?_)
  refine l_seq ?_
  refine l_reg fun u1 hu1 => ?_
  refine s_new (.ptr _ _) (.box _ _) rfl rfl ?_
  refine s_val (.d _) rfl rfl ?_
  refine s_nil ?_
  refine l_seq ?_
  refine l_draw rfl fun u2 hu2 => ?_
  refine s_val (.d _) rfl rfl ?_
  refine s_val (.d _) rfl rfl ?_
  refine s_val (.d _) rfl rfl ?_
  refine s_val (.ptr _ _) rfl rfl ?_
  refine s_val (.d _) rfl (v_load rfl G_hit rfl) ?_
  refine s_val (.ptr _ _) rfl rfl ?_
  refine s_val (.d _) rfl (v_load rfl G_hit rfl) ?_
  refine s_val (.d (.list (List.map eInt_i64 [p1, p2, p3, p4.R, p4.V]))) rfl rfl ?_
  obtain ⟨v1, hv1, h⟩ := bind_some h
  refine s_call rfl rfl all2_refl (ref09_sane_ok _  _ hv1) (.inl rfl) ?_
  refine s_val (.d _) rfl rfl ?_
  refine g_val v1 (.d _) rfl (gw_t rfl) (fun w1 => rfl) ?_
  refine g_val v1 (.ptr _ _) rfl (gw_t rfl) (fun w2 => rfl) ?_
  refine g_val v1 (.d _) rfl (gw_t rfl) (fun w3 => (v_load (gd_pos w3) G_hit rfl)) ?_
  refine g_val v1 (.d _) rfl (gw_t rfl) (fun w4 => rfl) ?_
  refine g_val v1 (.d _) rfl (gw_t rfl) (fun w5 => (v_bin (gd_pos w5) (gd_pos w5) rfl)) ?_
  refine g_val v1 (.d _) rfl (gw_t rfl) (fun w6 => (v_bin (gd_pos w6) (gd_pos w6) rfl)) ?_
  refine s_val (.d _) rfl (v_and rfl (fun hc => gd_pos hc) rfl) ?_
  refine s_val (.d _) rfl rfl ?_
  refine g_val (v1 && (decide (p1 ≤ (w64 (p4.R - p3))))) (.d _) rfl (gw_t rfl) (fun w7 => rfl) ?_
  refine g_val (v1 && (decide (p1 ≤ (w64 (p4.R - p3))))) (.d _) rfl (gw_t rfl) (fun w8 => rfl) ?_
  obtain ⟨v2, hv2, h⟩ := bind_some h
  refine g_call (v1 && (decide (p1 ≤ (w64 (p4.R - p3))))) (i64 v2) (gw_t rfl) (fun w9 => ⟨_, [(.d (i64 p2))], _, _, (by simp only [gd_pos w9]; rfl), rfl, all2_refl, ref09_stop_ok _  _ (cond_t w9 hv2), (.inl rfl)⟩) ?_
  refine g_val (v1 && (decide (p1 ≤ (w64 (p4.R - p3))))) (.d _) rfl (gw_t rfl) (fun w10 => (v_bin (gd_pos w10) (gd_pos w10) rfl)) ?_
  refine g_val (v1 && (decide (p1 ≤ (w64 (p4.R - p3))))) (.ptr _ _) rfl (gw_t rfl) (fun w11 => rfl) ?_
  refine g_val (v1 && (decide (p1 ≤ (w64 (p4.R - p3))))) (.d _) rfl (gw_t rfl) (fun w12 => (v_load (gd_pos w12) G_hit rfl)) ?_
  refine g_val (v1 && (decide (p1 ≤ (w64 (p4.R - p3))))) (.ptr _ _) rfl (gw_t rfl) (fun w13 => rfl) ?_
  refine g_val (v1 && (decide (p1 ≤ (w64 (p4.R - p3))))) (.d _) rfl (gw_t rfl) (fun w14 => (v_load (gd_pos w14) G_hit rfl)) ?_
  obtain ⟨v3, hv3, h⟩ := bind_some h
  refine g_call (v1 && (decide (p1 ≤ (w64 (p4.R - p3))))) (i64 v3) (gw_t rfl) (fun w15 => ⟨_, [(.d (i64 p4.V))], _, _, (by simp only [gd_pos w15]; rfl), rfl, all2_refl, ref09_stop_ok _  _ (cond_t w15 hv3), (.inl rfl)⟩) ?_
  refine g_val (v1 && (decide (p1 ≤ (w64 (p4.R - p3))))) (.d _) rfl (gw_t rfl) (fun w16 => (v_bin (gd_pos w16) (gd_pos w16) rfl)) ?_
  refine g_val (v1 && (decide (p1 ≤ (w64 (p4.R - p3))))) (.d _) rfl (gw_t rfl) (fun w17 => rfl) ?_
  refine g_val (v1 && (decide (p1 ≤ (w64 (p4.R - p3))))) (.d _) rfl (gw_t rfl) (fun w18 => (v_bin (gd_pos w18) (gd_pos w18) rfl)) ?_
  refine g_val (v1 && (decide (p1 ≤ (w64 (p4.R - p3))))) (.d _) rfl (gw_t rfl) (fun w19 => (v_bin (gd_pos w19) (gd_pos w19) rfl)) ?_
  refine s_val (.d _) rfl (v_and rfl (fun hc => gd_pos hc) rfl) ?_
  refine s_val (.d _) rfl rfl ?_
  refine s_nil ?_
  refine l_ret ?_
  obtain rfl := Option.some.inj h
  refine fin_ok (.inr rfl) (resD1 (res_t rfl) rf_d) ?_
  exact (.refl _)

noncomputable def kit_Mates_o_l2 (p2 : Int) (v4 : Mate) (x2 : Mate) : Option (Stp Mate Mate) :=
  (ref09_Safe x2.S x2.V p2 (Guess.mk (w64 (v4.S - v4.Len)) v4.V)).bind fun v7 => cond (!v7) (some (.go (Mate.mk x2.ID (w64 (x2.S - 500)) x2.V x2.Len x2.Ahead x2.Guess_ x2.Trust x2.Ward x2.WardGuess x2.Until))) (some (.out x2))
noncomputable def kit_Mates_o_l1 (p2 : Int) (x1 : ((List Mate) × Int × KitRing)) : Option (Stp ((List Mate) × Int × KitRing) ((List Mate) × KitRing)) :=
  cond (decide (x1.2.1 > 0)) ((geti x1.1 (w64 ((x1.1.length : Int) - 1))).bind fun v4 => (kit_Ring_Next_o x1.2.2 2001).bind fun v5 => (kit_Ring_Next_o v5.2 6000).bind fun v6 => (loop (kit_Mates_o_l2 p2 v4) (Mate.mk 0 (w64 ((w64 (v4.S - v4.Len)) - p2)) v5.1 (w64 (300 + v6.1)) 0 (Guess.mk 0 0) false 0 (Guess.mk 0 0) 0)).bind fun y2 => (kit_Ring_Next_o v6.2 3).bind fun v8 => (kit_Ring_Next_o v8.2 9000).bind fun v9 => (appc x1.1 [(Mate.mk y2.ID (w64 (y2.S - (w64 (v8.1 * v9.1)))) y2.V y2.Len y2.Ahead y2.Guess_ y2.Trust y2.Ward y2.WardGuess y2.Until)]).bind fun v10 => some (.go (v10, (w64 (x1.2.1 - 1)), v9.2))) (some (.out (x1.1, x1.2.2)))
noncomputable def kit_Mates_o (p1 : KitRing) (p2 : Int) (p3 : Int) : Option ((List Mate) × KitRing) :=
  (kit_Ring_Next_o p1 2001).bind fun v1 => (kit_Ring_Next_o v1.2 6000).bind fun v2 => (kit_Ring_Next_o v2.2 p3).bind fun v3 => (loop (kit_Mates_o_l1 p2) ([(Mate.mk 0 16777216 v1.1 (w64 (300 + v2.1)) 0 (Guess.mk 0 0) false 0 (Guess.mk 0 0) 0)], v3.1, v3.2)).bind fun y1 => some (y1.1, y1.2)

/-- kerbstone/kerbstonekit.Mates -/
def ac_kit_Mates_o : AC :=
  (.seq (.reg [⟨(some 6), .mv (.c .nilS), none⟩])
  (.seq (.reg [⟨(some 12), .mv (.t 0), none⟩, ⟨(some 13), .ocall 10010010 (.c (.fn (.func 49) [] [])) [(.t 12), (.c (.v (.int .i64 2001)))], none⟩, ⟨(some 14), .mv (.t 0), none⟩, ⟨(some 15), .ocall 10010030 (.c (.fn (.func 49) [] [])) [(.t 14), (.c (.v (.int .i64 6000)))], none⟩, ⟨(some 16), .bin .add (.c (.v (.int .i64 300))) (.t 15), none⟩, ⟨(some 17), .build [(.v (.int .i64 0)), (.v (.int .i64 0)), (.v (.int .i64 0)), (.v (.int .i64 0)), (.v (.int .i64 0)), (.v (.int .i64 0)), (.v (.int .i64 0)), (.v (.bool false)), (.v (.int .i64 0)), (.v (.int .i64 0)), (.v (.int .i64 0)), (.v (.int .i64 0))] [(1, 1, (.c (.v (.int .i64 16777216)))), (2, 1, (.t 13)), (3, 1, (.t 16))], none⟩, ⟨(some 18), .bslice 65 12 1 [(.v (.int .i64 0)), (.v (.int .i64 0)), (.v (.int .i64 0)), (.v (.int .i64 0)), (.v (.int .i64 0)), (.v (.int .i64 0)), (.v (.int .i64 0)), (.v (.bool false)), (.v (.int .i64 0)), (.v (.int .i64 0)), (.v (.int .i64 0)), (.v (.int .i64 0))] [(0, 12, (.t 17))], none⟩, ⟨(some 7), .mv (.t 18), none⟩])
  (.seq (.seq (.reg [⟨(some 19), .mv (.t 0), none⟩, ⟨(some 20), .mv (.t 2), none⟩, ⟨(some 21), .ocall 10020020 (.c (.fn (.func 49) [] [])) [(.t 19), (.t 20)], none⟩, ⟨(some 8), .mv (.t 21), none⟩])
  (.block 0
    (.loop
      (.seq (.seq (.reg [⟨(some 22), .mv (.t 8), none⟩, ⟨(some 23), .bin .gtr (.t 22) (.c (.v (.int .i64 0))), none⟩])
      (.cond (.t 23)
        .skip
        (.exit 0)))
      (.seq (.block 1
        (.seq (.reg [⟨(some 26), .mv (.t 7), none⟩, ⟨(some 27), .mv (.t 7), none⟩, ⟨(some 28), .len (.t 27), none⟩, ⟨(some 29), .bin .sub (.t 28) (.c (.v (.int .i64 1))), none⟩, ⟨(some 30), .idxS 12 (.t 26) (.t 29), none⟩, ⟨(some 31), .load 12 true (.t 30), none⟩, ⟨(some 9), .alloc 65 [(.v (.int .i64 0)), (.v (.int .i64 0)), (.v (.int .i64 0)), (.v (.int .i64 0)), (.v (.int .i64 0)), (.v (.int .i64 0)), (.v (.int .i64 0)), (.v (.bool false)), (.v (.int .i64 0)), (.v (.int .i64 0)), (.v (.int .i64 0)), (.v (.int .i64 0))], none⟩, ⟨none, .store 12 (.t 9) (.t 31), none⟩])
        (.seq (.reg [⟨(some 32), .fieldA 1 (.t 9), none⟩, ⟨(some 33), .load 1 false (.t 32), none⟩, ⟨(some 34), .fieldA 3 (.t 9), none⟩, ⟨(some 35), .load 1 false (.t 34), none⟩, ⟨(some 36), .bin .sub (.t 33) (.t 35), none⟩, ⟨(some 37), .fieldA 2 (.t 9), none⟩, ⟨(some 38), .load 1 false (.t 37), none⟩, ⟨(some 39), .build [(.v (.int .i64 0)), (.v (.int .i64 0))] [(0, 1, (.t 36)), (1, 1, (.t 38))], none⟩, ⟨(some 10), .alloc 23 [(.v (.int .i64 0)), (.v (.int .i64 0))], none⟩, ⟨none, .store 2 (.t 10) (.t 39), none⟩])
        (.seq (.draw [⟨(some 40), .fieldA 0 (.t 10), none⟩, ⟨(some 41), .load 1 false (.t 40), none⟩, ⟨(some 42), .mv (.t 1), none⟩, ⟨(some 43), .bin .sub (.t 41) (.t 42), none⟩, ⟨(some 44), .mv (.t 0), none⟩, ⟨(some 45), .ocall 10070050 (.c (.fn (.func 49) [] [])) [(.t 44), (.c (.v (.int .i64 2001)))], none⟩, ⟨(some 46), .mv (.t 0), none⟩, ⟨(some 47), .ocall 10070070 (.c (.fn (.func 49) [] [])) [(.t 46), (.c (.v (.int .i64 6000)))], none⟩, ⟨(some 48), .bin .add (.c (.v (.int .i64 300))) (.t 47), none⟩, ⟨(some 49), .build [(.v (.int .i64 0)), (.v (.int .i64 0)), (.v (.int .i64 0)), (.v (.int .i64 0)), (.v (.int .i64 0)), (.v (.int .i64 0)), (.v (.int .i64 0)), (.v (.bool false)), (.v (.int .i64 0)), (.v (.int .i64 0)), (.v (.int .i64 0)), (.v (.int .i64 0))] [(1, 1, (.t 43)), (2, 1, (.t 45)), (3, 1, (.t 48))], none⟩, ⟨(some 11), .alloc 65 [(.v (.int .i64 0)), (.v (.int .i64 0)), (.v (.int .i64 0)), (.v (.int .i64 0)), (.v (.int .i64 0)), (.v (.int .i64 0)), (.v (.int .i64 0)), (.v (.bool false)), (.v (.int .i64 0)), (.v (.int .i64 0)), (.v (.int .i64 0)), (.v (.int .i64 0))], none⟩, ⟨none, .store 12 (.t 11) (.t 49), none⟩] [(1, 5), (1, 7), (5, 10), (7, 10)])
        (.seq (.block 2
          (.loop
            (.seq (.seq (.reg [⟨(some 50), .fieldA 1 (.t 11), none⟩, ⟨(some 51), .load 1 false (.t 50), none⟩, ⟨(some 52), .fieldA 2 (.t 11), none⟩, ⟨(some 53), .load 1 false (.t 52), none⟩, ⟨(some 54), .mv (.t 1), none⟩, ⟨(some 55), .load 2 true (.t 10), none⟩, ⟨(some 56), .call (.c (.fn (.func 22) [] [])) [(.t 51), (.t 53), (.t 54), (.t 55)], none⟩, ⟨(some 57), .un .not (.t 56), none⟩])
            (.cond (.t 57)
              .skip
              (.exit 2)))
            (.block 3
              (.reg [⟨(some 58), .fieldA 1 (.t 11), none⟩, ⟨(some 59), .load 1 false (.t 58), none⟩, ⟨(some 60), .bin .sub (.t 59) (.c (.v (.int .i64 500))), none⟩, ⟨(some 61), .fieldA 1 (.t 11), none⟩, ⟨none, .store 1 (.t 61) (.t 60), none⟩])))))
        (.seq (.draw [⟨(some 62), .fieldA 1 (.t 11), none⟩, ⟨(some 63), .load 1 false (.t 62), none⟩, ⟨(some 64), .mv (.t 0), none⟩, ⟨(some 65), .ocall 10100030 (.c (.fn (.func 49) [] [])) [(.t 64), (.c (.v (.int .i64 3)))], none⟩, ⟨(some 66), .mv (.t 0), none⟩, ⟨(some 67), .ocall 10100050 (.c (.fn (.func 49) [] [])) [(.t 66), (.c (.v (.int .i64 9000)))], none⟩, ⟨(some 68), .bin .mul (.t 65) (.t 67), none⟩, ⟨(some 69), .bin .sub (.t 63) (.t 68), none⟩, ⟨(some 70), .fieldA 1 (.t 11), none⟩, ⟨none, .store 1 (.t 70) (.t 69), none⟩] [(1, 3), (1, 5)])
        (.reg [⟨(some 71), .mv (.t 7), none⟩, ⟨(some 72), .load 12 true (.t 11), none⟩, ⟨(some 73), .bslice 65 12 1 [(.v (.int .i64 0)), (.v (.int .i64 0)), (.v (.int .i64 0)), (.v (.int .i64 0)), (.v (.int .i64 0)), (.v (.int .i64 0)), (.v (.int .i64 0)), (.v (.bool false)), (.v (.int .i64 0)), (.v (.int .i64 0)), (.v (.int .i64 0)), (.v (.int .i64 0))] [(0, 12, (.t 72))], none⟩, ⟨(some 74), .append 34 65 12 (.t 71) (.t 73), none⟩, ⟨(some 7), .mv (.t 74), none⟩])))))))
      (.reg [⟨(some 24), .mv (.t 8), none⟩, ⟨(some 25), .bin .sub (.t 24) (.c (.v (.int .i64 1))), none⟩, ⟨(some 8), .mv (.t 25), none⟩]))))))
  (.seq (.reg [⟨(some 75), .mv (.t 7), none⟩, ⟨(some 6), .mv (.t 75), none⟩])
  .ret))))
theorem fn_kit_Mates_o : FnOK Try.prog 72 76 [.t 6] ac_kit_Mates_o := ⟨_, _, Try.func72, rfl, Try.ntmps72, by kernel_rfl, ⟨fun r => if r == 1 then [1001001, 1001003] else if r == 2 then [1002002] else if r == 7 then [1007005, 1007007] else if r == 10 then [1010003, 1010005] else [], by kernel_rfl⟩, by kernel_rfl⟩
set_option maxHeartbeats 4000000 in
theorem kit_Mates_o_ok (p1 : KitRing) (p2 : Int) (p3 : Int) (r : ((List Mate) × KitRing)) (h : kit_Mates_o p1 p2 p3 = some r) : MCall Try.prog 72 [(.ptr (900000, 0) 0), (.d (i64 p2)), (.d (i64 p3))] [(.box 94 [(.d (.list (List.map eInt_i64 p1.l))), (.d (i64 p1.at_))])] (.d (.list (List.map eMate r.1))) [some (.box 94 [(.d (.list (List.map eInt_i64 r.2.l))), (.d (i64 r.2.at_))])] [] := by
  refine m_callF fn_kit_Mates_o rfl (Nat.le_of_ble_eq_true rfl) ?_
  unfold kit_Mates_o at h
  unfold ac_kit_Mates_o
  refine (l_sub (s0 := ⟨T [(0, (.ptr (900000, 0) 0)), (1, (.d (i64 p2))), (2, (.d (i64 p3)))], G [((900000, 0), some (.box 94 [(.d (.list (List.map eInt_i64 p1.l))), (.d (i64 p1.at_))]))]⟩) (sb_of ⟨.of rfl, .of rfl, .of rfl, trivial⟩ (sbG_some G_hit (.of rfl) trivial)) ?_)
  refine l_seq ?_
  refine l_reg fun u1 hu1 => ?_
  refine s_val (.d _) rfl rfl ?_
  refine s_nil ?_
  refine l_seq ?_
  refine l_reg fun u2 hu2 => ?_
  refine s_val (.ptr _ _) rfl rfl ?_
  obtain ⟨v1, hv1, h⟩ := bind_some h
  refine s_oc (v := .d (i64 v1.1)) (us := [(900000, 0)]) (oc_m (kit_Ring_Next_o_ok _ _ _ hv1) [(900000, 0)] [(900000, 0)] _ (((900000, 0), some (.box 94 [(.d (.list (List.map eInt_i64 v1.2.l))), (.d (i64 v1.2.at_))])) :: _) rfl all2_av (kl_cons (kr_ptr G_hit rfl) (kl_cons kr_d kl_nil)) (live_cons G_hit live_nil) ⟨⟨_, G_hit, .of rfl⟩, trivial⟩ (fun _ h => h) nd1 rfl rfl rfl) ?_
  refine s_val (.ptr _ _) rfl rfl ?_
  obtain ⟨v2, hv2, h⟩ := bind_some h
  refine s_oc (v := .d (i64 v2.1)) (us := [(900000, 0)]) (oc_m (kit_Ring_Next_o_ok _ _ _ hv2) [(900000, 0)] [(900000, 0)] _ (((900000, 0), some (.box 94 [(.d (.list (List.map eInt_i64 v2.2.l))), (.d (i64 v2.2.at_))])) :: _) rfl all2_av (kl_cons (kr_ptr G_hit rfl) (kl_cons kr_d kl_nil)) (live_cons G_hit live_nil) ⟨⟨_, G_hit, .of rfl⟩, trivial⟩ (fun _ h => h) nd1 rfl rfl rfl) ?_
  refine s_val (.d _) rfl rfl ?_
  refine s_val (.d _) rfl rfl ?_
  refine s_new (.sl _) (.arr 65 12 (List.map eMate ([(Mate.mk 0 16777216 v1.1 (w64 (300 + v2.1)) 0 (Guess.mk 0 0) false 0 (Guess.mk 0 0) 0)] : List Mate))) rfl (aval_bsliceN eMate _ (fun _ => rfl) rfl rfl ⟨rfl, rfl, rfl, trivial⟩) ?_
  refine s_val (.sl _) rfl rfl ?_
  refine s_nil ?_
  refine l_seq ?_
  refine l_seq ?_
  refine l_reg fun u3 hu3 => ?_
  refine s_val (.ptr _ _) rfl rfl ?_
  refine s_val (.d _) rfl rfl ?_
  obtain ⟨v3, hv3, h⟩ := bind_some h
  refine s_oc (v := .d (i64 v3.1)) (us := [(900000, 0)]) (oc_m (kit_Ring_Next_o_ok _ _ _ hv3) [(900000, 0)] [(900000, 0)] _ (((900000, 0), some (.box 94 [(.d (.list (List.map eInt_i64 v3.2.l))), (.d (i64 v3.2.at_))])) :: _) rfl all2_av (kl_cons (kr_ptr (G_skip rfl G_hit) rfl) (kl_cons kr_d kl_nil)) (live_cons (G_skip rfl G_hit) live_nil) ⟨⟨_, (G_skip rfl G_hit), .of rfl⟩, trivial⟩ (fun _ h => h) nd1 rfl rfl rfl) ?_
  refine s_val (.d _) rfl rfl ?_
  refine s_nil ?_
  obtain ⟨y1, hy1, h⟩ := bind_some h
  refine l_join (fun s => ∃ g1 : ({d : Nat // d ∈ [18, 74]} × Nat), Sb ⟨T [(0, (.ptr (900000, 0) 0)), (7, (oS y1.1 (g1.1.val, g1.2)))], G [((900000, 0), some (.box 94 [(.d (.list (List.map eInt_i64 y1.2.l))), (.d (i64 y1.2.at_))])), ((g1.1.val, g1.2), oB 65 12 eMate y1.1)]⟩ s) ?_ ?_
  · skip
    refine l_block ?_
    refine l_loop (kit_Mates_o_l1 p2) (fun (x1 : ((List Mate) × Int × KitRing)) (g2 : ({d : Nat // d ∈ [18, 74]} × Nat)) => ⟨T [(0, (.ptr (900000, 0) 0)), (1, (.d (i64 p2))), (7, (oS x1.1 (g2.1.val, g2.2))), (8, (.d (i64 x1.2.1)))], G [((900000, 0), some (.box 94 [(.d (.list (List.map eInt_i64 x1.2.2.l))), (.d (i64 x1.2.2.at_))])), ((g2.1.val, g2.2), oB 65 12 eMate x1.1)]⟩) ([(Mate.mk 0 16777216 v1.1 (w64 (300 + v2.1)) 0 (Guess.mk 0 0) false 0 (Guess.mk 0 0) 0)], v3.1, v3.2) (⟨18, .head _⟩, u2) _ hy1 (sb_of ⟨.of rfl, .of rfl, (.of (oS_ne (List.cons_ne_nil _ _)).symm), .of rfl, trivial⟩ (sbG_some G_hit (.of rfl) (sbG_own (G_skip rfl G_hit) trivial))) ?_
    intro x1 g2 z1 hz1 ez1
    unfold kit_Mates_o_l1 at hz1
    refine l_seq ?_
    refine l_seq ?_
    refine l_reg fun u4 hu4 => ?_
    refine s_val (.d _) rfl rfl ?_
    refine s_val (.d _) rfl rfl ?_
    refine s_nil ?_
    refine l_cond (decide (x1.2.1 > 0)) rfl (fun c1 => ?_) (fun c1 => ?_)
    · replace hz1 := cond_t c1 hz1
      refine l_skip ?_
      refine l_seq ?_
      refine l_block ?_
      refine l_seq ?_
      refine l_reg fun u5 hu5 => ?_
      refine s_val (oS x1.1 (g2.1.val, g2.2)) rfl rfl ?_
      refine s_val (oS x1.1 (g2.1.val, g2.2)) rfl rfl ?_
      refine s_val (.d _) rfl (v_lenO (f := eMate) rfl (G_skip (neL g2.1.property rfl) G_hit)) ?_
      refine s_val (.d _) rfl rfl ?_
      obtain ⟨v4, hv4, hz1⟩ := bind_some hz1
      refine s_val (.aptr _ _ _ _) rfl (v_idxO rfl rfl (G_skip (neL g2.1.property rfl) G_hit) hv4) ?_
      refine s_val (.d _) rfl (v_loadAG rfl (look_oB (G_skip (neL g2.1.property rfl) G_hit) (geti_ne hv4)) hv4 rfl rfl) ?_
      refine s_new (.ptr _ _) (.box _ _) rfl rfl ?_
      refine s_store _ _ _ _ _ rfl rfl rfl G_hit (Nat.le_of_ble_eq_true rfl) [(.d (i64 v4.ID)), (.d (i64 v4.S)), (.d (i64 v4.V)), (.d (i64 v4.Len)), (.d (i64 v4.Ahead)), (.d (i64 v4.Guess_.R)), (.d (i64 v4.Guess_.V)), (.d (bo v4.Trust)), (.d (i64 v4.Ward)), (.d (i64 v4.WardGuess.R)), (.d (i64 v4.WardGuess.V)), (.d (i64 v4.Until))] rfl ?_
      refine s_nil ?_
      refine l_seq ?_
      refine l_reg fun u6 hu6 => ?_
      refine s_val (.ptr _ _) rfl rfl ?_
      refine s_val (.d _) rfl (v_load rfl G_hit rfl) ?_
      refine s_val (.ptr _ _) rfl rfl ?_
      refine s_val (.d _) rfl (v_load rfl G_hit rfl) ?_
      refine s_val (.d _) rfl rfl ?_
      refine s_val (.ptr _ _) rfl rfl ?_
      refine s_val (.d _) rfl (v_load rfl G_hit rfl) ?_
      refine s_val (.d _) rfl rfl ?_
      refine s_new (.ptr _ _) (.box _ _) rfl rfl ?_
      refine s_store _ _ _ _ _ rfl rfl rfl G_hit (Nat.le_of_ble_eq_true rfl) [(.d (i64 (w64 (v4.S - v4.Len)))), (.d (i64 v4.V))] rfl ?_
      refine s_nil ?_
      refine l_seq ?_
      refine l_sub (s0 := ⟨T [(0, (.ptr (900000, 0) 0)), (1, (.d (i64 p2))), (7, (oS x1.1 (g2.1.val, g2.2))), (8, (.d (i64 x1.2.1))), (10, (.ptr (10, u6) 0))], G [((900000, 0), some (.box 94 [(.d (.list (List.map eInt_i64 x1.2.2.l))), (.d (i64 x1.2.2.at_))])), ((g2.1.val, g2.2), oB 65 12 eMate x1.1), ((10, u6), some (.box 23 [(.d (i64 (w64 (v4.S - v4.Len)))), (.d (i64 v4.V))]))]⟩) (sb_of ⟨.of rfl, .of rfl, .of rfl, .of rfl, .of rfl, trivial⟩ (sbG_some (G_skip rfl (G_skip rfl (G_skip rfl (G_skip rfl G_hit)))) (.of rfl) (sbG_oB (G_skip (neL g2.1.property rfl) (G_skip (neL g2.1.property rfl) (G_skip (neL g2.1.property rfl) (G_skip (neL g2.1.property rfl) (G_skip (neL g2.1.property rfl) G_hit))))) (sbG_some G_hit (.of rfl) trivial)))) ?_
      refine l_drawT fun u7 hu7 => ?_
      refine t_val (.ptr _ _) rfl rfl ?_
      refine t_val (.d _) rfl (v_load rfl (G_skip rfl (G_skip (neR g2.1.property rfl) G_hit)) rfl) ?_
      refine t_val (.d _) rfl rfl ?_
      refine t_val (.d _) rfl rfl ?_
      refine t_val (.ptr _ _) rfl rfl ?_
      obtain ⟨v5, hv5, hz1⟩ := bind_some hz1
      refine t_oc (v := .d (i64 v5.1)) (us := [(900000, 0)]) (oc_m (kit_Ring_Next_o_ok _ _ _ hv5) [(900000, 0)] [(900000, 0)] _ (((900000, 0), some (.box 94 [(.d (.list (List.map eInt_i64 v5.2.l))), (.d (i64 v5.2.at_))])) :: _) rfl all2_av (kl_cons (kr_ptr G_hit rfl) (kl_cons kr_d kl_nil)) (live_cons G_hit live_nil) ⟨⟨_, G_hit, .of rfl⟩, trivial⟩ (fun _ h => h) nd1 rfl rfl rfl) ?_
      refine t_val (.ptr _ _) rfl rfl ?_
      obtain ⟨v6, hv6, hz1⟩ := bind_some hz1
      refine t_oc (v := .d (i64 v6.1)) (us := [(900000, 0)]) (oc_m (kit_Ring_Next_o_ok _ _ _ hv6) [(900000, 0)] [(900000, 0)] _ (((900000, 0), some (.box 94 [(.d (.list (List.map eInt_i64 v6.2.l))), (.d (i64 v6.2.at_))])) :: _) rfl all2_av (kl_cons (kr_ptr G_hit rfl) (kl_cons kr_d kl_nil)) (live_cons G_hit live_nil) ⟨⟨_, G_hit, .of rfl⟩, trivial⟩ (fun _ h => h) nd1 rfl rfl rfl) ?_
      refine t_val (.d _) rfl rfl ?_
      refine t_val (.d _) rfl rfl ?_
      refine t_new (.ptr _ _) (.box _ _) rfl rfl ?_
      refine t_store _ _ _ _ _ rfl rfl rfl G_hit (Nat.le_of_ble_eq_true rfl) [(.d (i64 0)), (.d (i64 (w64 ((w64 (v4.S - v4.Len)) - p2)))), (.d (i64 v5.1)), (.d (i64 (w64 (300 + v6.1)))), (.d (i64 0)), (.d (i64 0)), (.d (i64 0)), (.d (bo false)), (.d (i64 0)), (.d (i64 0)), (.d (i64 0)), (.d (i64 0))] rfl ?_
      refine t_nil ⟨rfl, ?_⟩
      refine l_seq ?_
      obtain ⟨y2, hy2, hz1⟩ := bind_some hz1
      refine l_join (fun s => ∃ g3 : Unit, Sb ⟨T [(0, (.ptr (900000, 0) 0)), (1, (.d (i64 p2))), (7, (oS x1.1 (g2.1.val, g2.2))), (8, (.d (i64 x1.2.1))), (11, (.ptr (11, u7) 0))], G [((900000, 0), some (.box 94 [(.d (.list (List.map eInt_i64 v6.2.l))), (.d (i64 v6.2.at_))])), ((g2.1.val, g2.2), oB 65 12 eMate x1.1), ((11, u7), some (.box 65 [(.d (i64 y2.ID)), (.d (i64 y2.S)), (.d (i64 y2.V)), (.d (i64 y2.Len)), (.d (i64 y2.Ahead)), (.d (i64 y2.Guess_.R)), (.d (i64 y2.Guess_.V)), (.d (bo y2.Trust)), (.d (i64 y2.Ward)), (.d (i64 y2.WardGuess.R)), (.d (i64 y2.WardGuess.V)), (.d (i64 y2.Until))]))]⟩ s) ?_ ?_
      · skip
        refine l_block ?_
        refine l_loop (kit_Mates_o_l2 p2 v4) (fun (x2 : Mate) (g4 : Unit) => ⟨T [(0, (.ptr (900000, 0) 0)), (1, (.d (i64 p2))), (7, (oS x1.1 (g2.1.val, g2.2))), (8, (.d (i64 x1.2.1))), (10, (.ptr (10, u6) 0)), (11, (.ptr (11, u7) 0))], G [((900000, 0), some (.box 94 [(.d (.list (List.map eInt_i64 v6.2.l))), (.d (i64 v6.2.at_))])), ((g2.1.val, g2.2), oB 65 12 eMate x1.1), ((10, u6), some (.box 23 [(.d (i64 (w64 (v4.S - v4.Len)))), (.d (i64 v4.V))])), ((11, u7), some (.box 65 [(.d (i64 x2.ID)), (.d (i64 x2.S)), (.d (i64 x2.V)), (.d (i64 x2.Len)), (.d (i64 x2.Ahead)), (.d (i64 x2.Guess_.R)), (.d (i64 x2.Guess_.V)), (.d (bo x2.Trust)), (.d (i64 x2.Ward)), (.d (i64 x2.WardGuess.R)), (.d (i64 x2.WardGuess.V)), (.d (i64 x2.Until))]))]⟩) (Mate.mk 0 (w64 ((w64 (v4.S - v4.Len)) - p2)) v5.1 (w64 (300 + v6.1)) 0 (Guess.mk 0 0) false 0 (Guess.mk 0 0) 0) () _ hy2 (sb_of ⟨.of rfl, .of rfl, .of rfl, .of rfl, .of rfl, .of rfl, trivial⟩ (sbG_some (G_skip rfl (G_skip rfl G_hit)) (.of rfl) (sbG_oB (G_skip (neL g2.1.property rfl) (G_skip (neL g2.1.property rfl) (G_skip (neL g2.1.property rfl) (G_skip (neL g2.1.property rfl) (G_skip (neL g2.1.property rfl) G_hit))))) (sbG_some (G_skip rfl (G_skip rfl (G_skip rfl (G_skip rfl (G_skip rfl (G_skip (neR g2.1.property rfl) G_hit)))))) (.of rfl) (sbG_some G_hit (.of rfl) trivial))))) ?_
        intro x2 g4 z2 hz2 ez2
        unfold kit_Mates_o_l2 at hz2
        refine l_seq ?_
        refine l_seq ?_
        refine l_reg fun u8 hu8 => ?_
        refine s_val (.ptr _ _) rfl rfl ?_
        refine s_val (.d _) rfl (v_load rfl (G_skip rfl (G_skip (neR g2.1.property rfl) (G_skip rfl G_hit))) rfl) ?_
        refine s_val (.ptr _ _) rfl rfl ?_
        refine s_val (.d _) rfl (v_load rfl (G_skip rfl (G_skip (neR g2.1.property rfl) (G_skip rfl G_hit))) rfl) ?_
        refine s_val (.d _) rfl rfl ?_
        refine s_val (.d _) rfl (v_loadG rfl (G_skip rfl (G_skip (neR g2.1.property rfl) G_hit)) rfl rfl) ?_
        obtain ⟨v7, hv7, hz2⟩ := bind_some hz2
        refine s_call rfl rfl all2_refl (ref09_Safe_ok _ _ _ _  _ hv7) (.inl rfl) ?_
        refine s_val (.d _) rfl rfl ?_
        refine s_nil ?_
        refine l_cond (!v7) rfl (fun c2 => ?_) (fun c2 => ?_)
        · replace hz2 := cond_t c2 hz2
          refine l_skip ?_
          refine l_block ?_
          refine l_reg fun u9 hu9 => ?_
          refine s_val (.ptr _ _) rfl rfl ?_
          refine s_val (.d _) rfl (v_load rfl (G_skip rfl (G_skip (neR g2.1.property rfl) (G_skip rfl G_hit))) rfl) ?_
          refine s_val (.d _) rfl rfl ?_
          refine s_val (.ptr _ _) rfl rfl ?_
          refine s_store _ _ _ _ _ rfl rfl rfl (G_skip rfl (G_skip (neR g2.1.property rfl) (G_skip rfl G_hit))) (Nat.le_of_ble_eq_true rfl) [(.d (i64 x2.ID)), (.d (i64 (w64 (x2.S - 500)))), (.d (i64 x2.V)), (.d (i64 x2.Len)), (.d (i64 x2.Ahead)), (.d (i64 x2.Guess_.R)), (.d (i64 x2.Guess_.V)), (.d (bo x2.Trust)), (.d (i64 x2.Ward)), (.d (i64 x2.WardGuess.R)), (.d (i64 x2.WardGuess.V)), (.d (i64 x2.Until))] rfl ?_
          refine s_nil ?_
          refine l_end ?_
          refine l_nil ?_
          obtain rfl := Option.some.inj hz2
          exact ⟨rfl, (), (sb_of ⟨.of rfl, .of rfl, .of rfl, .of rfl, .of rfl, .of rfl, trivial⟩ (sbG_some (G_skip rfl G_hit) (.of rfl) (sbG_oB (G_skip (neL g2.1.property rfl) (G_skip (neL g2.1.property rfl) G_hit)) (sbG_some (G_skip rfl (G_skip rfl (G_skip (neR g2.1.property rfl) G_hit))) (.of rfl) (sbG_some G_hit (.of rfl) trivial)))))⟩
        · replace hz2 := cond_f c2 hz2
          refine l_exitN rfl ?_
          obtain rfl := Option.some.inj hz2
          obtain rfl := ez2 _ rfl
          refine ⟨nofun, awl_pop rfl (l_j ?_)⟩
          exact ⟨(), (sb_of ⟨.of rfl, .of rfl, .of rfl, .of rfl, .of rfl, trivial⟩ (sbG_some G_hit (.of rfl) (sbG_oB (G_skip (neL g2.1.property rfl) G_hit) (sbG_some (G_skip rfl (G_skip (neR g2.1.property rfl) (G_skip rfl G_hit))) (.of rfl) trivial))))⟩
      · rintro _ ⟨g3, q1⟩
        refine l_sub q1 ?_
        refine l_seq ?_
        refine l_drawT fun u10 hu10 => ?_
        refine t_val (.ptr _ _) rfl rfl ?_
        refine t_val (.d _) rfl (v_load rfl (G_skip rfl (G_skip (neR g2.1.property rfl) G_hit)) rfl) ?_
        refine t_val (.ptr _ _) rfl rfl ?_
        obtain ⟨v8, hv8, hz1⟩ := bind_some hz1
        refine t_oc (v := .d (i64 v8.1)) (us := [(900000, 0)]) (oc_m (kit_Ring_Next_o_ok _ _ _ hv8) [(900000, 0)] [(900000, 0)] _ (((900000, 0), some (.box 94 [(.d (.list (List.map eInt_i64 v8.2.l))), (.d (i64 v8.2.at_))])) :: _) rfl all2_av (kl_cons (kr_ptr G_hit rfl) (kl_cons kr_d kl_nil)) (live_cons G_hit live_nil) ⟨⟨_, G_hit, .of rfl⟩, trivial⟩ (fun _ h => h) nd1 rfl rfl rfl) ?_
        refine t_val (.ptr _ _) rfl rfl ?_
        obtain ⟨v9, hv9, hz1⟩ := bind_some hz1
        refine t_oc (v := .d (i64 v9.1)) (us := [(900000, 0)]) (oc_m (kit_Ring_Next_o_ok _ _ _ hv9) [(900000, 0)] [(900000, 0)] _ (((900000, 0), some (.box 94 [(.d (.list (List.map eInt_i64 v9.2.l))), (.d (i64 v9.2.at_))])) :: _) rfl all2_av (kl_cons (kr_ptr G_hit rfl) (kl_cons kr_d kl_nil)) (live_cons G_hit live_nil) ⟨⟨_, G_hit, .of rfl⟩, trivial⟩ (fun _ h => h) nd1 rfl rfl rfl) ?_
        refine t_val (.d _) rfl rfl ?_
        refine t_val (.d _) rfl rfl ?_
        refine t_val (.ptr _ _) rfl rfl ?_
        refine t_store _ _ _ _ _ rfl rfl rfl (G_skip rfl (G_skip rfl (G_skip rfl (G_skip (neR g2.1.property rfl) G_hit)))) (Nat.le_of_ble_eq_true rfl) [(.d (i64 y2.ID)), (.d (i64 (w64 (y2.S - (w64 (v8.1 * v9.1)))))), (.d (i64 y2.V)), (.d (i64 y2.Len)), (.d (i64 y2.Ahead)), (.d (i64 y2.Guess_.R)), (.d (i64 y2.Guess_.V)), (.d (bo y2.Trust)), (.d (i64 y2.Ward)), (.d (i64 y2.WardGuess.R)), (.d (i64 y2.WardGuess.V)), (.d (i64 y2.Until))] rfl ?_
        refine t_nil ⟨rfl, ?_⟩
        refine l_reg fun u11 hu11 => ?_
        refine s_val (oS x1.1 (g2.1.val, g2.2)) rfl rfl ?_
        refine s_val (.d _) rfl (v_loadG rfl G_hit rfl rfl) ?_
        refine s_new (.sl _) (.arr 65 12 (List.map eMate ([(Mate.mk y2.ID (w64 (y2.S - (w64 (v8.1 * v9.1)))) y2.V y2.Len y2.Ahead y2.Guess_ y2.Trust y2.Ward y2.WardGuess y2.Until)] : List Mate))) rfl (aval_bsliceN eMate _ (fun _ => rfl) rfl rfl ⟨rfl, rfl, rfl, trivial⟩) ?_
        obtain ⟨v10, hv10, hz1⟩ := bind_some hz1
        refine s_appendO eMate (g2.1.val, g2.2) x1.1 (Mate.mk y2.ID (w64 (y2.S - (w64 (v8.1 * v9.1)))) y2.V y2.Len y2.Ahead y2.Guess_ y2.Trust y2.Ward y2.WardGuess y2.Until) [] _ (elems_sl G_hit) rfl (G_skip (neL g2.1.property rfl) (G_skip (neL g2.1.property rfl) (G_skip (neL g2.1.property rfl) (G_skip (neL g2.1.property rfl) (G_skip (neL g2.1.property rfl) G_hit))))) hv10 ?_
        refine s_val (.sl _) rfl rfl ?_
        refine s_nil ?_
        refine l_end ?_
        refine l_sub (s0 := ⟨T [(0, (.ptr (900000, 0) 0)), (1, (.d (i64 p2))), (7, (.sl (74, u11))), (8, (.d (i64 x1.2.1)))], G [((900000, 0), some (.box 94 [(.d (.list (List.map eInt_i64 v9.2.l))), (.d (i64 v9.2.at_))])), ((74, u11), some (.arr 65 12 (List.map eMate v10)))]⟩) (sb_of ⟨.of rfl, .of rfl, .of rfl, .of rfl, trivial⟩ (sbG_some (G_skip rfl (G_skip (neR g2.1.property rfl) (G_skip rfl (G_skip rfl G_hit)))) (.of rfl) (sbG_some G_hit (.of rfl) trivial))) ?_
        refine l_reg fun u12 hu12 => ?_
        refine s_val (.d _) rfl rfl ?_
        refine s_val (.d _) rfl rfl ?_
        refine s_val (.d _) rfl rfl ?_
        refine s_nil ?_
        refine l_nil ?_
        obtain rfl := Option.some.inj hz1
        exact ⟨rfl, (⟨74, .tail _ (.head _)⟩, u11), (sb_of ⟨.of rfl, .of rfl, (.of (oS_ne (appc_ne hv10)).symm), .of rfl, trivial⟩ (sbG_some G_hit (.of rfl) (sbG_own (G_skip rfl G_hit) trivial)))⟩
    · replace hz1 := cond_f c1 hz1
      refine l_exitN rfl ?_
      obtain rfl := Option.some.inj hz1
      obtain rfl := ez1 _ rfl
      refine ⟨nofun, awl_pop rfl (l_j ?_)⟩
      exact ⟨(g2.1, g2.2), (sb_of ⟨.of rfl, .of rfl, trivial⟩ (sbG_some G_hit (.of rfl) (sbG_oB (G_skip (neL g2.1.property rfl) G_hit) trivial)))⟩
  · rintro _ ⟨g1, q2⟩
    refine l_sub q2 ?_
    refine l_seq ?_
    refine l_reg fun u13 hu13 => ?_
    refine s_val (oS y1.1 (g1.1.val, g1.2)) rfl rfl ?_
    refine s_val (oS y1.1 (g1.1.val, g1.2)) rfl rfl ?_
    refine s_nil ?_
    refine l_ret ?_
    obtain rfl := Option.some.inj h
    exact fin_mf (.inr rfl) [(g1.1.val, g1.2)] (resDF1 (res_t rfl) (rf_oS (rs_in (.head _) (G_skip (neL g1.1.property rfl) G_hit)))) oD_le ⟨⟨_, _, _, G_hit, (old_notinG g1.1.property rfl old_notin_nil), rfl, all2_d, rfl⟩, trivial⟩

noncomputable def ref09_rear (p1 : Mate) : Option Int :=
  some (w64 (p1.S - p1.Len))

/-- kerbstone/kerbstoneref09.rear -/
def ac_ref09_rear : AC :=
  (.seq (.reg [⟨(some 1), .box 65 true (.t 0), none⟩, ⟨(some 2), .mv (.c (.v (.int .i64 0))), none⟩])
  (.seq (.reg [⟨(some 3), .fieldA 1 (.t 1), none⟩, ⟨(some 4), .load 1 false (.t 3), none⟩, ⟨(some 5), .fieldA 3 (.t 1), none⟩, ⟨(some 6), .load 1 false (.t 5), none⟩, ⟨(some 7), .bin .sub (.t 4) (.t 6), none⟩, ⟨(some 2), .mv (.t 7), none⟩])
  .ret))
theorem fn_ref09_rear : FnOK Try.prog 70 8 [.t 2] ac_ref09_rear := ⟨_, _, Try.func70, rfl, Try.ntmps70, by kernel_rfl, ⟨fun _ => [], by kernel_rfl⟩, by kernel_rfl⟩
theorem ref09_rear_ok (p1 : Mate) (r : Int) (h : ref09_rear p1 = some r) : PCall Try.prog 70 [(.agg [(i64 p1.ID), (i64 p1.S), (i64 p1.V), (i64 p1.Len), (i64 p1.Ahead), (i64 p1.Guess_.R), (i64 p1.Guess_.V), (bo p1.Trust), (i64 p1.Ward), (i64 p1.WardGuess.R), (i64 p1.WardGuess.V), (i64 p1.Until)])] (i64 r) := by
  refine l_call fn_ref09_rear (Nat.le_of_ble_eq_true rfl) ?_
  unfold ref09_rear at h
  unfold ac_ref09_rear
  refine (l_sub (s0 := ⟨T [(0, (.d (.agg [(i64 p1.ID), (i64 p1.S), (i64 p1.V), (i64 p1.Len), (i64 p1.Ahead), (i64 p1.Guess_.R), (i64 p1.Guess_.V), (bo p1.Trust), (i64 p1.Ward), (i64 p1.WardGuess.R), (i64 p1.WardGuess.V), (i64 p1.Until)])))], G []⟩) (sb_of ⟨.of rfl, trivial⟩ trivial) ?_)
  refine l_seq ?_
  refine l_reg fun u1 hu1 => ?_
  refine s_new (.ptr _ _) (.box _ _) rfl rfl ?_
  refine s_val (.d _) rfl rfl ?_
  refine s_nil ?_
  refine l_seq ?_
  refine l_reg fun u2 hu2 => ?_
  refine s_val (.ptr _ _) rfl rfl ?_
  refine s_val (.d _) rfl (v_load rfl G_hit rfl) ?_
  refine s_val (.ptr _ _) rfl rfl ?_
  refine s_val (.d _) rfl (v_load rfl G_hit rfl) ?_
  refine s_val (.d _) rfl rfl ?_
  refine s_val (.d _) rfl rfl ?_
  refine s_nil ?_
  refine l_ret ?_
  obtain rfl := Option.some.inj h
  refine fin_ok (.inr rfl) (resD1 (res_t rfl) rf_d) ?_
  exact (.refl _)

noncomputable def ref09_between (p1 : Int) (p2 : Int) (p3 : Int) : Option Bool :=
  some ((decide (p1 ≥ p2)) && (decide (p1 ≤ p3)))

/-- kerbstone/kerbstoneref09.between -/
def ac_ref09_between : AC :=
  (.seq (.reg [⟨(some 6), .mv (.c (.v (.bool false))), none⟩])
  (.seq (.reg [⟨(some 7), .mv (.t 0), none⟩, ⟨(some 8), .mv (.t 1), none⟩, ⟨(some 9), .bin .geq (.t 7) (.t 8), none⟩, ⟨(some 10), .mv (.t 9), none⟩, ⟨(some 11), .mv (.t 0), (some (10, true))⟩, ⟨(some 12), .mv (.t 2), (some (10, true))⟩, ⟨(some 13), .bin .leq (.t 11) (.t 12), (some (10, true))⟩, ⟨(some 14), .pick (.t 10) (.t 13) (.c (.v (.bool false))), none⟩, ⟨(some 6), .mv (.t 14), none⟩])
  .ret))
theorem fn_ref09_between : FnOK Try.prog 104 15 [.t 6] ac_ref09_between := ⟨_, _, Try.func104, rfl, Try.ntmps104, by kernel_rfl, ⟨fun _ => [], by kernel_rfl⟩, by kernel_rfl⟩
theorem ref09_between_ok (p1 : Int) (p2 : Int) (p3 : Int) (r : Bool) (h : ref09_between p1 p2 p3 = some r) : PCall Try.prog 104 [(i64 p1), (i64 p2), (i64 p3)] (bo r) := by
  refine l_call fn_ref09_between (Nat.le_of_ble_eq_true rfl) ?_
  unfold ref09_between at h
  unfold ac_ref09_between
  refine (l_sub (s0 := ⟨T [(0, (.d (i64 p1))), (1, (.d (i64 p2))), (2, (.d (i64 p3)))], G []⟩) (sb_of ⟨.of rfl, .of rfl, .of rfl, trivial⟩ trivial) ?_)
  refine l_seq ?_
  refine l_reg fun u1 hu1 => ?_
  refine s_val (.d _) rfl rfl ?_
  refine s_nil ?_
  refine l_seq ?_
  refine l_reg fun u2 hu2 => ?_
  refine s_val (.d _) rfl rfl ?_
  refine s_val (.d _) rfl rfl ?_
  refine s_val (.d _) rfl rfl ?_
  refine s_val (.d _) rfl rfl ?_
  refine g_val (decide (p1 ≥ p2)) (.d _) rfl (gw_t rfl) (fun w1 => rfl) ?_
  refine g_val (decide (p1 ≥ p2)) (.d _) rfl (gw_t rfl) (fun w2 => rfl) ?_
  refine g_val (decide (p1 ≥ p2)) (.d _) rfl (gw_t rfl) (fun w3 => (v_bin (gd_pos w3) (gd_pos w3) rfl)) ?_
  refine s_val (.d _) rfl (v_and rfl (fun hc => gd_pos hc) rfl) ?_
  refine s_val (.d _) rfl rfl ?_
  refine s_nil ?_
  refine l_ret ?_
  obtain rfl := Option.some.inj h
  refine fin_ok (.inr rfl) (resD1 (res_t rfl) rf_d) ?_
  exact (.refl _)

noncomputable def ref09_moving (p1 : Int) (p2 : Int) (p3 : Int) (p4 : Int) : Option Bool :=
  (ref09_between p1 1 99).bind fun v1 => ((cond v1 (ref09_between p2 0 1099511627776) (some default))).bind fun v2 => ((cond (v1 && v2) (ref09_between p3 0 2000) (some default))).bind fun v3 => ((cond ((v1 && v2) && v3) (ref09_between p4 300 20000) (some default))).bind fun v4 => some (((v1 && v2) && v3) && v4)

/-- kerbstone/kerbstoneref09.moving -/
def ac_ref09_moving : AC :=
  (.seq (.reg [⟨(some 8), .mv (.c (.v (.bool false))), none⟩])
  (.seq (.reg [⟨(some 9), .mv (.t 0), none⟩, ⟨(some 10), .call (.c (.fn (.func 104) [] [])) [(.t 9), (.c (.v (.int .i64 1))), (.c (.v (.int .i64 99)))], none⟩, ⟨(some 11), .mv (.t 10), none⟩, ⟨(some 12), .mv (.t 1), (some (11, true))⟩, ⟨(some 13), .call (.c (.fn (.func 104) [] [])) [(.t 12), (.c (.v (.int .i64 0))), (.c (.v (.int .i64 1099511627776)))], (some (11, true))⟩, ⟨(some 14), .pick (.t 11) (.t 13) (.c (.v (.bool false))), none⟩, ⟨(some 15), .mv (.t 14), none⟩, ⟨(some 16), .mv (.t 2), (some (15, true))⟩, ⟨(some 17), .call (.c (.fn (.func 104) [] [])) [(.t 16), (.c (.v (.int .i64 0))), (.c (.v (.int .i64 2000)))], (some (15, true))⟩, ⟨(some 18), .pick (.t 15) (.t 17) (.c (.v (.bool false))), none⟩, ⟨(some 19), .mv (.t 18), none⟩, ⟨(some 20), .mv (.t 3), (some (19, true))⟩, ⟨(some 21), .call (.c (.fn (.func 104) [] [])) [(.t 20), (.c (.v (.int .i64 300))), (.c (.v (.int .i64 20000)))], (some (19, true))⟩, ⟨(some 22), .pick (.t 19) (.t 21) (.c (.v (.bool false))), none⟩, ⟨(some 8), .mv (.t 22), none⟩])
  .ret))
theorem fn_ref09_moving : FnOK Try.prog 125 23 [.t 8] ac_ref09_moving := ⟨_, _, Try.func125, rfl, Try.ntmps125, by kernel_rfl, ⟨fun _ => [], by kernel_rfl⟩, by kernel_rfl⟩
theorem ref09_moving_ok (p1 : Int) (p2 : Int) (p3 : Int) (p4 : Int) (r : Bool) (h : ref09_moving p1 p2 p3 p4 = some r) : PCall Try.prog 125 [(i64 p1), (i64 p2), (i64 p3), (i64 p4)] (bo r) := by
  refine l_call fn_ref09_moving (Nat.le_of_ble_eq_true rfl) ?_
  unfold ref09_moving at h
  unfold ac_ref09_moving
  refine (l_sub (s0 := ⟨T [(0, (.d (i64 p1))), (1, (.d (i64 p2))), (2, (.d (i64 p3))), (3, (.d (i64 p4)))], G []⟩) (sb_of ⟨.of rfl, .of rfl, .of rfl, .of rfl, trivial⟩ trivial) ?_)
  refine l_seq ?_
  refine l_reg fun u1 hu1 => ?_
  refine s_val (.d _) rfl rfl ?_
  refine s_nil ?_
  refine l_seq ?_
  refine l_reg fun u2 hu2 => ?_
  refine s_val (.d _) rfl rfl ?_
  obtain ⟨v1, hv1, h⟩ := bind_some h
  refine s_call rfl rfl all2_refl (ref09_between_ok _ _ _  _ hv1) (.inl rfl) ?_
  refine s_val (.d _) rfl rfl ?_
  refine g_val v1 (.d _) rfl (gw_t rfl) (fun w1 => rfl) ?_
  obtain ⟨v2, hv2, h⟩ := bind_some h
  refine g_call v1 (bo v2) (gw_t rfl) (fun w2 => ⟨_, [(.d (i64 p2)), (.d (i64 0)), (.d (i64 1099511627776))], _, _, (by simp only [gd_pos w2]; rfl), rfl, all2_refl, ref09_between_ok _ _ _  _ (cond_t w2 hv2), (.inl rfl)⟩) ?_
  refine s_val (.d _) rfl (v_and rfl (fun hc => gd_pos hc) rfl) ?_
  refine s_val (.d _) rfl rfl ?_
  refine g_val (v1 && v2) (.d _) rfl (gw_t rfl) (fun w3 => rfl) ?_
  obtain ⟨v3, hv3, h⟩ := bind_some h
  refine g_call (v1 && v2) (bo v3) (gw_t rfl) (fun w4 => ⟨_, [(.d (i64 p3)), (.d (i64 0)), (.d (i64 2000))], _, _, (by simp only [gd_pos w4]; rfl), rfl, all2_refl, ref09_between_ok _ _ _  _ (cond_t w4 hv3), (.inl rfl)⟩) ?_
  refine s_val (.d _) rfl (v_and rfl (fun hc => gd_pos hc) rfl) ?_
  refine s_val (.d _) rfl rfl ?_
  refine g_val ((v1 && v2) && v3) (.d _) rfl (gw_t rfl) (fun w5 => rfl) ?_
  obtain ⟨v4, hv4, h⟩ := bind_some h
  refine g_call ((v1 && v2) && v3) (bo v4) (gw_t rfl) (fun w6 => ⟨_, [(.d (i64 p4)), (.d (i64 300)), (.d (i64 20000))], _, _, (by simp only [gd_pos w6]; rfl), rfl, all2_refl, ref09_between_ok _ _ _  _ (cond_t w6 hv4), (.inl rfl)⟩) ?_
  refine s_val (.d _) rfl (v_and rfl (fun hc => gd_pos hc) rfl) ?_
  refine s_val (.d _) rfl rfl ?_
  refine s_nil ?_
  refine l_ret ?_
  obtain rfl := Option.some.inj h
  refine fin_ok (.inr rfl) (resD1 (res_t rfl) rf_d) ?_
  exact (.refl _)

noncomputable def ref09_guessed (p1 : Guess) : Option Bool :=
  (ref09_between p1.R (-20000) 2199023255552).bind fun v1 => ((cond v1 (ref09_between p1.V 0 2000) (some default))).bind fun v2 => some (v1 && v2)

/-- kerbstone/kerbstoneref09.guessed -/
def ac_ref09_guessed : AC :=
  (.seq (.reg [⟨(some 1), .box 23 true (.t 0), none⟩, ⟨(some 2), .mv (.c (.v (.bool false))), none⟩])
  (.seq (.reg [⟨(some 3), .fieldA 0 (.t 1), none⟩, ⟨(some 4), .load 1 false (.t 3), none⟩, ⟨(some 5), .call (.c (.fn (.func 104) [] [])) [(.t 4), (.c (.v (.int .i64 (-20000)))), (.c (.v (.int .i64 2199023255552)))], none⟩, ⟨(some 6), .mv (.t 5), none⟩, ⟨(some 7), .fieldA 1 (.t 1), (some (6, true))⟩, ⟨(some 8), .load 1 false (.t 7), (some (6, true))⟩, ⟨(some 9), .call (.c (.fn (.func 104) [] [])) [(.t 8), (.c (.v (.int .i64 0))), (.c (.v (.int .i64 2000)))], (some (6, true))⟩, ⟨(some 10), .pick (.t 6) (.t 9) (.c (.v (.bool false))), none⟩, ⟨(some 2), .mv (.t 10), none⟩])
  .ret))
theorem fn_ref09_guessed : FnOK Try.prog 126 11 [.t 2] ac_ref09_guessed := ⟨_, _, Try.func126, rfl, Try.ntmps126, by kernel_rfl, ⟨fun _ => [], by kernel_rfl⟩, by kernel_rfl⟩
theorem ref09_guessed_ok (p1 : Guess) (r : Bool) (h : ref09_guessed p1 = some r) : PCall Try.prog 126 [(.agg [(i64 p1.R), (i64 p1.V)])] (bo r) := by
  refine l_call fn_ref09_guessed (Nat.le_of_ble_eq_true rfl) ?_
  unfold ref09_guessed at h
  unfold ac_ref09_guessed
  refine (l_sub (s0 := ⟨T [(0, (.d (.agg [(i64 p1.R), (i64 p1.V)])))], G []⟩) (sb_of ⟨.of rfl, trivial⟩ trivial) ?_)
  refine l_seq ?_
  refine l_reg fun u1 hu1 => ?_
  refine s_new (.ptr _ _) (.box _ _) rfl rfl ?_
  refine s_val (.d _) rfl rfl ?_
  refine s_nil ?_
  refine l_seq ?_
  refine l_reg fun u2 hu2 => ?_
  refine s_val (.ptr _ _) rfl rfl ?_
  refine s_val (.d _) rfl (v_load rfl G_hit rfl) ?_
  obtain ⟨v1, hv1, h⟩ := bind_some h
  refine s_call rfl rfl all2_refl (ref09_between_ok _ _ _  _ hv1) (.inl rfl) ?_
  refine s_val (.d _) rfl rfl ?_
  refine g_val v1 (.ptr _ _) rfl (gw_t rfl) (fun w1 => rfl) ?_
  refine g_val v1 (.d _) rfl (gw_t rfl) (fun w2 => (v_load (gd_pos w2) G_hit rfl)) ?_
  obtain ⟨v2, hv2, h⟩ := bind_some h
  refine g_call v1 (bo v2) (gw_t rfl) (fun w3 => ⟨_, [(.d (i64 p1.V)), (.d (i64 0)), (.d (i64 2000))], _, _, (by simp only [gd_pos w3]; rfl), rfl, all2_refl, ref09_between_ok _ _ _  _ (cond_t w3 hv2), (.inl rfl)⟩) ?_
  refine s_val (.d _) rfl (v_and rfl (fun hc => gd_pos hc) rfl) ?_
  refine s_val (.d _) rfl rfl ?_
  refine s_nil ?_
  refine l_ret ?_
  obtain rfl := Option.some.inj h
  refine fin_ok (.inr rfl) (resD1 (res_t rfl) rf_d) ?_
  exact (.refl _)
end Go.Abs.Convoy
