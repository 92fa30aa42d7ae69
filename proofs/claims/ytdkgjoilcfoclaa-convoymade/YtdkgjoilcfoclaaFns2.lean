/-
  The functions, part 2.
-/
import Derived.Test.YtdkgjoilcfoclaaFns1
set_option maxRecDepth 20000
set_option linter.unusedVariables false
namespace Go.Abs.Convoy
open Go Go.Abs Go.Proofs
attribute [local irreducible] regW regT AWL

noncomputable def ref09_numbers_l3 (p1 : Convoy) (x2 : Int) (x3 : Int) : Option (Stp Int (Sum Unit Int)) :=
  cond (decide (x3 < x2)) ((geti p1.Mates x3).bind fun v6 => (geti p1.Mates x2).bind fun v7 => cond (v6.ID == v7.ID) (some (.out (.inr 9))) (some (.go (w64 (x3 + 1))))) (some (.out (.inl ())))
noncomputable def ref09_numbers_l2 (p1 : Convoy) (x2 : Int) : Option (Stp Int (Sum Unit Int)) :=
  cond (decide (x2 < (p1.Mates.length : Int))) (thenS (loop (ref09_numbers_l3 p1 x2) 0) (fun _ => (geti p1.Mates x2).bind fun v8 => cond (v8.ID == p1.Guest_.ID) (some (.out (.inr 9))) (some (.go (w64 (x2 + 1))))) (fun r => some (.out (.inr r)))) (some (.out (.inl ())))
noncomputable def ref09_numbers_l1 (p1 : Convoy) (x1 : Int) : Option (Stp Int (Sum Unit Int)) :=
  cond (decide (x1 < (p1.Mates.length : Int))) ((geti p1.Mates x1).bind fun v3 => (ref09_mate v3).bind fun v4 => cond (!v4) (some (.out (.inr 2))) (some (.go (w64 (x1 + 1))))) (some (.out (.inl ())))
noncomputable def ref09_numbers (p1 : Convoy) : Option Int :=
  (ref09_between p1.Tick 0 1099511627776).bind fun v1 => ((cond (!(!v1)) (ref09_between p1.Gap 1 20000) (some default))).bind fun v2 => cond ((!v1) || (!v2)) (some 2) (cond ((p1.Mates.length : Int) == 0) (some 6) ((cond (!(p1.Guest_.ID == 0 && (p1.Guest_.S == 0 && (p1.Guest_.V == 0 && (p1.Guest_.Len == 0 && (p1.Guest_.End == 0 && (p1.Guest_.Ahead == 0 && (p1.Guest_.Guess_.R == 0 && (p1.Guest_.Guess_.V == 0 && (p1.Guest_.From == 0 && (p1.Guest_.Until == 0 && true))))))))))) (some (w64 ((p1.Mates.length : Int) + 1))) (some (p1.Mates.length : Int))).bind fun y1 => cond (decide (y1 > 8)) (some 8) (thenS (loop (ref09_numbers_l1 p1) 0) (fun _ => ((cond (!(p1.Guest_.ID == 0 && (p1.Guest_.S == 0 && (p1.Guest_.V == 0 && (p1.Guest_.Len == 0 && (p1.Guest_.End == 0 && (p1.Guest_.Ahead == 0 && (p1.Guest_.Guess_.R == 0 && (p1.Guest_.Guess_.V == 0 && (p1.Guest_.From == 0 && (p1.Guest_.Until == 0 && true))))))))))) (ref09_guest p1.Guest_) (some default))).bind fun v5 => cond ((!(p1.Guest_.ID == 0 && (p1.Guest_.S == 0 && (p1.Guest_.V == 0 && (p1.Guest_.Len == 0 && (p1.Guest_.End == 0 && (p1.Guest_.Ahead == 0 && (p1.Guest_.Guess_.R == 0 && (p1.Guest_.Guess_.V == 0 && (p1.Guest_.From == 0 && (p1.Guest_.Until == 0 && true))))))))))) && (!v5)) (some 2) (thenS (loop (ref09_numbers_l2 p1) 0) (fun _ => some 0) (fun r => some r))) (fun r => some r))))

/-- kerbstone/kerbstoneref09.numbers -/
def ac_ref09_numbers : AC := (.seq (.reg [oo 1 (.box 38 true (.t 0)), oo 2 (.mv (ci 0))]) (.seq (.seq (.reg [oo 7 (.fieldA 0 (.t 1)), oo 8 (.load 1 false (.t 7)), oo 9 (.call (cf 104) [(.t 8), (ci 0), (ci 1099511627776)]), oo 10 (.un .not (.t 9)), oo 11 (.mv (.t 10)), oh 12 (.fieldA 1 (.t 1)) 11, oh 13 (.load 1 false (.t 12)) 11, oh 14 (.call (cf 104) [(.t 13), (ci 1), (ci 20000)]) 11, oh 15 (.un .not (.t 14)) 11, oo 16 (.pick (.t 11) (.c (.v (.bool true))) (.t 15))]) (.cond (.t 16) (.seq (.reg [oo 2 (.mv (ci 2))]) .ret) .skip)) (.seq (.seq (.reg [oo 17 (.fieldA 2 (.t 1)), oo 18 (.load 1 false (.t 17)), oo 19 (.len (.t 18)), oo 20 (.bin .eql (.t 19) (ci 0))]) (.cond (.t 20) (.seq (.reg [oo 2 (.mv (ci 6))]) .ret) .skip)) (.seq (.reg [oo 21 (.fieldA 2 (.t 1)), oo 22 (.load 1 false (.t 21)), oo 23 (.len (.t 22)), oo 3 (.mv (.t 23))]) (.seq (.seq (.reg [oo 24 (.fieldA 3 (.t 1)), oo 25 (.load 10 true (.t 24)), oo 26 (.build [z0, z0, z0, z0, z0, z0, z0, z0, z0, z0] []), oo 27 (.eqA true [false, false, false, false, false, false, false, false, false, false] (.t 25) (.t 26))]) (.cond (.t 27) (.reg [oo 28 (.mv (.t 3)), oo 29 (.bin .add (.t 28) (ci 1)), oo 3 (.mv (.t 29))]) .skip)) (.seq (.seq (.reg [oo 30 (.mv (.t 3)), oo 31 (.bin .gtr (.t 30) (ci 8))]) (.cond (.t 31) (.seq (.reg [oo 2 (.mv (ci 8))]) .ret) .skip)) (.seq (.seq (.reg [oo 4 (.mv (ci 0))]) (.block 0 (.loop (.seq (.seq (.reg [oo 32 (.mv (.t 4)), oo 33 (.fieldA 2 (.t 1)), oo 34 (.load 1 false (.t 33)), oo 35 (.len (.t 34)), oo 36 (.bin .lss (.t 32) (.t 35))]) (.cond (.t 36) .skip (.exit 0))) (.seq (.block 1 (.seq (.reg [oo 39 (.fieldA 2 (.t 1)), oo 40 (.load 1 false (.t 39)), oo 41 (.mv (.t 4)), oo 42 (.idxS 12 (.t 40) (.t 41)), oo 43 (.load 12 true (.t 42)), oo 44 (.call (cf 105) [(.t 43)]), oo 45 (.un .not (.t 44))]) (.cond (.t 45) (.seq (.reg [oo 2 (.mv (ci 2))]) .ret) .skip))) (.reg [oo 37 (.mv (.t 4)), oo 38 (.bin .add (.t 37) (ci 1)), oo 4 (.mv (.t 38))])))))) (.seq (.seq (.reg [oo 46 (.fieldA 3 (.t 1)), oo 47 (.load 10 true (.t 46)), oo 48 (.build [z0, z0, z0, z0, z0, z0, z0, z0, z0, z0] []), oo 49 (.eqA true [false, false, false, false, false, false, false, false, false, false] (.t 47) (.t 48)), oo 50 (.mv (.t 49)), og 51 (.fieldA 3 (.t 1)) 50, og 52 (.load 10 true (.t 51)) 50, og 53 (.call (cf 106) [(.t 52)]) 50, og 54 (.un .not (.t 53)) 50, oo 55 (.pick (.t 50) (.t 54) (.c zf))]) (.cond (.t 55) (.seq (.reg [oo 2 (.mv (ci 2))]) .ret) .skip)) (.seq (.seq (.reg [oo 5 (.mv (ci 0))]) (.block 2 (.loop (.seq (.seq (.reg [oo 56 (.mv (.t 5)), oo 57 (.fieldA 2 (.t 1)), oo 58 (.load 1 false (.t 57)), oo 59 (.len (.t 58)), oo 60 (.bin .lss (.t 56) (.t 59))]) (.cond (.t 60) .skip (.exit 2))) (.seq (.block 3 (.seq (.seq (.reg [oo 6 (.mv (ci 0))]) (.block 4 (.loop (.seq (.seq (.reg [oo 63 (.mv (.t 6)), oo 64 (.mv (.t 5)), oo 65 (.bin .lss (.t 63) (.t 64))]) (.cond (.t 65) .skip (.exit 4))) (.seq (.block 5 (.seq (.draw [oo 68 (.fieldA 2 (.t 1)), oo 69 (.load 1 false (.t 68)), oo 70 (.mv (.t 6)), oo 71 (.idxS 12 (.t 69) (.t 70)), oo 72 (.fieldA 0 (.t 71)), oo 73 (.load 1 false (.t 72)), oo 74 (.fieldA 2 (.t 1)), oo 75 (.load 1 false (.t 74)), oo 76 (.mv (.t 5)), oo 77 (.idxS 12 (.t 75) (.t 76)), oo 78 (.fieldA 0 (.t 77)), oo 79 (.load 1 false (.t 78)), oo 80 (.bin .eql (.t 73) (.t 79))] []) (.cond (.t 80) (.seq (.reg [oo 2 (.mv (ci 9))]) .ret) .skip))) (.reg [oo 66 (.mv (.t 6)), oo 67 (.bin .add (.t 66) (ci 1)), oo 6 (.mv (.t 67))])))))) (.seq (.draw [oo 81 (.fieldA 2 (.t 1)), oo 82 (.load 1 false (.t 81)), oo 83 (.mv (.t 5)), oo 84 (.idxS 12 (.t 82) (.t 83)), oo 85 (.fieldA 0 (.t 84)), oo 86 (.load 1 false (.t 85)), oo 87 (.fieldA 3 (.t 1)), oo 88 (.fieldA 0 (.t 87)), oo 89 (.load 1 false (.t 88)), oo 90 (.bin .eql (.t 86) (.t 89))] []) (.cond (.t 90) (.seq (.reg [oo 2 (.mv (ci 9))]) .ret) .skip)))) (.reg [oo 61 (.mv (.t 5)), oo 62 (.bin .add (.t 61) (ci 1)), oo 5 (.mv (.t 62))])))))) (.seq (.reg [oo 2 (.mv (ci 0))]) .ret))))))))))
theorem fn_ref09_numbers : FnOK Try.prog 78 91 [.t 2] ac_ref09_numbers := ⟨_, _, Try.func78, rfl, Try.ntmps78, by kernel_rfl, ⟨fun _ => [], by kernel_rfl⟩, by kernel_rfl⟩
set_option maxHeartbeats 4000000 in
theorem ref09_numbers_ok (p1 : Convoy) (r : Int) (h : ref09_numbers p1 = some r) : PCall Try.prog 78 [(.agg (eConvoy p1))] (i64 r) := by
  refine l_call fn_ref09_numbers (nl rfl) ?_
  unfold ref09_numbers at h
  unfold ac_ref09_numbers
  refine l_sub (s0 := ⟨T [(0, (.d _))], G []⟩) (sbr rfl rfl) ?_
  refine lr (fun u1 hu1 => sn rfl rfl (sv rfl (s_nil (l_seq (lr (fun u2 hu2 => sp rfl rfl (sl rfl G_hit rfl (bs h fun v1 hv1 h => s_call rfl rfl all2_refl (ref09_between_ok _ _ _  _ hv1) (.inl rfl) (s_val (.d (bo (!v1))) rfl rfl (sv rfl (gp (gw_f rfl) (fun _ => rfl) (gf rfl (vl rfl G_hit rfl) (bs h fun v2 hv2 h => g_call _ (bo v2) (gw_f rfl) (fun w3 => ⟨_, [(di p1.Gap), (di 1), (di 20000)], _, _, (by simp only [gd_pos w3]; rfl), rfl, all2_refl, ref09_between_ok _ _ _  _ (cond_t w3 hv2), (.inl rfl)⟩) ?_)))))))))))))
  refine g_val _ (.d (bo (!v2))) rfl (gw_f rfl) (fun w4 => (by simp only [gd_pos w4]; rfl)) ?_
  refine sd rfl (v_or rfl rfl (fun hc => gd_pos (not_t hc))) (s_nil (cc rfl h (fun c1 h => ?_) (fun c1 h => ?_)))
  · refine lr (fun u3 hu3 => sv rfl (s_nil (l_ret ?_)))
    obtain rfl := Option.some.inj h
    exact fin_ok (.inr rfl) (resD1 (res_t rfl) rf_d) (.refl _)
  · refine l_skip (l_seq (lr (fun u4 hu4 => sp rfl rfl (sl rfl G_hit rfl (sd rfl (v_len rfl) (sv rfl (s_nil (cc rfl h (fun c2 h => ?_) (fun c2 h => ?_)))))))))
    · refine lr (fun u5 hu5 => sv rfl (s_nil (l_ret ?_)))
      obtain rfl := Option.some.inj h
      exact fin_ok (.inr rfl) (resD1 (res_t rfl) rf_d) (.refl _)
    · refine l_skip (lr (fun u6 hu6 => sp rfl rfl (sl rfl G_hit rfl (sd rfl (v_len rfl) (sv rfl (s_nil (l_seq (lr (fun u7 hu7 => sp rfl rfl (sd rfl (v_loadG rfl G_hit rfl rfl) (sv rfl (s_val (.d (bo (!(p1.Guest_.ID == 0 && (p1.Guest_.S == 0 && (p1.Guest_.V == 0 && (p1.Guest_.Len == 0 && (p1.Guest_.End == 0 && (p1.Guest_.Ahead == 0 && (p1.Guest_.Guess_.R == 0 && (p1.Guest_.Guess_.V == 0 && (p1.Guest_.From == 0 && (p1.Guest_.Until == 0 && true))))))))))))) rfl rfl (s_nil (bs h fun y1 hy1 h => l_join (fun s => ∃ g1 : Unit, Sb ⟨T [(1, (.ptr (1, u1) 0)), (3, (di y1))], G [((1, u1), some (.box 38 (dConvoy p1)))]⟩ s) ?_ ?_))))))))))))))
      · refine cc rfl hy1 (fun c3 hy1 => ?_) (fun c3 hy1 => ?_)
        · refine l_sub (s0 := ⟨T [(1, (.ptr _ _)), (3, (.d _))], G [((1, u1), some (.box 38 _))]⟩) (sbr rfl rfl) ?_
          refine l_reg fun u8 hu8 => sv rfl (sv rfl (sv rfl (s_nil ?_)))
          obtain rfl := Option.some.inj hy1
          exact l_j ⟨(), (sbr rfl rfl)⟩
        · refine l_skip ?_
          obtain rfl := Option.some.inj hy1
          exact l_j ⟨(), (sbr rfl rfl)⟩
      · rintro _ ⟨g1, q1⟩
        refine l_sub q1 (l_seq (lr (fun u9 hu9 => sv rfl (sv rfl (s_nil (cc rfl h (fun c4 h => ?_) (fun c4 h => ?_)))))))
        · refine lr (fun u10 hu10 => sv rfl (s_nil (l_ret ?_)))
          obtain rfl := Option.some.inj h
          exact fin_ok (.inr rfl) (resD1 (res_t rfl) rf_d) (.refl _)
        · refine l_skip (l_seq (lr (fun u11 hu11 => sv rfl (s_nil (js h fun z1 hz1 h => l_join (fun s => ∃ (y2 : Unit) (g2 : Unit), z1 = .inl y2 ∧ Sb ⟨T [(1, (.ptr (1, u1) 0))], G [((1, u1), some (.box 38 (dConvoy p1)))]⟩ s) ?_ ?_)))))
          · refine l_block (l_loop (ref09_numbers_l1 p1) (fun (x1 : Int) (g3 : Unit) => ⟨T [(1, (.ptr (1, u1) 0)), (4, (di x1))], G [((1, u1), some (.box 38 (dConvoy p1)))]⟩) 0 () _ hz1 (sbr rfl rfl) ?_)
            intro x1 g3 z2 hz2 ez2
            unfold ref09_numbers_l1 at hz2
            refine l_seq (lr (fun u12 hu12 => sv rfl (sp rfl rfl (sl rfl G_hit rfl (sd rfl (v_len rfl) (sv rfl (s_nil (cc rfl hz2 (fun c5 hz2 => ?_) (fun c5 hz2 => ?_)))))))))
            · refine l_skip (l_seq (l_block (lr (fun u13 hu13 => sp rfl rfl (sl rfl G_hit rfl (sv rfl (bs hz2 fun v3 hv3 hz2 => sd rfl (v_idx rfl rfl hv3 rfl) (sd rfl (v_loadLG rfl hv3 rfl rfl) (bs hz2 fun v4 hv4 hz2 => s_call rfl rfl all2_refl (ref09_mate_ok _  _ hv4) (.inl rfl) (s_val (.d (bo (!v4))) rfl rfl (s_nil (cc rfl hz2 (fun c6 hz2 => ?_) (fun c6 hz2 => ?_)))))))))))))
              · refine lr (fun u14 hu14 => sv rfl (s_nil (l_ret ?_)))
                obtain rfl := Option.some.inj hz2
                obtain rfl := ez2 _ rfl
                refine ⟨nofun, awl_ret ?_⟩
                rw [Sum.elim_inr] at h
                obtain rfl := Option.some.inj h
                exact fin_ok (.inr rfl) (resD1 (res_t rfl) rf_d) (.refl _)
              · refine l_skip (l_end (l_reg fun u15 hu15 => sv rfl (sv rfl (sv rfl (s_nil (l_nil ?_))))))
                obtain rfl := Option.some.inj hz2
                exact ⟨rfl, (), (sbr rfl rfl)⟩
            · refine l_exitN rfl ?_
              obtain rfl := Option.some.inj hz2
              obtain rfl := ez2 _ rfl
              refine ⟨nofun, awl_pop rfl (l_j ?_)⟩
              exact ⟨_, (), rfl, (sbr rfl rfl)⟩
          · rintro _ ⟨y2, g2, rfl, q2⟩
            rw [Sum.elim_inl] at h
            refine l_sub q2 (l_seq (lr (fun u16 hu16 => sp rfl rfl (sd rfl (v_loadG rfl G_hit rfl rfl) (sv rfl (s_val (.d (bo (!(p1.Guest_.ID == 0 && (p1.Guest_.S == 0 && (p1.Guest_.V == 0 && (p1.Guest_.Len == 0 && (p1.Guest_.End == 0 && (p1.Guest_.Ahead == 0 && (p1.Guest_.Guess_.R == 0 && (p1.Guest_.Guess_.V == 0 && (p1.Guest_.From == 0 && (p1.Guest_.Until == 0 && true))))))))))))) rfl rfl (sv rfl (gp (gw_t rfl) (fun _ => rfl) (gt rfl (fun w6 => (v_loadG (gd_pos w6) G_hit rfl rfl)) (bs h fun v5 hv5 h => g_call _ (bo v5) (gw_t rfl) (fun w7 => ⟨_, [(.d (.agg (eGuest p1.Guest_)))], _, _, (by simp only [gd_pos w7]; rfl), rfl, all2_refl, ref09_guest_ok _  _ (cond_t w7 hv5), (.inl rfl)⟩) ?_))))))))))
            refine g_val _ (.d (bo (!v5))) rfl (gw_t rfl) (fun w8 => (by simp only [gd_pos w8]; rfl)) ?_
            refine sa rfl rfl rfl (s_nil (cc rfl h (fun c7 h => ?_) (fun c7 h => ?_)))
            · refine lr (fun u17 hu17 => sv rfl (s_nil (l_ret ?_)))
              obtain rfl := Option.some.inj h
              exact fin_ok (.inr rfl) (resD1 (res_t rfl) rf_d) (.refl _)
            · refine l_skip (l_seq (lr (fun u18 hu18 => sv rfl (s_nil (js h fun z3 hz3 h => l_join (fun s => ∃ (y3 : Unit) (g4 : Unit), z3 = .inl y3 ∧ Sb ⟨T [], G []⟩ s) ?_ ?_)))))
              · refine l_block (l_loop (ref09_numbers_l2 p1) (fun (x2 : Int) (g5 : Unit) => ⟨T [(1, (.ptr (1, u1) 0)), (5, (di x2))], G [((1, u1), some (.box 38 (dConvoy p1)))]⟩) 0 () _ hz3 (sbr rfl rfl) ?_)
                intro x2 g5 z4 hz4 ez4
                unfold ref09_numbers_l2 at hz4
                refine l_seq (lr (fun u19 hu19 => sv rfl (sp rfl rfl (sl rfl G_hit rfl (sd rfl (v_len rfl) (sv rfl (s_nil (cc rfl hz4 (fun c8 hz4 => ?_) (fun c8 hz4 => ?_)))))))))
                · refine l_skip (l_seq (l_block (l_seq (lr (fun u20 hu20 => sv rfl (s_nil (js hz4 fun z5 hz5 hz4 => l_join (fun s => ∃ (y4 : Unit) (g6 : Unit), z5 = .inl y4 ∧ Sb ⟨T [(1, (.ptr (1, u1) 0)), (5, (di x2))], G [((1, u1), some (.box 38 (dConvoy p1)))]⟩ s) ?_ ?_)))))))
                  · refine l_block (l_loop (ref09_numbers_l3 p1 x2) (fun (x3 : Int) (g7 : Unit) => ⟨T [(1, (.ptr (1, u1) 0)), (5, (di x2)), (6, (di x3))], G [((1, u1), some (.box 38 (dConvoy p1)))]⟩) 0 () _ hz5 (sbr rfl rfl) ?_)
                    intro x3 g7 z6 hz6 ez6
                    unfold ref09_numbers_l3 at hz6
                    refine l_seq (lr (fun u21 hu21 => sv rfl (sv rfl (sv rfl (s_nil (cc rfl hz6 (fun c9 hz6 => ?_) (fun c9 hz6 => ?_)))))))
                    · refine l_skip (l_seq (l_block (l_seq (l_draw rfl fun u22 hu22 => sp rfl rfl (sl rfl G_hit rfl (sv rfl (bs hz6 fun v6 hv6 hz6 => sd rfl (v_idx rfl rfl hv6 rfl) (sv rfl (sd rfl (v_loadL rfl hv6 rfl) (sp rfl rfl (sl rfl G_hit rfl (sv rfl (bs hz6 fun v7 hv7 hz6 => sd rfl (v_idx rfl rfl hv7 rfl) (sv rfl (sd rfl (v_loadL rfl hv7 rfl) (sv rfl (s_nil (cc rfl hz6 (fun c10 hz6 => ?_) (fun c10 hz6 => ?_)))))))))))))))))))
                      · refine lr (fun u23 hu23 => sv rfl (s_nil (l_ret ?_)))
                        obtain rfl := Option.some.inj hz6
                        obtain rfl := ez6 _ rfl
                        refine ⟨nofun, awl_ret ?_⟩
                        rw [Sum.elim_inr] at hz4
                        obtain rfl := Option.some.inj hz4
                        obtain rfl := ez4 _ rfl
                        refine ⟨nofun, awl_ret ?_⟩
                        rw [Sum.elim_inr] at h
                        obtain rfl := Option.some.inj h
                        exact fin_ok (.inr rfl) (resD1 (res_t rfl) rf_d) (.refl _)
                      · refine l_skip (l_end (l_reg fun u24 hu24 => sv rfl (sv rfl (sv rfl (s_nil (l_nil ?_))))))
                        obtain rfl := Option.some.inj hz6
                        exact ⟨rfl, (), (sbr rfl rfl)⟩
                    · refine l_exitN rfl ?_
                      obtain rfl := Option.some.inj hz6
                      obtain rfl := ez6 _ rfl
                      refine ⟨nofun, awl_pop rfl (l_j ?_)⟩
                      exact ⟨_, (), rfl, (sbr rfl rfl)⟩
                  · rintro _ ⟨y4, g6, rfl, q3⟩
                    rw [Sum.elim_inl] at hz4
                    refine l_sub q3 (l_seq (l_draw rfl fun u25 hu25 => sp rfl rfl (sl rfl G_hit rfl (sv rfl (bs hz4 fun v8 hv8 hz4 => sd rfl (v_idx rfl rfl hv8 rfl) (sv rfl (sd rfl (v_loadL rfl hv8 rfl) (sp rfl rfl (sp rfl rfl (sl rfl G_hit rfl (sv rfl (s_nil (cc rfl hz4 (fun c11 hz4 => ?_) (fun c11 hz4 => ?_))))))))))))))
                    · refine lr (fun u26 hu26 => sv rfl (s_nil (l_ret ?_)))
                      obtain rfl := Option.some.inj hz4
                      obtain rfl := ez4 _ rfl
                      refine ⟨nofun, awl_ret ?_⟩
                      rw [Sum.elim_inr] at h
                      obtain rfl := Option.some.inj h
                      exact fin_ok (.inr rfl) (resD1 (res_t rfl) rf_d) (.refl _)
                    · refine l_skip (l_end (l_reg fun u27 hu27 => sv rfl (sv rfl (sv rfl (s_nil (l_nil ?_))))))
                      obtain rfl := Option.some.inj hz4
                      exact ⟨rfl, (), (sbr rfl rfl)⟩
                · refine l_exitN rfl ?_
                  obtain rfl := Option.some.inj hz4
                  obtain rfl := ez4 _ rfl
                  refine ⟨nofun, awl_pop rfl (l_j ?_)⟩
                  exact ⟨_, (), rfl, (sbr rfl rfl)⟩
              · rintro _ ⟨y3, g4, rfl, q4⟩
                rw [Sum.elim_inl] at h
                refine l_sub q4 (lr (fun u28 hu28 => sv rfl (s_nil (l_ret ?_))))
                obtain rfl := Option.some.inj h
                exact fin_ok (.inr rfl) (resD1 (res_t rfl) rf_d) (.refl _)

noncomputable def ref09_sane_l1 (p1 : (List Int)) (x1 : Int) : Option (Stp Int (Sum Unit Bool)) :=
  cond (decide (x1 < (p1.length : Int))) ((geti p1 x1).bind fun v1 => ((cond (!(decide (v1 < (-4398046511104)))) (geti p1 x1) (some default))).bind fun v2 => cond ((decide (v1 < (-4398046511104))) || (decide (v2 > 4398046511104))) (some (.out (.inr false))) (some (.go (w64 (x1 + 1))))) (some (.out (.inl ())))
noncomputable def ref09_sane (p1 : (List Int)) : Option Bool :=
  thenS (loop (ref09_sane_l1 p1) 0) (fun _ => some true) (fun r => some r)

/-- kerbstone/kerbstoneref09.sane -/
def ac_ref09_sane : AC := (.seq (.reg [oo 2 (.mv (.c zf))]) (.seq (.seq (.reg [oo 3 (.mv (ci 0))]) (.block 0 (.loop (.seq (.seq (.reg [oo 4 (.mv (.t 3)), oo 5 (.mv (.t 0)), oo 6 (.len (.t 5)), oo 7 (.bin .lss (.t 4) (.t 6))]) (.cond (.t 7) .skip (.exit 0))) (.seq (.block 1 (.seq (.reg [oo 10 (.mv (.t 0)), oo 11 (.mv (.t 3)), oo 12 (.idxS 1 (.t 10) (.t 11)), oo 13 (.load 1 false (.t 12)), oo 14 (.bin .lss (.t 13) (ci (-4398046511104))), oo 15 (.mv (.t 14)), oh 16 (.mv (.t 0)) 15, oh 17 (.mv (.t 3)) 15, oh 18 (.idxS 1 (.t 16) (.t 17)) 15, oh 19 (.load 1 false (.t 18)) 15, oh 20 (.bin .gtr (.t 19) (ci 4398046511104)) 15, oo 21 (.pick (.t 15) (.c (.v (.bool true))) (.t 20))]) (.cond (.t 21) (.seq (.reg [oo 2 (.mv (.c zf))]) .ret) .skip))) (.reg [oo 8 (.mv (.t 3)), oo 9 (.bin .add (.t 8) (ci 1)), oo 3 (.mv (.t 9))])))))) (.seq (.reg [oo 2 (.mv (.c (.v (.bool true))))]) .ret)))
theorem fn_ref09_sane : FnOK Try.prog 60 22 [.t 2] ac_ref09_sane := ⟨_, _, Try.func60, rfl, Try.ntmps60, by kernel_rfl, ⟨fun _ => [], by kernel_rfl⟩, by kernel_rfl⟩
set_option maxHeartbeats 4000000 in
theorem ref09_sane_ok (p1 : (List Int)) (r : Bool) (h : ref09_sane p1 = some r) : PCall Try.prog 60 [(.list (List.map eInt_i64 p1))] (bo r) := by
  refine l_call fn_ref09_sane (nl rfl) ?_
  unfold ref09_sane at h
  unfold ac_ref09_sane
  refine l_sub (s0 := ⟨T [(0, (.d _))], G []⟩) (sbr rfl rfl) ?_
  refine lr (fun u1 hu1 => sv rfl (s_nil (l_seq (lr (fun u2 hu2 => sv rfl (s_nil (js h fun z1 hz1 h => l_join (fun s => ∃ (y1 : Unit) (g1 : Unit), z1 = .inl y1 ∧ Sb ⟨T [], G []⟩ s) ?_ ?_)))))))
  · refine l_block (l_loop (ref09_sane_l1 p1) (fun (x1 : Int) (g2 : Unit) => ⟨T [(0, (dl eInt_i64 p1)), (3, (di x1))], G []⟩) 0 () _ hz1 (sbr rfl rfl) ?_)
    intro x1 g2 z2 hz2 ez2
    unfold ref09_sane_l1 at hz2
    refine l_seq (lr (fun u3 hu3 => sv rfl (sv rfl (sd rfl (v_len rfl) (sv rfl (s_nil (cc rfl hz2 (fun c1 hz2 => ?_) (fun c1 hz2 => ?_))))))))
    · refine l_skip (l_seq (l_block (lr (fun u4 hu4 => sv rfl (sv rfl (bs hz2 fun v1 hv1 hz2 => sd rfl (v_idx rfl rfl hv1 rfl) (sd rfl (v_loadL rfl hv1 rfl) (sv rfl (sv rfl (gf rfl (fun _ => rfl) (gf rfl (fun _ => rfl) (bs hz2 fun v2 hv2 hz2 => gf rfl (fun w3 => (v_idx (gd_pos w3) (gd_pos w3) (cond_t w3 hv2) rfl)) (gf rfl (fun w4 => (v_loadL (gd_pos w4) (cond_t w4 hv2) rfl)) (gf rfl (vb rfl rfl rfl) (sd rfl (v_or rfl rfl (fun hc => gd_pos (not_t hc))) (s_nil (cc rfl hz2 (fun c2 hz2 => ?_) (fun c2 hz2 => ?_))))))))))))))))))
      · refine lr (fun u5 hu5 => sv rfl (s_nil (l_ret ?_)))
        obtain rfl := Option.some.inj hz2
        obtain rfl := ez2 _ rfl
        refine ⟨nofun, awl_ret ?_⟩
        rw [Sum.elim_inr] at h
        obtain rfl := Option.some.inj h
        exact fin_ok (.inr rfl) (resD1 (res_t rfl) rf_d) (.refl _)
      · refine l_skip (l_end (l_reg fun u6 hu6 => sv rfl (sv rfl (sv rfl (s_nil (l_nil ?_))))))
        obtain rfl := Option.some.inj hz2
        exact ⟨rfl, (), (sbr rfl rfl)⟩
    · refine l_exitN rfl ?_
      obtain rfl := Option.some.inj hz2
      obtain rfl := ez2 _ rfl
      refine ⟨nofun, awl_pop rfl (l_j ?_)⟩
      exact ⟨_, (), rfl, (sbr rfl rfl)⟩
  · rintro _ ⟨y1, g1, rfl, q1⟩
    rw [Sum.elim_inl] at h
    refine l_sub q1 (lr (fun u7 hu7 => sv rfl (s_nil (l_ret ?_))))
    obtain rfl := Option.some.inj h
    exact fin_ok (.inr rfl) (resD1 (res_t rfl) rf_d) (.refl _)

noncomputable def ref04_Stop_l1 (p2 : Int) (x1 : (Int × Int)) : Option (Stp (Int × Int) Int) :=
  cond (decide (x1.1 > (mm2 false p2 1000000))) (some (.go ((w64 (x1.1 - (mm2 false p2 1000000))), (w64 (x1.2 + (w64 (x1.1 - (mm2 false p2 1000000)))))))) (some (.out x1.2))
noncomputable def ref04_Stop (p1 : Int) (p2 : Int) : Option Int :=
  cond ((decide ((mm2 false p1 1000000) < 1)) || (decide ((mm2 false p2 1000000) < 1))) (some 0) ((loop (ref04_Stop_l1 p2) ((mm2 false p1 1000000), 0)).bind fun y1 => some y1)

/-- kerbstone/kerbstoneref04.Stop -/
def ac_ref04_Stop : AC := (.seq (.reg [oo 4 (.mv (ci 0))]) (.seq (.reg [oo 6 (.mv (.t 0)), oo 7 (.mm false (.t 6) [(ci 1000000)]), oo 8 (.mv (.t 1)), oo 9 (.mm false (.t 8) [(ci 1000000)]), oo 0 (.mv (.t 7)), oo 1 (.mv (.t 9))]) (.seq (.reg [oo 5 (.mv (ci 0))]) (.seq (.seq (.reg [oo 10 (.mv (.t 0)), oo 11 (.bin .lss (.t 10) (ci 1)), oo 12 (.mv (.t 11)), oh 13 (.mv (.t 1)) 12, oh 14 (.bin .lss (.t 13) (ci 1)) 12, oo 15 (.pick (.t 12) (.c (.v (.bool true))) (.t 14))]) (.cond (.t 15) (.seq (.reg [oo 4 (.mv (ci 0))]) .ret) .skip)) (.seq (.block 0 (.loop (.seq (.seq (.reg [oo 16 (.mv (.t 0)), oo 17 (.mv (.t 1)), oo 18 (.bin .gtr (.t 16) (.t 17))]) (.cond (.t 18) .skip (.exit 0))) (.block 1 (.seq (.reg [oo 19 (.mv (.t 0)), oo 20 (.mv (.t 1)), oo 21 (.bin .sub (.t 19) (.t 20)), oo 0 (.mv (.t 21))]) (.reg [oo 22 (.mv (.t 5)), oo 23 (.mv (.t 0)), oo 24 (.bin .add (.t 22) (.t 23)), oo 5 (.mv (.t 24))])))))) (.seq (.reg [oo 25 (.mv (.t 5)), oo 4 (.mv (.t 25))]) .ret))))))
theorem fn_ref04_Stop : FnOK Try.prog 97 26 [.t 4] ac_ref04_Stop := ⟨_, _, Try.func97, rfl, Try.ntmps97, by kernel_rfl, ⟨fun _ => [], by kernel_rfl⟩, by kernel_rfl⟩
set_option maxHeartbeats 4000000 in
theorem ref04_Stop_ok (p1 : Int) (p2 : Int) (r : Int) (h : ref04_Stop p1 p2 = some r) : PCall Try.prog 97 [(i64 p1), (i64 p2)] (i64 r) := by
  refine l_call fn_ref04_Stop (nl rfl) ?_
  unfold ref04_Stop at h
  unfold ac_ref04_Stop
  refine l_sub (s0 := ⟨T [(0, (.d _)), (1, (.d _))], G []⟩) (sbr rfl rfl) ?_
  refine lr (fun u1 hu1 => sv rfl (s_nil (lr (fun u2 hu2 => sv rfl (sv rfl (sv rfl (sv rfl (sv rfl (sv rfl (s_nil (lr (fun u3 hu3 => sv rfl (s_nil (l_seq (lr (fun u4 hu4 => sv rfl (sv rfl (sv rfl (gf rfl (fun _ => rfl) (gf rfl (vb rfl rfl rfl) (sd rfl (v_or rfl rfl (fun hc => gd_pos (not_t hc))) (s_nil (cc rfl h (fun c1 h => ?_) (fun c1 h => ?_))))))))))))))))))))))))
  · refine lr (fun u5 hu5 => sv rfl (s_nil (l_ret ?_)))
    obtain rfl := Option.some.inj h
    exact fin_ok (.inr rfl) (resD1 (res_t rfl) rf_d) (.refl _)
  · refine l_skip (l_seq (bs h fun y1 hy1 h => l_join (fun s => ∃ g1 : Unit, Sb ⟨T [(5, (di y1))], G []⟩ s) ?_ ?_))
    · refine l_block (l_loop (ref04_Stop_l1 p2) (fun (x1 : (Int × Int)) (g2 : Unit) => ⟨T [(0, (di x1.1)), (1, (di (mm2 false p2 1000000))), (5, (di x1.2))], G []⟩) ((mm2 false p1 1000000), 0) () _ hy1 (sbr rfl rfl) ?_)
      intro x1 g2 z1 hz1 ez1
      unfold ref04_Stop_l1 at hz1
      refine l_seq (lr (fun u6 hu6 => sv rfl (sv rfl (sv rfl (s_nil (cc rfl hz1 (fun c2 hz1 => ?_) (fun c2 hz1 => ?_)))))))
      · refine l_skip (l_block (lr (fun u7 hu7 => sv rfl (sv rfl (sv rfl (sv rfl (s_nil (l_reg fun u8 hu8 => sv rfl (sv rfl (sv rfl (sv rfl (s_nil (l_end (l_nil ?_))))))))))))))
        obtain rfl := Option.some.inj hz1
        exact ⟨rfl, (), (sbr rfl rfl)⟩
      · refine l_exitN rfl ?_
        obtain rfl := Option.some.inj hz1
        obtain rfl := ez1 _ rfl
        refine ⟨nofun, awl_pop rfl (l_j ?_)⟩
        exact ⟨(), (sbr rfl rfl)⟩
    · rintro _ ⟨g1, q1⟩
      refine l_sub q1 (lr (fun u9 hu9 => sv rfl (sv rfl (s_nil (l_ret ?_)))))
      obtain rfl := Option.some.inj h
      exact fin_ok (.inr rfl) (resD1 (res_t rfl) rf_d) (.refl _)

noncomputable def ref09_stop (p1 : Int) : Option Int :=
  (ref04_Stop p1 90).bind fun v1 => some v1

/-- kerbstone/kerbstoneref09.stop -/
def ac_ref09_stop : AC := (.seq (.reg [oo 2 (.mv (ci 0))]) (.seq (.reg [oo 3 (.mv (.t 0)), oo 4 (.call (cf 97) [(.t 3), (ci 90)]), oo 2 (.mv (.t 4))]) .ret))
theorem fn_ref09_stop : FnOK Try.prog 63 5 [.t 2] ac_ref09_stop := ⟨_, _, Try.func63, rfl, Try.ntmps63, by kernel_rfl, ⟨fun _ => [], by kernel_rfl⟩, by kernel_rfl⟩
theorem ref09_stop_ok (p1 : Int) (r : Int) (h : ref09_stop p1 = some r) : PCall Try.prog 63 [(i64 p1)] (i64 r) := by
  refine l_call fn_ref09_stop (nl rfl) ?_
  unfold ref09_stop at h
  unfold ac_ref09_stop
  refine l_sub (s0 := ⟨T [(0, (.d _))], G []⟩) (sbr rfl rfl) ?_
  refine lr (fun u1 hu1 => sv rfl (s_nil (lr (fun u2 hu2 => sv rfl (bs h fun v1 hv1 h => s_call rfl rfl all2_refl (ref04_Stop_ok _ _  _ hv1) (.inl rfl) (sv rfl (s_nil (l_ret ?_))))))))
  obtain rfl := Option.some.inj h
  exact fin_ok (.inr rfl) (resD1 (res_t rfl) rf_d) (.refl _)

noncomputable def ref09_Safe (p1 : Int) (p2 : Int) (p3 : Int) (p4 : Guess) : Option Bool :=
  (ref09_sane [p1, p2, p3, p4.R, p4.V]).bind fun v1 => ((cond (v1 && (decide (p1 ≤ (w64 (p4.R - p3))))) (ref09_stop p2) (some default))).bind fun v2 => ((cond (v1 && (decide (p1 ≤ (w64 (p4.R - p3))))) (ref09_stop p4.V) (some default))).bind fun v3 => some ((v1 && (decide (p1 ≤ (w64 (p4.R - p3))))) && (decide ((w64 (p1 + v2)) ≤ (w64 ((w64 (p4.R + v3)) - p3)))))

/-- kerbstone/kerbstoneref09.Safe -/
def ac_ref09_Safe : AC := (.seq (.reg [oo 7 (.box 23 true (.t 3)), oo 8 (.mv (.c zf))]) (.seq (.draw [oo 9 (.mv (.t 0)), oo 10 (.mv (.t 1)), oo 11 (.mv (.t 2)), oo 12 (.fieldA 0 (.t 7)), oo 13 (.load 1 false (.t 12)), oo 14 (.fieldA 1 (.t 7)), oo 15 (.load 1 false (.t 14)), oo 16 (.dslice 2 1 5 [z0] [(0, 1, (.t 9)), (1, 1, (.t 10)), (2, 1, (.t 11)), (3, 1, (.t 13)), (4, 1, (.t 15))]), oo 17 (.call (cf 60) [(.t 16)]), oo 18 (.mv (.t 17)), og 19 (.mv (.t 0)) 18, og 20 (.fieldA 0 (.t 7)) 18, og 21 (.load 1 false (.t 20)) 18, og 22 (.mv (.t 2)) 18, og 23 (.bin .sub (.t 21) (.t 22)) 18, og 24 (.bin .leq (.t 19) (.t 23)) 18, oo 25 (.pick (.t 18) (.t 24) (.c zf)), oo 26 (.mv (.t 25)), og 27 (.mv (.t 0)) 26, og 28 (.mv (.t 1)) 26, og 29 (.call (cf 63) [(.t 28)]) 26, og 30 (.bin .add (.t 27) (.t 29)) 26, og 31 (.fieldA 0 (.t 7)) 26, og 32 (.load 1 false (.t 31)) 26, og 33 (.fieldA 1 (.t 7)) 26, og 34 (.load 1 false (.t 33)) 26, og 35 (.call (cf 63) [(.t 34)]) 26, og 36 (.bin .add (.t 32) (.t 35)) 26, og 37 (.mv (.t 2)) 26, og 38 (.bin .sub (.t 36) (.t 37)) 26, og 39 (.bin .leq (.t 30) (.t 38)) 26, oo 40 (.pick (.t 26) (.t 39) (.c zf)), oo 8 (.mv (.t 40))] []) .ret))
theorem fn_ref09_Safe : FnOK Try.prog 22 41 [.t 8] ac_ref09_Safe := ⟨_, _, Try.func22, rfl, Try.ntmps22, by kernel_rfl, ⟨fun r => if r == 1 then [1007] else [], by kernel_rfl⟩, by kernel_rfl⟩
theorem ref09_Safe_ok (p1 : Int) (p2 : Int) (p3 : Int) (p4 : Guess) (r : Bool) (h : ref09_Safe p1 p2 p3 p4 = some r) : PCall Try.prog 22 [(i64 p1), (i64 p2), (i64 p3), (.agg [(i64 p4.R), (i64 p4.V)])] (bo r) := by
  refine l_call fn_ref09_Safe (nl rfl) ?_
  unfold ref09_Safe at h
  unfold ac_ref09_Safe
  refine l_sub (s0 := ⟨T [(0, (.d _)), (1, (.d _)), (2, (.d _)), (3, (.d _))], G []⟩) (sbr rfl rfl) ?_
  refine lr (fun u1 hu1 => sn rfl rfl (sv rfl (s_nil (l_seq (l_draw rfl fun u2 hu2 => sv rfl (sv rfl (sv rfl (sp rfl rfl (sl rfl G_hit rfl (sp rfl rfl (sl rfl G_hit rfl (s_val (dl eInt_i64 [p1, p2, p3, p4.R, p4.V]) rfl rfl (bs h fun v1 hv1 h => s_call rfl rfl all2_refl (ref09_sane_ok _  _ hv1) (.inl rfl) (sv rfl (gt rfl (fun _ => rfl) (gp (gw_t rfl) (fun _ => rfl) (gt rfl (vl rfl G_hit rfl) (gt rfl (fun _ => rfl) (gt rfl (fun w5 => (v_bin (gd_pos w5) (gd_pos w5) rfl)) (gt rfl (fun w6 => (v_bin (gd_pos w6) (gd_pos w6) rfl)) (sa rfl rfl rfl (sv rfl (gt rfl (fun _ => rfl) (gt rfl (fun _ => rfl) (bs h fun v2 hv2 h => g_call _ (i64 v2) (gw_t rfl) (fun w9 => ⟨_, [(di p2)], _, _, (by simp only [gd_pos w9]; rfl), rfl, all2_refl, ref09_stop_ok _  _ (cond_t w9 hv2), (.inl rfl)⟩) ?_)))))))))))))))))))))))))
  refine gt rfl (fun w10 => (v_bin (gd_pos w10) (gd_pos w10) rfl)) (gp (gw_t rfl) (fun _ => rfl) (gt rfl (vl rfl G_hit rfl) (gp (gw_t rfl) (fun _ => rfl) (gt rfl (vl rfl G_hit rfl) (bs h fun v3 hv3 h => g_call _ (i64 v3) (gw_t rfl) (fun w15 => ⟨_, [(di p4.V)], _, _, (by simp only [gd_pos w15]; rfl), rfl, all2_refl, ref09_stop_ok _  _ (cond_t w15 hv3), (.inl rfl)⟩) ?_)))))
  refine gt rfl (fun w16 => (v_bin (gd_pos w16) (gd_pos w16) rfl)) (gt rfl (fun _ => rfl) (gt rfl (fun w18 => (v_bin (gd_pos w18) (gd_pos w18) rfl)) (gt rfl (fun w19 => (v_bin (gd_pos w19) (gd_pos w19) rfl)) (sa rfl rfl rfl (sv rfl (s_nil (l_ret ?_)))))))
  obtain rfl := Option.some.inj h
  exact fin_ok (.inr rfl) (resD1 (res_t rfl) rf_d) (.refl _)

noncomputable def ref09_Check_l3 (p1 : Convoy) (x3 : Int) : Option (Stp Int (Sum Unit Int)) :=
  cond (decide (x3 < (p1.Mates.length : Int))) ((geti p1.Mates x3).bind fun v6 => ((cond (v6.Ahead != 0) (ref09_Safe v6.S v6.V p1.Gap v6.Guess_) (some default))).bind fun v7 => ((cond ((!((v6.Ahead != 0) && (!v7))) && (v6.Until != 0)) (ref09_Safe v6.S v6.V p1.Gap v6.WardGuess) (some default))).bind fun v8 => cond (((v6.Ahead != 0) && (!v7)) || ((v6.Until != 0) && (!v8))) (some (.out (.inr 12))) (some (.go (w64 (x3 + 1))))) (some (.out (.inl ())))
noncomputable def ref09_Check_l2 (p1 : Convoy) (x2 : Int) : Option (Stp Int (Sum Unit Int)) :=
  cond (decide (x2 < (p1.Mates.length : Int))) ((geti p1.Mates x2).bind fun v5 => cond ((((x2 == 0) && (v5.Ahead != 0)) || (((decide (x2 > 0)) && (v5.Ahead == 0)) && (v5.Until == 0))) || ((v5.Ward == 0) && (v5.Until != 0))) (some (.out (.inr 10))) (some (.go (w64 (x2 + 1))))) (some (.out (.inl ())))
noncomputable def ref09_Check_l1 (p1 : Convoy) (x1 : Int) : Option (Stp Int (Sum Unit Int)) :=
  cond (decide (x1 < (p1.Mates.length : Int))) ((geti p1.Mates x1).bind fun v2 => (geti p1.Mates (w64 (x1 - 1))).bind fun v3 => (ref09_rear v3).bind fun v4 => cond (decide (v2.S ≥ v4)) (some (.out (.inr 11))) (some (.go (w64 (x1 + 1))))) (some (.out (.inl ())))
noncomputable def ref09_Check (p1 : Convoy) : Option Int :=
  (ref09_numbers p1).bind fun v1 => cond (v1 != 0) (some v1) (thenS (loop (ref09_Check_l1 p1) 1) (fun _ => thenS (loop (ref09_Check_l2 p1) 0) (fun _ => thenS (loop (ref09_Check_l3 p1) 0) (fun _ => ((cond (p1.Guest_.ID != 0) (ref09_stop p1.Guest_.V) (some default))).bind fun v9 => cond ((p1.Guest_.ID != 0) && (decide ((w64 (p1.Guest_.S + v9)) ≥ p1.Guest_.End))) (some 12) (some 0)) (fun r => some r)) (fun r => some r)) (fun r => some r))

/-- kerbstone/kerbstoneref09.Check -/
def ac_ref09_Check : AC := (.seq (.reg [oo 1 (.box 38 true (.t 0)), oo 2 (.mv (ci 0))]) (.seq (.seq (.reg [oo 9 (.load 13 true (.t 1)), oo 10 (.call (cf 78) [(.t 9)]), oo 3 (.mv (.t 10))]) (.seq (.reg [oo 11 (.mv (.t 3)), oo 12 (.bin .neq (.t 11) (ci 0))]) (.cond (.t 12) (.seq (.reg [oo 13 (.mv (.t 3)), oo 2 (.mv (.t 13))]) .ret) .skip))) (.seq (.seq (.reg [oo 4 (.mv (ci 1))]) (.block 0 (.loop (.seq (.seq (.reg [oo 14 (.mv (.t 4)), oo 15 (.fieldA 2 (.t 1)), oo 16 (.load 1 false (.t 15)), oo 17 (.len (.t 16)), oo 18 (.bin .lss (.t 14) (.t 17))]) (.cond (.t 18) .skip (.exit 0))) (.seq (.block 1 (.seq (.draw [oo 21 (.fieldA 2 (.t 1)), oo 22 (.load 1 false (.t 21)), oo 23 (.mv (.t 4)), oo 24 (.idxS 12 (.t 22) (.t 23)), oo 25 (.fieldA 1 (.t 24)), oo 26 (.load 1 false (.t 25)), oo 27 (.fieldA 2 (.t 1)), oo 28 (.load 1 false (.t 27)), oo 29 (.mv (.t 4)), oo 30 (.bin .sub (.t 29) (ci 1)), oo 31 (.idxS 12 (.t 28) (.t 30)), oo 32 (.load 12 true (.t 31)), oo 33 (.call (cf 70) [(.t 32)]), oo 34 (.bin .geq (.t 26) (.t 33))] []) (.cond (.t 34) (.seq (.reg [oo 2 (.mv (ci 11))]) .ret) .skip))) (.reg [oo 19 (.mv (.t 4)), oo 20 (.bin .add (.t 19) (ci 1)), oo 4 (.mv (.t 20))])))))) (.seq (.seq (.reg [oo 5 (.mv (ci 0))]) (.block 2 (.loop (.seq (.seq (.reg [oo 35 (.mv (.t 5)), oo 36 (.fieldA 2 (.t 1)), oo 37 (.load 1 false (.t 36)), oo 38 (.len (.t 37)), oo 39 (.bin .lss (.t 35) (.t 38))]) (.cond (.t 39) .skip (.exit 2))) (.seq (.block 3 (.seq (.reg [oo 42 (.fieldA 2 (.t 1)), oo 43 (.load 1 false (.t 42)), oo 44 (.mv (.t 5)), oo 45 (.idxS 12 (.t 43) (.t 44)), oo 46 (.load 12 true (.t 45)), oo 6 (.alloc 65 [z0, z0, z0, z0, z0, z0, z0, zf, z0, z0, z0, z0]), oe (.store 12 (.t 6) (.t 46))]) (.seq (.reg [oo 47 (.mv (.t 5)), oo 48 (.bin .eql (.t 47) (ci 0)), oo 49 (.mv (.t 48)), og 50 (.fieldA 4 (.t 6)) 49, og 51 (.load 1 false (.t 50)) 49, og 52 (.bin .neq (.t 51) (ci 0)) 49, oo 53 (.pick (.t 49) (.t 52) (.c zf)), oo 54 (.mv (.t 53)), oh 55 (.mv (.t 5)) 54, oh 56 (.bin .gtr (.t 55) (ci 0)) 54, oh 57 (.mv (.t 56)) 54, og 58 (.fieldA 4 (.t 6)) 57, og 59 (.load 1 false (.t 58)) 57, og 60 (.bin .eql (.t 59) (ci 0)) 57, oh 61 (.pick (.t 57) (.t 60) (.c zf)) 54, oh 62 (.mv (.t 61)) 54, og 63 (.fieldA 11 (.t 6)) 62, og 64 (.load 1 false (.t 63)) 62, og 65 (.bin .eql (.t 64) (ci 0)) 62, oh 66 (.pick (.t 62) (.t 65) (.c zf)) 54, oo 67 (.pick (.t 54) (.c (.v (.bool true))) (.t 66)), oo 68 (.mv (.t 67)), oh 69 (.fieldA 8 (.t 6)) 68, oh 70 (.load 1 false (.t 69)) 68, oh 71 (.bin .eql (.t 70) (ci 0)) 68, oh 72 (.mv (.t 71)) 68, og 73 (.fieldA 11 (.t 6)) 72, og 74 (.load 1 false (.t 73)) 72, og 75 (.bin .neq (.t 74) (ci 0)) 72, oh 76 (.pick (.t 72) (.t 75) (.c zf)) 68, oo 77 (.pick (.t 68) (.c (.v (.bool true))) (.t 76))]) (.cond (.t 77) (.seq (.reg [oo 2 (.mv (ci 10))]) .ret) .skip)))) (.reg [oo 40 (.mv (.t 5)), oo 41 (.bin .add (.t 40) (ci 1)), oo 5 (.mv (.t 41))])))))) (.seq (.seq (.reg [oo 7 (.mv (ci 0))]) (.block 4 (.loop (.seq (.seq (.reg [oo 78 (.mv (.t 7)), oo 79 (.fieldA 2 (.t 1)), oo 80 (.load 1 false (.t 79)), oo 81 (.len (.t 80)), oo 82 (.bin .lss (.t 78) (.t 81))]) (.cond (.t 82) .skip (.exit 4))) (.seq (.block 5 (.seq (.reg [oo 85 (.fieldA 2 (.t 1)), oo 86 (.load 1 false (.t 85)), oo 87 (.mv (.t 7)), oo 88 (.idxS 12 (.t 86) (.t 87)), oo 89 (.load 12 true (.t 88)), oo 8 (.alloc 65 [z0, z0, z0, z0, z0, z0, z0, zf, z0, z0, z0, z0]), oe (.store 12 (.t 8) (.t 89))]) (.seq (.reg [oo 90 (.fieldA 4 (.t 8)), oo 91 (.load 1 false (.t 90)), oo 92 (.bin .neq (.t 91) (ci 0)), oo 93 (.mv (.t 92)), og 94 (.fieldA 1 (.t 8)) 93, og 95 (.load 1 false (.t 94)) 93, og 96 (.fieldA 2 (.t 8)) 93, og 97 (.load 1 false (.t 96)) 93, og 98 (.fieldA 1 (.t 1)) 93, og 99 (.load 1 false (.t 98)) 93, og 100 (.fieldA 5 (.t 8)) 93, og 101 (.load 2 true (.t 100)) 93, og 102 (.call (cf 22) [(.t 95), (.t 97), (.t 99), (.t 101)]) 93, og 103 (.un .not (.t 102)) 93, oo 104 (.pick (.t 93) (.t 103) (.c zf)), oo 105 (.mv (.t 104)), oh 106 (.fieldA 11 (.t 8)) 105, oh 107 (.load 1 false (.t 106)) 105, oh 108 (.bin .neq (.t 107) (ci 0)) 105, oh 109 (.mv (.t 108)) 105, og 110 (.fieldA 1 (.t 8)) 109, og 111 (.load 1 false (.t 110)) 109, og 112 (.fieldA 2 (.t 8)) 109, og 113 (.load 1 false (.t 112)) 109, og 114 (.fieldA 1 (.t 1)) 109, og 115 (.load 1 false (.t 114)) 109, og 116 (.fieldA 9 (.t 8)) 109, og 117 (.load 2 true (.t 116)) 109, og 118 (.call (cf 22) [(.t 111), (.t 113), (.t 115), (.t 117)]) 109, og 119 (.un .not (.t 118)) 109, oh 120 (.pick (.t 109) (.t 119) (.c zf)) 105, oo 121 (.pick (.t 105) (.c (.v (.bool true))) (.t 120))]) (.cond (.t 121) (.seq (.reg [oo 2 (.mv (ci 12))]) .ret) .skip)))) (.reg [oo 83 (.mv (.t 7)), oo 84 (.bin .add (.t 83) (ci 1)), oo 7 (.mv (.t 84))])))))) (.seq (.seq (.draw [oo 122 (.fieldA 3 (.t 1)), oo 123 (.fieldA 0 (.t 122)), oo 124 (.load 1 false (.t 123)), oo 125 (.bin .neq (.t 124) (ci 0)), oo 126 (.mv (.t 125)), og 127 (.fieldA 3 (.t 1)) 126, og 128 (.fieldA 1 (.t 127)) 126, og 129 (.load 1 false (.t 128)) 126, og 130 (.fieldA 3 (.t 1)) 126, og 131 (.fieldA 2 (.t 130)) 126, og 132 (.load 1 false (.t 131)) 126, og 133 (.call (cf 63) [(.t 132)]) 126, og 134 (.bin .add (.t 129) (.t 133)) 126, og 135 (.fieldA 3 (.t 1)) 126, og 136 (.fieldA 4 (.t 135)) 126, og 137 (.load 1 false (.t 136)) 126, og 138 (.bin .geq (.t 134) (.t 137)) 126, oo 139 (.pick (.t 126) (.t 138) (.c zf))] []) (.cond (.t 139) (.seq (.reg [oo 2 (.mv (ci 12))]) .ret) .skip)) (.seq (.reg [oo 2 (.mv (ci 0))]) .ret)))))))
theorem fn_ref09_Check : FnOK Try.prog 33 140 [.t 2] ac_ref09_Check := ⟨_, _, Try.func33, rfl, Try.ntmps33, by kernel_rfl, ⟨fun _ => [], by kernel_rfl⟩, by kernel_rfl⟩
set_option maxHeartbeats 4000000 in
theorem ref09_Check_ok (p1 : Convoy) (r : Int) (h : ref09_Check p1 = some r) : PCall Try.prog 33 [(.agg (eConvoy p1))] (i64 r) := by
  refine l_call fn_ref09_Check (nl rfl) ?_
  unfold ref09_Check at h
  unfold ac_ref09_Check
  refine l_sub (s0 := ⟨T [(0, (.d _))], G []⟩) (sbr rfl rfl) ?_
  refine lr (fun u1 hu1 => sn rfl rfl (sv rfl (s_nil (l_seq (lr (fun u2 hu2 => sd rfl (v_loadG rfl G_hit rfl rfl) (bs h fun v1 hv1 h => s_call rfl rfl all2_refl (ref09_numbers_ok _  _ hv1) (.inl rfl) (sv rfl (s_nil (lr (fun u3 hu3 => sv rfl (sv rfl (s_nil (cc rfl h (fun c1 h => ?_) (fun c1 h => ?_)))))))))))))))
  · refine lr (fun u4 hu4 => sv rfl (sv rfl (s_nil (l_ret ?_))))
    obtain rfl := Option.some.inj h
    exact fin_ok (.inr rfl) (resD1 (res_t rfl) rf_d) (.refl _)
  · refine l_skip (l_seq (lr (fun u5 hu5 => sv rfl (s_nil (js h fun z1 hz1 h => l_join (fun s => ∃ (y1 : Unit) (g1 : Unit), z1 = .inl y1 ∧ Sb ⟨T [(1, (.ptr (1, u1) 0))], G [((1, u1), some (.box 38 (dConvoy p1)))]⟩ s) ?_ ?_)))))
    · refine l_block (l_loop (ref09_Check_l1 p1) (fun (x1 : Int) (g2 : Unit) => ⟨T [(1, (.ptr (1, u1) 0)), (4, (di x1))], G [((1, u1), some (.box 38 (dConvoy p1)))]⟩) 1 () _ hz1 (sbr rfl rfl) ?_)
      intro x1 g2 z2 hz2 ez2
      unfold ref09_Check_l1 at hz2
      refine l_seq (lr (fun u6 hu6 => sv rfl (sp rfl rfl (sl rfl G_hit rfl (sd rfl (v_len rfl) (sv rfl (s_nil (cc rfl hz2 (fun c2 hz2 => ?_) (fun c2 hz2 => ?_)))))))))
      · refine l_skip (l_seq (l_block (l_seq (l_draw rfl fun u7 hu7 => sp rfl rfl (sl rfl G_hit rfl (sv rfl (bs hz2 fun v2 hv2 hz2 => sd rfl (v_idx rfl rfl hv2 rfl) (sv rfl (sd rfl (v_loadL rfl hv2 rfl) (sp rfl rfl (sl rfl G_hit rfl (sv rfl (sv rfl (bs hz2 fun v3 hv3 hz2 => sd rfl (v_idx rfl rfl hv3 rfl) (sd rfl (v_loadLG rfl hv3 rfl rfl) (bs hz2 fun v4 hv4 hz2 => s_call rfl rfl all2_refl (ref09_rear_ok _  _ hv4) (.inl rfl) (sv rfl (s_nil (cc rfl hz2 (fun c3 hz2 => ?_) (fun c3 hz2 => ?_))))))))))))))))))))
        · refine lr (fun u8 hu8 => sv rfl (s_nil (l_ret ?_)))
          obtain rfl := Option.some.inj hz2
          obtain rfl := ez2 _ rfl
          refine ⟨nofun, awl_ret ?_⟩
          rw [Sum.elim_inr] at h
          obtain rfl := Option.some.inj h
          exact fin_ok (.inr rfl) (resD1 (res_t rfl) rf_d) (.refl _)
        · refine l_skip (l_end (l_reg fun u9 hu9 => sv rfl (sv rfl (sv rfl (s_nil (l_nil ?_))))))
          obtain rfl := Option.some.inj hz2
          exact ⟨rfl, (), (sbr rfl rfl)⟩
      · refine l_exitN rfl ?_
        obtain rfl := Option.some.inj hz2
        obtain rfl := ez2 _ rfl
        refine ⟨nofun, awl_pop rfl (l_j ?_)⟩
        exact ⟨_, (), rfl, (sbr rfl rfl)⟩
    · rintro _ ⟨y1, g1, rfl, q1⟩
      rw [Sum.elim_inl] at h
      refine l_sub q1 (l_seq (lr (fun u10 hu10 => sv rfl (s_nil (js h fun z3 hz3 h => l_join (fun s => ∃ (y2 : Unit) (g3 : Unit), z3 = .inl y2 ∧ Sb ⟨T [(1, (.ptr (1, u1) 0))], G [((1, u1), some (.box 38 (dConvoy p1)))]⟩ s) ?_ ?_)))))
      · refine l_block (l_loop (ref09_Check_l2 p1) (fun (x2 : Int) (g4 : Unit) => ⟨T [(1, (.ptr (1, u1) 0)), (5, (di x2))], G [((1, u1), some (.box 38 (dConvoy p1)))]⟩) 0 () _ hz3 (sbr rfl rfl) ?_)
        intro x2 g4 z4 hz4 ez4
        unfold ref09_Check_l2 at hz4
        refine l_seq (lr (fun u11 hu11 => sv rfl (sp rfl rfl (sl rfl G_hit rfl (sd rfl (v_len rfl) (sv rfl (s_nil (cc rfl hz4 (fun c4 hz4 => ?_) (fun c4 hz4 => ?_)))))))))
        · refine l_skip (l_seq (l_block (lr (fun u12 hu12 => sp rfl rfl (sl rfl G_hit rfl (sv rfl (bs hz4 fun v5 hv5 hz4 => sd rfl (v_idx rfl rfl hv5 rfl) (sd rfl (v_loadLG rfl hv5 rfl rfl) (sn rfl rfl (sst rfl G_hit (dMate v5) rfl (s_nil (lr (fun u13 hu13 => sv rfl (sv rfl (sv rfl (gp (gw_t rfl) (fun _ => rfl) (gt rfl (vl rfl G_hit rfl) (gt rfl (vb rfl rfl rfl) (sa rfl rfl rfl (sv rfl (gf rfl (fun _ => rfl) (gf rfl (vb rfl rfl rfl) (gf rfl (fun w6 => (v_mv (gd_pos w6))) (g_val _ (.ptr _ _) rfl (gw_gt rfl) (fun _ => rfl) (gv rfl (gw_gt rfl) (vl rfl G_hit rfl) (gv rfl (gw_gt rfl) (vb rfl rfl rfl) (gf rfl (fun w10 => (v_and (gd_pos w10) (fun hc => gd_pos (and_i w10 hc)) rfl)) (gf rfl (fun w11 => (v_mv (gd_pos w11))) (g_val _ (.ptr _ _) rfl (gw_gt rfl) (fun _ => rfl) (gv rfl (gw_gt rfl) (vl rfl G_hit rfl) (gv rfl (gw_gt rfl) (vb rfl rfl rfl) (gf rfl (fun w15 => (v_and (gd_pos w15) (fun hc => gd_pos (and_i w15 hc)) rfl)) (sd rfl (v_or rfl rfl (fun hc => gd_pos (not_t hc))) (sv rfl (gp (gw_f rfl) (fun _ => rfl) (gf rfl (vl rfl G_hit rfl) (gf rfl (vb rfl rfl rfl) (gf rfl (fun w19 => (v_mv (gd_pos w19))) (g_val _ (.ptr _ _) rfl (gw_gt rfl) (fun _ => rfl) (gv rfl (gw_gt rfl) (vl rfl G_hit rfl) (gv rfl (gw_gt rfl) (vb rfl rfl rfl) (gf rfl (fun w23 => (v_and (gd_pos w23) (fun hc => gd_pos (and_i w23 hc)) rfl)) (sd rfl (v_or rfl rfl (fun hc => gd_pos (not_t hc))) (s_nil (cc rfl hz4 (fun c5 hz4 => ?_) (fun c5 hz4 => ?_))))))))))))))))))))))))))))))))))))))))))))))
          · refine l_seq (l_sub (s0 := ⟨T [], G []⟩) (sbr rfl rfl) ?_)
            refine l_reg fun u14 hu14 => sv rfl (s_nil (l_ret ?_))
            obtain rfl := Option.some.inj hz4
            obtain rfl := ez4 _ rfl
            refine ⟨nofun, awl_ret ?_⟩
            rw [Sum.elim_inr] at h
            obtain rfl := Option.some.inj h
            exact fin_ok (.inr rfl) (resD1 (res_t rfl) rf_d) (.refl _)
          · refine l_skip (l_end (l_sub (s0 := ⟨T [(1, (.ptr _ _)), (5, (.d _))], G [((1, u1), some (.box 38 _))]⟩) (sbr rfl rfl) ?_))
            refine l_reg fun u15 hu15 => sv rfl (sv rfl (sv rfl (s_nil (l_nil ?_))))
            obtain rfl := Option.some.inj hz4
            exact ⟨rfl, (), (sbr rfl rfl)⟩
        · refine l_exitN rfl ?_
          obtain rfl := Option.some.inj hz4
          obtain rfl := ez4 _ rfl
          refine ⟨nofun, awl_pop rfl (l_j ?_)⟩
          exact ⟨_, (), rfl, (sbr rfl rfl)⟩
      · rintro _ ⟨y2, g3, rfl, q2⟩
        rw [Sum.elim_inl] at h
        refine l_sub q2 (l_seq (lr (fun u16 hu16 => sv rfl (s_nil (js h fun z5 hz5 h => l_join (fun s => ∃ (y3 : Unit) (g5 : Unit), z5 = .inl y3 ∧ Sb ⟨T [(1, (.ptr (1, u1) 0))], G [((1, u1), some (.box 38 (dConvoy p1)))]⟩ s) ?_ ?_)))))
        · refine l_block (l_loop (ref09_Check_l3 p1) (fun (x3 : Int) (g6 : Unit) => ⟨T [(1, (.ptr (1, u1) 0)), (7, (di x3))], G [((1, u1), some (.box 38 (dConvoy p1)))]⟩) 0 () _ hz5 (sbr rfl rfl) ?_)
          intro x3 g6 z6 hz6 ez6
          unfold ref09_Check_l3 at hz6
          refine l_seq (lr (fun u17 hu17 => sv rfl (sp rfl rfl (sl rfl G_hit rfl (sd rfl (v_len rfl) (sv rfl (s_nil (cc rfl hz6 (fun c6 hz6 => ?_) (fun c6 hz6 => ?_)))))))))
          · refine l_skip (l_seq (l_block (lr (fun u18 hu18 => sp rfl rfl (sl rfl G_hit rfl (sv rfl (bs hz6 fun v6 hv6 hz6 => sd rfl (v_idx rfl rfl hv6 rfl) (sd rfl (v_loadLG rfl hv6 rfl rfl) (sn rfl rfl (sst rfl G_hit (dMate v6) rfl (s_nil (lr (fun u19 hu19 => sp rfl rfl (sl rfl G_hit rfl (sv rfl (sv rfl (gp (gw_t rfl) (fun _ => rfl) (gt rfl (vl rfl G_hit rfl) (gp (gw_t rfl) (fun _ => rfl) (gt rfl (vl rfl G_hit rfl) (gp (gw_t rfl) (fun _ => rfl) (gt rfl (vl rfl (gq rfl) rfl) (gp (gw_t rfl) (fun _ => rfl) (gt rfl (fun w31 => (v_loadG (gd_pos w31) G_hit rfl rfl)) (bs hz6 fun v7 hv7 hz6 => g_call _ (bo v7) (gw_t rfl) (fun w32 => ⟨_, [(di v6.S), (di v6.V), (di p1.Gap), (.d (.agg [(i64 v6.Guess_.R), (i64 v6.Guess_.V)]))], _, _, (by simp only [gd_pos w32]; rfl), rfl, all2_refl, ref09_Safe_ok _ _ _ _  _ (cond_t w32 hv7), (.inl rfl)⟩) ?_)))))))))))))))))))))))))
            refine g_val _ (.d (bo (!v7))) rfl (gw_t rfl) (fun w33 => (by simp only [gd_pos w33]; rfl)) ?_
            refine sa rfl rfl rfl (sv rfl (gp (gw_f rfl) (fun _ => rfl) (gf rfl (vl rfl G_hit rfl) (gf rfl (vb rfl rfl rfl) (gf rfl (fun w37 => (v_mv (gd_pos w37))) (g_val _ (.ptr _ _) rfl (gw_gt rfl) (fun _ => rfl) (gv rfl (gw_gt rfl) (vl rfl G_hit rfl) (g_val _ (.ptr _ _) rfl (gw_gt rfl) (fun _ => rfl) (gv rfl (gw_gt rfl) (vl rfl G_hit rfl) (g_val _ (.ptr _ _) rfl (gw_gt rfl) (fun _ => rfl) (gv rfl (gw_gt rfl) (vl rfl (gq rfl) rfl) (g_val _ (.ptr _ _) rfl (gw_gt rfl) (fun _ => rfl) (gv rfl (gw_gt rfl) (fun w45 => (v_loadG (gd_pos w45) G_hit rfl rfl)) (bs hz6 fun v8 hv8 hz6 => g_call _ (bo v8) (gw_gt rfl) (fun w46 => ⟨_, [(di v6.S), (di v6.V), (di p1.Gap), (.d (.agg [(i64 v6.WardGuess.R), (i64 v6.WardGuess.V)]))], _, _, (by simp only [gd_pos w46]; rfl), rfl, all2_refl, ref09_Safe_ok _ _ _ _  _ (cond_t w46 hv8), (.inl rfl)⟩) ?_))))))))))))))
            refine g_val _ (.d (bo (!v8))) rfl (gw_gt rfl) (fun w47 => (by simp only [gd_pos w47]; rfl)) ?_
            refine gf rfl (fun w48 => (v_and (gd_pos w48) (fun hc => gd_pos (and_i w48 hc)) rfl)) (sd rfl (v_or rfl rfl (fun hc => gd_pos (not_t hc))) (s_nil (cc rfl hz6 (fun c7 hz6 => ?_) (fun c7 hz6 => ?_))))
            · refine l_seq (l_sub (s0 := ⟨T [], G []⟩) (sbr rfl rfl) ?_)
              refine l_reg fun u20 hu20 => sv rfl (s_nil (l_ret ?_))
              obtain rfl := Option.some.inj hz6
              obtain rfl := ez6 _ rfl
              refine ⟨nofun, awl_ret ?_⟩
              rw [Sum.elim_inr] at h
              obtain rfl := Option.some.inj h
              exact fin_ok (.inr rfl) (resD1 (res_t rfl) rf_d) (.refl _)
            · refine l_skip (l_end (l_sub (s0 := ⟨T [(1, (.ptr _ _)), (7, (.d _))], G [((1, u1), some (.box 38 _))]⟩) (sbr rfl rfl) ?_))
              refine l_reg fun u21 hu21 => sv rfl (sv rfl (sv rfl (s_nil (l_nil ?_))))
              obtain rfl := Option.some.inj hz6
              exact ⟨rfl, (), (sbr rfl rfl)⟩
          · refine l_exitN rfl ?_
            obtain rfl := Option.some.inj hz6
            obtain rfl := ez6 _ rfl
            refine ⟨nofun, awl_pop rfl (l_j ?_)⟩
            exact ⟨_, (), rfl, (sbr rfl rfl)⟩
        · rintro _ ⟨y3, g5, rfl, q3⟩
          rw [Sum.elim_inl] at h
          refine l_sub q3 (l_seq (l_seq (l_draw rfl fun u22 hu22 => sp rfl rfl (sp rfl rfl (sl rfl G_hit rfl (sv rfl (sv rfl (gp (gw_t rfl) (fun _ => rfl) (g_val _ (.ptr _ _) rfl (gw_t rfl) (fun w50 => (by simp only [gd_pos w50]; rfl)) ?_)))))))))
          refine gt rfl (vl rfl G_hit rfl) (gp (gw_t rfl) (fun _ => rfl) (g_val _ (.ptr _ _) rfl (gw_t rfl) (fun w53 => (by simp only [gd_pos w53]; rfl)) ?_))
          refine gt rfl (vl rfl G_hit rfl) (bs h fun v9 hv9 h => g_call _ (i64 v9) (gw_t rfl) (fun w55 => ⟨_, [(di p1.Guest_.V)], _, _, (by simp only [gd_pos w55]; rfl), rfl, all2_refl, ref09_stop_ok _  _ (cond_t w55 hv9), (.inl rfl)⟩) ?_)
          refine gt rfl (fun w56 => (v_bin (gd_pos w56) (gd_pos w56) rfl)) (gp (gw_t rfl) (fun _ => rfl) (g_val _ (.ptr _ _) rfl (gw_t rfl) (fun w58 => (by simp only [gd_pos w58]; rfl)) ?_))
          refine gt rfl (vl rfl G_hit rfl) (gt rfl (fun w60 => (v_bin (gd_pos w60) (gd_pos w60) rfl)) (sa rfl rfl rfl (s_nil (cc rfl h (fun c8 h => ?_) (fun c8 h => ?_)))))
          · refine lr (fun u23 hu23 => sv rfl (s_nil (l_ret ?_)))
            obtain rfl := Option.some.inj h
            exact fin_ok (.inr rfl) (resD1 (res_t rfl) rf_d) (.refl _)
          · refine l_skip (lr (fun u24 hu24 => sv rfl (s_nil (l_ret ?_))))
            obtain rfl := Option.some.inj h
            exact fin_ok (.inr rfl) (resD1 (res_t rfl) rf_d) (.refl _)

noncomputable def ref09_New_l1 (p2 : (List Mate)) (x1 : (Int × Convoy)) : Option (Stp (Int × Convoy) Convoy) :=
  cond (decide (x1.1 < (p2.length : Int))) ((geti p2 x1.1).bind fun v1 => (geti p2 x1.1).bind fun v2 => (geti p2 x1.1).bind fun v3 => (cond (decide (x1.1 > 0)) ((geti p2 (w64 (x1.1 - 1))).bind fun v4 => (ref09_rear v4).bind fun v5 => (geti p2 (w64 (x1.1 - 1))).bind fun v6 => some (Mate.mk (w64 (x1.1 + 1)) v1.S v2.V v3.Len x1.1 (Guess.mk v5 v6.V) true 0 (Guess.mk 0 0) 0)) (some (Mate.mk (w64 (x1.1 + 1)) v1.S v2.V v3.Len x1.1 (Guess.mk 0 0) true 0 (Guess.mk 0 0) 0))).bind fun y2 => (appc x1.2.Mates [y2]).bind fun v7 => some (.go ((w64 (x1.1 + 1)), (Convoy.mk x1.2.Tick x1.2.Gap v7 x1.2.Guest_)))) (some (.out x1.2))
noncomputable def ref09_New (p1 : Int) (p2 : (List Mate)) : Option (Convoy × Int) :=
  (loop (ref09_New_l1 p2) (0, (Convoy.mk 0 p1 [] (Guest.mk 0 0 0 0 0 0 (Guess.mk 0 0) 0 0)))).bind fun y1 => (ref09_Check y1).bind fun v8 => cond (v8 != 0) (some ((Convoy.mk 0 0 [] (Guest.mk 0 0 0 0 0 0 (Guess.mk 0 0) 0 0)), v8)) (some (y1, 0))

/-- kerbstone/kerbstoneref09.New -/
def ac_ref09_New : AC := (.seq (.reg [oo 4 (.alloc 38 [z0, z0, .nilS, z0, z0, z0, z0, z0, z0, z0, z0, z0, z0]), oo 5 (.mv (ci 0))]) (.seq (.reg [oo 10 (.mv (.t 0)), oo 11 (.build [z0, z0, .nilS, z0, z0, z0, z0, z0, z0, z0, z0, z0, z0] [(1, 1, (.t 10))]), oo 6 (.alloc 38 [z0, z0, .nilS, z0, z0, z0, z0, z0, z0, z0, z0, z0, z0]), oe (.store 13 (.t 6) (.t 11))]) (.seq (.seq (.reg [oo 7 (.mv (ci 0))]) (.block 0 (.loop (.seq (.seq (.reg [oo 12 (.mv (.t 7)), oo 13 (.mv (.t 1)), oo 14 (.len (.t 13)), oo 15 (.bin .lss (.t 12) (.t 14))]) (.cond (.t 15) .skip (.exit 0))) (.seq (.block 1 (.seq (.draw [oo 18 (.mv (.t 7)), oo 19 (.bin .add (.t 18) (ci 1)), oo 20 (.mv (.t 1)), oo 21 (.mv (.t 7)), oo 22 (.idxS 12 (.t 20) (.t 21)), oo 23 (.fieldA 1 (.t 22)), oo 24 (.load 1 false (.t 23)), oo 25 (.mv (.t 1)), oo 26 (.mv (.t 7)), oo 27 (.idxS 12 (.t 25) (.t 26)), oo 28 (.fieldA 2 (.t 27)), oo 29 (.load 1 false (.t 28)), oo 30 (.mv (.t 1)), oo 31 (.mv (.t 7)), oo 32 (.idxS 12 (.t 30) (.t 31)), oo 33 (.fieldA 3 (.t 32)), oo 34 (.load 1 false (.t 33)), oo 35 (.mv (.t 7)), oo 36 (.build [z0, z0, z0, z0, z0, z0, z0, zf, z0, z0, z0, z0] [(0, 1, (.t 19)), (1, 1, (.t 24)), (2, 1, (.t 29)), (3, 1, (.t 34)), (4, 1, (.t 35)), (7, 1, (.c (.v (.bool true))))]), oo 8 (.alloc 65 [z0, z0, z0, z0, z0, z0, z0, zf, z0, z0, z0, z0]), oe (.store 12 (.t 8) (.t 36))] []) (.seq (.seq (.reg [oo 37 (.mv (.t 7)), oo 38 (.bin .gtr (.t 37) (ci 0))]) (.cond (.t 38) (.draw [oo 39 (.mv (.t 1)), oo 40 (.mv (.t 7)), oo 41 (.bin .sub (.t 40) (ci 1)), oo 42 (.idxS 12 (.t 39) (.t 41)), oo 43 (.load 12 true (.t 42)), oo 44 (.call (cf 70) [(.t 43)]), oo 45 (.mv (.t 1)), oo 46 (.mv (.t 7)), oo 47 (.bin .sub (.t 46) (ci 1)), oo 48 (.idxS 12 (.t 45) (.t 47)), oo 49 (.fieldA 2 (.t 48)), oo 50 (.load 1 false (.t 49)), oo 51 (.build [z0, z0] [(0, 1, (.t 44)), (1, 1, (.t 50))]), oo 52 (.fieldA 5 (.t 8)), oe (.store 2 (.t 52) (.t 51))] []) .skip)) (.reg [oo 53 (.fieldA 2 (.t 6)), oo 54 (.load 1 false (.t 53)), oo 55 (.load 12 true (.t 8)), oo 56 (.dslice 65 12 1 [z0, z0, z0, z0, z0, z0, z0, zf, z0, z0, z0, z0] [(0, 12, (.t 55))]), oo 57 (.append 34 65 12 (.t 54) (.t 56)), oo 58 (.fieldA 2 (.t 6)), oe (.store 1 (.t 58) (.t 57))])))) (.reg [oo 16 (.mv (.t 7)), oo 17 (.bin .add (.t 16) (ci 1)), oo 7 (.mv (.t 17))])))))) (.seq (.seq (.reg [oo 59 (.load 13 true (.t 6)), oo 60 (.call (cf 33) [(.t 59)]), oo 9 (.mv (.t 60))]) (.seq (.reg [oo 61 (.mv (.t 9)), oo 62 (.bin .neq (.t 61) (ci 0))]) (.cond (.t 62) (.seq (.reg [oo 63 (.build [z0, z0, .nilS, z0, z0, z0, z0, z0, z0, z0, z0, z0, z0] []), oo 64 (.mv (.t 9)), oe (.store 13 (.t 4) (.t 63)), oo 5 (.mv (.t 64))]) .ret) .skip))) (.seq (.reg [oo 65 (.load 13 true (.t 6)), oe (.store 13 (.t 4) (.t 65)), oo 5 (.mv (ci 0))]) .ret)))))
theorem fn_ref09_New : FnOK Try.prog 44 66 [.cell 4 13 true, .t 5] ac_ref09_New := ⟨_, _, Try.func44, rfl, Try.ntmps44, by kernel_rfl, ⟨fun r => if r == 8 then [1003] else [], by kernel_rfl⟩, by kernel_rfl⟩
set_option maxHeartbeats 4000000 in
theorem ref09_New_ok (p1 : Int) (p2 : (List Mate)) (r : (Convoy × Int)) (h : ref09_New p1 p2 = some r) : PCall Try.prog 44 [(i64 p1), (.list (List.map eMate p2))] (.tup [(.agg (eConvoy r.1)), (i64 r.2)]) := by
  refine l_call fn_ref09_New (nl rfl) ?_
  unfold ref09_New at h
  unfold ac_ref09_New
  refine l_sub (s0 := ⟨T [(0, (.d _)), (1, (.d _))], G []⟩) (sbr rfl rfl) ?_
  refine lr (fun u1 hu1 => sn rfl rfl (sv rfl (s_nil (lr (fun u2 hu2 => sv rfl (sv rfl (sn rfl rfl (sst rfl G_hit [(di 0), (di p1), (.d .nilS), (di 0), (di 0), (di 0), (di 0), (di 0), (di 0), (di 0), (di 0), (di 0), (di 0)] rfl (s_nil (l_seq (lr (fun u3 hu3 => sv rfl (s_nil (bs h fun y1 hy1 h => l_join (fun s => ∃ g1 : Nat, Sb ⟨T [(4, (.ptr (4, u1) 0)), (6, (.ptr (6, u2) 0))], G [((4, u1), some (.box 38 [(di 0), (di 0), (.d .nilS), (di 0), (di 0), (di 0), (di 0), (di 0), (di 0), (di 0), (di 0), (di 0), (di 0)])), ((6, u2), some (.box 38 [(di y1.Tick), (di y1.Gap), (oS y1.Mates (57, g1)), (di y1.Guest_.ID), (di y1.Guest_.S), (di y1.Guest_.V), (di y1.Guest_.Len), (di y1.Guest_.End), (di y1.Guest_.Ahead), (di y1.Guest_.Guess_.R), (di y1.Guest_.Guess_.V), (di y1.Guest_.From), (di y1.Guest_.Until)])), ((57, g1), oB 65 12 eMate y1.Mates)]⟩ s) ?_ ?_))))))))))))))
  · refine l_block (l_loop (ref09_New_l1 p2) (fun (x1 : (Int × Convoy)) (g2 : Nat) => ⟨T [(1, (dl eMate p2)), (4, (.ptr (4, u1) 0)), (6, (.ptr (6, u2) 0)), (7, (di x1.1))], G [((4, u1), some (.box 38 [(di 0), (di 0), (.d .nilS), (di 0), (di 0), (di 0), (di 0), (di 0), (di 0), (di 0), (di 0), (di 0), (di 0)])), ((6, u2), some (.box 38 [(di x1.2.Tick), (di x1.2.Gap), (oS x1.2.Mates (57, g2)), (di x1.2.Guest_.ID), (di x1.2.Guest_.S), (di x1.2.Guest_.V), (di x1.2.Guest_.Len), (di x1.2.Guest_.End), (di x1.2.Guest_.Ahead), (di x1.2.Guest_.Guess_.R), (di x1.2.Guest_.Guess_.V), (di x1.2.Guest_.From), (di x1.2.Guest_.Until)])), ((57, g2), oB 65 12 eMate x1.2.Mates)]⟩) (0, (Convoy.mk 0 p1 [] (Guest.mk 0 0 0 0 0 0 (Guess.mk 0 0) 0 0))) 0 _ hy1 (sb_of ⟨.of rfl, .of rfl, .of rfl, .of rfl, trivial⟩ (sbG_some (gq rfl) (.of rfl) (sbG_some G_hit (.of rfl) (sbG_nil trivial)))) ?_)
    intro x1 g2 z1 hz1 ez1
    unfold ref09_New_l1 at hz1
    refine l_seq (lr (fun u4 hu4 => sv rfl (sv rfl (sd rfl (v_len rfl) (sv rfl (s_nil (cc rfl hz1 (fun c1 hz1 => ?_) (fun c1 hz1 => ?_))))))))
    · refine l_skip (l_seq (l_block (l_seq (l_draw rfl fun u5 hu5 => sv rfl (sv rfl (sv rfl (sv rfl (bs hz1 fun v1 hv1 hz1 => sd rfl (v_idx rfl rfl hv1 rfl) (sv rfl (sd rfl (v_loadL rfl hv1 rfl) (sv rfl (sv rfl (bs hz1 fun v2 hv2 hz1 => sd rfl (v_idx rfl rfl hv2 rfl) (sv rfl (sd rfl (v_loadL rfl hv2 rfl) (sv rfl (sv rfl (bs hz1 fun v3 hv3 hz1 => sd rfl (v_idx rfl rfl hv3 rfl) (sv rfl (sd rfl (v_loadL rfl hv3 rfl) (sv rfl (sv rfl (sn rfl rfl (sst rfl G_hit [(di (w64 (x1.1 + 1))), (di v1.S), (di v2.V), (di v3.Len), (di x1.1), (di 0), (di 0), (.d (bo true)), (di 0), (di 0), (di 0), (di 0)] rfl (s_nil (l_seq (l_seq (l_sub (s0 := ⟨T [(1, (dl eMate p2)), (4, (.ptr (4, u1) 0)), (6, (.ptr (6, u2) 0)), (7, (di x1.1)), (8, (.ptr (8, u5) 0))], G [((4, u1), some (.box 38 [(di 0), (di 0), (.d .nilS), (di 0), (di 0), (di 0), (di 0), (di 0), (di 0), (di 0), (di 0), (di 0), (di 0)])), ((6, u2), some (.box 38 [(di x1.2.Tick), (di x1.2.Gap), (oS x1.2.Mates (57, g2)), (di x1.2.Guest_.ID), (di x1.2.Guest_.S), (di x1.2.Guest_.V), (di x1.2.Guest_.Len), (di x1.2.Guest_.End), (di x1.2.Guest_.Ahead), (di x1.2.Guest_.Guess_.R), (di x1.2.Guest_.Guess_.V), (di x1.2.Guest_.From), (di x1.2.Guest_.Until)])), ((57, g2), oB 65 12 eMate x1.2.Mates), ((8, u5), some (.box 65 [(di (w64 (x1.1 + 1))), (di v1.S), (di v2.V), (di v3.Len), (di x1.1), (di 0), (di 0), (.d (bo true)), (di 0), (di 0), (di 0), (di 0)]))]⟩) (sb_of ⟨.of rfl, .of rfl, .of rfl, .of rfl, .of rfl, trivial⟩ (sbG_some (gq rfl) (.of rfl) (sbG_some (gq rfl) (.of rfl) (sbG_oB (gq rfl) (sbG_some G_hit (.of rfl) trivial))))) ?_))))))))))))))))))))))))))))
      refine l_reg fun u6 hu6 => sv rfl (sv rfl (s_nil (bs hz1 fun y2 hy2 hz1 => l_join (fun s => ∃ g3 : Unit, Sb ⟨T [(1, (dl eMate p2)), (4, (.ptr (4, u1) 0)), (6, (.ptr (6, u2) 0)), (7, (di x1.1)), (8, (.ptr (8, u5) 0))], G [((4, u1), some (.box 38 [(di 0), (di 0), (.d .nilS), (di 0), (di 0), (di 0), (di 0), (di 0), (di 0), (di 0), (di 0), (di 0), (di 0)])), ((6, u2), some (.box 38 [(di x1.2.Tick), (di x1.2.Gap), (oS x1.2.Mates (57, g2)), (di x1.2.Guest_.ID), (di x1.2.Guest_.S), (di x1.2.Guest_.V), (di x1.2.Guest_.Len), (di x1.2.Guest_.End), (di x1.2.Guest_.Ahead), (di x1.2.Guest_.Guess_.R), (di x1.2.Guest_.Guess_.V), (di x1.2.Guest_.From), (di x1.2.Guest_.Until)])), ((8, u5), some (.box 65 (dMate y2))), ((57, g2), oB 65 12 eMate x1.2.Mates)]⟩ s) ?_ ?_)))
      · refine cc rfl hy2 (fun c2 hy2 => ?_) (fun c2 hy2 => ?_)
        · refine l_draw rfl fun u7 hu7 => sv rfl (sv rfl (sv rfl (bs hy2 fun v4 hv4 hy2 => sd rfl (v_idx rfl rfl hv4 rfl) (sd rfl (v_loadLG rfl hv4 rfl rfl) (bs hy2 fun v5 hv5 hy2 => s_call rfl rfl all2_refl (ref09_rear_ok _  _ hv5) (.inl rfl) (sv rfl (sv rfl (sv rfl (bs hy2 fun v6 hv6 hy2 => sd rfl (v_idx rfl rfl hv6 rfl) (sv rfl (sd rfl (v_loadL rfl hv6 rfl) (sv rfl (sp rfl rfl (sst rfl (gq rfl) [(di (w64 (x1.1 + 1))), (di v1.S), (di v2.V), (di v3.Len), (di x1.1), (di v5), (di v6.V), (.d (bo true)), (di 0), (di 0), (di 0), (di 0)] rfl (s_nil ?_)))))))))))))))
          obtain rfl := Option.some.inj hy2
          exact l_j ⟨(), (sb_of ⟨.of rfl, .of rfl, .of rfl, .of rfl, .of rfl, trivial⟩ (sbG_some (gq rfl) (.of rfl) (sbG_some (gq rfl) (.of rfl) (sbG_some G_hit (.of rfl) (sbG_oB (gq rfl) trivial)))))⟩
        · refine l_skip ?_
          obtain rfl := Option.some.inj hy2
          exact l_j ⟨(), (sb_of ⟨.of rfl, .of rfl, .of rfl, .of rfl, .of rfl, trivial⟩ (sbG_some G_hit (.of rfl) (sbG_some (gq rfl) (.of rfl) (sbG_some (gq rfl) (.of rfl) (sbG_oB (gq rfl) trivial)))))⟩
      · rintro _ ⟨g3, q1⟩
        refine l_sub q1 (l_reg fun u8 hu8 => sp rfl rfl (s_val (oS x1.2.Mates (57, g2)) rfl (v_load rfl (gq rfl) rfl) (sd rfl (v_loadG rfl (gq rfl) rfl rfl) (s_val (dl eMate [y2]) rfl (v_dsliceN eMate ([y2] : List Mate) (fun _ => rfl) rfl rfl ⟨rfl, rfl, rfl, trivial⟩) (bs hz1 fun v7 hv7 hz1 => s_appendO eMate (57, g2) x1.2.Mates y2 [] _ (elems_list (fun _ => rfl)) rfl (gq rfl) hv7 (sp rfl rfl (sst rfl (gq rfl) [(di x1.2.Tick), (di x1.2.Gap), (.sl (57, u8)), (di x1.2.Guest_.ID), (di x1.2.Guest_.S), (di x1.2.Guest_.V), (di x1.2.Guest_.Len), (di x1.2.Guest_.End), (di x1.2.Guest_.Ahead), (di x1.2.Guest_.Guess_.R), (di x1.2.Guest_.Guess_.V), (di x1.2.Guest_.From), (di x1.2.Guest_.Until)] rfl (s_nil (l_end (l_reg fun u9 hu9 => sv rfl (sv rfl (sv rfl (s_nil (l_nil ?_))))))))))))))
        obtain rfl := Option.some.inj hz1
        exact ⟨rfl, u8, (sb_of ⟨.of rfl, .of rfl, .of rfl, .of rfl, trivial⟩ (sbG_some (gq rfl) (.of rfl) (sbG_some G_hit (.box (.cons (.of rfl) (.cons (.of rfl) (.cons (.of (oS_ne (appc_ne hv7)).symm) (.cons (.of rfl) (.cons (.of rfl) (.cons (.of rfl) (.cons (.of rfl) (.cons (.of rfl) (.cons (.of rfl) (.cons (.of rfl) (.cons (.of rfl) (.cons (.of rfl) (.cons (.of rfl) .nil)))))))))))))) (sbG_own (gq rfl) trivial))))⟩
    · refine l_exitN rfl ?_
      obtain rfl := Option.some.inj hz1
      obtain rfl := ez1 _ rfl
      refine ⟨nofun, awl_pop rfl (l_j ?_)⟩
      exact ⟨g2, (sb_of ⟨.of rfl, .of rfl, trivial⟩ (sbG_some G_hit (.of rfl) (sbG_some (gq rfl) (.of rfl) (sbG_oB (gq rfl) trivial))))⟩
  · rintro _ ⟨g1, q2⟩
    refine l_sub q2 (l_seq (lr (fun u10 hu10 => s_val (mkAgg [(di y1.Tick), (di y1.Gap), (oS y1.Mates (57, g1)), (di y1.Guest_.ID), (di y1.Guest_.S), (di y1.Guest_.V), (di y1.Guest_.Len), (di y1.Guest_.End), (di y1.Guest_.Ahead), (di y1.Guest_.Guess_.R), (di y1.Guest_.Guess_.V), (di y1.Guest_.From), (di y1.Guest_.Until)]) rfl (v_loadG rfl (gq rfl) rfl rfl) (bs h fun v8 hv8 h => s_call rfl (rfL_cons (rf_mkAgg (rfL_cons rf_d (rfL_cons rf_d (rfL_cons (rf_oS (gq rfl)) (rfL_cons rf_d (rfL_cons rf_d (rfL_cons rf_d (rfL_cons rf_d (rfL_cons rf_d (rfL_cons rf_d (rfL_cons rf_d (rfL_cons rf_d (rfL_cons rf_d (rfL_cons rf_d rfL_nil)))))))))))))) rfL_nil) (.cons (.agg (.cons ⟨(.refl _), rfl⟩ (.cons ⟨(.refl _), rfl⟩ (.cons ⟨oD_le, rfl⟩ (.cons ⟨(.refl _), rfl⟩ (.cons ⟨(.refl _), rfl⟩ (.cons ⟨(.refl _), rfl⟩ (.cons ⟨(.refl _), rfl⟩ (.cons ⟨(.refl _), rfl⟩ (.cons ⟨(.refl _), rfl⟩ (.cons ⟨(.refl _), rfl⟩ (.cons ⟨(.refl _), rfl⟩ (.cons ⟨(.refl _), rfl⟩ (.cons ⟨(.refl _), rfl⟩ .nil)))))))))))))) .nil) (ref09_Check_ok _  _ hv8) (.inr rfl) (sv rfl (s_nil (lr (fun u11 hu11 => sv rfl (sv rfl (s_nil (cc rfl h (fun c3 h => ?_) (fun c3 h => ?_))))))))))))
    · refine lr (fun u12 hu12 => sv rfl (sv rfl (sst rfl G_hit [(di 0), (di 0), (.d .nilS), (di 0), (di 0), (di 0), (di 0), (di 0), (di 0), (di 0), (di 0), (di 0), (di 0)] rfl (sv rfl (s_nil (l_ret ?_))))))
      obtain rfl := Option.some.inj h
      exact fin_ok (.inr rfl) (resD2 (res_cellG rfl G_hit (nl rfl) rfl) (res_t rfl) rf_d rf_d) (.tup (.cons (.agg (.cons ⟨(.refl _), rfl⟩ (.cons ⟨(.refl _), rfl⟩ (.cons ⟨DLe.nil, rfl⟩ (.cons ⟨(.refl _), rfl⟩ (.cons ⟨(.refl _), rfl⟩ (.cons ⟨(.refl _), rfl⟩ (.cons ⟨(.refl _), rfl⟩ (.cons ⟨(.refl _), rfl⟩ (.cons ⟨(.refl _), rfl⟩ (.cons ⟨(.refl _), rfl⟩ (.cons ⟨(.refl _), rfl⟩ (.cons ⟨(.refl _), rfl⟩ (.cons ⟨(.refl _), rfl⟩ .nil)))))))))))))) (.cons (.refl _) .nil)))
    · refine l_skip (lr (fun u13 hu13 => s_val (mkAgg [(di y1.Tick), (di y1.Gap), (oS y1.Mates (57, g1)), (di y1.Guest_.ID), (di y1.Guest_.S), (di y1.Guest_.V), (di y1.Guest_.Len), (di y1.Guest_.End), (di y1.Guest_.Ahead), (di y1.Guest_.Guess_.R), (di y1.Guest_.Guess_.V), (di y1.Guest_.From), (di y1.Guest_.Until)]) rfl (v_loadG rfl (gq rfl) rfl rfl) (s_store _ _ _ _ _ (cellsV_mkAgg _) rfl rfl G_hit (nl rfl) [(di y1.Tick), (di y1.Gap), (oS y1.Mates (57, g1)), (di y1.Guest_.ID), (di y1.Guest_.S), (di y1.Guest_.V), (di y1.Guest_.Len), (di y1.Guest_.End), (di y1.Guest_.Ahead), (di y1.Guest_.Guess_.R), (di y1.Guest_.Guess_.V), (di y1.Guest_.From), (di y1.Guest_.Until)] rfl (sv rfl (s_nil (l_ret ?_))))))
      obtain rfl := Option.some.inj h
      exact fin_ok (.inr rfl) (resD2 (res_cellG rfl G_hit (nl rfl) rfl) (res_t rfl) (rf_mkAgg (rfL_cons rf_d (rfL_cons rf_d (rfL_cons (rf_oS (gq rfl)) (rfL_cons rf_d (rfL_cons rf_d (rfL_cons rf_d (rfL_cons rf_d (rfL_cons rf_d (rfL_cons rf_d (rfL_cons rf_d (rfL_cons rf_d (rfL_cons rf_d (rfL_cons rf_d rfL_nil)))))))))))))) rf_d) (.tup (.cons (.agg (.cons ⟨(.refl _), rfl⟩ (.cons ⟨(.refl _), rfl⟩ (.cons ⟨oD_le, rfl⟩ (.cons ⟨(.refl _), rfl⟩ (.cons ⟨(.refl _), rfl⟩ (.cons ⟨(.refl _), rfl⟩ (.cons ⟨(.refl _), rfl⟩ (.cons ⟨(.refl _), rfl⟩ (.cons ⟨(.refl _), rfl⟩ (.cons ⟨(.refl _), rfl⟩ (.cons ⟨(.refl _), rfl⟩ (.cons ⟨(.refl _), rfl⟩ (.cons ⟨(.refl _), rfl⟩ .nil)))))))))))))) (.cons (.refl _) .nil)))

noncomputable def ref09_Same_l1 (p1 : Convoy) (p2 : Convoy) (x1 : Int) : Option (Stp Int (Sum Unit Bool)) :=
  cond (decide (x1 < (p1.Mates.length : Int))) ((geti p1.Mates x1).bind fun v1 => (geti p2.Mates x1).bind fun v2 => cond (!(v1.ID == v2.ID && (v1.S == v2.S && (v1.V == v2.V && (v1.Len == v2.Len && (v1.Ahead == v2.Ahead && (v1.Guess_.R == v2.Guess_.R && (v1.Guess_.V == v2.Guess_.V && (v1.Trust == v2.Trust && (v1.Ward == v2.Ward && (v1.WardGuess.R == v2.WardGuess.R && (v1.WardGuess.V == v2.WardGuess.V && (v1.Until == v2.Until && true))))))))))))) (some (.out (.inr false))) (some (.go (w64 (x1 + 1))))) (some (.out (.inl ())))
noncomputable def ref09_Same (p1 : Convoy) (p2 : Convoy) : Option Bool :=
  cond ((((p1.Tick != p2.Tick) || (p1.Gap != p2.Gap)) || (!(p1.Guest_.ID == p2.Guest_.ID && (p1.Guest_.S == p2.Guest_.S && (p1.Guest_.V == p2.Guest_.V && (p1.Guest_.Len == p2.Guest_.Len && (p1.Guest_.End == p2.Guest_.End && (p1.Guest_.Ahead == p2.Guest_.Ahead && (p1.Guest_.Guess_.R == p2.Guest_.Guess_.R && (p1.Guest_.Guess_.V == p2.Guest_.Guess_.V && (p1.Guest_.From == p2.Guest_.From && (p1.Guest_.Until == p2.Guest_.Until && true)))))))))))) || ((p1.Mates.length : Int) != (p2.Mates.length : Int))) (some false) (thenS (loop (ref09_Same_l1 p1 p2) 0) (fun _ => some true) (fun r => some r))

/-- kerbstone/kerbstoneref09.Same -/
def ac_ref09_Same : AC := (.seq (.reg [oo 2 (.box 38 true (.t 0)), oo 3 (.box 38 true (.t 1)), oo 4 (.mv (.c zf))]) (.seq (.seq (.reg [oo 6 (.fieldA 0 (.t 2)), oo 7 (.load 1 false (.t 6)), oo 8 (.fieldA 0 (.t 3)), oo 9 (.load 1 false (.t 8)), oo 10 (.bin .neq (.t 7) (.t 9)), oo 11 (.mv (.t 10)), oh 12 (.fieldA 1 (.t 2)) 11, oh 13 (.load 1 false (.t 12)) 11, oh 14 (.fieldA 1 (.t 3)) 11, oh 15 (.load 1 false (.t 14)) 11, oh 16 (.bin .neq (.t 13) (.t 15)) 11, oo 17 (.pick (.t 11) (.c (.v (.bool true))) (.t 16)), oo 18 (.mv (.t 17)), oh 19 (.fieldA 3 (.t 2)) 18, oh 20 (.load 10 true (.t 19)) 18, oh 21 (.fieldA 3 (.t 3)) 18, oh 22 (.load 10 true (.t 21)) 18, oh 23 (.eqA true [false, false, false, false, false, false, false, false, false, false] (.t 20) (.t 22)) 18, oo 24 (.pick (.t 18) (.c (.v (.bool true))) (.t 23)), oo 25 (.mv (.t 24)), oh 26 (.fieldA 2 (.t 2)) 25, oh 27 (.load 1 false (.t 26)) 25, oh 28 (.len (.t 27)) 25, oh 29 (.fieldA 2 (.t 3)) 25, oh 30 (.load 1 false (.t 29)) 25, oh 31 (.len (.t 30)) 25, oh 32 (.bin .neq (.t 28) (.t 31)) 25, oo 33 (.pick (.t 25) (.c (.v (.bool true))) (.t 32))]) (.cond (.t 33) (.seq (.reg [oo 4 (.mv (.c zf))]) .ret) .skip)) (.seq (.seq (.reg [oo 5 (.mv (ci 0))]) (.block 0 (.loop (.seq (.seq (.reg [oo 34 (.mv (.t 5)), oo 35 (.fieldA 2 (.t 2)), oo 36 (.load 1 false (.t 35)), oo 37 (.len (.t 36)), oo 38 (.bin .lss (.t 34) (.t 37))]) (.cond (.t 38) .skip (.exit 0))) (.seq (.block 1 (.seq (.draw [oo 41 (.fieldA 2 (.t 2)), oo 42 (.load 1 false (.t 41)), oo 43 (.mv (.t 5)), oo 44 (.idxS 12 (.t 42) (.t 43)), oo 45 (.load 12 true (.t 44)), oo 46 (.fieldA 2 (.t 3)), oo 47 (.load 1 false (.t 46)), oo 48 (.mv (.t 5)), oo 49 (.idxS 12 (.t 47) (.t 48)), oo 50 (.load 12 true (.t 49)), oo 51 (.eqA true [false, false, false, false, false, false, false, true, false, false, false, false] (.t 45) (.t 50))] []) (.cond (.t 51) (.seq (.reg [oo 4 (.mv (.c zf))]) .ret) .skip))) (.reg [oo 39 (.mv (.t 5)), oo 40 (.bin .add (.t 39) (ci 1)), oo 5 (.mv (.t 40))])))))) (.seq (.reg [oo 4 (.mv (.c (.v (.bool true))))]) .ret))))
theorem fn_ref09_Same : FnOK Try.prog 42 52 [.t 4] ac_ref09_Same := ⟨_, _, Try.func42, rfl, Try.ntmps42, by kernel_rfl, ⟨fun _ => [], by kernel_rfl⟩, by kernel_rfl⟩
set_option maxHeartbeats 4000000 in
theorem ref09_Same_ok (p1 : Convoy) (p2 : Convoy) (r : Bool) (h : ref09_Same p1 p2 = some r) : PCall Try.prog 42 [(.agg (eConvoy p1)), (.agg (eConvoy p2))] (bo r) := by
  refine l_call fn_ref09_Same (nl rfl) ?_
  unfold ref09_Same at h
  unfold ac_ref09_Same
  refine l_sub (s0 := ⟨T [(0, (.d _)), (1, (.d _))], G []⟩) (sbr rfl rfl) ?_
  refine lr (fun u1 hu1 => sn rfl rfl (sn rfl rfl (sv rfl (s_nil (l_seq (lr (fun u2 hu2 => sp rfl rfl (sl rfl (gq rfl) rfl (sp rfl rfl (sl rfl G_hit rfl (sv rfl (sv rfl (gp (gw_f rfl) (fun _ => rfl) (gf rfl (vl rfl (gq rfl) rfl) (gp (gw_f rfl) (fun _ => rfl) (gf rfl (vl rfl G_hit rfl) (gf rfl (fun w5 => (v_bin (gd_pos w5) (gd_pos w5) rfl)) (sd rfl (v_or rfl rfl (fun hc => gd_pos (not_t hc))) (sv rfl (gp (gw_f rfl) (fun _ => rfl) (gf rfl (fun w7 => (v_loadG (gd_pos w7) (gq rfl) rfl rfl)) (gp (gw_f rfl) (fun _ => rfl) (gf rfl (fun w9 => (v_loadG (gd_pos w9) G_hit rfl rfl)) (g_val _ (.d (bo (!(p1.Guest_.ID == p2.Guest_.ID && (p1.Guest_.S == p2.Guest_.S && (p1.Guest_.V == p2.Guest_.V && (p1.Guest_.Len == p2.Guest_.Len && (p1.Guest_.End == p2.Guest_.End && (p1.Guest_.Ahead == p2.Guest_.Ahead && (p1.Guest_.Guess_.R == p2.Guest_.Guess_.R && (p1.Guest_.Guess_.V == p2.Guest_.Guess_.V && (p1.Guest_.From == p2.Guest_.From && (p1.Guest_.Until == p2.Guest_.Until && true))))))))))))) rfl (gw_f rfl) (fun w10 => (by simp only [gd_pos w10]; rfl)) ?_))))))))))))))))))))))))
  refine sd rfl (v_or rfl rfl (fun hc => gd_pos (not_t hc))) (sv rfl (gp (gw_f rfl) (fun _ => rfl) (gf rfl (vl rfl (gq rfl) rfl) (gf rfl (fun w13 => (v_len (gd_pos w13))) (gp (gw_f rfl) (fun _ => rfl) (gf rfl (vl rfl G_hit rfl) (gf rfl (fun w16 => (v_len (gd_pos w16))) (gf rfl (fun w17 => (v_bin (gd_pos w17) (gd_pos w17) rfl)) (sd rfl (v_or rfl rfl (fun hc => gd_pos (not_t hc))) (s_nil (cc rfl h (fun c1 h => ?_) (fun c1 h => ?_))))))))))))
  · refine l_seq (l_sub (s0 := ⟨T [], G []⟩) (sbr rfl rfl) ?_)
    refine l_reg fun u3 hu3 => sv rfl (s_nil (l_ret ?_))
    obtain rfl := Option.some.inj h
    exact fin_ok (.inr rfl) (resD1 (res_t rfl) rf_d) (.refl _)
  · refine l_skip (l_seq (l_seq (l_sub (s0 := ⟨T [(2, (.ptr _ _)), (3, (.ptr _ _))], G [((2, u1), some (.box 38 _)), ((3, u1), some (.box 38 _))]⟩) (sbr rfl rfl) ?_)))
    refine l_reg fun u4 hu4 => sv rfl (s_nil (js h fun z1 hz1 h => l_join (fun s => ∃ (y1 : Unit) (g1 : Unit), z1 = .inl y1 ∧ Sb ⟨T [], G []⟩ s) ?_ ?_))
    · refine l_block (l_loop (ref09_Same_l1 p1 p2) (fun (x1 : Int) (g2 : Unit) => ⟨T [(2, (.ptr (2, u1) 0)), (3, (.ptr (3, u1) 0)), (5, (di x1))], G [((2, u1), some (.box 38 (dConvoy p1))), ((3, u1), some (.box 38 (dConvoy p2)))]⟩) 0 () _ hz1 (sbr rfl rfl) ?_)
      intro x1 g2 z2 hz2 ez2
      unfold ref09_Same_l1 at hz2
      refine l_seq (lr (fun u5 hu5 => sv rfl (sp rfl rfl (sl rfl G_hit rfl (sd rfl (v_len rfl) (sv rfl (s_nil (cc rfl hz2 (fun c2 hz2 => ?_) (fun c2 hz2 => ?_)))))))))
      · refine l_skip (l_seq (l_block (l_seq (l_draw rfl fun u6 hu6 => sp rfl rfl (sl rfl G_hit rfl (sv rfl (bs hz2 fun v1 hv1 hz2 => sd rfl (v_idx rfl rfl hv1 rfl) (sd rfl (v_loadLG rfl hv1 rfl rfl) (sp rfl rfl (sl rfl (gq rfl) rfl (sv rfl (bs hz2 fun v2 hv2 hz2 => sd rfl (v_idx rfl rfl hv2 rfl) (sd rfl (v_loadLG rfl hv2 rfl rfl) (s_val (.d (bo (!(v1.ID == v2.ID && (v1.S == v2.S && (v1.V == v2.V && (v1.Len == v2.Len && (v1.Ahead == v2.Ahead && (v1.Guess_.R == v2.Guess_.R && (v1.Guess_.V == v2.Guess_.V && (v1.Trust == v2.Trust && (v1.Ward == v2.Ward && (v1.WardGuess.R == v2.WardGuess.R && (v1.WardGuess.V == v2.WardGuess.V && (v1.Until == v2.Until && true))))))))))))))) rfl rfl (s_nil (cc rfl hz2 (fun c3 hz2 => ?_) (fun c3 hz2 => ?_)))))))))))))))))
        · refine lr (fun u7 hu7 => sv rfl (s_nil (l_ret ?_)))
          obtain rfl := Option.some.inj hz2
          obtain rfl := ez2 _ rfl
          refine ⟨nofun, awl_ret ?_⟩
          rw [Sum.elim_inr] at h
          obtain rfl := Option.some.inj h
          exact fin_ok (.inr rfl) (resD1 (res_t rfl) rf_d) (.refl _)
        · refine l_skip (l_end (l_reg fun u8 hu8 => sv rfl (sv rfl (sv rfl (s_nil (l_nil ?_))))))
          obtain rfl := Option.some.inj hz2
          exact ⟨rfl, (), (sbr rfl rfl)⟩
      · refine l_exitN rfl ?_
        obtain rfl := Option.some.inj hz2
        obtain rfl := ez2 _ rfl
        refine ⟨nofun, awl_pop rfl (l_j ?_)⟩
        exact ⟨_, (), rfl, (sbr rfl rfl)⟩
    · rintro _ ⟨y1, g1, rfl, q1⟩
      rw [Sum.elim_inl] at h
      refine l_sub q1 (lr (fun u9 hu9 => sv rfl (s_nil (l_ret ?_))))
      obtain rfl := Option.some.inj h
      exact fin_ok (.inr rfl) (resD1 (res_t rfl) rf_d) (.refl _)

noncomputable def ref09_Copy (p1 : Convoy) : Option Convoy :=
  (appc ([] : List Mate) p1.Mates).bind fun v1 => some (Convoy.mk p1.Tick p1.Gap v1 p1.Guest_)

/-- kerbstone/kerbstoneref09.Copy -/
def ac_ref09_Copy : AC := (.seq (.reg [oo 1 (.box 38 true (.t 0)), oo 2 (.alloc 38 [z0, z0, .nilS, z0, z0, z0, z0, z0, z0, z0, z0, z0, z0])]) (.seq (.reg [oo 3 (.fieldA 2 (.t 1)), oo 4 (.load 1 false (.t 3)), oo 5 (.append 34 65 12 (.c .nilS) (.t 4)), oo 6 (.fieldA 2 (.t 1)), oe (.store 1 (.t 6) (.t 5))]) (.seq (.reg [oo 7 (.load 13 true (.t 1)), oe (.store 13 (.t 2) (.t 7))]) .ret)))
theorem fn_ref09_Copy : FnOK Try.prog 31 8 [.cell 2 13 true] ac_ref09_Copy := ⟨_, _, Try.func31, rfl, Try.ntmps31, by kernel_rfl, ⟨fun _ => [], by kernel_rfl⟩, by kernel_rfl⟩
theorem ref09_Copy_ok (p1 : Convoy) (r : Convoy) (h : ref09_Copy p1 = some r) : PCall Try.prog 31 [(.agg (eConvoy p1))] (.agg (eConvoy r)) := by
  refine l_call fn_ref09_Copy (nl rfl) ?_
  unfold ref09_Copy at h
  unfold ac_ref09_Copy
  refine l_sub (s0 := ⟨T [(0, (.d _))], G []⟩) (sbr rfl rfl) ?_
  refine lr (fun u1 hu1 => sn rfl rfl (sn rfl rfl (s_nil (lr (fun u2 hu2 => sp rfl rfl (sl rfl (gq rfl) rfl (bs h fun v1 hv1 h => s_appendG eMate (5, u2) ([] : List Mate) p1.Mates _ (elems_list (fun _ => rfl)) rfl (fresh_none hu2) hv1 (fresh_none hu2) (sp rfl rfl (s_store _ _ _ _ _ (cellsV_oS _ _) rfl rfl (gq rfl) (nl rfl) [(di p1.Tick), (di p1.Gap), (oS v1 (5, u2)), (di p1.Guest_.ID), (di p1.Guest_.S), (di p1.Guest_.V), (di p1.Guest_.Len), (di p1.Guest_.End), (di p1.Guest_.Ahead), (di p1.Guest_.Guess_.R), (di p1.Guest_.Guess_.V), (di p1.Guest_.From), (di p1.Guest_.Until)] rfl (s_nil (lr (fun u3 hu3 => s_val (mkAgg [(di p1.Tick), (di p1.Gap), (oS v1 (5, u2)), (di p1.Guest_.ID), (di p1.Guest_.S), (di p1.Guest_.V), (di p1.Guest_.Len), (di p1.Guest_.End), (di p1.Guest_.Ahead), (di p1.Guest_.Guess_.R), (di p1.Guest_.Guess_.V), (di p1.Guest_.From), (di p1.Guest_.Until)]) rfl (v_loadG rfl G_hit rfl rfl) (s_store _ _ _ _ _ (cellsV_mkAgg _) rfl rfl (gq rfl) (nl rfl) [(di p1.Tick), (di p1.Gap), (oS v1 (5, u2)), (di p1.Guest_.ID), (di p1.Guest_.S), (di p1.Guest_.V), (di p1.Guest_.Len), (di p1.Guest_.End), (di p1.Guest_.Ahead), (di p1.Guest_.Guess_.R), (di p1.Guest_.Guess_.V), (di p1.Guest_.From), (di p1.Guest_.Until)] rfl (s_nil (l_ret ?_)))))))))))))))
  obtain rfl := Option.some.inj h
  exact fin_ok (.inr rfl) (resD1 (res_cellG rfl G_hit (nl rfl) rfl) (rf_mkAgg (rfL_cons rf_d (rfL_cons rf_d (rfL_cons (rf_oS (gq rfl)) (rfL_cons rf_d (rfL_cons rf_d (rfL_cons rf_d (rfL_cons rf_d (rfL_cons rf_d (rfL_cons rf_d (rfL_cons rf_d (rfL_cons rf_d (rfL_cons rf_d (rfL_cons rf_d rfL_nil))))))))))))))) (.agg (.cons ⟨(.refl _), rfl⟩ (.cons ⟨(.refl _), rfl⟩ (.cons ⟨oD_le, rfl⟩ (.cons ⟨(.refl _), rfl⟩ (.cons ⟨(.refl _), rfl⟩ (.cons ⟨(.refl _), rfl⟩ (.cons ⟨(.refl _), rfl⟩ (.cons ⟨(.refl _), rfl⟩ (.cons ⟨(.refl _), rfl⟩ (.cons ⟨(.refl _), rfl⟩ (.cons ⟨(.refl _), rfl⟩ (.cons ⟨(.refl _), rfl⟩ (.cons ⟨(.refl _), rfl⟩ .nil))))))))))))))

noncomputable def convoy_Ramp_1_b (p1 : Mate) (p2 : Guest) : Option Bool :=
  some ((p1.ID == p2.ID) || (p1.Ward == p2.ID))

/-- kerbstone/convoy.Ramp$1 -/
def ac_convoy_Ramp_1_b : AC := (.seq (.reg [oo 2 (.box 65 true (.t 0)), oo 3 (.mv (.c zf))]) (.seq (.reg [oo 4 (.fieldA 0 (.t 2)), oo 5 (.load 1 false (.t 4)), oo 6 (.fieldA 0 (.t 1)), oo 7 (.load 1 false (.t 6)), oo 8 (.bin .eql (.t 5) (.t 7)), oo 9 (.mv (.t 8)), oh 10 (.fieldA 8 (.t 2)) 9, oh 11 (.load 1 false (.t 10)) 9, oh 12 (.fieldA 0 (.t 1)) 9, oh 13 (.load 1 false (.t 12)) 9, oh 14 (.bin .eql (.t 11) (.t 13)) 9, oo 15 (.pick (.t 9) (.c (.v (.bool true))) (.t 14)), oo 3 (.mv (.t 15))]) .ret))
theorem fn_convoy_Ramp_1_b : FnOK Try.prog 81 16 [.t 3] ac_convoy_Ramp_1_b := ⟨_, _, Try.func81, rfl, Try.ntmps81, by kernel_rfl, ⟨fun _ => [], by kernel_rfl⟩, by kernel_rfl⟩
theorem convoy_Ramp_1_b_ok (p1 : Mate) (p2 : Guest) (r : Bool) (h : convoy_Ramp_1_b p1 p2 = some r) : PCall Try.prog 81 [(.agg (eMate p1)), (.bp (eGuest p2) 0)] (bo r) := by
  refine l_call fn_convoy_Ramp_1_b (nl rfl) ?_
  unfold convoy_Ramp_1_b at h
  unfold ac_convoy_Ramp_1_b
  refine l_sub (s0 := ⟨T [(0, (.d _)), (1, (.d _))], G []⟩) (sbr rfl rfl) ?_
  refine lr (fun u1 hu1 => sn rfl rfl (sv rfl (s_nil (lr (fun u2 hu2 => sp rfl rfl (sl rfl G_hit rfl (sv rfl (sv rfl (sv rfl (sv rfl (gp (gw_f rfl) (fun _ => rfl) (gf rfl (vl rfl G_hit rfl) (gf rfl (fun _ => rfl) (gf rfl (fun w4 => (by simp only [gd_pos w4]; rfl)) ?_))))))))))))))
  refine gf rfl (fun w5 => (v_bin (gd_pos w5) (gd_pos w5) rfl)) (sd rfl (v_or rfl rfl (fun hc => gd_pos (not_t hc))) (sv rfl (s_nil (l_ret ?_))))
  obtain rfl := Option.some.inj h
  exact fin_ok (.inr rfl) (resD1 (res_t rfl) rf_d) (.refl _)

noncomputable def slices_IndexFunc_Mate_Mate_convoy_Ramp_1b_l1 (p1 : (List Mate)) (p2 : Guest) (x1 : Int) : Option (Stp Int (Sum Unit Int)) :=
  cond (decide (x1 < (p1.length : Int))) ((geti p1 x1).bind fun v1 => (convoy_Ramp_1_b v1 p2).bind fun v2 => cond v2 (some (.out (.inr x1))) (some (.go (w64 (x1 + 1))))) (some (.out (.inl ())))
noncomputable def slices_IndexFunc_Mate_Mate_convoy_Ramp_1b (p1 : (List Mate)) (p2 : Guest) : Option Int :=
  thenS (loop (slices_IndexFunc_Mate_Mate_convoy_Ramp_1b_l1 p1 p2) 0) (fun _ => some (-1)) (fun r => some r)

/-- slices.IndexFunc[[]kerbstone/api.Mate,kerbstone/api.Mate] -/
def ac_slices_IndexFunc_Mate_Mate_convoy_Ramp_1b : AC := (.seq (.reg [oo 4 (.mv (ci 0))]) (.seq (.seq (.reg [oo 6 (.mv (.t 0)), oo 7 (.len (.t 6)), oo 8 (.mv (ci 0))]) (.block 0 (.loop (.seq (.reg [oo 9 (.bin .lss (.t 8) (.t 7))]) (.seq (.cond (.t 9) .skip (.exit 0)) (.seq (.block 1 (.seq (.reg [oo 10 (.mv (.t 8)), oo 5 (.mv (.t 10))]) (.seq (.reg [oo 11 (.mv (.t 1)), oo 12 (.mv (.t 0)), oo 13 (.mv (.t 5)), oo 14 (.idxS 12 (.t 12) (.t 13)), oo 15 (.load 12 true (.t 14)), oo 16 (.call (.t 11) [(.t 15)])]) (.cond (.t 16) (.seq (.reg [oo 17 (.mv (.t 5)), oo 4 (.mv (.t 17))]) .ret) .skip)))) (.reg [oo 18 (.bin .add (.t 8) (ci 1)), oo 8 (.mv (.t 18))]))))))) (.seq (.reg [oo 4 (.mv (ci (-1)))]) .ret)))
theorem fn_slices_IndexFunc_Mate_Mate_convoy_Ramp_1b : FnOK Try.prog 98 19 [.t 4] ac_slices_IndexFunc_Mate_Mate_convoy_Ramp_1b := ⟨_, _, Try.func98, rfl, Try.ntmps98, by kernel_rfl, ⟨fun _ => [], by kernel_rfl⟩, by kernel_rfl⟩
set_option maxHeartbeats 4000000 in
theorem slices_IndexFunc_Mate_Mate_convoy_Ramp_1b_ok (p1 : (List Mate)) (p2 : Guest) (r : Int) (h : slices_IndexFunc_Mate_Mate_convoy_Ramp_1b p1 p2 = some r) : PCall Try.prog 98 [(.list (List.map eMate p1)), (.fn (.func 81) [] [(.bp (eGuest p2) 0)])] (i64 r) := by
  refine l_call fn_slices_IndexFunc_Mate_Mate_convoy_Ramp_1b (nl rfl) ?_
  unfold slices_IndexFunc_Mate_Mate_convoy_Ramp_1b at h
  unfold ac_slices_IndexFunc_Mate_Mate_convoy_Ramp_1b
  refine l_sub (s0 := ⟨T [(0, (.d _)), (1, (.d _))], G []⟩) (sbr rfl rfl) ?_
  refine lr (fun u1 hu1 => sv rfl (s_nil (l_seq (lr (fun u2 hu2 => sv rfl (sd rfl (v_len rfl) (sv rfl (s_nil (js h fun z1 hz1 h => l_join (fun s => ∃ (y1 : Unit) (g1 : Unit), z1 = .inl y1 ∧ Sb ⟨T [], G []⟩ s) ?_ ?_)))))))))
  · refine l_block (l_loop (slices_IndexFunc_Mate_Mate_convoy_Ramp_1b_l1 p1 p2) (fun (x1 : Int) (g2 : Unit) => ⟨T [(0, (dl eMate p1)), (1, (.d (.fn (.func 81) [] [(.bp (eGuest p2) 0)]))), (7, (di (p1.length : Int))), (8, (di x1))], G []⟩) 0 () _ hz1 (sbr rfl rfl) ?_)
    intro x1 g2 z2 hz2 ez2
    unfold slices_IndexFunc_Mate_Mate_convoy_Ramp_1b_l1 at hz2
    refine lr (fun u3 hu3 => sv rfl (s_nil (l_seq (cc rfl hz2 (fun c1 hz2 => ?_) (fun c1 hz2 => ?_)))))
    · refine l_skip (l_seq (l_block (lr (fun u4 hu4 => sv rfl (sv rfl (s_nil (lr (fun u5 hu5 => sv rfl (sv rfl (sv rfl (bs hz2 fun v1 hv1 hz2 => sd rfl (v_idx rfl rfl hv1 rfl) (sd rfl (v_loadLG rfl hv1 rfl rfl) (bs hz2 fun v2 hv2 hz2 => s_call rfl rfl all2_refl (convoy_Ramp_1_b_ok _ _  _ hv2) (.inl rfl) (s_nil (cc rfl hz2 (fun c2 hz2 => ?_) (fun c2 hz2 => ?_))))))))))))))))
      · refine lr (fun u6 hu6 => sv rfl (sv rfl (s_nil (l_ret ?_))))
        obtain rfl := Option.some.inj hz2
        obtain rfl := ez2 _ rfl
        refine ⟨nofun, awl_ret ?_⟩
        rw [Sum.elim_inr] at h
        obtain rfl := Option.some.inj h
        exact fin_ok (.inr rfl) (resD1 (res_t rfl) rf_d) (.refl _)
      · refine l_skip (l_end (l_reg fun u7 hu7 => sv rfl (sv rfl (s_nil (l_nil ?_)))))
        obtain rfl := Option.some.inj hz2
        exact ⟨rfl, (), (sbr rfl rfl)⟩
    · refine l_exitN rfl ?_
      obtain rfl := Option.some.inj hz2
      obtain rfl := ez2 _ rfl
      refine ⟨nofun, awl_pop rfl (l_j ?_)⟩
      exact ⟨_, (), rfl, (sbr rfl rfl)⟩
  · rintro _ ⟨y1, g1, rfl, q1⟩
    rw [Sum.elim_inl] at h
    refine l_sub q1 (lr (fun u8 hu8 => sv rfl (s_nil (l_ret ?_))))
    obtain rfl := Option.some.inj h
    exact fin_ok (.inr rfl) (resD1 (res_t rfl) rf_d) (.refl _)

noncomputable def slices_ContainsFunc_Mate_Mate_convoy_Ramp_1b (p1 : (List Mate)) (p2 : Guest) : Option Bool :=
  (slices_IndexFunc_Mate_Mate_convoy_Ramp_1b p1 p2).bind fun v1 => some (decide (v1 ≥ 0))

/-- slices.ContainsFunc[[]kerbstone/api.Mate,kerbstone/api.Mate] -/
def ac_slices_ContainsFunc_Mate_Mate_convoy_Ramp_1b : AC := (.seq (.reg [oo 4 (.mv (.c zf))]) (.seq (.reg [oo 5 (.mv (.t 0)), oo 6 (.mv (.t 1)), oo 7 (.call (cf 98) [(.t 5), (.t 6)]), oo 8 (.bin .geq (.t 7) (ci 0)), oo 4 (.mv (.t 8))]) .ret))
theorem fn_slices_ContainsFunc_Mate_Mate_convoy_Ramp_1b : FnOK Try.prog 77 9 [.t 4] ac_slices_ContainsFunc_Mate_Mate_convoy_Ramp_1b := ⟨_, _, Try.func77, rfl, Try.ntmps77, by kernel_rfl, ⟨fun _ => [], by kernel_rfl⟩, by kernel_rfl⟩
theorem slices_ContainsFunc_Mate_Mate_convoy_Ramp_1b_ok (p1 : (List Mate)) (p2 : Guest) (r : Bool) (h : slices_ContainsFunc_Mate_Mate_convoy_Ramp_1b p1 p2 = some r) : PCall Try.prog 77 [(.list (List.map eMate p1)), (.fn (.func 81) [] [(.bp (eGuest p2) 0)])] (bo r) := by
  refine l_call fn_slices_ContainsFunc_Mate_Mate_convoy_Ramp_1b (nl rfl) ?_
  unfold slices_ContainsFunc_Mate_Mate_convoy_Ramp_1b at h
  unfold ac_slices_ContainsFunc_Mate_Mate_convoy_Ramp_1b
  refine l_sub (s0 := ⟨T [(0, (.d _)), (1, (.d _))], G []⟩) (sbr rfl rfl) ?_
  refine lr (fun u1 hu1 => sv rfl (s_nil (lr (fun u2 hu2 => sv rfl (sv rfl (bs h fun v1 hv1 h => s_call rfl rfl all2_refl (slices_IndexFunc_Mate_Mate_convoy_Ramp_1b_ok _ _  _ hv1) (.inl rfl) (sv rfl (sv rfl (s_nil (l_ret ?_))))))))))
  obtain rfl := Option.some.inj h
  exact fin_ok (.inr rfl) (resD1 (res_t rfl) rf_d) (.refl _)

noncomputable def slices_Clone_Mate_Mate (p1 : List Mate) : Option (List Mate) := appc [] p1

/-- slices.Clone[[]kerbstone/api.Mate,kerbstone/api.Mate] -/
def ac_slices_Clone_Mate_Mate : AC := (.seq (.reg [oo 2 (.mv (.c .nilS))]) (.seq (.seq (.reg [oo 3 (.mv (.t 0)), oo 4 (.isnil false (.t 3))]) (.cond (.t 4) (.seq (.reg [oo 2 (.mv (.c .nilS))]) .ret) .skip)) (.seq (.reg [oo 5 (.bslice 65 12 0 [z0, z0, z0, z0, z0, z0, z0, zf, z0, z0, z0, z0] []), oo 6 (.mv (.t 0)), oo 7 (.append 34 65 12 (.t 5) (.t 6)), oo 2 (.mv (.t 7))]) .ret)))
theorem fn_slices_Clone_Mate_Mate : FnOK Try.prog 83 8 [.t 2] ac_slices_Clone_Mate_Mate := ⟨_, _, Try.func83, rfl, Try.ntmps83, by kernel_rfl, ⟨fun _ => [], by kernel_rfl⟩, by kernel_rfl⟩
theorem slices_Clone_Mate_Mate_walk (p1 : List Mate) (a0 : D) (hl : appc ([] : List Mate) p1 = some p1) (hn : ∀ h, val1 (T [(3, .d a0), (2, .d .nilS), (0, .d a0)]) h (.isnil false (.t 3)) = some (.d (bo false))) (he : ∀ h, elemsOf h 12 (.d a0) = some (List.map eMate p1)) :
    PCall Try.prog 83 [a0] (.list (List.map eMate p1)) := by
  refine l_call fn_slices_Clone_Mate_Mate (Nat.le_of_ble_eq_true rfl) ?_
  unfold ac_slices_Clone_Mate_Mate
  refine (l_sub (s0 := ⟨T [(0, .d a0)], G []⟩) (sb_of ⟨.of rfl, trivial⟩ trivial) ?_)
  refine l_seq ?_
  refine l_reg fun u1 hu1 => ?_
  refine s_val (.d .nilS) rfl rfl ?_
  refine s_nil ?_
  refine l_seq ?_
  refine l_seq ?_
  refine l_reg fun u2 hu2 => ?_
  refine s_val (.d a0) rfl rfl ?_
  refine s_val (.d (bo false)) rfl (hn _) ?_
  refine s_nil ?_
  refine l_condF rfl ?_
  refine l_skip ?_
  refine l_seq ?_
  refine l_reg fun u3 hu3 => ?_
  refine s_new (.sl _) (.arr 65 12 (List.map eMate ([] : List Mate))) rfl rfl ?_
  refine s_val (.d a0) rfl rfl ?_
  refine s_append eMate _ [] p1 _ (he _) rfl G_hit hl ?_
  refine s_val (.sl _) rfl rfl ?_
  refine s_nil ?_
  refine l_ret ?_
  exact fin_ok (.inr rfl) (resD1 (res_t rfl) (rf_sl G_hit)) (.refl _)
theorem slices_Clone_Mate_Mate_ok (p1 : List Mate) (r : List Mate) (h : slices_Clone_Mate_Mate p1 = some r) : PCall Try.prog 83 [.list (List.map eMate p1)] (.list (List.map eMate r)) := by
  have hr : r = p1 := by obtain ⟨_, rfl⟩ := appc_some h; rfl
  subst hr
  cases r with
  | cons x xs => exact slices_Clone_Mate_Mate_walk (x :: xs) _ h (fun _ => rfl) fun _ => elems_list (fun _ => rfl)
  | nil =>
    refine PCall.nil fun A cap => ?_
    cases A with
    | some A => exact slices_Clone_Mate_Mate_walk [] (.v (.slice (some A) 0 cap)) h (fun _ => rfl) fun _ => rfl
    | none =>
      refine l_call fn_slices_Clone_Mate_Mate (Nat.le_of_ble_eq_true rfl) ?_
      unfold ac_slices_Clone_Mate_Mate
      refine (l_sub (s0 := ⟨T [(0, .d (.v (.slice none 0 cap)))], G []⟩) (sb_of ⟨.of rfl, trivial⟩ trivial) ?_)
      refine l_seq ?_
      refine l_reg fun u1 hu1 => ?_
      refine s_val (.d .nilS) rfl rfl ?_
      refine s_nil ?_
      refine l_seq ?_
      refine l_seq ?_
      refine l_reg fun u2 hu2 => ?_
      refine s_val (.d _) rfl rfl ?_
      refine s_val (.d (bo true)) rfl rfl ?_
      refine s_nil ?_
      refine l_condT rfl ?_
      refine l_seq ?_
      refine l_reg fun u3 hu3 => ?_
      refine s_val (.d .nilS) rfl rfl ?_
      refine s_nil ?_
      refine l_ret ?_
      exact fin_ok (.inr rfl) (resD1 (res_t rfl) rf_d) .nil

noncomputable def convoy_Copy (p1 : Convoy) : Option Convoy :=
  (slices_Clone_Mate_Mate p1.Mates).bind fun v1 => some (Convoy.mk p1.Tick p1.Gap v1 p1.Guest_)

/-- kerbstone/convoy.Copy -/
def ac_convoy_Copy : AC := (.seq (.reg [oo 1 (.box 38 true (.t 0)), oo 2 (.alloc 38 [z0, z0, .nilS, z0, z0, z0, z0, z0, z0, z0, z0, z0, z0])]) (.seq (.reg [oo 3 (.fieldA 2 (.t 1)), oo 4 (.load 1 false (.t 3)), oo 5 (.call (cf 83) [(.t 4)]), oo 6 (.fieldA 2 (.t 1)), oe (.store 1 (.t 6) (.t 5))]) (.seq (.reg [oo 7 (.load 13 true (.t 1)), oe (.store 13 (.t 2) (.t 7))]) .ret)))
theorem fn_convoy_Copy : FnOK Try.prog 48 8 [.cell 2 13 true] ac_convoy_Copy := ⟨_, _, Try.func48, rfl, Try.ntmps48, by kernel_rfl, ⟨fun _ => [], by kernel_rfl⟩, by kernel_rfl⟩
theorem convoy_Copy_ok (p1 : Convoy) (r : Convoy) (h : convoy_Copy p1 = some r) : PCall Try.prog 48 [(.agg (eConvoy p1))] (.agg (eConvoy r)) := by
  refine l_call fn_convoy_Copy (nl rfl) ?_
  unfold convoy_Copy at h
  unfold ac_convoy_Copy
  refine l_sub (s0 := ⟨T [(0, (.d _))], G []⟩) (sbr rfl rfl) ?_
  refine lr (fun u1 hu1 => sn rfl rfl (sn rfl rfl (s_nil (lr (fun u2 hu2 => sp rfl rfl (sl rfl (gq rfl) rfl (bs h fun v1 hv1 h => s_call rfl rfl all2_refl (slices_Clone_Mate_Mate_ok _  _ hv1) (.inl rfl) (sp rfl rfl (sst rfl (gq rfl) [(di p1.Tick), (di p1.Gap), (dl eMate v1), (di p1.Guest_.ID), (di p1.Guest_.S), (di p1.Guest_.V), (di p1.Guest_.Len), (di p1.Guest_.End), (di p1.Guest_.Ahead), (di p1.Guest_.Guess_.R), (di p1.Guest_.Guess_.V), (di p1.Guest_.From), (di p1.Guest_.Until)] rfl (s_nil (lr (fun u3 hu3 => sd rfl (v_loadG rfl G_hit rfl rfl) (sst rfl (gq rfl) [(di p1.Tick), (di p1.Gap), (dl eMate v1), (di p1.Guest_.ID), (di p1.Guest_.S), (di p1.Guest_.V), (di p1.Guest_.Len), (di p1.Guest_.End), (di p1.Guest_.Ahead), (di p1.Guest_.Guess_.R), (di p1.Guest_.Guess_.V), (di p1.Guest_.From), (di p1.Guest_.Until)] rfl (s_nil (l_ret ?_)))))))))))))))
  obtain rfl := Option.some.inj h
  exact fin_ok (.inr rfl) (resD1 (res_cellG rfl G_hit (nl rfl) rfl) rf_d) (.refl _)

noncomputable def convoy_Ramp (p1 : Convoy) (p2 : Guest) : Option (Convoy × Int) :=
  (convoy_Check p1).bind fun v1 => cond (v1 != 0) (some ((Convoy.mk 0 0 [] (Guest.mk 0 0 0 0 0 0 (Guess.mk 0 0) 0 0)), v1)) (((cond ((!(p1.Guest_.ID != 0)) && (p2.ID != 0)) (slices_ContainsFunc_Mate_Mate_convoy_Ramp_1b p1.Mates p2) (some default))).bind fun v2 => cond ((p1.Guest_.ID != 0) || ((p2.ID != 0) && v2)) (some ((Convoy.mk 0 0 [] (Guest.mk 0 0 0 0 0 0 (Guess.mk 0 0) 0 0)), 9)) (cond (p2.ID == 0) (some ((Convoy.mk 0 0 [] (Guest.mk 0 0 0 0 0 0 (Guess.mk 0 0) 0 0)), 2)) ((convoy_Copy p1).bind fun v3 => (convoy_Check (Convoy.mk v3.Tick v3.Gap v3.Mates (Guest.mk p2.ID p2.S p2.V p2.Len p2.End 0 (Guess.mk 0 0) 0 0))).bind fun v4 => cond (v4 != 0) (some ((Convoy.mk 0 0 [] (Guest.mk 0 0 0 0 0 0 (Guess.mk 0 0) 0 0)), v4)) (some ((Convoy.mk v3.Tick v3.Gap v3.Mates (Guest.mk p2.ID p2.S p2.V p2.Len p2.End 0 (Guess.mk 0 0) 0 0)), 0)))))

/-- kerbstone/convoy.Ramp -/
def ac_convoy_Ramp : AC := (.seq (.reg [oo 2 (.box 38 true (.t 0)), oo 3 (.box 36 true (.t 1)), oo 4 (.alloc 38 [z0, z0, .nilS, z0, z0, z0, z0, z0, z0, z0, z0, z0, z0]), oo 5 (.mv (ci 0))]) (.seq (.seq (.reg [oo 10 (.load 13 true (.t 2)), oo 11 (.call (cf 32) [(.t 10)]), oo 6 (.mv (.t 11))]) (.seq (.reg [oo 12 (.mv (.t 6)), oo 13 (.bin .neq (.t 12) (ci 0))]) (.cond (.t 13) (.seq (.reg [oo 14 (.build [z0, z0, .nilS, z0, z0, z0, z0, z0, z0, z0, z0, z0, z0] []), oo 15 (.mv (.t 6)), oe (.store 13 (.t 4) (.t 14)), oo 5 (.mv (.t 15))]) .ret) .skip))) (.seq (.reg [oo 16 (.mkfn (.func 81) [] [(.t 3)]), oo 7 (.mv (.t 16))]) (.seq (.seq (.reg [oo 17 (.fieldA 3 (.t 2)), oo 18 (.fieldA 0 (.t 17)), oo 19 (.load 1 false (.t 18)), oo 20 (.bin .neq (.t 19) (ci 0)), oo 21 (.mv (.t 20)), oh 22 (.fieldA 0 (.t 3)) 21, oh 23 (.load 1 false (.t 22)) 21, oh 24 (.bin .neq (.t 23) (ci 0)) 21, oh 25 (.mv (.t 24)) 21, og 26 (.fieldA 2 (.t 2)) 25, og 27 (.load 1 false (.t 26)) 25, og 28 (.mv (.t 7)) 25, og 29 (.call (cf 77) [(.t 27), (.t 28)]) 25, oh 30 (.pick (.t 25) (.t 29) (.c zf)) 21, oo 31 (.pick (.t 21) (.c (.v (.bool true))) (.t 30))]) (.cond (.t 31) (.seq (.reg [oo 32 (.build [z0, z0, .nilS, z0, z0, z0, z0, z0, z0, z0, z0, z0, z0] []), oe (.store 13 (.t 4) (.t 32)), oo 5 (.mv (ci 9))]) .ret) .skip)) (.seq (.seq (.reg [oo 33 (.fieldA 0 (.t 3)), oo 34 (.load 1 false (.t 33)), oo 35 (.bin .eql (.t 34) (ci 0))]) (.cond (.t 35) (.seq (.reg [oo 36 (.build [z0, z0, .nilS, z0, z0, z0, z0, z0, z0, z0, z0, z0, z0] []), oe (.store 13 (.t 4) (.t 36)), oo 5 (.mv (ci 2))]) .ret) .skip)) (.seq (.reg [oo 37 (.load 13 true (.t 2)), oo 38 (.call (cf 48) [(.t 37)]), oo 8 (.alloc 38 [z0, z0, .nilS, z0, z0, z0, z0, z0, z0, z0, z0, z0, z0]), oe (.store 13 (.t 8) (.t 38))]) (.seq (.reg [oo 39 (.fieldA 0 (.t 3)), oo 40 (.load 1 false (.t 39)), oo 41 (.fieldA 1 (.t 3)), oo 42 (.load 1 false (.t 41)), oo 43 (.fieldA 2 (.t 3)), oo 44 (.load 1 false (.t 43)), oo 45 (.fieldA 3 (.t 3)), oo 46 (.load 1 false (.t 45)), oo 47 (.fieldA 4 (.t 3)), oo 48 (.load 1 false (.t 47)), oo 49 (.build [z0, z0, z0, z0, z0, z0, z0, z0, z0, z0] [(0, 1, (.t 40)), (1, 1, (.t 42)), (2, 1, (.t 44)), (3, 1, (.t 46)), (4, 1, (.t 48))]), oo 50 (.fieldA 3 (.t 8)), oe (.store 10 (.t 50) (.t 49))]) (.seq (.seq (.reg [oo 51 (.load 13 true (.t 8)), oo 52 (.call (cf 32) [(.t 51)]), oo 9 (.mv (.t 52))]) (.seq (.reg [oo 53 (.mv (.t 9)), oo 54 (.bin .neq (.t 53) (ci 0))]) (.cond (.t 54) (.seq (.reg [oo 55 (.build [z0, z0, .nilS, z0, z0, z0, z0, z0, z0, z0, z0, z0, z0] []), oo 56 (.mv (.t 9)), oe (.store 13 (.t 4) (.t 55)), oo 5 (.mv (.t 56))]) .ret) .skip))) (.seq (.reg [oo 57 (.load 13 true (.t 8)), oe (.store 13 (.t 4) (.t 57)), oo 5 (.mv (ci 0))]) .ret)))))))))
theorem fn_convoy_Ramp : FnOK Try.prog 45 58 [.cell 4 13 true, .t 5] ac_convoy_Ramp := ⟨_, _, Try.func45, rfl, Try.ntmps45, by kernel_rfl, ⟨fun _ => [], by kernel_rfl⟩, by kernel_rfl⟩
set_option maxHeartbeats 4000000 in
theorem convoy_Ramp_ok (p1 : Convoy) (p2 : Guest) (r : (Convoy × Int)) (h : convoy_Ramp p1 p2 = some r) : PCall Try.prog 45 [(.agg (eConvoy p1)), (.agg (eGuest p2))] (.tup [(.agg (eConvoy r.1)), (i64 r.2)]) := by
  refine l_call fn_convoy_Ramp (nl rfl) ?_
  unfold convoy_Ramp at h
  unfold ac_convoy_Ramp
  refine l_sub (s0 := ⟨T [(0, (.d _)), (1, (.d _))], G []⟩) (sbr rfl rfl) ?_
  refine lr (fun u1 hu1 => sn rfl rfl (sn rfl rfl (sn rfl rfl (sv rfl (s_nil (l_seq (lr (fun u2 hu2 => sd rfl (v_loadG rfl (gq rfl) rfl rfl) (bs h fun v1 hv1 h => s_call rfl rfl all2_refl (convoy_Check_ok _  _ hv1) (.inl rfl) (sv rfl (s_nil (lr (fun u3 hu3 => sv rfl (sv rfl (s_nil (cc rfl h (fun c1 h => ?_) (fun c1 h => ?_)))))))))))))))))
  · refine lr (fun u4 hu4 => sv rfl (sv rfl (sst rfl G_hit [(di 0), (di 0), (.d .nilS), (di 0), (di 0), (di 0), (di 0), (di 0), (di 0), (di 0), (di 0), (di 0), (di 0)] rfl (sv rfl (s_nil (l_ret ?_))))))
    obtain rfl := Option.some.inj h
    exact fin_ok (.inr rfl) (resD2 (res_cellG rfl G_hit (nl rfl) rfl) (res_t rfl) rf_d rf_d) (.tup (.cons (.agg (.cons ⟨(.refl _), rfl⟩ (.cons ⟨(.refl _), rfl⟩ (.cons ⟨DLe.nil, rfl⟩ (.cons ⟨(.refl _), rfl⟩ (.cons ⟨(.refl _), rfl⟩ (.cons ⟨(.refl _), rfl⟩ (.cons ⟨(.refl _), rfl⟩ (.cons ⟨(.refl _), rfl⟩ (.cons ⟨(.refl _), rfl⟩ (.cons ⟨(.refl _), rfl⟩ (.cons ⟨(.refl _), rfl⟩ (.cons ⟨(.refl _), rfl⟩ (.cons ⟨(.refl _), rfl⟩ .nil)))))))))))))) (.cons (.refl _) .nil)))
  · refine l_skip (lr (fun u5 hu5 => s_val (.fn _ _ _) rfl rfl (s_val (.fn _ _ _) rfl rfl (s_nil (l_seq (lr (fun u6 hu6 => sp rfl rfl (sp rfl rfl (sl rfl (gq rfl) rfl (sv rfl (sv rfl (gp (gw_f rfl) (fun _ => rfl) (gf rfl (vl rfl (gq rfl) rfl) (gf rfl (vb rfl rfl rfl) (gf rfl (fun w4 => (v_mv (gd_pos w4))) (g_val _ (.ptr _ _) rfl (gw_gt rfl) (fun _ => rfl) (gv rfl (gw_gt rfl) (vl rfl (gq rfl) rfl) (g_val _ (.fn _ _ _) rfl (gw_gt rfl) (fun _ => rfl) (bs h fun v2 hv2 h => g_call _ (bo v2) (gw_gt rfl) (fun w8 => ⟨_, [(dl eMate p1.Mates), (.fn (.func 81) [] [(.ptr (3, u1) 0)])], _, _, (by simp only [gd_pos w8]; rfl), (rfL_cons rf_d (rfL_cons (rf_fn rfL_nil (rfL_cons (rf_ptr (gq rfl) (rfL_cons rf_d (rfL_cons rf_d (rfL_cons rf_d (rfL_cons rf_d (rfL_cons rf_d (rfL_cons rf_d (rfL_cons rf_d (rfL_cons rf_d (rfL_cons rf_d (rfL_cons rf_d rfL_nil))))))))))) rfL_nil)) rfL_nil)), all2_refl, slices_ContainsFunc_Mate_Mate_convoy_Ramp_1b_ok _ _  _ (cond_t w8 hv2), (.inr rfl)⟩) ?_)))))))))))))))))))
    refine gf rfl (fun w9 => (v_and (gd_pos w9) (fun hc => gd_pos (and_i w9 hc)) rfl)) (sd rfl (v_or rfl rfl (fun hc => gd_pos (not_t hc))) (s_nil (cc rfl h (fun c2 h => ?_) (fun c2 h => ?_))))
    · refine l_seq (l_sub (s0 := ⟨T [(4, (.ptr _ _))], G [((4, u1), some (.box 38 _))]⟩) (sbr rfl rfl) ?_)
      refine l_reg fun u7 hu7 => sv rfl (sst rfl G_hit [(di 0), (di 0), (.d .nilS), (di 0), (di 0), (di 0), (di 0), (di 0), (di 0), (di 0), (di 0), (di 0), (di 0)] rfl (sv rfl (s_nil (l_ret ?_))))
      obtain rfl := Option.some.inj h
      exact fin_ok (.inr rfl) (resD2 (res_cellG rfl G_hit (nl rfl) rfl) (res_t rfl) rf_d rf_d) (.tup (.cons (.agg (.cons ⟨(.refl _), rfl⟩ (.cons ⟨(.refl _), rfl⟩ (.cons ⟨DLe.nil, rfl⟩ (.cons ⟨(.refl _), rfl⟩ (.cons ⟨(.refl _), rfl⟩ (.cons ⟨(.refl _), rfl⟩ (.cons ⟨(.refl _), rfl⟩ (.cons ⟨(.refl _), rfl⟩ (.cons ⟨(.refl _), rfl⟩ (.cons ⟨(.refl _), rfl⟩ (.cons ⟨(.refl _), rfl⟩ (.cons ⟨(.refl _), rfl⟩ (.cons ⟨(.refl _), rfl⟩ .nil)))))))))))))) (.cons (.refl _) .nil)))
    · refine l_skip (l_seq (l_seq (l_sub (s0 := ⟨T [(2, (.ptr _ _)), (3, (.ptr _ _)), (4, (.ptr _ _))], G [((2, u1), some (.box 38 _)), ((3, u1), some (.box 36 _)), ((4, u1), some (.box 38 _))]⟩) (sbr rfl rfl) ?_)))
      refine l_reg fun u8 hu8 => sp rfl rfl (sl rfl (gq rfl) rfl (sv rfl (s_nil (cc rfl h (fun c3 h => ?_) (fun c3 h => ?_)))))
      · refine lr (fun u9 hu9 => sv rfl (sst rfl (gq rfl) [(di 0), (di 0), (.d .nilS), (di 0), (di 0), (di 0), (di 0), (di 0), (di 0), (di 0), (di 0), (di 0), (di 0)] rfl (sv rfl (s_nil (l_ret ?_)))))
        obtain rfl := Option.some.inj h
        exact fin_ok (.inr rfl) (resD2 (res_cellG rfl G_hit (nl rfl) rfl) (res_t rfl) rf_d rf_d) (.tup (.cons (.agg (.cons ⟨(.refl _), rfl⟩ (.cons ⟨(.refl _), rfl⟩ (.cons ⟨DLe.nil, rfl⟩ (.cons ⟨(.refl _), rfl⟩ (.cons ⟨(.refl _), rfl⟩ (.cons ⟨(.refl _), rfl⟩ (.cons ⟨(.refl _), rfl⟩ (.cons ⟨(.refl _), rfl⟩ (.cons ⟨(.refl _), rfl⟩ (.cons ⟨(.refl _), rfl⟩ (.cons ⟨(.refl _), rfl⟩ (.cons ⟨(.refl _), rfl⟩ (.cons ⟨(.refl _), rfl⟩ .nil)))))))))))))) (.cons (.refl _) .nil)))
      · refine l_skip (lr (fun u10 hu10 => sd rfl (v_loadG rfl G_hit rfl rfl) (bs h fun v3 hv3 h => s_call rfl rfl all2_refl (convoy_Copy_ok _  _ hv3) (.inl rfl) (sn rfl rfl (sst rfl G_hit (dConvoy v3) rfl (s_nil (lr (fun u11 hu11 => sp rfl rfl (sl rfl (gq rfl) rfl (sp rfl rfl (sl rfl (gq rfl) rfl (sp rfl rfl (sl rfl (gq rfl) rfl (sp rfl rfl (sl rfl (gq rfl) rfl (sp rfl rfl (sl rfl (gq rfl) rfl (sv rfl (sp rfl rfl (sst rfl G_hit [(di v3.Tick), (di v3.Gap), (dl eMate v3.Mates), (di p2.ID), (di p2.S), (di p2.V), (di p2.Len), (di p2.End), (di 0), (di 0), (di 0), (di 0), (di 0)] rfl (s_nil (l_seq (l_seq (l_sub (s0 := ⟨T [(4, (.ptr _ _)), (8, (.ptr _ _))], G [((4, u1), some (.box 38 _)), ((8, u10), some (.box 38 _))]⟩) (sbr rfl rfl) ?_))))))))))))))))))))))))
        refine l_reg fun u12 hu12 => sd rfl (v_loadG rfl (gq rfl) rfl rfl) (bs h fun v4 hv4 h => s_call rfl rfl all2_refl (convoy_Check_ok _  _ hv4) (.inl rfl) (sv rfl (s_nil (lr (fun u13 hu13 => sv rfl (sv rfl (s_nil (cc rfl h (fun c4 h => ?_) (fun c4 h => ?_)))))))))
        · refine lr (fun u14 hu14 => sv rfl (sv rfl (sst rfl G_hit [(di 0), (di 0), (.d .nilS), (di 0), (di 0), (di 0), (di 0), (di 0), (di 0), (di 0), (di 0), (di 0), (di 0)] rfl (sv rfl (s_nil (l_ret ?_))))))
          obtain rfl := Option.some.inj h
          exact fin_ok (.inr rfl) (resD2 (res_cellG rfl G_hit (nl rfl) rfl) (res_t rfl) rf_d rf_d) (.tup (.cons (.agg (.cons ⟨(.refl _), rfl⟩ (.cons ⟨(.refl _), rfl⟩ (.cons ⟨DLe.nil, rfl⟩ (.cons ⟨(.refl _), rfl⟩ (.cons ⟨(.refl _), rfl⟩ (.cons ⟨(.refl _), rfl⟩ (.cons ⟨(.refl _), rfl⟩ (.cons ⟨(.refl _), rfl⟩ (.cons ⟨(.refl _), rfl⟩ (.cons ⟨(.refl _), rfl⟩ (.cons ⟨(.refl _), rfl⟩ (.cons ⟨(.refl _), rfl⟩ (.cons ⟨(.refl _), rfl⟩ .nil)))))))))))))) (.cons (.refl _) .nil)))
        · refine l_skip (lr (fun u15 hu15 => sd rfl (v_loadG rfl (gq rfl) rfl rfl) (sst rfl G_hit [(di v3.Tick), (di v3.Gap), (dl eMate v3.Mates), (di p2.ID), (di p2.S), (di p2.V), (di p2.Len), (di p2.End), (di 0), (di 0), (di 0), (di 0), (di 0)] rfl (sv rfl (s_nil (l_ret ?_))))))
          obtain rfl := Option.some.inj h
          exact fin_ok (.inr rfl) (resD2 (res_cellG rfl G_hit (nl rfl) rfl) (res_t rfl) rf_d rf_d) (.refl _)

noncomputable def ref09_Ramp_l1 (p1 : Convoy) (p2 : Guest) (x1 : (Bool × Int)) : Option (Stp (Bool × Int) Bool) :=
  cond (decide (x1.2 < (p1.Mates.length : Int))) (((cond (!x1.1) (geti p1.Mates x1.2) (some default))).bind fun v2 => ((cond (!(x1.1 || (v2.ID == p2.ID))) (geti p1.Mates x1.2) (some default))).bind fun v3 => some (.go (((x1.1 || (v2.ID == p2.ID)) || ((v3.Ward == p2.ID) && (p2.ID != 0))), (w64 (x1.2 + 1))))) (some (.out x1.1))
noncomputable def ref09_Ramp (p1 : Convoy) (p2 : Guest) : Option (Convoy × Int) :=
  (ref09_Check p1).bind fun v1 => cond (v1 != 0) (some ((Convoy.mk 0 0 [] (Guest.mk 0 0 0 0 0 0 (Guess.mk 0 0) 0 0)), v1)) ((loop (ref09_Ramp_l1 p1 p2) ((p1.Guest_.ID != 0), 0)).bind fun y1 => cond y1 (some ((Convoy.mk 0 0 [] (Guest.mk 0 0 0 0 0 0 (Guess.mk 0 0) 0 0)), 9)) (cond (p2.ID == 0) (some ((Convoy.mk 0 0 [] (Guest.mk 0 0 0 0 0 0 (Guess.mk 0 0) 0 0)), 2)) ((ref09_Copy p1).bind fun v4 => (ref09_Check (Convoy.mk v4.Tick v4.Gap v4.Mates (Guest.mk p2.ID p2.S p2.V p2.Len p2.End 0 (Guess.mk 0 0) 0 0))).bind fun v5 => cond (v5 != 0) (some ((Convoy.mk 0 0 [] (Guest.mk 0 0 0 0 0 0 (Guess.mk 0 0) 0 0)), v5)) (some ((Convoy.mk v4.Tick v4.Gap v4.Mates (Guest.mk p2.ID p2.S p2.V p2.Len p2.End 0 (Guess.mk 0 0) 0 0)), 0)))))

/-- kerbstone/kerbstoneref09.Ramp -/
def ac_ref09_Ramp : AC := (.seq (.reg [oo 2 (.box 38 true (.t 0)), oo 3 (.box 36 true (.t 1)), oo 4 (.alloc 38 [z0, z0, .nilS, z0, z0, z0, z0, z0, z0, z0, z0, z0, z0]), oo 5 (.mv (ci 0))]) (.seq (.seq (.reg [oo 11 (.load 13 true (.t 2)), oo 12 (.call (cf 33) [(.t 11)]), oo 6 (.mv (.t 12))]) (.seq (.reg [oo 13 (.mv (.t 6)), oo 14 (.bin .neq (.t 13) (ci 0))]) (.cond (.t 14) (.seq (.reg [oo 15 (.build [z0, z0, .nilS, z0, z0, z0, z0, z0, z0, z0, z0, z0, z0] []), oo 16 (.mv (.t 6)), oe (.store 13 (.t 4) (.t 15)), oo 5 (.mv (.t 16))]) .ret) .skip))) (.seq (.reg [oo 17 (.fieldA 3 (.t 2)), oo 18 (.fieldA 0 (.t 17)), oo 19 (.load 1 false (.t 18)), oo 20 (.bin .neq (.t 19) (ci 0)), oo 7 (.mv (.t 20))]) (.seq (.seq (.reg [oo 8 (.mv (ci 0))]) (.block 0 (.loop (.seq (.seq (.reg [oo 21 (.mv (.t 8)), oo 22 (.fieldA 2 (.t 2)), oo 23 (.load 1 false (.t 22)), oo 24 (.len (.t 23)), oo 25 (.bin .lss (.t 21) (.t 24))]) (.cond (.t 25) .skip (.exit 0))) (.seq (.block 1 (.draw [oo 28 (.mv (.t 7)), oo 29 (.mv (.t 28)), oh 30 (.fieldA 2 (.t 2)) 29, oh 31 (.load 1 false (.t 30)) 29, oh 32 (.mv (.t 8)) 29, oh 33 (.idxS 12 (.t 31) (.t 32)) 29, oh 34 (.fieldA 0 (.t 33)) 29, oh 35 (.load 1 false (.t 34)) 29, oh 36 (.fieldA 0 (.t 3)) 29, oh 37 (.load 1 false (.t 36)) 29, oh 38 (.bin .eql (.t 35) (.t 37)) 29, oo 39 (.pick (.t 29) (.c (.v (.bool true))) (.t 38)), oo 40 (.mv (.t 39)), oh 41 (.fieldA 2 (.t 2)) 40, oh 42 (.load 1 false (.t 41)) 40, oh 43 (.mv (.t 8)) 40, oh 44 (.idxS 12 (.t 42) (.t 43)) 40, oh 45 (.fieldA 8 (.t 44)) 40, oh 46 (.load 1 false (.t 45)) 40, oh 47 (.fieldA 0 (.t 3)) 40, oh 48 (.load 1 false (.t 47)) 40, oh 49 (.bin .eql (.t 46) (.t 48)) 40, oh 50 (.mv (.t 49)) 40, og 51 (.fieldA 0 (.t 3)) 50, og 52 (.load 1 false (.t 51)) 50, og 53 (.bin .neq (.t 52) (ci 0)) 50, oh 54 (.pick (.t 50) (.t 53) (.c zf)) 40, oo 55 (.pick (.t 40) (.c (.v (.bool true))) (.t 54)), oo 7 (.mv (.t 55))] [])) (.reg [oo 26 (.mv (.t 8)), oo 27 (.bin .add (.t 26) (ci 1)), oo 8 (.mv (.t 27))])))))) (.seq (.seq (.reg [oo 56 (.mv (.t 7))]) (.cond (.t 56) (.seq (.reg [oo 57 (.build [z0, z0, .nilS, z0, z0, z0, z0, z0, z0, z0, z0, z0, z0] []), oe (.store 13 (.t 4) (.t 57)), oo 5 (.mv (ci 9))]) .ret) .skip)) (.seq (.seq (.reg [oo 58 (.fieldA 0 (.t 3)), oo 59 (.load 1 false (.t 58)), oo 60 (.bin .eql (.t 59) (ci 0))]) (.cond (.t 60) (.seq (.reg [oo 61 (.build [z0, z0, .nilS, z0, z0, z0, z0, z0, z0, z0, z0, z0, z0] []), oe (.store 13 (.t 4) (.t 61)), oo 5 (.mv (ci 2))]) .ret) .skip)) (.seq (.reg [oo 62 (.load 13 true (.t 2)), oo 63 (.call (cf 31) [(.t 62)]), oo 9 (.alloc 38 [z0, z0, .nilS, z0, z0, z0, z0, z0, z0, z0, z0, z0, z0]), oe (.store 13 (.t 9) (.t 63))]) (.seq (.reg [oo 64 (.fieldA 0 (.t 3)), oo 65 (.load 1 false (.t 64)), oo 66 (.fieldA 1 (.t 3)), oo 67 (.load 1 false (.t 66)), oo 68 (.fieldA 2 (.t 3)), oo 69 (.load 1 false (.t 68)), oo 70 (.fieldA 3 (.t 3)), oo 71 (.load 1 false (.t 70)), oo 72 (.fieldA 4 (.t 3)), oo 73 (.load 1 false (.t 72)), oo 74 (.build [z0, z0, z0, z0, z0, z0, z0, z0, z0, z0] [(0, 1, (.t 65)), (1, 1, (.t 67)), (2, 1, (.t 69)), (3, 1, (.t 71)), (4, 1, (.t 73))]), oo 75 (.fieldA 3 (.t 9)), oe (.store 10 (.t 75) (.t 74))]) (.seq (.seq (.reg [oo 76 (.load 13 true (.t 9)), oo 77 (.call (cf 33) [(.t 76)]), oo 10 (.mv (.t 77))]) (.seq (.reg [oo 78 (.mv (.t 10)), oo 79 (.bin .neq (.t 78) (ci 0))]) (.cond (.t 79) (.seq (.reg [oo 80 (.build [z0, z0, .nilS, z0, z0, z0, z0, z0, z0, z0, z0, z0, z0] []), oo 81 (.mv (.t 10)), oe (.store 13 (.t 4) (.t 80)), oo 5 (.mv (.t 81))]) .ret) .skip))) (.seq (.reg [oo 82 (.load 13 true (.t 9)), oe (.store 13 (.t 4) (.t 82)), oo 5 (.mv (ci 0))]) .ret))))))))))
theorem fn_ref09_Ramp : FnOK Try.prog 46 83 [.cell 4 13 true, .t 5] ac_ref09_Ramp := ⟨_, _, Try.func46, rfl, Try.ntmps46, by kernel_rfl, ⟨fun _ => [], by kernel_rfl⟩, by kernel_rfl⟩
set_option maxHeartbeats 4000000 in
theorem ref09_Ramp_ok (p1 : Convoy) (p2 : Guest) (r : (Convoy × Int)) (h : ref09_Ramp p1 p2 = some r) : PCall Try.prog 46 [(.agg (eConvoy p1)), (.agg (eGuest p2))] (.tup [(.agg (eConvoy r.1)), (i64 r.2)]) := by
  refine l_call fn_ref09_Ramp (nl rfl) ?_
  unfold ref09_Ramp at h
  unfold ac_ref09_Ramp
  refine l_sub (s0 := ⟨T [(0, (.d _)), (1, (.d _))], G []⟩) (sbr rfl rfl) ?_
  refine lr (fun u1 hu1 => sn rfl rfl (sn rfl rfl (sn rfl rfl (sv rfl (s_nil (l_seq (lr (fun u2 hu2 => sd rfl (v_loadG rfl (gq rfl) rfl rfl) (bs h fun v1 hv1 h => s_call rfl rfl all2_refl (ref09_Check_ok _  _ hv1) (.inl rfl) (sv rfl (s_nil (lr (fun u3 hu3 => sv rfl (sv rfl (s_nil (cc rfl h (fun c1 h => ?_) (fun c1 h => ?_)))))))))))))))))
  · refine lr (fun u4 hu4 => sv rfl (sv rfl (sst rfl G_hit [(di 0), (di 0), (.d .nilS), (di 0), (di 0), (di 0), (di 0), (di 0), (di 0), (di 0), (di 0), (di 0), (di 0)] rfl (sv rfl (s_nil (l_ret ?_))))))
    obtain rfl := Option.some.inj h
    exact fin_ok (.inr rfl) (resD2 (res_cellG rfl G_hit (nl rfl) rfl) (res_t rfl) rf_d rf_d) (.tup (.cons (.agg (.cons ⟨(.refl _), rfl⟩ (.cons ⟨(.refl _), rfl⟩ (.cons ⟨DLe.nil, rfl⟩ (.cons ⟨(.refl _), rfl⟩ (.cons ⟨(.refl _), rfl⟩ (.cons ⟨(.refl _), rfl⟩ (.cons ⟨(.refl _), rfl⟩ (.cons ⟨(.refl _), rfl⟩ (.cons ⟨(.refl _), rfl⟩ (.cons ⟨(.refl _), rfl⟩ (.cons ⟨(.refl _), rfl⟩ (.cons ⟨(.refl _), rfl⟩ (.cons ⟨(.refl _), rfl⟩ .nil)))))))))))))) (.cons (.refl _) .nil)))
  · refine l_skip (lr (fun u5 hu5 => sp rfl rfl (sp rfl rfl (sl rfl (gq rfl) rfl (sv rfl (sv rfl (s_nil (l_seq (lr (fun u6 hu6 => sv rfl (s_nil (bs h fun y1 hy1 h => l_join (fun s => ∃ g1 : Unit, Sb ⟨T [(2, (.ptr (2, u1) 0)), (3, (.ptr (3, u1) 0)), (4, (.ptr (4, u1) 0)), (7, (.d (bo y1)))], G [((2, u1), some (.box 38 (dConvoy p1))), ((3, u1), some (.box 36 (dGuest p2))), ((4, u1), some (.box 38 [(di 0), (di 0), (.d .nilS), (di 0), (di 0), (di 0), (di 0), (di 0), (di 0), (di 0), (di 0), (di 0), (di 0)]))]⟩ s) ?_ ?_))))))))))))
    · refine l_block (l_loop (ref09_Ramp_l1 p1 p2) (fun (x1 : (Bool × Int)) (g2 : Unit) => ⟨T [(2, (.ptr (2, u1) 0)), (3, (.ptr (3, u1) 0)), (4, (.ptr (4, u1) 0)), (7, (.d (bo x1.1))), (8, (di x1.2))], G [((2, u1), some (.box 38 (dConvoy p1))), ((3, u1), some (.box 36 (dGuest p2))), ((4, u1), some (.box 38 [(di 0), (di 0), (.d .nilS), (di 0), (di 0), (di 0), (di 0), (di 0), (di 0), (di 0), (di 0), (di 0), (di 0)]))]⟩) ((p1.Guest_.ID != 0), 0) () _ hy1 (sbr rfl rfl) ?_)
      intro x1 g2 z1 hz1 ez1
      unfold ref09_Ramp_l1 at hz1
      refine l_seq (lr (fun u7 hu7 => sv rfl (sp rfl rfl (sl rfl G_hit rfl (sd rfl (v_len rfl) (sv rfl (s_nil (cc rfl hz1 (fun c2 hz1 => ?_) (fun c2 hz1 => ?_)))))))))
      · refine l_skip (l_seq (l_block (l_draw rfl fun u8 hu8 => sv rfl (sv rfl (gp (gw_f rfl) (fun _ => rfl) (gf rfl (vl rfl G_hit rfl) (gf rfl (fun _ => rfl) (bs hz1 fun v2 hv2 hz1 => gf rfl (fun w4 => (v_idx (gd_pos w4) (gd_pos w4) (cond_t w4 hv2) rfl)) (gf rfl (fun w5 => (by simp only [gd_pos w5]; rfl)) ?_)))))))))
        refine gf rfl (fun w6 => (v_loadL (gd_pos w6) (cond_t w6 hv2) rfl)) (gp (gw_f rfl) (fun _ => rfl) (gf rfl (vl rfl (gq rfl) rfl) (gf rfl (fun w9 => (v_bin (gd_pos w9) (gd_pos w9) rfl)) (sd rfl (v_or rfl rfl (fun hc => gd_pos (not_t hc))) (sv rfl (gp (gw_f rfl) (fun _ => rfl) (gf rfl (vl rfl G_hit rfl) (gf rfl (fun _ => rfl) (bs hz1 fun v3 hv3 hz1 => gf rfl (fun w13 => (v_idx (gd_pos w13) (gd_pos w13) (cond_t w13 hv3) rfl)) (gf rfl (fun w14 => (by simp only [gd_pos w14]; rfl)) ?_))))))))))
        refine gf rfl (fun w15 => (v_loadL (gd_pos w15) (cond_t w15 hv3) rfl)) (gp (gw_f rfl) (fun _ => rfl) (gf rfl (vl rfl (gq rfl) rfl) (gf rfl (fun w18 => (v_bin (gd_pos w18) (gd_pos w18) rfl)) (gf rfl (fun w19 => (v_mv (gd_pos w19))) (g_val _ (.ptr _ _) rfl (gw_gt rfl) (fun _ => rfl) (gv rfl (gw_gt rfl) (vl rfl (gq rfl) rfl) (gv rfl (gw_gt rfl) (vb rfl rfl rfl) (gf rfl (fun w23 => (v_and (gd_pos w23) (fun hc => gd_pos (and_i w23 hc)) rfl)) (sd rfl (v_or rfl rfl (fun hc => gd_pos (not_t hc))) (sv rfl (s_nil (l_end (l_sub (s0 := ⟨T [(2, (.ptr _ _)), (3, (.ptr _ _)), (4, (.ptr _ _)), (7, (.d _)), (8, (.d _))], G [((2, u1), some (.box 38 _)), ((3, u1), some (.box 36 _)), ((4, u1), some (.box 38 _))]⟩) (sbr rfl rfl) ?_)))))))))))))
        refine l_reg fun u9 hu9 => sv rfl (sv rfl (sv rfl (s_nil (l_nil ?_))))
        obtain rfl := Option.some.inj hz1
        exact ⟨rfl, (), (sbr rfl rfl)⟩
      · refine l_exitN rfl ?_
        obtain rfl := Option.some.inj hz1
        obtain rfl := ez1 _ rfl
        refine ⟨nofun, awl_pop rfl (l_j ?_)⟩
        exact ⟨(), (sbr rfl rfl)⟩
    · rintro _ ⟨g1, q1⟩
      refine l_sub q1 (l_seq (lr (fun u10 hu10 => sv rfl (s_nil (cc rfl h (fun c3 h => ?_) (fun c3 h => ?_))))))
      · refine lr (fun u11 hu11 => sv rfl (sst rfl (gq rfl) [(di 0), (di 0), (.d .nilS), (di 0), (di 0), (di 0), (di 0), (di 0), (di 0), (di 0), (di 0), (di 0), (di 0)] rfl (sv rfl (s_nil (l_ret ?_)))))
        obtain rfl := Option.some.inj h
        exact fin_ok (.inr rfl) (resD2 (res_cellG rfl G_hit (nl rfl) rfl) (res_t rfl) rf_d rf_d) (.tup (.cons (.agg (.cons ⟨(.refl _), rfl⟩ (.cons ⟨(.refl _), rfl⟩ (.cons ⟨DLe.nil, rfl⟩ (.cons ⟨(.refl _), rfl⟩ (.cons ⟨(.refl _), rfl⟩ (.cons ⟨(.refl _), rfl⟩ (.cons ⟨(.refl _), rfl⟩ (.cons ⟨(.refl _), rfl⟩ (.cons ⟨(.refl _), rfl⟩ (.cons ⟨(.refl _), rfl⟩ (.cons ⟨(.refl _), rfl⟩ (.cons ⟨(.refl _), rfl⟩ (.cons ⟨(.refl _), rfl⟩ .nil)))))))))))))) (.cons (.refl _) .nil)))
      · refine l_skip (l_seq (lr (fun u12 hu12 => sp rfl rfl (sl rfl (gq rfl) rfl (sv rfl (s_nil (cc rfl h (fun c4 h => ?_) (fun c4 h => ?_))))))))
        · refine lr (fun u13 hu13 => sv rfl (sst rfl (gq rfl) [(di 0), (di 0), (.d .nilS), (di 0), (di 0), (di 0), (di 0), (di 0), (di 0), (di 0), (di 0), (di 0), (di 0)] rfl (sv rfl (s_nil (l_ret ?_)))))
          obtain rfl := Option.some.inj h
          exact fin_ok (.inr rfl) (resD2 (res_cellG rfl G_hit (nl rfl) rfl) (res_t rfl) rf_d rf_d) (.tup (.cons (.agg (.cons ⟨(.refl _), rfl⟩ (.cons ⟨(.refl _), rfl⟩ (.cons ⟨DLe.nil, rfl⟩ (.cons ⟨(.refl _), rfl⟩ (.cons ⟨(.refl _), rfl⟩ (.cons ⟨(.refl _), rfl⟩ (.cons ⟨(.refl _), rfl⟩ (.cons ⟨(.refl _), rfl⟩ (.cons ⟨(.refl _), rfl⟩ (.cons ⟨(.refl _), rfl⟩ (.cons ⟨(.refl _), rfl⟩ (.cons ⟨(.refl _), rfl⟩ (.cons ⟨(.refl _), rfl⟩ .nil)))))))))))))) (.cons (.refl _) .nil)))
        · refine l_skip (lr (fun u14 hu14 => sd rfl (v_loadG rfl G_hit rfl rfl) (bs h fun v4 hv4 h => s_call rfl rfl all2_refl (ref09_Copy_ok _  _ hv4) (.inl rfl) (sn rfl rfl (sst rfl G_hit (dConvoy v4) rfl (s_nil (lr (fun u15 hu15 => sp rfl rfl (sl rfl (gq rfl) rfl (sp rfl rfl (sl rfl (gq rfl) rfl (sp rfl rfl (sl rfl (gq rfl) rfl (sp rfl rfl (sl rfl (gq rfl) rfl (sp rfl rfl (sl rfl (gq rfl) rfl (sv rfl (sp rfl rfl (sst rfl G_hit [(di v4.Tick), (di v4.Gap), (dl eMate v4.Mates), (di p2.ID), (di p2.S), (di p2.V), (di p2.Len), (di p2.End), (di 0), (di 0), (di 0), (di 0), (di 0)] rfl (s_nil (l_seq (l_seq (l_sub (s0 := ⟨T [(4, (.ptr _ _)), (9, (.ptr _ _))], G [((4, u1), some (.box 38 _)), ((9, u14), some (.box 38 _))]⟩) (sbr rfl rfl) ?_))))))))))))))))))))))))
          refine l_reg fun u16 hu16 => sd rfl (v_loadG rfl (gq rfl) rfl rfl) (bs h fun v5 hv5 h => s_call rfl rfl all2_refl (ref09_Check_ok _  _ hv5) (.inl rfl) (sv rfl (s_nil (lr (fun u17 hu17 => sv rfl (sv rfl (s_nil (cc rfl h (fun c5 h => ?_) (fun c5 h => ?_)))))))))
          · refine lr (fun u18 hu18 => sv rfl (sv rfl (sst rfl G_hit [(di 0), (di 0), (.d .nilS), (di 0), (di 0), (di 0), (di 0), (di 0), (di 0), (di 0), (di 0), (di 0), (di 0)] rfl (sv rfl (s_nil (l_ret ?_))))))
            obtain rfl := Option.some.inj h
            exact fin_ok (.inr rfl) (resD2 (res_cellG rfl G_hit (nl rfl) rfl) (res_t rfl) rf_d rf_d) (.tup (.cons (.agg (.cons ⟨(.refl _), rfl⟩ (.cons ⟨(.refl _), rfl⟩ (.cons ⟨DLe.nil, rfl⟩ (.cons ⟨(.refl _), rfl⟩ (.cons ⟨(.refl _), rfl⟩ (.cons ⟨(.refl _), rfl⟩ (.cons ⟨(.refl _), rfl⟩ (.cons ⟨(.refl _), rfl⟩ (.cons ⟨(.refl _), rfl⟩ (.cons ⟨(.refl _), rfl⟩ (.cons ⟨(.refl _), rfl⟩ (.cons ⟨(.refl _), rfl⟩ (.cons ⟨(.refl _), rfl⟩ .nil)))))))))))))) (.cons (.refl _) .nil)))
          · refine l_skip (lr (fun u19 hu19 => sd rfl (v_loadG rfl (gq rfl) rfl rfl) (sst rfl G_hit [(di v4.Tick), (di v4.Gap), (dl eMate v4.Mates), (di p2.ID), (di p2.S), (di p2.V), (di p2.Len), (di p2.End), (di 0), (di 0), (di 0), (di 0), (di 0)] rfl (sv rfl (s_nil (l_ret ?_))))))
            obtain rfl := Option.some.inj h
            exact fin_ok (.inr rfl) (resD2 (res_cellG rfl G_hit (nl rfl) rfl) (res_t rfl) rf_d rf_d) (.refl _)

noncomputable def slices_Equal_Mate_Mate_l1 (p1 : (List Mate)) (p2 : (List Mate)) (x1 : Int) : Option (Stp Int (Sum Unit Bool)) :=
  cond (decide (x1 < (p1.length : Int))) ((geti p1 x1).bind fun v1 => (geti p2 x1).bind fun v2 => cond (!(v1.ID == v2.ID && (v1.S == v2.S && (v1.V == v2.V && (v1.Len == v2.Len && (v1.Ahead == v2.Ahead && (v1.Guess_.R == v2.Guess_.R && (v1.Guess_.V == v2.Guess_.V && (v1.Trust == v2.Trust && (v1.Ward == v2.Ward && (v1.WardGuess.R == v2.WardGuess.R && (v1.WardGuess.V == v2.WardGuess.V && (v1.Until == v2.Until && true))))))))))))) (some (.out (.inr false))) (some (.go (w64 (x1 + 1))))) (some (.out (.inl ())))
noncomputable def slices_Equal_Mate_Mate (p1 : (List Mate)) (p2 : (List Mate)) : Option Bool :=
  cond ((p1.length : Int) != (p2.length : Int)) (some false) (thenS (loop (slices_Equal_Mate_Mate_l1 p1 p2) 0) (fun _ => some true) (fun r => some r))

/-- slices.Equal[[]kerbstone/api.Mate,kerbstone/api.Mate] -/
def ac_slices_Equal_Mate_Mate : AC := (.seq (.reg [oo 4 (.mv (.c zf))]) (.seq (.seq (.reg [oo 6 (.mv (.t 0)), oo 7 (.len (.t 6)), oo 8 (.mv (.t 1)), oo 9 (.len (.t 8)), oo 10 (.bin .neq (.t 7) (.t 9))]) (.cond (.t 10) (.seq (.reg [oo 4 (.mv (.c zf))]) .ret) .skip)) (.seq (.seq (.reg [oo 11 (.mv (.t 0)), oo 12 (.len (.t 11)), oo 13 (.mv (ci 0))]) (.block 0 (.loop (.seq (.reg [oo 14 (.bin .lss (.t 13) (.t 12))]) (.seq (.cond (.t 14) .skip (.exit 0)) (.seq (.block 1 (.seq (.reg [oo 15 (.mv (.t 13)), oo 5 (.mv (.t 15))]) (.seq (.draw [oo 16 (.mv (.t 0)), oo 17 (.mv (.t 5)), oo 18 (.idxS 12 (.t 16) (.t 17)), oo 19 (.load 12 true (.t 18)), oo 20 (.mv (.t 1)), oo 21 (.mv (.t 5)), oo 22 (.idxS 12 (.t 20) (.t 21)), oo 23 (.load 12 true (.t 22)), oo 24 (.eqA true [false, false, false, false, false, false, false, true, false, false, false, false] (.t 19) (.t 23))] []) (.cond (.t 24) (.seq (.reg [oo 4 (.mv (.c zf))]) .ret) .skip)))) (.reg [oo 25 (.bin .add (.t 13) (ci 1)), oo 13 (.mv (.t 25))]))))))) (.seq (.reg [oo 4 (.mv (.c (.v (.bool true))))]) .ret))))
theorem fn_slices_Equal_Mate_Mate : FnOK Try.prog 82 26 [.t 4] ac_slices_Equal_Mate_Mate := ⟨_, _, Try.func82, rfl, Try.ntmps82, by kernel_rfl, ⟨fun _ => [], by kernel_rfl⟩, by kernel_rfl⟩
set_option maxHeartbeats 4000000 in
theorem slices_Equal_Mate_Mate_ok (p1 : (List Mate)) (p2 : (List Mate)) (r : Bool) (h : slices_Equal_Mate_Mate p1 p2 = some r) : PCall Try.prog 82 [(.list (List.map eMate p1)), (.list (List.map eMate p2))] (bo r) := by
  refine l_call fn_slices_Equal_Mate_Mate (nl rfl) ?_
  unfold slices_Equal_Mate_Mate at h
  unfold ac_slices_Equal_Mate_Mate
  refine l_sub (s0 := ⟨T [(0, (.d _)), (1, (.d _))], G []⟩) (sbr rfl rfl) ?_
  refine lr (fun u1 hu1 => sv rfl (s_nil (l_seq (lr (fun u2 hu2 => sv rfl (sd rfl (v_len rfl) (sv rfl (sd rfl (v_len rfl) (sv rfl (s_nil (cc rfl h (fun c1 h => ?_) (fun c1 h => ?_))))))))))))
  · refine lr (fun u3 hu3 => sv rfl (s_nil (l_ret ?_)))
    obtain rfl := Option.some.inj h
    exact fin_ok (.inr rfl) (resD1 (res_t rfl) rf_d) (.refl _)
  · refine l_skip (l_seq (lr (fun u4 hu4 => sv rfl (sd rfl (v_len rfl) (sv rfl (s_nil (js h fun z1 hz1 h => l_join (fun s => ∃ (y1 : Unit) (g1 : Unit), z1 = .inl y1 ∧ Sb ⟨T [], G []⟩ s) ?_ ?_)))))))
    · refine l_block (l_loop (slices_Equal_Mate_Mate_l1 p1 p2) (fun (x1 : Int) (g2 : Unit) => ⟨T [(0, (dl eMate p1)), (1, (dl eMate p2)), (12, (di (p1.length : Int))), (13, (di x1))], G []⟩) 0 () _ hz1 (sbr rfl rfl) ?_)
      intro x1 g2 z2 hz2 ez2
      unfold slices_Equal_Mate_Mate_l1 at hz2
      refine lr (fun u5 hu5 => sv rfl (s_nil (l_seq (cc rfl hz2 (fun c2 hz2 => ?_) (fun c2 hz2 => ?_)))))
      · refine l_skip (l_seq (l_block (lr (fun u6 hu6 => sv rfl (sv rfl (s_nil (l_seq (l_draw rfl fun u7 hu7 => sv rfl (sv rfl (bs hz2 fun v1 hv1 hz2 => sd rfl (v_idx rfl rfl hv1 rfl) (sd rfl (v_loadLG rfl hv1 rfl rfl) (sv rfl (sv rfl (bs hz2 fun v2 hv2 hz2 => sd rfl (v_idx rfl rfl hv2 rfl) (sd rfl (v_loadLG rfl hv2 rfl rfl) (s_val (.d (bo (!(v1.ID == v2.ID && (v1.S == v2.S && (v1.V == v2.V && (v1.Len == v2.Len && (v1.Ahead == v2.Ahead && (v1.Guess_.R == v2.Guess_.R && (v1.Guess_.V == v2.Guess_.V && (v1.Trust == v2.Trust && (v1.Ward == v2.Ward && (v1.WardGuess.R == v2.WardGuess.R && (v1.WardGuess.V == v2.WardGuess.V && (v1.Until == v2.Until && true))))))))))))))) rfl rfl (s_nil (cc rfl hz2 (fun c3 hz2 => ?_) (fun c3 hz2 => ?_)))))))))))))))))))
        · refine lr (fun u8 hu8 => sv rfl (s_nil (l_ret ?_)))
          obtain rfl := Option.some.inj hz2
          obtain rfl := ez2 _ rfl
          refine ⟨nofun, awl_ret ?_⟩
          rw [Sum.elim_inr] at h
          obtain rfl := Option.some.inj h
          exact fin_ok (.inr rfl) (resD1 (res_t rfl) rf_d) (.refl _)
        · refine l_skip (l_end (l_reg fun u9 hu9 => sv rfl (sv rfl (s_nil (l_nil ?_)))))
          obtain rfl := Option.some.inj hz2
          exact ⟨rfl, (), (sbr rfl rfl)⟩
      · refine l_exitN rfl ?_
        obtain rfl := Option.some.inj hz2
        obtain rfl := ez2 _ rfl
        refine ⟨nofun, awl_pop rfl (l_j ?_)⟩
        exact ⟨_, (), rfl, (sbr rfl rfl)⟩
    · rintro _ ⟨y1, g1, rfl, q1⟩
      rw [Sum.elim_inl] at h
      refine l_sub q1 (lr (fun u10 hu10 => sv rfl (s_nil (l_ret ?_))))
      obtain rfl := Option.some.inj h
      exact fin_ok (.inr rfl) (resD1 (res_t rfl) rf_d) (.refl _)

noncomputable def convoy_Same (p1 : Convoy) (p2 : Convoy) : Option Bool :=
  ((cond (((p1.Tick == p2.Tick) && (p1.Gap == p2.Gap)) && (p1.Guest_.ID == p2.Guest_.ID && (p1.Guest_.S == p2.Guest_.S && (p1.Guest_.V == p2.Guest_.V && (p1.Guest_.Len == p2.Guest_.Len && (p1.Guest_.End == p2.Guest_.End && (p1.Guest_.Ahead == p2.Guest_.Ahead && (p1.Guest_.Guess_.R == p2.Guest_.Guess_.R && (p1.Guest_.Guess_.V == p2.Guest_.Guess_.V && (p1.Guest_.From == p2.Guest_.From && (p1.Guest_.Until == p2.Guest_.Until && true))))))))))) (slices_Equal_Mate_Mate p1.Mates p2.Mates) (some default))).bind fun v1 => some ((((p1.Tick == p2.Tick) && (p1.Gap == p2.Gap)) && (p1.Guest_.ID == p2.Guest_.ID && (p1.Guest_.S == p2.Guest_.S && (p1.Guest_.V == p2.Guest_.V && (p1.Guest_.Len == p2.Guest_.Len && (p1.Guest_.End == p2.Guest_.End && (p1.Guest_.Ahead == p2.Guest_.Ahead && (p1.Guest_.Guess_.R == p2.Guest_.Guess_.R && (p1.Guest_.Guess_.V == p2.Guest_.Guess_.V && (p1.Guest_.From == p2.Guest_.From && (p1.Guest_.Until == p2.Guest_.Until && true))))))))))) && v1)

/-- kerbstone/convoy.Same -/
def ac_convoy_Same : AC := (.seq (.reg [oo 2 (.box 38 true (.t 0)), oo 3 (.box 38 true (.t 1)), oo 4 (.mv (.c zf))]) (.seq (.reg [oo 5 (.fieldA 0 (.t 2)), oo 6 (.load 1 false (.t 5)), oo 7 (.fieldA 0 (.t 3)), oo 8 (.load 1 false (.t 7)), oo 9 (.bin .eql (.t 6) (.t 8)), oo 10 (.mv (.t 9)), og 11 (.fieldA 1 (.t 2)) 10, og 12 (.load 1 false (.t 11)) 10, og 13 (.fieldA 1 (.t 3)) 10, og 14 (.load 1 false (.t 13)) 10, og 15 (.bin .eql (.t 12) (.t 14)) 10, oo 16 (.pick (.t 10) (.t 15) (.c zf)), oo 17 (.mv (.t 16)), og 18 (.fieldA 3 (.t 2)) 17, og 19 (.load 10 true (.t 18)) 17, og 20 (.fieldA 3 (.t 3)) 17, og 21 (.load 10 true (.t 20)) 17, og 22 (.eqA false [false, false, false, false, false, false, false, false, false, false] (.t 19) (.t 21)) 17, oo 23 (.pick (.t 17) (.t 22) (.c zf)), oo 24 (.mv (.t 23)), og 25 (.fieldA 2 (.t 2)) 24, og 26 (.load 1 false (.t 25)) 24, og 27 (.fieldA 2 (.t 3)) 24, og 28 (.load 1 false (.t 27)) 24, og 29 (.call (cf 82) [(.t 26), (.t 28)]) 24, oo 30 (.pick (.t 24) (.t 29) (.c zf)), oo 4 (.mv (.t 30))]) .ret))
theorem fn_convoy_Same : FnOK Try.prog 47 31 [.t 4] ac_convoy_Same := ⟨_, _, Try.func47, rfl, Try.ntmps47, by kernel_rfl, ⟨fun _ => [], by kernel_rfl⟩, by kernel_rfl⟩
theorem convoy_Same_ok (p1 : Convoy) (p2 : Convoy) (r : Bool) (h : convoy_Same p1 p2 = some r) : PCall Try.prog 47 [(.agg (eConvoy p1)), (.agg (eConvoy p2))] (bo r) := by
  refine l_call fn_convoy_Same (nl rfl) ?_
  unfold convoy_Same at h
  unfold ac_convoy_Same
  refine l_sub (s0 := ⟨T [(0, (.d _)), (1, (.d _))], G []⟩) (sbr rfl rfl) ?_
  refine lr (fun u1 hu1 => sn rfl rfl (sn rfl rfl (sv rfl (s_nil (lr (fun u2 hu2 => sp rfl rfl (sl rfl (gq rfl) rfl (sp rfl rfl (sl rfl G_hit rfl (sv rfl (sv rfl (gp (gw_t rfl) (fun _ => rfl) (gt rfl (vl rfl (gq rfl) rfl) (gp (gw_t rfl) (fun _ => rfl) (gt rfl (vl rfl G_hit rfl) (gt rfl (fun w5 => (v_bin (gd_pos w5) (gd_pos w5) rfl)) (sa rfl rfl rfl (sv rfl (gp (gw_t rfl) (fun _ => rfl) (gt rfl (fun w7 => (v_loadG (gd_pos w7) (gq rfl) rfl rfl)) (gp (gw_t rfl) (fun _ => rfl) (gt rfl (fun w9 => (v_loadG (gd_pos w9) G_hit rfl rfl)) (g_val _ (.d (bo (p1.Guest_.ID == p2.Guest_.ID && (p1.Guest_.S == p2.Guest_.S && (p1.Guest_.V == p2.Guest_.V && (p1.Guest_.Len == p2.Guest_.Len && (p1.Guest_.End == p2.Guest_.End && (p1.Guest_.Ahead == p2.Guest_.Ahead && (p1.Guest_.Guess_.R == p2.Guest_.Guess_.R && (p1.Guest_.Guess_.V == p2.Guest_.Guess_.V && (p1.Guest_.From == p2.Guest_.From && (p1.Guest_.Until == p2.Guest_.Until && true)))))))))))) rfl (gw_t rfl) (fun w10 => (by simp only [gd_pos w10]; rfl)) ?_)))))))))))))))))))))))
  refine sa rfl rfl rfl (sv rfl (gp (gw_t rfl) (fun _ => rfl) (gt rfl (vl rfl (gq rfl) rfl) (gp (gw_t rfl) (fun _ => rfl) (gt rfl (vl rfl G_hit rfl) (bs h fun v1 hv1 h => g_call _ (bo v1) (gw_t rfl) (fun w15 => ⟨_, [(dl eMate p1.Mates), (dl eMate p2.Mates)], _, _, (by simp only [gd_pos w15]; rfl), rfl, all2_refl, slices_Equal_Mate_Mate_ok _ _  _ (cond_t w15 hv1), (.inl rfl)⟩) ?_))))))
  refine sa rfl rfl rfl (sv rfl (s_nil (l_ret ?_)))
  obtain rfl := Option.some.inj h
  exact fin_ok (.inr rfl) (resD1 (res_t rfl) rf_d) (.refl _)


theorem slices_Clone_Mate_Matek_ok (p1 : List Mate) (r : List Mate) (h : slices_Clone_Mate_Mate p1 = some r) : MCall Try.prog 83 [.d (.list (List.map eMate p1))] [] (oE r (800000, 0)) [] [oB 65 12 eMate r] := by
  cases p1 with
  | nil =>
    have hr : r = [] := by obtain ⟨_, rfl⟩ := appc_some h; rfl
    subst hr
    exact MCall.ofP (slices_Clone_Mate_Mate_ok [] [] h)
  | cons x xs =>
  have hr : appc ([] : List Mate) (x :: xs) = some r := h
  have e := (appc_some hr).2
  rw [List.nil_append] at e
  rw [oE_ne (appc_ne hr), oB_ne (appc_ne hr)]
  refine m_callT fn_slices_Clone_Mate_Mate rfl (Nat.le_of_ble_eq_true rfl) ?_
  unfold ac_slices_Clone_Mate_Mate
  refine (l_sub (s0 := ⟨T [(0, .d (.list (List.map eMate (x :: xs))))], G []⟩) (sb_of ⟨.of rfl, trivial⟩ trivial) ?_)
  refine l_seq ?_
  refine l_reg fun u1 hu1 => ?_
  refine s_val (.d .nilS) rfl rfl ?_
  refine s_nil ?_
  refine l_seq ?_
  refine l_seq ?_
  refine l_reg fun u2 hu2 => ?_
  refine s_val (.d (.list (List.map eMate (x :: xs)))) rfl rfl ?_
  refine s_val (.d (bo false)) rfl rfl ?_
  refine s_nil ?_
  refine l_condF rfl ?_
  refine l_skip ?_
  refine l_seq ?_
  refine l_reg fun u3 hu3 => ?_
  refine s_new (.sl _) (.arr 65 12 (List.map eMate ([] : List Mate))) rfl rfl ?_
  refine s_val (.d (.list (List.map eMate (x :: xs)))) rfl rfl ?_
  refine s_append eMate _ [] (x :: xs) _ (elems_list (fun _ => rfl)) rfl G_hit hr ?_
  refine s_val (.sl _) rfl rfl ?_
  refine s_nil ?_
  refine l_ret ?_
  exact fin_m (v1 := .sl (7, u3)) (.inr rfl) (resA1 (res_t rfl)) (.of rfl) [((7, u3), some (.arr 65 12 (List.map eMate r)))] (sbG_some G_hit (.of rfl) trivial) (mpost_of [(7, u3)] rfl trivial ⟨G_hit, trivial⟩ rfl (by simp only [List.mem_cons, List.not_mem_nil, or_false, forall_eq]; exact fun i => old_ne rfl i) nd1)

noncomputable def convoy_Copy_mk (p1 : Convoy) : Option Convoy :=
  (slices_Clone_Mate_Mate p1.Mates).bind fun v1 => some (Convoy.mk p1.Tick p1.Gap v1 p1.Guest_)

/-- kerbstone/convoy.Copy -/
def ac_convoy_Copy_mk : AC := (.seq (.reg [oo 1 (.box 38 true (.t 0)), oo 2 (.alloc 38 [z0, z0, .nilS, z0, z0, z0, z0, z0, z0, z0, z0, z0, z0])]) (.seq (.reg [oo 3 (.fieldA 2 (.t 1)), oo 4 (.load 1 false (.t 3)), oo 5 (.ocall 10010020 (cf 83) [(.t 4)]), oo 6 (.fieldA 2 (.t 1)), oe (.store 1 (.t 6) (.t 5))]) (.seq (.reg [oo 7 (.load 13 true (.t 1)), oe (.store 13 (.t 2) (.t 7))]) .ret)))
theorem fn_convoy_Copy_mk : FnOK Try.prog 48 8 [.cell 2 13 true] ac_convoy_Copy_mk := ⟨_, _, Try.func48, rfl, Try.ntmps48, by kernel_rfl, ⟨fun r => if r == 1 then [1001002] else [], by kernel_rfl⟩, by kernel_rfl⟩
theorem convoy_Copy_mk_ok (p1 : Convoy) (r : Convoy) (h : convoy_Copy_mk p1 = some r) : MCall Try.prog 48 [(.d (.agg (eConvoy p1)))] [] (mkAgg [(di r.Tick), (di r.Gap), (oE r.Mates (800000, 0)), (di r.Guest_.ID), (di r.Guest_.S), (di r.Guest_.V), (di r.Guest_.Len), (di r.Guest_.End), (di r.Guest_.Ahead), (di r.Guest_.Guess_.R), (di r.Guest_.Guess_.V), (di r.Guest_.From), (di r.Guest_.Until)]) [] [oB 65 12 eMate r.Mates] := by
  refine m_callT fn_convoy_Copy_mk (by generalize r.Mates = x1; cases x1 <;> rfl) (nl rfl) ?_
  unfold convoy_Copy_mk at h
  unfold ac_convoy_Copy_mk
  refine l_sub (s0 := ⟨T [(0, (.d _))], G []⟩) (sbr rfl rfl) ?_
  refine lr (fun u1 hu1 => sn rfl rfl (sn rfl rfl (s_nil (lr (fun u2 hu2 => sp rfl rfl (sl rfl (gq rfl) rfl (bs h fun v1 hv1 h => s_oc (v := oE v1 (10010020, u2)) (us := [(10010020, u2)]) (oc_mo (slices_Clone_Mate_Matek_ok _ _ hv1) [] [] _ (((10010020, u2), oB 65 12 eMate v1) :: _) rfl all2_av rfl live_nil trivial (fun _ h => h) List.nodup_nil (by generalize v1 = x1; cases x1 <;> rfl) rfl (upsN_o (rfl)) rfl) ?_)))))))
  refine sp rfl rfl (s_store _ _ _ _ _ (cellsV_oE _ _) rfl rfl (gq rfl) (nl rfl) [(di p1.Tick), (di p1.Gap), (oE v1 (10010020, u2)), (di p1.Guest_.ID), (di p1.Guest_.S), (di p1.Guest_.V), (di p1.Guest_.Len), (di p1.Guest_.End), (di p1.Guest_.Ahead), (di p1.Guest_.Guess_.R), (di p1.Guest_.Guess_.V), (di p1.Guest_.From), (di p1.Guest_.Until)] rfl (s_nil (lr (fun u3 hu3 => s_val (mkAgg [(di p1.Tick), (di p1.Gap), (oE v1 (10010020, u2)), (di p1.Guest_.ID), (di p1.Guest_.S), (di p1.Guest_.V), (di p1.Guest_.Len), (di p1.Guest_.End), (di p1.Guest_.Ahead), (di p1.Guest_.Guess_.R), (di p1.Guest_.Guess_.V), (di p1.Guest_.From), (di p1.Guest_.Until)]) rfl (v_loadG rfl G_hit rfl rfl) (s_store _ _ _ _ _ (cellsV_mkAgg _) rfl rfl (gq rfl) (nl rfl) [(di p1.Tick), (di p1.Gap), (oE v1 (10010020, u2)), (di p1.Guest_.ID), (di p1.Guest_.S), (di p1.Guest_.V), (di p1.Guest_.Len), (di p1.Guest_.End), (di p1.Guest_.Ahead), (di p1.Guest_.Guess_.R), (di p1.Guest_.Guess_.V), (di p1.Guest_.From), (di p1.Guest_.Until)] rfl (s_nil (l_ret ?_)))))))
  obtain rfl := Option.some.inj h
  exact fin_m (v1 := (mkAgg [(di p1.Tick), (di p1.Gap), (oE v1 (10010020, u2)), (di p1.Guest_.ID), (di p1.Guest_.S), (di p1.Guest_.V), (di p1.Guest_.Len), (di p1.Guest_.End), (di p1.Guest_.Ahead), (di p1.Guest_.Guess_.R), (di p1.Guest_.Guess_.V), (di p1.Guest_.From), (di p1.Guest_.Until)])) (.inr rfl) (resA1 (res_cellG rfl G_hit (Nat.le_of_ble_eq_true rfl) rfl)) (.of rfl) [((10010020, u2), oB 65 12 eMate v1)] (sbG_oB (gq rfl) trivial) (mpost_o [(10010020, u2)] (by generalize v1 = x1; cases x1 <;> rfl) trivial ⟨(G_hit).trans oB_ren.symm, trivial⟩ rfl (List.forall_mem_cons.2 ⟨fun i hi => old_far rfl hi, (fun _ h => nomatch h)⟩) nd1)

noncomputable def convoy_Ramp_mk (p1 : Convoy) (p2 : Guest) : Option (Convoy × Int) :=
  (convoy_Check p1).bind fun v1 => cond (v1 != 0) (some ((Convoy.mk 0 0 [] (Guest.mk 0 0 0 0 0 0 (Guess.mk 0 0) 0 0)), v1)) (((cond ((!(p1.Guest_.ID != 0)) && (p2.ID != 0)) (slices_ContainsFunc_Mate_Mate_convoy_Ramp_1b p1.Mates p2) (some default))).bind fun v2 => cond ((p1.Guest_.ID != 0) || ((p2.ID != 0) && v2)) (some ((Convoy.mk 0 0 [] (Guest.mk 0 0 0 0 0 0 (Guess.mk 0 0) 0 0)), 9)) (cond (p2.ID == 0) (some ((Convoy.mk 0 0 [] (Guest.mk 0 0 0 0 0 0 (Guess.mk 0 0) 0 0)), 2)) ((convoy_Copy_mk p1).bind fun v3 => (convoy_Check (Convoy.mk v3.Tick v3.Gap v3.Mates (Guest.mk p2.ID p2.S p2.V p2.Len p2.End 0 (Guess.mk 0 0) 0 0))).bind fun v4 => cond (v4 != 0) (some ((Convoy.mk 0 0 [] (Guest.mk 0 0 0 0 0 0 (Guess.mk 0 0) 0 0)), v4)) (some ((Convoy.mk v3.Tick v3.Gap v3.Mates (Guest.mk p2.ID p2.S p2.V p2.Len p2.End 0 (Guess.mk 0 0) 0 0)), 0)))))

/-- kerbstone/convoy.Ramp -/
def ac_convoy_Ramp_mk : AC := (.seq (.reg [oo 2 (.box 38 true (.t 0)), oo 3 (.box 36 true (.t 1)), oo 4 (.alloc 38 [z0, z0, .nilS, z0, z0, z0, z0, z0, z0, z0, z0, z0, z0]), oo 5 (.mv (ci 0))]) (.seq (.seq (.reg [oo 10 (.load 13 true (.t 2)), oo 11 (.call (cf 32) [(.t 10)]), oo 6 (.mv (.t 11))]) (.seq (.reg [oo 12 (.mv (.t 6)), oo 13 (.bin .neq (.t 12) (ci 0))]) (.cond (.t 13) (.seq (.reg [oo 14 (.build [z0, z0, .nilS, z0, z0, z0, z0, z0, z0, z0, z0, z0, z0] []), oo 15 (.mv (.t 6)), oe (.store 13 (.t 4) (.t 14)), oo 5 (.mv (.t 15))]) .ret) .skip))) (.seq (.reg [oo 16 (.mkfn (.func 81) [] [(.t 3)]), oo 7 (.mv (.t 16))]) (.seq (.seq (.reg [oo 17 (.fieldA 3 (.t 2)), oo 18 (.fieldA 0 (.t 17)), oo 19 (.load 1 false (.t 18)), oo 20 (.bin .neq (.t 19) (ci 0)), oo 21 (.mv (.t 20)), oh 22 (.fieldA 0 (.t 3)) 21, oh 23 (.load 1 false (.t 22)) 21, oh 24 (.bin .neq (.t 23) (ci 0)) 21, oh 25 (.mv (.t 24)) 21, og 26 (.fieldA 2 (.t 2)) 25, og 27 (.load 1 false (.t 26)) 25, og 28 (.mv (.t 7)) 25, og 29 (.call (cf 77) [(.t 27), (.t 28)]) 25, oh 30 (.pick (.t 25) (.t 29) (.c zf)) 21, oo 31 (.pick (.t 21) (.c (.v (.bool true))) (.t 30))]) (.cond (.t 31) (.seq (.reg [oo 32 (.build [z0, z0, .nilS, z0, z0, z0, z0, z0, z0, z0, z0, z0, z0] []), oe (.store 13 (.t 4) (.t 32)), oo 5 (.mv (ci 9))]) .ret) .skip)) (.seq (.seq (.reg [oo 33 (.fieldA 0 (.t 3)), oo 34 (.load 1 false (.t 33)), oo 35 (.bin .eql (.t 34) (ci 0))]) (.cond (.t 35) (.seq (.reg [oo 36 (.build [z0, z0, .nilS, z0, z0, z0, z0, z0, z0, z0, z0, z0, z0] []), oe (.store 13 (.t 4) (.t 36)), oo 5 (.mv (ci 2))]) .ret) .skip)) (.seq (.reg [oo 37 (.load 13 true (.t 2)), oo 38 (.ocall 10090010 (cf 48) [(.t 37)]), oo 8 (.alloc 38 [z0, z0, .nilS, z0, z0, z0, z0, z0, z0, z0, z0, z0, z0]), oe (.store 13 (.t 8) (.t 38))]) (.seq (.reg [oo 39 (.fieldA 0 (.t 3)), oo 40 (.load 1 false (.t 39)), oo 41 (.fieldA 1 (.t 3)), oo 42 (.load 1 false (.t 41)), oo 43 (.fieldA 2 (.t 3)), oo 44 (.load 1 false (.t 43)), oo 45 (.fieldA 3 (.t 3)), oo 46 (.load 1 false (.t 45)), oo 47 (.fieldA 4 (.t 3)), oo 48 (.load 1 false (.t 47)), oo 49 (.build [z0, z0, z0, z0, z0, z0, z0, z0, z0, z0] [(0, 1, (.t 40)), (1, 1, (.t 42)), (2, 1, (.t 44)), (3, 1, (.t 46)), (4, 1, (.t 48))]), oo 50 (.fieldA 3 (.t 8)), oe (.store 10 (.t 50) (.t 49))]) (.seq (.seq (.reg [oo 51 (.load 13 true (.t 8)), oo 52 (.call (cf 32) [(.t 51)]), oo 9 (.mv (.t 52))]) (.seq (.reg [oo 53 (.mv (.t 9)), oo 54 (.bin .neq (.t 53) (ci 0))]) (.cond (.t 54) (.seq (.reg [oo 55 (.build [z0, z0, .nilS, z0, z0, z0, z0, z0, z0, z0, z0, z0, z0] []), oo 56 (.mv (.t 9)), oe (.store 13 (.t 4) (.t 55)), oo 5 (.mv (.t 56))]) .ret) .skip))) (.seq (.reg [oo 57 (.load 13 true (.t 8)), oe (.store 13 (.t 4) (.t 57)), oo 5 (.mv (ci 0))]) .ret)))))))))
theorem fn_convoy_Ramp_mk : FnOK Try.prog 45 58 [.cell 4 13 true, .t 5] ac_convoy_Ramp_mk := ⟨_, _, Try.func45, rfl, Try.ntmps45, by kernel_rfl, ⟨fun r => if r == 9 then [1009001] else [], by kernel_rfl⟩, by kernel_rfl⟩
set_option maxHeartbeats 4000000 in
theorem convoy_Ramp_mk_ok (p1 : Convoy) (p2 : Guest) (r : (Convoy × Int)) (h : convoy_Ramp_mk p1 p2 = some r) : MCall Try.prog 45 [(.d (.agg (eConvoy p1))), (.d (.agg (eGuest p2)))] [] (.tup [(mkAgg [(di r.1.Tick), (di r.1.Gap), (oE r.1.Mates (800000, 0)), (di r.1.Guest_.ID), (di r.1.Guest_.S), (di r.1.Guest_.V), (di r.1.Guest_.Len), (di r.1.Guest_.End), (di r.1.Guest_.Ahead), (di r.1.Guest_.Guess_.R), (di r.1.Guest_.Guess_.V), (di r.1.Guest_.From), (di r.1.Guest_.Until)]), (di r.2)]) [] [oB 65 12 eMate r.1.Mates] := by
  refine m_callT fn_convoy_Ramp_mk (by generalize r.1.Mates = x1; cases x1 <;> rfl) (nl rfl) ?_
  unfold convoy_Ramp_mk at h
  unfold ac_convoy_Ramp_mk
  refine l_sub (s0 := ⟨T [(0, (.d _)), (1, (.d _))], G []⟩) (sbr rfl rfl) ?_
  refine lr (fun u1 hu1 => sn rfl rfl (sn rfl rfl (sn rfl rfl (sv rfl (s_nil (l_seq (lr (fun u2 hu2 => sd rfl (v_loadG rfl (gq rfl) rfl rfl) (bs h fun v1 hv1 h => s_call rfl rfl all2_refl (convoy_Check_ok _  _ hv1) (.inl rfl) (sv rfl (s_nil (lr (fun u3 hu3 => sv rfl (sv rfl (s_nil (cc rfl h (fun c1 h => ?_) (fun c1 h => ?_)))))))))))))))))
  · refine lr (fun u4 hu4 => sv rfl (sv rfl (sst rfl G_hit [(di 0), (di 0), (.d .nilS), (di 0), (di 0), (di 0), (di 0), (di 0), (di 0), (di 0), (di 0), (di 0), (di 0)] rfl (sv rfl (s_nil (l_ret ?_))))))
    obtain rfl := Option.some.inj h
    exact fin_m (v1 := (.tup [(mkAgg [(di 0), (di 0), (oE ([] : List Mate) (700000, 0)), (di 0), (di 0), (di 0), (di 0), (di 0), (di 0), (di 0), (di 0), (di 0), (di 0)]), (di v1)])) (.inr rfl) (resA2 (res_cellG rfl G_hit (Nat.le_of_ble_eq_true rfl) rfl) (res_t rfl)) (AVle.tup (.cons (AVle.dagg (.cons ⟨.refl _, rfl⟩ (.cons ⟨.refl _, rfl⟩ (.cons ⟨DLe.nil, rfl⟩ (.cons ⟨.refl _, rfl⟩ (.cons ⟨.refl _, rfl⟩ (.cons ⟨.refl _, rfl⟩ (.cons ⟨.refl _, rfl⟩ (.cons ⟨.refl _, rfl⟩ (.cons ⟨.refl _, rfl⟩ (.cons ⟨.refl _, rfl⟩ (.cons ⟨.refl _, rfl⟩ (.cons ⟨.refl _, rfl⟩ (.cons ⟨.refl _, rfl⟩ .nil)))))))))))))) (.cons (.of rfl) .nil))) [((700000, 0), oB 65 12 eMate ([] : List Mate))] (sbG_nil trivial) (mpost_o [(700000, 0)] rfl trivial ⟨(G_hit).trans oB_ren.symm, trivial⟩ rfl (List.forall_mem_cons.2 ⟨fun i hi => old_far rfl hi, (fun _ h => nomatch h)⟩) nd1)
  · refine l_skip (lr (fun u5 hu5 => s_val (.fn _ _ _) rfl rfl (s_val (.fn _ _ _) rfl rfl (s_nil (l_seq (lr (fun u6 hu6 => sp rfl rfl (sp rfl rfl (sl rfl (gq rfl) rfl (sv rfl (sv rfl (gp (gw_f rfl) (fun _ => rfl) (gf rfl (vl rfl (gq rfl) rfl) (gf rfl (vb rfl rfl rfl) (gf rfl (fun w4 => (v_mv (gd_pos w4))) (g_val _ (.ptr _ _) rfl (gw_gt rfl) (fun _ => rfl) (gv rfl (gw_gt rfl) (vl rfl (gq rfl) rfl) (g_val _ (.fn _ _ _) rfl (gw_gt rfl) (fun _ => rfl) (bs h fun v2 hv2 h => g_call _ (bo v2) (gw_gt rfl) (fun w8 => ⟨_, [(dl eMate p1.Mates), (.fn (.func 81) [] [(.ptr (3, u1) 0)])], _, _, (by simp only [gd_pos w8]; rfl), (rfL_cons rf_d (rfL_cons (rf_fn rfL_nil (rfL_cons (rf_ptr (gq rfl) (rfL_cons rf_d (rfL_cons rf_d (rfL_cons rf_d (rfL_cons rf_d (rfL_cons rf_d (rfL_cons rf_d (rfL_cons rf_d (rfL_cons rf_d (rfL_cons rf_d (rfL_cons rf_d rfL_nil))))))))))) rfL_nil)) rfL_nil)), all2_refl, slices_ContainsFunc_Mate_Mate_convoy_Ramp_1b_ok _ _  _ (cond_t w8 hv2), (.inr rfl)⟩) ?_)))))))))))))))))))
    refine gf rfl (fun w9 => (v_and (gd_pos w9) (fun hc => gd_pos (and_i w9 hc)) rfl)) (sd rfl (v_or rfl rfl (fun hc => gd_pos (not_t hc))) (s_nil (cc rfl h (fun c2 h => ?_) (fun c2 h => ?_))))
    · refine l_seq (l_sub (s0 := ⟨T [(4, (.ptr _ _))], G [((4, u1), some (.box 38 _))]⟩) (sbr rfl rfl) ?_)
      refine l_reg fun u7 hu7 => sv rfl (sst rfl G_hit [(di 0), (di 0), (.d .nilS), (di 0), (di 0), (di 0), (di 0), (di 0), (di 0), (di 0), (di 0), (di 0), (di 0)] rfl (sv rfl (s_nil (l_ret ?_))))
      obtain rfl := Option.some.inj h
      exact fin_m (v1 := (.tup [(mkAgg [(di 0), (di 0), (oE ([] : List Mate) (700000, 0)), (di 0), (di 0), (di 0), (di 0), (di 0), (di 0), (di 0), (di 0), (di 0), (di 0)]), (di 9)])) (.inr rfl) (resA2 (res_cellG rfl G_hit (Nat.le_of_ble_eq_true rfl) rfl) (res_t rfl)) (AVle.tup (.cons (AVle.dagg (.cons ⟨.refl _, rfl⟩ (.cons ⟨.refl _, rfl⟩ (.cons ⟨DLe.nil, rfl⟩ (.cons ⟨.refl _, rfl⟩ (.cons ⟨.refl _, rfl⟩ (.cons ⟨.refl _, rfl⟩ (.cons ⟨.refl _, rfl⟩ (.cons ⟨.refl _, rfl⟩ (.cons ⟨.refl _, rfl⟩ (.cons ⟨.refl _, rfl⟩ (.cons ⟨.refl _, rfl⟩ (.cons ⟨.refl _, rfl⟩ (.cons ⟨.refl _, rfl⟩ .nil)))))))))))))) (.cons (.of rfl) .nil))) [((700000, 0), oB 65 12 eMate ([] : List Mate))] (sbG_nil trivial) (mpost_o [(700000, 0)] rfl trivial ⟨(G_hit).trans oB_ren.symm, trivial⟩ rfl (List.forall_mem_cons.2 ⟨fun i hi => old_far rfl hi, (fun _ h => nomatch h)⟩) nd1)
    · refine l_skip (l_seq (l_seq (l_sub (s0 := ⟨T [(2, (.ptr _ _)), (3, (.ptr _ _)), (4, (.ptr _ _))], G [((2, u1), some (.box 38 _)), ((3, u1), some (.box 36 _)), ((4, u1), some (.box 38 _))]⟩) (sbr rfl rfl) ?_)))
      refine l_reg fun u8 hu8 => sp rfl rfl (sl rfl (gq rfl) rfl (sv rfl (s_nil (cc rfl h (fun c3 h => ?_) (fun c3 h => ?_)))))
      · refine lr (fun u9 hu9 => sv rfl (sst rfl (gq rfl) [(di 0), (di 0), (.d .nilS), (di 0), (di 0), (di 0), (di 0), (di 0), (di 0), (di 0), (di 0), (di 0), (di 0)] rfl (sv rfl (s_nil (l_ret ?_)))))
        obtain rfl := Option.some.inj h
        exact fin_m (v1 := (.tup [(mkAgg [(di 0), (di 0), (oE ([] : List Mate) (700000, 0)), (di 0), (di 0), (di 0), (di 0), (di 0), (di 0), (di 0), (di 0), (di 0), (di 0)]), (di 2)])) (.inr rfl) (resA2 (res_cellG rfl G_hit (Nat.le_of_ble_eq_true rfl) rfl) (res_t rfl)) (AVle.tup (.cons (AVle.dagg (.cons ⟨.refl _, rfl⟩ (.cons ⟨.refl _, rfl⟩ (.cons ⟨DLe.nil, rfl⟩ (.cons ⟨.refl _, rfl⟩ (.cons ⟨.refl _, rfl⟩ (.cons ⟨.refl _, rfl⟩ (.cons ⟨.refl _, rfl⟩ (.cons ⟨.refl _, rfl⟩ (.cons ⟨.refl _, rfl⟩ (.cons ⟨.refl _, rfl⟩ (.cons ⟨.refl _, rfl⟩ (.cons ⟨.refl _, rfl⟩ (.cons ⟨.refl _, rfl⟩ .nil)))))))))))))) (.cons (.of rfl) .nil))) [((700000, 0), oB 65 12 eMate ([] : List Mate))] (sbG_nil trivial) (mpost_o [(700000, 0)] rfl trivial ⟨(G_hit).trans oB_ren.symm, trivial⟩ rfl (List.forall_mem_cons.2 ⟨fun i hi => old_far rfl hi, (fun _ h => nomatch h)⟩) nd1)
      · refine l_skip (lr (fun u10 hu10 => sd rfl (v_loadG rfl G_hit rfl rfl) (bs h fun v3 hv3 h => s_oc (v := mkAgg [(di v3.Tick), (di v3.Gap), (oE v3.Mates (10090010, u10)), (di v3.Guest_.ID), (di v3.Guest_.S), (di v3.Guest_.V), (di v3.Guest_.Len), (di v3.Guest_.End), (di v3.Guest_.Ahead), (di v3.Guest_.Guess_.R), (di v3.Guest_.Guess_.V), (di v3.Guest_.From), (di v3.Guest_.Until)]) (us := [(10090010, u10)]) (oc_mo (convoy_Copy_mk_ok _ _ hv3) [] [] _ (((10090010, u10), oB 65 12 eMate v3.Mates) :: _) rfl all2_av rfl live_nil trivial (fun _ h => h) List.nodup_nil (by generalize v3.Mates = x1; cases x1 <;> rfl) rfl (upsN_o (rfl)) rfl) ?_)))
        refine sn rfl rfl (s_store _ _ _ _ _ (cellsV_mkAgg _) rfl rfl G_hit (nl rfl) [(di v3.Tick), (di v3.Gap), (oE v3.Mates (10090010, u10)), (di v3.Guest_.ID), (di v3.Guest_.S), (di v3.Guest_.V), (di v3.Guest_.Len), (di v3.Guest_.End), (di v3.Guest_.Ahead), (di v3.Guest_.Guess_.R), (di v3.Guest_.Guess_.V), (di v3.Guest_.From), (di v3.Guest_.Until)] rfl (s_nil (lr (fun u11 hu11 => sp rfl rfl (sl rfl (gq rfl) rfl (sp rfl rfl (sl rfl (gq rfl) rfl (sp rfl rfl (sl rfl (gq rfl) rfl (sp rfl rfl (sl rfl (gq rfl) rfl (sp rfl rfl (sl rfl (gq rfl) rfl (sv rfl (sp rfl rfl (sst rfl G_hit [(di v3.Tick), (di v3.Gap), (oE v3.Mates (10090010, u10)), (di p2.ID), (di p2.S), (di p2.V), (di p2.Len), (di p2.End), (di 0), (di 0), (di 0), (di 0), (di 0)] rfl (s_nil (l_seq (l_seq (l_sub (s0 := ⟨T [(4, (.ptr (4, u1) 0)), (8, (.ptr (8, u10) 0))], G [((4, u1), some (.box 38 [(di 0), (di 0), (.d .nilS), (di 0), (di 0), (di 0), (di 0), (di 0), (di 0), (di 0), (di 0), (di 0), (di 0)])), ((8, u10), some (.box 38 [(di v3.Tick), (di v3.Gap), (oE v3.Mates (10090010, u10)), (di p2.ID), (di p2.S), (di p2.V), (di p2.Len), (di p2.End), (di 0), (di 0), (di 0), (di 0), (di 0)])), ((10090010, u10), oB 65 12 eMate v3.Mates)]⟩) (sb_of ⟨.of rfl, .of rfl, trivial⟩ (sbG_some (gq rfl) (.of rfl) (sbG_some G_hit (.of rfl) (sbG_oB (gq rfl) trivial)))) ?_))))))))))))))))))))
        refine l_reg fun u12 hu12 => s_val (mkAgg [(di v3.Tick), (di v3.Gap), (oE v3.Mates (10090010, u10)), (di p2.ID), (di p2.S), (di p2.V), (di p2.Len), (di p2.End), (di 0), (di 0), (di 0), (di 0), (di 0)]) rfl (v_loadG rfl (gq rfl) rfl rfl) (bs h fun v4 hv4 h => s_call rfl (rfL_cons (rf_mkAgg (rfL_cons rf_d (rfL_cons rf_d (rfL_cons (rf_oE (gq rfl)) (rfL_cons rf_d (rfL_cons rf_d (rfL_cons rf_d (rfL_cons rf_d (rfL_cons rf_d (rfL_cons rf_d (rfL_cons rf_d (rfL_cons rf_d (rfL_cons rf_d (rfL_cons rf_d rfL_nil)))))))))))))) rfL_nil) all2_refl (convoy_Check_ok _  _ hv4) (.inr rfl) (sv rfl (s_nil (lr (fun u13 hu13 => sv rfl (sv rfl (s_nil (cc rfl h (fun c4 h => ?_) (fun c4 h => ?_)))))))))
        · refine lr (fun u14 hu14 => sv rfl (sv rfl (sst rfl G_hit [(di 0), (di 0), (.d .nilS), (di 0), (di 0), (di 0), (di 0), (di 0), (di 0), (di 0), (di 0), (di 0), (di 0)] rfl (sv rfl (s_nil (l_ret ?_))))))
          obtain rfl := Option.some.inj h
          exact fin_m (v1 := (.tup [(mkAgg [(di 0), (di 0), (oE ([] : List Mate) (700000, 0)), (di 0), (di 0), (di 0), (di 0), (di 0), (di 0), (di 0), (di 0), (di 0), (di 0)]), (di v4)])) (.inr rfl) (resA2 (res_cellG rfl G_hit (Nat.le_of_ble_eq_true rfl) rfl) (res_t rfl)) (AVle.tup (.cons (AVle.dagg (.cons ⟨.refl _, rfl⟩ (.cons ⟨.refl _, rfl⟩ (.cons ⟨DLe.nil, rfl⟩ (.cons ⟨.refl _, rfl⟩ (.cons ⟨.refl _, rfl⟩ (.cons ⟨.refl _, rfl⟩ (.cons ⟨.refl _, rfl⟩ (.cons ⟨.refl _, rfl⟩ (.cons ⟨.refl _, rfl⟩ (.cons ⟨.refl _, rfl⟩ (.cons ⟨.refl _, rfl⟩ (.cons ⟨.refl _, rfl⟩ (.cons ⟨.refl _, rfl⟩ .nil)))))))))))))) (.cons (.of rfl) .nil))) [((700000, 0), oB 65 12 eMate ([] : List Mate))] (sbG_nil trivial) (mpost_o [(700000, 0)] rfl trivial ⟨(G_hit).trans oB_ren.symm, trivial⟩ rfl (List.forall_mem_cons.2 ⟨fun i hi => old_far rfl hi, (fun _ h => nomatch h)⟩) nd1)
        · refine l_skip (lr (fun u15 hu15 => s_val (mkAgg [(di v3.Tick), (di v3.Gap), (oE v3.Mates (10090010, u10)), (di p2.ID), (di p2.S), (di p2.V), (di p2.Len), (di p2.End), (di 0), (di 0), (di 0), (di 0), (di 0)]) rfl (v_loadG rfl (gq rfl) rfl rfl) (s_store _ _ _ _ _ (cellsV_mkAgg _) rfl rfl G_hit (nl rfl) [(di v3.Tick), (di v3.Gap), (oE v3.Mates (10090010, u10)), (di p2.ID), (di p2.S), (di p2.V), (di p2.Len), (di p2.End), (di 0), (di 0), (di 0), (di 0), (di 0)] rfl (sv rfl (s_nil (l_ret ?_))))))
          obtain rfl := Option.some.inj h
          exact fin_m (v1 := (.tup [(mkAgg [(di v3.Tick), (di v3.Gap), (oE v3.Mates (10090010, u10)), (di p2.ID), (di p2.S), (di p2.V), (di p2.Len), (di p2.End), (di 0), (di 0), (di 0), (di 0), (di 0)]), (di 0)])) (.inr rfl) (resA2 (res_cellG rfl G_hit (Nat.le_of_ble_eq_true rfl) rfl) (res_t rfl)) (.of rfl) [((10090010, u10), oB 65 12 eMate v3.Mates)] (sbG_oB (gq rfl) trivial) (mpost_o [(10090010, u10)] (by generalize v3.Mates = x1; cases x1 <;> rfl) trivial ⟨(G_hit).trans oB_ren.symm, trivial⟩ rfl (List.forall_mem_cons.2 ⟨fun i hi => old_far rfl hi, (fun _ h => nomatch h)⟩) nd1)

noncomputable def law09_ConvoyMade_l2 (x2 : (Int × Convoy)) : Option (Stp (Int × Convoy) Unit) :=
  cond (decide (x2.1 < (x2.2.Mates.length : Int))) ((geti x2.2.Mates x2.1).bind fun v17 => (geti x2.2.Mates x2.1).bind fun v18 => some (.go ((w64 (x2.1 + 1)), (Convoy.mk x2.2.Tick x2.2.Gap (seti x2.2.Mates x2.1 (Mate.mk v18.ID (w64 (v17.S + 1)) v18.V v18.Len v18.Ahead v18.Guess_ v18.Trust v18.Ward v18.WardGuess v18.Until)) x2.2.Guest_)))) (some (.out ()))
noncomputable def law09_ConvoyMade_l1 (x1 : (Int × Convoy)) : Option (Stp (Int × Convoy) Unit) :=
  cond (decide (x1.1 < (x1.2.Mates.length : Int))) ((geti x1.2.Mates x1.1).bind fun v15 => (geti x1.2.Mates x1.1).bind fun v16 => some (.go ((w64 (x1.1 + 1)), (Convoy.mk x1.2.Tick x1.2.Gap (seti x1.2.Mates x1.1 (Mate.mk v16.ID (w64 (v15.S + 1)) v16.V v16.Len v16.Ahead v16.Guess_ v16.Trust v16.Ward v16.WardGuess v16.Until)) x1.2.Guest_)))) (some (.out ()))
noncomputable def law09_ConvoyMade (p1 : Int) (p2 : (List Mate)) (p3 : Convoy) (p4 : Guest) : Option Bool :=
  cond ((decide ((p2.length : Int) > 12)) || (decide ((p3.Mates.length : Int) > 12))) ((law09_awake).bind fun v1 => some v1) ((convoy_New p1 p2).bind fun v2 => (ref09_New p1 p2).bind fun v3 => ((cond (!(v2.2 != v3.2)) (ref09_Same v2.1 v3.1) (some default))).bind fun v4 => cond ((v2.2 != v3.2) || (!v4)) (some false) ((ref09_Copy p3).bind fun v5 => (convoy_Ramp_mk p3 p4).bind fun v6 => (ref09_Ramp p3 p4).bind fun v7 => ((cond (!(v6.2 != v7.2)) (ref09_Same v6.1 v7.1) (some default))).bind fun v8 => ((cond (!((v6.2 != v7.2) || (!v8))) (ref09_Same p3 v5) (some default))).bind fun v9 => ((cond (!(((v6.2 != v7.2) || (!v8)) || (!v9))) (convoy_Same v3.1 p3) (some default))).bind fun v10 => ((cond (!(((v6.2 != v7.2) || (!v8)) || (!v9))) (ref09_Same v3.1 p3) (some default))).bind fun v11 => ((cond (!((((v6.2 != v7.2) || (!v8)) || (!v9)) || (!(v10 == v11)))) (convoy_Same p3 v5) (some default))).bind fun v12 => cond (((((v6.2 != v7.2) || (!v8)) || (!v9)) || (!(v10 == v11))) || (!v12)) (some false) ((convoy_Copy_mk p3).bind fun v13 => (ref09_Same v13 p3).bind fun v14 => cond (!v14) (some false) ((loop (law09_ConvoyMade_l1) (0, v13)).bind fun _ => (loop (law09_ConvoyMade_l2) (0, v6.1)).bind fun _ => (ref09_Same p3 v5).bind fun v19 => ((cond v19 (law09_awake) (some default))).bind fun v20 => some (v19 && v20)))))

/-- kerbstone/kerbstonelaw09.ConvoyMade -/
def ac_law09_ConvoyMade : AC := (.seq (.reg [oo 6 (.box 38 true (.t 2)), oo 7 (.box 36 true (.t 3)), oo 8 (.mv (.c zf))]) (.seq (.seq (.reg [oo 21 (.mv (.t 1)), oo 22 (.len (.t 21)), oo 23 (.bin .gtr (.t 22) (ci 12)), oo 24 (.mv (.t 23)), oh 25 (.fieldA 2 (.t 6)) 24, oh 26 (.load 1 false (.t 25)) 24, oh 27 (.len (.t 26)) 24, oh 28 (.bin .gtr (.t 27) (ci 12)) 24, oo 29 (.pick (.t 24) (.c (.v (.bool true))) (.t 28))]) (.cond (.t 29) (.seq (.reg [oo 30 (.call (cf 23) []), oo 8 (.mv (.t 30))]) .ret) .skip)) (.seq (.reg [oo 32 (.mv (.t 0)), oo 33 (.mv (.t 1)), oo 34 (.call (cf 43) [(.t 32), (.t 33)]), oo 31 (.mv (.t 34)), oo 35 (.ext (.t 31) 0), oo 36 (.ext (.t 31) 1), oo 9 (.alloc 38 [z0, z0, .nilS, z0, z0, z0, z0, z0, z0, z0, z0, z0, z0]), oe (.store 13 (.t 9) (.t 35)), oo 10 (.mv (.t 36))]) (.seq (.reg [oo 38 (.mv (.t 0)), oo 39 (.mv (.t 1)), oo 40 (.call (cf 44) [(.t 38), (.t 39)]), oo 37 (.mv (.t 40)), oo 41 (.ext (.t 37) 0), oo 42 (.ext (.t 37) 1), oo 11 (.alloc 38 [z0, z0, .nilS, z0, z0, z0, z0, z0, z0, z0, z0, z0, z0]), oe (.store 13 (.t 11) (.t 41)), oo 12 (.mv (.t 42))]) (.seq (.seq (.reg [oo 43 (.mv (.t 10)), oo 44 (.mv (.t 12)), oo 45 (.bin .neq (.t 43) (.t 44)), oo 46 (.mv (.t 45)), oh 47 (.load 13 true (.t 9)) 46, oh 48 (.load 13 true (.t 11)) 46, oh 49 (.call (cf 42) [(.t 47), (.t 48)]) 46, oh 50 (.un .not (.t 49)) 46, oo 51 (.pick (.t 46) (.c (.v (.bool true))) (.t 50))]) (.cond (.t 51) (.seq (.reg [oo 8 (.mv (.c zf))]) .ret) .skip)) (.seq (.reg [oo 52 (.load 13 true (.t 6)), oo 53 (.call (cf 31) [(.t 52)]), oo 13 (.alloc 38 [z0, z0, .nilS, z0, z0, z0, z0, z0, z0, z0, z0, z0, z0]), oe (.store 13 (.t 13) (.t 53))]) (.seq (.reg [oo 55 (.load 13 true (.t 6)), oo 56 (.load 10 true (.t 7)), oo 57 (.ocall 10080020 (cf 45) [(.t 55), (.t 56)]), oo 54 (.mv (.t 57)), oo 58 (.ext (.t 54) 0), oo 59 (.ext (.t 54) 1), oo 14 (.alloc 38 [z0, z0, .nilS, z0, z0, z0, z0, z0, z0, z0, z0, z0, z0]), oe (.store 13 (.t 14) (.t 58)), oo 15 (.mv (.t 59))]) (.seq (.reg [oo 61 (.load 13 true (.t 6)), oo 62 (.load 10 true (.t 7)), oo 63 (.call (cf 46) [(.t 61), (.t 62)]), oo 60 (.mv (.t 63)), oo 64 (.ext (.t 60) 0), oo 65 (.ext (.t 60) 1), oo 16 (.alloc 38 [z0, z0, .nilS, z0, z0, z0, z0, z0, z0, z0, z0, z0, z0]), oe (.store 13 (.t 16) (.t 64)), oo 17 (.mv (.t 65))]) (.seq (.seq (.draw [oo 66 (.mv (.t 15)), oo 67 (.mv (.t 17)), oo 68 (.bin .neq (.t 66) (.t 67)), oo 69 (.mv (.t 68)), oh 70 (.load 13 true (.t 14)) 69, oh 71 (.load 13 true (.t 16)) 69, oh 72 (.call (cf 42) [(.t 70), (.t 71)]) 69, oh 73 (.un .not (.t 72)) 69, oo 74 (.pick (.t 69) (.c (.v (.bool true))) (.t 73)), oo 75 (.mv (.t 74)), oh 76 (.load 13 true (.t 6)) 75, oh 77 (.load 13 true (.t 13)) 75, oh 78 (.call (cf 42) [(.t 76), (.t 77)]) 75, oh 79 (.un .not (.t 78)) 75, oo 80 (.pick (.t 75) (.c (.v (.bool true))) (.t 79)), oo 81 (.mv (.t 80)), oh 82 (.load 13 true (.t 11)) 81, oh 83 (.load 13 true (.t 6)) 81, oh 84 (.call (cf 47) [(.t 82), (.t 83)]) 81, oh 85 (.load 13 true (.t 11)) 81, oh 86 (.load 13 true (.t 6)) 81, oh 87 (.call (cf 42) [(.t 85), (.t 86)]) 81, oh 88 (.eqB true (.t 84) (.t 87)) 81, oo 89 (.pick (.t 81) (.c (.v (.bool true))) (.t 88)), oo 90 (.mv (.t 89)), oh 91 (.load 13 true (.t 6)) 90, oh 92 (.load 13 true (.t 13)) 90, oh 93 (.call (cf 47) [(.t 91), (.t 92)]) 90, oh 94 (.un .not (.t 93)) 90, oo 95 (.pick (.t 90) (.c (.v (.bool true))) (.t 94))] []) (.cond (.t 95) (.seq (.reg [oo 8 (.mv (.c zf))]) .ret) .skip)) (.seq (.reg [oo 96 (.load 13 true (.t 6)), oo 97 (.ocall 10120010 (cf 48) [(.t 96)]), oo 18 (.alloc 38 [z0, z0, .nilS, z0, z0, z0, z0, z0, z0, z0, z0, z0, z0]), oe (.store 13 (.t 18) (.t 97))]) (.seq (.seq (.reg [oo 98 (.load 13 true (.t 18)), oo 99 (.load 13 true (.t 6)), oo 100 (.call (cf 42) [(.t 98), (.t 99)]), oo 101 (.un .not (.t 100))]) (.cond (.t 101) (.seq (.reg [oo 8 (.mv (.c zf))]) .ret) .skip)) (.seq (.seq (.reg [oo 19 (.mv (ci 0))]) (.block 0 (.loop (.seq (.seq (.reg [oo 102 (.mv (.t 19)), oo 103 (.fieldA 2 (.t 18)), oo 104 (.load 1 false (.t 103)), oo 105 (.len (.t 104)), oo 106 (.bin .lss (.t 102) (.t 105))]) (.cond (.t 106) .skip (.exit 0))) (.seq (.block 1 (.reg [oo 109 (.fieldA 2 (.t 18)), oo 110 (.load 1 false (.t 109)), oo 111 (.mv (.t 19)), oo 112 (.idxS 12 (.t 110) (.t 111)), oo 113 (.fieldA 1 (.t 112)), oo 114 (.load 1 false (.t 113)), oo 115 (.bin .add (.t 114) (ci 1)), oo 116 (.idxS 12 (.t 110) (.t 111)), oo 117 (.fieldA 1 (.t 116)), oe (.store 1 (.t 117) (.t 115))])) (.reg [oo 107 (.mv (.t 19)), oo 108 (.bin .add (.t 107) (ci 1)), oo 19 (.mv (.t 108))])))))) (.seq (.seq (.reg [oo 20 (.mv (ci 0))]) (.block 2 (.loop (.seq (.seq (.reg [oo 118 (.mv (.t 20)), oo 119 (.fieldA 2 (.t 14)), oo 120 (.load 1 false (.t 119)), oo 121 (.len (.t 120)), oo 122 (.bin .lss (.t 118) (.t 121))]) (.cond (.t 122) .skip (.exit 2))) (.seq (.block 3 (.reg [oo 125 (.fieldA 2 (.t 14)), oo 126 (.load 1 false (.t 125)), oo 127 (.mv (.t 20)), oo 128 (.idxS 12 (.t 126) (.t 127)), oo 129 (.fieldA 1 (.t 128)), oo 130 (.load 1 false (.t 129)), oo 131 (.bin .add (.t 130) (ci 1)), oo 132 (.idxS 12 (.t 126) (.t 127)), oo 133 (.fieldA 1 (.t 132)), oe (.store 1 (.t 133) (.t 131))])) (.reg [oo 123 (.mv (.t 20)), oo 124 (.bin .add (.t 123) (ci 1)), oo 20 (.mv (.t 124))])))))) (.seq (.reg [oo 134 (.load 13 true (.t 6)), oo 135 (.load 13 true (.t 13)), oo 136 (.call (cf 42) [(.t 134), (.t 135)]), oo 137 (.mv (.t 136)), og 138 (.call (cf 23) []) 137, oo 139 (.pick (.t 137) (.t 138) (.c zf)), oo 8 (.mv (.t 139))]) .ret))))))))))))))
theorem fn_law09_ConvoyMade : FnOK Try.prog 7 140 [.t 8] ac_law09_ConvoyMade := ⟨_, _, Try.func7, rfl, Try.ntmps7, by kernel_rfl, ⟨fun r => if r == 8 then [1008002] else if r == 12 then [1012001] else [], by kernel_rfl⟩, by kernel_rfl⟩
set_option maxHeartbeats 4000000 in
theorem law09_ConvoyMade_ok (p1 : Int) (p2 : (List Mate)) (p3 : Convoy) (p4 : Guest) (r : Bool) (h : law09_ConvoyMade p1 p2 p3 p4 = some r) : PCall Try.prog 7 [(i64 p1), (.list (List.map eMate p2)), (.agg (eConvoy p3)), (.agg (eGuest p4))] (bo r) := by
  refine l_call fn_law09_ConvoyMade (nl rfl) ?_
  unfold law09_ConvoyMade at h
  unfold ac_law09_ConvoyMade
  refine l_sub (s0 := ⟨T [(0, (.d _)), (1, (.d _)), (2, (.d _)), (3, (.d _))], G []⟩) (sbr rfl rfl) ?_
  refine lr (fun u1 hu1 => sn rfl rfl (sn rfl rfl (sv rfl (s_nil (l_seq (lr (fun u2 hu2 => sv rfl (sd rfl (v_len rfl) (sv rfl (sv rfl (gp (gw_f rfl) (fun _ => rfl) (gf rfl (vl rfl (gq rfl) rfl) (gf rfl (fun w3 => (v_len (gd_pos w3))) (gf rfl (vb rfl rfl rfl) (sd rfl (v_or rfl rfl (fun hc => gd_pos (not_t hc))) (s_nil (cc rfl h (fun c1 h => ?_) (fun c1 h => ?_))))))))))))))))))
  · refine lr (fun u3 hu3 => bs h fun v1 hv1 h => s_call rfl rfl all2_refl (law09_awake_ok  _ hv1) (.inl rfl) (sv rfl (s_nil (l_ret ?_))))
    obtain rfl := Option.some.inj h
    exact fin_ok (.inr rfl) (resD1 (res_t rfl) rf_d) (.refl _)
  · refine l_skip (lr (fun u4 hu4 => sv rfl (sv rfl (bs h fun v2 hv2 h => s_call rfl rfl all2_refl (convoy_New_ok _ _  _ hv2) (.inl rfl) (sv rfl (sv rfl (sv rfl (sn rfl rfl (sst rfl G_hit (dConvoy v2.1) rfl (sv rfl (s_nil (l_seq (l_sub (s0 := ⟨T [(0, (.d _)), (1, (.d _)), (6, (.ptr _ _)), (7, (.ptr _ _)), (9, (.ptr _ _)), (10, (.d _))], G [((6, u1), some (.box 38 _)), ((7, u1), some (.box 36 _)), ((9, u4), some (.box 38 _))]⟩) (sbr rfl rfl) ?_)))))))))))))
    refine l_reg fun u5 hu5 => sv rfl (sv rfl (bs h fun v3 hv3 h => s_call rfl rfl all2_refl (ref09_New_ok _ _  _ hv3) (.inl rfl) (sv rfl (sv rfl (sv rfl (sn rfl rfl (sst rfl G_hit (dConvoy v3.1) rfl (sv rfl (s_nil (l_seq (lr (fun u6 hu6 => sv rfl (sv rfl (sv rfl (sv rfl (gf rfl (fun w5 => (v_loadG rfl (gq rfl) rfl rfl)) (gf rfl (fun w6 => (v_loadG rfl G_hit rfl rfl)) (bs h fun v4 hv4 h => g_call _ (bo v4) (gw_f rfl) (fun w7 => ⟨_, [(.d (.agg (eConvoy v2.1))), (.d (.agg (eConvoy v3.1)))], _, _, (by simp only [gd_pos w7]; rfl), rfl, all2_refl, ref09_Same_ok _ _  _ (cond_t w7 hv4), (.inl rfl)⟩) ?_))))))))))))))))))
    refine g_val _ (.d (bo (!v4))) rfl (gw_f rfl) (fun w8 => (by simp only [gd_pos w8]; rfl)) ?_
    refine sd rfl (v_or rfl rfl (fun hc => gd_pos (not_t hc))) (s_nil (cc rfl h (fun c2 h => ?_) (fun c2 h => ?_)))
    · refine l_seq (l_sub (s0 := ⟨T [], G []⟩) (sbr rfl rfl) ?_)
      refine l_reg fun u7 hu7 => sv rfl (s_nil (l_ret ?_))
      obtain rfl := Option.some.inj h
      exact fin_ok (.inr rfl) (resD1 (res_t rfl) rf_d) (.refl _)
    · refine l_skip (l_seq (l_sub (s0 := ⟨T [(6, (.ptr _ _)), (7, (.ptr _ _)), (11, (.ptr _ _))], G [((6, u1), some (.box 38 _)), ((7, u1), some (.box 36 _)), ((11, u5), some (.box 38 _))]⟩) (sbr rfl rfl) ?_))
      refine l_reg fun u8 hu8 => sd rfl (v_loadG rfl G_hit rfl rfl) (bs h fun v5 hv5 h => s_call rfl rfl all2_refl (ref09_Copy_ok _  _ hv5) (.inl rfl) (sn rfl rfl (sst rfl G_hit (dConvoy v5) rfl (s_nil (lr (fun u9 hu9 => sd rfl (v_loadG rfl (gq rfl) rfl rfl) (sd rfl (v_loadG rfl (gq rfl) rfl rfl) (bs h fun v6 hv6 h => s_oc (v := .tup [(mkAgg [(di v6.1.Tick), (di v6.1.Gap), (oE v6.1.Mates (10080020, u9)), (di v6.1.Guest_.ID), (di v6.1.Guest_.S), (di v6.1.Guest_.V), (di v6.1.Guest_.Len), (di v6.1.Guest_.End), (di v6.1.Guest_.Ahead), (di v6.1.Guest_.Guess_.R), (di v6.1.Guest_.Guess_.V), (di v6.1.Guest_.From), (di v6.1.Guest_.Until)]), (di v6.2)]) (us := [(10080020, u9)]) (oc_mo (convoy_Ramp_mk_ok _ _ _ hv6) [] [] _ (((10080020, u9), oB 65 12 eMate v6.1.Mates) :: _) rfl all2_av rfl live_nil trivial (fun _ h => h) List.nodup_nil (by generalize v6.1.Mates = x1; cases x1 <;> rfl) rfl (upsN_o (rfl)) rfl) ?_))))))))
      refine s_val (.tup _) rfl rfl (s_val (mkAgg [(di v6.1.Tick), (di v6.1.Gap), (oE v6.1.Mates (10080020, u9)), (di v6.1.Guest_.ID), (di v6.1.Guest_.S), (di v6.1.Guest_.V), (di v6.1.Guest_.Len), (di v6.1.Guest_.End), (di v6.1.Guest_.Ahead), (di v6.1.Guest_.Guess_.R), (di v6.1.Guest_.Guess_.V), (di v6.1.Guest_.From), (di v6.1.Guest_.Until)]) rfl rfl (sv rfl (sn rfl rfl (s_store _ _ _ _ _ (cellsV_mkAgg _) rfl rfl G_hit (nl rfl) [(di v6.1.Tick), (di v6.1.Gap), (oE v6.1.Mates (10080020, u9)), (di v6.1.Guest_.ID), (di v6.1.Guest_.S), (di v6.1.Guest_.V), (di v6.1.Guest_.Len), (di v6.1.Guest_.End), (di v6.1.Guest_.Ahead), (di v6.1.Guest_.Guess_.R), (di v6.1.Guest_.Guess_.V), (di v6.1.Guest_.From), (di v6.1.Guest_.Until)] rfl (sv rfl (s_nil (lr (fun u10 hu10 => sd rfl (v_loadG rfl (gq rfl) rfl rfl) (sd rfl (v_loadG rfl (gq rfl) rfl rfl) (bs h fun v7 hv7 h => s_call rfl rfl all2_refl (ref09_Ramp_ok _ _  _ hv7) (.inl rfl) (sv rfl (sv rfl (sv rfl (sn rfl rfl (sst rfl G_hit (dConvoy v7.1) rfl (sv rfl (s_nil (l_seq (l_seq (l_sub (s0 := ⟨T [(6, (.ptr (6, u1) 0)), (11, (.ptr (11, u5) 0)), (13, (.ptr (13, u8) 0)), (14, (.ptr (14, u9) 0)), (15, (di v6.2)), (16, (.ptr (16, u10) 0)), (17, (di v7.2))], G [((6, u1), some (.box 38 (dConvoy p3))), ((11, u5), some (.box 38 (dConvoy v3.1))), ((13, u8), some (.box 38 (dConvoy v5))), ((14, u9), some (.box 38 [(di v6.1.Tick), (di v6.1.Gap), (oE v6.1.Mates (10080020, u9)), (di v6.1.Guest_.ID), (di v6.1.Guest_.S), (di v6.1.Guest_.V), (di v6.1.Guest_.Len), (di v6.1.Guest_.End), (di v6.1.Guest_.Ahead), (di v6.1.Guest_.Guess_.R), (di v6.1.Guest_.Guess_.V), (di v6.1.Guest_.From), (di v6.1.Guest_.Until)])), ((10080020, u9), oB 65 12 eMate v6.1.Mates), ((16, u10), some (.box 38 (dConvoy v7.1)))]⟩) (sb_of ⟨.of rfl, .of rfl, .of rfl, .of rfl, .of rfl, .of rfl, .of rfl, trivial⟩ (sbG_some (gq rfl) (.of rfl) (sbG_some (gq rfl) (.of rfl) (sbG_some (gq rfl) (.of rfl) (sbG_some (gq rfl) (.of rfl) (sbG_oB (gq rfl) (sbG_some G_hit (.of rfl) trivial))))))) ?_))))))))))))))))))))
      refine l_draw rfl fun u11 hu11 => sv rfl (sv rfl (sv rfl (sv rfl (g_val _ (mkAgg [(di v6.1.Tick), (di v6.1.Gap), (oE v6.1.Mates (10080020, u9)), (di v6.1.Guest_.ID), (di v6.1.Guest_.S), (di v6.1.Guest_.V), (di v6.1.Guest_.Len), (di v6.1.Guest_.End), (di v6.1.Guest_.Ahead), (di v6.1.Guest_.Guess_.R), (di v6.1.Guest_.Guess_.V), (di v6.1.Guest_.From), (di v6.1.Guest_.Until)]) rfl (gw_f rfl) (fun w9 => (v_loadG rfl (gq rfl) rfl rfl)) (gf rfl (fun w10 => (v_loadG rfl (gq rfl) rfl rfl)) (bs h fun v8 hv8 h => g_call _ (bo v8) (gw_f rfl) (fun w11 => ⟨_, [(mkAgg [(di v6.1.Tick), (di v6.1.Gap), (oE v6.1.Mates (10080020, u9)), (di v6.1.Guest_.ID), (di v6.1.Guest_.S), (di v6.1.Guest_.V), (di v6.1.Guest_.Len), (di v6.1.Guest_.End), (di v6.1.Guest_.Ahead), (di v6.1.Guest_.Guess_.R), (di v6.1.Guest_.Guess_.V), (di v6.1.Guest_.From), (di v6.1.Guest_.Until)]), (.d (.agg (eConvoy v7.1)))], _, _, (by simp only [gd_pos w11]; rfl), (rfL_cons (rf_mkAgg (rfL_cons rf_d (rfL_cons rf_d (rfL_cons (rf_oE (gq rfl)) (rfL_cons rf_d (rfL_cons rf_d (rfL_cons rf_d (rfL_cons rf_d (rfL_cons rf_d (rfL_cons rf_d (rfL_cons rf_d (rfL_cons rf_d (rfL_cons rf_d (rfL_cons rf_d rfL_nil)))))))))))))) (rfL_cons rf_d rfL_nil)), all2_refl, ref09_Same_ok _ _  _ (cond_t w11 hv8), (.inr rfl)⟩) ?_))))))
      refine g_val _ (.d (bo (!v8))) rfl (gw_f rfl) (fun w12 => (by simp only [gd_pos w12]; rfl)) ?_
      refine sd rfl (v_or rfl rfl (fun hc => gd_pos (not_t hc))) (sv rfl (gf rfl (fun w13 => (v_loadG rfl G_hit rfl rfl)) (gf rfl (fun w14 => (v_loadG rfl (gq rfl) rfl rfl)) (bs h fun v9 hv9 h => g_call _ (bo v9) (gw_f rfl) (fun w15 => ⟨_, [(.d (.agg (eConvoy p3))), (.d (.agg (eConvoy v5)))], _, _, (by simp only [gd_pos w15]; rfl), rfl, all2_refl, ref09_Same_ok _ _  _ (cond_t w15 hv9), (.inl rfl)⟩) ?_))))
      refine g_val _ (.d (bo (!v9))) rfl (gw_f rfl) (fun w16 => (by simp only [gd_pos w16]; rfl)) ?_
      refine sd rfl (v_or rfl rfl (fun hc => gd_pos (not_t hc))) (sv rfl (gf rfl (fun w17 => (v_loadG rfl (gq rfl) rfl rfl)) (gf rfl (fun w18 => (v_loadG rfl G_hit rfl rfl)) (bs h fun v10 hv10 h => g_call _ (bo v10) (gw_f rfl) (fun w19 => ⟨_, [(.d (.agg (eConvoy v3.1))), (.d (.agg (eConvoy p3)))], _, _, (by simp only [gd_pos w19]; rfl), rfl, all2_refl, convoy_Same_ok _ _  _ (cond_t w19 hv10), (.inl rfl)⟩) ?_))))
      refine gf rfl (fun w20 => (v_loadG rfl (gq rfl) rfl rfl)) (gf rfl (fun w21 => (v_loadG rfl G_hit rfl rfl)) (bs h fun v11 hv11 h => g_call _ (bo v11) (gw_f rfl) (fun w22 => ⟨_, [(.d (.agg (eConvoy v3.1))), (.d (.agg (eConvoy p3)))], _, _, (by simp only [gd_pos w22]; rfl), rfl, all2_refl, ref09_Same_ok _ _  _ (cond_t w22 hv11), (.inl rfl)⟩) ?_))
      refine g_val _ (.d (bo (!(v10 == v11)))) rfl (gw_f rfl) (fun w23 => (by simp only [gd_pos w23]; rfl)) ?_
      refine sd rfl (v_or rfl rfl (fun hc => gd_pos (not_t hc))) (sv rfl (gf rfl (fun w24 => (v_loadG rfl G_hit rfl rfl)) (gf rfl (fun w25 => (v_loadG rfl (gq rfl) rfl rfl)) (bs h fun v12 hv12 h => g_call _ (bo v12) (gw_f rfl) (fun w26 => ⟨_, [(.d (.agg (eConvoy p3))), (.d (.agg (eConvoy v5)))], _, _, (by simp only [gd_pos w26]; rfl), rfl, all2_refl, convoy_Same_ok _ _  _ (cond_t w26 hv12), (.inl rfl)⟩) ?_))))
      refine g_val _ (.d (bo (!v12))) rfl (gw_f rfl) (fun w27 => (by simp only [gd_pos w27]; rfl)) ?_
      refine sd rfl (v_or rfl rfl (fun hc => gd_pos (not_t hc))) (s_nil (cc rfl h (fun c3 h => ?_) (fun c3 h => ?_)))
      · refine l_seq (l_sub (s0 := ⟨T [], G []⟩) (sbr rfl rfl) ?_)
        refine l_reg fun u12 hu12 => sv rfl (s_nil (l_ret ?_))
        obtain rfl := Option.some.inj h
        exact fin_ok (.inr rfl) (resD1 (res_t rfl) rf_d) (.refl _)
      · refine l_skip (l_seq (l_sub (s0 := ⟨T [(6, (.ptr (6, u1) 0)), (13, (.ptr (13, u8) 0)), (14, (.ptr (14, u9) 0))], G [((6, u1), some (.box 38 (dConvoy p3))), ((13, u8), some (.box 38 (dConvoy v5))), ((14, u9), some (.box 38 [(di v6.1.Tick), (di v6.1.Gap), (oE v6.1.Mates (10080020, u9)), (di v6.1.Guest_.ID), (di v6.1.Guest_.S), (di v6.1.Guest_.V), (di v6.1.Guest_.Len), (di v6.1.Guest_.End), (di v6.1.Guest_.Ahead), (di v6.1.Guest_.Guess_.R), (di v6.1.Guest_.Guess_.V), (di v6.1.Guest_.From), (di v6.1.Guest_.Until)])), ((10080020, u9), oB 65 12 eMate v6.1.Mates)]⟩) (sb_of ⟨.of rfl, .of rfl, .of rfl, trivial⟩ (sbG_some G_hit (.of rfl) (sbG_some (gq rfl) (.of rfl) (sbG_some (gq rfl) (.of rfl) (sbG_oB (gq rfl) trivial))))) ?_))
        refine l_reg fun u13 hu13 => sd rfl (v_loadG rfl G_hit rfl rfl) (bs h fun v13 hv13 h => s_oc (v := mkAgg [(di v13.Tick), (di v13.Gap), (oE v13.Mates (10120010, u13)), (di v13.Guest_.ID), (di v13.Guest_.S), (di v13.Guest_.V), (di v13.Guest_.Len), (di v13.Guest_.End), (di v13.Guest_.Ahead), (di v13.Guest_.Guess_.R), (di v13.Guest_.Guess_.V), (di v13.Guest_.From), (di v13.Guest_.Until)]) (us := [(10120010, u13)]) (oc_mo (convoy_Copy_mk_ok _ _ hv13) [] [] _ (((10120010, u13), oB 65 12 eMate v13.Mates) :: _) rfl all2_av rfl live_nil trivial (fun _ h => h) List.nodup_nil (by generalize v13.Mates = x1; cases x1 <;> rfl) rfl (upsN_o (rfl)) rfl) ?_)
        refine sn rfl rfl (s_store _ _ _ _ _ (cellsV_mkAgg _) rfl rfl G_hit (nl rfl) [(di v13.Tick), (di v13.Gap), (oE v13.Mates (10120010, u13)), (di v13.Guest_.ID), (di v13.Guest_.S), (di v13.Guest_.V), (di v13.Guest_.Len), (di v13.Guest_.End), (di v13.Guest_.Ahead), (di v13.Guest_.Guess_.R), (di v13.Guest_.Guess_.V), (di v13.Guest_.From), (di v13.Guest_.Until)] rfl (s_nil (l_seq (lr (fun u14 hu14 => s_val (mkAgg [(di v13.Tick), (di v13.Gap), (oE v13.Mates (10120010, u13)), (di v13.Guest_.ID), (di v13.Guest_.S), (di v13.Guest_.V), (di v13.Guest_.Len), (di v13.Guest_.End), (di v13.Guest_.Ahead), (di v13.Guest_.Guess_.R), (di v13.Guest_.Guess_.V), (di v13.Guest_.From), (di v13.Guest_.Until)]) rfl (v_loadG rfl G_hit rfl rfl) (sd rfl (v_loadG rfl (gq rfl) rfl rfl) (bs h fun v14 hv14 h => s_call rfl (rfL_cons (rf_mkAgg (rfL_cons rf_d (rfL_cons rf_d (rfL_cons (rf_oE (gq rfl)) (rfL_cons rf_d (rfL_cons rf_d (rfL_cons rf_d (rfL_cons rf_d (rfL_cons rf_d (rfL_cons rf_d (rfL_cons rf_d (rfL_cons rf_d (rfL_cons rf_d (rfL_cons rf_d rfL_nil)))))))))))))) (rfL_cons rf_d rfL_nil)) all2_refl (ref09_Same_ok _ _  _ hv14) (.inr rfl) (s_val (.d (bo (!v14))) rfl rfl (s_nil (cc rfl h (fun c4 h => ?_) (fun c4 h => ?_)))))))))))
        · refine lr (fun u15 hu15 => sv rfl (s_nil (l_ret ?_)))
          obtain rfl := Option.some.inj h
          exact fin_ok (.inr rfl) (resD1 (res_t rfl) rf_d) (.refl _)
        · refine l_skip (l_seq (lr (fun u16 hu16 => sv rfl (s_nil (bs h fun y1 hy1 h => l_join (fun s => ∃ g1 : Unit, Sb ⟨T [(6, (.ptr (6, u1) 0)), (13, (.ptr (13, u8) 0)), (14, (.ptr (14, u9) 0))], G [((6, u1), some (.box 38 (dConvoy p3))), ((13, u8), some (.box 38 (dConvoy v5))), ((14, u9), some (.box 38 [(di v6.1.Tick), (di v6.1.Gap), (oE v6.1.Mates (10080020, u9)), (di v6.1.Guest_.ID), (di v6.1.Guest_.S), (di v6.1.Guest_.V), (di v6.1.Guest_.Len), (di v6.1.Guest_.End), (di v6.1.Guest_.Ahead), (di v6.1.Guest_.Guess_.R), (di v6.1.Guest_.Guess_.V), (di v6.1.Guest_.From), (di v6.1.Guest_.Until)])), ((10080020, u9), oB 65 12 eMate v6.1.Mates)]⟩ s) ?_ ?_)))))
          · refine l_block (l_loop (law09_ConvoyMade_l1) (fun (x1 : (Int × Convoy)) (g2 : Nat) => ⟨T [(6, (.ptr (6, u1) 0)), (13, (.ptr (13, u8) 0)), (14, (.ptr (14, u9) 0)), (18, (.ptr (18, u13) 0)), (19, (di x1.1))], G [((6, u1), some (.box 38 (dConvoy p3))), ((13, u8), some (.box 38 (dConvoy v5))), ((14, u9), some (.box 38 [(di v6.1.Tick), (di v6.1.Gap), (oE v6.1.Mates (10080020, u9)), (di v6.1.Guest_.ID), (di v6.1.Guest_.S), (di v6.1.Guest_.V), (di v6.1.Guest_.Len), (di v6.1.Guest_.End), (di v6.1.Guest_.Ahead), (di v6.1.Guest_.Guess_.R), (di v6.1.Guest_.Guess_.V), (di v6.1.Guest_.From), (di v6.1.Guest_.Until)])), ((18, u13), some (.box 38 [(di x1.2.Tick), (di x1.2.Gap), (oE x1.2.Mates (10120010, g2)), (di x1.2.Guest_.ID), (di x1.2.Guest_.S), (di x1.2.Guest_.V), (di x1.2.Guest_.Len), (di x1.2.Guest_.End), (di x1.2.Guest_.Ahead), (di x1.2.Guest_.Guess_.R), (di x1.2.Guest_.Guess_.V), (di x1.2.Guest_.From), (di x1.2.Guest_.Until)])), ((10080020, u9), oB 65 12 eMate v6.1.Mates), ((10120010, g2), oB 65 12 eMate x1.2.Mates)]⟩) (0, v13) u13 _ hy1 (sb_of ⟨.of rfl, .of rfl, .of rfl, .of rfl, .of rfl, trivial⟩ (sbG_some (gq rfl) (.of rfl) (sbG_some (gq rfl) (.of rfl) (sbG_some (gq rfl) (.of rfl) (sbG_some G_hit (.of rfl) (sbG_oB (gq rfl) (sbG_oB (gq rfl) trivial))))))) ?_)
            intro x1 g2 z1 hz1 ez1
            unfold law09_ConvoyMade_l1 at hz1
            refine l_seq (lr (fun u17 hu17 => sv rfl (sp rfl rfl (s_val (oE x1.2.Mates (10120010, g2)) rfl (v_load rfl (gq rfl) rfl) (sd rfl (v_lenE (f := eMate) rfl (gq rfl)) (sv rfl (s_nil (cc rfl hz1 (fun c5 hz1 => ?_) (fun c5 hz1 => ?_)))))))))
            · refine l_skip (l_seq (l_block (l_reg fun u18 hu18 => sp rfl rfl (s_val (oE x1.2.Mates (10120010, g2)) rfl (v_load rfl (gq rfl) rfl) (sv rfl (bs hz1 fun v15 hv15 hz1 => s_val (.aptr _ _ _ _) rfl (v_idxE rfl rfl (gq rfl) hv15) (s_val (.aptr _ _ _ _) rfl rfl (sd rfl (v_loadA rfl (look_oB (gq rfl) (geti_ne hv15)) hv15 rfl) (sv rfl (bs hz1 fun v16 hv16 hz1 => s_val (.aptr _ _ _ _) rfl (v_idxE rfl rfl (gq rfl) hv16) (s_val (.aptr _ _ _ _) rfl rfl ?_)))))))))))
              rw [oE_ne (geti_ne hv16)]
              refine s_storeA eMate _ _ _ (x1.1) _ (Mate.mk v16.ID (w64 (v15.S + 1)) v16.V v16.Len v16.Ahead v16.Guess_ v16.Trust v16.Ward v16.WardGuess v16.Until) [(i64 (w64 (v15.S + 1)))] rfl rfl rfl (look_oB (gq rfl) (geti_ne hv16)) hv16 (nl rfl) rfl (s_nil (l_end (l_sub (s0 := ⟨T [(6, (.ptr (6, u1) 0)), (13, (.ptr (13, u8) 0)), (14, (.ptr (14, u9) 0)), (18, (.ptr (18, u13) 0)), (19, (di x1.1))], G [((6, u1), some (.box 38 (dConvoy p3))), ((13, u8), some (.box 38 (dConvoy v5))), ((14, u9), some (.box 38 [(di v6.1.Tick), (di v6.1.Gap), (oE v6.1.Mates (10080020, u9)), (di v6.1.Guest_.ID), (di v6.1.Guest_.S), (di v6.1.Guest_.V), (di v6.1.Guest_.Len), (di v6.1.Guest_.End), (di v6.1.Guest_.Ahead), (di v6.1.Guest_.Guess_.R), (di v6.1.Guest_.Guess_.V), (di v6.1.Guest_.From), (di v6.1.Guest_.Until)])), ((10080020, u9), oB 65 12 eMate v6.1.Mates), ((18, u13), some (.box 38 [(di x1.2.Tick), (di x1.2.Gap), (.sl (10120010, g2)), (di x1.2.Guest_.ID), (di x1.2.Guest_.S), (di x1.2.Guest_.V), (di x1.2.Guest_.Len), (di x1.2.Guest_.End), (di x1.2.Guest_.Ahead), (di x1.2.Guest_.Guess_.R), (di x1.2.Guest_.Guess_.V), (di x1.2.Guest_.From), (di x1.2.Guest_.Until)])), ((10120010, g2), some (.arr 65 12 (List.map eMate (seti x1.2.Mates x1.1 (Mate.mk v16.ID (w64 (v15.S + 1)) v16.V v16.Len v16.Ahead v16.Guess_ v16.Trust v16.Ward v16.WardGuess v16.Until)))))]⟩) (sb_of ⟨.of rfl, .of rfl, .of rfl, .of rfl, .of rfl, trivial⟩ (sbG_some (gq rfl) (.of rfl) (sbG_some (gq rfl) (.of rfl) (sbG_some (gq rfl) (.of rfl) (sbG_oB (gq rfl) (sbG_some (gq rfl) (.of rfl) (sbG_some G_hit (.of rfl) trivial))))))) ?_)))
              refine l_reg fun u19 hu19 => sv rfl (sv rfl (sv rfl (s_nil (l_nil ?_))))
              obtain rfl := Option.some.inj hz1
              exact ⟨rfl, g2, (sb_of ⟨.of rfl, .of rfl, .of rfl, .of rfl, .of rfl, trivial⟩ (sbG_some G_hit (.of rfl) (sbG_some (gq rfl) (.of rfl) (sbG_some (gq rfl) (.of rfl) (sbG_some (gq rfl) (.box (.cons (.of rfl) (.cons (.of rfl) (.cons (.of (oE_ne (seti_ne (geti_ne hv16))).symm) (.cons (.of rfl) (.cons (.of rfl) (.cons (.of rfl) (.cons (.of rfl) (.cons (.of rfl) (.cons (.of rfl) (.cons (.of rfl) (.cons (.of rfl) (.cons (.of rfl) (.cons (.of rfl) .nil)))))))))))))) (sbG_oB (gq rfl) (sbG_own (gq rfl) trivial)))))))⟩
            · refine l_exitN rfl ?_
              obtain rfl := Option.some.inj hz1
              obtain rfl := ez1 _ rfl
              refine ⟨nofun, awl_pop rfl (l_j ?_)⟩
              exact ⟨(), (sb_of ⟨.of rfl, .of rfl, .of rfl, trivial⟩ (sbG_some G_hit (.of rfl) (sbG_some (gq rfl) (.of rfl) (sbG_some (gq rfl) (.of rfl) (sbG_oB (gq rfl) trivial)))))⟩
          · rintro _ ⟨g1, q1⟩
            refine l_sub q1 (l_seq (lr (fun u20 hu20 => sv rfl (s_nil (bs h fun y2 hy2 h => l_join (fun s => ∃ g3 : Unit, Sb ⟨T [(6, (.ptr (6, u1) 0)), (13, (.ptr (13, u8) 0))], G [((6, u1), some (.box 38 (dConvoy p3))), ((13, u8), some (.box 38 (dConvoy v5)))]⟩ s) ?_ ?_)))))
            · refine l_block (l_loop (law09_ConvoyMade_l2) (fun (x2 : (Int × Convoy)) (g4 : Nat) => ⟨T [(6, (.ptr (6, u1) 0)), (13, (.ptr (13, u8) 0)), (14, (.ptr (14, u9) 0)), (20, (di x2.1))], G [((6, u1), some (.box 38 (dConvoy p3))), ((13, u8), some (.box 38 (dConvoy v5))), ((14, u9), some (.box 38 [(di x2.2.Tick), (di x2.2.Gap), (oE x2.2.Mates (10080020, g4)), (di x2.2.Guest_.ID), (di x2.2.Guest_.S), (di x2.2.Guest_.V), (di x2.2.Guest_.Len), (di x2.2.Guest_.End), (di x2.2.Guest_.Ahead), (di x2.2.Guest_.Guess_.R), (di x2.2.Guest_.Guess_.V), (di x2.2.Guest_.From), (di x2.2.Guest_.Until)])), ((10080020, g4), oB 65 12 eMate x2.2.Mates)]⟩) (0, v6.1) u9 _ hy2 (sb_of ⟨.of rfl, .of rfl, .of rfl, .of rfl, trivial⟩ (sbG_some G_hit (.of rfl) (sbG_some (gq rfl) (.of rfl) (sbG_some (gq rfl) (.of rfl) (sbG_oB (gq rfl) trivial))))) ?_)
              intro x2 g4 z2 hz2 ez2
              unfold law09_ConvoyMade_l2 at hz2
              refine l_seq (lr (fun u21 hu21 => sv rfl (sp rfl rfl (s_val (oE x2.2.Mates (10080020, g4)) rfl (v_load rfl (gq rfl) rfl) (sd rfl (v_lenE (f := eMate) rfl (gq rfl)) (sv rfl (s_nil (cc rfl hz2 (fun c6 hz2 => ?_) (fun c6 hz2 => ?_)))))))))
              · refine l_skip (l_seq (l_block (l_reg fun u22 hu22 => sp rfl rfl (s_val (oE x2.2.Mates (10080020, g4)) rfl (v_load rfl (gq rfl) rfl) (sv rfl (bs hz2 fun v17 hv17 hz2 => s_val (.aptr _ _ _ _) rfl (v_idxE rfl rfl (gq rfl) hv17) (s_val (.aptr _ _ _ _) rfl rfl (sd rfl (v_loadA rfl (look_oB (gq rfl) (geti_ne hv17)) hv17 rfl) (sv rfl (bs hz2 fun v18 hv18 hz2 => s_val (.aptr _ _ _ _) rfl (v_idxE rfl rfl (gq rfl) hv18) (s_val (.aptr _ _ _ _) rfl rfl ?_)))))))))))
                rw [oE_ne (geti_ne hv18)]
                refine s_storeA eMate _ _ _ (x2.1) _ (Mate.mk v18.ID (w64 (v17.S + 1)) v18.V v18.Len v18.Ahead v18.Guess_ v18.Trust v18.Ward v18.WardGuess v18.Until) [(i64 (w64 (v17.S + 1)))] rfl rfl rfl (look_oB (gq rfl) (geti_ne hv18)) hv18 (nl rfl) rfl (s_nil (l_end (l_sub (s0 := ⟨T [(6, (.ptr _ _)), (13, (.ptr _ _)), (14, (.ptr _ _)), (20, (.d _))], G [((6, u1), some (.box 38 _)), ((13, u8), some (.box 38 _)), ((14, u9), some (.box 38 _)), ((10080020, g4), some _)]⟩) (sbr rfl rfl) ?_)))
                refine l_reg fun u23 hu23 => sv rfl (sv rfl (sv rfl (s_nil (l_nil ?_))))
                obtain rfl := Option.some.inj hz2
                exact ⟨rfl, g4, (sb_of ⟨.of rfl, .of rfl, .of rfl, .of rfl, trivial⟩ (sbG_some G_hit (.of rfl) (sbG_some (gq rfl) (.of rfl) (sbG_some (gq rfl) (.box (.cons (.of rfl) (.cons (.of rfl) (.cons (.of (oE_ne (seti_ne (geti_ne hv18))).symm) (.cons (.of rfl) (.cons (.of rfl) (.cons (.of rfl) (.cons (.of rfl) (.cons (.of rfl) (.cons (.of rfl) (.cons (.of rfl) (.cons (.of rfl) (.cons (.of rfl) (.cons (.of rfl) .nil)))))))))))))) (sbG_own (gq rfl) trivial)))))⟩
              · refine l_exitN rfl ?_
                obtain rfl := Option.some.inj hz2
                obtain rfl := ez2 _ rfl
                refine ⟨nofun, awl_pop rfl (l_j ?_)⟩
                exact ⟨(), (sbr rfl rfl)⟩
            · rintro _ ⟨g3, q2⟩
              refine l_sub q2 (lr (fun u24 hu24 => sd rfl (v_loadG rfl G_hit rfl rfl) (sd rfl (v_loadG rfl (gq rfl) rfl rfl) (bs h fun v19 hv19 h => s_call rfl rfl all2_refl (ref09_Same_ok _ _  _ hv19) (.inl rfl) (sv rfl (bs h fun v20 hv20 h => g_call v19 (bo v20) (gw_t rfl) (fun w28 => ⟨_, _, _, _, rfl, rfl, all2_refl, law09_awake_ok  _ (cond_t w28 hv20), (.inl rfl)⟩) (sa rfl rfl rfl (sv rfl (s_nil (l_ret ?_))))))))))
              obtain rfl := Option.some.inj h
              exact fin_ok (.inr rfl) (resD1 (res_t rfl) rf_d) (.refl _)
end Go.Abs.Convoy
