/-
  The functions, part 3.
-/
import Derived.Test.YtdkgjoilcfoclaaFns2
set_option maxRecDepth 20000
set_option linter.unusedVariables false
namespace Go.Abs.Convoy
open Go Go.Abs Go.Proofs
attribute [local irreducible] regW regT AWL

noncomputable def convoy_mind_drives_b (p1 : ConvoyMind) (p2 : Int) : Option Mate :=
  (cond ((p1.Mate_.Ward != 0) && (p1.Mate_.Until == 0)) (some (mm2 false p2 (-20))) (some p2)).bind fun y1 => (convoy_Age p1.Mate_.Guess_ 1).bind fun v1 => (convoy_Age p1.Mate_.WardGuess 1).bind fun v2 => (convoy_greatest_convoy_mind_drives_1bbbb p1.Mate_.S p1.Mate_.V y1 p1 v1 v2).bind fun v3 => (convoy_moved p1.Mate_.S p1.Mate_.V v3).bind fun v4 => (cond (p1.Mate_.Ahead != 0) (some (Mate.mk p1.Mate_.ID v4.1 v4.2 p1.Mate_.Len p1.Mate_.Ahead v1 p1.Mate_.Trust p1.Mate_.Ward p1.Mate_.WardGuess p1.Mate_.Until)) (some (Mate.mk p1.Mate_.ID v4.1 v4.2 p1.Mate_.Len p1.Mate_.Ahead p1.Mate_.Guess_ p1.Mate_.Trust p1.Mate_.Ward p1.Mate_.WardGuess p1.Mate_.Until))).bind fun y2 => cond (p1.Mate_.Ward != 0) (some (Mate.mk y2.ID y2.S y2.V y2.Len y2.Ahead y2.Guess_ y2.Trust y2.Ward v2 y2.Until)) (some y2)

/-- (*kerbstone/convoy.mind).drives -/
def ac_convoy_mind_drives_b : AC := (.seq (.reg [oo 2 (.box 105 false (.t 0)), oo 4 (.alloc 65 [z0, z0, z0, z0, z0, z0, z0, zf, z0, z0, z0, z0])]) (.seq (.seq (.reg [oo 9 (.load 1 false (.t 2)), oo 10 (.nilck (.t 9)), oo 11 (.fieldA 0 (.t 10)), oo 12 (.fieldA 8 (.t 11)), oo 13 (.load 1 false (.t 12)), oo 14 (.bin .neq (.t 13) (ci 0)), oo 15 (.mv (.t 14)), og 16 (.load 1 false (.t 2)) 15, og 17 (.nilck (.t 16)) 15, og 18 (.fieldA 0 (.t 17)) 15, og 19 (.fieldA 11 (.t 18)) 15, og 20 (.load 1 false (.t 19)) 15, og 21 (.bin .eql (.t 20) (ci 0)) 15, oo 22 (.pick (.t 15) (.t 21) (.c zf))]) (.cond (.t 22) (.reg [oo 23 (.mv (.t 1)), oo 24 (.mm false (.t 23) [(ci (-20))]), oo 1 (.mv (.t 24))]) .skip)) (.seq (.draw [oo 25 (.load 1 false (.t 2)), oo 26 (.nilck (.t 25)), oo 27 (.fieldA 0 (.t 26)), oo 28 (.fieldA 5 (.t 27)), oo 29 (.load 2 true (.t 28)), oo 30 (.call (cf 15) [(.t 29), (ci 1)]), oo 31 (.load 1 false (.t 2)), oo 32 (.nilck (.t 31)), oo 33 (.fieldA 0 (.t 32)), oo 34 (.fieldA 9 (.t 33)), oo 35 (.load 2 true (.t 34)), oo 36 (.call (cf 15) [(.t 35), (ci 1)]), oo 5 (.alloc 23 [z0, z0]), oo 6 (.alloc 23 [z0, z0]), oe (.store 2 (.t 5) (.t 30)), oe (.store 2 (.t 6) (.t 36))] []) (.seq (.draw [oo 37 (.load 1 false (.t 2)), oo 38 (.nilck (.t 37)), oo 39 (.fieldA 0 (.t 38)), oo 40 (.fieldA 1 (.t 39)), oo 41 (.load 1 false (.t 40)), oo 42 (.load 1 false (.t 2)), oo 43 (.nilck (.t 42)), oo 44 (.fieldA 0 (.t 43)), oo 45 (.fieldA 2 (.t 44)), oo 46 (.load 1 false (.t 45)), oo 47 (.mv (.t 1)), oo 48 (.mkfn (.func 115) [] [(.t 2), (.t 5), (.t 6)]), oo 49 (.call (cf 114) [(.t 41), (.t 46), (.t 47), (.t 48)]), oo 7 (.mv (.t 49))] []) (.seq (.reg [oo 50 (.load 1 false (.t 2)), oo 51 (.nilck (.t 50)), oo 52 (.fieldA 0 (.t 51)), oo 53 (.load 12 true (.t 52)), oo 8 (.alloc 65 [z0, z0, z0, z0, z0, z0, z0, zf, z0, z0, z0, z0]), oe (.store 12 (.t 8) (.t 53))]) (.seq (.draw [oo 55 (.load 1 false (.t 2)), oo 56 (.nilck (.t 55)), oo 57 (.fieldA 0 (.t 56)), oo 58 (.fieldA 1 (.t 57)), oo 59 (.load 1 false (.t 58)), oo 60 (.load 1 false (.t 2)), oo 61 (.nilck (.t 60)), oo 62 (.fieldA 0 (.t 61)), oo 63 (.fieldA 2 (.t 62)), oo 64 (.load 1 false (.t 63)), oo 65 (.mv (.t 7)), oo 66 (.call (cf 116) [(.t 59), (.t 64), (.t 65)]), oo 54 (.mv (.t 66)), oo 67 (.ext (.t 54) 0), oo 68 (.ext (.t 54) 1), oo 69 (.fieldA 1 (.t 8)), oe (.store 1 (.t 69) (.t 67)), oo 70 (.fieldA 2 (.t 8)), oe (.store 1 (.t 70) (.t 68))] []) (.seq (.seq (.reg [oo 71 (.load 1 false (.t 2)), oo 72 (.nilck (.t 71)), oo 73 (.fieldA 0 (.t 72)), oo 74 (.fieldA 4 (.t 73)), oo 75 (.load 1 false (.t 74)), oo 76 (.bin .neq (.t 75) (ci 0))]) (.cond (.t 76) (.reg [oo 77 (.load 2 true (.t 5)), oo 78 (.fieldA 5 (.t 8)), oe (.store 2 (.t 78) (.t 77))]) .skip)) (.seq (.seq (.reg [oo 79 (.load 1 false (.t 2)), oo 80 (.nilck (.t 79)), oo 81 (.fieldA 0 (.t 80)), oo 82 (.fieldA 8 (.t 81)), oo 83 (.load 1 false (.t 82)), oo 84 (.bin .neq (.t 83) (ci 0))]) (.cond (.t 84) (.reg [oo 85 (.load 2 true (.t 6)), oo 86 (.fieldA 9 (.t 8)), oe (.store 2 (.t 86) (.t 85))]) .skip)) (.seq (.reg [oo 87 (.load 12 true (.t 8)), oe (.store 12 (.t 4) (.t 87))]) .ret)))))))))
theorem fn_convoy_mind_drives_b : FnOK Try.prog 89 88 [.cell 4 12 true] ac_convoy_mind_drives_b := ⟨_, _, Try.func89, rfl, Try.ntmps89, by kernel_rfl, ⟨fun _ => [], by kernel_rfl⟩, by kernel_rfl⟩
set_option maxHeartbeats 4000000 in
theorem convoy_mind_drives_b_ok (p1 : ConvoyMind) (p2 : Int) (r : Mate) (h : convoy_mind_drives_b p1 p2 = some r) : PCall Try.prog 89 [(.bp (eConvoyMind p1) 0), (i64 p2)] (.agg (eMate r)) := by
  refine l_call fn_convoy_mind_drives_b (nl rfl) ?_
  unfold convoy_mind_drives_b at h
  unfold ac_convoy_mind_drives_b
  refine l_sub (s0 := ⟨T [(0, (.d _)), (1, (.d _))], G []⟩) (sbr rfl rfl) ?_
  refine lr (fun u1 hu1 => sn rfl rfl (sn rfl rfl (s_nil (l_seq (lr (fun u2 hu2 => sl rfl (gq rfl) rfl (sv rfl (sv rfl (sv rfl (sv rfl (sv rfl (sv rfl (gt rfl (fun w1 => (v_load rfl (gq rfl) rfl)) ?_)))))))))))))
  refine gt rfl (fun w2 => (by simp only [gd_pos w2]; rfl)) ?_
  refine gt rfl (fun w3 => (by simp only [gd_pos w3]; rfl)) ?_
  refine gt rfl (fun w4 => (by simp only [gd_pos w4]; rfl)) ?_
  refine gt rfl (fun w5 => (by simp only [gd_pos w5]; rfl)) ?_
  refine gt rfl (vb rfl rfl rfl) (sa rfl rfl rfl (s_nil (bs h fun y1 hy1 h => l_join (fun s => ∃ g1 : Unit, Sb ⟨T [(1, (di y1)), (2, (.ptr (2, u1) 0)), (4, (.ptr (4, u1) 0))], G [((2, u1), some (.box 105 [(.d (.bp (eConvoyMind p1) 0))])), ((4, u1), some (.box 65 [(di 0), (di 0), (di 0), (di 0), (di 0), (di 0), (di 0), (.d (bo false)), (di 0), (di 0), (di 0), (di 0)]))]⟩ s) ?_ ?_)))
  · refine cc rfl hy1 (fun c1 hy1 => ?_) (fun c1 hy1 => ?_)
    · refine l_reg fun u3 hu3 => sv rfl (sv rfl (sv rfl (s_nil ?_)))
      obtain rfl := Option.some.inj hy1
      exact l_j ⟨(), (sbr rfl rfl)⟩
    · refine l_skip ?_
      obtain rfl := Option.some.inj hy1
      exact l_j ⟨(), (sbr rfl rfl)⟩
  · rintro _ ⟨g1, q1⟩
    refine l_sub q1 (l_seq (l_draw rfl fun u4 hu4 => sl rfl G_hit rfl (sv rfl (sv rfl (sv rfl (sv rfl (bs h fun v1 hv1 h => s_call rfl rfl all2_refl (convoy_Age_ok _ _  _ hv1) (.inl rfl) (sl rfl G_hit rfl (sv rfl (sv rfl (sv rfl (sv rfl (bs h fun v2 hv2 h => s_call rfl rfl all2_refl (convoy_Age_ok _ _  _ hv2) (.inl rfl) (sn rfl rfl (sn rfl rfl (sst rfl (gq rfl) [(di v1.R), (di v1.V)] rfl (sst rfl (gq rfl) [(di v2.R), (di v2.V)] rfl (s_nil (l_seq (l_sub (s0 := ⟨T [(1, (.d _)), (2, (.ptr _ _)), (4, (.ptr _ _)), (5, (.ptr _ _)), (6, (.ptr _ _))], G [((2, u1), some (.box 105 _)), ((4, u1), some (.box 65 _)), ((5, u4), some (.box 23 _)), ((6, u4), some (.box 23 _))]⟩) (sbr rfl rfl) ?_))))))))))))))))))))
    refine l_draw rfl fun u5 hu5 => sl rfl G_hit rfl (sv rfl (sv rfl (sv rfl (sv rfl (sl rfl G_hit rfl (sv rfl (sv rfl (sv rfl (sv rfl (sv rfl (s_val (.fn _ _ _) rfl rfl (bs h fun v3 hv3 h => s_call rfl (rfL_cons rf_d (rfL_cons rf_d (rfL_cons rf_d (rfL_cons (rf_fn rfL_nil (rfL_cons (rf_ptr G_hit (rfL_cons rf_d rfL_nil)) (rfL_cons (rf_ptr (gq rfl) (rfL_cons rf_d (rfL_cons rf_d rfL_nil))) (rfL_cons (rf_ptr (gq rfl) (rfL_cons rf_d (rfL_cons rf_d rfL_nil))) rfL_nil)))) rfL_nil)))) all2_refl (convoy_greatest_convoy_mind_drives_1bbbb_ok _ _ _ _ _ _  _ hv3) (.inr rfl) (sv rfl (s_nil (l_seq (l_sub (s0 := ⟨T [(2, (.ptr _ _)), (4, (.ptr _ _)), (5, (.ptr _ _)), (6, (.ptr _ _)), (7, (.d _))], G [((2, u1), some (.box 105 _)), ((4, u1), some (.box 65 _)), ((5, u4), some (.box 23 _)), ((6, u4), some (.box 23 _))]⟩) (sbr rfl rfl) ?_))))))))))))))))
    refine l_reg fun u6 hu6 => sl rfl G_hit rfl (sv rfl (sv rfl (sv rfl (sn rfl rfl (sst rfl G_hit (dMate p1.Mate_) rfl (s_nil (l_seq (l_draw rfl fun u7 hu7 => sl rfl (gq rfl) rfl (sv rfl (sv rfl (sv rfl (sv rfl (sl rfl (gq rfl) rfl (sv rfl (sv rfl (sv rfl (sv rfl (sv rfl (bs h fun v4 hv4 h => s_call rfl rfl all2_refl (convoy_moved_ok _ _ _  _ hv4) (.inl rfl) (sv rfl (sv rfl (sv rfl (sp rfl rfl (sst rfl G_hit [(di p1.Mate_.ID), (di v4.1), (di p1.Mate_.V), (di p1.Mate_.Len), (di p1.Mate_.Ahead), (di p1.Mate_.Guess_.R), (di p1.Mate_.Guess_.V), (.d (bo p1.Mate_.Trust)), (di p1.Mate_.Ward), (di p1.Mate_.WardGuess.R), (di p1.Mate_.WardGuess.V), (di p1.Mate_.Until)] rfl (sp rfl rfl (sst rfl G_hit [(di p1.Mate_.ID), (di v4.1), (di v4.2), (di p1.Mate_.Len), (di p1.Mate_.Ahead), (di p1.Mate_.Guess_.R), (di p1.Mate_.Guess_.V), (.d (bo p1.Mate_.Trust)), (di p1.Mate_.Ward), (di p1.Mate_.WardGuess.R), (di p1.Mate_.WardGuess.V), (di p1.Mate_.Until)] rfl (s_nil (l_seq (l_seq (l_sub (s0 := ⟨T [(2, (.ptr _ _)), (4, (.ptr _ _)), (5, (.ptr _ _)), (6, (.ptr _ _)), (8, (.ptr _ _))], G [((2, u1), some (.box 105 _)), ((4, u1), some (.box 65 _)), ((5, u4), some (.box 23 _)), ((6, u4), some (.box 23 _)), ((8, u6), some (.box 65 _))]⟩) (sbr rfl rfl) ?_))))))))))))))))))))))))))))))
    refine l_reg fun u8 hu8 => sl rfl G_hit rfl (sv rfl (sv rfl (sv rfl (sv rfl (sv rfl (s_nil (bs h fun y2 hy2 h => l_join (fun s => ∃ g2 : Unit, Sb ⟨T [(2, (.ptr (2, u1) 0)), (4, (.ptr (4, u1) 0)), (6, (.ptr (6, u4) 0)), (8, (.ptr (8, u6) 0))], G [((2, u1), some (.box 105 [(.d (.bp (eConvoyMind p1) 0))])), ((4, u1), some (.box 65 [(di 0), (di 0), (di 0), (di 0), (di 0), (di 0), (di 0), (.d (bo false)), (di 0), (di 0), (di 0), (di 0)])), ((6, u4), some (.box 23 [(di v2.R), (di v2.V)])), ((8, u6), some (.box 65 (dMate y2)))]⟩ s) ?_ ?_)))))))
    · refine cc rfl hy2 (fun c2 hy2 => ?_) (fun c2 hy2 => ?_)
      · refine l_reg fun u9 hu9 => sd rfl (v_loadG rfl (gq rfl) rfl rfl) (sp rfl rfl (sst rfl (gq rfl) [(di p1.Mate_.ID), (di v4.1), (di v4.2), (di p1.Mate_.Len), (di p1.Mate_.Ahead), (di v1.R), (di v1.V), (.d (bo p1.Mate_.Trust)), (di p1.Mate_.Ward), (di p1.Mate_.WardGuess.R), (di p1.Mate_.WardGuess.V), (di p1.Mate_.Until)] rfl (s_nil ?_)))
        obtain rfl := Option.some.inj hy2
        exact l_j ⟨(), (sbr rfl rfl)⟩
      · refine l_skip ?_
        obtain rfl := Option.some.inj hy2
        exact l_j ⟨(), (sbr rfl rfl)⟩
    · rintro _ ⟨g2, q2⟩
      refine l_sub q2 (l_seq (lr (fun u10 hu10 => sl rfl G_hit rfl (sv rfl (sv rfl (sv rfl (sv rfl (sv rfl (s_nil (cc rfl h (fun c3 h => ?_) (fun c3 h => ?_)))))))))))
      · refine l_reg fun u11 hu11 => sd rfl (v_loadG rfl (gq rfl) rfl rfl) (sp rfl rfl (sst rfl (gq rfl) [(di y2.ID), (di y2.S), (di y2.V), (di y2.Len), (di y2.Ahead), (di y2.Guess_.R), (di y2.Guess_.V), (.d (bo y2.Trust)), (di y2.Ward), (di v2.R), (di v2.V), (di y2.Until)] rfl (s_nil (lr (fun u12 hu12 => sd rfl (v_loadG rfl G_hit rfl rfl) (sst rfl (gq rfl) [(di y2.ID), (di y2.S), (di y2.V), (di y2.Len), (di y2.Ahead), (di y2.Guess_.R), (di y2.Guess_.V), (.d (bo y2.Trust)), (di y2.Ward), (di v2.R), (di v2.V), (di y2.Until)] rfl (s_nil (l_ret ?_))))))))
        obtain rfl := Option.some.inj h
        exact fin_ok (.inr rfl) (resD1 (res_cellG rfl G_hit (nl rfl) rfl) rf_d) (.refl _)
      · refine l_skip (lr (fun u13 hu13 => sd rfl (v_loadG rfl (gq rfl) rfl rfl) (sst rfl (gq rfl) (dMate y2) rfl (s_nil (l_ret ?_)))))
        obtain rfl := Option.some.inj h
        exact fin_ok (.inr rfl) (resD1 (res_cellG rfl G_hit (nl rfl) rfl) rf_d) (.refl _)

noncomputable def convoy_beside_1_b (p1 : Mate) (p2 : Convoy) : Option Bool :=
  some (decide (p1.S ≤ p2.Guest_.S))

/-- kerbstone/convoy.beside$1 -/
def ac_convoy_beside_1_b : AC := (.seq (.reg [oo 2 (.box 65 true (.t 0)), oo 3 (.mv (.c zf))]) (.seq (.reg [oo 4 (.fieldA 1 (.t 2)), oo 5 (.load 1 false (.t 4)), oo 6 (.fieldA 3 (.t 1)), oo 7 (.fieldA 1 (.t 6)), oo 8 (.load 1 false (.t 7)), oo 9 (.bin .leq (.t 5) (.t 8)), oo 3 (.mv (.t 9))]) .ret))
theorem fn_convoy_beside_1_b : FnOK Try.prog 100 10 [.t 3] ac_convoy_beside_1_b := ⟨_, _, Try.func100, rfl, Try.ntmps100, by kernel_rfl, ⟨fun _ => [], by kernel_rfl⟩, by kernel_rfl⟩
theorem convoy_beside_1_b_ok (p1 : Mate) (p2 : Convoy) (r : Bool) (h : convoy_beside_1_b p1 p2 = some r) : PCall Try.prog 100 [(.agg (eMate p1)), (.bp (eConvoy p2) 0)] (bo r) := by
  refine l_call fn_convoy_beside_1_b (nl rfl) ?_
  unfold convoy_beside_1_b at h
  unfold ac_convoy_beside_1_b
  refine l_sub (s0 := ⟨T [(0, (.d _)), (1, (.d _))], G []⟩) (sbr rfl rfl) ?_
  refine lr (fun u1 hu1 => sn rfl rfl (sv rfl (s_nil (lr (fun u2 hu2 => sp rfl rfl (sl rfl G_hit rfl (sv rfl (sv rfl (sv rfl (sv rfl (sv rfl (s_nil (l_ret ?_)))))))))))))
  obtain rfl := Option.some.inj h
  exact fin_ok (.inr rfl) (resD1 (res_t rfl) rf_d) (.refl _)

noncomputable def slices_IndexFunc_Mate_Mate_convoy_beside_1b_l1 (p1 : (List Mate)) (p2 : Convoy) (x1 : Int) : Option (Stp Int (Sum Unit Int)) :=
  cond (decide (x1 < (p1.length : Int))) ((geti p1 x1).bind fun v1 => (convoy_beside_1_b v1 p2).bind fun v2 => cond v2 (some (.out (.inr x1))) (some (.go (w64 (x1 + 1))))) (some (.out (.inl ())))
noncomputable def slices_IndexFunc_Mate_Mate_convoy_beside_1b (p1 : (List Mate)) (p2 : Convoy) : Option Int :=
  thenS (loop (slices_IndexFunc_Mate_Mate_convoy_beside_1b_l1 p1 p2) 0) (fun _ => some (-1)) (fun r => some r)

/-- slices.IndexFunc[[]kerbstone/api.Mate,kerbstone/api.Mate] -/
def ac_slices_IndexFunc_Mate_Mate_convoy_beside_1b : AC := (.seq (.reg [oo 4 (.mv (ci 0))]) (.seq (.seq (.reg [oo 6 (.mv (.t 0)), oo 7 (.len (.t 6)), oo 8 (.mv (ci 0))]) (.block 0 (.loop (.seq (.reg [oo 9 (.bin .lss (.t 8) (.t 7))]) (.seq (.cond (.t 9) .skip (.exit 0)) (.seq (.block 1 (.seq (.reg [oo 10 (.mv (.t 8)), oo 5 (.mv (.t 10))]) (.seq (.reg [oo 11 (.mv (.t 1)), oo 12 (.mv (.t 0)), oo 13 (.mv (.t 5)), oo 14 (.idxS 12 (.t 12) (.t 13)), oo 15 (.load 12 true (.t 14)), oo 16 (.call (.t 11) [(.t 15)])]) (.cond (.t 16) (.seq (.reg [oo 17 (.mv (.t 5)), oo 4 (.mv (.t 17))]) .ret) .skip)))) (.reg [oo 18 (.bin .add (.t 8) (ci 1)), oo 8 (.mv (.t 18))]))))))) (.seq (.reg [oo 4 (.mv (ci (-1)))]) .ret)))
theorem fn_slices_IndexFunc_Mate_Mate_convoy_beside_1b : FnOK Try.prog 98 19 [.t 4] ac_slices_IndexFunc_Mate_Mate_convoy_beside_1b := ⟨_, _, Try.func98, rfl, Try.ntmps98, by kernel_rfl, ⟨fun _ => [], by kernel_rfl⟩, by kernel_rfl⟩
set_option maxHeartbeats 4000000 in
theorem slices_IndexFunc_Mate_Mate_convoy_beside_1b_ok (p1 : (List Mate)) (p2 : Convoy) (r : Int) (h : slices_IndexFunc_Mate_Mate_convoy_beside_1b p1 p2 = some r) : PCall Try.prog 98 [(.list (List.map eMate p1)), (.fn (.func 100) [] [(.bp (eConvoy p2) 0)])] (i64 r) := by
  refine l_call fn_slices_IndexFunc_Mate_Mate_convoy_beside_1b (nl rfl) ?_
  unfold slices_IndexFunc_Mate_Mate_convoy_beside_1b at h
  unfold ac_slices_IndexFunc_Mate_Mate_convoy_beside_1b
  refine l_sub (s0 := ⟨T [(0, (.d _)), (1, (.d _))], G []⟩) (sbr rfl rfl) ?_
  refine lr (fun u1 hu1 => sv rfl (s_nil (l_seq (lr (fun u2 hu2 => sv rfl (sd rfl (v_len rfl) (sv rfl (s_nil (js h fun z1 hz1 h => l_join (fun s => ∃ (y1 : Unit) (g1 : Unit), z1 = .inl y1 ∧ Sb ⟨T [], G []⟩ s) ?_ ?_)))))))))
  · refine l_block (l_loop (slices_IndexFunc_Mate_Mate_convoy_beside_1b_l1 p1 p2) (fun (x1 : Int) (g2 : Unit) => ⟨T [(0, (dl eMate p1)), (1, (.d (.fn (.func 100) [] [(.bp (eConvoy p2) 0)]))), (7, (di (p1.length : Int))), (8, (di x1))], G []⟩) 0 () _ hz1 (sbr rfl rfl) ?_)
    intro x1 g2 z2 hz2 ez2
    unfold slices_IndexFunc_Mate_Mate_convoy_beside_1b_l1 at hz2
    refine lr (fun u3 hu3 => sv rfl (s_nil (l_seq (cc rfl hz2 (fun c1 hz2 => ?_) (fun c1 hz2 => ?_)))))
    · refine l_skip (l_seq (l_block (lr (fun u4 hu4 => sv rfl (sv rfl (s_nil (lr (fun u5 hu5 => sv rfl (sv rfl (sv rfl (bs hz2 fun v1 hv1 hz2 => sd rfl (v_idx rfl rfl hv1 rfl) (sd rfl (v_loadLG rfl hv1 rfl rfl) (bs hz2 fun v2 hv2 hz2 => s_call rfl rfl all2_refl (convoy_beside_1_b_ok _ _  _ hv2) (.inl rfl) (s_nil (cc rfl hz2 (fun c2 hz2 => ?_) (fun c2 hz2 => ?_))))))))))))))))
      · refine lr (fun u6 hu6 => sv rfl (sv rfl (s_nil (l_ret ?_))))
        obtain rfl := Option.some.inj hz2
        obtain rfl := ez2 _ rfl
        refine ⟨nofun, awl_ret ?_⟩
        rw [Sum.elim_inr] at h
        obtain rfl := Option.some.inj h
        exact fin_ok (.inr rfl) (resD1 (res_t rfl) rf_d) (.refl _)
      · refine l_skip (l_end (l_reg fun u7 hu7 => sv rfl (sv rfl (s_nil (l_nil ?_)))))
        obtain rfl := Option.some.inj hz2
        exact ⟨rfl, (), (sbr rfl rfl)⟩
    · refine l_exitN rfl ?_
      obtain rfl := Option.some.inj hz2
      obtain rfl := ez2 _ rfl
      refine ⟨nofun, awl_pop rfl (l_j ?_)⟩
      exact ⟨_, (), rfl, (sbr rfl rfl)⟩
  · rintro _ ⟨y1, g1, rfl, q1⟩
    rw [Sum.elim_inl] at h
    refine l_sub q1 (lr (fun u8 hu8 => sv rfl (s_nil (l_ret ?_))))
    obtain rfl := Option.some.inj h
    exact fin_ok (.inr rfl) (resD1 (res_t rfl) rf_d) (.refl _)

noncomputable def convoy_beside (p1 : Convoy) : Option (Int × Int) :=
  (slices_IndexFunc_Mate_Mate_convoy_beside_1b p1.Mates p1).bind fun v1 => cond (decide (v1 < 0)) (some ((w64 ((p1.Mates.length : Int) - 1)), (-1))) (some ((w64 (v1 - 1)), v1))

/-- kerbstone/convoy.beside -/
def ac_convoy_beside : AC := (.seq (.reg [oo 1 (.box 38 true (.t 0)), oo 2 (.mv (ci 0)), oo 3 (.mv (ci 0))]) (.seq (.reg [oo 5 (.fieldA 2 (.t 1)), oo 6 (.load 1 false (.t 5)), oo 7 (.mkfn (.func 100) [] [(.t 1)]), oo 8 (.call (cf 98) [(.t 6), (.t 7)]), oo 4 (.mv (.t 8))]) (.seq (.seq (.reg [oo 9 (.mv (.t 4)), oo 10 (.bin .lss (.t 9) (ci 0))]) (.cond (.t 10) (.seq (.reg [oo 11 (.fieldA 2 (.t 1)), oo 12 (.load 1 false (.t 11)), oo 13 (.len (.t 12)), oo 14 (.bin .sub (.t 13) (ci 1)), oo 2 (.mv (.t 14)), oo 3 (.mv (ci (-1)))]) .ret) .skip)) (.seq (.reg [oo 15 (.mv (.t 4)), oo 16 (.bin .sub (.t 15) (ci 1)), oo 17 (.mv (.t 4)), oo 2 (.mv (.t 16)), oo 3 (.mv (.t 17))]) .ret))))
theorem fn_convoy_beside : FnOK Try.prog 65 18 [.t 2, .t 3] ac_convoy_beside := ⟨_, _, Try.func65, rfl, Try.ntmps65, by kernel_rfl, ⟨fun _ => [], by kernel_rfl⟩, by kernel_rfl⟩
theorem convoy_beside_ok (p1 : Convoy) (r : (Int × Int)) (h : convoy_beside p1 = some r) : PCall Try.prog 65 [(.agg (eConvoy p1))] (.tup [(i64 r.1), (i64 r.2)]) := by
  refine l_call fn_convoy_beside (nl rfl) ?_
  unfold convoy_beside at h
  unfold ac_convoy_beside
  refine l_sub (s0 := ⟨T [(0, (.d _))], G []⟩) (sbr rfl rfl) ?_
  refine lr (fun u1 hu1 => sn rfl rfl (sv rfl (sv rfl (s_nil (lr (fun u2 hu2 => sp rfl rfl (sl rfl G_hit rfl (s_val (.fn _ _ _) rfl rfl (bs h fun v1 hv1 h => s_call rfl (rfL_cons rf_d (rfL_cons (rf_fn rfL_nil (rfL_cons (rf_ptr G_hit (rfL_cons rf_d (rfL_cons rf_d (rfL_cons rf_d (rfL_cons rf_d (rfL_cons rf_d (rfL_cons rf_d (rfL_cons rf_d (rfL_cons rf_d (rfL_cons rf_d (rfL_cons rf_d (rfL_cons rf_d (rfL_cons rf_d (rfL_cons rf_d rfL_nil)))))))))))))) rfL_nil)) rfL_nil)) all2_refl (slices_IndexFunc_Mate_Mate_convoy_beside_1b_ok _ _  _ hv1) (.inr rfl) (sv rfl (s_nil (l_seq (lr (fun u3 hu3 => sv rfl (sv rfl (s_nil (cc rfl h (fun c1 h => ?_) (fun c1 h => ?_))))))))))))))))))
  · refine lr (fun u4 hu4 => sp rfl rfl (sl rfl G_hit rfl (sd rfl (v_len rfl) (sv rfl (sv rfl (sv rfl (s_nil (l_ret ?_))))))))
    obtain rfl := Option.some.inj h
    exact fin_ok (.inr rfl) (resD2 (res_t rfl) (res_t rfl) rf_d rf_d) (.refl _)
  · refine l_skip (lr (fun u5 hu5 => sv rfl (sv rfl (sv rfl (sv rfl (sv rfl (s_nil (l_ret ?_))))))))
    obtain rfl := Option.some.inj h
    exact fin_ok (.inr rfl) (resD2 (res_t rfl) (res_t rfl) rf_d rf_d) (.refl _)

noncomputable def convoy_nearer_o (p1 : Guest) (p2 : Int) (p3 : Guess) : Option Guest :=
  (cond (p1.Ahead != 0) ((convoy_Better p1.Guess_ p3).bind fun v1 => some v1) (some p3)).bind fun y1 => some (Guest.mk p1.ID p1.S p1.V p1.Len p1.End p2 y1 p1.From p1.Until)

/-- kerbstone/convoy.nearer -/
def ac_convoy_nearer_o : AC := (.seq (.reg [oo 5 (.box 23 true (.t 2))]) (.seq (.seq (.reg [oo 6 (.mv (.t 0)), oo 7 (.nilck (.t 6)), oo 8 (.fieldA 5 (.t 7)), oo 9 (.load 1 false (.t 8)), oo 10 (.bin .neq (.t 9) (ci 0))]) (.cond (.t 10) (.draw [oo 11 (.mv (.t 0)), oo 12 (.nilck (.t 11)), oo 13 (.fieldA 6 (.t 12)), oo 14 (.load 2 true (.t 13)), oo 15 (.load 2 true (.t 5)), oo 16 (.call (cf 19) [(.t 14), (.t 15)]), oe (.store 2 (.t 5) (.t 16))] []) .skip)) (.draw [oo 17 (.mv (.t 0)), oo 18 (.mv (.t 0)), oo 19 (.mv (.t 1)), oo 20 (.load 2 true (.t 5)), oo 21 (.nilck (.t 17)), oo 22 (.fieldA 5 (.t 21)), oe (.store 1 (.t 22) (.t 19)), oo 23 (.nilck (.t 18)), oo 24 (.fieldA 6 (.t 23)), oe (.store 2 (.t 24) (.t 20))] [(3, 6)])))
theorem fn_convoy_nearer_o : FnOK Try.prog 117 25 [] ac_convoy_nearer_o := ⟨_, _, Try.func117, rfl, Try.ntmps117, by kernel_rfl, ⟨fun _ => [], by kernel_rfl⟩, by kernel_rfl⟩
theorem convoy_nearer_o_ok (p1 : Guest) (p2 : Int) (p3 : Guess) (r : Guest) (h : convoy_nearer_o p1 p2 p3 = some r) : MCall Try.prog 117 [(.ptr (900000, 0) 0), (di p2), (.d (.agg [(i64 p3.R), (i64 p3.V)]))] [(.box 36 (dGuest p1))] (.d (.tup [])) [some (.box 36 (dGuest r))] [] := by
  refine m_callF fn_convoy_nearer_o rfl (nl rfl) ?_
  unfold convoy_nearer_o at h
  unfold ac_convoy_nearer_o
  refine l_sub (s0 := ⟨T [(0, (.ptr _ _)), (1, (.d _)), (2, (.d _))], G [((900000, 0), some (.box 36 _))]⟩) (sbr rfl rfl) ?_
  refine lr (fun u1 hu1 => sn rfl rfl (s_nil (l_seq (lr (fun u2 hu2 => sp rfl rfl (sp rfl rfl (sp rfl rfl (sl rfl (gq rfl) rfl (sv rfl (s_nil (bs h fun y1 hy1 h => l_join (fun s => ∃ g1 : Unit, Sb ⟨T [(0, (.ptr (900000, 0) 0)), (1, (di p2)), (5, (.ptr (5, u1) 0))], G [((900000, 0), some (.box 36 (dGuest p1))), ((5, u1), some (.box 23 [(di y1.R), (di y1.V)]))]⟩ s) ?_ ?_)))))))))))
  · refine cc rfl hy1 (fun c1 hy1 => ?_) (fun c1 hy1 => ?_)
    · refine l_draw rfl fun u3 hu3 => sp rfl rfl (sp rfl rfl (sp rfl rfl (sd rfl (v_loadG rfl (gq rfl) rfl rfl) (sd rfl (v_loadG rfl G_hit rfl rfl) (bs hy1 fun v1 hv1 hy1 => s_call rfl rfl all2_refl (convoy_Better_ok _ _  _ hv1) (.inl rfl) (sst rfl G_hit [(di v1.R), (di v1.V)] rfl (s_nil ?_)))))))
      obtain rfl := Option.some.inj hy1
      exact l_j ⟨(), (sbr rfl rfl)⟩
    · refine l_skip ?_
      obtain rfl := Option.some.inj hy1
      exact l_j ⟨(), (sbr rfl rfl)⟩
  · rintro _ ⟨g1, q1⟩
    refine l_sub q1 (l_drawT fun u4 hu4 => t_val (.ptr _ _) rfl rfl (t_val (.ptr _ _) rfl rfl (t_val (.d _) rfl rfl (t_val (.d _) rfl (v_loadG rfl (gq rfl) rfl rfl) (t_val (.ptr _ _) rfl rfl (t_val (.ptr _ _) rfl rfl (t_store _ _ _ _ _ rfl rfl rfl G_hit (nl rfl) [(di p1.ID), (di p1.S), (di p1.V), (di p1.Len), (di p1.End), (di p2), (di p1.Guess_.R), (di p1.Guess_.V), (di p1.From), (di p1.Until)] rfl (t_val (.ptr _ _) rfl rfl (t_val (.ptr _ _) rfl rfl (t_store _ _ _ _ _ rfl rfl rfl G_hit (nl rfl) [(di p1.ID), (di p1.S), (di p1.V), (di p1.Len), (di p1.End), (di p2), (di y1.R), (di y1.V), (di p1.From), (di p1.Until)] rfl (t_nil ⟨rfl, ?_⟩)))))))))))
    refine l_nil ?_
    obtain rfl := Option.some.inj h
    exact fin_mf (.inl rfl) [] resDF0 (.refl _) ⟨⟨_, _, _, G_hit, old_notin_nil, rfl, all2_d, rfl⟩, trivial⟩

noncomputable def convoy_arrives_l1 (p1 : Convoy) (p2 : (List ConvoyLetter)) (y1 : Int) (y2 : Int) (x1 : (Int × Guest)) : Option (Stp (Int × Guest) Guest) :=
  cond (decide (x1.1 < (p2.length : Int))) ((geti p2 x1.1).bind fun v4 => cond ((v4.Note_.Kind == 1) && (v4.Note_.From == y1)) ((convoy_nearer_o x1.2 y1 v4.guess).bind fun v5 => some (.go ((w64 (x1.1 + 1)), v5))) (cond ((((v4.Note_.Kind == 3) && (v4.Note_.To == x1.2.ID)) && (v4.Note_.From == y2)) && (decide (v4.Note_.Until ≥ p1.Tick))) (some (.go ((w64 (x1.1 + 1)), (Guest.mk x1.2.ID x1.2.S x1.2.V x1.2.Len x1.2.End x1.2.Ahead x1.2.Guess_ y2 v4.Note_.Until)))) (some (.go ((w64 (x1.1 + 1)), x1.2))))) (some (.out x1.2))
noncomputable def convoy_arrives (p1 : Convoy) (p2 : (List ConvoyLetter)) (p3 : (List Sight)) : Option (Guest × Bool) :=
  (convoy_beside p1).bind fun v1 => (cond (decide (v1.1 ≥ 0)) ((geti p1.Mates v1.1).bind fun v2 => some v2.ID) (some 0)).bind fun y1 => (cond (decide (v1.2 ≥ 0)) ((geti p1.Mates v1.2).bind fun v3 => some v3.ID) (some 0)).bind fun y2 => (cond (p1.Guest_.Ahead != y1) (some (Guest.mk p1.Guest_.ID p1.Guest_.S p1.Guest_.V p1.Guest_.Len p1.Guest_.End 0 (Guess.mk 0 0) p1.Guest_.From p1.Guest_.Until)) (some p1.Guest_)).bind fun y3 => (loop (convoy_arrives_l1 p1 p2 y1 y2) (0, y3)).bind fun y4 => (convoy_look p3 y4.ID).bind fun v6 => (cond (v6.2 && (y1 != 0)) ((convoy_nearer_o y4 y1 (Guess.mk v6.1.Lo v6.1.VLo)).bind fun v7 => some v7) (some y4)).bind fun y5 => ((cond ((!(y1 == 0)) && (y5.Ahead == y1)) (convoy_Safe y5.S y5.V p1.Gap y5.Guess_) (some default))).bind fun v8 => some (y5, (((y1 == 0) || ((y5.Ahead == y1) && v8)) && ((y2 == 0) || ((y5.From == y2) && (decide (p1.Tick ≤ y5.Until))))))

/-- kerbstone/convoy.arrives -/
def ac_convoy_arrives : AC := (.seq (.reg [oo 3 (.box 38 true (.t 0)), oo 6 (.alloc 36 [z0, z0, z0, z0, z0, z0, z0, z0, z0, z0]), oo 7 (.mv (.c zf))]) (.seq (.reg [oo 19 (.fieldA 3 (.t 3)), oo 20 (.load 10 true (.t 19)), oo 8 (.alloc 36 [z0, z0, z0, z0, z0, z0, z0, z0, z0, z0]), oe (.store 10 (.t 8) (.t 20))]) (.seq (.reg [oo 9 (.mv (ci 0)), oo 10 (.mv (ci 0))]) (.seq (.reg [oo 22 (.load 13 true (.t 3)), oo 23 (.call (cf 65) [(.t 22)]), oo 21 (.mv (.t 23)), oo 24 (.ext (.t 21) 0), oo 25 (.ext (.t 21) 1), oo 11 (.mv (.t 24)), oo 12 (.mv (.t 25))]) (.seq (.seq (.reg [oo 26 (.mv (.t 11)), oo 27 (.bin .geq (.t 26) (ci 0))]) (.cond (.t 27) (.reg [oo 28 (.fieldA 2 (.t 3)), oo 29 (.load 1 false (.t 28)), oo 30 (.mv (.t 11)), oo 31 (.idxS 12 (.t 29) (.t 30)), oo 32 (.fieldA 0 (.t 31)), oo 33 (.load 1 false (.t 32)), oo 9 (.mv (.t 33))]) .skip)) (.seq (.seq (.reg [oo 34 (.mv (.t 12)), oo 35 (.bin .geq (.t 34) (ci 0))]) (.cond (.t 35) (.reg [oo 36 (.fieldA 2 (.t 3)), oo 37 (.load 1 false (.t 36)), oo 38 (.mv (.t 12)), oo 39 (.idxS 12 (.t 37) (.t 38)), oo 40 (.fieldA 0 (.t 39)), oo 41 (.load 1 false (.t 40)), oo 10 (.mv (.t 41))]) .skip)) (.seq (.seq (.reg [oo 42 (.fieldA 5 (.t 8)), oo 43 (.load 1 false (.t 42)), oo 44 (.mv (.t 9)), oo 45 (.bin .neq (.t 43) (.t 44))]) (.cond (.t 45) (.reg [oo 46 (.build [z0, z0] []), oo 47 (.fieldA 5 (.t 8)), oe (.store 1 (.t 47) (ci 0)), oo 48 (.fieldA 6 (.t 8)), oe (.store 2 (.t 48) (.t 46))]) .skip)) (.seq (.seq (.reg [oo 49 (.mv (.t 1)), oo 50 (.len (.t 49)), oo 51 (.mv (ci 0))]) (.block 0 (.loop (.seq (.reg [oo 52 (.bin .lss (.t 51) (.t 50))]) (.seq (.cond (.t 52) .skip (.exit 0)) (.seq (.block 1 (.seq (.reg [oo 53 (.idxS 9 (.t 49) (.t 51)), oo 54 (.load 9 true (.t 53)), oo 14 (.alloc 125 [z0, z0, z0, z0, z0, z0, z0, z0, z0]), oe (.store 9 (.t 14) (.t 54))]) (.block 2 (.seq (.reg [oo 56 (.fieldA 0 (.t 14)), oo 57 (.fieldA 0 (.t 56)), oo 58 (.load 1 false (.t 57)), oo 59 (.bin .eql (.t 58) (ci 1)), oo 60 (.mv (.t 59)), og 61 (.fieldA 0 (.t 14)) 60, og 62 (.fieldA 1 (.t 61)) 60, og 63 (.load 1 false (.t 62)) 60, og 64 (.mv (.t 9)) 60, og 65 (.bin .eql (.t 63) (.t 64)) 60, oo 66 (.pick (.t 60) (.t 65) (.c zf)), oo 55 (.mv (.t 66))]) (.cond (.t 55) (.reg [oo 67 (.mv (.t 9)), oo 68 (.fieldA 7 (.t 14)), oo 69 (.load 2 true (.t 68)), oo 70 (.ocall 10140030 (cf 117) [(.t 8), (.t 67), (.t 69)])]) (.seq (.reg [oo 72 (.fieldA 0 (.t 14)), oo 73 (.fieldA 0 (.t 72)), oo 74 (.load 1 false (.t 73)), oo 75 (.bin .eql (.t 74) (ci 3)), oo 76 (.mv (.t 75)), og 77 (.fieldA 0 (.t 14)) 76, og 78 (.fieldA 2 (.t 77)) 76, og 79 (.load 1 false (.t 78)) 76, og 80 (.fieldA 0 (.t 8)) 76, og 81 (.load 1 false (.t 80)) 76, og 82 (.bin .eql (.t 79) (.t 81)) 76, oo 83 (.pick (.t 76) (.t 82) (.c zf)), oo 84 (.mv (.t 83)), og 85 (.fieldA 0 (.t 14)) 84, og 86 (.fieldA 1 (.t 85)) 84, og 87 (.load 1 false (.t 86)) 84, og 88 (.mv (.t 10)) 84, og 89 (.bin .eql (.t 87) (.t 88)) 84, oo 90 (.pick (.t 84) (.t 89) (.c zf)), oo 91 (.mv (.t 90)), og 92 (.fieldA 0 (.t 14)) 91, og 93 (.fieldA 6 (.t 92)) 91, og 94 (.load 1 false (.t 93)) 91, og 95 (.fieldA 0 (.t 3)) 91, og 96 (.load 1 false (.t 95)) 91, og 97 (.bin .geq (.t 94) (.t 96)) 91, oo 98 (.pick (.t 91) (.t 97) (.c zf)), oo 71 (.mv (.t 98))]) (.cond (.t 71) (.draw [oo 99 (.mv (.t 10)), oo 100 (.fieldA 0 (.t 14)), oo 101 (.fieldA 6 (.t 100)), oo 102 (.load 1 false (.t 101)), oo 103 (.fieldA 8 (.t 8)), oe (.store 1 (.t 103) (.t 99)), oo 104 (.fieldA 9 (.t 8)), oe (.store 1 (.t 104) (.t 102))] [(3, 5)]) .skip))))))) (.reg [oo 105 (.bin .add (.t 51) (ci 1)), oo 51 (.mv (.t 105))]))))))) (.seq (.seq (.reg [oo 107 (.mv (.t 2)), oo 108 (.fieldA 0 (.t 8)), oo 109 (.load 1 false (.t 108)), oo 110 (.call (cf 87) [(.t 107), (.t 109)]), oo 106 (.mv (.t 110)), oo 111 (.ext (.t 106) 0), oo 112 (.ext (.t 106) 1), oo 15 (.alloc 42 [z0, z0, z0, z0, z0]), oe (.store 5 (.t 15) (.t 111)), oo 16 (.mv (.t 112))]) (.seq (.reg [oo 113 (.mv (.t 16)), oo 114 (.mv (.t 113)), og 115 (.mv (.t 9)) 114, og 116 (.bin .neq (.t 115) (ci 0)) 114, oo 117 (.pick (.t 114) (.t 116) (.c zf))]) (.cond (.t 117) (.reg [oo 118 (.mv (.t 9)), oo 119 (.fieldA 1 (.t 15)), oo 120 (.load 1 false (.t 119)), oo 121 (.fieldA 3 (.t 15)), oo 122 (.load 1 false (.t 121)), oo 123 (.build [z0, z0] [(0, 1, (.t 120)), (1, 1, (.t 122))]), oo 124 (.ocall 10200060 (cf 117) [(.t 8), (.t 118), (.t 123)])]) .skip))) (.seq (.reg [oo 125 (.mv (.t 9)), oo 126 (.bin .eql (.t 125) (ci 0)), oo 127 (.mv (.t 126)), oh 128 (.fieldA 5 (.t 8)) 127, oh 129 (.load 1 false (.t 128)) 127, oh 130 (.mv (.t 9)) 127, oh 131 (.bin .eql (.t 129) (.t 130)) 127, oh 132 (.mv (.t 131)) 127, og 133 (.fieldA 1 (.t 8)) 132, og 134 (.load 1 false (.t 133)) 132, og 135 (.fieldA 2 (.t 8)) 132, og 136 (.load 1 false (.t 135)) 132, og 137 (.fieldA 1 (.t 3)) 132, og 138 (.load 1 false (.t 137)) 132, og 139 (.fieldA 6 (.t 8)) 132, og 140 (.load 2 true (.t 139)) 132, og 141 (.call (cf 21) [(.t 134), (.t 136), (.t 138), (.t 140)]) 132, oh 142 (.pick (.t 132) (.t 141) (.c zf)) 127, oo 143 (.pick (.t 127) (.c (.v (.bool true))) (.t 142)), oo 17 (.mv (.t 143))]) (.seq (.reg [oo 144 (.mv (.t 10)), oo 145 (.bin .eql (.t 144) (ci 0)), oo 146 (.mv (.t 145)), oh 147 (.fieldA 8 (.t 8)) 146, oh 148 (.load 1 false (.t 147)) 146, oh 149 (.mv (.t 10)) 146, oh 150 (.bin .eql (.t 148) (.t 149)) 146, oh 151 (.mv (.t 150)) 146, og 152 (.fieldA 0 (.t 3)) 151, og 153 (.load 1 false (.t 152)) 151, og 154 (.fieldA 9 (.t 8)) 151, og 155 (.load 1 false (.t 154)) 151, og 156 (.bin .leq (.t 153) (.t 155)) 151, oh 157 (.pick (.t 151) (.t 156) (.c zf)) 146, oo 158 (.pick (.t 146) (.c (.v (.bool true))) (.t 157)), oo 18 (.mv (.t 158))]) (.seq (.reg [oo 159 (.load 10 true (.t 8)), oo 160 (.mv (.t 17)), oo 161 (.mv (.t 160)), og 162 (.mv (.t 18)) 161, oo 163 (.pick (.t 161) (.t 162) (.c zf)), oe (.store 10 (.t 6) (.t 159)), oo 7 (.mv (.t 163))]) .ret))))))))))))
theorem fn_convoy_arrives : FnOK Try.prog 90 164 [.cell 6 10 true, .t 7] ac_convoy_arrives := ⟨_, _, Try.func90, rfl, Try.ntmps90, by kernel_rfl, ⟨fun r => if r == 14 then [1014003] else if r == 20 then [1020006] else [], by kernel_rfl⟩, by kernel_rfl⟩
set_option maxHeartbeats 4000000 in
theorem convoy_arrives_ok (p1 : Convoy) (p2 : (List ConvoyLetter)) (p3 : (List Sight)) (r : (Guest × Bool)) (h : convoy_arrives p1 p2 p3 = some r) : PCall Try.prog 90 [(.agg (eConvoy p1)), (.list (List.map eConvoyLetter p2)), (.list (List.map eSight p3))] (.tup [(.agg (eGuest r.1)), (bo r.2)]) := by
  refine l_call fn_convoy_arrives (nl rfl) ?_
  unfold convoy_arrives at h
  unfold ac_convoy_arrives
  refine l_sub (s0 := ⟨T [(0, (.d _)), (1, (.d _)), (2, (.d _))], G []⟩) (sbr rfl rfl) ?_
  refine lr (fun u1 hu1 => sn rfl rfl (sn rfl rfl (sv rfl (s_nil (lr (fun u2 hu2 => sp rfl rfl (sd rfl (v_loadG rfl (gq rfl) rfl rfl) (sn rfl rfl (sst rfl G_hit (dGuest p1.Guest_) rfl (s_nil (lr (fun u3 hu3 => sv rfl (sv rfl (s_nil (lr (fun u4 hu4 => sd rfl (v_loadG rfl (gq rfl) rfl rfl) (bs h fun v1 hv1 h => s_call rfl rfl all2_refl (convoy_beside_ok _  _ hv1) (.inl rfl) (sv rfl (sv rfl (sv rfl (sv rfl (sv rfl (s_nil (l_seq (lr (fun u5 hu5 => sv rfl (sv rfl (s_nil (bs h fun y1 hy1 h => l_join (fun s => ∃ g1 : Unit, Sb ⟨T [(1, (dl eConvoyLetter p2)), (2, (dl eSight p3)), (3, (.ptr (3, u1) 0)), (6, (.ptr (6, u1) 0)), (8, (.ptr (8, u2) 0)), (9, (di y1)), (10, (di 0)), (12, (di v1.2))], G [((3, u1), some (.box 38 (dConvoy p1))), ((6, u1), some (.box 36 [(di 0), (di 0), (di 0), (di 0), (di 0), (di 0), (di 0), (di 0), (di 0), (di 0)])), ((8, u2), some (.box 36 (dGuest p1.Guest_)))]⟩ s) ?_ ?_)))))))))))))))))))))))))))))
  · refine cc rfl hy1 (fun c1 hy1 => ?_) (fun c1 hy1 => ?_)
    · refine l_sub (s0 := ⟨T [(1, (.d _)), (2, (.d _)), (3, (.ptr _ _)), (6, (.ptr _ _)), (8, (.ptr _ _)), (10, (.d _)), (11, (.d _)), (12, (.d _))], G [((3, u1), some (.box 38 _)), ((6, u1), some (.box 36 _)), ((8, u2), some (.box 36 _))]⟩) (sbr rfl rfl) ?_
      refine l_reg fun u6 hu6 => sp rfl rfl (sl rfl G_hit rfl (sv rfl (bs hy1 fun v2 hv2 hy1 => sd rfl (v_idx rfl rfl hv2 rfl) (sv rfl (sd rfl (v_loadL rfl hv2 rfl) (sv rfl (s_nil ?_)))))))
      obtain rfl := Option.some.inj hy1
      exact l_j ⟨(), (sbr rfl rfl)⟩
    · refine l_skip ?_
      obtain rfl := Option.some.inj hy1
      exact l_j ⟨(), (sbr rfl rfl)⟩
  · rintro _ ⟨g1, q1⟩
    refine l_sub q1 (l_seq (lr (fun u7 hu7 => sv rfl (sv rfl (s_nil (bs h fun y2 hy2 h => l_join (fun s => ∃ g2 : Unit, Sb ⟨T [(1, (dl eConvoyLetter p2)), (2, (dl eSight p3)), (3, (.ptr (3, u1) 0)), (6, (.ptr (6, u1) 0)), (8, (.ptr (8, u2) 0)), (9, (di y1)), (10, (di y2))], G [((3, u1), some (.box 38 (dConvoy p1))), ((6, u1), some (.box 36 [(di 0), (di 0), (di 0), (di 0), (di 0), (di 0), (di 0), (di 0), (di 0), (di 0)])), ((8, u2), some (.box 36 (dGuest p1.Guest_)))]⟩ s) ?_ ?_))))))
    · refine cc rfl hy2 (fun c2 hy2 => ?_) (fun c2 hy2 => ?_)
      · refine l_reg fun u8 hu8 => sp rfl rfl (sl rfl G_hit rfl (sv rfl (bs hy2 fun v3 hv3 hy2 => sd rfl (v_idx rfl rfl hv3 rfl) (sv rfl (sd rfl (v_loadL rfl hv3 rfl) (sv rfl (s_nil ?_)))))))
        obtain rfl := Option.some.inj hy2
        exact l_j ⟨(), (sbr rfl rfl)⟩
      · refine l_skip ?_
        obtain rfl := Option.some.inj hy2
        exact l_j ⟨(), (sbr rfl rfl)⟩
    · rintro _ ⟨g2, q2⟩
      refine l_sub q2 (l_seq (lr (fun u9 hu9 => sp rfl rfl (sl rfl (gq rfl) rfl (sv rfl (sv rfl (s_nil (bs h fun y3 hy3 h => l_join (fun s => ∃ g3 : Unit, Sb ⟨T [(1, (dl eConvoyLetter p2)), (2, (dl eSight p3)), (3, (.ptr (3, u1) 0)), (6, (.ptr (6, u1) 0)), (8, (.ptr (8, u2) 0)), (9, (di y1)), (10, (di y2))], G [((3, u1), some (.box 38 (dConvoy p1))), ((6, u1), some (.box 36 [(di 0), (di 0), (di 0), (di 0), (di 0), (di 0), (di 0), (di 0), (di 0), (di 0)])), ((8, u2), some (.box 36 (dGuest y3)))]⟩ s) ?_ ?_))))))))
      · refine cc rfl hy3 (fun c3 hy3 => ?_) (fun c3 hy3 => ?_)
        · refine l_reg fun u10 hu10 => sv rfl (sp rfl rfl (sst rfl (gq rfl) [(di p1.Guest_.ID), (di p1.Guest_.S), (di p1.Guest_.V), (di p1.Guest_.Len), (di p1.Guest_.End), (di 0), (di p1.Guest_.Guess_.R), (di p1.Guest_.Guess_.V), (di p1.Guest_.From), (di p1.Guest_.Until)] rfl (sp rfl rfl (sst rfl G_hit [(di p1.Guest_.ID), (di p1.Guest_.S), (di p1.Guest_.V), (di p1.Guest_.Len), (di p1.Guest_.End), (di 0), (di 0), (di 0), (di p1.Guest_.From), (di p1.Guest_.Until)] rfl (s_nil ?_)))))
          obtain rfl := Option.some.inj hy3
          exact l_j ⟨(), (sbr rfl rfl)⟩
        · refine l_skip ?_
          obtain rfl := Option.some.inj hy3
          exact l_j ⟨(), (sbr rfl rfl)⟩
      · rintro _ ⟨g3, q3⟩
        refine l_sub q3 (l_seq (lr (fun u11 hu11 => sv rfl (sd rfl (v_len rfl) (sv rfl (s_nil (bs h fun y4 hy4 h => l_join (fun s => ∃ g4 : Unit, Sb ⟨T [(2, (dl eSight p3)), (3, (.ptr (3, u1) 0)), (6, (.ptr (6, u1) 0)), (8, (.ptr (8, u2) 0)), (9, (di y1)), (10, (di y2))], G [((3, u1), some (.box 38 (dConvoy p1))), ((6, u1), some (.box 36 [(di 0), (di 0), (di 0), (di 0), (di 0), (di 0), (di 0), (di 0), (di 0), (di 0)])), ((8, u2), some (.box 36 (dGuest y4)))]⟩ s) ?_ ?_)))))))
        · refine l_block (l_loop (convoy_arrives_l1 p1 p2 y1 y2) (fun (x1 : (Int × Guest)) (g5 : Unit) => ⟨T [(2, (dl eSight p3)), (3, (.ptr (3, u1) 0)), (6, (.ptr (6, u1) 0)), (8, (.ptr (8, u2) 0)), (9, (di y1)), (10, (di y2)), (49, (dl eConvoyLetter p2)), (50, (di (p2.length : Int))), (51, (di x1.1))], G [((3, u1), some (.box 38 (dConvoy p1))), ((6, u1), some (.box 36 [(di 0), (di 0), (di 0), (di 0), (di 0), (di 0), (di 0), (di 0), (di 0), (di 0)])), ((8, u2), some (.box 36 (dGuest x1.2)))]⟩) (0, y3) () _ hy4 (sbr rfl rfl) ?_)
          intro x1 g5 z1 hz1 ez1
          unfold convoy_arrives_l1 at hz1
          refine lr (fun u12 hu12 => sv rfl (s_nil (l_seq (cc rfl hz1 (fun c4 hz1 => ?_) (fun c4 hz1 => ?_)))))
          · refine l_skip (l_seq (l_block (lr (fun u13 hu13 => bs hz1 fun v4 hv4 hz1 => sd rfl (v_idx rfl rfl hv4 rfl) (sd rfl (v_loadLG rfl hv4 rfl rfl) (sn rfl rfl (sst rfl G_hit (dConvoyLetter v4) rfl (s_nil (l_block (lr (fun u14 hu14 => sp rfl rfl (sp rfl rfl (sl rfl G_hit rfl (sv rfl (sv rfl (gp rfl (gw_t rfl) (fun _ => rfl) ?_))))))))))))))))
            refine g_val _ (.ptr _ _) rfl (gw_t rfl) (fun w2 => (by simp only [gd_pos w2]; rfl)) ?_
            refine gt rfl (vl rfl G_hit rfl) (gt rfl (fun _ => rfl) (gt rfl (fun w5 => (v_bin (gd_pos w5) (gd_pos w5) rfl)) (sa rfl rfl rfl (sv rfl (s_nil (cc rfl hz1 (fun c5 hz1 => ?_) (fun c5 hz1 => ?_)))))))
            · refine l_sub (s0 := ⟨T [(2, (.d _)), (3, (.ptr _ _)), (6, (.ptr _ _)), (8, (.ptr _ _)), (9, (.d _)), (10, (.d _)), (14, (.ptr _ _)), (49, (.d _)), (50, (.d _)), (51, (.d _))], G [((3, u1), some (.box 38 _)), ((6, u1), some (.box 36 _)), ((8, u2), some (.box 36 _)), ((14, u13), some (.box 125 _))]⟩) (sbr rfl rfl) ?_
              refine l_reg fun u15 hu15 => sv rfl (sp rfl rfl (sd rfl (v_loadG rfl (gq rfl) rfl rfl) (bs hz1 fun v5 hv5 hz1 => s_oc (v := .d (.tup [])) (us := [(8, u2)]) (oc_m (convoy_nearer_o_ok _ _ _ _ hv5) [(8, u2)] [(8, u2)] _ (((8, u2), some (.box 36 (dGuest v5))) :: _) rfl all2_av (kl_cons (kr_ptr (G_skip rfl (G_skip rfl G_hit)) rfl) (kl_cons kr_d (kl_cons kr_d kl_nil))) (live_cons (G_skip rfl (G_skip rfl G_hit)) live_nil) ⟨⟨_, (G_skip rfl (G_skip rfl G_hit)), .of rfl⟩, trivial⟩ (fun _ h => h) nd1 rfl rfl rfl) (s_nil (l_end (l_end (l_reg fun u16 hu16 => sv rfl (sv rfl (s_nil (l_nil ?_))))))))))
              obtain rfl := Option.some.inj hz1
              exact ⟨rfl, (), (sbr rfl rfl)⟩
            · refine l_seq (l_sub (s0 := ⟨T [(2, (.d _)), (3, (.ptr _ _)), (6, (.ptr _ _)), (8, (.ptr _ _)), (9, (.d _)), (10, (.d _)), (14, (.ptr _ _)), (49, (.d _)), (50, (.d _)), (51, (.d _))], G [((3, u1), some (.box 38 _)), ((6, u1), some (.box 36 _)), ((8, u2), some (.box 36 _)), ((14, u13), some (.box 125 _))]⟩) (sbr rfl rfl) ?_)
              refine l_reg fun u17 hu17 => sp rfl rfl (sp rfl rfl (sl rfl (gq rfl) rfl (sv rfl (sv rfl (gp rfl (gw_t rfl) (fun _ => rfl) ?_)))))
              refine g_val _ (.ptr _ _) rfl (gw_t rfl) (fun w7 => (by simp only [gd_pos w7]; rfl)) ?_
              refine gt rfl (vl rfl (gq rfl) rfl) (gp rfl (gw_t rfl) (fun _ => rfl) (gt rfl (vl rfl (gq rfl) rfl) (gt rfl (fun w11 => (v_bin (gd_pos w11) (gd_pos w11) rfl)) (sa rfl rfl rfl (sv rfl (gp rfl (gw_t rfl) (fun _ => rfl) ?_))))))
              refine g_val _ (.ptr _ _) rfl (gw_t rfl) (fun w13 => (by simp only [gd_pos w13]; rfl)) ?_
              refine gt rfl (vl rfl (gq rfl) rfl) (gt rfl (fun _ => rfl) (gt rfl (fun w16 => (v_bin (gd_pos w16) (gd_pos w16) rfl)) (sa rfl rfl rfl (sv rfl (gp rfl (gw_t rfl) (fun _ => rfl) ?_)))))
              refine g_val _ (.ptr _ _) rfl (gw_t rfl) (fun w18 => (by simp only [gd_pos w18]; rfl)) ?_
              refine gt rfl (vl rfl (gq rfl) rfl) (gp rfl (gw_t rfl) (fun _ => rfl) (gt rfl (vl rfl G_hit rfl) (gt rfl (fun w22 => (v_bin (gd_pos w22) (gd_pos w22) rfl)) (sa rfl rfl rfl (sv rfl (s_nil (cc rfl hz1 (fun c6 hz1 => ?_) (fun c6 hz1 => ?_))))))))
              · refine l_sub (s0 := ⟨T [(2, (.d _)), (3, (.ptr _ _)), (6, (.ptr _ _)), (8, (.ptr _ _)), (9, (.d _)), (10, (.d _)), (14, (.ptr _ _)), (49, (.d _)), (50, (.d _)), (51, (.d _))], G [((3, u1), some (.box 38 _)), ((6, u1), some (.box 36 _)), ((8, u2), some (.box 36 _)), ((14, u13), some (.box 125 _))]⟩) (sbr rfl rfl) ?_
                refine l_drawT fun u18 hu18 => t_val (.d _) rfl rfl (t_val (.ptr _ _) rfl rfl (t_val (.ptr _ _) rfl rfl (t_val (.d _) rfl (v_load rfl (gq rfl) rfl) (t_val (.ptr _ _) rfl rfl (t_store _ _ _ _ _ rfl rfl rfl (gq rfl) (nl rfl) [(di x1.2.ID), (di x1.2.S), (di x1.2.V), (di x1.2.Len), (di x1.2.End), (di x1.2.Ahead), (di x1.2.Guess_.R), (di x1.2.Guess_.V), (di y2), (di x1.2.Until)] rfl (t_val (.ptr _ _) rfl rfl (t_store _ _ _ _ _ rfl rfl rfl G_hit (nl rfl) [(di x1.2.ID), (di x1.2.S), (di x1.2.V), (di x1.2.Len), (di x1.2.End), (di x1.2.Ahead), (di x1.2.Guess_.R), (di x1.2.Guess_.V), (di y2), (di v4.Note_.Until)] rfl (t_nil ⟨rfl, ?_⟩))))))))
                refine l_end (l_end (l_reg fun u19 hu19 => sv rfl (sv rfl (s_nil (l_nil ?_)))))
                obtain rfl := Option.some.inj hz1
                exact ⟨rfl, (), (sbr rfl rfl)⟩
              · refine l_skip (l_end (l_end (l_sub (s0 := ⟨T [(2, (.d _)), (3, (.ptr _ _)), (6, (.ptr _ _)), (8, (.ptr _ _)), (9, (.d _)), (10, (.d _)), (49, (.d _)), (50, (.d _)), (51, (.d _))], G [((3, u1), some (.box 38 _)), ((6, u1), some (.box 36 _)), ((8, u2), some (.box 36 _))]⟩) (sbr rfl rfl) ?_)))
                refine l_reg fun u20 hu20 => sv rfl (sv rfl (s_nil (l_nil ?_)))
                obtain rfl := Option.some.inj hz1
                exact ⟨rfl, (), (sbr rfl rfl)⟩
          · refine l_exitN rfl ?_
            obtain rfl := Option.some.inj hz1
            obtain rfl := ez1 _ rfl
            refine ⟨nofun, awl_pop rfl (l_j ?_)⟩
            exact ⟨(), (sbr rfl rfl)⟩
        · rintro _ ⟨g4, q4⟩
          refine l_sub q4 (l_seq (lr (fun u21 hu21 => sv rfl (sp rfl rfl (sl rfl (gq rfl) rfl (bs h fun v6 hv6 h => s_call rfl rfl all2_refl (convoy_look_ok _ _  _ hv6) (.inl rfl) (sv rfl (sv rfl (sv rfl (sn rfl rfl (sst rfl G_hit (dSight v6.1) rfl (sv rfl (s_nil (lr (fun u22 hu22 => sv rfl (sv rfl (gt rfl (fun _ => rfl) (gt rfl (vb rfl rfl rfl) (sa rfl rfl rfl (s_nil (bs h fun y5 hy5 h => l_join (fun s => ∃ g6 : Unit, Sb ⟨T [(3, (.ptr (3, u1) 0)), (6, (.ptr (6, u1) 0)), (8, (.ptr (8, u2) 0)), (9, (di y1)), (10, (di y2))], G [((3, u1), some (.box 38 (dConvoy p1))), ((6, u1), some (.box 36 [(di 0), (di 0), (di 0), (di 0), (di 0), (di 0), (di 0), (di 0), (di 0), (di 0)])), ((8, u2), some (.box 36 (dGuest y5)))]⟩ s) ?_ ?_)))))))))))))))))))))
          · refine cc rfl hy5 (fun c7 hy5 => ?_) (fun c7 hy5 => ?_)
            · refine l_sub (s0 := ⟨T [(3, (.ptr _ _)), (6, (.ptr _ _)), (8, (.ptr _ _)), (9, (.d _)), (10, (.d _)), (15, (.ptr _ _))], G [((3, u1), some (.box 38 _)), ((6, u1), some (.box 36 _)), ((8, u2), some (.box 36 _)), ((15, u21), some (.box 42 _))]⟩) (sbr rfl rfl) ?_
              refine l_reg fun u23 hu23 => sv rfl (sp rfl rfl (sl rfl (gq rfl) rfl (sp rfl rfl (sl rfl (gq rfl) rfl (sv rfl (bs hy5 fun v7 hv7 hy5 => s_oc (v := .d (.tup [])) (us := [(8, u2)]) (oc_m (convoy_nearer_o_ok _ _ _ _ hv7) [(8, u2)] [(8, u2)] _ (((8, u2), some (.box 36 (dGuest v7))) :: _) rfl all2_av (kl_cons (kr_ptr (G_skip rfl (G_skip rfl G_hit)) rfl) (kl_cons kr_d (kl_cons kr_d kl_nil))) (live_cons (G_skip rfl (G_skip rfl G_hit)) live_nil) ⟨⟨_, (G_skip rfl (G_skip rfl G_hit)), .of rfl⟩, trivial⟩ (fun _ h => h) nd1 rfl rfl rfl) (s_nil ?_)))))))
              obtain rfl := Option.some.inj hy5
              exact l_j ⟨(), (sbr rfl rfl)⟩
            · refine l_skip ?_
              obtain rfl := Option.some.inj hy5
              exact l_j ⟨(), (sbr rfl rfl)⟩
          · rintro _ ⟨g6, q5⟩
            refine l_sub q5 (lr (fun u24 hu24 => sv rfl (sv rfl (sv rfl (gp rfl (gw_f rfl) (fun _ => rfl) (gf rfl (vl rfl (gq rfl) rfl) (gf rfl (fun _ => rfl) (gf rfl (fun w28 => (v_bin (gd_pos w28) (gd_pos w28) rfl)) (gf rfl (fun w29 => (v_mv (gd_pos w29))) (g_val _ (.ptr _ _) rfl (gw_gt rfl) (fun _ => rfl) (gv rfl (gw_gt rfl) (vl rfl (gq rfl) rfl) (g_val _ (.ptr _ _) rfl (gw_gt rfl) (fun _ => rfl) (gv rfl (gw_gt rfl) (vl rfl (gq rfl) rfl) (g_val _ (.ptr _ _) rfl (gw_gt rfl) (fun _ => rfl) (gv rfl (gw_gt rfl) (vl rfl G_hit rfl) (g_val _ (.ptr _ _) rfl (gw_gt rfl) (fun _ => rfl) (gv rfl (gw_gt rfl) (fun w37 => (v_loadG (gd_pos w37) (gq rfl) rfl rfl)) (bs h fun v8 hv8 h => ?_))))))))))))))))))
            refine g_call _ (bo v8) (gw_gt rfl) (fun w38 => ⟨_, [(di y5.S), (di y5.V), (di p1.Gap), (.d (.agg [(i64 y5.Guess_.R), (i64 y5.Guess_.V)]))], _, _, (by simp only [gd_pos w38]; rfl), rfl, all2_refl, convoy_Safe_ok _ _ _ _  _ (cond_t w38 hv8), (.inl rfl)⟩) ?_
            refine gf rfl (fun w39 => (v_and (gd_pos w39) (fun hc => gd_pos (and_i w39 hc)) rfl)) (sd rfl (v_or rfl rfl (fun hc => gd_pos (not_t hc))) (sv rfl (s_nil (l_seq (l_sub (s0 := ⟨T [(3, (.ptr _ _)), (6, (.ptr _ _)), (8, (.ptr _ _)), (10, (.d _)), (17, (.d _))], G [((3, u1), some (.box 38 _)), ((6, u1), some (.box 36 _)), ((8, u2), some (.box 36 _))]⟩) (sbr rfl rfl) ?_)))))
            refine l_reg fun u25 hu25 => sv rfl (sv rfl (sv rfl (gp rfl (gw_f rfl) (fun _ => rfl) (gf rfl (vl rfl (gq rfl) rfl) (gf rfl (fun _ => rfl) (gf rfl (fun w43 => (v_bin (gd_pos w43) (gd_pos w43) rfl)) (gf rfl (fun w44 => (v_mv (gd_pos w44))) (g_val _ (.ptr _ _) rfl (gw_gt rfl) (fun _ => rfl) (gv rfl (gw_gt rfl) (vl rfl G_hit rfl) (g_val _ (.ptr _ _) rfl (gw_gt rfl) (fun _ => rfl) (gv rfl (gw_gt rfl) (vl rfl (gq rfl) rfl) (gv rfl (gw_gt rfl) (fun w49 => (v_bin (gd_pos w49) (gd_pos w49) rfl)) (gf rfl (fun w50 => (v_and (gd_pos w50) (fun hc => gd_pos (and_i w50 hc)) rfl)) (sd rfl (v_or rfl rfl (fun hc => gd_pos (not_t hc))) (sv rfl (s_nil (l_seq (l_sub (s0 := ⟨T [(6, (.ptr _ _)), (8, (.ptr _ _)), (17, (.d _)), (18, (.d _))], G [((6, u1), some (.box 36 _)), ((8, u2), some (.box 36 _))]⟩) (sbr rfl rfl) ?_))))))))))))))))))
            refine l_reg fun u26 hu26 => sd rfl (v_loadG rfl (gq rfl) rfl rfl) (sv rfl (sv rfl (gt rfl (fun _ => rfl) (sa rfl rfl rfl (sst rfl G_hit (dGuest y5) rfl (sv rfl (s_nil (l_ret ?_))))))))
            obtain rfl := Option.some.inj h
            exact fin_ok (.inr rfl) (resD2 (res_cellG rfl G_hit (nl rfl) rfl) (res_t rfl) rf_d rf_d) (.refl _)

noncomputable def convoy_rolls_1_b (p1 : Int) (p2 : Int) (p3 : Guest) : Option Bool :=
  (convoy_stop p2).bind fun v1 => some (decide ((w64 (p1 + v1)) < p3.End))

/-- kerbstone/convoy.rolls$1 -/
def ac_convoy_rolls_1_b : AC := (.seq (.reg [oo 5 (.mv (.c zf))]) (.seq (.draw [oo 6 (.mv (.t 0)), oo 7 (.mv (.t 1)), oo 8 (.call (cf 62) [(.t 7)]), oo 9 (.bin .add (.t 6) (.t 8)), oo 10 (.fieldA 4 (.t 2)), oo 11 (.load 1 false (.t 10)), oo 12 (.bin .lss (.t 9) (.t 11)), oo 5 (.mv (.t 12))] []) .ret))
theorem fn_convoy_rolls_1_b : FnOK Try.prog 118 13 [.t 5] ac_convoy_rolls_1_b := ⟨_, _, Try.func118, rfl, Try.ntmps118, by kernel_rfl, ⟨fun _ => [], by kernel_rfl⟩, by kernel_rfl⟩
theorem convoy_rolls_1_b_ok (p1 : Int) (p2 : Int) (p3 : Guest) (r : Bool) (h : convoy_rolls_1_b p1 p2 p3 = some r) : PCall Try.prog 118 [(i64 p1), (i64 p2), (.bp (eGuest p3) 0)] (bo r) := by
  refine l_call fn_convoy_rolls_1_b (nl rfl) ?_
  unfold convoy_rolls_1_b at h
  unfold ac_convoy_rolls_1_b
  refine l_sub (s0 := ⟨T [(0, (.d _)), (1, (.d _)), (2, (.d _))], G []⟩) (sbr rfl rfl) ?_
  refine lr (fun u1 hu1 => sv rfl (s_nil (l_seq (l_draw rfl fun u2 hu2 => sv rfl (sv rfl (bs h fun v1 hv1 h => s_call rfl rfl all2_refl (convoy_stop_ok _  _ hv1) (.inl rfl) (sv rfl (sv rfl (sv rfl (sv rfl (sv rfl (s_nil (l_ret ?_)))))))))))))
  obtain rfl := Option.some.inj h
  exact fin_ok (.inr rfl) (resD1 (res_t rfl) rf_d) (.refl _)

noncomputable def convoy_greatest_convoy_rolls_1b_l1 (p1 : Int) (p2 : Int) (p4 : Guest) (x1 : Int) : Option (Stp Int Int) :=
  cond (decide (x1 > (-90))) ((convoy_moved p1 p2 x1).bind fun v1 => (convoy_rolls_1_b v1.1 v1.2 p4).bind fun v2 => cond v2 (some (.out x1)) (some (.go (w64 (x1 - 1))))) (some (.out x1))
noncomputable def convoy_greatest_convoy_rolls_1b (p1 : Int) (p2 : Int) (p3 : Int) (p4 : Guest) : Option Int :=
  (loop (convoy_greatest_convoy_rolls_1b_l1 p1 p2 p4) (mm2 true (-90) (mm2 false p3 30))).bind fun y1 => some y1

/-- kerbstone/convoy.greatest -/
def ac_convoy_greatest_convoy_rolls_1b : AC := (.seq (.reg [oo 8 (.mv (ci 0))]) (.seq (.reg [oo 10 (.mv (.t 2)), oo 11 (.mm false (.t 10) [(ci 30)]), oo 12 (.mm true (ci (-90)) [(.t 11)]), oo 9 (.mv (.t 12))]) (.seq (.block 0 (.loop (.seq (.seq (.reg [oo 13 (.mv (.t 9)), oo 14 (.bin .gtr (.t 13) (ci (-90)))]) (.cond (.t 14) .skip (.exit 0))) (.seq (.block 1 (.seq (.reg [oo 17 (.mv (.t 3)), oo 18 (.mv (.t 0)), oo 19 (.mv (.t 1)), oo 20 (.mv (.t 9)), oo 21 (.call (cf 116) [(.t 18), (.t 19), (.t 20)]), oo 22 (.ext (.t 21) 0), oo 23 (.ext (.t 21) 1), oo 24 (.call (.t 17) [(.t 22), (.t 23)])]) (.cond (.t 24) (.exit 0) .skip))) (.reg [oo 15 (.mv (.t 9)), oo 16 (.bin .sub (.t 15) (ci 1)), oo 9 (.mv (.t 16))]))))) (.seq (.reg [oo 25 (.mv (.t 9)), oo 8 (.mv (.t 25))]) .ret))))
theorem fn_convoy_greatest_convoy_rolls_1b : FnOK Try.prog 114 26 [.t 8] ac_convoy_greatest_convoy_rolls_1b := ⟨_, _, Try.func114, rfl, Try.ntmps114, by kernel_rfl, ⟨fun _ => [], by kernel_rfl⟩, by kernel_rfl⟩
set_option maxHeartbeats 4000000 in
theorem convoy_greatest_convoy_rolls_1b_ok (p1 : Int) (p2 : Int) (p3 : Int) (p4 : Guest) (r : Int) (h : convoy_greatest_convoy_rolls_1b p1 p2 p3 p4 = some r) : PCall Try.prog 114 [(i64 p1), (i64 p2), (i64 p3), (.fn (.func 118) [] [(.bp (eGuest p4) 0)])] (i64 r) := by
  refine l_call fn_convoy_greatest_convoy_rolls_1b (nl rfl) ?_
  unfold convoy_greatest_convoy_rolls_1b at h
  unfold ac_convoy_greatest_convoy_rolls_1b
  refine l_sub (s0 := ⟨T [(0, (.d _)), (1, (.d _)), (2, (.d _)), (3, (.d _))], G []⟩) (sbr rfl rfl) ?_
  refine lr (fun u1 hu1 => sv rfl (s_nil (lr (fun u2 hu2 => sv rfl (sv rfl (sv rfl (sv rfl (s_nil (l_seq (bs h fun y1 hy1 h => l_join (fun s => ∃ g1 : Unit, Sb ⟨T [(9, (di y1))], G []⟩ s) ?_ ?_))))))))))
  · refine l_block (l_loop (convoy_greatest_convoy_rolls_1b_l1 p1 p2 p4) (fun (x1 : Int) (g2 : Unit) => ⟨T [(0, (di p1)), (1, (di p2)), (3, (.d (.fn (.func 118) [] [(.bp (eGuest p4) 0)]))), (9, (di x1))], G []⟩) (mm2 true (-90) (mm2 false p3 30)) () _ hy1 (sbr rfl rfl) ?_)
    intro x1 g2 z1 hz1 ez1
    unfold convoy_greatest_convoy_rolls_1b_l1 at hz1
    refine l_seq (lr (fun u3 hu3 => sv rfl (sv rfl (s_nil (cc rfl hz1 (fun c1 hz1 => ?_) (fun c1 hz1 => ?_))))))
    · refine l_skip (l_seq (l_block (lr (fun u4 hu4 => sv rfl (sv rfl (sv rfl (sv rfl (bs hz1 fun v1 hv1 hz1 => s_call rfl rfl all2_refl (convoy_moved_ok _ _ _  _ hv1) (.inl rfl) (sv rfl (sv rfl (bs hz1 fun v2 hv2 hz1 => s_call rfl rfl all2_refl (convoy_rolls_1_b_ok _ _ _  _ hv2) (.inl rfl) (s_nil (cc rfl hz1 (fun c2 hz1 => ?_) (fun c2 hz1 => ?_))))))))))))))
      · refine l_exitN rfl ?_
        obtain rfl := Option.some.inj hz1
        obtain rfl := ez1 _ rfl
        refine ⟨nofun, awl_pop rfl (l_j ?_)⟩
        exact ⟨(), (sbr rfl rfl)⟩
      · refine l_skip (l_end (l_reg fun u5 hu5 => sv rfl (sv rfl (sv rfl (s_nil (l_nil ?_))))))
        obtain rfl := Option.some.inj hz1
        exact ⟨rfl, (), (sbr rfl rfl)⟩
    · refine l_exitN rfl ?_
      obtain rfl := Option.some.inj hz1
      obtain rfl := ez1 _ rfl
      refine ⟨nofun, awl_pop rfl (l_j ?_)⟩
      exact ⟨(), (sbr rfl rfl)⟩
  · rintro _ ⟨g1, q1⟩
    refine l_sub q1 (lr (fun u6 hu6 => sv rfl (sv rfl (s_nil (l_ret ?_)))))
    obtain rfl := Option.some.inj h
    exact fin_ok (.inr rfl) (resD1 (res_t rfl) rf_d) (.refl _)

noncomputable def convoy_rolls (p1 : Guest) (p2 : Int) : Option Guest :=
  (convoy_greatest_convoy_rolls_1b p1.S p1.V p2 p1).bind fun v1 => (convoy_moved p1.S p1.V v1).bind fun v2 => cond (p1.Ahead != 0) ((convoy_Age p1.Guess_ 1).bind fun v3 => some (Guest.mk p1.ID v2.1 v2.2 p1.Len p1.End p1.Ahead v3 p1.From p1.Until)) (some (Guest.mk p1.ID v2.1 v2.2 p1.Len p1.End p1.Ahead p1.Guess_ p1.From p1.Until))

/-- kerbstone/convoy.rolls -/
def ac_convoy_rolls : AC := (.seq (.reg [oo 2 (.box 36 true (.t 0)), oo 4 (.alloc 36 [z0, z0, z0, z0, z0, z0, z0, z0, z0, z0])]) (.seq (.reg [oo 6 (.fieldA 1 (.t 2)), oo 7 (.load 1 false (.t 6)), oo 8 (.fieldA 2 (.t 2)), oo 9 (.load 1 false (.t 8)), oo 10 (.mv (.t 1)), oo 11 (.mkfn (.func 118) [] [(.t 2)]), oo 12 (.call (cf 114) [(.t 7), (.t 9), (.t 10), (.t 11)]), oo 5 (.mv (.t 12))]) (.seq (.reg [oo 14 (.fieldA 1 (.t 2)), oo 15 (.load 1 false (.t 14)), oo 16 (.fieldA 2 (.t 2)), oo 17 (.load 1 false (.t 16)), oo 18 (.mv (.t 5)), oo 19 (.call (cf 116) [(.t 15), (.t 17), (.t 18)]), oo 13 (.mv (.t 19)), oo 20 (.ext (.t 13) 0), oo 21 (.ext (.t 13) 1), oo 22 (.fieldA 1 (.t 2)), oe (.store 1 (.t 22) (.t 20)), oo 23 (.fieldA 2 (.t 2)), oe (.store 1 (.t 23) (.t 21))]) (.seq (.seq (.reg [oo 24 (.fieldA 5 (.t 2)), oo 25 (.load 1 false (.t 24)), oo 26 (.bin .neq (.t 25) (ci 0))]) (.cond (.t 26) (.reg [oo 27 (.fieldA 6 (.t 2)), oo 28 (.load 2 true (.t 27)), oo 29 (.call (cf 15) [(.t 28), (ci 1)]), oo 30 (.fieldA 6 (.t 2)), oe (.store 2 (.t 30) (.t 29))]) .skip)) (.seq (.reg [oo 31 (.load 10 true (.t 2)), oe (.store 10 (.t 4) (.t 31))]) .ret)))))
theorem fn_convoy_rolls : FnOK Try.prog 91 32 [.cell 4 10 true] ac_convoy_rolls := ⟨_, _, Try.func91, rfl, Try.ntmps91, by kernel_rfl, ⟨fun _ => [], by kernel_rfl⟩, by kernel_rfl⟩
set_option maxHeartbeats 4000000 in
theorem convoy_rolls_ok (p1 : Guest) (p2 : Int) (r : Guest) (h : convoy_rolls p1 p2 = some r) : PCall Try.prog 91 [(.agg (eGuest p1)), (i64 p2)] (.agg (eGuest r)) := by
  refine l_call fn_convoy_rolls (nl rfl) ?_
  unfold convoy_rolls at h
  unfold ac_convoy_rolls
  refine l_sub (s0 := ⟨T [(0, (.d _)), (1, (.d _))], G []⟩) (sbr rfl rfl) ?_
  refine lr (fun u1 hu1 => sn rfl rfl (sn rfl rfl (s_nil (lr (fun u2 hu2 => sp rfl rfl (sl rfl (gq rfl) rfl (sp rfl rfl (sl rfl (gq rfl) rfl (sv rfl (s_val (.fn _ _ _) rfl rfl (bs h fun v1 hv1 h => s_call rfl (rfL_cons rf_d (rfL_cons rf_d (rfL_cons rf_d (rfL_cons (rf_fn rfL_nil (rfL_cons (rf_ptr (gq rfl) (rfL_cons rf_d (rfL_cons rf_d (rfL_cons rf_d (rfL_cons rf_d (rfL_cons rf_d (rfL_cons rf_d (rfL_cons rf_d (rfL_cons rf_d (rfL_cons rf_d (rfL_cons rf_d rfL_nil))))))))))) rfL_nil)) rfL_nil)))) all2_refl (convoy_greatest_convoy_rolls_1b_ok _ _ _ _  _ hv1) (.inr rfl) (sv rfl (s_nil (lr (fun u3 hu3 => sp rfl rfl (sl rfl (gq rfl) rfl (sp rfl rfl (sl rfl (gq rfl) rfl (sv rfl (bs h fun v2 hv2 h => s_call rfl rfl all2_refl (convoy_moved_ok _ _ _  _ hv2) (.inl rfl) (sv rfl (sv rfl (sv rfl (sp rfl rfl (sst rfl (gq rfl) [(di p1.ID), (di v2.1), (di p1.V), (di p1.Len), (di p1.End), (di p1.Ahead), (di p1.Guess_.R), (di p1.Guess_.V), (di p1.From), (di p1.Until)] rfl (sp rfl rfl (sst rfl G_hit [(di p1.ID), (di v2.1), (di v2.2), (di p1.Len), (di p1.End), (di p1.Ahead), (di p1.Guess_.R), (di p1.Guess_.V), (di p1.From), (di p1.Until)] rfl (s_nil (l_seq (l_seq (l_sub (s0 := ⟨T [(2, (.ptr _ _)), (4, (.ptr _ _))], G [((2, u1), some (.box 36 _)), ((4, u1), some (.box 36 _))]⟩) (sbr rfl rfl) ?_)))))))))))))))))))))))))))))))
  refine l_reg fun u4 hu4 => sp rfl rfl (sl rfl G_hit rfl (sv rfl (s_nil (cc rfl h (fun c1 h => ?_) (fun c1 h => ?_)))))
  · refine l_reg fun u5 hu5 => sp rfl rfl (sd rfl (v_loadG rfl G_hit rfl rfl) (bs h fun v3 hv3 h => s_call rfl rfl all2_refl (convoy_Age_ok _ _  _ hv3) (.inl rfl) (sp rfl rfl (sst rfl G_hit [(di p1.ID), (di v2.1), (di v2.2), (di p1.Len), (di p1.End), (di p1.Ahead), (di v3.R), (di v3.V), (di p1.From), (di p1.Until)] rfl (s_nil (lr (fun u6 hu6 => sd rfl (v_loadG rfl G_hit rfl rfl) (sst rfl (gq rfl) [(di p1.ID), (di v2.1), (di v2.2), (di p1.Len), (di p1.End), (di p1.Ahead), (di v3.R), (di v3.V), (di p1.From), (di p1.Until)] rfl (s_nil (l_ret ?_))))))))))
    obtain rfl := Option.some.inj h
    exact fin_ok (.inr rfl) (resD1 (res_cellG rfl G_hit (nl rfl) rfl) rf_d) (.refl _)
  · refine l_skip (lr (fun u7 hu7 => sd rfl (v_loadG rfl G_hit rfl rfl) (sst rfl (gq rfl) [(di p1.ID), (di v2.1), (di v2.2), (di p1.Len), (di p1.End), (di p1.Ahead), (di p1.Guess_.R), (di p1.Guess_.V), (di p1.From), (di p1.Until)] rfl (s_nil (l_ret ?_)))))
    obtain rfl := Option.some.inj h
    exact fin_ok (.inr rfl) (resD1 (res_cellG rfl G_hit (nl rfl) rfl) rf_d) (.refl _)

section
open Go.RowKit Go.Lib

theorem info65 : (Try.prog.info? 65).map (fun i => (i.size, i.bytes)) = some (12, 96) := by kernel_rfl
theorem mixed : Try.prog.follows .mixedOrders = true := by kernel_rfl

structure Keep (p : Prop) : Prop where
  out : p
set_option maxHeartbeats 4000000 in
set_option maxRecDepth 100000 in
theorem ins_shift (g n c i vg m vc : Nat) (cur cury : Array Value) (ys : List Value) (w : World) (hi : i < n) (hm : 0 < m) (hroom : n + m ≤ c) (hc63 : c ≤ 9223372036854775807) (hvb : vg ≠ g)
    (hg : w.heap[g]? = some (.cells cur 65 (0, 0))) (hgy : w.heap[vg]? = some (.cells cury 65 (0, 0))) (hcs : cur.size = c * 12) (hys : ys.length = m * 12) (hyc : cury.toList.take (m * 12) = ys)
    (h1c : ∀ v ∈ cur.toList.take (n * 12), v.oneCell' = true) (h1v : ∀ v ∈ ys, v.oneCell' = true) :
    Calls Try.prog 92 #[.slice (some ⟨g, 0, none⟩) n c, .int .i64 i, .slice (some ⟨vg, 0, none⟩) m vc] w fun e w' =>
      ∃ row, row = cur.toList.take ((i + m) * 12) ++ (cur.toList.drop (i * 12)).take ((n - i) * 12) ++ cur.toList.drop ((i + m) * 12 + (n - i) * 12) ∧
      e = .returned (.slice (some ⟨g, 0, none⟩) (n + m) c) ∧ w' = (w.drew.setRow g row.toArray).setRow g (row.take (i * 12) ++ ys ++ row.drop (i * 12 + m * 12)).toArray := by
  obtain ⟨i0, hi0, hzz⟩ : ∃ i0, Try.prog.info? 65 = some i0 ∧ i0.size = 12 := by
    have := info65
    cases h : Try.prog.info? 65 with
    | none => rw [h] at this; cases this
    | some i0 => rw [h] at this; simp only [Option.map_some, Option.some.injEq, Prod.mk.injEq] at this; exact ⟨i0, rfl, this.1⟩
  have mixed' := mixed
  have hz1 : ¬ ((m : Int) = 0) := by omega
  have hz2 : ¬ ((i : Int) = (n : Int)) := by omega
  have hov : ∀ lb cb, (callFunc 119 #[.slice (some ⟨vg, 0, none⟩) m vc, .slice (some ⟨g, (i + m) * 12, none⟩) lb cb]).run Try.prog w = .ok (.value (.bool false)) w := fun lb cb => by
    rw [run_callFunc_extern Try.func119 (by kernel_rfl) (by kernel_rfl) (by kernel_rfl) (e := Extern.SlicesOverlaps.overlaps #[34, 34] #[4]) (by kernel_rfl),
      Lib.run_overlaps_apart w 34 4 65 Try.underlying34 12 Try.sizeOf65 ⟨vg, 0, none⟩ ⟨g, (i + m) * 12, none⟩ m vc lb cb hvb 65 65 cury.size cur.size (by simp [World.shape?, hgy]) (by simp [World.shape?, hg]) (by omega) (by simp [World.frozen?, hgy]) (by simp [World.frozen?, hgy])]
    rfl
  have hw1 : IntKind.i64.wrap ((i : Int) + (m : Int)) = (i : Int) + (m : Int) := by rw [IntKind.wrap_i64]; omega
  have hw2 : IntKind.i64.wrap ((n : Int) + (m : Int)) = (n : Int) + (m : Int) := by rw [IntKind.wrap_i64]; omega
  have hb1 : (0 : Int) ≤ (i : Int) + (m : Int) := by omega
  have hin : i ≤ n := by omega
  have htn : ((i : Int) + (m : Int)).toNat = i + m := by omega
  have hb2 : ¬ (c = i + m) := by omega
  have hb3 : (i : Int) ≤ (n : Int) + (m : Int) := by omega
  have hb4 : ¬ (c = i) := by omega
  obtain ⟨row, hrow⟩ : ∃ row, row = cur.toList.take ((i + m) * 12) ++ (cur.toList.drop (i * 12)).take ((n - i) * 12) ++ cur.toList.drop ((i + m) * 12 + (n - i) * 12) := ⟨_, rfl⟩
  have hle : (n + m) * 12 ≤ c * 12 := Nat.mul_le_mul_right _ hroom
  have hll : ((cur.toList.drop (i * 12)).take ((n - i) * 12)).length = (n - i) * 12 := by rw [List.length_take, List.length_drop, Array.length_toList, hcs]; omega
  have hcp1 : ∀ ty dc sc, (Builtin.copy_ #[34, 34] ty #[.slice (some ⟨g, (i + m) * 12, none⟩) (n + m - (i + m)) dc, .slice (some ⟨g, i * 12, none⟩) (n + m - i) sc]).run Try.prog w.drew = .ok (goInt ((n - i : Nat) : Int)) (w.drew.setRow g row.toArray) := fun ty dc sc => by
    have := run_copy_rowN (P := Try.prog) w.drew 34 34 ty 65 i0 g ((i + m) * 12) (n + m - (i + m)) dc ⟨g, i * 12, none⟩ (n + m - i) sc cur 65 ((cur.toList.drop (i * 12)).take ((n - i) * 12)) Try.underlying34 hi0 hg (n - i) (by simp only [Nat.min_def]; split <;> omega) (by rw [hll, hzz])
      (row_cells (w := w.drew) hg (i * 12) (by rw [hll])) (by rw [hll, hcs]; omega) (fun v hv => h1c v (by
        rw [Nat.sub_mul, ← List.drop_take] at hv
        exact List.mem_of_mem_drop hv))
    rw [hll] at this
    rw [hrow]
    exact this
  have hrl : row.length = c * 12 := by
    rw [hrow]; simp only [List.length_append, hll, List.length_take, List.length_drop, Array.length_toList, hcs]; omega
  have hg1 : (w.drew.setRow g row.toArray).heap[g]? = some (.cells row.toArray 65 (0, 0)) := setRow_heap w.drew g cur row.toArray 65 (0, 0) hg
  have hgy1 : (w.drew.setRow g row.toArray).heap[vg]? = some (.cells cury 65 (0, 0)) := by rw [setRow_other _ _ _ _ hvb]; exact hgy
  have hcp2 : ∀ ty dc, (Builtin.copy_ #[34, 34] ty #[.slice (some ⟨g, i * 12, none⟩) (n + m - i) dc, .slice (some ⟨vg, 0, none⟩) m vc]).run Try.prog (w.drew.setRow g row.toArray) = .ok (goInt (m : Int)) ((w.drew.setRow g row.toArray).setRow g (row.take (i * 12) ++ ys ++ row.drop (i * 12 + m * 12)).toArray) := fun ty dc => by
    have := run_copy_rowN (P := Try.prog) (w.drew.setRow g row.toArray) 34 34 ty 65 i0 g (i * 12) (n + m - i) dc ⟨vg, 0, none⟩ m vc row.toArray 65 ys Try.underlying34 hi0 hg1 m (by simp only [Nat.min_def]; split <;> omega) (by rw [hys, hzz])
      (row_cells hgy1 0 (by rw [List.drop_zero, hys]; exact hyc.symm)) (by rw [hys]; simp only [List.size_toArray, hrl]; omega) h1v
    rw [hys] at this
    exact this
  have kr := Keep.mk hrow
  clear hrow hll hle
  go_enter Try.func92, Try.ntmps92
  go_wp2_with (simp only [hov])
  go_region_law_o (refine step_copy_runI rfl _ _ 34 34 rfl _ _ (by simp [Act.eval, Act.put]) (by simp [Act.eval, Act.put]) (hcp1 _ _ _) ?_)
  go_wp2_with (at_builtin; refine wpList_copy_runI _ rfl _ _ 34 34 rfl _ _ rfl rfl (hcp2 _ _) ?_)
  go_ret
  exact ⟨row, kr.out, rfl, by rw [List.append_assoc]⟩

set_option maxHeartbeats 4000000 in
set_option maxRecDepth 100000 in
theorem ins_end (g n c vg m vc : Nat) (w : World) (hn : 0 < n) (hnc : n ≤ c) (hm : 0 < m) (v1 : Value) (w1 : World)
    (hr : (Builtin.append_ #[34, 34] 34 #[.slice (some ⟨g, 0, none⟩) n c, .slice (some ⟨vg, 0, none⟩) m vc]).run Try.prog w = .ok v1 w1) :
    Calls Try.prog 92 #[.slice (some ⟨g, 0, none⟩) n c, .int .i64 n, .slice (some ⟨vg, 0, none⟩) m vc] w fun e w' => e = .returned v1 ∧ w' = w1 := by
  have mixed' := mixed
  have hz1 : ¬ ((m : Int) = 0) := by omega
  have hin : n ≤ c := by omega
  have hb : (0 : Int) ≤ (n : Int) := by omega
  go_enter Try.func92, Try.ntmps92
  go_wp2_with (at_builtin; refine Lib.wpList_append_run _ rfl _ _ 34 34 rfl _ _ rfl rfl _ _ hr ?_)
  all_goals go_ret
  all_goals exact ⟨rfl, rfl⟩

set_option maxHeartbeats 4000000 in
set_option maxRecDepth 100000 in
theorem ins_grow (g n c i vg m vc : Nat) (cur cury : Array Value) (xs ys : List Value) (w : World) (hi : i < n) (hm : 0 < m) (hnc : n ≤ c) (hroom : c < n + m) (hbig : n + m ≤ 1000000000)
    (hg : w.heap[g]? = some (.cells cur 65 (0, 0))) (hgy : w.heap[vg]? = some (.cells cury 65 (0, 0))) (hxs : xs.length = n * 12) (hxc : cur.toList.take (n * 12) = xs) (hys : ys.length = m * 12) (hyc : cury.toList.take (m * 12) = ys)
    (h1c : ∀ v ∈ xs, v.oneCell' = true) (h1v : ∀ v ∈ ys, v.oneCell' = true) :
    Calls Try.prog 92 #[.slice (some ⟨g, 0, none⟩) n c, .int .i64 i, .slice (some ⟨vg, 0, none⟩) m vc] w fun e w' =>
      ∃ row z z' row1 : List Value, row = xs.take (i * 12) ++ z ++ z' ∧ z.length = (m + (n - i)) * 12 ∧ row1 = row.take (i * 12) ++ ys ++ row.drop (i * 12 + m * 12) ∧ row.length = (grownCap w (n + m) c 65) * 12 ∧
      e = .returned (.slice (some ⟨w.heap.size, 0, none⟩) (n + m) (grownCap w (n + m) c 65)) ∧
      w' = (((w.alloc (.cells row.toArray 65)).drew.setRow w.heap.size row1.toArray).drew).setRow w.heap.size (row1.take ((i + m) * 12) ++ xs.drop (i * 12) ++ row1.drop ((i + m) * 12 + (n - i) * 12)).toArray := by
  obtain ⟨i0, hi0, hzz, hby⟩ : ∃ i0, Try.prog.info? 65 = some i0 ∧ i0.size = 12 ∧ i0.bytes = 96 := by
    have := info65
    cases h : Try.prog.info? 65 with
    | none => rw [h] at this; cases this
    | some i0 => rw [h] at this; simp only [Option.map_some, Option.some.injEq, Prod.mk.injEq] at this; exact ⟨i0, rfl, this.1, this.2⟩
  obtain ⟨z0, hz0, hzc⟩ : ∃ z0, i0.zero = some z0 ∧ z0.cells.size = 12 := by
    have : (Try.prog.info? 65).bind (fun i => i.zero.map fun z => z.cells.size) = some 12 := by kernel_rfl
    rw [hi0] at this
    simp only [Option.bind_some, Option.map_eq_some_iff] at this
    exact this
  have mixed' := mixed
  have hz1 : ¬ ((m : Int) = 0) := by omega
  have hz2 : ¬ ((i : Int) = (n : Int)) := by omega
  have hz3 : (c : Int) < (n : Int) + (m : Int) := by omega
  have hbw : g < w.heap.size := (Array.getElem?_eq_some_iff.1 hg).1
  have hvw : vg < w.heap.size := (Array.getElem?_eq_some_iff.1 hgy).1
  have hkk : (n : Int) + (m : Int) - (i : Int) = ((n + m - i : Nat) : Int) := by omega
  have hik : i + (n + m - i) = n + m := by omega
  have hold : (Builtin.firstCells i0.size i (.slice (some ⟨g, 0, none⟩) i c)).run Try.prog w.drew = .ok (xs.take (i * 12)).toArray w.drew := by
    rw [hzz]
    exact run_firstCells_some w.drew 12 i ⟨g, 0, none⟩ i c (xs.take (i * 12)) (by rw [List.length_take, hxs]; omega) (row_cells (w := w.drew) hg 0 (by
      rw [List.drop_zero]; exact take_len (k := min (i * 12) (n * 12)) (by rw [← hxc, List.take_take])))
  have hrz : ∀ ty, (Builtin.append_ #[34, 3] ty #[.slice (some ⟨g, 0, none⟩) i c, .int .i64 ((n : Int) + (m : Int) - (i : Int))]).run Try.prog w =
      .ok (.slice (some ⟨w.heap.size, 0, none⟩) (n + m) (grownCap w (n + m) c 65)) (w.drew.alloc (.cells ((xs.take (i * 12)).toArray ++ Builtin.zeroCells z0.cells (n + m - i) ++ Builtin.zeroCells z0.cells (grownCap w (n + m) c 65 - (n + m))) 65)) := fun ty => by
    have h := Lib.run_append_grow_zeros w 34 3 ty 65 i0 z0 .i64 .i64 Try.underlying34 Try.underlying3 hi0 hz0 (some ⟨g, 0, none⟩) i c (xs.take (i * 12)) hold (n + m - i) (by omega) (by omega) (by omega) (by omega) (by rw [hby]; omega) (by rw [hby, hik]; exact growslice_fits hroom (by omega))
    rw [hik] at h
    rw [hkk]
    exact h
  have hGn : n + m ≤ grownCap w (n + m) c 65 := grownCap_ge w _ _ _
  have hG63 : grownCap w (n + m) c 65 ≤ 9223372036854775807 := by
    have := grownCap_le_maxLen w (n + m) c 65 (by unfold maxLen; omega)
    unfold maxLen at this
    omega
  obtain ⟨CC, hCC⟩ : ∃ G, G = grownCap w (n + m) c 65 := ⟨_, rfl⟩
  rw [← hCC] at hrz hGn hG63 ⊢
  obtain ⟨z, hz⟩ : ∃ z, z = (Builtin.zeroCells z0.cells (n + m - i)).toList := ⟨_, rfl⟩
  obtain ⟨z', hz'⟩ : ∃ z, z = (Builtin.zeroCells z0.cells (CC - (n + m))).toList := ⟨_, rfl⟩
  have hzl : z.length = (m + (n - i)) * 12 := by rw [hz, Array.length_toList, size_zeroCells, hzc]; congr 1; omega
  have hzl' : z'.length = (CC - (n + m)) * 12 := by rw [hz', Array.length_toList, size_zeroCells, hzc]
  obtain ⟨row, hrow⟩ : ∃ row, row = xs.take (i * 12) ++ z ++ z' := ⟨_, rfl⟩
  have hra : (xs.take (i * 12)).toArray ++ Builtin.zeroCells z0.cells (n + m - i) ++ Builtin.zeroCells z0.cells (CC - (n + m)) = row.toArray := by
    apply Array.ext'
    rw [hrow, hz, hz']
    simp
  rw [hra] at hrz
  have hrl : row.length = CC * 12 := by
    rw [hrow]; simp only [List.length_append, hzl, hzl', List.length_take, hxs]; omega
  obtain ⟨row1, hrow1⟩ : ∃ row1, row1 = row.take (i * 12) ++ ys ++ row.drop (i * 12 + m * 12) := ⟨_, rfl⟩
  have hrl1 : row1.length = CC * 12 := by
    rw [hrow1]; simp only [List.length_append, hys, List.length_take, List.length_drop, hrl]; omega
  have hcpA : ∀ (W : World), W.heap = (w.alloc (.cells row.toArray 65)).heap → ∀ ty dc, (Builtin.copy_ #[34, 34] ty #[.slice (some ⟨w.heap.size, i * 12, none⟩) (n + m - i) dc, .slice (some ⟨vg, 0, none⟩) m vc]).run Try.prog W = .ok (goInt (m : Int)) (W.setRow w.heap.size row1.toArray) := fun W hW ty dc => by
    have g1 : W.heap[w.heap.size]? = some (.cells row.toArray 65 (0, 0)) := by rw [hW]; exact heap_alloc_new w _
    have g2 : W.heap[vg]? = some (.cells cury 65 (0, 0)) := by rw [hW, heap_alloc_old w _ hvw]; exact hgy
    have := run_copy_rowN (P := Try.prog) W 34 34 ty 65 i0 w.heap.size (i * 12) (n + m - i) dc ⟨vg, 0, none⟩ m vc row.toArray 65 ys Try.underlying34 hi0 g1 m (by simp only [Nat.min_def]; split <;> omega) (by rw [hys, hzz])
      (row_cells g2 0 (by rw [List.drop_zero, hys]; exact hyc.symm)) (by rw [hys]; simp only [List.size_toArray, hrl]; omega) h1v
    rw [hys] at this
    rw [hrow1]
    exact this
  have hdl : (xs.drop (i * 12)).length = (n - i) * 12 := by rw [List.length_drop, hxs]; omega
  have hcpB : ∀ (W : World), W.heap = ((w.alloc (.cells row.toArray 65)).setRow w.heap.size row1.toArray).heap → ∀ ty dc sc, (Builtin.copy_ #[34, 34] ty #[.slice (some ⟨w.heap.size, (i + m) * 12, none⟩) (n + m - (i + m)) dc, .slice (some ⟨g, i * 12, none⟩) (n - i) sc]).run Try.prog W = .ok (goInt ((n - i : Nat) : Int)) (W.setRow w.heap.size (row1.take ((i + m) * 12) ++ xs.drop (i * 12) ++ row1.drop ((i + m) * 12 + (n - i) * 12)).toArray) := fun W hW ty dc sc => by
    have g1 : W.heap[w.heap.size]? = some (.cells row1.toArray 65 (0, 0)) := by rw [hW]; exact setRow_heap _ _ row.toArray row1.toArray 65 (0, 0) (heap_alloc_new w _)
    have g2 : W.heap[g]? = some (.cells cur 65 (0, 0)) := by rw [hW, setRow_other _ _ _ _ (by omega), heap_alloc_old w _ hbw]; exact hg
    have := run_copy_rowN (P := Try.prog) W 34 34 ty 65 i0 w.heap.size ((i + m) * 12) (n + m - (i + m)) dc ⟨g, i * 12, none⟩ (n - i) sc row1.toArray 65 (xs.drop (i * 12)) Try.underlying34 hi0 g1 (n - i) (by simp only [Nat.min_def]; split <;> omega) (by rw [hdl, hzz])
      (row_cells g2 (i * 12) (by rw [hdl, ← hxc, List.drop_take]; congr 1; omega)) (by rw [hdl]; simp only [List.size_toArray, hrl1]; omega) (fun v hv => h1c v (List.mem_of_mem_drop hv))
    rw [hdl] at this
    exact this
  have hA := hcpA (w.alloc (.cells row.toArray 65)).drew rfl
  have hB := hcpB ((w.alloc (.cells row.toArray 65)).drew.setRow w.heap.size row1.toArray).drew rfl
  clear hcpA hcpB
  have K := Keep.mk (And.intro hrow (And.intro hzl (And.intro hrow1 hrl)))
  have hGi : ¬ (CC = i) := by omega
  have hGim : ¬ (CC = i + m) := by omega
  have hci : ¬ (c = i) := by omega
  have hw1 : IntKind.i64.wrap ((i : Int) + (m : Int)) = (i : Int) + (m : Int) := by rw [IntKind.wrap_i64]; omega
  have hb1 : (0 : Int) ≤ (i : Int) + (m : Int) := by omega
  have hin : i ≤ n := by omega
  have htn : ((i : Int) + (m : Int)).toNat = i + m := by omega
  have hb3 : (i : Int) ≤ (n : Int) := by omega
  clear hkk hik hold hrow hrow1 hra hCC hz hz' hxc hyc
  go_enter Try.func92, Try.ntmps92
  go_wp2_with (first
    | (at_builtin; refine Lib.wpList_append_run _ rfl _ _ _ _ rfl _ _ rfl rfl _ _ (hrz _) ?_)
    | (at_builtin; refine wpList_copy_runI _ rfl _ _ 34 34 rfl _ _ rfl rfl (hA _ _) ?_))
  go_region_law_o (refine step_copy_runI rfl _ _ 34 34 rfl _ _ (by simp [Act.eval, Act.put]) (by simp [Act.eval, Act.put]) (hB _ _ _) ?_)
  go_wp2
  go_ret
  obtain ⟨k1, k2, k3, k4⟩ := K.out
  exact ⟨row, z, z', row1, k1, k2, k3, k4, rfl, by rw [List.append_assoc]⟩


theorem ins_all (w : World) (x y : Value) (n m i : Nat) (xs ys : List Value) (hx : w.ownsRow 0 65 12 x n xs) (hy : w.ownsRow 0 65 12 y m ys) (hn : 0 < n) (hm : 0 < m) (hi : i ≤ n) (hbig : n + m ≤ 1000000000)
    (hne : ∀ g, x.ownBlock = some g → y.ownBlock ≠ some g) (h1x : ∀ v ∈ xs, v.oneCell' = true) (h1y : ∀ v ∈ ys, v.oneCell' = true) :
    Calls Try.prog 92 #[x, .int .i64 i, y] w fun e w' => ∃ v, e = .returned v ∧ w'.ownsRow 0 65 12 v (n + m) (xs.take (i * 12) ++ ys ++ xs.drop (i * 12)) ∧ w.grownBy w' x.ownBlock ∧ (v.ownBlock = x.ownBlock ∨ v.ownBlock = some w.heap.size) := by
  obtain ⟨hxl, hx | ⟨g, c, cur, rfl, _, hg, hnc, hcm, hcs, hxc⟩⟩ := hx
  · omega
  obtain ⟨hyl, hy | ⟨vg, vc, cury, rfl, _, hgy, hmc, hcmy, hcsy, hyc⟩⟩ := hy
  · omega
  have hvg : vg ≠ g := fun e => hne g rfl (by rw [e]; rfl)
  rcases Nat.lt_or_ge i n with hin | hin
  · have hn12 : n * 12 = i * 12 + (n - i) * 12 := by rw [← Nat.add_mul]; congr 1; omega
    rcases Nat.lt_or_ge c (n + m) with hroom | hroom
    · refine (ins_grow g n c i vg m vc cur cury xs ys w hin hm hnc hroom hbig hg hgy hxl hxc hyl hyc h1x h1y).mono ?_
      rintro e w' ⟨row, z, z', row1, k1, k2, k3, k4, rfl, rfl⟩
      have hGn : n + m ≤ grownCap w (n + m) c 65 := grownCap_ge w _ _ _
      have hGm := grownCap_le_maxLen w (n + m) c 65 (by unfold maxLen; omega)
      generalize grownCap w (n + m) c 65 = CC at hGn hGm k4 ⊢
      have hi2 := ins_new xs ys z z' (i * 12) (m * 12) ((n - i) * 12) (by rw [hxl, hn12]) hyl (by rw [k2, Nat.add_mul]) row k1 row1 k3
      rw [← Nat.add_mul i m 12] at hi2
      have e1 : i * 12 + (n - i) * 12 + m * 12 = (n + m) * 12 := by rw [← hn12, Nat.add_mul]
      rw [e1] at hi2
      refine ⟨_, rfl, ⟨?_, .inr ⟨w.heap.size, CC, (row1.take ((i + m) * 12) ++ xs.drop (i * 12) ++ row1.drop ((i + m) * 12 + (n - i) * 12)).toArray, rfl, Nat.zero_le _, ?_, hGn, hGm, ?_, ?_⟩⟩, ?_, .inr rfl⟩
      · simp only [List.length_append, List.length_take, List.length_drop, hxl, hyl]; omega
      · refine setRow_heap _ _ row1.toArray _ 65 (0, 0) ?_
        refine setRow_heap _ _ row.toArray _ 65 (0, 0) ?_
        exact heap_alloc_new w _
      · rw [List.size_toArray, hi2.2, k4]
      · exact hi2.1
      · refine ⟨rfl, rfl, rfl, by simp, fun k hk _ => ?_⟩
        rw [setRow_other _ _ _ _ (by omega)]
        refine (setRow_other _ _ _ _ (by omega)).trans ?_
        exact heap_alloc_old w _ hk
    · refine (ins_shift g n c i vg m vc cur cury ys w hin hm hroom hcm hvg hg hgy hcs hyl hyc (by rw [hxc]; exact h1x) h1y).mono ?_
      rintro e w' ⟨row, k1, rfl, rfl⟩
      have hle : (n + m) * 12 ≤ c * 12 := Nat.mul_le_mul_right _ hroom
      have e1 : i * 12 + (n - i) * 12 + m * 12 = (n + m) * 12 := by rw [← hn12, Nat.add_mul]
      rw [Nat.add_mul i m 12] at k1
      have hi2 := ins_room cur.toList (i * 12) (m * 12) ((n - i) * 12) ys hyl (by rw [e1, Array.length_toList, hcs]; exact hle) row k1
      rw [e1, ← hn12, hxc] at hi2
      refine ⟨_, rfl, ⟨?_, .inr ⟨g, c, (row.take (i * 12) ++ ys ++ row.drop (i * 12 + m * 12)).toArray, rfl, Nat.zero_le _, ?_, hroom, hcm, ?_, ?_⟩⟩, ?_, .inl rfl⟩
      · simp only [List.length_append, List.length_take, List.length_drop, hxl, hyl]; omega
      · refine setRow_heap _ _ row.toArray _ 65 (0, 0) ?_
        exact setRow_heap _ _ cur _ 65 (0, 0) hg
      · rw [List.size_toArray, hi2.2, Array.length_toList, hcs]
      · exact hi2.1
      · refine ⟨rfl, rfl, rfl, by simp, fun k hk hne => ?_⟩
        have hkg : k ≠ g := fun e => hne (by rw [e]; rfl)
        rw [setRow_other _ _ _ _ hkg]
        exact setRow_other _ _ _ _ hkg
  · obtain rfl : i = n := by omega
    obtain ⟨i0, hi0, hzz, hby⟩ : ∃ i0, Try.prog.info? 65 = some i0 ∧ i0.size = 12 ∧ i0.bytes = 96 := by
      have := info65
      cases h : Try.prog.info? 65 with
      | none => rw [h] at this; cases this
      | some i0 => rw [h] at this; simp only [Option.map_some, Option.some.injEq, Prod.mk.injEq] at this; exact ⟨i0, rfl, this.1, this.2⟩
    obtain ⟨z0, hz0, hzc⟩ : ∃ z0, i0.zero = some z0 ∧ z0.cells.size = 12 := by
      have : (Try.prog.info? 65).bind (fun i => i.zero.map fun z => z.cells.size) = some 12 := by kernel_rfl
      rw [hi0] at this
      simp only [Option.bind_some, Option.map_eq_some_iff] at this
      exact this
    obtain ⟨v1, w', r1, r2, r3, _, r5⟩ := run_append_own_at (P := Try.prog) w 0 34 34 65 i0 z0 12 96 Try.underlying34 hi0 hz0 hzz hby hzc (by omega) (.slice (some ⟨g, 0, none⟩) i c) i xs ⟨hxl, .inr ⟨g, c, cur, rfl, Nat.zero_le _, hg, hnc, hcm, hcs, hxc⟩⟩ ⟨vg, 0, none⟩ m vc ys hyl
      (row_cells hgy 0 (by rw [List.drop_zero, hyl]; exact hyc.symm)) h1y (by unfold maxLen; omega) (by omega) (Nat.zero_le _)
    refine (ins_end g i c vg m vc w hn hnc hm v1 w' r1).mono ?_
    rintro e w'' ⟨rfl, rfl⟩
    refine ⟨v1, rfl, ?_, r3, r5⟩
    rw [List.take_of_length_le (by omega), List.drop_eq_nil_of_le (by omega), List.append_nil]
    exact r2

theorem old_ne01 : oldK 0 ≠ oldK 1 := by intro h; simp [oldK] at h
/-- slices.Insert, as a contract: the row that is handed in becomes the one that is handed out. -/
theorem insert_M (xs ys : List (List D)) (i : Nat) (hx : xs ≠ []) (hy : ys ≠ []) (hi : i ≤ xs.length) (hl : xs.length + ys.length ≤ 1000000000) :
    MCall Try.prog 92 [.sl (900000, 0), .d (.v (.int .i64 i)), .sl (900001, 0)] [.arr 65 12 xs, .arr 65 12 ys] (.sl (800000, 0)) [none, none] [some (.arr 65 12 (xs.take i ++ ys ++ xs.drop i))] := by
  refine ⟨rfl, fun vs w => ?_, fun w I ρ vs H hlen hrep => ?_⟩
  · have hn' : ¬ Try.f92.name = "runtime.NumGoroutine" := by decide
    have hb : ∃ c, Try.f92.body = some c := ⟨_, rfl⟩
    obtain ⟨c, hb⟩ := hb
    simp [callFunc, Try.func92, hb, hn']
  have hnx : 0 < xs.length := List.length_pos_iff.2 hx
  have hny : 0 < ys.length := List.length_pos_iff.2 hy
  obtain ⟨a, b, d, rfl⟩ : ∃ a b d, vs = [a, b, d] := by
    match vs, hlen with
    | [a, b, d], _ => exact ⟨a, b, d, rfl⟩
  have r0 := hrep 0 _ rfl
  have r1 := hrep 1 _ rfl
  have r2 := hrep 2 _ rfl
  simp only [List.getD_cons_zero, List.getD_cons_succ] at r0 r1 r2
  have hb0 : G (oldG 0 [Blk.arr 65 12 xs, .arr 65 12 ys]) (oldK 0) = some (.arr 65 12 xs) := rfl
  have hb1 : G (oldG 0 [Blk.arr 65 12 xs, .arr 65 12 ys]) (oldK 1) = some (.arr 65 12 ys) := rfl
  obtain ⟨x0, cx, p1, p2, p3, p4⟩ := H.blk _ _ hb0
  obtain ⟨y0, cy, q1, q2, q3, q4⟩ := H.blk _ _ hb1
  have e0 : a = x0 := by
    cases r0 with
    | sl _ _ h => exact Option.some.inj (h.symm.trans p1)
  have e1 : b = .int .i64 i := by cases r1 with | d _ _ h => cases h with | v => rfl
  have e2 : d = y0 := by
    cases r2 with
    | sl _ _ h => exact Option.some.inj (h.symm.trans q1)
  subst e0 e1 e2
  have locx : ∀ g, a.ownBlock = some g → locOf ρ (oldK 0) (.arr 65 12 xs) = some g := fun g h => by simp [locOf, p1, h]
  have locy : ∀ g, d.ownBlock = some g → locOf ρ (oldK 1) (.arr 65 12 ys) = some g := fun g h => by simp [locOf, q1, h]
  have one : ∀ (es : List (List D)) (cs : List Value), cs.length = es.length * 12 → (∀ e ∈ es, e.length = 12) → (∀ i j d, at2 es i j = some d → d.one = true ∧ RepD w I d (cs.getD (i * 12 + j) undef)) → ∀ v ∈ cs, v.oneCell' = true := by
    intro es cs h1 h2 h3 v hv
    obtain ⟨k, hk, rfl⟩ := List.mem_iff_getElem.1 hv
    have a1 : k / 12 < es.length := by omega
    have a2 : k % 12 < (es[k / 12]).length := by rw [h2 _ (List.getElem_mem a1)]; omega
    obtain ⟨g1, g2⟩ := h3 (k / 12) (k % 12) (es[k / 12][k % 12]) (by simp [at2, a1, a2])
    rw [show k / 12 * 12 + k % 12 = k by omega, List.getD, List.getElem?_eq_getElem hk] at g2
    exact g2.one g1
  refine (ins_all w a d xs.length ys.length i cx cy p2 q2 hnx hny hi hl (fun g h h' => old_ne01 (H.sep _ _ _ _ g hb0 hb1 (locx g h) (locy g h'))) (one xs cx p2.1 p3 p4) (one ys cy q2.1 q3 q4)).mono ?_
  rintro e w' ⟨v, rfl, hrow, hgr, hob⟩
  obtain ⟨u0, hu0⟩ := H.fresh
  have hk0 : ρ (7, u0) = none := hu0 7 u0 (Nat.le_refl _)
  have hva : ∀ g, a.ownBlock = some g → ¬ I g ∧ own ρ (G (oldG 0 [Blk.arr 65 12 xs, .arr 65 12 ys])) g := fun g h => ⟨H.notI _ _ g hb0 (locx g h), _, _, hb0, locx g h⟩
  have hI' : ∀ b, I b → w'.heap[b]? = w.heap[b]? := fun b hb => hgr.block b (H.ilt b hb) (fun e => (hva b e.symm).1 hb)
  have H0 : HeapOK w' I ρ (fun _ => none) := ⟨fun k b hb => (by cases hb), fun k k' b b' g h1 => (by cases h1), fun k b g h1 => (by cases h1), fun k b g h1 => (by cases h1), fun b hb => Nat.lt_of_lt_of_le (H.ilt b hb) hgr.size, ⟨u0, hu0⟩, H.rone⟩
  have hv1 : v.oneCell' = true := by rcases hrow.2 with ⟨rfl, _⟩ | ⟨g, cap, cur, rfl, _⟩ <;> rfl
  have hown : ∀ g, ¬ own ρ (fun _ => none) g := fun g ⟨k, b, h, _⟩ => by cases h
  have hloc : ∀ g, locOf (upd ρ (7, u0) (some v)) (7, u0) (.arr 65 12 (xs.take i ++ ys ++ xs.drop i)) = some g → v.ownBlock = some g := by
    intro g hg; simpa [locOf, upd_same] using hg
  have Hn := heap_add H0 (7, u0) v (.arr 65 12 (xs.take i ++ ys ++ xs.drop i)) hk0 hv1 (fun g hg => by
    have hg' := hloc g hg
    refine ⟨hown g, ?_, (hrow.lt g hg').2⟩
    rcases hob with h | h
    · exact (hva g (h.symm.trans hg')).1
    · rw [h] at hg'; cases hg'
      exact fun hi => Nat.lt_irrefl _ (H.ilt _ hi))
    ⟨v, _, upd_same _ _ _, by
      rw [show (xs.take i ++ ys ++ xs.drop i).length = xs.length + ys.length by simp only [List.length_append, List.length_take, List.length_drop]; omega]
      exact hrow, by
      intro q hq
      rw [List.mem_append, List.mem_append] at hq
      rcases hq with (h | h) | h
      · exact p3 q (List.mem_of_mem_take h)
      · exact q3 q h
      · exact p3 q (List.mem_of_mem_drop h), by
      intro r j d' hd'
      have hj : j < 12 := by
        unfold at2 at hd'
        cases hq : (xs.take i ++ ys ++ xs.drop i)[r]? with
        | none => rw [hq] at hd'; cases hd'
        | some q =>
          rw [hq, Option.bind_some] at hd'
          have hlt := (List.getElem?_eq_some_iff.1 hd').1
          have := List.mem_of_getElem? hq
          rw [List.mem_append, List.mem_append] at this
          rcases this with (h | h) | h
          · rwa [p3 q (List.mem_of_mem_take h)] at hlt
          · rwa [q3 q h] at hlt
          · rwa [p3 q (List.mem_of_mem_drop h)] at hlt
      have hxl := p2.1
      have hyl := q2.1
      have htl : (cx.take (i * 12)).length = i * 12 := by rw [List.length_take, hxl]; omega
      rcases at2_append hd' with ⟨hr, hd1⟩ | ⟨hr, hd1⟩
      · rw [List.length_append, List.length_take, Nat.min_eq_left hi] at hr
        rcases at2_append hd1 with ⟨hr1, hd2⟩ | ⟨hr1, hd2⟩
        · rw [List.length_take, Nat.min_eq_left hi] at hr1
          have hd3 : at2 xs r j = some d' := by
            unfold at2 at hd2 ⊢
            rwa [List.getElem?_take, if_pos hr1] at hd2
          obtain ⟨g1, g2⟩ := p4 r j d' hd3
          refine ⟨g1, ?_⟩
          have := g2.keep hI' (fun _ hb => hb)
          rw [List.getD, List.append_assoc, List.getElem?_append_left (by rw [htl]; omega), List.getElem?_take, if_pos (by omega)]
          rwa [List.getD] at this
        · rw [List.length_take, Nat.min_eq_left hi] at hr1 hd2
          obtain ⟨g1, g2⟩ := q4 (r - i) j d' hd2
          refine ⟨g1, ?_⟩
          have := g2.keep hI' (fun _ hb => hb)
          rw [List.getD, List.append_assoc, List.getElem?_append_right (by rw [htl]; omega), htl, List.getElem?_append_left (by rw [hyl]; omega), show r * 12 + j - i * 12 = (r - i) * 12 + j by omega]
          rwa [List.getD] at this
      · rw [List.length_append, List.length_take, Nat.min_eq_left hi] at hr hd1
        have hd3 : at2 xs (r - ys.length) j = some d' := by
          unfold at2 at hd1 ⊢
          rw [List.getElem?_drop] at hd1
          rwa [show i + (r - (i + ys.length)) = r - ys.length by omega] at hd1
        obtain ⟨g1, g2⟩ := p4 _ j d' hd3
        refine ⟨g1, ?_⟩
        have := g2.keep hI' (fun _ hb => hb)
        rw [List.getD, List.getElem?_append_right (by rw [List.length_append, htl, hyl]; omega), List.length_append, htl, hyl, List.getElem?_drop, show i * 12 + (r * 12 + j - (i * 12 + ys.length * 12)) = (r - ys.length) * 12 + j by omega]
        rwa [List.getD] at this⟩
  refine ⟨v, .sl (7, u0), I, _, _, rfl, .sl _ _ (upd_same _ _ _), Hn, ⟨hgr.os, hgr.tape, hgr.output, hgr.size, fun b hb hn' => hgr.block b hb (fun e => hn' (hva b e.symm).2), fun _ hb => hb, fun _ hb _ => .inl hb, ?_, le_upd hk0⟩, fun _ => (7, u0), rfl, ?_, ?_, ?_, ?_⟩
  · rintro g ⟨k', b', h1, h2⟩ hl
    by_cases ek : k' = (7, u0)
    · subst ek
      rw [upd_same] at h1
      cases h1
      have hg' := hloc g h2
      rcases hob with h | h
      · exact (hva g (h.symm.trans hg')).2
      · rw [h] at hg'; cases hg'; omega
    · rw [upd_ne _ _ _ _ ek] at h1; cases h1
  · intro j b hb
    match j, hb with
    | 0, hb => cases hb
    | 1, hb => cases hb
    | j + 2, hb => simp at hb
  · intro j b hb
    match j, hb with
    | 0, hb => cases hb; exact upd_same _ _ _
    | j + 1, hb => simp at hb
  · intro j _ i _ e; simp only [oldK, Prod.mk.injEq] at e; omega
  · intro j j' h1 h2 _
    simp only [List.length_cons, List.length_nil] at h1 h2
    omega

theorem ins_C : InsC Try.prog 92 65 12 := fun xs ys i h1 h2 h3 h4 => insert_M xs ys i h1 h2 h3 h4

end

noncomputable def convoy_Step_l1 (p1 : Convoy) (p2 : (List Int)) (p4 : (List Sight)) (v3 : (List ConvoyLetter)) (x1 : (Int × Convoy)) : Option (Stp (Int × Convoy) Convoy) :=
  cond (decide (x1.1 < (p1.Mates.length : Int))) ((geti p1.Mates x1.1).bind fun v4 => (convoy_look p4 v4.ID).bind fun v5 => (convoy_mind_thinks_o (ConvoyMind.mk v4 p1.Tick p1.Gap v5.1 v5.2) v3).bind fun v6 => (convoy_Step_2_b x1.1 p2).bind fun v7 => (convoy_mind_drives_b v6 v7).bind fun v8 => (appc x1.2.Mates [v8]).bind fun v9 => some (.go ((w64 (x1.1 + 1)), (Convoy.mk x1.2.Tick x1.2.Gap v9 x1.2.Guest_)))) (some (.out x1.2))
noncomputable def convoy_Step (p1 : Convoy) (p2 : (List Int)) (p3 : (List Note)) (p4 : (List Sight)) : Option (Convoy × Int) :=
  (convoy_Check p1).bind fun v1 => cond (v1 != 0) (some ((Convoy.mk 0 0 [] (Guest.mk 0 0 0 0 0 0 (Guess.mk 0 0) 0 0)), v1)) (((cond (!(((decide ((mm2 true (p3.length : Int) (p4.length : Int)) > 60)) || (decide (p1.Tick ≥ 1099511627776))) || (decide (p1.Guest_.S > 1099511625776)))) (slices_ContainsFunc_Mate_Mate_convoy_Step_1 p1.Mates) (some default))).bind fun v2 => cond ((((decide ((mm2 true (p3.length : Int) (p4.length : Int)) > 60)) || (decide (p1.Tick ≥ 1099511627776))) || (decide (p1.Guest_.S > 1099511625776))) || v2) (some ((Convoy.mk 0 0 [] (Guest.mk 0 0 0 0 0 0 (Guess.mk 0 0) 0 0)), 2)) ((convoy_post p3 p1.Tick).bind fun v3 => (loop (convoy_Step_l1 p1 p2 p4 v3) (0, (Convoy.mk (w64 (p1.Tick + 1)) p1.Gap [] (Guest.mk 0 0 0 0 0 0 (Guess.mk 0 0) 0 0)))).bind fun y1 => cond (p1.Guest_.ID == 0) (some (y1, 0)) ((convoy_Step_2_b (p1.Mates.length : Int) p2).bind fun v10 => (convoy_arrives p1 v3 p4).bind fun v11 => cond (!v11.2) ((convoy_rolls v11.1 v10).bind fun v12 => some ((Convoy.mk y1.Tick y1.Gap y1.Mates v12), 0)) ((convoy_beside p1).bind fun v13 => (convoy_mind_drives_b (ConvoyMind.mk (Mate.mk v11.1.ID v11.1.S v11.1.V v11.1.Len v11.1.Ahead v11.1.Guess_ true 0 (Guess.mk 0 0) 0) p1.Tick p1.Gap (Sight.mk 0 0 0 0 0) false) v10).bind fun v14 => (insertc y1.Mates (w64 (v13.1 + 1)) [v14]).bind fun v15 => some ((Convoy.mk y1.Tick y1.Gap v15 y1.Guest_), 0)))))

/-- kerbstone/convoy.Step -/
def ac_convoy_Step : AC := (.seq (.reg [oo 4 (.box 38 true (.t 0)), oo 5 (.box 39 false (.t 1)), oo 8 (.alloc 38 [z0, z0, .nilS, z0, z0, z0, z0, z0, z0, z0, z0, z0, z0]), oo 9 (.mv (ci 0))]) (.seq (.seq (.reg [oo 24 (.load 13 true (.t 4)), oo 25 (.call (cf 32) [(.t 24)]), oo 10 (.mv (.t 25))]) (.seq (.reg [oo 26 (.mv (.t 10)), oo 27 (.bin .neq (.t 26) (ci 0))]) (.cond (.t 27) (.seq (.reg [oo 28 (.build [z0, z0, .nilS, z0, z0, z0, z0, z0, z0, z0, z0, z0, z0] []), oo 29 (.mv (.t 10)), oe (.store 13 (.t 8) (.t 28)), oo 9 (.mv (.t 29))]) .ret) .skip))) (.seq (.reg [oo 11 (.mv (cf 84))]) (.seq (.seq (.reg [oo 30 (.mv (.t 2)), oo 31 (.len (.t 30)), oo 32 (.mv (.t 3)), oo 33 (.len (.t 32)), oo 34 (.mm true (.t 31) [(.t 33)]), oo 35 (.bin .gtr (.t 34) (ci 60)), oo 36 (.mv (.t 35)), oh 37 (.fieldA 0 (.t 4)) 36, oh 38 (.load 1 false (.t 37)) 36, oh 39 (.bin .geq (.t 38) (ci 1099511627776)) 36, oo 40 (.pick (.t 36) (.c (.v (.bool true))) (.t 39)), oo 41 (.mv (.t 40)), oh 42 (.fieldA 3 (.t 4)) 41, oh 43 (.fieldA 1 (.t 42)) 41, oh 44 (.load 1 false (.t 43)) 41, oh 45 (.bin .gtr (.t 44) (ci 1099511625776)) 41, oo 46 (.pick (.t 41) (.c (.v (.bool true))) (.t 45)), oo 47 (.mv (.t 46)), oh 48 (.fieldA 2 (.t 4)) 47, oh 49 (.load 1 false (.t 48)) 47, oh 50 (.mv (.t 11)) 47, oh 51 (.call (cf 77) [(.t 49), (.t 50)]) 47, oo 52 (.pick (.t 47) (.c (.v (.bool true))) (.t 51))]) (.cond (.t 52) (.seq (.reg [oo 53 (.build [z0, z0, .nilS, z0, z0, z0, z0, z0, z0, z0, z0, z0, z0] []), oe (.store 13 (.t 8) (.t 53)), oo 9 (.mv (ci 2))]) .ret) .skip)) (.seq (.reg [oo 54 (.mkfn (.func 85) [] [(.t 5)]), oo 12 (.mv (.t 54))]) (.seq (.reg [oo 55 (.mv (.t 2)), oo 56 (.fieldA 0 (.t 4)), oo 57 (.load 1 false (.t 56)), oo 58 (.call (cf 86) [(.t 55), (.t 57)]), oo 13 (.mv (.t 58))]) (.seq (.reg [oo 59 (.fieldA 0 (.t 4)), oo 60 (.load 1 false (.t 59)), oo 61 (.bin .add (.t 60) (ci 1)), oo 62 (.fieldA 1 (.t 4)), oo 63 (.load 1 false (.t 62)), oo 64 (.build [z0, z0, .nilS, z0, z0, z0, z0, z0, z0, z0, z0, z0, z0] [(0, 1, (.t 61)), (1, 1, (.t 63))]), oo 14 (.alloc 38 [z0, z0, .nilS, z0, z0, z0, z0, z0, z0, z0, z0, z0, z0]), oe (.store 13 (.t 14) (.t 64))]) (.seq (.seq (.reg [oo 65 (.fieldA 2 (.t 4)), oo 66 (.load 1 false (.t 65)), oo 67 (.len (.t 66)), oo 68 (.mv (ci 0))]) (.block 0 (.loop (.seq (.reg [oo 69 (.bin .lss (.t 68) (.t 67))]) (.seq (.cond (.t 69) .skip (.exit 0)) (.seq (.block 1 (.seq (.reg [oo 70 (.mv (.t 68)), oo 71 (.idxS 12 (.t 66) (.t 68)), oo 72 (.load 12 true (.t 71)), oo 16 (.alloc 65 [z0, z0, z0, z0, z0, z0, z0, zf, z0, z0, z0, z0]), oo 15 (.mv (.t 70)), oe (.store 12 (.t 16) (.t 72))]) (.seq (.reg [oo 73 (.load 12 true (.t 16)), oo 74 (.fieldA 0 (.t 4)), oo 75 (.load 1 false (.t 74)), oo 76 (.fieldA 1 (.t 4)), oo 77 (.load 1 false (.t 76)), oo 78 (.build [z0, z0, z0, z0, z0, z0, z0, zf, z0, z0, z0, z0, z0, z0, z0, z0, z0, z0, z0, zf] [(0, 12, (.t 73)), (12, 1, (.t 75)), (13, 1, (.t 77))]), oo 79 (.box 107 true (.t 78)), oo 17 (.mv (.t 79))]) (.seq (.reg [oo 81 (.mv (.t 17)), oo 82 (.mv (.t 17)), oo 83 (.mv (.t 3)), oo 84 (.fieldA 0 (.t 16)), oo 85 (.load 1 false (.t 84)), oo 86 (.call (cf 87) [(.t 83), (.t 85)]), oo 80 (.mv (.t 86)), oo 87 (.ext (.t 80) 0), oo 88 (.ext (.t 80) 1), oo 89 (.nilck (.t 81)), oo 90 (.fieldA 14 (.t 89)), oe (.store 5 (.t 90) (.t 87)), oo 91 (.nilck (.t 82)), oo 92 (.fieldA 19 (.t 91)), oe (.store 1 (.t 92) (.t 88))]) (.seq (.reg [oo 93 (.mv (.t 17)), oo 94 (.mv (.t 13)), oo 95 (.ocall 10150020 (cf 88) [(.t 93), (.t 94)])]) (.draw [oo 96 (.fieldA 2 (.t 14)), oo 97 (.load 1 false (.t 96)), oo 98 (.mv (.t 17)), oo 99 (.mv (.t 12)), oo 100 (.mv (.t 15)), oo 101 (.call (.t 99) [(.t 100)]), oo 102 (.call (cf 89) [(.t 98), (.t 101)]), oo 103 (.dslice 65 12 1 [z0, z0, z0, z0, z0, z0, z0, zf, z0, z0, z0, z0] [(0, 12, (.t 102))]), oo 104 (.append 34 65 12 (.t 97) (.t 103)), oo 105 (.fieldA 2 (.t 14)), oe (.store 1 (.t 105) (.t 104))] [])))))) (.reg [oo 106 (.bin .add (.t 68) (ci 1)), oo 68 (.mv (.t 106))]))))))) (.seq (.seq (.reg [oo 107 (.fieldA 3 (.t 4)), oo 108 (.fieldA 0 (.t 107)), oo 109 (.load 1 false (.t 108)), oo 110 (.bin .eql (.t 109) (ci 0))]) (.cond (.t 110) (.seq (.reg [oo 111 (.load 13 true (.t 14)), oe (.store 13 (.t 8) (.t 111)), oo 9 (.mv (ci 0))]) .ret) .skip)) (.seq (.reg [oo 112 (.mv (.t 12)), oo 113 (.fieldA 2 (.t 4)), oo 114 (.load 1 false (.t 113)), oo 115 (.len (.t 114)), oo 116 (.call (.t 112) [(.t 115)]), oo 18 (.mv (.t 116))]) (.seq (.reg [oo 118 (.load 13 true (.t 4)), oo 119 (.mv (.t 13)), oo 120 (.mv (.t 3)), oo 121 (.call (cf 90) [(.t 118), (.t 119), (.t 120)]), oo 117 (.mv (.t 121)), oo 122 (.ext (.t 117) 0), oo 123 (.ext (.t 117) 1), oo 19 (.alloc 36 [z0, z0, z0, z0, z0, z0, z0, z0, z0, z0]), oe (.store 10 (.t 19) (.t 122)), oo 20 (.mv (.t 123))]) (.seq (.seq (.reg [oo 124 (.mv (.t 20)), oo 125 (.un .not (.t 124))]) (.cond (.t 125) (.seq (.reg [oo 126 (.load 10 true (.t 19)), oo 127 (.mv (.t 18)), oo 128 (.call (cf 91) [(.t 126), (.t 127)]), oo 129 (.fieldA 3 (.t 14)), oe (.store 10 (.t 129) (.t 128))]) (.seq (.reg [oo 130 (.load 13 true (.t 14)), oe (.store 13 (.t 8) (.t 130)), oo 9 (.mv (ci 0))]) .ret)) .skip)) (.seq (.reg [oo 131 (.fieldA 0 (.t 19)), oo 132 (.load 1 false (.t 131)), oo 133 (.fieldA 1 (.t 19)), oo 134 (.load 1 false (.t 133)), oo 135 (.fieldA 2 (.t 19)), oo 136 (.load 1 false (.t 135)), oo 137 (.fieldA 3 (.t 19)), oo 138 (.load 1 false (.t 137)), oo 139 (.fieldA 5 (.t 19)), oo 140 (.load 1 false (.t 139)), oo 141 (.fieldA 6 (.t 19)), oo 142 (.load 2 true (.t 141)), oo 143 (.build [z0, z0, z0, z0, z0, z0, z0, zf, z0, z0, z0, z0] [(0, 1, (.t 132)), (1, 1, (.t 134)), (2, 1, (.t 136)), (3, 1, (.t 138)), (4, 1, (.t 140)), (5, 2, (.t 142)), (7, 1, (.c (.v (.bool true))))]), oo 144 (.fieldA 0 (.t 4)), oo 145 (.load 1 false (.t 144)), oo 146 (.fieldA 1 (.t 4)), oo 147 (.load 1 false (.t 146)), oo 148 (.build [z0, z0, z0, z0, z0, z0, z0, zf, z0, z0, z0, z0, z0, z0, z0, z0, z0, z0, z0, zf] [(0, 12, (.t 143)), (12, 1, (.t 145)), (13, 1, (.t 147))]), oo 149 (.box 107 true (.t 148)), oo 21 (.mv (.t 149))]) (.seq (.reg [oo 151 (.load 13 true (.t 4)), oo 152 (.call (cf 65) [(.t 151)]), oo 150 (.mv (.t 152)), oo 153 (.ext (.t 150) 0), oo 154 (.ext (.t 150) 1), oo 22 (.mv (.t 153)), oo 23 (.mv (.t 154))]) (.seq (.draw [oo 155 (.fieldA 2 (.t 14)), oo 156 (.load 1 false (.t 155)), oo 157 (.mv (.t 22)), oo 158 (.bin .add (.t 157) (ci 1)), oo 159 (.mv (.t 21)), oo 160 (.mv (.t 18)), oo 161 (.call (cf 89) [(.t 159), (.t 160)]), oo 162 (.bslice 65 12 1 [z0, z0, z0, z0, z0, z0, z0, zf, z0, z0, z0, z0] [(0, 12, (.t 161))]), oo 163 (.ocall 10270080 (cf 92) [(.t 156), (.t 158), (.t 162)]), oo 164 (.fieldA 2 (.t 14)), oe (.store 1 (.t 164) (.t 163))] []) (.seq (.reg [oo 165 (.load 13 true (.t 14)), oe (.store 13 (.t 8) (.t 165)), oo 9 (.mv (ci 0))]) .ret))))))))))))))))
theorem fn_convoy_Step : FnOK Try.prog 50 166 [.cell 8 13 true, .t 9] ac_convoy_Step := ⟨_, _, Try.func50, rfl, Try.ntmps50, by kernel_rfl, ⟨fun r => if r == 15 then [1015002] else if r == 16 then [1007] else if r == 27 then [1027008] else [], by kernel_rfl⟩, by kernel_rfl⟩
set_option maxHeartbeats 4000000 in
theorem convoy_Step_ok (p1 : Convoy) (p2 : (List Int)) (p3 : (List Note)) (p4 : (List Sight)) (r : (Convoy × Int)) (h : convoy_Step p1 p2 p3 p4 = some r) : PCall Try.prog 50 [(.agg (eConvoy p1)), (.list (List.map eInt_i64 p2)), (.list (List.map eNote p3)), (.list (List.map eSight p4))] (.tup [(.agg (eConvoy r.1)), (i64 r.2)]) := by
  refine l_call fn_convoy_Step (nl rfl) ?_
  unfold convoy_Step at h
  unfold ac_convoy_Step
  refine l_sub (s0 := ⟨T [(0, (.d _)), (1, (.d _)), (2, (.d _)), (3, (.d _))], G []⟩) (sbr rfl rfl) ?_
  refine lr (fun u1 hu1 => sn rfl rfl (sn rfl rfl (sn rfl rfl (sv rfl (s_nil (l_seq (lr (fun u2 hu2 => sd rfl (v_loadG rfl (gq rfl) rfl rfl) (bs h fun v1 hv1 h => s_call rfl rfl all2_refl (convoy_Check_ok _  _ hv1) (.inl rfl) (sv rfl (s_nil (lr (fun u3 hu3 => sv rfl (sv rfl (s_nil (cc rfl h (fun c1 h => ?_) (fun c1 h => ?_)))))))))))))))))
  · refine lr (fun u4 hu4 => sv rfl (sv rfl (sst rfl G_hit [(di 0), (di 0), (.d .nilS), (di 0), (di 0), (di 0), (di 0), (di 0), (di 0), (di 0), (di 0), (di 0), (di 0)] rfl (sv rfl (s_nil (l_ret ?_))))))
    obtain rfl := Option.some.inj h
    exact fin_ok (.inr rfl) (resD2 (res_cellG rfl G_hit (nl rfl) rfl) (res_t rfl) rf_d rf_d) (.tup (.cons (.agg (.cons ⟨(.refl _), rfl⟩ (.cons ⟨(.refl _), rfl⟩ (.cons ⟨DLe.nil, rfl⟩ (.cons ⟨(.refl _), rfl⟩ (.cons ⟨(.refl _), rfl⟩ (.cons ⟨(.refl _), rfl⟩ (.cons ⟨(.refl _), rfl⟩ (.cons ⟨(.refl _), rfl⟩ (.cons ⟨(.refl _), rfl⟩ (.cons ⟨(.refl _), rfl⟩ (.cons ⟨(.refl _), rfl⟩ (.cons ⟨(.refl _), rfl⟩ (.cons ⟨(.refl _), rfl⟩ .nil)))))))))))))) (.cons (.refl _) .nil)))
  · refine l_skip (lr (fun u5 hu5 => sv rfl (s_nil (l_seq (lr (fun u6 hu6 => sv rfl (sd rfl (v_len rfl) (sv rfl (sd rfl (v_len rfl) (sv rfl (sv rfl (sv rfl (gp rfl (gw_f rfl) (fun _ => rfl) (gf rfl (vl rfl (gq rfl) rfl) (gf rfl (vb rfl rfl rfl) (sd rfl (v_or rfl rfl (fun hc => gd_pos (not_t hc))) (sv rfl (gp rfl (gw_f rfl) (fun _ => rfl) ?_))))))))))))))))))
    refine g_val _ (.ptr _ _) rfl (gw_f rfl) (fun w5 => (by simp only [gd_pos w5]; rfl)) ?_
    refine gf rfl (vl rfl (gq rfl) rfl) (gf rfl (vb rfl rfl rfl) (sd rfl (v_or rfl rfl (fun hc => gd_pos (not_t hc))) (sv rfl (gp rfl (gw_f rfl) (fun _ => rfl) (gf rfl (vl rfl (gq rfl) rfl) (gf rfl (fun _ => rfl) (bs h fun v2 hv2 h => ?_)))))))
    refine g_call _ (bo v2) (gw_f rfl) (fun w11 => ⟨_, [(dl eMate p1.Mates), (.d (.fn (.func 84) [] []))], _, _, (by simp only [gd_pos w11]; rfl), rfl, all2_refl, slices_ContainsFunc_Mate_Mate_convoy_Step_1_ok _  _ (cond_t w11 hv2), (.inl rfl)⟩) ?_
    refine sd rfl (v_or rfl rfl (fun hc => gd_pos (not_t hc))) (s_nil (cc rfl h (fun c2 h => ?_) (fun c2 h => ?_)))
    · refine l_seq (l_sub (s0 := ⟨T [(8, (.ptr _ _))], G [((8, u1), some (.box 38 _))]⟩) (sbr rfl rfl) ?_)
      refine l_reg fun u7 hu7 => sv rfl (sst rfl G_hit [(di 0), (di 0), (.d .nilS), (di 0), (di 0), (di 0), (di 0), (di 0), (di 0), (di 0), (di 0), (di 0), (di 0)] rfl (sv rfl (s_nil (l_ret ?_))))
      obtain rfl := Option.some.inj h
      exact fin_ok (.inr rfl) (resD2 (res_cellG rfl G_hit (nl rfl) rfl) (res_t rfl) rf_d rf_d) (.tup (.cons (.agg (.cons ⟨(.refl _), rfl⟩ (.cons ⟨(.refl _), rfl⟩ (.cons ⟨DLe.nil, rfl⟩ (.cons ⟨(.refl _), rfl⟩ (.cons ⟨(.refl _), rfl⟩ (.cons ⟨(.refl _), rfl⟩ (.cons ⟨(.refl _), rfl⟩ (.cons ⟨(.refl _), rfl⟩ (.cons ⟨(.refl _), rfl⟩ (.cons ⟨(.refl _), rfl⟩ (.cons ⟨(.refl _), rfl⟩ (.cons ⟨(.refl _), rfl⟩ (.cons ⟨(.refl _), rfl⟩ .nil)))))))))))))) (.cons (.refl _) .nil)))
    · refine l_skip (l_seq (l_sub (s0 := ⟨T [(2, (.d _)), (3, (.d _)), (4, (.ptr _ _)), (5, (.ptr _ _)), (8, (.ptr _ _))], G [((4, u1), some (.box 38 _)), ((5, u1), some (.box 39 _)), ((8, u1), some (.box 38 _))]⟩) (sbr rfl rfl) ?_))
      refine l_reg fun u8 hu8 => s_val (.fn _ _ _) rfl rfl (s_val (.fn _ _ _) rfl rfl (s_nil (lr (fun u9 hu9 => sv rfl (sp rfl rfl (sl rfl G_hit rfl (bs h fun v3 hv3 h => s_call rfl rfl all2_refl (convoy_post_ok _ _  _ hv3) (.inl rfl) (sv rfl (s_nil (lr (fun u10 hu10 => sp rfl rfl (sl rfl G_hit rfl (sv rfl (sp rfl rfl (sl rfl G_hit rfl (sv rfl (sn rfl rfl (sst rfl G_hit [(di (w64 (p1.Tick + 1))), (di p1.Gap), (.d .nilS), (di 0), (di 0), (di 0), (di 0), (di 0), (di 0), (di 0), (di 0), (di 0), (di 0)] rfl (s_nil (l_seq (l_seq (l_sub (s0 := ⟨T [(3, (.d _)), (4, (.ptr _ _)), (8, (.ptr _ _)), (12, (.fn _ _ _)), (13, (.d _)), (14, (.ptr _ _))], G [((4, u1), some (.box 38 _)), ((8, u1), some (.box 38 _)), ((5, u1), some (.box 39 _)), ((14, u10), some (.box 38 _))]⟩) (sbr rfl rfl) ?_))))))))))))))))))))))
      refine l_reg fun u11 hu11 => sp rfl rfl (sl rfl G_hit rfl (sd rfl (v_len rfl) (sv rfl (s_nil (bs h fun y1 hy1 h => l_join (fun s => ∃ g1 : Nat, Sb ⟨T [(3, (dl eSight p4)), (4, (.ptr (4, u1) 0)), (8, (.ptr (8, u1) 0)), (12, (.fn (.func 85) [] [(.ptr (5, u1) 0)])), (13, (dl eConvoyLetter v3)), (14, (.ptr (14, u10) 0))], G [((4, u1), some (.box 38 (dConvoy p1))), ((8, u1), some (.box 38 [(di 0), (di 0), (.d .nilS), (di 0), (di 0), (di 0), (di 0), (di 0), (di 0), (di 0), (di 0), (di 0), (di 0)])), ((5, u1), some (.box 39 [(dl eInt_i64 p2)])), ((14, u10), some (.box 38 [(di y1.Tick), (di y1.Gap), (oS y1.Mates (104, g1)), (di y1.Guest_.ID), (di y1.Guest_.S), (di y1.Guest_.V), (di y1.Guest_.Len), (di y1.Guest_.End), (di y1.Guest_.Ahead), (di y1.Guest_.Guess_.R), (di y1.Guest_.Guess_.V), (di y1.Guest_.From), (di y1.Guest_.Until)])), ((104, g1), oB 65 12 eMate y1.Mates)]⟩ s) ?_ ?_)))))
      · refine l_block (l_loop (convoy_Step_l1 p1 p2 p4 v3) (fun (x1 : (Int × Convoy)) (g2 : Nat) => ⟨T [(3, (dl eSight p4)), (4, (.ptr (4, u1) 0)), (8, (.ptr (8, u1) 0)), (12, (.fn (.func 85) [] [(.ptr (5, u1) 0)])), (13, (dl eConvoyLetter v3)), (14, (.ptr (14, u10) 0)), (66, (dl eMate p1.Mates)), (67, (di (p1.Mates.length : Int))), (68, (di x1.1))], G [((4, u1), some (.box 38 (dConvoy p1))), ((8, u1), some (.box 38 [(di 0), (di 0), (.d .nilS), (di 0), (di 0), (di 0), (di 0), (di 0), (di 0), (di 0), (di 0), (di 0), (di 0)])), ((5, u1), some (.box 39 [(dl eInt_i64 p2)])), ((14, u10), some (.box 38 [(di x1.2.Tick), (di x1.2.Gap), (oS x1.2.Mates (104, g2)), (di x1.2.Guest_.ID), (di x1.2.Guest_.S), (di x1.2.Guest_.V), (di x1.2.Guest_.Len), (di x1.2.Guest_.End), (di x1.2.Guest_.Ahead), (di x1.2.Guest_.Guess_.R), (di x1.2.Guest_.Guess_.V), (di x1.2.Guest_.From), (di x1.2.Guest_.Until)])), ((104, g2), oB 65 12 eMate x1.2.Mates)]⟩) (0, (Convoy.mk (w64 (p1.Tick + 1)) p1.Gap [] (Guest.mk 0 0 0 0 0 0 (Guess.mk 0 0) 0 0))) 0 _ hy1 (sb_of ⟨.of rfl, .of rfl, .of rfl, .of rfl, .of rfl, .of rfl, .of rfl, .of rfl, .of rfl, trivial⟩ (sbG_some G_hit (.of rfl) (sbG_some (gq rfl) (.of rfl) (sbG_some (gq rfl) (.of rfl) (sbG_some (gq rfl) (.of rfl) (sbG_nil trivial)))))) ?_)
        intro x1 g2 z1 hz1 ez1
        unfold convoy_Step_l1 at hz1
        refine lr (fun u12 hu12 => sv rfl (s_nil (l_seq (cc rfl hz1 (fun c3 hz1 => ?_) (fun c3 hz1 => ?_)))))
        · refine l_skip (l_seq (l_block (lr (fun u13 hu13 => sv rfl (bs hz1 fun v4 hv4 hz1 => sd rfl (v_idx rfl rfl hv4 rfl) (sd rfl (v_loadLG rfl hv4 rfl rfl) (sn rfl rfl (sv rfl (sst rfl G_hit (dMate v4) rfl (s_nil (lr (fun u14 hu14 => sd rfl (v_loadG rfl G_hit rfl rfl) (sp rfl rfl (sl rfl (gq rfl) rfl (sp rfl rfl (sl rfl (gq rfl) rfl (sv rfl (sn rfl rfl (sp rfl rfl (s_nil (l_seq (l_sub (s0 := ⟨T [(3, (dl eSight p4)), (4, (.ptr (4, u1) 0)), (8, (.ptr (8, u1) 0)), (12, (.fn (.func 85) [] [(.ptr (5, u1) 0)])), (13, (dl eConvoyLetter v3)), (14, (.ptr (14, u10) 0)), (15, (di x1.1)), (16, (.ptr (16, u13) 0)), (17, (.ptr (79, u14) 0)), (66, (dl eMate p1.Mates)), (67, (di (p1.Mates.length : Int))), (68, (di x1.1))], G [((4, u1), some (.box 38 (dConvoy p1))), ((8, u1), some (.box 38 [(di 0), (di 0), (.d .nilS), (di 0), (di 0), (di 0), (di 0), (di 0), (di 0), (di 0), (di 0), (di 0), (di 0)])), ((5, u1), some (.box 39 [(dl eInt_i64 p2)])), ((14, u10), some (.box 38 [(di x1.2.Tick), (di x1.2.Gap), (oS x1.2.Mates (104, g2)), (di x1.2.Guest_.ID), (di x1.2.Guest_.S), (di x1.2.Guest_.V), (di x1.2.Guest_.Len), (di x1.2.Guest_.End), (di x1.2.Guest_.Ahead), (di x1.2.Guest_.Guess_.R), (di x1.2.Guest_.Guess_.V), (di x1.2.Guest_.From), (di x1.2.Guest_.Until)])), ((104, g2), oB 65 12 eMate x1.2.Mates), ((16, u13), some (.box 65 (dMate v4))), ((79, u14), some (.box 107 [(di v4.ID), (di v4.S), (di v4.V), (di v4.Len), (di v4.Ahead), (di v4.Guess_.R), (di v4.Guess_.V), (.d (bo v4.Trust)), (di v4.Ward), (di v4.WardGuess.R), (di v4.WardGuess.V), (di v4.Until), (di p1.Tick), (di p1.Gap), (di 0), (di 0), (di 0), (di 0), (di 0), (.d (bo false))]))]⟩) (sb_of ⟨.of rfl, .of rfl, .of rfl, .of rfl, .of rfl, .of rfl, .of rfl, .of rfl, .of rfl, .of rfl, .of rfl, .of rfl, trivial⟩ (sbG_some (gq rfl) (.of rfl) (sbG_some (gq rfl) (.of rfl) (sbG_some (gq rfl) (.of rfl) (sbG_some (gq rfl) (.of rfl) (sbG_oB (gq rfl) (sbG_some (gq rfl) (.of rfl) (sbG_some G_hit (.of rfl) trivial)))))))) ?_))))))))))))))))))))))
          refine l_reg fun u15 hu15 => sp rfl rfl (sp rfl rfl (sv rfl (sp rfl rfl (sl rfl (gq rfl) rfl (bs hz1 fun v5 hv5 hz1 => s_call rfl rfl all2_refl (convoy_look_ok _ _  _ hv5) (.inl rfl) (sv rfl (sv rfl (sv rfl (sp rfl rfl (sp rfl rfl (sst rfl (gq rfl) [(di v4.ID), (di v4.S), (di v4.V), (di v4.Len), (di v4.Ahead), (di v4.Guess_.R), (di v4.Guess_.V), (.d (bo v4.Trust)), (di v4.Ward), (di v4.WardGuess.R), (di v4.WardGuess.V), (di v4.Until), (di p1.Tick), (di p1.Gap), (di v5.1.By), (di v5.1.Lo), (di v5.1.Hi), (di v5.1.VLo), (di v5.1.VHi), (.d (bo false))] rfl (sp rfl rfl (sp rfl rfl (sst rfl G_hit [(di v4.ID), (di v4.S), (di v4.V), (di v4.Len), (di v4.Ahead), (di v4.Guess_.R), (di v4.Guess_.V), (.d (bo v4.Trust)), (di v4.Ward), (di v4.WardGuess.R), (di v4.WardGuess.V), (di v4.Until), (di p1.Tick), (di p1.Gap), (di v5.1.By), (di v5.1.Lo), (di v5.1.Hi), (di v5.1.VLo), (di v5.1.VHi), (.d (bo v5.2))] rfl (s_nil (l_seq (l_sub (s0 := ⟨T [(3, (dl eSight p4)), (4, (.ptr (4, u1) 0)), (8, (.ptr (8, u1) 0)), (12, (.fn (.func 85) [] [(.ptr (5, u1) 0)])), (13, (dl eConvoyLetter v3)), (14, (.ptr (14, u10) 0)), (15, (di x1.1)), (17, (.ptr (79, u14) 0)), (66, (dl eMate p1.Mates)), (67, (di (p1.Mates.length : Int))), (68, (di x1.1))], G [((4, u1), some (.box 38 (dConvoy p1))), ((8, u1), some (.box 38 [(di 0), (di 0), (.d .nilS), (di 0), (di 0), (di 0), (di 0), (di 0), (di 0), (di 0), (di 0), (di 0), (di 0)])), ((5, u1), some (.box 39 [(dl eInt_i64 p2)])), ((14, u10), some (.box 38 [(di x1.2.Tick), (di x1.2.Gap), (oS x1.2.Mates (104, g2)), (di x1.2.Guest_.ID), (di x1.2.Guest_.S), (di x1.2.Guest_.V), (di x1.2.Guest_.Len), (di x1.2.Guest_.End), (di x1.2.Guest_.Ahead), (di x1.2.Guest_.Guess_.R), (di x1.2.Guest_.Guess_.V), (di x1.2.Guest_.From), (di x1.2.Guest_.Until)])), ((104, g2), oB 65 12 eMate x1.2.Mates), ((79, u14), some (.box 107 [(di v4.ID), (di v4.S), (di v4.V), (di v4.Len), (di v4.Ahead), (di v4.Guess_.R), (di v4.Guess_.V), (.d (bo v4.Trust)), (di v4.Ward), (di v4.WardGuess.R), (di v4.WardGuess.V), (di v4.Until), (di p1.Tick), (di p1.Gap), (di v5.1.By), (di v5.1.Lo), (di v5.1.Hi), (di v5.1.VLo), (di v5.1.VHi), (.d (bo v5.2))]))]⟩) (sb_of ⟨.of rfl, .of rfl, .of rfl, .of rfl, .of rfl, .of rfl, .of rfl, .of rfl, .of rfl, .of rfl, .of rfl, trivial⟩ (sbG_some (gq rfl) (.of rfl) (sbG_some (gq rfl) (.of rfl) (sbG_some (gq rfl) (.of rfl) (sbG_some (gq rfl) (.of rfl) (sbG_oB (gq rfl) (sbG_some G_hit (.of rfl) trivial))))))) ?_)))))))))))))))))
          refine l_reg fun u16 hu16 => sp rfl rfl (sv rfl (bs hz1 fun v6 hv6 hz1 => s_oc (v := .d (.tup [])) (us := [(79, u14)]) (oc_m (convoy_mind_thinks_o_ok _ _ _ hv6) [(79, u14)] [(79, u14)] _ (((79, u14), some (.box 107 (dConvoyMind v6))) :: _) rfl all2_av (kl_cons (kr_ptr (G_skip rfl (G_skip rfl (G_skip rfl (G_skip rfl (G_skip rfl G_hit))))) rfl) (kl_cons kr_d kl_nil)) (live_cons (G_skip rfl (G_skip rfl (G_skip rfl (G_skip rfl (G_skip rfl G_hit))))) live_nil) ⟨⟨_, (G_skip rfl (G_skip rfl (G_skip rfl (G_skip rfl (G_skip rfl G_hit))))), .of rfl⟩, trivial⟩ (fun _ h => h) nd1 rfl rfl rfl) (s_nil (l_draw rfl fun u17 hu17 => sp rfl rfl (s_val (oS x1.2.Mates (104, g2)) rfl (v_load rfl (gq rfl) rfl) (sp rfl rfl (s_val (.fn _ _ _) rfl rfl (sv rfl (bs hz1 fun v7 hv7 hz1 => s_call rfl (rfL_cons rf_d (rfL_cons (rf_ptr (gq rfl) (rfL_cons rf_d rfL_nil)) rfL_nil)) all2_refl (convoy_Step_2_b_ok _ _  _ hv7) (.inr rfl) (bs hz1 fun v8 hv8 hz1 => s_call rfl (rfL_cons (rf_ptr G_hit (rfL_cons rf_d (rfL_cons rf_d (rfL_cons rf_d (rfL_cons rf_d (rfL_cons rf_d (rfL_cons rf_d (rfL_cons rf_d (rfL_cons rf_d (rfL_cons rf_d (rfL_cons rf_d (rfL_cons rf_d (rfL_cons rf_d (rfL_cons rf_d (rfL_cons rf_d (rfL_cons rf_d (rfL_cons rf_d (rfL_cons rf_d (rfL_cons rf_d (rfL_cons rf_d (rfL_cons rf_d rfL_nil))))))))))))))))))))) (rfL_cons rf_d rfL_nil)) all2_refl (convoy_mind_drives_b_ok _ _  _ hv8) (.inr rfl) (s_val (dl eMate [v8]) rfl (v_dsliceN eMate ([v8] : List Mate) (fun _ => rfl) rfl rfl ⟨rfl, rfl, rfl, trivial⟩) (bs hz1 fun v9 hv9 hz1 => s_appendO eMate (104, g2) x1.2.Mates v8 [] _ (elems_list (fun _ => rfl)) rfl (gq rfl) hv9 (sp rfl rfl (sst rfl (gq rfl) [(di x1.2.Tick), (di x1.2.Gap), (.sl (104, u17)), (di x1.2.Guest_.ID), (di x1.2.Guest_.S), (di x1.2.Guest_.V), (di x1.2.Guest_.Len), (di x1.2.Guest_.End), (di x1.2.Guest_.Ahead), (di x1.2.Guest_.Guess_.R), (di x1.2.Guest_.Guess_.V), (di x1.2.Guest_.From), (di x1.2.Guest_.Until)] rfl (s_nil (l_end (l_sub (s0 := ⟨T [(3, (.d _)), (4, (.ptr _ _)), (8, (.ptr _ _)), (12, (.fn _ _ _)), (13, (.d _)), (14, (.ptr _ _)), (66, (.d _)), (67, (.d _)), (68, (.d _))], G [((4, u1), some (.box 38 _)), ((8, u1), some (.box 38 _)), ((5, u1), some (.box 39 _)), ((14, u10), some (.box 38 _)), ((104, u17), some _)]⟩) (sbr rfl rfl) ?_)))))))))))))))))
          refine l_reg fun u18 hu18 => sv rfl (sv rfl (s_nil (l_nil ?_)))
          obtain rfl := Option.some.inj hz1
          exact ⟨rfl, u17, (sb_of ⟨.of rfl, .of rfl, .of rfl, .of rfl, .of rfl, .of rfl, .of rfl, .of rfl, .of rfl, trivial⟩ (sbG_some G_hit (.of rfl) (sbG_some (gq rfl) (.of rfl) (sbG_some (gq rfl) (.of rfl) (sbG_some (gq rfl) (.box (.cons (.of rfl) (.cons (.of rfl) (.cons (.of (oS_ne (appc_ne hv9)).symm) (.cons (.of rfl) (.cons (.of rfl) (.cons (.of rfl) (.cons (.of rfl) (.cons (.of rfl) (.cons (.of rfl) (.cons (.of rfl) (.cons (.of rfl) (.cons (.of rfl) (.cons (.of rfl) .nil)))))))))))))) (sbG_own (gq rfl) trivial))))))⟩
        · refine l_exitN rfl ?_
          obtain rfl := Option.some.inj hz1
          obtain rfl := ez1 _ rfl
          refine ⟨nofun, awl_pop rfl (l_j ?_)⟩
          exact ⟨g2, (sb_of ⟨.of rfl, .of rfl, .of rfl, .of rfl, .of rfl, .of rfl, trivial⟩ (sbG_some G_hit (.of rfl) (sbG_some (gq rfl) (.of rfl) (sbG_some (gq rfl) (.of rfl) (sbG_some (gq rfl) (.of rfl) (sbG_oB (gq rfl) trivial))))))⟩
      · rintro _ ⟨g1, q1⟩
        refine l_sub q1 (l_seq (lr (fun u19 hu19 => sp rfl rfl (sp rfl rfl (sl rfl G_hit rfl (sv rfl (s_nil (cc rfl h (fun c4 h => ?_) (fun c4 h => ?_)))))))))
        · refine lr (fun u20 hu20 => s_val (mkAgg [(di y1.Tick), (di y1.Gap), (oS y1.Mates (104, g1)), (di y1.Guest_.ID), (di y1.Guest_.S), (di y1.Guest_.V), (di y1.Guest_.Len), (di y1.Guest_.End), (di y1.Guest_.Ahead), (di y1.Guest_.Guess_.R), (di y1.Guest_.Guess_.V), (di y1.Guest_.From), (di y1.Guest_.Until)]) rfl (v_loadG rfl (gq rfl) rfl rfl) (s_store _ _ _ _ _ (cellsV_mkAgg _) rfl rfl (gq rfl) (nl rfl) [(di y1.Tick), (di y1.Gap), (oS y1.Mates (104, g1)), (di y1.Guest_.ID), (di y1.Guest_.S), (di y1.Guest_.V), (di y1.Guest_.Len), (di y1.Guest_.End), (di y1.Guest_.Ahead), (di y1.Guest_.Guess_.R), (di y1.Guest_.Guess_.V), (di y1.Guest_.From), (di y1.Guest_.Until)] rfl (sv rfl (s_nil (l_ret ?_)))))
          obtain rfl := Option.some.inj h
          exact fin_ok (.inr rfl) (resD2 (res_cellG rfl G_hit (nl rfl) rfl) (res_t rfl) (rf_mkAgg (rfL_cons rf_d (rfL_cons rf_d (rfL_cons (rf_oS (gq rfl)) (rfL_cons rf_d (rfL_cons rf_d (rfL_cons rf_d (rfL_cons rf_d (rfL_cons rf_d (rfL_cons rf_d (rfL_cons rf_d (rfL_cons rf_d (rfL_cons rf_d (rfL_cons rf_d rfL_nil)))))))))))))) rf_d) (.tup (.cons (.agg (.cons ⟨(.refl _), rfl⟩ (.cons ⟨(.refl _), rfl⟩ (.cons ⟨oD_le, rfl⟩ (.cons ⟨(.refl _), rfl⟩ (.cons ⟨(.refl _), rfl⟩ (.cons ⟨(.refl _), rfl⟩ (.cons ⟨(.refl _), rfl⟩ (.cons ⟨(.refl _), rfl⟩ (.cons ⟨(.refl _), rfl⟩ (.cons ⟨(.refl _), rfl⟩ (.cons ⟨(.refl _), rfl⟩ (.cons ⟨(.refl _), rfl⟩ (.cons ⟨(.refl _), rfl⟩ .nil)))))))))))))) (.cons (.refl _) .nil)))
        · refine l_skip (lr (fun u21 hu21 => s_val (.fn _ _ _) rfl rfl (sp rfl rfl (sl rfl G_hit rfl (sd rfl (v_len rfl) (bs h fun v10 hv10 h => s_call rfl (rfL_cons rf_d (rfL_cons (rf_ptr (gq rfl) (rfL_cons rf_d rfL_nil)) rfL_nil)) all2_refl (convoy_Step_2_b_ok _ _  _ hv10) (.inr rfl) (sv rfl (s_nil (lr (fun u22 hu22 => sd rfl (v_loadG rfl G_hit rfl rfl) (sv rfl (sv rfl (bs h fun v11 hv11 h => s_call rfl rfl all2_refl (convoy_arrives_ok _ _ _  _ hv11) (.inl rfl) (sv rfl (sv rfl (sv rfl (sn rfl rfl (sst rfl G_hit (dGuest v11.1) rfl (sv rfl (s_nil (l_seq (l_seq (l_sub (s0 := ⟨T [(4, (.ptr (4, u1) 0)), (8, (.ptr (8, u1) 0)), (14, (.ptr (14, u10) 0)), (18, (di v10)), (19, (.ptr (19, u22) 0)), (20, (.d (bo v11.2)))], G [((4, u1), some (.box 38 (dConvoy p1))), ((8, u1), some (.box 38 [(di 0), (di 0), (.d .nilS), (di 0), (di 0), (di 0), (di 0), (di 0), (di 0), (di 0), (di 0), (di 0), (di 0)])), ((14, u10), some (.box 38 [(di y1.Tick), (di y1.Gap), (oS y1.Mates (104, g1)), (di y1.Guest_.ID), (di y1.Guest_.S), (di y1.Guest_.V), (di y1.Guest_.Len), (di y1.Guest_.End), (di y1.Guest_.Ahead), (di y1.Guest_.Guess_.R), (di y1.Guest_.Guess_.V), (di y1.Guest_.From), (di y1.Guest_.Until)])), ((104, g1), oB 65 12 eMate y1.Mates), ((19, u22), some (.box 36 (dGuest v11.1)))]⟩) (sb_of ⟨.of rfl, .of rfl, .of rfl, .of rfl, .of rfl, .of rfl, trivial⟩ (sbG_some (gq rfl) (.of rfl) (sbG_some (gq rfl) (.of rfl) (sbG_some (gq rfl) (.of rfl) (sbG_oB (gq rfl) (sbG_some G_hit (.of rfl) trivial)))))) ?_)))))))))))))))))))))))
          refine l_reg fun u23 hu23 => sv rfl (s_val (.d (bo (!v11.2))) rfl rfl (s_nil (cc rfl h (fun c5 h => ?_) (fun c5 h => ?_))))
          · refine lr (fun u24 hu24 => sd rfl (v_loadG rfl (gq rfl) rfl rfl) (sv rfl (bs h fun v12 hv12 h => s_call rfl rfl all2_refl (convoy_rolls_ok _ _  _ hv12) (.inl rfl) (sp rfl rfl (sst rfl (gq rfl) [(di y1.Tick), (di y1.Gap), (oS y1.Mates (104, g1)), (di v12.ID), (di v12.S), (di v12.V), (di v12.Len), (di v12.End), (di v12.Ahead), (di v12.Guess_.R), (di v12.Guess_.V), (di v12.From), (di v12.Until)] rfl (s_nil (lr (fun u25 hu25 => s_val (mkAgg [(di y1.Tick), (di y1.Gap), (oS y1.Mates (104, g1)), (di v12.ID), (di v12.S), (di v12.V), (di v12.Len), (di v12.End), (di v12.Ahead), (di v12.Guess_.R), (di v12.Guess_.V), (di v12.From), (di v12.Until)]) rfl (v_loadG rfl G_hit rfl rfl) (s_store _ _ _ _ _ (cellsV_mkAgg _) rfl rfl (gq rfl) (nl rfl) [(di y1.Tick), (di y1.Gap), (oS y1.Mates (104, g1)), (di v12.ID), (di v12.S), (di v12.V), (di v12.Len), (di v12.End), (di v12.Ahead), (di v12.Guess_.R), (di v12.Guess_.V), (di v12.From), (di v12.Until)] rfl (sv rfl (s_nil (l_ret ?_))))))))))))
            obtain rfl := Option.some.inj h
            exact fin_ok (.inr rfl) (resD2 (res_cellG rfl G_hit (nl rfl) rfl) (res_t rfl) (rf_mkAgg (rfL_cons rf_d (rfL_cons rf_d (rfL_cons (rf_oS (gq rfl)) (rfL_cons rf_d (rfL_cons rf_d (rfL_cons rf_d (rfL_cons rf_d (rfL_cons rf_d (rfL_cons rf_d (rfL_cons rf_d (rfL_cons rf_d (rfL_cons rf_d (rfL_cons rf_d rfL_nil)))))))))))))) rf_d) (.tup (.cons (.agg (.cons ⟨(.refl _), rfl⟩ (.cons ⟨(.refl _), rfl⟩ (.cons ⟨oD_le, rfl⟩ (.cons ⟨(.refl _), rfl⟩ (.cons ⟨(.refl _), rfl⟩ (.cons ⟨(.refl _), rfl⟩ (.cons ⟨(.refl _), rfl⟩ (.cons ⟨(.refl _), rfl⟩ (.cons ⟨(.refl _), rfl⟩ (.cons ⟨(.refl _), rfl⟩ (.cons ⟨(.refl _), rfl⟩ (.cons ⟨(.refl _), rfl⟩ (.cons ⟨(.refl _), rfl⟩ .nil)))))))))))))) (.cons (.refl _) .nil)))
          · refine l_skip (lr (fun u26 hu26 => sp rfl rfl (sl rfl (gq rfl) rfl (sp rfl rfl (sl rfl (gq rfl) rfl (sp rfl rfl (sl rfl (gq rfl) rfl (sp rfl rfl (sl rfl (gq rfl) rfl (sp rfl rfl (sl rfl (gq rfl) rfl (sp rfl rfl (sd rfl (v_loadG rfl (gq rfl) rfl rfl) (sv rfl (sp rfl rfl (sl rfl G_hit rfl (sp rfl rfl (sl rfl G_hit rfl (sv rfl (sn rfl rfl (sp rfl rfl (s_nil (l_seq (l_sub (s0 := ⟨T [(4, (.ptr (4, u1) 0)), (8, (.ptr (8, u1) 0)), (14, (.ptr (14, u10) 0)), (18, (di v10)), (21, (.ptr (149, u26) 0))], G [((4, u1), some (.box 38 (dConvoy p1))), ((8, u1), some (.box 38 [(di 0), (di 0), (.d .nilS), (di 0), (di 0), (di 0), (di 0), (di 0), (di 0), (di 0), (di 0), (di 0), (di 0)])), ((14, u10), some (.box 38 [(di y1.Tick), (di y1.Gap), (oS y1.Mates (104, g1)), (di y1.Guest_.ID), (di y1.Guest_.S), (di y1.Guest_.V), (di y1.Guest_.Len), (di y1.Guest_.End), (di y1.Guest_.Ahead), (di y1.Guest_.Guess_.R), (di y1.Guest_.Guess_.V), (di y1.Guest_.From), (di y1.Guest_.Until)])), ((104, g1), oB 65 12 eMate y1.Mates), ((149, u26), some (.box 107 [(di v11.1.ID), (di v11.1.S), (di v11.1.V), (di v11.1.Len), (di v11.1.Ahead), (di v11.1.Guess_.R), (di v11.1.Guess_.V), (.d (bo true)), (di 0), (di 0), (di 0), (di 0), (di p1.Tick), (di p1.Gap), (di 0), (di 0), (di 0), (di 0), (di 0), (.d (bo false))]))]⟩) (sb_of ⟨.of rfl, .of rfl, .of rfl, .of rfl, .of rfl, trivial⟩ (sbG_some (gq rfl) (.of rfl) (sbG_some (gq rfl) (.of rfl) (sbG_some (gq rfl) (.of rfl) (sbG_oB (gq rfl) (sbG_some G_hit (.of rfl) trivial)))))) ?_))))))))))))))))))))))))
            refine l_reg fun u27 hu27 => sd rfl (v_loadG rfl G_hit rfl rfl) (bs h fun v13 hv13 h => s_call rfl rfl all2_refl (convoy_beside_ok _  _ hv13) (.inl rfl) (sv rfl (sv rfl (sv rfl (sv rfl (sv rfl (s_nil (l_seq (l_draw rfl fun u28 hu28 => sp rfl rfl (s_val (oS y1.Mates (104, g1)) rfl (v_load rfl (gq rfl) rfl) (sv rfl (sv rfl (sp rfl rfl (sv rfl (bs h fun v14 hv14 h => s_call rfl (rfL_cons (rf_ptr (gq rfl) (rfL_cons rf_d (rfL_cons rf_d (rfL_cons rf_d (rfL_cons rf_d (rfL_cons rf_d (rfL_cons rf_d (rfL_cons rf_d (rfL_cons rf_d (rfL_cons rf_d (rfL_cons rf_d (rfL_cons rf_d (rfL_cons rf_d (rfL_cons rf_d (rfL_cons rf_d (rfL_cons rf_d (rfL_cons rf_d (rfL_cons rf_d (rfL_cons rf_d (rfL_cons rf_d (rfL_cons rf_d rfL_nil))))))))))))))))))))) (rfL_cons rf_d rfL_nil)) all2_refl (convoy_mind_drives_b_ok _ _  _ hv14) (.inr rfl) (s_new (.sl _) (.arr 65 12 (List.map eMate ([v14] : List Mate))) rfl (aval_bsliceN eMate _ (fun _ => rfl) rfl rfl ⟨rfl, rfl, rfl, trivial⟩) (bs h fun v15 hv15 h => s_oc (oc_insert (E := eMate) ins_C hv15 rfl (G_skip rfl (G_skip rfl (G_skip rfl (G_skip rfl G_hit)))) G_hit (key_ne rfl)) (sp rfl rfl (sst rfl (gq rfl) [(di y1.Tick), (di y1.Gap), (.sl (10270080, u28)), (di y1.Guest_.ID), (di y1.Guest_.S), (di y1.Guest_.V), (di y1.Guest_.Len), (di y1.Guest_.End), (di y1.Guest_.Ahead), (di y1.Guest_.Guess_.R), (di y1.Guest_.Guess_.V), (di y1.Guest_.From), (di y1.Guest_.Until)] rfl (s_nil (l_seq (l_sub (s0 := ⟨T [(8, (.ptr _ _)), (14, (.ptr _ _))], G [((8, u1), some (.box 38 _)), ((14, u10), some (.box 38 _)), ((10270080, u28), some _)]⟩) (sbr rfl rfl) ?_))))))))))))))))))))))
            refine l_reg fun u29 hu29 => s_val (.agg _) rfl (v_loadG rfl (gq rfl) rfl rfl) (sst rfl G_hit [(di y1.Tick), (di y1.Gap), (.sl (10270080, u28)), (di y1.Guest_.ID), (di y1.Guest_.S), (di y1.Guest_.V), (di y1.Guest_.Len), (di y1.Guest_.End), (di y1.Guest_.Ahead), (di y1.Guest_.Guess_.R), (di y1.Guest_.Guess_.V), (di y1.Guest_.From), (di y1.Guest_.Until)] rfl (sv rfl (s_nil (l_ret ?_))))
            obtain rfl := Option.some.inj h
            exact fin_ok (.inr rfl) (resD2 (res_cellG rfl G_hit (nl rfl) rfl) (res_t rfl) (rf_agg (rfL_cons rf_d (rfL_cons rf_d (rfL_cons (rf_sl (gq rfl)) (rfL_cons rf_d (rfL_cons rf_d (rfL_cons rf_d (rfL_cons rf_d (rfL_cons rf_d (rfL_cons rf_d (rfL_cons rf_d (rfL_cons rf_d (rfL_cons rf_d (rfL_cons rf_d rfL_nil)))))))))))))) rf_d) (.refl _)

noncomputable def convoy_find_1_b (p1 : Mate) (p2 : Int) : Option Bool :=
  some (p1.ID == p2)

/-- kerbstone/convoy.find$1 -/
def ac_convoy_find_1_b : AC := (.seq (.reg [oo 2 (.box 65 true (.t 0)), oo 3 (.mv (.c zf))]) (.seq (.reg [oo 4 (.fieldA 0 (.t 2)), oo 5 (.load 1 false (.t 4)), oo 6 (.load 1 false (.t 1)), oo 7 (.bin .eql (.t 5) (.t 6)), oo 3 (.mv (.t 7))]) .ret))
theorem fn_convoy_find_1_b : FnOK Try.prog 99 8 [.t 3] ac_convoy_find_1_b := ⟨_, _, Try.func99, rfl, Try.ntmps99, by kernel_rfl, ⟨fun _ => [], by kernel_rfl⟩, by kernel_rfl⟩
theorem convoy_find_1_b_ok (p1 : Mate) (p2 : Int) (r : Bool) (h : convoy_find_1_b p1 p2 = some r) : PCall Try.prog 99 [(.agg (eMate p1)), (.bp [(i64 p2)] 0)] (bo r) := by
  refine l_call fn_convoy_find_1_b (nl rfl) ?_
  unfold convoy_find_1_b at h
  unfold ac_convoy_find_1_b
  refine l_sub (s0 := ⟨T [(0, (.d _)), (1, (.d _))], G []⟩) (sbr rfl rfl) ?_
  refine lr (fun u1 hu1 => sn rfl rfl (sv rfl (s_nil (lr (fun u2 hu2 => sp rfl rfl (sl rfl G_hit rfl (sv rfl (sv rfl (sv rfl (s_nil (l_ret ?_)))))))))))
  obtain rfl := Option.some.inj h
  exact fin_ok (.inr rfl) (resD1 (res_t rfl) rf_d) (.refl _)

noncomputable def slices_IndexFunc_Mate_Mate_convoy_find_1b_l1 (p1 : (List Mate)) (p2 : Int) (x1 : Int) : Option (Stp Int (Sum Unit Int)) :=
  cond (decide (x1 < (p1.length : Int))) ((geti p1 x1).bind fun v1 => (convoy_find_1_b v1 p2).bind fun v2 => cond v2 (some (.out (.inr x1))) (some (.go (w64 (x1 + 1))))) (some (.out (.inl ())))
noncomputable def slices_IndexFunc_Mate_Mate_convoy_find_1b (p1 : (List Mate)) (p2 : Int) : Option Int :=
  thenS (loop (slices_IndexFunc_Mate_Mate_convoy_find_1b_l1 p1 p2) 0) (fun _ => some (-1)) (fun r => some r)

/-- slices.IndexFunc[[]kerbstone/api.Mate,kerbstone/api.Mate] -/
def ac_slices_IndexFunc_Mate_Mate_convoy_find_1b : AC := (.seq (.reg [oo 4 (.mv (ci 0))]) (.seq (.seq (.reg [oo 6 (.mv (.t 0)), oo 7 (.len (.t 6)), oo 8 (.mv (ci 0))]) (.block 0 (.loop (.seq (.reg [oo 9 (.bin .lss (.t 8) (.t 7))]) (.seq (.cond (.t 9) .skip (.exit 0)) (.seq (.block 1 (.seq (.reg [oo 10 (.mv (.t 8)), oo 5 (.mv (.t 10))]) (.seq (.reg [oo 11 (.mv (.t 1)), oo 12 (.mv (.t 0)), oo 13 (.mv (.t 5)), oo 14 (.idxS 12 (.t 12) (.t 13)), oo 15 (.load 12 true (.t 14)), oo 16 (.call (.t 11) [(.t 15)])]) (.cond (.t 16) (.seq (.reg [oo 17 (.mv (.t 5)), oo 4 (.mv (.t 17))]) .ret) .skip)))) (.reg [oo 18 (.bin .add (.t 8) (ci 1)), oo 8 (.mv (.t 18))]))))))) (.seq (.reg [oo 4 (.mv (ci (-1)))]) .ret)))
theorem fn_slices_IndexFunc_Mate_Mate_convoy_find_1b : FnOK Try.prog 98 19 [.t 4] ac_slices_IndexFunc_Mate_Mate_convoy_find_1b := ⟨_, _, Try.func98, rfl, Try.ntmps98, by kernel_rfl, ⟨fun _ => [], by kernel_rfl⟩, by kernel_rfl⟩
set_option maxHeartbeats 4000000 in
theorem slices_IndexFunc_Mate_Mate_convoy_find_1b_ok (p1 : (List Mate)) (p2 : Int) (r : Int) (h : slices_IndexFunc_Mate_Mate_convoy_find_1b p1 p2 = some r) : PCall Try.prog 98 [(.list (List.map eMate p1)), (.fn (.func 99) [] [(.bp [(i64 p2)] 0)])] (i64 r) := by
  refine l_call fn_slices_IndexFunc_Mate_Mate_convoy_find_1b (nl rfl) ?_
  unfold slices_IndexFunc_Mate_Mate_convoy_find_1b at h
  unfold ac_slices_IndexFunc_Mate_Mate_convoy_find_1b
  refine l_sub (s0 := ⟨T [(0, (.d _)), (1, (.d _))], G []⟩) (sbr rfl rfl) ?_
  refine lr (fun u1 hu1 => sv rfl (s_nil (l_seq (lr (fun u2 hu2 => sv rfl (sd rfl (v_len rfl) (sv rfl (s_nil (js h fun z1 hz1 h => l_join (fun s => ∃ (y1 : Unit) (g1 : Unit), z1 = .inl y1 ∧ Sb ⟨T [], G []⟩ s) ?_ ?_)))))))))
  · refine l_block (l_loop (slices_IndexFunc_Mate_Mate_convoy_find_1b_l1 p1 p2) (fun (x1 : Int) (g2 : Unit) => ⟨T [(0, (dl eMate p1)), (1, (.d (.fn (.func 99) [] [(.bp [(i64 p2)] 0)]))), (7, (di (p1.length : Int))), (8, (di x1))], G []⟩) 0 () _ hz1 (sbr rfl rfl) ?_)
    intro x1 g2 z2 hz2 ez2
    unfold slices_IndexFunc_Mate_Mate_convoy_find_1b_l1 at hz2
    refine lr (fun u3 hu3 => sv rfl (s_nil (l_seq (cc rfl hz2 (fun c1 hz2 => ?_) (fun c1 hz2 => ?_)))))
    · refine l_skip (l_seq (l_block (lr (fun u4 hu4 => sv rfl (sv rfl (s_nil (lr (fun u5 hu5 => sv rfl (sv rfl (sv rfl (bs hz2 fun v1 hv1 hz2 => sd rfl (v_idx rfl rfl hv1 rfl) (sd rfl (v_loadLG rfl hv1 rfl rfl) (bs hz2 fun v2 hv2 hz2 => s_call rfl rfl all2_refl (convoy_find_1_b_ok _ _  _ hv2) (.inl rfl) (s_nil (cc rfl hz2 (fun c2 hz2 => ?_) (fun c2 hz2 => ?_))))))))))))))))
      · refine lr (fun u6 hu6 => sv rfl (sv rfl (s_nil (l_ret ?_))))
        obtain rfl := Option.some.inj hz2
        obtain rfl := ez2 _ rfl
        refine ⟨nofun, awl_ret ?_⟩
        rw [Sum.elim_inr] at h
        obtain rfl := Option.some.inj h
        exact fin_ok (.inr rfl) (resD1 (res_t rfl) rf_d) (.refl _)
      · refine l_skip (l_end (l_reg fun u7 hu7 => sv rfl (sv rfl (s_nil (l_nil ?_)))))
        obtain rfl := Option.some.inj hz2
        exact ⟨rfl, (), (sbr rfl rfl)⟩
    · refine l_exitN rfl ?_
      obtain rfl := Option.some.inj hz2
      obtain rfl := ez2 _ rfl
      refine ⟨nofun, awl_pop rfl (l_j ?_)⟩
      exact ⟨_, (), rfl, (sbr rfl rfl)⟩
  · rintro _ ⟨y1, g1, rfl, q1⟩
    rw [Sum.elim_inl] at h
    refine l_sub q1 (lr (fun u8 hu8 => sv rfl (s_nil (l_ret ?_))))
    obtain rfl := Option.some.inj h
    exact fin_ok (.inr rfl) (resD1 (res_t rfl) rf_d) (.refl _)

noncomputable def convoy_find (p1 : (List Mate)) (p2 : Int) : Option Int :=
  (slices_IndexFunc_Mate_Mate_convoy_find_1b p1 p2).bind fun v1 => some v1

/-- kerbstone/convoy.find -/
def ac_convoy_find : AC := (.seq (.reg [oo 3 (.box 3 false (.t 1)), oo 4 (.mv (ci 0))]) (.seq (.reg [oo 5 (.mv (.t 0)), oo 6 (.mkfn (.func 99) [] [(.t 3)]), oo 7 (.call (cf 98) [(.t 5), (.t 6)]), oo 4 (.mv (.t 7))]) .ret))
theorem fn_convoy_find : FnOK Try.prog 64 8 [.t 4] ac_convoy_find := ⟨_, _, Try.func64, rfl, Try.ntmps64, by kernel_rfl, ⟨fun _ => [], by kernel_rfl⟩, by kernel_rfl⟩
theorem convoy_find_ok (p1 : (List Mate)) (p2 : Int) (r : Int) (h : convoy_find p1 p2 = some r) : PCall Try.prog 64 [(.list (List.map eMate p1)), (i64 p2)] (i64 r) := by
  refine l_call fn_convoy_find (nl rfl) ?_
  unfold convoy_find at h
  unfold ac_convoy_find
  refine l_sub (s0 := ⟨T [(0, (.d _)), (1, (.d _))], G []⟩) (sbr rfl rfl) ?_
  refine lr (fun u1 hu1 => sn rfl rfl (sv rfl (s_nil (lr (fun u2 hu2 => sv rfl (s_val (.fn _ _ _) rfl rfl (bs h fun v1 hv1 h => s_call rfl (rfL_cons rf_d (rfL_cons (rf_fn rfL_nil (rfL_cons (rf_ptr G_hit (rfL_cons rf_d rfL_nil)) rfL_nil)) rfL_nil)) all2_refl (slices_IndexFunc_Mate_Mate_convoy_find_1b_ok _ _  _ hv1) (.inr rfl) (sv rfl (s_nil (l_ret ?_))))))))))
  obtain rfl := Option.some.inj h
  exact fin_ok (.inr rfl) (resD1 (res_t rfl) rf_d) (.refl _)

noncomputable def convoy_Look_1_b (p1 : Int) (p2 : Int) (p3 : (List Int)) : Option Int :=
  cond (decide (p1 ≥ (p3.length : Int))) (some 0) ((geti p3 p1).bind fun v1 => (remc v1 p2).bind fun v2 => (remc (w64 (v2 + p2)) p2).bind fun v3 => some v3)

/-- kerbstone/convoy.Look$1 -/
def ac_convoy_Look_1_b : AC := (.seq (.reg [oo 5 (.mv (ci 0))]) (.seq (.seq (.reg [oo 6 (.mv (.t 0)), oo 7 (.load 1 false (.t 2)), oo 8 (.len (.t 7)), oo 9 (.bin .geq (.t 6) (.t 8))]) (.cond (.t 9) (.seq (.reg [oo 5 (.mv (ci 0))]) .ret) .skip)) (.seq (.reg [oo 10 (.load 1 false (.t 2)), oo 11 (.mv (.t 0)), oo 12 (.idxS 1 (.t 10) (.t 11)), oo 13 (.load 1 false (.t 12)), oo 14 (.mv (.t 1)), oo 15 (.bin .rem (.t 13) (.t 14)), oo 16 (.mv (.t 1)), oo 17 (.bin .add (.t 15) (.t 16)), oo 18 (.mv (.t 1)), oo 19 (.bin .rem (.t 17) (.t 18)), oo 5 (.mv (.t 19))]) .ret)))
theorem fn_convoy_Look_1_b : FnOK Try.prog 66 20 [.t 5] ac_convoy_Look_1_b := ⟨_, _, Try.func66, rfl, Try.ntmps66, by kernel_rfl, ⟨fun _ => [], by kernel_rfl⟩, by kernel_rfl⟩
theorem convoy_Look_1_b_ok (p1 : Int) (p2 : Int) (p3 : (List Int)) (r : Int) (h : convoy_Look_1_b p1 p2 p3 = some r) : PCall Try.prog 66 [(i64 p1), (i64 p2), (.bp [(.list (List.map eInt_i64 p3))] 0)] (i64 r) := by
  refine l_call fn_convoy_Look_1_b (nl rfl) ?_
  unfold convoy_Look_1_b at h
  unfold ac_convoy_Look_1_b
  refine l_sub (s0 := ⟨T [(0, (.d _)), (1, (.d _)), (2, (.d _))], G []⟩) (sbr rfl rfl) ?_
  refine lr (fun u1 hu1 => sv rfl (s_nil (l_seq (lr (fun u2 hu2 => sv rfl (sv rfl (sd rfl (v_len rfl) (sv rfl (s_nil (cc rfl h (fun c1 h => ?_) (fun c1 h => ?_)))))))))))
  · refine lr (fun u3 hu3 => sv rfl (s_nil (l_ret ?_)))
    obtain rfl := Option.some.inj h
    exact fin_ok (.inr rfl) (resD1 (res_t rfl) rf_d) (.refl _)
  · refine l_skip (lr (fun u4 hu4 => sv rfl (sv rfl (bs h fun v1 hv1 h => sd rfl (v_idx rfl rfl hv1 rfl) (sd rfl (v_loadL rfl hv1 rfl) (sv rfl (bs h fun v2 hv2 h => sd rfl (v_rem rfl rfl hv2) (sv rfl (sv rfl (sv rfl (bs h fun v3 hv3 h => sd rfl (v_rem rfl rfl hv3) (sv rfl (s_nil (l_ret ?_))))))))))))))
    obtain rfl := Option.some.inj h
    exact fin_ok (.inr rfl) (resD1 (res_t rfl) rf_d) (.refl _)

noncomputable def convoy_Look (p1 : Convoy) (p2 : Int) (p3 : (List Int)) : Option (Sight × Int) :=
  (convoy_Check p1).bind fun v1 => cond (v1 != 0) (some ((Sight.mk 0 0 0 0 0), v1)) ((convoy_find p1.Mates p2).bind fun v2 => (cond ((p2 != 0) && (p2 == p1.Guest_.ID)) ((convoy_beside p1).bind fun v3 => some v3.1) (some (w64 (v2 - 1)))).bind fun y1 => cond (decide (y1 < 0)) (some ((Sight.mk 0 0 0 0 0), 7)) ((geti p1.Mates y1).bind fun v4 => (convoy_rear v4).bind fun v5 => (convoy_Look_1_b 0 101 p3).bind fun v6 => (convoy_rear v4).bind fun v7 => (convoy_Look_1_b 1 101 p3).bind fun v8 => (convoy_Look_1_b 2 6 p3).bind fun v9 => (convoy_Look_1_b 3 6 p3).bind fun v10 => some ((Sight.mk p2 (w64 (v5 - v6)) (w64 (v7 + v8)) (mm2 true 0 (w64 (v4.V - v9))) (mm2 false 2000 (w64 (v4.V + v10)))), 0)))

/-- kerbstone/convoy.Look -/
def ac_convoy_Look : AC := (.seq (.reg [oo 3 (.box 38 true (.t 0)), oo 5 (.box 39 false (.t 2)), oo 6 (.alloc 42 [z0, z0, z0, z0, z0]), oo 7 (.mv (ci 0))]) (.seq (.seq (.reg [oo 12 (.load 13 true (.t 3)), oo 13 (.call (cf 32) [(.t 12)]), oo 8 (.mv (.t 13))]) (.seq (.reg [oo 14 (.mv (.t 8)), oo 15 (.bin .neq (.t 14) (ci 0))]) (.cond (.t 15) (.seq (.reg [oo 16 (.build [z0, z0, z0, z0, z0] []), oo 17 (.mv (.t 8)), oe (.store 5 (.t 6) (.t 16)), oo 7 (.mv (.t 17))]) .ret) .skip))) (.seq (.reg [oo 18 (.fieldA 2 (.t 3)), oo 19 (.load 1 false (.t 18)), oo 20 (.mv (.t 1)), oo 21 (.call (cf 64) [(.t 19), (.t 20)]), oo 22 (.bin .sub (.t 21) (ci 1)), oo 9 (.mv (.t 22))]) (.seq (.seq (.reg [oo 23 (.mv (.t 1)), oo 24 (.bin .neq (.t 23) (ci 0)), oo 25 (.mv (.t 24)), og 26 (.mv (.t 1)) 25, og 27 (.fieldA 3 (.t 3)) 25, og 28 (.fieldA 0 (.t 27)) 25, og 29 (.load 1 false (.t 28)) 25, og 30 (.bin .eql (.t 26) (.t 29)) 25, oo 31 (.pick (.t 25) (.t 30) (.c zf))]) (.cond (.t 31) (.reg [oo 33 (.load 13 true (.t 3)), oo 34 (.call (cf 65) [(.t 33)]), oo 32 (.mv (.t 34)), oo 35 (.ext (.t 32) 0), oo 36 (.ext (.t 32) 1), oo 9 (.mv (.t 35))]) .skip)) (.seq (.seq (.reg [oo 37 (.mv (.t 9)), oo 38 (.bin .lss (.t 37) (ci 0))]) (.cond (.t 38) (.seq (.reg [oo 39 (.build [z0, z0, z0, z0, z0] []), oe (.store 5 (.t 6) (.t 39)), oo 7 (.mv (ci 7))]) .ret) .skip)) (.seq (.reg [oo 40 (.mkfn (.func 66) [] [(.t 5)]), oo 10 (.mv (.t 40))]) (.seq (.reg [oo 41 (.fieldA 2 (.t 3)), oo 42 (.load 1 false (.t 41)), oo 43 (.mv (.t 9)), oo 44 (.idxS 12 (.t 42) (.t 43)), oo 45 (.load 12 true (.t 44)), oo 11 (.alloc 65 [z0, z0, z0, z0, z0, z0, z0, zf, z0, z0, z0, z0]), oe (.store 12 (.t 11) (.t 45))]) (.seq (.draw [oo 46 (.mv (.t 1)), oo 47 (.load 12 true (.t 11)), oo 48 (.call (cf 67) [(.t 47)]), oo 49 (.mv (.t 10)), oo 50 (.call (.t 49) [(ci 0), (ci 101)]), oo 51 (.bin .sub (.t 48) (.t 50)), oo 52 (.load 12 true (.t 11)), oo 53 (.call (cf 67) [(.t 52)]), oo 54 (.mv (.t 10)), oo 55 (.call (.t 54) [(ci 1), (ci 101)]), oo 56 (.bin .add (.t 53) (.t 55)), oo 57 (.fieldA 2 (.t 11)), oo 58 (.load 1 false (.t 57)), oo 59 (.mv (.t 10)), oo 60 (.call (.t 59) [(ci 2), (ci 6)]), oo 61 (.bin .sub (.t 58) (.t 60)), oo 62 (.mm true (ci 0) [(.t 61)]), oo 63 (.fieldA 2 (.t 11)), oo 64 (.load 1 false (.t 63)), oo 65 (.mv (.t 10)), oo 66 (.call (.t 65) [(ci 3), (ci 6)]), oo 67 (.bin .add (.t 64) (.t 66)), oo 68 (.mm false (ci 2000) [(.t 67)]), oo 69 (.build [z0, z0, z0, z0, z0] [(0, 1, (.t 46)), (1, 1, (.t 51)), (2, 1, (.t 56)), (3, 1, (.t 62)), (4, 1, (.t 68))]), oe (.store 5 (.t 6) (.t 69)), oo 7 (.mv (ci 0))] []) .ret))))))))
theorem fn_convoy_Look : FnOK Try.prog 27 70 [.cell 6 5 true, .t 7] ac_convoy_Look := ⟨_, _, Try.func27, rfl, Try.ntmps27, by kernel_rfl, ⟨fun _ => [], by kernel_rfl⟩, by kernel_rfl⟩
set_option maxHeartbeats 4000000 in
theorem convoy_Look_ok (p1 : Convoy) (p2 : Int) (p3 : (List Int)) (r : (Sight × Int)) (h : convoy_Look p1 p2 p3 = some r) : PCall Try.prog 27 [(.agg (eConvoy p1)), (i64 p2), (.list (List.map eInt_i64 p3))] (.tup [(.agg (eSight r.1)), (i64 r.2)]) := by
  refine l_call fn_convoy_Look (nl rfl) ?_
  unfold convoy_Look at h
  unfold ac_convoy_Look
  refine l_sub (s0 := ⟨T [(0, (.d _)), (1, (.d _)), (2, (.d _))], G []⟩) (sbr rfl rfl) ?_
  refine lr (fun u1 hu1 => sn rfl rfl (sn rfl rfl (sn rfl rfl (sv rfl (s_nil (l_seq (lr (fun u2 hu2 => sd rfl (v_loadG rfl (gq rfl) rfl rfl) (bs h fun v1 hv1 h => s_call rfl rfl all2_refl (convoy_Check_ok _  _ hv1) (.inl rfl) (sv rfl (s_nil (lr (fun u3 hu3 => sv rfl (sv rfl (s_nil (cc rfl h (fun c1 h => ?_) (fun c1 h => ?_)))))))))))))))))
  · refine lr (fun u4 hu4 => sv rfl (sv rfl (sst rfl G_hit [(di 0), (di 0), (di 0), (di 0), (di 0)] rfl (sv rfl (s_nil (l_ret ?_))))))
    obtain rfl := Option.some.inj h
    exact fin_ok (.inr rfl) (resD2 (res_cellG rfl G_hit (nl rfl) rfl) (res_t rfl) rf_d rf_d) (.refl _)
  · refine l_skip (lr (fun u5 hu5 => sp rfl rfl (sl rfl (gq rfl) rfl (sv rfl (bs h fun v2 hv2 h => s_call rfl rfl all2_refl (convoy_find_ok _ _  _ hv2) (.inl rfl) (sv rfl (sv rfl (s_nil (l_seq (lr (fun u6 hu6 => sv rfl (sv rfl (sv rfl (gt rfl (fun _ => rfl) (gp rfl (gw_t rfl) (fun _ => rfl) ?_)))))))))))))))
    refine g_val _ (.ptr _ _) rfl (gw_t rfl) (fun w3 => (by simp only [gd_pos w3]; rfl)) ?_
    refine gt rfl (vl rfl (gq rfl) rfl) (gt rfl (fun w5 => (v_bin (gd_pos w5) (gd_pos w5) rfl)) (sa rfl rfl rfl (s_nil (bs h fun y1 hy1 h => l_join (fun s => ∃ g1 : Unit, Sb ⟨T [(1, (di p2)), (3, (.ptr (3, u1) 0)), (5, (.ptr (5, u1) 0)), (6, (.ptr (6, u1) 0)), (9, (di y1))], G [((3, u1), some (.box 38 (dConvoy p1))), ((5, u1), some (.box 39 [(dl eInt_i64 p3)])), ((6, u1), some (.box 42 [(di 0), (di 0), (di 0), (di 0), (di 0)]))]⟩ s) ?_ ?_))))
    · refine cc rfl hy1 (fun c2 hy1 => ?_) (fun c2 hy1 => ?_)
      · refine l_sub (s0 := ⟨T [(1, (.d _)), (3, (.ptr _ _)), (5, (.ptr _ _)), (6, (.ptr _ _))], G [((3, u1), some (.box 38 _)), ((5, u1), some (.box 39 _)), ((6, u1), some (.box 42 _))]⟩) (sbr rfl rfl) ?_
        refine l_reg fun u7 hu7 => sd rfl (v_loadG rfl G_hit rfl rfl) (bs hy1 fun v3 hv3 hy1 => s_call rfl rfl all2_refl (convoy_beside_ok _  _ hv3) (.inl rfl) (sv rfl (sv rfl (sv rfl (sv rfl (s_nil ?_))))))
        obtain rfl := Option.some.inj hy1
        exact l_j ⟨(), (sbr rfl rfl)⟩
      · refine l_skip ?_
        obtain rfl := Option.some.inj hy1
        exact l_j ⟨(), (sbr rfl rfl)⟩
    · rintro _ ⟨g1, q1⟩
      refine l_sub q1 (l_seq (lr (fun u8 hu8 => sv rfl (sv rfl (s_nil (cc rfl h (fun c3 h => ?_) (fun c3 h => ?_)))))))
      · refine lr (fun u9 hu9 => sv rfl (sst rfl (gq rfl) [(di 0), (di 0), (di 0), (di 0), (di 0)] rfl (sv rfl (s_nil (l_ret ?_)))))
        obtain rfl := Option.some.inj h
        exact fin_ok (.inr rfl) (resD2 (res_cellG rfl G_hit (nl rfl) rfl) (res_t rfl) rf_d rf_d) (.refl _)
      · refine l_skip (lr (fun u10 hu10 => s_val (.fn _ _ _) rfl rfl (s_val (.fn _ _ _) rfl rfl (s_nil (lr (fun u11 hu11 => sp rfl rfl (sl rfl G_hit rfl (sv rfl (bs h fun v4 hv4 h => sd rfl (v_idx rfl rfl hv4 rfl) (sd rfl (v_loadLG rfl hv4 rfl rfl) (sn rfl rfl (sst rfl G_hit (dMate v4) rfl (s_nil (l_seq (l_draw rfl fun u12 hu12 => sv rfl (sd rfl (v_loadG rfl G_hit rfl rfl) (bs h fun v5 hv5 h => s_call rfl rfl all2_refl (convoy_rear_ok _  _ hv5) (.inl rfl) (s_val (.fn _ _ _) rfl rfl (bs h fun v6 hv6 h => s_call rfl (rfL_cons rf_d (rfL_cons rf_d (rfL_cons (rf_ptr (gq rfl) (rfL_cons rf_d rfL_nil)) rfL_nil))) all2_refl (convoy_Look_1_b_ok _ _ _  _ hv6) (.inr rfl) (sv rfl (sd rfl (v_loadG rfl G_hit rfl rfl) (bs h fun v7 hv7 h => s_call rfl rfl all2_refl (convoy_rear_ok _  _ hv7) (.inl rfl) (s_val (.fn _ _ _) rfl rfl (bs h fun v8 hv8 h => s_call rfl (rfL_cons rf_d (rfL_cons rf_d (rfL_cons (rf_ptr (gq rfl) (rfL_cons rf_d rfL_nil)) rfL_nil))) all2_refl (convoy_Look_1_b_ok _ _ _  _ hv8) (.inr rfl) (sv rfl (sp rfl rfl (sl rfl G_hit rfl (s_val (.fn _ _ _) rfl rfl (bs h fun v9 hv9 h => s_call rfl (rfL_cons rf_d (rfL_cons rf_d (rfL_cons (rf_ptr (gq rfl) (rfL_cons rf_d rfL_nil)) rfL_nil))) all2_refl (convoy_Look_1_b_ok _ _ _  _ hv9) (.inr rfl) (sv rfl (sv rfl (sp rfl rfl (sl rfl G_hit rfl (s_val (.fn _ _ _) rfl rfl (bs h fun v10 hv10 h => s_call rfl (rfL_cons rf_d (rfL_cons rf_d (rfL_cons (rf_ptr (gq rfl) (rfL_cons rf_d rfL_nil)) rfL_nil))) all2_refl (convoy_Look_1_b_ok _ _ _  _ hv10) (.inr rfl) (sv rfl (sv rfl (sv rfl (sst rfl (gq rfl) [(di p2), (di (w64 (v5 - v6))), (di (w64 (v7 + v8))), (di (mm2 true 0 (w64 (v4.V - v9)))), (di (mm2 false 2000 (w64 (v4.V + v10))))] rfl (sv rfl (s_nil (l_ret ?_))))))))))))))))))))))))))))))))))))))))))
        obtain rfl := Option.some.inj h
        exact fin_ok (.inr rfl) (resD2 (res_cellG rfl G_hit (nl rfl) rfl) (res_t rfl) rf_d rf_d) (.refl _)

noncomputable def law09_looks_o_l2 (p2 : Convoy) (p3 : Bool) (y1 : (List Int)) (x2 : ((List Sight) × Int × KitRing)) : Option (Stp ((List Sight) × Int × KitRing) ((List Sight) × KitRing)) :=
  cond (decide (x2.2.1 < (y1.length : Int))) ((geti y1 x2.2.1).bind fun v3 => (kit_Ring_Next_o x2.2.2 101).bind fun v4 => (kit_Ring_Next_o v4.2 101).bind fun v5 => (kit_Ring_Next_o v5.2 6).bind fun v6 => (kit_Ring_Next_o v6.2 6).bind fun v7 => (convoy_Look p2 v3 [v4.1, v5.1, v6.1, v7.1]).bind fun v8 => ((cond ((v8.2 == 0) && (!p3)) (kit_Ring_Next_o v7.2 2) (some default))).bind fun v9 => cond ((v8.2 == 0) && (p3 || (v9.1 == 0))) ((appc x2.1 [v8.1]).bind fun v10 => some (.go (v10, (w64 (x2.2.1 + 1)), (KitRing.mk ((cond ((v8.2 == 0) && (!p3)) v9.2 v7.2).l) ((cond ((v8.2 == 0) && (!p3)) v9.2 v7.2).at_))))) (some (.go (x2.1, (w64 (x2.2.1 + 1)), (KitRing.mk ((cond ((v8.2 == 0) && (!p3)) v9.2 v7.2).l) ((cond ((v8.2 == 0) && (!p3)) v9.2 v7.2).at_)))))) (some (.out (x2.1, x2.2.2)))
noncomputable def law09_looks_o_l1 (p2 : Convoy) (x1 : ((List Int) × Int)) : Option (Stp ((List Int) × Int) (List Int)) :=
  cond (decide (x1.2 < (p2.Mates.length : Int))) ((geti p2.Mates x1.2).bind fun v1 => (appc x1.1 [v1.ID]).bind fun v2 => some (.go (v2, (w64 (x1.2 + 1))))) (some (.out x1.1))
noncomputable def law09_looks_o (p1 : KitRing) (p2 : Convoy) (p3 : Bool) : Option ((List Sight) × KitRing) :=
  (loop (law09_looks_o_l1 p2) ([p2.Guest_.ID], 0)).bind fun y1 => (loop (law09_looks_o_l2 p2 p3 y1) ([], 0, p1)).bind fun y2 => some (y2.1, y2.2)

/-- kerbstone/kerbstonelaw09.looks -/
def ac_law09_looks_o : AC := (.seq (.reg [oo 4 (.box 38 true (.t 1)), oo 6 (.mv (.c .nilS))]) (.seq (.reg [oo 13 (.fieldA 3 (.t 4)), oo 14 (.fieldA 0 (.t 13)), oo 15 (.load 1 false (.t 14)), oo 16 (.bslice 3 1 1 [z0] [(0, 1, (.t 15))]), oo 7 (.mv (.t 16))]) (.seq (.seq (.reg [oo 8 (.mv (ci 0))]) (.block 0 (.loop (.seq (.seq (.reg [oo 17 (.mv (.t 8)), oo 18 (.fieldA 2 (.t 4)), oo 19 (.load 1 false (.t 18)), oo 20 (.len (.t 19)), oo 21 (.bin .lss (.t 17) (.t 20))]) (.cond (.t 21) .skip (.exit 0))) (.seq (.block 1 (.reg [oo 24 (.mv (.t 7)), oo 25 (.fieldA 2 (.t 4)), oo 26 (.load 1 false (.t 25)), oo 27 (.mv (.t 8)), oo 28 (.idxS 12 (.t 26) (.t 27)), oo 29 (.fieldA 0 (.t 28)), oo 30 (.load 1 false (.t 29)), oo 31 (.dslice 3 1 1 [z0] [(0, 1, (.t 30))]), oo 32 (.append 40 3 1 (.t 24) (.t 31)), oo 7 (.mv (.t 32))])) (.reg [oo 22 (.mv (.t 8)), oo 23 (.bin .add (.t 22) (ci 1)), oo 8 (.mv (.t 23))])))))) (.seq (.reg [oo 9 (.mv (.c .nilS))]) (.seq (.seq (.reg [oo 10 (.mv (ci 0))]) (.block 2 (.loop (.seq (.seq (.reg [oo 33 (.mv (.t 10)), oo 34 (.mv (.t 7)), oo 35 (.len (.t 34)), oo 36 (.bin .lss (.t 33) (.t 35))]) (.cond (.t 36) .skip (.exit 2))) (.seq (.block 3 (.seq (.draw [oo 40 (.load 13 true (.t 4)), oo 41 (.mv (.t 7)), oo 42 (.mv (.t 10)), oo 43 (.idxS 1 (.t 41) (.t 42)), oo 44 (.load 1 false (.t 43)), oo 45 (.mv (.t 0)), oo 46 (.ocall 10100060 (cf 49) [(.t 45), (ci 101)]), oo 47 (.mv (.t 0)), oo 48 (.ocall 10100080 (cf 49) [(.t 47), (ci 101)]), oo 49 (.mv (.t 0)), oo 50 (.ocall 10100100 (cf 49) [(.t 49), (ci 6)]), oo 51 (.mv (.t 0)), oo 52 (.ocall 10100120 (cf 49) [(.t 51), (ci 6)]), oo 53 (.dslice 2 1 4 [z0] [(0, 1, (.t 46)), (1, 1, (.t 48)), (2, 1, (.t 50)), (3, 1, (.t 52))]), oo 54 (.call (cf 27) [(.t 40), (.t 44), (.t 53)]), oo 39 (.mv (.t 54)), oo 55 (.ext (.t 39) 0), oo 56 (.ext (.t 39) 1), oo 11 (.alloc 42 [z0, z0, z0, z0, z0]), oe (.store 5 (.t 11) (.t 55)), oo 12 (.mv (.t 56))] [(0, 6), (3, 6), (4, 6), (0, 8), (3, 8), (4, 8), (0, 10), (3, 10), (4, 10), (0, 12), (3, 12), (4, 12), (6, 18), (8, 18), (10, 18), (12, 18)]) (.seq (.reg [oo 57 (.mv (.t 12)), oo 58 (.bin .eql (.t 57) (ci 0)), oo 59 (.mv (.t 58)), og 60 (.mv (.t 2)) 59, og 61 (.mv (.t 60)) 59, oh 62 (.mv (.t 0)) 61, oh 63 (.ocall 10110060 (cf 49) [(.t 62), (ci 2)]) 61, oh 64 (.bin .eql (.t 63) (ci 0)) 61, og 65 (.pick (.t 61) (.c (.v (.bool true))) (.t 64)) 59, oo 66 (.pick (.t 59) (.t 65) (.c zf))]) (.cond (.t 66) (.reg [oo 67 (.mv (.t 9)), oo 68 (.load 5 true (.t 11)), oo 69 (.dslice 42 5 1 [z0, z0, z0, z0, z0] [(0, 5, (.t 68))]), oo 70 (.append 72 42 5 (.t 67) (.t 69)), oo 9 (.mv (.t 70))]) .skip)))) (.reg [oo 37 (.mv (.t 10)), oo 38 (.bin .add (.t 37) (ci 1)), oo 10 (.mv (.t 38))])))))) (.seq (.reg [oo 71 (.mv (.t 9)), oo 6 (.mv (.t 71))]) .ret))))))
theorem fn_law09_looks_o : FnOK Try.prog 52 72 [.t 6] ac_law09_looks_o := ⟨_, _, Try.func52, rfl, Try.ntmps52, by kernel_rfl, ⟨fun r => if r == 5 then [1007] else if r == 10 then [1010006, 1010008, 1010010, 1010012, 1013] else if r == 11 then [1011006] else if r == 12 then [1002] else [], by kernel_rfl⟩, by kernel_rfl⟩
set_option maxHeartbeats 4000000 in
theorem law09_looks_o_ok (p1 : KitRing) (p2 : Convoy) (p3 : Bool) (r : ((List Sight) × KitRing)) (h : law09_looks_o p1 p2 p3 = some r) : MCall Try.prog 52 [(.ptr (900000, 0) 0), (.d (.agg (eConvoy p2))), (.d (bo p3))] [(.box 94 [(dl eInt_i64 p1.l), (di p1.at_)])] (dl eSight r.1) [some (.box 94 [(dl eInt_i64 r.2.l), (di r.2.at_)])] [] := by
  refine m_callF fn_law09_looks_o rfl (nl rfl) ?_
  unfold law09_looks_o at h
  unfold ac_law09_looks_o
  refine l_sub (s0 := ⟨T [(0, (.ptr _ _)), (1, (.d _)), (2, (.d _))], G [((900000, 0), some (.box 94 _))]⟩) (sbr rfl rfl) ?_
  refine lr (fun u1 hu1 => sn rfl rfl (sv rfl (s_nil (lr (fun u2 hu2 => sp rfl rfl (sp rfl rfl (sl rfl G_hit rfl (s_new (.sl _) (.arr 3 1 (List.map eInt_i64 ([p2.Guest_.ID] : List Int))) rfl rfl (ss rfl (s_nil (l_seq (lr (fun u3 hu3 => sv rfl (s_nil (bs h fun y1 hy1 h => l_join (fun s => ∃ g1 : ({d : Nat // d ∈ [16, 32]} × Nat), Sb ⟨T [(0, (.ptr (900000, 0) 0)), (2, (.d (bo p3))), (4, (.ptr (4, u1) 0)), (7, (oS y1 (g1.1.val, g1.2)))], G [((900000, 0), some (.box 94 [(dl eInt_i64 p1.l), (di p1.at_)])), ((4, u1), some (.box 38 (dConvoy p2))), ((g1.1.val, g1.2), oB 3 1 eInt_i64 y1)]⟩ s) ?_ ?_)))))))))))))))
  · refine l_block (l_loop (law09_looks_o_l1 p2) (fun (x1 : ((List Int) × Int)) (g2 : ({d : Nat // d ∈ [16, 32]} × Nat)) => ⟨T [(0, (.ptr (900000, 0) 0)), (2, (.d (bo p3))), (4, (.ptr (4, u1) 0)), (7, (oS x1.1 (g2.1.val, g2.2))), (8, (di x1.2))], G [((900000, 0), some (.box 94 [(dl eInt_i64 p1.l), (di p1.at_)])), ((4, u1), some (.box 38 (dConvoy p2))), ((g2.1.val, g2.2), oB 3 1 eInt_i64 x1.1)]⟩) ([p2.Guest_.ID], 0) (⟨16, .head _⟩, u2) _ hy1 (sb_of ⟨.of rfl, .of rfl, .of rfl, (.of (oS_ne (List.cons_ne_nil _ _)).symm), .of rfl, trivial⟩ (sbG_some (gq rfl) (.of rfl) (sbG_some (gq rfl) (.of rfl) (sbG_own G_hit trivial)))) ?_)
    intro x1 g2 z1 hz1 ez1
    unfold law09_looks_o_l1 at hz1
    refine l_seq (lr (fun u4 hu4 => sv rfl (sp rfl rfl (sl rfl (gq rfl) rfl (sd rfl (v_len rfl) (sv rfl (s_nil (cc rfl hz1 (fun c1 hz1 => ?_) (fun c1 hz1 => ?_)))))))))
    · refine l_skip (l_seq (l_block (l_reg fun u5 hu5 => s_val (oS x1.1 (g2.1.val, g2.2)) rfl rfl (sp rfl rfl (sl rfl (gq rfl) rfl (sv rfl (bs hz1 fun v1 hv1 hz1 => sd rfl (v_idx rfl rfl hv1 rfl) (sv rfl (sd rfl (v_loadL rfl hv1 rfl) (s_val (dl eInt_i64 [v1.ID]) rfl rfl (bs hz1 fun v2 hv2 hz1 => s_appendO eInt_i64 (g2.1.val, g2.2) x1.1 v1.ID [] _ (elems_list (fun _ => rfl)) rfl (G_skip (neL g2.1.property rfl) (G_skip (neL g2.1.property rfl) G_hit)) hv2 (ss rfl (s_nil (l_end (l_sub (s0 := ⟨T [(0, (.ptr (900000, 0) 0)), (2, (.d (bo p3))), (4, (.ptr (4, u1) 0)), (7, (.sl (32, u5))), (8, (di x1.2))], G [((900000, 0), some (.box 94 [(dl eInt_i64 p1.l), (di p1.at_)])), ((4, u1), some (.box 38 (dConvoy p2))), ((32, u5), some (.arr 3 1 (List.map eInt_i64 v2)))]⟩) (sb_of ⟨.of rfl, .of rfl, .of rfl, .of rfl, .of rfl, trivial⟩ (sbG_some (G_skip rfl (G_skip (neR g2.1.property rfl) G_hit)) (.of rfl) (sbG_some (G_skip rfl (G_skip (neR g2.1.property rfl) (gq rfl))) (.of rfl) (sbG_some G_hit (.of rfl) trivial)))) ?_)))))))))))))))
      refine l_reg fun u6 hu6 => sv rfl (sv rfl (sv rfl (s_nil (l_nil ?_))))
      obtain rfl := Option.some.inj hz1
      exact ⟨rfl, (⟨32, .tail _ (.head _)⟩, u5), (sb_of ⟨.of rfl, .of rfl, .of rfl, (.of (oS_ne (appc_ne hv2)).symm), .of rfl, trivial⟩ (sbG_some G_hit (.of rfl) (sbG_some (gq rfl) (.of rfl) (sbG_own (gq rfl) trivial))))⟩
    · refine l_exitN rfl ?_
      obtain rfl := Option.some.inj hz1
      obtain rfl := ez1 _ rfl
      refine ⟨nofun, awl_pop rfl (l_j ?_)⟩
      exact ⟨(g2.1, g2.2), (sb_of ⟨.of rfl, .of rfl, .of rfl, .of rfl, trivial⟩ (sbG_some G_hit (.of rfl) (sbG_some (gq rfl) (.of rfl) (sbG_oB (G_skip (neL g2.1.property rfl) (G_skip (neL g2.1.property rfl) G_hit)) trivial))))⟩
  · rintro _ ⟨g1, q1⟩
    refine l_sub q1 (lr (fun u7 hu7 => sv rfl (s_nil (l_seq (lr (fun u8 hu8 => sv rfl (s_nil (bs h fun y2 hy2 h => l_join (fun s => ∃ g3 : Nat, Sb ⟨T [(0, (.ptr (900000, 0) 0)), (9, (oS y2.1 (70, g3)))], G [((900000, 0), some (.box 94 [(dl eInt_i64 y2.2.l), (di y2.2.at_)])), ((70, g3), oB 42 5 eSight y2.1)]⟩ s) ?_ ?_))))))))
    · refine l_block (l_loop (law09_looks_o_l2 p2 p3 y1) (fun (x2 : ((List Sight) × Int × KitRing)) (g4 : Nat) => ⟨T [(0, (.ptr (900000, 0) 0)), (2, (.d (bo p3))), (4, (.ptr (4, u1) 0)), (7, (oS y1 (g1.1.val, g1.2))), (9, (oS x2.1 (70, g4))), (10, (di x2.2.1))], G [((900000, 0), some (.box 94 [(dl eInt_i64 x2.2.2.l), (di x2.2.2.at_)])), ((4, u1), some (.box 38 (dConvoy p2))), ((g1.1.val, g1.2), oB 3 1 eInt_i64 y1), ((70, g4), oB 42 5 eSight x2.1)]⟩) ([], 0, p1) 0 _ hy2 (sb_of ⟨.of rfl, .of rfl, .of rfl, .of rfl, .of rfl, .of rfl, trivial⟩ (sbG_some G_hit (.of rfl) (sbG_some (gq rfl) (.of rfl) (sbG_oB (G_skip (neL g1.1.property rfl) (G_skip (neL g1.1.property rfl) G_hit)) (sbG_nil trivial))))) ?_)
      intro x2 g4 z2 hz2 ez2
      unfold law09_looks_o_l2 at hz2
      refine l_seq (lr (fun u9 hu9 => sv rfl (s_val (oS y1 (g1.1.val, g1.2)) rfl rfl (sd rfl (v_lenO (f := eInt_i64) rfl (G_skip (neL g1.1.property rfl) (G_skip (neL g1.1.property rfl) G_hit))) (sv rfl (s_nil (cc rfl hz2 (fun c2 hz2 => ?_) (fun c2 hz2 => ?_))))))))
      · refine l_skip (l_seq (l_block (l_seq (l_drawT fun u10 hu10 => t_val (.d _) rfl (v_loadG rfl (gq rfl) rfl rfl) (t_val (oS y1 (g1.1.val, g1.2)) rfl rfl (t_val (.d _) rfl rfl (bs hz2 fun v3 hv3 hz2 => t_val (.aptr _ _ _ _) rfl (v_idxO rfl rfl (G_skip (neL g1.1.property rfl) (G_skip (neL g1.1.property rfl) G_hit)) hv3) (t_val (.d _) rfl (v_loadA rfl (look_oB (G_skip (neL g1.1.property rfl) (G_skip (neL g1.1.property rfl) G_hit)) (geti_ne hv3)) hv3 rfl) (t_val (.ptr _ _) rfl rfl (bs hz2 fun v4 hv4 hz2 => t_oc (v := .d (i64 v4.1)) (us := [(900000, 0)]) (oc_m (kit_Ring_Next_o_ok _ _ _ hv4) [(900000, 0)] [(900000, 0)] _ (((900000, 0), some (.box 94 [(dl eInt_i64 v4.2.l), (di v4.2.at_)])) :: _) rfl all2_av (kl_cons (kr_ptr G_hit rfl) (kl_cons kr_d kl_nil)) (live_cons G_hit live_nil) ⟨⟨_, G_hit, .of rfl⟩, trivial⟩ (fun _ h => h) nd1 rfl rfl rfl) (t_val (.ptr _ _) rfl rfl (bs hz2 fun v5 hv5 hz2 => t_oc (v := .d (i64 v5.1)) (us := [(900000, 0)]) (oc_m (kit_Ring_Next_o_ok _ _ _ hv5) [(900000, 0)] [(900000, 0)] _ (((900000, 0), some (.box 94 [(dl eInt_i64 v5.2.l), (di v5.2.at_)])) :: _) rfl all2_av (kl_cons (kr_ptr G_hit rfl) (kl_cons kr_d kl_nil)) (live_cons G_hit live_nil) ⟨⟨_, G_hit, .of rfl⟩, trivial⟩ (fun _ h => h) nd1 rfl rfl rfl) (t_val (.ptr _ _) rfl rfl (bs hz2 fun v6 hv6 hz2 => t_oc (v := .d (i64 v6.1)) (us := [(900000, 0)]) (oc_m (kit_Ring_Next_o_ok _ _ _ hv6) [(900000, 0)] [(900000, 0)] _ (((900000, 0), some (.box 94 [(dl eInt_i64 v6.2.l), (di v6.2.at_)])) :: _) rfl all2_av (kl_cons (kr_ptr G_hit rfl) (kl_cons kr_d kl_nil)) (live_cons G_hit live_nil) ⟨⟨_, G_hit, .of rfl⟩, trivial⟩ (fun _ h => h) nd1 rfl rfl rfl) (t_val (.ptr _ _) rfl rfl (bs hz2 fun v7 hv7 hz2 => t_oc (v := .d (i64 v7.1)) (us := [(900000, 0)]) (oc_m (kit_Ring_Next_o_ok _ _ _ hv7) [(900000, 0)] [(900000, 0)] _ (((900000, 0), some (.box 94 [(dl eInt_i64 v7.2.l), (di v7.2.at_)])) :: _) rfl all2_av (kl_cons (kr_ptr G_hit rfl) (kl_cons kr_d kl_nil)) (live_cons G_hit live_nil) ⟨⟨_, G_hit, .of rfl⟩, trivial⟩ (fun _ h => h) nd1 rfl rfl rfl) (t_val (dl eInt_i64 [v4.1, v5.1, v6.1, v7.1]) rfl rfl (bs hz2 fun v8 hv8 hz2 => t_call rfl rfl all2_refl (convoy_Look_ok _ _ _  _ hv8) (.inl rfl) (t_val (.d _) rfl rfl (t_val (.d _) rfl rfl (t_val (.d _) rfl rfl (t_new (.ptr _ _) (.box _ _) rfl rfl (t_store _ _ _ _ _ rfl rfl rfl G_hit (nl rfl) (dSight v8.1) rfl (t_val (.d _) rfl rfl (t_nil ⟨by first | rfl | ((generalize g1.1 = q0; rcases q0 with ⟨d0, _ | ⟨_, _ | ⟨_, h0⟩⟩⟩) <;> (generalize y1 = z2; cases z2) <;> first | rfl | contradiction), ?_⟩)))))))))))))))))))))))))
        refine l_seq (l_sub (s0 := ⟨T [(0, (.ptr (900000, 0) 0)), (2, (.d (bo p3))), (4, (.ptr (4, u1) 0)), (7, (oS y1 (g1.1.val, g1.2))), (9, (oS x2.1 (70, g4))), (10, (di x2.2.1)), (11, (.ptr (11, u10) 0)), (12, (di v8.2))], G [((900000, 0), some (.box 94 [(dl eInt_i64 v7.2.l), (di v7.2.at_)])), ((4, u1), some (.box 38 (dConvoy p2))), ((g1.1.val, g1.2), oB 3 1 eInt_i64 y1), ((70, g4), oB 42 5 eSight x2.1), ((11, u10), some (.box 42 (dSight v8.1)))]⟩) (sb_of ⟨.of rfl, .of rfl, .of rfl, .of rfl, .of rfl, .of rfl, .of rfl, .of rfl, trivial⟩ (sbG_some (gq rfl) (.of rfl) (sbG_some (gq rfl) (.of rfl) (sbG_oB (G_skip (neL g1.1.property rfl) (G_skip (neL g1.1.property rfl) (G_skip (neL g1.1.property rfl) (G_skip (neL g1.1.property rfl) (G_skip (neL g1.1.property rfl) (G_skip (neL g1.1.property rfl) (G_skip (neL g1.1.property rfl) (G_skip (neL g1.1.property rfl) G_hit)))))))) (sbG_oB (G_skip rfl (G_skip rfl (G_skip rfl (G_skip rfl (G_skip rfl (G_skip rfl (G_skip rfl (G_skip rfl (G_skip (neR g1.1.property rfl) G_hit))))))))) (sbG_some G_hit (.of rfl) trivial)))))) ?_)
        refine l_reg fun u11 hu11 => sv rfl (sv rfl (sv rfl (gt rfl (fun _ => rfl) (gt rfl (fun w2 => (v_mv (gd_pos w2))) (g_val _ (.ptr _ _) rfl (gw_gf rfl) (fun _ => rfl) (bs hz2 fun v9 hv9 hz2 => ?_))))))
        refine g_oc ((v8.2 == 0) && (!p3)) (v := .d (i64 v9.1)) (us := [(900000, 0)]) (g' := (((900000, 0), some (.box 94 [(dl eInt_i64 ((cond ((v8.2 == 0) && (!p3)) v9.2 v7.2).l)), (di ((cond ((v8.2 == 0) && (!p3)) v9.2 v7.2).at_))])) :: _)) (gw_gf rfl) (fun w4 => oc_m (avs := [(.ptr (900000, 0) 0), (di 2)]) (kit_Ring_Next_o_ok _ _ _ (cond_t w4 hv9)) [(900000, 0)] [(900000, 0)] _ (((900000, 0), some (.box 94 [(dl eInt_i64 v9.2.l), (di v9.2.at_)])) :: _) (by simp only [gd_pos w4]; rfl) all2_av (kl_cons (kr_ptr G_hit rfl) (kl_cons kr_d kl_nil)) (live_cons G_hit live_nil) ⟨⟨_, G_hit, .of rfl⟩, trivial⟩ (fun _ h => h) nd1 rfl rfl rfl) (fun w4 => by rw [w4]; rfl) (fun w4 => by rw [w4]; exact (G_put G_hit)) ?_
        refine gv rfl (gw_gf rfl) (vb rfl rfl rfl) (gt rfl (fun w6 => (v_or (gd_pos w6) rfl (fun hc => gd_pos (and_i w6 (not_t hc))))) (sa rfl rfl rfl (s_nil (cc rfl hz2 (fun c3 hz2 => ?_) (fun c3 hz2 => ?_)))))
        · refine l_sub (s0 := ⟨T [(0, (.ptr (900000, 0) 0)), (2, (.d (bo p3))), (4, (.ptr (4, u1) 0)), (7, (oS y1 (g1.1.val, g1.2))), (9, (oS x2.1 (70, g4))), (10, (di x2.2.1)), (11, (.ptr (11, u10) 0))], G [((900000, 0), some (.box 94 [(dl eInt_i64 ((cond ((v8.2 == 0) && (!p3)) v9.2 v7.2).l)), (di ((cond ((v8.2 == 0) && (!p3)) v9.2 v7.2).at_))])), ((4, u1), some (.box 38 (dConvoy p2))), ((g1.1.val, g1.2), oB 3 1 eInt_i64 y1), ((70, g4), oB 42 5 eSight x2.1), ((11, u10), some (.box 42 (dSight v8.1)))]⟩) (sb_of ⟨.of rfl, .of rfl, .of rfl, .of rfl, .of rfl, .of rfl, .of rfl, trivial⟩ (sbG_some G_hit (.of rfl) (sbG_some (gq rfl) (.of rfl) (sbG_oB (G_skip (neL g1.1.property rfl) (G_skip (neL g1.1.property rfl) (G_skip (neL g1.1.property rfl) G_hit))) (sbG_oB (G_skip rfl (G_skip rfl (G_skip rfl (G_skip (neR g1.1.property rfl) G_hit)))) (sbG_some (G_skip rfl (G_skip rfl (G_skip rfl (G_skip (neR g1.1.property rfl) (gq rfl))))) (.of rfl) trivial)))))) ?_
          refine l_reg fun u12 hu12 => s_val (oS x2.1 (70, g4)) rfl rfl (sd rfl (v_loadG rfl (G_skip rfl (G_skip rfl (G_skip (neR g1.1.property rfl) (gq rfl)))) rfl rfl) (s_val (dl eSight [v8.1]) rfl rfl (bs hz2 fun v10 hv10 hz2 => s_appendO eSight (70, g4) x2.1 v8.1 [] _ (elems_list (fun _ => rfl)) rfl (G_skip rfl (G_skip rfl (G_skip (neR g1.1.property rfl) G_hit))) hv10 (ss rfl (s_nil (l_end (l_reg fun u13 hu13 => sv rfl (sv rfl (sv rfl (s_nil (l_nil ?_)))))))))))
          obtain rfl := Option.some.inj hz2
          exact ⟨rfl, u12, (sb_of ⟨.of rfl, .of rfl, .of rfl, .of rfl, (.of (oS_ne (appc_ne hv10)).symm), .of rfl, trivial⟩ (sbG_some (gq rfl) (.of rfl) (sbG_some (gq rfl) (.of rfl) (sbG_oB (G_skip (neL g1.1.property rfl) (G_skip (neL g1.1.property rfl) (G_skip (neL g1.1.property rfl) (G_skip (neL g1.1.property rfl) G_hit)))) (sbG_own G_hit trivial)))))⟩
        · refine l_skip (l_end (l_sub (s0 := ⟨T [(0, (.ptr (900000, 0) 0)), (2, (.d (bo p3))), (4, (.ptr (4, u1) 0)), (7, (oS y1 (g1.1.val, g1.2))), (9, (oS x2.1 (70, g4))), (10, (di x2.2.1))], G [((900000, 0), some (.box 94 [(dl eInt_i64 ((cond ((v8.2 == 0) && (!p3)) v9.2 v7.2).l)), (di ((cond ((v8.2 == 0) && (!p3)) v9.2 v7.2).at_))])), ((4, u1), some (.box 38 (dConvoy p2))), ((g1.1.val, g1.2), oB 3 1 eInt_i64 y1), ((70, g4), oB 42 5 eSight x2.1)]⟩) (sb_of ⟨.of rfl, .of rfl, .of rfl, .of rfl, .of rfl, .of rfl, trivial⟩ (sbG_some G_hit (.of rfl) (sbG_some (gq rfl) (.of rfl) (sbG_oB (G_skip (neL g1.1.property rfl) (G_skip (neL g1.1.property rfl) (G_skip (neL g1.1.property rfl) G_hit))) (sbG_oB (G_skip rfl (G_skip rfl (G_skip rfl (G_skip (neR g1.1.property rfl) G_hit)))) trivial))))) ?_))
          refine l_reg fun u14 hu14 => sv rfl (sv rfl (sv rfl (s_nil (l_nil ?_))))
          obtain rfl := Option.some.inj hz2
          exact ⟨rfl, g4, (sb_of ⟨.of rfl, .of rfl, .of rfl, .of rfl, .of rfl, .of rfl, trivial⟩ (sbG_some G_hit (.of rfl) (sbG_some (gq rfl) (.of rfl) (sbG_oB (G_skip (neL g1.1.property rfl) (G_skip (neL g1.1.property rfl) G_hit)) (sbG_oB (G_skip rfl (G_skip rfl (G_skip (neR g1.1.property rfl) G_hit))) trivial)))))⟩
      · refine l_exitN rfl ?_
        obtain rfl := Option.some.inj hz2
        obtain rfl := ez2 _ rfl
        refine ⟨nofun, awl_pop rfl (l_j ?_)⟩
        exact ⟨g4, (sb_of ⟨.of rfl, .of rfl, trivial⟩ (sbG_some G_hit (.of rfl) (sbG_oB (G_skip rfl (G_skip rfl (G_skip (neR g1.1.property rfl) G_hit))) trivial)))⟩
    · rintro _ ⟨g3, q2⟩
      refine l_sub q2 (lr (fun u15 hu15 => s_val (oS y2.1 (70, g3)) rfl rfl (s_val (oS y2.1 (70, g3)) rfl rfl (s_nil (l_ret ?_)))))
      obtain rfl := Option.some.inj h
      exact fin_mf (.inr rfl) [(70, g3)] (resDF1 (res_t rfl) (rf_oS (rs_in (.head _) (gq rfl)))) oD_le ⟨⟨_, _, _, G_hit, (old_notin rfl old_notin_nil), rfl, all2_d, rfl⟩, trivial⟩

noncomputable def convoy_Notes_l1 (p1 : Convoy) (x1 : ((List Note) × Int)) : Option (Stp ((List Note) × Int) (List Note)) :=
  cond (decide (x1.2 < (p1.Mates.length : Int))) ((geti p1.Mates x1.2).bind fun v2 => (convoy_rear v2).bind fun v3 => (appc x1.1 [(Note.mk 1 v2.ID 0 p1.Tick v3 v2.V 0)]).bind fun v4 => (cond (decide ((w64 (x1.2 + 1)) < (p1.Mates.length : Int))) ((geti p1.Mates (w64 (x1.2 + 1))).bind fun v5 => (appc v4 [(Note.mk 4 v2.ID v5.ID p1.Tick v3 v2.V 0)]).bind fun v6 => some (v6, (Note.mk 4 v2.ID v5.ID p1.Tick v3 v2.V 0))) (some (v4, (Note.mk 1 v2.ID 0 p1.Tick v3 v2.V 0)))).bind fun y2 => cond ((v2.Until != 0) && (decide (v2.Until ≥ p1.Tick))) ((appc y2.1 [(Note.mk 3 y2.2.From v2.Ward y2.2.Stamp y2.2.R y2.2.V v2.Until)]).bind fun v7 => some (.go (v7, (w64 (x1.2 + 1))))) (some (.go (y2.1, (w64 (x1.2 + 1)))))) (some (.out x1.1))
noncomputable def convoy_Notes (p1 : Convoy) : Option (List Note) :=
  (convoy_Check p1).bind fun v1 => cond (v1 != 0) (some []) ((loop (convoy_Notes_l1 p1) ([], 0)).bind fun y1 => cond (p1.Guest_.ID != 0) ((convoy_beside p1).bind fun v8 => cond (decide (v8.2 ≥ 0)) ((geti p1.Mates v8.2).bind fun v9 => (appc y1 [(Note.mk 2 p1.Guest_.ID v9.ID p1.Tick (w64 (p1.Guest_.S - p1.Guest_.Len)) p1.Guest_.V 0)]).bind fun v10 => some v10) (some y1)) (some y1))

/-- kerbstone/convoy.Notes -/
def ac_convoy_Notes : AC := (.seq (.reg [oo 1 (.box 38 true (.t 0)), oo 2 (.mv (.c .nilS))]) (.seq (.seq (.reg [oo 10 (.load 13 true (.t 1)), oo 11 (.call (cf 32) [(.t 10)]), oo 12 (.bin .neq (.t 11) (ci 0))]) (.cond (.t 12) (.seq (.reg [oo 2 (.mv (.c .nilS))]) .ret) .skip)) (.seq (.reg [oo 3 (.mv (.c .nilS))]) (.seq (.seq (.reg [oo 13 (.fieldA 2 (.t 1)), oo 14 (.load 1 false (.t 13)), oo 15 (.len (.t 14)), oo 16 (.mv (ci 0))]) (.block 0 (.loop (.seq (.reg [oo 17 (.bin .lss (.t 16) (.t 15))]) (.seq (.cond (.t 17) .skip (.exit 0)) (.seq (.block 1 (.seq (.reg [oo 18 (.mv (.t 16)), oo 19 (.idxS 12 (.t 14) (.t 16)), oo 20 (.load 12 true (.t 19)), oo 5 (.alloc 65 [z0, z0, z0, z0, z0, z0, z0, zf, z0, z0, z0, z0]), oo 4 (.mv (.t 18)), oe (.store 12 (.t 5) (.t 20))]) (.seq (.draw [oo 21 (.fieldA 0 (.t 5)), oo 22 (.load 1 false (.t 21)), oo 23 (.fieldA 0 (.t 1)), oo 24 (.load 1 false (.t 23)), oo 25 (.load 12 true (.t 5)), oo 26 (.call (cf 67) [(.t 25)]), oo 27 (.fieldA 2 (.t 5)), oo 28 (.load 1 false (.t 27)), oo 29 (.build [z0, z0, z0, z0, z0, z0, z0] [(0, 1, (ci 1)), (1, 1, (.t 22)), (3, 1, (.t 24)), (4, 1, (.t 26)), (5, 1, (.t 28))]), oo 6 (.alloc 68 [z0, z0, z0, z0, z0, z0, z0]), oe (.store 7 (.t 6) (.t 29))] []) (.seq (.reg [oo 30 (.mv (.t 3)), oo 31 (.load 7 true (.t 6)), oo 32 (.dslice 68 7 1 [z0, z0, z0, z0, z0, z0, z0] [(0, 7, (.t 31))]), oo 33 (.append 57 68 7 (.t 30) (.t 32)), oo 3 (.mv (.t 33))]) (.seq (.seq (.reg [oo 34 (.mv (.t 4)), oo 35 (.bin .add (.t 34) (ci 1)), oo 36 (.fieldA 2 (.t 1)), oo 37 (.load 1 false (.t 36)), oo 38 (.len (.t 37)), oo 39 (.bin .lss (.t 35) (.t 38))]) (.cond (.t 39) (.seq (.draw [oo 40 (.fieldA 2 (.t 1)), oo 41 (.load 1 false (.t 40)), oo 42 (.mv (.t 4)), oo 43 (.bin .add (.t 42) (ci 1)), oo 44 (.idxS 12 (.t 41) (.t 43)), oo 45 (.fieldA 0 (.t 44)), oo 46 (.load 1 false (.t 45)), oo 47 (.fieldA 0 (.t 6)), oe (.store 1 (.t 47) (ci 4)), oo 48 (.fieldA 2 (.t 6)), oe (.store 1 (.t 48) (.t 46))] [(1, 8), (4, 8), (6, 8)]) (.reg [oo 49 (.mv (.t 3)), oo 50 (.load 7 true (.t 6)), oo 51 (.dslice 68 7 1 [z0, z0, z0, z0, z0, z0, z0] [(0, 7, (.t 50))]), oo 52 (.append 57 68 7 (.t 49) (.t 51)), oo 3 (.mv (.t 52))])) .skip)) (.seq (.reg [oo 53 (.fieldA 11 (.t 5)), oo 54 (.load 1 false (.t 53)), oo 55 (.bin .neq (.t 54) (ci 0)), oo 56 (.mv (.t 55)), og 57 (.fieldA 11 (.t 5)) 56, og 58 (.load 1 false (.t 57)) 56, og 59 (.fieldA 0 (.t 1)) 56, og 60 (.load 1 false (.t 59)) 56, og 61 (.bin .geq (.t 58) (.t 60)) 56, oo 62 (.pick (.t 56) (.t 61) (.c zf))]) (.cond (.t 62) (.seq (.draw [oo 63 (.fieldA 8 (.t 5)), oo 64 (.load 1 false (.t 63)), oo 65 (.fieldA 11 (.t 5)), oo 66 (.load 1 false (.t 65)), oo 67 (.fieldA 0 (.t 6)), oe (.store 1 (.t 67) (ci 3)), oo 68 (.fieldA 2 (.t 6)), oe (.store 1 (.t 68) (.t 64)), oo 69 (.fieldA 6 (.t 6)), oe (.store 1 (.t 69) (.t 66))] [(1, 5), (3, 5), (3, 7)]) (.reg [oo 70 (.mv (.t 3)), oo 71 (.load 7 true (.t 6)), oo 72 (.dslice 68 7 1 [z0, z0, z0, z0, z0, z0, z0] [(0, 7, (.t 71))]), oo 73 (.append 57 68 7 (.t 70) (.t 72)), oo 3 (.mv (.t 73))])) .skip))))))) (.reg [oo 74 (.bin .add (.t 16) (ci 1)), oo 16 (.mv (.t 74))]))))))) (.seq (.seq (.reg [oo 75 (.fieldA 3 (.t 1)), oo 76 (.load 10 true (.t 75)), oo 7 (.alloc 36 [z0, z0, z0, z0, z0, z0, z0, z0, z0, z0]), oe (.store 10 (.t 7) (.t 76))]) (.seq (.reg [oo 77 (.fieldA 0 (.t 7)), oo 78 (.load 1 false (.t 77)), oo 79 (.bin .neq (.t 78) (ci 0))]) (.cond (.t 79) (.seq (.reg [oo 81 (.load 13 true (.t 1)), oo 82 (.call (cf 65) [(.t 81)]), oo 80 (.mv (.t 82)), oo 83 (.ext (.t 80) 0), oo 84 (.ext (.t 80) 1), oo 8 (.mv (.t 83)), oo 9 (.mv (.t 84))]) (.seq (.reg [oo 85 (.mv (.t 9)), oo 86 (.bin .geq (.t 85) (ci 0))]) (.cond (.t 86) (.draw [oo 87 (.mv (.t 3)), oo 88 (.fieldA 0 (.t 7)), oo 89 (.load 1 false (.t 88)), oo 90 (.fieldA 2 (.t 1)), oo 91 (.load 1 false (.t 90)), oo 92 (.mv (.t 9)), oo 93 (.idxS 12 (.t 91) (.t 92)), oo 94 (.fieldA 0 (.t 93)), oo 95 (.load 1 false (.t 94)), oo 96 (.fieldA 0 (.t 1)), oo 97 (.load 1 false (.t 96)), oo 98 (.fieldA 1 (.t 7)), oo 99 (.load 1 false (.t 98)), oo 100 (.fieldA 3 (.t 7)), oo 101 (.load 1 false (.t 100)), oo 102 (.bin .sub (.t 99) (.t 101)), oo 103 (.fieldA 2 (.t 7)), oo 104 (.load 1 false (.t 103)), oo 105 (.build [z0, z0, z0, z0, z0, z0, z0] [(0, 1, (ci 2)), (1, 1, (.t 89)), (2, 1, (.t 95)), (3, 1, (.t 97)), (4, 1, (.t 102)), (5, 1, (.t 104))]), oo 106 (.dslice 68 7 1 [z0, z0, z0, z0, z0, z0, z0] [(0, 7, (.t 105))]), oo 107 (.append 57 68 7 (.t 87) (.t 106)), oo 3 (.mv (.t 107))] []) .skip))) .skip))) (.seq (.reg [oo 108 (.mv (.t 3)), oo 2 (.mv (.t 108))]) .ret))))))
theorem fn_convoy_Notes : FnOK Try.prog 40 109 [.t 2] ac_convoy_Notes := ⟨_, _, Try.func40, rfl, Try.ntmps40, by kernel_rfl, ⟨fun r => if r == 8 then [1002] else if r == 11 then [1002] else if r == 14 then [1002] else if r == 20 then [1019] else [], by kernel_rfl⟩, by kernel_rfl⟩
set_option maxHeartbeats 4000000 in
theorem convoy_Notes_ok (p1 : Convoy) (r : (List Note)) (h : convoy_Notes p1 = some r) : PCall Try.prog 40 [(.agg (eConvoy p1))] (.list (List.map eNote r)) := by
  refine l_call fn_convoy_Notes (nl rfl) ?_
  unfold convoy_Notes at h
  unfold ac_convoy_Notes
  refine l_sub (s0 := ⟨T [(0, (.d _))], G []⟩) (sbr rfl rfl) ?_
  refine lr (fun u1 hu1 => sn rfl rfl (sv rfl (s_nil (l_seq (lr (fun u2 hu2 => sd rfl (v_loadG rfl G_hit rfl rfl) (bs h fun v1 hv1 h => s_call rfl rfl all2_refl (convoy_Check_ok _  _ hv1) (.inl rfl) (sv rfl (s_nil (cc rfl h (fun c1 h => ?_) (fun c1 h => ?_)))))))))))
  · refine lr (fun u3 hu3 => sv rfl (s_nil (l_ret ?_)))
    obtain rfl := Option.some.inj h
    exact fin_ok (.inr rfl) (resD1 (res_t rfl) rf_d) DLe.nil
  · refine l_skip (lr (fun u4 hu4 => sv rfl (s_nil (l_seq (lr (fun u5 hu5 => sp rfl rfl (sl rfl G_hit rfl (sd rfl (v_len rfl) (sv rfl (s_nil (bs h fun y1 hy1 h => l_join (fun s => ∃ g1 : ({d : Nat // d ∈ [33, 52, 73]} × Nat), Sb ⟨T [(1, (.ptr (1, u1) 0)), (3, (oS y1 (g1.1.val, g1.2)))], G [((1, u1), some (.box 38 (dConvoy p1))), ((g1.1.val, g1.2), oB 68 7 eNote y1)]⟩ s) ?_ ?_)))))))))))
    · refine l_block (l_loop (convoy_Notes_l1 p1) (fun (x1 : ((List Note) × Int)) (g2 : ({d : Nat // d ∈ [33, 52, 73]} × Nat)) => ⟨T [(1, (.ptr (1, u1) 0)), (3, (oS x1.1 (g2.1.val, g2.2))), (14, (dl eMate p1.Mates)), (15, (di (p1.Mates.length : Int))), (16, (di x1.2))], G [((1, u1), some (.box 38 (dConvoy p1))), ((g2.1.val, g2.2), oB 68 7 eNote x1.1)]⟩) ([], 0) (⟨33, .head _⟩, 0) _ hy1 (sb_of ⟨.of rfl, .of rfl, .of rfl, .of rfl, .of rfl, trivial⟩ (sbG_some G_hit (.of rfl) (sbG_nil trivial))) ?_)
      intro x1 g2 z1 hz1 ez1
      unfold convoy_Notes_l1 at hz1
      refine lr (fun u6 hu6 => sv rfl (s_nil (l_seq (cc rfl hz1 (fun c2 hz1 => ?_) (fun c2 hz1 => ?_)))))
      · refine l_skip (l_seq (l_block (lr (fun u7 hu7 => sv rfl (bs hz1 fun v2 hv2 hz1 => sd rfl (v_idx rfl rfl hv2 rfl) (sd rfl (v_loadLG rfl hv2 rfl rfl) (sn rfl rfl (sv rfl (sst rfl G_hit (dMate v2) rfl (s_nil (l_seq (l_draw rfl fun u8 hu8 => sp rfl rfl (sl rfl G_hit rfl (sp rfl rfl (sl rfl (gq rfl) rfl (sd rfl (v_loadG rfl G_hit rfl rfl) (bs hz1 fun v3 hv3 hz1 => s_call rfl rfl all2_refl (convoy_rear_ok _  _ hv3) (.inl rfl) (sp rfl rfl (sl rfl G_hit rfl (sv rfl (sn rfl rfl (sst rfl G_hit [(di 1), (di v2.ID), (di 0), (di p1.Tick), (di v3), (di v2.V), (di 0)] rfl (s_nil (l_seq (l_sub (s0 := ⟨T [(1, (.ptr (1, u1) 0)), (3, (oS x1.1 (g2.1.val, g2.2))), (4, (di x1.2)), (5, (.ptr (5, u7) 0)), (6, (.ptr (6, u8) 0)), (14, (dl eMate p1.Mates)), (15, (di (p1.Mates.length : Int))), (16, (di x1.2))], G [((1, u1), some (.box 38 (dConvoy p1))), ((g2.1.val, g2.2), oB 68 7 eNote x1.1), ((5, u7), some (.box 65 (dMate v2))), ((6, u8), some (.box 68 [(di 1), (di v2.ID), (di 0), (di p1.Tick), (di v3), (di v2.V), (di 0)]))]⟩) (sb_of ⟨.of rfl, .of rfl, .of rfl, .of rfl, .of rfl, .of rfl, .of rfl, .of rfl, trivial⟩ (sbG_some (gq rfl) (.of rfl) (sbG_oB (G_skip (neL g2.1.property rfl) (G_skip (neL g2.1.property rfl) (G_skip (neL g2.1.property rfl) (G_skip (neL g2.1.property rfl) (G_skip (neL g2.1.property rfl) G_hit))))) (sbG_some (gq rfl) (.of rfl) (sbG_some G_hit (.of rfl) trivial))))) ?_)))))))))))))))))))))))))
        refine l_reg fun u9 hu9 => s_val (oS x1.1 (g2.1.val, g2.2)) rfl rfl (sd rfl (v_loadG rfl (G_skip rfl (G_skip (neR g2.1.property rfl) (gq rfl))) rfl rfl) (s_val (dl eNote [(Note.mk 1 v2.ID 0 p1.Tick v3 v2.V 0)]) rfl rfl (bs hz1 fun v4 hv4 hz1 => s_appendO eNote (g2.1.val, g2.2) x1.1 (Note.mk 1 v2.ID 0 p1.Tick v3 v2.V 0) [] _ (elems_list (fun _ => rfl)) rfl (G_skip (neL g2.1.property rfl) G_hit) hv4 (ss rfl (s_nil (l_seq (lr (fun u10 hu10 => sv rfl (sv rfl (sp rfl rfl (sd rfl (v_load rfl (G_skip rfl (G_skip (neR g2.1.property rfl) G_hit)) rfl) (sd rfl (v_len rfl) (sv rfl (s_nil (bs hz1 fun y2 hy2 hz1 => l_join (fun s => ∃ g3 : ({d : Nat // d ∈ [33, 52]} × Nat), Sb ⟨T [(1, (.ptr (1, u1) 0)), (3, (oS y2.1 (g3.1.val, g3.2))), (5, (.ptr (5, u7) 0)), (6, (.ptr (6, u8) 0)), (14, (dl eMate p1.Mates)), (15, (di (p1.Mates.length : Int))), (16, (di x1.2))], G [((1, u1), some (.box 38 (dConvoy p1))), ((5, u7), some (.box 65 (dMate v2))), ((6, u8), some (.box 68 (dNote y2.2))), ((g3.1.val, g3.2), oB 68 7 eNote y2.1)]⟩ s) ?_ ?_)))))))))))))))
        · refine cc rfl hy2 (fun c3 hy2 => ?_) (fun c3 hy2 => ?_)
          · refine l_seq (l_sub (s0 := ⟨T [(1, (.ptr (1, u1) 0)), (3, (.sl (33, u9))), (4, (di x1.2)), (5, (.ptr (5, u7) 0)), (6, (.ptr (6, u8) 0)), (14, (dl eMate p1.Mates)), (15, (di (p1.Mates.length : Int))), (16, (di x1.2))], G [((1, u1), some (.box 38 (dConvoy p1))), ((33, u9), some (.arr 68 7 (List.map eNote v4))), ((5, u7), some (.box 65 (dMate v2))), ((6, u8), some (.box 68 [(di 1), (di v2.ID), (di 0), (di p1.Tick), (di v3), (di v2.V), (di 0)]))]⟩) (sb_of ⟨.of rfl, .of rfl, .of rfl, .of rfl, .of rfl, .of rfl, .of rfl, .of rfl, trivial⟩ (sbG_some (G_skip rfl (G_skip (neR g2.1.property rfl) G_hit)) (.of rfl) (sbG_some G_hit (.of rfl) (sbG_some (G_skip rfl (G_skip (neR g2.1.property rfl) (G_skip rfl (G_skip (neR g2.1.property rfl) G_hit)))) (.of rfl) (sbG_some (G_skip rfl (G_skip (neR g2.1.property rfl) (G_skip rfl (G_skip (neR g2.1.property rfl) (gq rfl))))) (.of rfl) trivial))))) ?_)
            refine l_drawT fun u11 hu11 => t_val (.ptr _ _) rfl rfl (t_val (.d _) rfl (v_load rfl G_hit rfl) (t_val (.d _) rfl rfl (t_val (.d _) rfl rfl (bs hy2 fun v5 hv5 hy2 => t_val (.d _) rfl (v_idx rfl rfl hv5 rfl) (t_val (.d _) rfl rfl (t_val (.d _) rfl (v_loadL rfl hv5 rfl) (t_val (.ptr _ _) rfl rfl (t_store _ _ _ _ _ rfl rfl rfl (gq rfl) (nl rfl) [(di 4), (di v2.ID), (di 0), (di p1.Tick), (di v3), (di v2.V), (di 0)] rfl (t_val (.ptr _ _) rfl rfl (t_store _ _ _ _ _ rfl rfl rfl G_hit (nl rfl) [(di 4), (di v2.ID), (di v5.ID), (di p1.Tick), (di v3), (di v2.V), (di 0)] rfl (t_nil ⟨rfl, ?_⟩)))))))))))
            refine l_sub (s0 := ⟨T [(1, (.ptr _ _)), (3, (.sl _)), (5, (.ptr _ _)), (6, (.ptr _ _)), (14, (.d _)), (15, (.d _)), (16, (.d _))], G [((1, u1), some (.box 38 _)), ((33, u9), some _), ((5, u7), some (.box 65 _)), ((6, u8), some (.box 68 _))]⟩) (sbr rfl rfl) ?_
            refine l_reg fun u12 hu12 => ss rfl (sd rfl (v_loadG rfl (gq rfl) rfl rfl) (s_val (dl eNote [(Note.mk 4 v2.ID v5.ID p1.Tick v3 v2.V 0)]) rfl rfl (bs hy2 fun v6 hv6 hy2 => s_append eNote _ _ _ _ (elems_list (fun _ => rfl)) rfl (gq rfl) hv6 (ss rfl (s_nil ?_)))))
            obtain rfl := Option.some.inj hy2
            exact l_j ⟨(⟨52, .tail _ (.head _)⟩, u12), (sb_of ⟨.of rfl, (.of (oS_ne (appc_ne hv6)).symm), .of rfl, .of rfl, .of rfl, .of rfl, .of rfl, trivial⟩ (sbG_some (gq rfl) (.of rfl) (sbG_some (gq rfl) (.of rfl) (sbG_some (gq rfl) (.of rfl) (sbG_own G_hit trivial)))))⟩
          · refine l_skip ?_
            obtain rfl := Option.some.inj hy2
            exact l_j ⟨(⟨33, .head _⟩, u9), (sb_of ⟨.of rfl, (.of (oS_ne (appc_ne hv4)).symm), .of rfl, .of rfl, .of rfl, .of rfl, .of rfl, trivial⟩ (sbG_some (G_skip rfl (G_skip (neR g2.1.property rfl) G_hit)) (.of rfl) (sbG_some (G_skip rfl (G_skip (neR g2.1.property rfl) (G_skip rfl (G_skip (neR g2.1.property rfl) G_hit)))) (.of rfl) (sbG_some (G_skip rfl (G_skip (neR g2.1.property rfl) (G_skip rfl (G_skip (neR g2.1.property rfl) (gq rfl))))) (.of rfl) (sbG_own G_hit trivial)))))⟩
        · rintro _ ⟨g3, q1⟩
          refine l_sub q1 (lr (fun u13 hu13 => sp rfl rfl (sl rfl (gq rfl) rfl (sv rfl (sv rfl (gp rfl (gw_t rfl) (fun _ => rfl) (gt rfl (vl rfl (gq rfl) rfl) (gp rfl (gw_t rfl) (fun _ => rfl) (gt rfl (vl rfl G_hit rfl) (gt rfl (fun w5 => (v_bin (gd_pos w5) (gd_pos w5) rfl)) (sa rfl rfl rfl (s_nil (cc rfl hz1 (fun c4 hz1 => ?_) (fun c4 hz1 => ?_))))))))))))))
          · refine l_seq (l_drawT fun u14 hu14 => t_val (.ptr _ _) rfl rfl (t_val (.d _) rfl (v_load rfl (gq rfl) rfl) (t_val (.ptr _ _) rfl rfl (t_val (.d _) rfl (v_load rfl (gq rfl) rfl) (t_val (.ptr _ _) rfl rfl (t_store _ _ _ _ _ rfl rfl rfl (gq rfl) (nl rfl) [(di 3), (di y2.2.From), (di y2.2.To), (di y2.2.Stamp), (di y2.2.R), (di y2.2.V), (di y2.2.Until)] rfl (t_val (.ptr _ _) rfl rfl (t_store _ _ _ _ _ rfl rfl rfl G_hit (nl rfl) [(di 3), (di y2.2.From), (di v2.Ward), (di y2.2.Stamp), (di y2.2.R), (di y2.2.V), (di y2.2.Until)] rfl (t_val (.ptr _ _) rfl rfl (t_store _ _ _ _ _ rfl rfl rfl G_hit (nl rfl) [(di 3), (di y2.2.From), (di v2.Ward), (di y2.2.Stamp), (di y2.2.R), (di y2.2.V), (di v2.Until)] rfl (t_nil ⟨by first | rfl | ((generalize g3.1 = q0; rcases q0 with ⟨d0, _ | ⟨_, _ | ⟨_, h0⟩⟩⟩) <;> (generalize y2.1 = z3; cases z3) <;> first | rfl | contradiction), ?_⟩)))))))))))
            refine l_sub (s0 := ⟨T [(1, (.ptr (1, u1) 0)), (3, (oS y2.1 (g3.1.val, g3.2))), (6, (.ptr (6, u8) 0)), (14, (dl eMate p1.Mates)), (15, (di (p1.Mates.length : Int))), (16, (di x1.2))], G [((1, u1), some (.box 38 (dConvoy p1))), ((g3.1.val, g3.2), oB 68 7 eNote y2.1), ((6, u8), some (.box 68 [(di 3), (di y2.2.From), (di v2.Ward), (di y2.2.Stamp), (di y2.2.R), (di y2.2.V), (di v2.Until)]))]⟩) (sb_of ⟨.of rfl, .of rfl, .of rfl, .of rfl, .of rfl, .of rfl, trivial⟩ (sbG_some (gq rfl) (.of rfl) (sbG_oB (G_skip (neL g3.1.property rfl) (G_skip (neL g3.1.property rfl) (G_skip (neL g3.1.property rfl) (G_skip (neL g3.1.property rfl) (G_skip (neL g3.1.property rfl) (G_skip (neL g3.1.property rfl) G_hit)))))) (sbG_some G_hit (.of rfl) trivial)))) ?_
            refine l_reg fun u15 hu15 => s_val (oS y2.1 (g3.1.val, g3.2)) rfl rfl (sd rfl (v_loadG rfl (G_skip rfl (G_skip (neR g3.1.property rfl) G_hit)) rfl rfl) (s_val (dl eNote [(Note.mk 3 y2.2.From v2.Ward y2.2.Stamp y2.2.R y2.2.V v2.Until)]) rfl rfl (bs hz1 fun v7 hv7 hz1 => s_appendO eNote (g3.1.val, g3.2) y2.1 (Note.mk 3 y2.2.From v2.Ward y2.2.Stamp y2.2.R y2.2.V v2.Until) [] _ (elems_list (fun _ => rfl)) rfl (G_skip (neL g3.1.property rfl) G_hit) hv7 (ss rfl (s_nil (l_end (l_reg fun u16 hu16 => sv rfl (sv rfl (s_nil (l_nil ?_))))))))))
            obtain rfl := Option.some.inj hz1
            exact ⟨rfl, (⟨73, .tail _ (.tail _ (.head _))⟩, u15), (sb_of ⟨.of rfl, (.of (oS_ne (appc_ne hv7)).symm), .of rfl, .of rfl, .of rfl, trivial⟩ (sbG_some (G_skip rfl (G_skip (neR g3.1.property rfl) G_hit)) (.of rfl) (sbG_own G_hit trivial)))⟩
          · refine l_skip (l_end (l_reg fun u17 hu17 => sv rfl (sv rfl (s_nil (l_nil ?_)))))
            obtain rfl := Option.some.inj hz1
            exact ⟨rfl, (⟨g3.1.val, memL g3.1.property rfl⟩, g3.2), (sb_of ⟨.of rfl, .of rfl, .of rfl, .of rfl, .of rfl, trivial⟩ (sbG_some G_hit (.of rfl) (sbG_oB (G_skip (neL g3.1.property rfl) (G_skip (neL g3.1.property rfl) (G_skip (neL g3.1.property rfl) G_hit))) trivial)))⟩
      · refine l_exitN rfl ?_
        obtain rfl := Option.some.inj hz1
        obtain rfl := ez1 _ rfl
        refine ⟨nofun, awl_pop rfl (l_j ?_)⟩
        exact ⟨(g2.1, g2.2), (sb_of ⟨.of rfl, .of rfl, trivial⟩ (sbG_some G_hit (.of rfl) (sbG_oB (G_skip (neL g2.1.property rfl) G_hit) trivial)))⟩
    · rintro _ ⟨g1, q2⟩
      refine l_sub q2 (l_seq (lr (fun u18 hu18 => sp rfl rfl (sd rfl (v_loadG rfl G_hit rfl rfl) (sn rfl rfl (sst rfl G_hit (dGuest p1.Guest_) rfl (s_nil (lr (fun u19 hu19 => sp rfl rfl (sl rfl G_hit rfl (sv rfl (s_nil (cc rfl h (fun c5 h => ?_) (fun c5 h => ?_))))))))))))))
      · refine lr (fun u20 hu20 => sd rfl (v_loadG rfl (gq rfl) rfl rfl) (bs h fun v8 hv8 h => s_call rfl rfl all2_refl (convoy_beside_ok _  _ hv8) (.inl rfl) (sv rfl (sv rfl (sv rfl (sv rfl (sv rfl (s_nil (lr (fun u21 hu21 => sv rfl (sv rfl (s_nil (cc rfl h (fun c6 h => ?_) (fun c6 h => ?_))))))))))))))
        · refine l_draw rfl fun u22 hu22 => s_val (oS y1 (g1.1.val, g1.2)) rfl rfl (sp rfl rfl (sl rfl G_hit rfl (sp rfl rfl (sl rfl (gq rfl) rfl (sv rfl (bs h fun v9 hv9 h => sd rfl (v_idx rfl rfl hv9 rfl) (sv rfl (sd rfl (v_loadL rfl hv9 rfl) (sp rfl rfl (sl rfl (gq rfl) rfl (sp rfl rfl (sl rfl G_hit rfl (sp rfl rfl (sl rfl G_hit rfl (sv rfl (sp rfl rfl (sl rfl G_hit rfl (sv rfl (s_val (dl eNote [(Note.mk 2 p1.Guest_.ID v9.ID p1.Tick (w64 (p1.Guest_.S - p1.Guest_.Len)) p1.Guest_.V 0)]) rfl rfl (bs h fun v10 hv10 h => s_appendO eNote (g1.1.val, g1.2) y1 (Note.mk 2 p1.Guest_.ID v9.ID p1.Tick (w64 (p1.Guest_.S - p1.Guest_.Len)) p1.Guest_.V 0) [] _ (elems_list (fun _ => rfl)) rfl (G_skip (neL g1.1.property rfl) (G_skip (neL g1.1.property rfl) (G_skip (neL g1.1.property rfl) G_hit))) hv10 (ss rfl (s_nil (l_seq (l_sub (s0 := ⟨T [(3, (.sl _))], G [((107, u22), some _)]⟩) (sbr rfl rfl) ?_))))))))))))))))))))))))
          refine l_reg fun u23 hu23 => ss rfl (ss rfl (s_nil (l_ret ?_)))
          obtain rfl := Option.some.inj h
          exact fin_ok (.inr rfl) (resD1 (res_t rfl) (rf_sl G_hit)) (.refl _)
        · refine l_skip (lr (fun u24 hu24 => s_val (oS y1 (g1.1.val, g1.2)) rfl rfl (s_val (oS y1 (g1.1.val, g1.2)) rfl rfl (s_nil (l_ret ?_)))))
          obtain rfl := Option.some.inj h
          exact fin_ok (.inr rfl) (resD1 (res_t rfl) (rf_oS (G_skip (neL g1.1.property rfl) (G_skip (neL g1.1.property rfl) (G_skip (neL g1.1.property rfl) G_hit))))) oD_le
      · refine l_skip (lr (fun u25 hu25 => s_val (oS y1 (g1.1.val, g1.2)) rfl rfl (s_val (oS y1 (g1.1.val, g1.2)) rfl rfl (s_nil (l_ret ?_)))))
        obtain rfl := Option.some.inj h
        exact fin_ok (.inr rfl) (resD1 (res_t rfl) (rf_oS (G_skip (neL g1.1.property rfl) (G_skip (neL g1.1.property rfl) (G_skip (neL g1.1.property rfl) G_hit))))) oD_le
end Go.Abs.Convoy
