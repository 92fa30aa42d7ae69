/-
  The functions, part 3.
-/
import Derived.Test.YtdkgjoilcfoclaaFns2
set_option maxRecDepth 20000
set_option linter.unusedVariables false
namespace Go.Abs.Convoy
open Go Go.Abs Go.Proofs
attribute [local irreducible] regW regT AWL

noncomputable def convoy_mind_hail_oa (p1 : ConvoyMind) (p2 : ConvoyLetter) : Option ConvoyMind :=
  (cond ((p1.Mate_.Until != 0) && (p2.Note_.From == p1.Mate_.Ward)) ((convoy_Better p1.Mate_.WardGuess p2.guess).bind fun v1 => some (ConvoyMind.mk (Mate.mk p1.Mate_.ID p1.Mate_.S p1.Mate_.V p1.Mate_.Len p1.Mate_.Ahead p1.Mate_.Guess_ p1.Mate_.Trust p1.Mate_.Ward v1 p1.Mate_.Until) p1.tick p1.gap p1.sight p1.sees)) (some p1)).bind fun y1 => cond ((y1.Mate_.Ahead == 0) || (p2.Note_.From != y1.Mate_.Ahead)) (some y1) (((cond (y1.sees && (p2.Note_.Stamp == y1.tick)) (convoy_within p2.Note_.R y1.sight.Lo y1.sight.Hi) (some default))).bind fun v2 => ((cond ((y1.sees && (p2.Note_.Stamp == y1.tick)) && (!(!v2))) (convoy_within p2.Note_.V y1.sight.VLo y1.sight.VHi) (some default))).bind fun v3 => cond ((y1.sees && (p2.Note_.Stamp == y1.tick)) && ((!v2) || (!v3))) (some (ConvoyMind.mk (Mate.mk y1.Mate_.ID y1.Mate_.S y1.Mate_.V y1.Mate_.Len y1.Mate_.Ahead y1.Mate_.Guess_ false y1.Mate_.Ward y1.Mate_.WardGuess y1.Mate_.Until) y1.tick y1.gap y1.sight y1.sees)) (cond ((!y1.sees) && y1.Mate_.Trust) ((convoy_Better y1.Mate_.Guess_ p2.guess).bind fun v4 => some (ConvoyMind.mk (Mate.mk y1.Mate_.ID y1.Mate_.S y1.Mate_.V y1.Mate_.Len y1.Mate_.Ahead v4 y1.Mate_.Trust y1.Mate_.Ward y1.Mate_.WardGuess y1.Mate_.Until) y1.tick y1.gap y1.sight y1.sees)) (some y1)))

/-- (*kerbstone/convoy.mind).hail -/
def ac_convoy_mind_hail_oa : AC := (.seq (.reg [oo 3 (.box 125 true (.t 1))]) (.seq (.seq (.draw [oo 5 (.mv (.t 0)), oo 6 (.nilck (.t 5)), oo 7 (.fieldA 0 (.t 6)), oo 8 (.fieldA 11 (.t 7)), oo 9 (.load 1 false (.t 8)), oo 10 (.bin .neq (.t 9) (ci 0)), oo 11 (.mv (.t 10)), og 12 (.fieldA 0 (.t 3)) 11, og 13 (.fieldA 1 (.t 12)) 11, og 14 (.load 1 false (.t 13)) 11, og 15 (.mv (.t 0)) 11, og 16 (.nilck (.t 15)) 11, og 17 (.fieldA 0 (.t 16)) 11, og 18 (.fieldA 8 (.t 17)) 11, og 19 (.load 1 false (.t 18)) 11, og 20 (.bin .eql (.t 14) (.t 19)) 11, oo 21 (.pick (.t 11) (.t 20) (.c zf))] []) (.cond (.t 21) (.draw [oo 22 (.mv (.t 0)), oo 23 (.mv (.t 0)), oo 24 (.nilck (.t 23)), oo 25 (.fieldA 0 (.t 24)), oo 26 (.fieldA 9 (.t 25)), oo 27 (.load 2 true (.t 26)), oo 28 (.fieldA 7 (.t 3)), oo 29 (.load 2 true (.t 28)), oo 30 (.call (cf 19) [(.t 27), (.t 29)]), oo 31 (.nilck (.t 22)), oo 32 (.fieldA 0 (.t 31)), oo 33 (.fieldA 9 (.t 32)), oe (.store 2 (.t 33) (.t 30))] []) .skip)) (.seq (.seq (.draw [oo 34 (.mv (.t 0)), oo 35 (.nilck (.t 34)), oo 36 (.fieldA 0 (.t 35)), oo 37 (.fieldA 4 (.t 36)), oo 38 (.load 1 false (.t 37)), oo 39 (.bin .eql (.t 38) (ci 0)), oo 40 (.mv (.t 39)), oh 41 (.fieldA 0 (.t 3)) 40, oh 42 (.fieldA 1 (.t 41)) 40, oh 43 (.load 1 false (.t 42)) 40, oh 44 (.mv (.t 0)) 40, oh 45 (.nilck (.t 44)) 40, oh 46 (.fieldA 0 (.t 45)) 40, oh 47 (.fieldA 4 (.t 46)) 40, oh 48 (.load 1 false (.t 47)) 40, oh 49 (.bin .neq (.t 43) (.t 48)) 40, oo 50 (.pick (.t 40) (.c (.v (.bool true))) (.t 49))] []) (.cond (.t 50) .ret .skip)) (.seq (.reg [oo 51 (.mv (.t 0)), oo 52 (.nilck (.t 51)), oo 53 (.fieldA 14 (.t 52)), oo 54 (.load 5 true (.t 53)), oo 4 (.alloc 42 [z0, z0, z0, z0, z0]), oe (.store 5 (.t 4) (.t 54))]) (.block 0 (.seq (.draw [oo 56 (.mv (.t 0)), oo 57 (.nilck (.t 56)), oo 58 (.fieldA 19 (.t 57)), oo 59 (.load 1 false (.t 58)), oo 60 (.mv (.t 59)), og 61 (.fieldA 0 (.t 3)) 60, og 62 (.fieldA 3 (.t 61)) 60, og 63 (.load 1 false (.t 62)) 60, og 64 (.mv (.t 0)) 60, og 65 (.nilck (.t 64)) 60, og 66 (.fieldA 12 (.t 65)) 60, og 67 (.load 1 false (.t 66)) 60, og 68 (.bin .eql (.t 63) (.t 67)) 60, oo 69 (.pick (.t 60) (.t 68) (.c zf)), oo 70 (.mv (.t 69)), og 71 (.fieldA 0 (.t 3)) 70, og 72 (.fieldA 4 (.t 71)) 70, og 73 (.load 1 false (.t 72)) 70, og 74 (.fieldA 1 (.t 4)) 70, og 75 (.load 1 false (.t 74)) 70, og 76 (.fieldA 2 (.t 4)) 70, og 77 (.load 1 false (.t 76)) 70, og 78 (.call (cf 95) [(.t 73), (.t 75), (.t 77)]) 70, og 79 (.un .not (.t 78)) 70, og 80 (.mv (.t 79)) 70, oh 81 (.fieldA 0 (.t 3)) 80, oh 82 (.fieldA 5 (.t 81)) 80, oh 83 (.load 1 false (.t 82)) 80, oh 84 (.fieldA 3 (.t 4)) 80, oh 85 (.load 1 false (.t 84)) 80, oh 86 (.fieldA 4 (.t 4)) 80, oh 87 (.load 1 false (.t 86)) 80, oh 88 (.call (cf 95) [(.t 83), (.t 85), (.t 87)]) 80, oh 89 (.un .not (.t 88)) 80, og 90 (.pick (.t 80) (.c (.v (.bool true))) (.t 89)) 70, oo 91 (.pick (.t 70) (.t 90) (.c zf)), oo 55 (.mv (.t 91))] []) (.cond (.t 55) (.reg [oo 92 (.mv (.t 0)), oo 93 (.nilck (.t 92)), oo 94 (.fieldA 0 (.t 93)), oo 95 (.fieldA 7 (.t 94)), oe (.store 1 (.t 95) (.c zf))]) (.seq (.reg [oo 97 (.mv (.t 0)), oo 98 (.nilck (.t 97)), oo 99 (.fieldA 19 (.t 98)), oo 100 (.load 1 false (.t 99)), oo 101 (.un .not (.t 100)), oo 102 (.mv (.t 101)), og 103 (.mv (.t 0)) 102, og 104 (.nilck (.t 103)) 102, og 105 (.fieldA 0 (.t 104)) 102, og 106 (.fieldA 7 (.t 105)) 102, og 107 (.load 1 false (.t 106)) 102, oo 108 (.pick (.t 102) (.t 107) (.c zf)), oo 96 (.mv (.t 108))]) (.cond (.t 96) (.draw [oo 109 (.mv (.t 0)), oo 110 (.mv (.t 0)), oo 111 (.nilck (.t 110)), oo 112 (.fieldA 0 (.t 111)), oo 113 (.fieldA 5 (.t 112)), oo 114 (.load 2 true (.t 113)), oo 115 (.fieldA 7 (.t 3)), oo 116 (.load 2 true (.t 115)), oo 117 (.call (cf 19) [(.t 114), (.t 116)]), oo 118 (.nilck (.t 109)), oo 119 (.fieldA 0 (.t 118)), oo 120 (.fieldA 5 (.t 119)), oe (.store 2 (.t 120) (.t 117))] []) .skip)))))))))
theorem fn_convoy_mind_hail_oa : FnOK Try.prog 127 121 [] ac_convoy_mind_hail_oa := ⟨_, _, Try.func127, rfl, Try.ntmps127, by kernel_rfl, ⟨fun _ => [], by kernel_rfl⟩, by kernel_rfl⟩
set_option maxHeartbeats 4000000 in
theorem convoy_mind_hail_oa_ok (p1 : ConvoyMind) (p2 : ConvoyLetter) (r : ConvoyMind) (h : convoy_mind_hail_oa p1 p2 = some r) : MCall Try.prog 127 [(.ptr (900000, 0) 0), (.d (.agg (eConvoyLetter p2)))] [(.box 107 (dConvoyMind p1))] (.d (.tup [])) [some (.box 107 (dConvoyMind r))] [] := by
  refine m_callF fn_convoy_mind_hail_oa rfl (nl rfl) ?_
  unfold convoy_mind_hail_oa at h
  unfold ac_convoy_mind_hail_oa
  refine l_sub (s0 := ⟨T [(0, (.ptr _ _)), (1, (.d _))], G [((900000, 0), some (.box 107 _))]⟩) (sbr rfl rfl) ?_
  refine lr (fun u1 hu1 => sn rfl rfl (s_nil (l_seq (l_seq (l_draw rfl fun u2 hu2 => sp rfl rfl (sp rfl rfl (sp rfl rfl (sp rfl rfl (sl rfl (gq rfl) rfl (sv rfl (sv rfl (gp rfl (gw_t rfl) (fun _ => rfl) ?_))))))))))))
  refine g_val _ (.ptr _ _) rfl (gw_t rfl) (fun w2 => (by simp only [gd_pos w2]; rfl)) ?_
  refine gt rfl (vl rfl G_hit rfl) (gp rfl (gw_t rfl) (fun _ => rfl) ?_)
  refine g_val _ (.ptr _ _) rfl (gw_t rfl) (fun w5 => (by simp only [gd_pos w5]; rfl)) ?_
  refine g_val _ (.ptr _ _) rfl (gw_t rfl) (fun w6 => (by simp only [gd_pos w6]; rfl)) ?_
  refine g_val _ (.ptr _ _) rfl (gw_t rfl) (fun w7 => (by simp only [gd_pos w7]; rfl)) ?_
  refine gt rfl (vl rfl (gq rfl) rfl) (gt rfl (fun w9 => (v_bin (gd_pos w9) (gd_pos w9) rfl)) (sa rfl rfl rfl (s_nil (bs h fun y1 hy1 h => l_join (fun s => ∃ g1 : Unit, Sb ⟨T [(0, (.ptr (900000, 0) 0)), (3, (.ptr (3, u1) 0))], G [((900000, 0), some (.box 107 (dConvoyMind y1))), ((3, u1), some (.box 125 (dConvoyLetter p2)))]⟩ s) ?_ ?_))))
  · refine cc rfl hy1 (fun c1 hy1 => ?_) (fun c1 hy1 => ?_)
    · refine l_draw rfl fun u3 hu3 => sp rfl rfl (sp rfl rfl (sp rfl rfl (sp rfl rfl (sp rfl rfl (sd rfl (v_loadG rfl (gq rfl) rfl rfl) (sp rfl rfl (sd rfl (v_loadG rfl G_hit rfl rfl) (bs hy1 fun v1 hv1 hy1 => s_call rfl rfl all2_refl (convoy_Better_ok _ _  _ hv1) (.inl rfl) (sp rfl rfl (sp rfl rfl (sp rfl rfl (sst rfl (gq rfl) [(di p1.Mate_.ID), (di p1.Mate_.S), (di p1.Mate_.V), (di p1.Mate_.Len), (di p1.Mate_.Ahead), (di p1.Mate_.Guess_.R), (di p1.Mate_.Guess_.V), (.d (bo p1.Mate_.Trust)), (di p1.Mate_.Ward), (di v1.R), (di v1.V), (di p1.Mate_.Until), (di p1.tick), (di p1.gap), (di p1.sight.By), (di p1.sight.Lo), (di p1.sight.Hi), (di p1.sight.VLo), (di p1.sight.VHi), (.d (bo p1.sees))] rfl (s_nil ?_)))))))))))))
      obtain rfl := Option.some.inj hy1
      exact l_j ⟨(), (sbr rfl rfl)⟩
    · refine l_skip ?_
      obtain rfl := Option.some.inj hy1
      exact l_j ⟨(), (sbr rfl rfl)⟩
  · rintro _ ⟨g1, q1⟩
    refine l_sub q1 (l_seq (l_seq (l_draw rfl fun u4 hu4 => sp rfl rfl (sp rfl rfl (sp rfl rfl (sp rfl rfl (sl rfl G_hit rfl (sv rfl (sv rfl (gp rfl (gw_f rfl) (fun _ => rfl) ?_))))))))))
    refine g_val _ (.ptr _ _) rfl (gw_f rfl) (fun w11 => (by simp only [gd_pos w11]; rfl)) ?_
    refine gf rfl (vl rfl (gq rfl) rfl) (gp rfl (gw_f rfl) (fun _ => rfl) ?_)
    refine g_val _ (.ptr _ _) rfl (gw_f rfl) (fun w14 => (by simp only [gd_pos w14]; rfl)) ?_
    refine g_val _ (.ptr _ _) rfl (gw_f rfl) (fun w15 => (by simp only [gd_pos w15]; rfl)) ?_
    refine g_val _ (.ptr _ _) rfl (gw_f rfl) (fun w16 => (by simp only [gd_pos w16]; rfl)) ?_
    refine gf rfl (vl rfl G_hit rfl) (gf rfl (fun w18 => (v_bin (gd_pos w18) (gd_pos w18) rfl)) (sd rfl (v_or rfl rfl (fun hc => gd_pos (not_t hc))) (s_nil (cc rfl h (fun c2 h => ?_) (fun c2 h => ?_)))))
    · refine l_ret ?_
      obtain rfl := Option.some.inj h
      exact fin_mf (.inr rfl) [] resDF0 (.refl _) ⟨⟨_, _, _, G_hit, old_notin_nil, rfl, all2_d, rfl⟩, trivial⟩
    · refine l_skip (lr (fun u5 hu5 => sp rfl rfl (sp rfl rfl (sp rfl rfl (sd rfl (v_loadG rfl G_hit rfl rfl) (sn rfl rfl (sst rfl G_hit (dSight y1.sight) rfl (s_nil (l_block (l_seq (l_sub (s0 := ⟨T [(0, (.ptr _ _)), (3, (.ptr _ _)), (4, (.ptr _ _))], G [((900000, 0), some (.box 107 _)), ((3, u1), some (.box 125 _)), ((4, u5), some (.box 42 _))]⟩) (sbr rfl rfl) ?_)))))))))))
      refine l_draw rfl fun u6 hu6 => sp rfl rfl (sp rfl rfl (sp rfl rfl (sl rfl G_hit rfl (sv rfl (gp rfl (gw_t rfl) (fun _ => rfl) ?_)))))
      refine g_val _ (.ptr _ _) rfl (gw_t rfl) (fun w20 => (by simp only [gd_pos w20]; rfl)) ?_
      refine gt rfl (vl rfl (gq rfl) rfl) (gp rfl (gw_t rfl) (fun _ => rfl) ?_)
      refine g_val _ (.ptr _ _) rfl (gw_t rfl) (fun w23 => (by simp only [gd_pos w23]; rfl)) ?_
      refine g_val _ (.ptr _ _) rfl (gw_t rfl) (fun w24 => (by simp only [gd_pos w24]; rfl)) ?_
      refine gt rfl (vl rfl G_hit rfl) (gt rfl (fun w26 => (v_bin (gd_pos w26) (gd_pos w26) rfl)) (sa rfl rfl rfl (sv rfl (gp rfl (gw_t rfl) (fun _ => rfl) ?_))))
      refine g_val _ (.ptr _ _) rfl (gw_t rfl) (fun w28 => (by simp only [gd_pos w28]; rfl)) ?_
      refine gt rfl (vl rfl (gq rfl) rfl) (gp rfl (gw_t rfl) (fun _ => rfl) (gt rfl (vl rfl (gq rfl) rfl) (gp rfl (gw_t rfl) (fun _ => rfl) (gt rfl (vl rfl (gq rfl) rfl) (bs h fun v2 hv2 h => ?_)))))
      refine g_call _ (bo v2) (gw_t rfl) (fun w34 => ⟨_, [(di p2.Note_.R), (di y1.sight.Lo), (di y1.sight.Hi)], _, _, (by simp only [gd_pos w34]; rfl), rfl, all2_refl, convoy_within_ok _ _ _  _ (cond_t w34 hv2), (.inl rfl)⟩) ?_
      refine g_val _ (.d (bo (!v2))) rfl (gw_t rfl) (fun w35 => (by simp only [gd_pos w35]; rfl)) ?_
      refine gt rfl (fun w36 => (v_mv (gd_pos w36))) (g_val _ (.ptr _ _) rfl (gw_gf rfl) (fun _ => rfl) ?_)
      refine g_val _ (.ptr _ _) rfl (gw_gf rfl) (fun w38 => (by simp only [gd_pos w38]; rfl)) ?_
      refine gv rfl (gw_gf rfl) (vl rfl (gq rfl) rfl) (g_val _ (.ptr _ _) rfl (gw_gf rfl) (fun _ => rfl) (gv rfl (gw_gf rfl) (vl rfl (gq rfl) rfl) (g_val _ (.ptr _ _) rfl (gw_gf rfl) (fun _ => rfl) (gv rfl (gw_gf rfl) (vl rfl (gq rfl) rfl) (bs h fun v3 hv3 h => ?_)))))
      refine g_call _ (bo v3) (gw_gf rfl) (fun w44 => ⟨_, [(di p2.Note_.V), (di y1.sight.VLo), (di y1.sight.VHi)], _, _, (by simp only [gd_pos w44]; rfl), rfl, all2_refl, convoy_within_ok _ _ _  _ (cond_t w44 hv3), (.inl rfl)⟩) ?_
      refine g_val _ (.d (bo (!v3))) rfl (gw_gf rfl) (fun w45 => (by simp only [gd_pos w45]; rfl)) ?_
      refine gt rfl (fun w46 => (v_or (gd_pos w46) rfl (fun hc => gd_pos (and_i w46 (not_t hc))))) (sa rfl rfl rfl (sv rfl (s_nil (cc rfl h (fun c3 h => ?_) (fun c3 h => ?_)))))
      · refine l_sub (s0 := ⟨T [(0, (.ptr _ _))], G [((900000, 0), some (.box 107 _))]⟩) (sbr rfl rfl) ?_
        refine l_reg fun u7 hu7 => sp rfl rfl (sp rfl rfl (sp rfl rfl (sp rfl rfl (sst rfl G_hit [(di y1.Mate_.ID), (di y1.Mate_.S), (di y1.Mate_.V), (di y1.Mate_.Len), (di y1.Mate_.Ahead), (di y1.Mate_.Guess_.R), (di y1.Mate_.Guess_.V), (.d (bo false)), (di y1.Mate_.Ward), (di y1.Mate_.WardGuess.R), (di y1.Mate_.WardGuess.V), (di y1.Mate_.Until), (di y1.tick), (di y1.gap), (di y1.sight.By), (di y1.sight.Lo), (di y1.sight.Hi), (di y1.sight.VLo), (di y1.sight.VHi), (.d (bo y1.sees))] rfl (s_nil (l_end (l_nil ?_)))))))
        obtain rfl := Option.some.inj h
        exact fin_mf (.inl rfl) [] resDF0 (.refl _) ⟨⟨_, _, _, G_hit, old_notin_nil, rfl, all2_d, rfl⟩, trivial⟩
      · refine l_seq (l_sub (s0 := ⟨T [(0, (.ptr _ _)), (3, (.ptr _ _))], G [((900000, 0), some (.box 107 _)), ((3, u1), some (.box 125 _))]⟩) (sbr rfl rfl) ?_)
        refine l_reg fun u8 hu8 => sp rfl rfl (sp rfl rfl (sp rfl rfl (sl rfl G_hit rfl (s_val (.d (bo (!y1.sees))) rfl rfl (sv rfl (gp rfl (gw_t rfl) (fun _ => rfl) ?_))))))
        refine g_val _ (.ptr _ _) rfl (gw_t rfl) (fun w48 => (by simp only [gd_pos w48]; rfl)) ?_
        refine g_val _ (.ptr _ _) rfl (gw_t rfl) (fun w49 => (by simp only [gd_pos w49]; rfl)) ?_
        refine g_val _ (.ptr _ _) rfl (gw_t rfl) (fun w50 => (by simp only [gd_pos w50]; rfl)) ?_
        refine gt rfl (vl rfl G_hit rfl) (sa rfl rfl rfl (sv rfl (s_nil (cc rfl h (fun c4 h => ?_) (fun c4 h => ?_)))))
        · refine l_draw rfl fun u9 hu9 => sp rfl rfl (sp rfl rfl (sp rfl rfl (sp rfl rfl (sp rfl rfl (sd rfl (v_loadG rfl G_hit rfl rfl) (sp rfl rfl (sd rfl (v_loadG rfl (gq rfl) rfl rfl) (bs h fun v4 hv4 h => s_call rfl rfl all2_refl (convoy_Better_ok _ _  _ hv4) (.inl rfl) (sp rfl rfl (sp rfl rfl (sp rfl rfl (sst rfl G_hit [(di y1.Mate_.ID), (di y1.Mate_.S), (di y1.Mate_.V), (di y1.Mate_.Len), (di y1.Mate_.Ahead), (di v4.R), (di v4.V), (.d (bo y1.Mate_.Trust)), (di y1.Mate_.Ward), (di y1.Mate_.WardGuess.R), (di y1.Mate_.WardGuess.V), (di y1.Mate_.Until), (di y1.tick), (di y1.gap), (di y1.sight.By), (di y1.sight.Lo), (di y1.sight.Hi), (di y1.sight.VLo), (di y1.sight.VHi), (.d (bo y1.sees))] rfl (s_nil (l_end (l_nil ?_)))))))))))))))
          obtain rfl := Option.some.inj h
          exact fin_mf (.inl rfl) [] resDF0 (.refl _) ⟨⟨_, _, _, G_hit, old_notin_nil, rfl, all2_d, rfl⟩, trivial⟩
        · refine l_skip (l_end (l_nil ?_))
          obtain rfl := Option.some.inj h
          exact fin_mf (.inl rfl) [] resDF0 (.refl _) ⟨⟨_, _, _, G_hit, old_notin_nil, rfl, all2_d, rfl⟩, trivial⟩

noncomputable def convoy_mind_ask_oa (p1 : ConvoyMind) (p2 : ConvoyLetter) : Option ConvoyMind :=
  cond (p2.Note_.To != p1.Mate_.ID) (some p1) (cond ((p1.Mate_.Ward == 0) || (((p2.Note_.From == p1.Mate_.Ward) && (p1.Mate_.Until != 0)) && (decide (p2.Note_.Stamp > p1.Mate_.Until)))) (some (ConvoyMind.mk (Mate.mk p1.Mate_.ID p1.Mate_.S p1.Mate_.V p1.Mate_.Len p1.Mate_.Ahead p1.Mate_.Guess_ p1.Mate_.Trust p2.Note_.From p2.guess 0) p1.tick p1.gap p1.sight p1.sees)) (cond (p2.Note_.From == p1.Mate_.Ward) ((convoy_Better p1.Mate_.WardGuess p2.guess).bind fun v1 => some (ConvoyMind.mk (Mate.mk p1.Mate_.ID p1.Mate_.S p1.Mate_.V p1.Mate_.Len p1.Mate_.Ahead p1.Mate_.Guess_ p1.Mate_.Trust p1.Mate_.Ward v1 p1.Mate_.Until) p1.tick p1.gap p1.sight p1.sees)) (some p1)))

/-- (*kerbstone/convoy.mind).ask -/
def ac_convoy_mind_ask_oa : AC := (.seq (.reg [oo 3 (.box 125 true (.t 1))]) (.block 0 (.seq (.draw [oo 5 (.fieldA 0 (.t 3)), oo 6 (.fieldA 2 (.t 5)), oo 7 (.load 1 false (.t 6)), oo 8 (.mv (.t 0)), oo 9 (.nilck (.t 8)), oo 10 (.fieldA 0 (.t 9)), oo 11 (.fieldA 0 (.t 10)), oo 12 (.load 1 false (.t 11)), oo 13 (.bin .neq (.t 7) (.t 12)), oo 4 (.mv (.t 13))] []) (.cond (.t 4) .skip (.seq (.draw [oo 15 (.mv (.t 0)), oo 16 (.nilck (.t 15)), oo 17 (.fieldA 0 (.t 16)), oo 18 (.fieldA 8 (.t 17)), oo 19 (.load 1 false (.t 18)), oo 20 (.bin .eql (.t 19) (ci 0)), oo 21 (.mv (.t 20)), oh 22 (.fieldA 0 (.t 3)) 21, oh 23 (.fieldA 1 (.t 22)) 21, oh 24 (.load 1 false (.t 23)) 21, oh 25 (.mv (.t 0)) 21, oh 26 (.nilck (.t 25)) 21, oh 27 (.fieldA 0 (.t 26)) 21, oh 28 (.fieldA 8 (.t 27)) 21, oh 29 (.load 1 false (.t 28)) 21, oh 30 (.bin .eql (.t 24) (.t 29)) 21, oh 31 (.mv (.t 30)) 21, og 32 (.mv (.t 0)) 31, og 33 (.nilck (.t 32)) 31, og 34 (.fieldA 0 (.t 33)) 31, og 35 (.fieldA 11 (.t 34)) 31, og 36 (.load 1 false (.t 35)) 31, og 37 (.bin .neq (.t 36) (ci 0)) 31, oh 38 (.pick (.t 31) (.t 37) (.c zf)) 21, oh 39 (.mv (.t 38)) 21, og 40 (.fieldA 0 (.t 3)) 39, og 41 (.fieldA 3 (.t 40)) 39, og 42 (.load 1 false (.t 41)) 39, og 43 (.mv (.t 0)) 39, og 44 (.nilck (.t 43)) 39, og 45 (.fieldA 0 (.t 44)) 39, og 46 (.fieldA 11 (.t 45)) 39, og 47 (.load 1 false (.t 46)) 39, og 48 (.bin .gtr (.t 42) (.t 47)) 39, oh 49 (.pick (.t 39) (.t 48) (.c zf)) 21, oo 50 (.pick (.t 21) (.c (.v (.bool true))) (.t 49)), oo 14 (.mv (.t 50))] []) (.cond (.t 14) (.draw [oo 51 (.mv (.t 0)), oo 52 (.mv (.t 0)), oo 53 (.mv (.t 0)), oo 54 (.fieldA 0 (.t 3)), oo 55 (.fieldA 1 (.t 54)), oo 56 (.load 1 false (.t 55)), oo 57 (.fieldA 7 (.t 3)), oo 58 (.load 2 true (.t 57)), oo 59 (.nilck (.t 51)), oo 60 (.fieldA 0 (.t 59)), oo 61 (.fieldA 8 (.t 60)), oe (.store 1 (.t 61) (.t 56)), oo 62 (.nilck (.t 52)), oo 63 (.fieldA 0 (.t 62)), oo 64 (.fieldA 9 (.t 63)), oe (.store 2 (.t 64) (.t 58)), oo 65 (.nilck (.t 53)), oo 66 (.fieldA 0 (.t 65)), oo 67 (.fieldA 11 (.t 66)), oe (.store 1 (.t 67) (ci 0))] [(7, 11)]) (.seq (.draw [oo 69 (.fieldA 0 (.t 3)), oo 70 (.fieldA 1 (.t 69)), oo 71 (.load 1 false (.t 70)), oo 72 (.mv (.t 0)), oo 73 (.nilck (.t 72)), oo 74 (.fieldA 0 (.t 73)), oo 75 (.fieldA 8 (.t 74)), oo 76 (.load 1 false (.t 75)), oo 77 (.bin .eql (.t 71) (.t 76)), oo 68 (.mv (.t 77))] []) (.cond (.t 68) (.draw [oo 78 (.mv (.t 0)), oo 79 (.mv (.t 0)), oo 80 (.nilck (.t 79)), oo 81 (.fieldA 0 (.t 80)), oo 82 (.fieldA 9 (.t 81)), oo 83 (.load 2 true (.t 82)), oo 84 (.fieldA 7 (.t 3)), oo 85 (.load 2 true (.t 84)), oo 86 (.call (cf 19) [(.t 83), (.t 85)]), oo 87 (.nilck (.t 78)), oo 88 (.fieldA 0 (.t 87)), oo 89 (.fieldA 9 (.t 88)), oe (.store 2 (.t 89) (.t 86))] []) .skip))))))))
theorem fn_convoy_mind_ask_oa : FnOK Try.prog 128 90 [] ac_convoy_mind_ask_oa := ⟨_, _, Try.func128, rfl, Try.ntmps128, by kernel_rfl, ⟨fun _ => [], by kernel_rfl⟩, by kernel_rfl⟩
set_option maxHeartbeats 4000000 in
theorem convoy_mind_ask_oa_ok (p1 : ConvoyMind) (p2 : ConvoyLetter) (r : ConvoyMind) (h : convoy_mind_ask_oa p1 p2 = some r) : MCall Try.prog 128 [(.ptr (900000, 0) 0), (.d (.agg (eConvoyLetter p2)))] [(.box 107 (dConvoyMind p1))] (.d (.tup [])) [some (.box 107 (dConvoyMind r))] [] := by
  refine m_callF fn_convoy_mind_ask_oa rfl (nl rfl) ?_
  unfold convoy_mind_ask_oa at h
  unfold ac_convoy_mind_ask_oa
  refine l_sub (s0 := ⟨T [(0, (.ptr _ _)), (1, (.d _))], G [((900000, 0), some (.box 107 _))]⟩) (sbr rfl rfl) ?_
  refine lr (fun u1 hu1 => sn rfl rfl (s_nil (l_block (l_seq (l_draw rfl fun u2 hu2 => sp rfl rfl (sp rfl rfl (sl rfl G_hit rfl (sp rfl rfl (sp rfl rfl (sp rfl rfl (sp rfl rfl (sl rfl (gq rfl) rfl (sv rfl (sv rfl (s_nil (cc rfl h (fun c1 h => ?_) (fun c1 h => ?_)))))))))))))))))
  · refine l_skip (l_end (l_nil ?_))
    obtain rfl := Option.some.inj h
    exact fin_mf (.inl rfl) [] resDF0 (.refl _) ⟨⟨_, _, _, (gq rfl), old_notin_nil, rfl, all2_d, rfl⟩, trivial⟩
  · refine l_seq (l_draw rfl fun u3 hu3 => sp rfl rfl (sp rfl rfl (sp rfl rfl (sp rfl rfl (sl rfl (gq rfl) rfl (sv rfl (sv rfl (gp rfl (gw_f rfl) (fun _ => rfl) ?_))))))))
    refine g_val _ (.ptr _ _) rfl (gw_f rfl) (fun w2 => (by simp only [gd_pos w2]; rfl)) ?_
    refine gf rfl (vl rfl G_hit rfl) (gp rfl (gw_f rfl) (fun _ => rfl) ?_)
    refine g_val _ (.ptr _ _) rfl (gw_f rfl) (fun w5 => (by simp only [gd_pos w5]; rfl)) ?_
    refine g_val _ (.ptr _ _) rfl (gw_f rfl) (fun w6 => (by simp only [gd_pos w6]; rfl)) ?_
    refine g_val _ (.ptr _ _) rfl (gw_f rfl) (fun w7 => (by simp only [gd_pos w7]; rfl)) ?_
    refine gf rfl (vl rfl (gq rfl) rfl) (gf rfl (fun w9 => (v_bin (gd_pos w9) (gd_pos w9) rfl)) (gf rfl (fun w10 => (v_mv (gd_pos w10))) (g_val _ (.ptr _ _) rfl (gw_gt rfl) (fun _ => rfl) ?_)))
    refine g_val _ (.ptr _ _) rfl (gw_gt rfl) (fun w12 => (by simp only [gd_pos w12]; rfl)) ?_
    refine g_val _ (.ptr _ _) rfl (gw_gt rfl) (fun w13 => (by simp only [gd_pos w13]; rfl)) ?_
    refine g_val _ (.ptr _ _) rfl (gw_gt rfl) (fun w14 => (by simp only [gd_pos w14]; rfl)) ?_
    refine gv rfl (gw_gt rfl) (vl rfl (gq rfl) rfl) (gv rfl (gw_gt rfl) (vb rfl rfl rfl) (gf rfl (fun w17 => (v_and (gd_pos w17) (fun hc => gd_pos (and_i w17 hc)) rfl)) (gf rfl (fun w18 => (v_mv (gd_pos w18))) (g_val _ (.ptr _ _) rfl (gw_gt rfl) (fun _ => rfl) ?_))))
    refine g_val _ (.ptr _ _) rfl (gw_gt rfl) (fun w20 => (by simp only [gd_pos w20]; rfl)) ?_
    refine gv rfl (gw_gt rfl) (vl rfl G_hit rfl) (g_val _ (.ptr _ _) rfl (gw_gt rfl) (fun _ => rfl) ?_)
    refine g_val _ (.ptr _ _) rfl (gw_gt rfl) (fun w23 => (by simp only [gd_pos w23]; rfl)) ?_
    refine g_val _ (.ptr _ _) rfl (gw_gt rfl) (fun w24 => (by simp only [gd_pos w24]; rfl)) ?_
    refine g_val _ (.ptr _ _) rfl (gw_gt rfl) (fun w25 => (by simp only [gd_pos w25]; rfl)) ?_
    refine gv rfl (gw_gt rfl) (vl rfl (gq rfl) rfl) (gv rfl (gw_gt rfl) (fun w27 => (v_bin (gd_pos w27) (gd_pos w27) rfl)) (gf rfl (fun w28 => (v_and (gd_pos w28) (fun hc => gd_pos (and_i w28 hc)) rfl)) (sd rfl (v_or rfl rfl (fun hc => gd_pos (not_t hc))) (sv rfl (s_nil (cc rfl h (fun c2 h => ?_) (fun c2 h => ?_)))))))
    · refine l_sub (s0 := ⟨T [(0, (.ptr _ _)), (3, (.ptr _ _))], G [((900000, 0), some (.box 107 _)), ((3, u1), some (.box 125 _))]⟩) (sbr rfl rfl) ?_
      refine l_drawT fun u4 hu4 => t_val (.ptr _ _) rfl rfl (t_val (.ptr _ _) rfl rfl (t_val (.ptr _ _) rfl rfl (t_val (.ptr _ _) rfl rfl (t_val (.ptr _ _) rfl rfl (t_val (.d _) rfl (v_load rfl (gq rfl) rfl) (t_val (.ptr _ _) rfl rfl (t_val (.d _) rfl (v_loadG rfl (gq rfl) rfl rfl) (t_val (.ptr _ _) rfl rfl (t_val (.ptr _ _) rfl rfl (t_val (.ptr _ _) rfl rfl (t_store _ _ _ _ _ rfl rfl rfl G_hit (nl rfl) [(di p1.Mate_.ID), (di p1.Mate_.S), (di p1.Mate_.V), (di p1.Mate_.Len), (di p1.Mate_.Ahead), (di p1.Mate_.Guess_.R), (di p1.Mate_.Guess_.V), (.d (bo p1.Mate_.Trust)), (di p2.Note_.From), (di p1.Mate_.WardGuess.R), (di p1.Mate_.WardGuess.V), (di p1.Mate_.Until), (di p1.tick), (di p1.gap), (di p1.sight.By), (di p1.sight.Lo), (di p1.sight.Hi), (di p1.sight.VLo), (di p1.sight.VHi), (.d (bo p1.sees))] rfl (t_val (.ptr _ _) rfl rfl (t_val (.ptr _ _) rfl rfl (t_val (.ptr _ _) rfl rfl (t_store _ _ _ _ _ rfl rfl rfl G_hit (nl rfl) [(di p1.Mate_.ID), (di p1.Mate_.S), (di p1.Mate_.V), (di p1.Mate_.Len), (di p1.Mate_.Ahead), (di p1.Mate_.Guess_.R), (di p1.Mate_.Guess_.V), (.d (bo p1.Mate_.Trust)), (di p2.Note_.From), (di p2.guess.R), (di p2.guess.V), (di p1.Mate_.Until), (di p1.tick), (di p1.gap), (di p1.sight.By), (di p1.sight.Lo), (di p1.sight.Hi), (di p1.sight.VLo), (di p1.sight.VHi), (.d (bo p1.sees))] rfl (t_val (.ptr _ _) rfl rfl (t_val (.ptr _ _) rfl rfl (t_val (.ptr _ _) rfl rfl (t_store _ _ _ _ _ rfl rfl rfl G_hit (nl rfl) [(di p1.Mate_.ID), (di p1.Mate_.S), (di p1.Mate_.V), (di p1.Mate_.Len), (di p1.Mate_.Ahead), (di p1.Mate_.Guess_.R), (di p1.Mate_.Guess_.V), (.d (bo p1.Mate_.Trust)), (di p2.Note_.From), (di p2.guess.R), (di p2.guess.V), (di 0), (di p1.tick), (di p1.gap), (di p1.sight.By), (di p1.sight.Lo), (di p1.sight.Hi), (di p1.sight.VLo), (di p1.sight.VHi), (.d (bo p1.sees))] rfl (t_nil ⟨rfl, ?_⟩))))))))))))))))))))
      refine l_end (l_nil ?_)
      obtain rfl := Option.some.inj h
      exact fin_mf (.inl rfl) [] resDF0 (.refl _) ⟨⟨_, _, _, G_hit, old_notin_nil, rfl, all2_d, rfl⟩, trivial⟩
    · refine l_seq (l_sub (s0 := ⟨T [(0, (.ptr _ _)), (3, (.ptr _ _))], G [((900000, 0), some (.box 107 _)), ((3, u1), some (.box 125 _))]⟩) (sbr rfl rfl) ?_)
      refine l_draw rfl fun u5 hu5 => sp rfl rfl (sp rfl rfl (sl rfl (gq rfl) rfl (sp rfl rfl (sp rfl rfl (sp rfl rfl (sp rfl rfl (sl rfl G_hit rfl (sv rfl (sv rfl (s_nil (cc rfl h (fun c3 h => ?_) (fun c3 h => ?_))))))))))))
      · refine l_draw rfl fun u6 hu6 => sp rfl rfl (sp rfl rfl (sp rfl rfl (sp rfl rfl (sp rfl rfl (sd rfl (v_loadG rfl G_hit rfl rfl) (sp rfl rfl (sd rfl (v_loadG rfl (gq rfl) rfl rfl) (bs h fun v1 hv1 h => s_call rfl rfl all2_refl (convoy_Better_ok _ _  _ hv1) (.inl rfl) (sp rfl rfl (sp rfl rfl (sp rfl rfl (sst rfl G_hit [(di p1.Mate_.ID), (di p1.Mate_.S), (di p1.Mate_.V), (di p1.Mate_.Len), (di p1.Mate_.Ahead), (di p1.Mate_.Guess_.R), (di p1.Mate_.Guess_.V), (.d (bo p1.Mate_.Trust)), (di p1.Mate_.Ward), (di v1.R), (di v1.V), (di p1.Mate_.Until), (di p1.tick), (di p1.gap), (di p1.sight.By), (di p1.sight.Lo), (di p1.sight.Hi), (di p1.sight.VLo), (di p1.sight.VHi), (.d (bo p1.sees))] rfl (s_nil (l_end (l_nil ?_)))))))))))))))
        obtain rfl := Option.some.inj h
        exact fin_mf (.inl rfl) [] resDF0 (.refl _) ⟨⟨_, _, _, G_hit, old_notin_nil, rfl, all2_d, rfl⟩, trivial⟩
      · refine l_skip (l_end (l_nil ?_))
        obtain rfl := Option.some.inj h
        exact fin_mf (.inl rfl) [] resDF0 (.refl _) ⟨⟨_, _, _, G_hit, old_notin_nil, rfl, all2_d, rfl⟩, trivial⟩

noncomputable def convoy_mind_grant_oa (p1 : ConvoyMind) (p2 : ConvoyLetter) : Option ConvoyMind :=
  some p1

/-- (*kerbstone/convoy.mind).grant -/
def ac_convoy_mind_grant_oa : AC := (.reg [oo 3 (.box 125 true (.t 1))])
theorem fn_convoy_mind_grant_oa : FnOK Try.prog 129 4 [] ac_convoy_mind_grant_oa := ⟨_, _, Try.func129, rfl, Try.ntmps129, by kernel_rfl, ⟨fun _ => [], by kernel_rfl⟩, by kernel_rfl⟩
theorem convoy_mind_grant_oa_ok (p1 : ConvoyMind) (p2 : ConvoyLetter) (r : ConvoyMind) (h : convoy_mind_grant_oa p1 p2 = some r) : MCall Try.prog 129 [(.ptr (900000, 0) 0), (.d (.agg (eConvoyLetter p2)))] [(.box 107 (dConvoyMind p1))] (.d (.tup [])) [some (.box 107 (dConvoyMind r))] [] := by
  refine m_callF fn_convoy_mind_grant_oa rfl (nl rfl) ?_
  unfold convoy_mind_grant_oa at h
  unfold ac_convoy_mind_grant_oa
  refine l_sub (s0 := ⟨T [(0, (.ptr _ _)), (1, (.d _))], G [((900000, 0), some (.box 107 _))]⟩) (sbr rfl rfl) ?_
  refine l_reg fun u1 hu1 => sn rfl rfl (s_nil (l_nil ?_))
  obtain rfl := Option.some.inj h
  exact fin_mf (.inl rfl) [] resDF0 (.refl _) ⟨⟨_, _, _, (gq rfl), old_notin_nil, rfl, all2_d, rfl⟩, trivial⟩

noncomputable def convoy_mind_forget_o (p1 : ConvoyMind) : Option ConvoyMind :=
  some (ConvoyMind.mk (Mate.mk p1.Mate_.ID p1.Mate_.S p1.Mate_.V p1.Mate_.Len p1.Mate_.Ahead p1.Mate_.Guess_ p1.Mate_.Trust 0 (Guess.mk 0 0) 0) p1.tick p1.gap p1.sight p1.sees)

/-- (*kerbstone/convoy.mind).forget -/
def ac_convoy_mind_forget_o : AC := (.reg [oo 2 (.mv (.t 0)), oo 3 (.mv (.t 0)), oo 4 (.mv (.t 0)), oo 5 (.build [z0, z0] []), oo 6 (.nilck (.t 2)), oo 7 (.fieldA 0 (.t 6)), oo 8 (.fieldA 8 (.t 7)), oe (.store 1 (.t 8) (ci 0)), oo 9 (.nilck (.t 3)), oo 10 (.fieldA 0 (.t 9)), oo 11 (.fieldA 9 (.t 10)), oe (.store 2 (.t 11) (.t 5)), oo 12 (.nilck (.t 4)), oo 13 (.fieldA 0 (.t 12)), oo 14 (.fieldA 11 (.t 13)), oe (.store 1 (.t 14) (ci 0))])
theorem fn_convoy_mind_forget_o : FnOK Try.prog 113 15 [] ac_convoy_mind_forget_o := ⟨_, _, Try.func113, rfl, Try.ntmps113, by kernel_rfl, ⟨fun _ => [], by kernel_rfl⟩, by kernel_rfl⟩
theorem convoy_mind_forget_o_ok (p1 : ConvoyMind) (r : ConvoyMind) (h : convoy_mind_forget_o p1 = some r) : MCall Try.prog 113 [(.ptr (900000, 0) 0)] [(.box 107 (dConvoyMind p1))] (.d (.tup [])) [some (.box 107 (dConvoyMind r))] [] := by
  refine m_callF fn_convoy_mind_forget_o rfl (nl rfl) ?_
  unfold convoy_mind_forget_o at h
  unfold ac_convoy_mind_forget_o
  refine l_sub (s0 := ⟨T [(0, (.ptr _ _))], G [((900000, 0), some (.box 107 _))]⟩) (sbr rfl rfl) ?_
  refine l_reg fun u1 hu1 => sp rfl rfl (sp rfl rfl (sp rfl rfl (sv rfl (sp rfl rfl (sp rfl rfl (sp rfl rfl (sst rfl G_hit [(di p1.Mate_.ID), (di p1.Mate_.S), (di p1.Mate_.V), (di p1.Mate_.Len), (di p1.Mate_.Ahead), (di p1.Mate_.Guess_.R), (di p1.Mate_.Guess_.V), (.d (bo p1.Mate_.Trust)), (di 0), (di p1.Mate_.WardGuess.R), (di p1.Mate_.WardGuess.V), (di p1.Mate_.Until), (di p1.tick), (di p1.gap), (di p1.sight.By), (di p1.sight.Lo), (di p1.sight.Hi), (di p1.sight.VLo), (di p1.sight.VHi), (.d (bo p1.sees))] rfl (sp rfl rfl (sp rfl rfl (sp rfl rfl (sst rfl G_hit [(di p1.Mate_.ID), (di p1.Mate_.S), (di p1.Mate_.V), (di p1.Mate_.Len), (di p1.Mate_.Ahead), (di p1.Mate_.Guess_.R), (di p1.Mate_.Guess_.V), (.d (bo p1.Mate_.Trust)), (di 0), (di 0), (di 0), (di p1.Mate_.Until), (di p1.tick), (di p1.gap), (di p1.sight.By), (di p1.sight.Lo), (di p1.sight.Hi), (di p1.sight.VLo), (di p1.sight.VHi), (.d (bo p1.sees))] rfl (sp rfl rfl (sp rfl rfl (sp rfl rfl (sst rfl G_hit [(di p1.Mate_.ID), (di p1.Mate_.S), (di p1.Mate_.V), (di p1.Mate_.Len), (di p1.Mate_.Ahead), (di p1.Mate_.Guess_.R), (di p1.Mate_.Guess_.V), (.d (bo p1.Mate_.Trust)), (di 0), (di 0), (di 0), (di 0), (di p1.tick), (di p1.gap), (di p1.sight.By), (di p1.sight.Lo), (di p1.sight.Hi), (di p1.sight.VLo), (di p1.sight.VHi), (.d (bo p1.sees))] rfl (s_nil (l_nil ?_)))))))))))))))))
  obtain rfl := Option.some.inj h
  exact fin_mf (.inl rfl) [] resDF0 (.refl _) ⟨⟨_, _, _, G_hit, old_notin_nil, rfl, all2_d, rfl⟩, trivial⟩

noncomputable def convoy_mind_done_oa (p1 : ConvoyMind) (p2 : ConvoyLetter) : Option ConvoyMind :=
  cond (((p2.Note_.To != p1.Mate_.ID) || (p1.Mate_.Until == 0)) || (p2.Note_.From != p1.Mate_.Ward)) (some p1) ((cond (!p1.sees) ((convoy_Better p1.Mate_.WardGuess p2.guess).bind fun v1 => some (ConvoyMind.mk (Mate.mk p1.Mate_.ID p1.Mate_.S p1.Mate_.V p1.Mate_.Len p1.Mate_.Ward v1 true p1.Mate_.Ward p1.Mate_.WardGuess p1.Mate_.Until) p1.tick p1.gap p1.sight p1.sees)) (some (ConvoyMind.mk (Mate.mk p1.Mate_.ID p1.Mate_.S p1.Mate_.V p1.Mate_.Len p1.Mate_.Ward p1.Mate_.WardGuess true p1.Mate_.Ward p1.Mate_.WardGuess p1.Mate_.Until) p1.tick p1.gap p1.sight p1.sees))).bind fun y1 => (convoy_mind_forget_o y1).bind fun v2 => some v2)

/-- (*kerbstone/convoy.mind).done -/
def ac_convoy_mind_done_oa : AC := (.seq (.reg [oo 3 (.box 125 true (.t 1))]) (.seq (.seq (.draw [oo 4 (.fieldA 0 (.t 3)), oo 5 (.fieldA 2 (.t 4)), oo 6 (.load 1 false (.t 5)), oo 7 (.mv (.t 0)), oo 8 (.nilck (.t 7)), oo 9 (.fieldA 0 (.t 8)), oo 10 (.fieldA 0 (.t 9)), oo 11 (.load 1 false (.t 10)), oo 12 (.bin .neq (.t 6) (.t 11)), oo 13 (.mv (.t 12)), oh 14 (.mv (.t 0)) 13, oh 15 (.nilck (.t 14)) 13, oh 16 (.fieldA 0 (.t 15)) 13, oh 17 (.fieldA 11 (.t 16)) 13, oh 18 (.load 1 false (.t 17)) 13, oh 19 (.bin .eql (.t 18) (ci 0)) 13, oo 20 (.pick (.t 13) (.c (.v (.bool true))) (.t 19)), oo 21 (.mv (.t 20)), oh 22 (.fieldA 0 (.t 3)) 21, oh 23 (.fieldA 1 (.t 22)) 21, oh 24 (.load 1 false (.t 23)) 21, oh 25 (.mv (.t 0)) 21, oh 26 (.nilck (.t 25)) 21, oh 27 (.fieldA 0 (.t 26)) 21, oh 28 (.fieldA 8 (.t 27)) 21, oh 29 (.load 1 false (.t 28)) 21, oh 30 (.bin .neq (.t 24) (.t 29)) 21, oo 31 (.pick (.t 21) (.c (.v (.bool true))) (.t 30))] []) (.cond (.t 31) .ret .skip)) (.seq (.draw [oo 32 (.mv (.t 0)), oo 33 (.mv (.t 0)), oo 34 (.mv (.t 0)), oo 35 (.mv (.t 0)), oo 36 (.nilck (.t 35)), oo 37 (.fieldA 0 (.t 36)), oo 38 (.fieldA 8 (.t 37)), oo 39 (.load 1 false (.t 38)), oo 40 (.mv (.t 0)), oo 41 (.nilck (.t 40)), oo 42 (.fieldA 0 (.t 41)), oo 43 (.fieldA 9 (.t 42)), oo 44 (.load 2 true (.t 43)), oo 45 (.nilck (.t 32)), oo 46 (.fieldA 0 (.t 45)), oo 47 (.fieldA 4 (.t 46)), oe (.store 1 (.t 47) (.t 39)), oo 48 (.nilck (.t 33)), oo 49 (.fieldA 0 (.t 48)), oo 50 (.fieldA 5 (.t 49)), oe (.store 2 (.t 50) (.t 44)), oo 51 (.nilck (.t 34)), oo 52 (.fieldA 0 (.t 51)), oo 53 (.fieldA 7 (.t 52)), oe (.store 1 (.t 53) (.c (.v (.bool true))))] []) (.seq (.seq (.reg [oo 54 (.mv (.t 0)), oo 55 (.nilck (.t 54)), oo 56 (.fieldA 19 (.t 55)), oo 57 (.load 1 false (.t 56)), oo 58 (.un .not (.t 57))]) (.cond (.t 58) (.draw [oo 59 (.mv (.t 0)), oo 60 (.mv (.t 0)), oo 61 (.nilck (.t 60)), oo 62 (.fieldA 0 (.t 61)), oo 63 (.fieldA 9 (.t 62)), oo 64 (.load 2 true (.t 63)), oo 65 (.fieldA 7 (.t 3)), oo 66 (.load 2 true (.t 65)), oo 67 (.call (cf 19) [(.t 64), (.t 66)]), oo 68 (.nilck (.t 59)), oo 69 (.fieldA 0 (.t 68)), oo 70 (.fieldA 5 (.t 69)), oe (.store 2 (.t 70) (.t 67))] []) .skip)) (.reg [oo 71 (.mv (.t 0)), oo 72 (.ocall 10050010 (cf 113) [(.t 71)])])))))
theorem fn_convoy_mind_done_oa : FnOK Try.prog 130 73 [] ac_convoy_mind_done_oa := ⟨_, _, Try.func130, rfl, Try.ntmps130, by kernel_rfl, ⟨fun r => if r == 5 then [1005001] else [], by kernel_rfl⟩, by kernel_rfl⟩
set_option maxHeartbeats 4000000 in
theorem convoy_mind_done_oa_ok (p1 : ConvoyMind) (p2 : ConvoyLetter) (r : ConvoyMind) (h : convoy_mind_done_oa p1 p2 = some r) : MCall Try.prog 130 [(.ptr (900000, 0) 0), (.d (.agg (eConvoyLetter p2)))] [(.box 107 (dConvoyMind p1))] (.d (.tup [])) [some (.box 107 (dConvoyMind r))] [] := by
  refine m_callF fn_convoy_mind_done_oa rfl (nl rfl) ?_
  unfold convoy_mind_done_oa at h
  unfold ac_convoy_mind_done_oa
  refine l_sub (s0 := ⟨T [(0, (.ptr _ _)), (1, (.d _))], G [((900000, 0), some (.box 107 _))]⟩) (sbr rfl rfl) ?_
  refine lr (fun u1 hu1 => sn rfl rfl (s_nil (l_seq (l_seq (l_draw rfl fun u2 hu2 => sp rfl rfl (sp rfl rfl (sl rfl G_hit rfl (sp rfl rfl (sp rfl rfl (sp rfl rfl (sp rfl rfl (sl rfl (gq rfl) rfl (sv rfl (sv rfl (gp rfl (gw_f rfl) (fun _ => rfl) ?_)))))))))))))))
  refine g_val _ (.ptr _ _) rfl (gw_f rfl) (fun w2 => (by simp only [gd_pos w2]; rfl)) ?_
  refine g_val _ (.ptr _ _) rfl (gw_f rfl) (fun w3 => (by simp only [gd_pos w3]; rfl)) ?_
  refine g_val _ (.ptr _ _) rfl (gw_f rfl) (fun w4 => (by simp only [gd_pos w4]; rfl)) ?_
  refine gf rfl (vl rfl (gq rfl) rfl) (gf rfl (vb rfl rfl rfl) (sd rfl (v_or rfl rfl (fun hc => gd_pos (not_t hc))) (sv rfl (gp rfl (gw_f rfl) (fun _ => rfl) ?_))))
  refine g_val _ (.ptr _ _) rfl (gw_f rfl) (fun w8 => (by simp only [gd_pos w8]; rfl)) ?_
  refine gf rfl (vl rfl G_hit rfl) (gp rfl (gw_f rfl) (fun _ => rfl) ?_)
  refine g_val _ (.ptr _ _) rfl (gw_f rfl) (fun w11 => (by simp only [gd_pos w11]; rfl)) ?_
  refine g_val _ (.ptr _ _) rfl (gw_f rfl) (fun w12 => (by simp only [gd_pos w12]; rfl)) ?_
  refine g_val _ (.ptr _ _) rfl (gw_f rfl) (fun w13 => (by simp only [gd_pos w13]; rfl)) ?_
  refine gf rfl (vl rfl (gq rfl) rfl) (gf rfl (fun w15 => (v_bin (gd_pos w15) (gd_pos w15) rfl)) (sd rfl (v_or rfl rfl (fun hc => gd_pos (not_t hc))) (s_nil (cc rfl h (fun c1 h => ?_) (fun c1 h => ?_)))))
  · refine l_ret ?_
    obtain rfl := Option.some.inj h
    exact fin_mf (.inr rfl) [] resDF0 (.refl _) ⟨⟨_, _, _, (gq rfl), old_notin_nil, rfl, all2_d, rfl⟩, trivial⟩
  · refine l_skip (l_seq (l_sub (s0 := ⟨T [(0, (.ptr _ _)), (3, (.ptr _ _))], G [((900000, 0), some (.box 107 _)), ((3, u1), some (.box 125 _))]⟩) (sbr rfl rfl) ?_))
    refine l_draw rfl fun u3 hu3 => sp rfl rfl (sp rfl rfl (sp rfl rfl (sp rfl rfl (sp rfl rfl (sp rfl rfl (sp rfl rfl (sl rfl G_hit rfl (sp rfl rfl (sp rfl rfl (sp rfl rfl (sp rfl rfl (sd rfl (v_loadG rfl G_hit rfl rfl) (sp rfl rfl (sp rfl rfl (sp rfl rfl (sst rfl G_hit [(di p1.Mate_.ID), (di p1.Mate_.S), (di p1.Mate_.V), (di p1.Mate_.Len), (di p1.Mate_.Ward), (di p1.Mate_.Guess_.R), (di p1.Mate_.Guess_.V), (.d (bo p1.Mate_.Trust)), (di p1.Mate_.Ward), (di p1.Mate_.WardGuess.R), (di p1.Mate_.WardGuess.V), (di p1.Mate_.Until), (di p1.tick), (di p1.gap), (di p1.sight.By), (di p1.sight.Lo), (di p1.sight.Hi), (di p1.sight.VLo), (di p1.sight.VHi), (.d (bo p1.sees))] rfl (sp rfl rfl (sp rfl rfl (sp rfl rfl (sst rfl G_hit [(di p1.Mate_.ID), (di p1.Mate_.S), (di p1.Mate_.V), (di p1.Mate_.Len), (di p1.Mate_.Ward), (di p1.Mate_.WardGuess.R), (di p1.Mate_.WardGuess.V), (.d (bo p1.Mate_.Trust)), (di p1.Mate_.Ward), (di p1.Mate_.WardGuess.R), (di p1.Mate_.WardGuess.V), (di p1.Mate_.Until), (di p1.tick), (di p1.gap), (di p1.sight.By), (di p1.sight.Lo), (di p1.sight.Hi), (di p1.sight.VLo), (di p1.sight.VHi), (.d (bo p1.sees))] rfl (sp rfl rfl (sp rfl rfl (sp rfl rfl (sst rfl G_hit [(di p1.Mate_.ID), (di p1.Mate_.S), (di p1.Mate_.V), (di p1.Mate_.Len), (di p1.Mate_.Ward), (di p1.Mate_.WardGuess.R), (di p1.Mate_.WardGuess.V), (.d (bo true)), (di p1.Mate_.Ward), (di p1.Mate_.WardGuess.R), (di p1.Mate_.WardGuess.V), (di p1.Mate_.Until), (di p1.tick), (di p1.gap), (di p1.sight.By), (di p1.sight.Lo), (di p1.sight.Hi), (di p1.sight.VLo), (di p1.sight.VHi), (.d (bo p1.sees))] rfl (s_nil (l_seq (l_seq (l_sub (s0 := ⟨T [(0, (.ptr _ _)), (3, (.ptr _ _))], G [((900000, 0), some (.box 107 _)), ((3, u1), some (.box 125 _))]⟩) (sbr rfl rfl) ?_))))))))))))))))))))))))))))
    refine l_reg fun u4 hu4 => sp rfl rfl (sp rfl rfl (sp rfl rfl (sl rfl G_hit rfl (s_val (.d (bo (!p1.sees))) rfl rfl (s_nil (bs h fun y1 hy1 h => l_join (fun s => ∃ g1 : Unit, Sb ⟨T [(0, (.ptr (900000, 0) 0))], G [((900000, 0), some (.box 107 (dConvoyMind y1)))]⟩ s) ?_ ?_))))))
    · refine cc rfl hy1 (fun c2 hy1 => ?_) (fun c2 hy1 => ?_)
      · refine l_draw rfl fun u5 hu5 => sp rfl rfl (sp rfl rfl (sp rfl rfl (sp rfl rfl (sp rfl rfl (sd rfl (v_loadG rfl G_hit rfl rfl) (sp rfl rfl (sd rfl (v_loadG rfl (gq rfl) rfl rfl) (bs hy1 fun v1 hv1 hy1 => s_call rfl rfl all2_refl (convoy_Better_ok _ _  _ hv1) (.inl rfl) (sp rfl rfl (sp rfl rfl (sp rfl rfl (sst rfl G_hit [(di p1.Mate_.ID), (di p1.Mate_.S), (di p1.Mate_.V), (di p1.Mate_.Len), (di p1.Mate_.Ward), (di v1.R), (di v1.V), (.d (bo true)), (di p1.Mate_.Ward), (di p1.Mate_.WardGuess.R), (di p1.Mate_.WardGuess.V), (di p1.Mate_.Until), (di p1.tick), (di p1.gap), (di p1.sight.By), (di p1.sight.Lo), (di p1.sight.Hi), (di p1.sight.VLo), (di p1.sight.VHi), (.d (bo p1.sees))] rfl (s_nil ?_)))))))))))))
        obtain rfl := Option.some.inj hy1
        exact l_j ⟨(), (sbr rfl rfl)⟩
      · refine l_skip ?_
        obtain rfl := Option.some.inj hy1
        exact l_j ⟨(), (sbr rfl rfl)⟩
    · rintro _ ⟨g1, q1⟩
      refine l_sub q1 (l_reg fun u6 hu6 => sp rfl rfl (bs h fun v2 hv2 h => s_oc (v := .d (.tup [])) (us := [(900000, 0)]) (oc_m (convoy_mind_forget_o_ok _ _ hv2) [(900000, 0)] [(900000, 0)] _ (((900000, 0), some (.box 107 (dConvoyMind v2))) :: _) rfl all2_av (kl_cons (kr_ptr G_hit rfl) kl_nil) (live_cons G_hit live_nil) ⟨⟨_, G_hit, .of rfl⟩, trivial⟩ (fun _ h => h) nd1 rfl rfl rfl) (s_nil (l_nil ?_))))
      obtain rfl := Option.some.inj h
      exact fin_mf (.inl rfl) [] resDF0 (.refl _) ⟨⟨_, _, _, G_hit, old_notin_nil, rfl, all2_d, rfl⟩, trivial⟩

noncomputable def choose_convoy_mind_hail_oa (v : Nat) (p1 : ConvoyMind) (p2 : ConvoyLetter) : Option ConvoyMind :=
  cond (Nat.beq v 127) (convoy_mind_hail_oa p1 p2) (cond (Nat.beq v 128) (convoy_mind_ask_oa p1 p2) (cond (Nat.beq v 129) (convoy_mind_grant_oa p1 p2) (cond (Nat.beq v 130) (convoy_mind_done_oa p1 p2) (none))))

theorem choose_convoy_mind_hail_oa_ok (v : Nat) (p1 : ConvoyMind) (p2 : ConvoyLetter) (r : ConvoyMind) (h : choose_convoy_mind_hail_oa v p1 p2 = some r) : MCall Try.prog v [(.ptr (900000, 0) 0), (.d (.agg [(i64 p2.Note_.Kind), (i64 p2.Note_.From), (i64 p2.Note_.To), (i64 p2.Note_.Stamp), (i64 p2.Note_.R), (i64 p2.Note_.V), (i64 p2.Note_.Until), (i64 p2.guess.R), (i64 p2.guess.V)]))] [(.box 107 [(.d (i64 p1.Mate_.ID)), (.d (i64 p1.Mate_.S)), (.d (i64 p1.Mate_.V)), (.d (i64 p1.Mate_.Len)), (.d (i64 p1.Mate_.Ahead)), (.d (i64 p1.Mate_.Guess_.R)), (.d (i64 p1.Mate_.Guess_.V)), (.d (bo p1.Mate_.Trust)), (.d (i64 p1.Mate_.Ward)), (.d (i64 p1.Mate_.WardGuess.R)), (.d (i64 p1.Mate_.WardGuess.V)), (.d (i64 p1.Mate_.Until)), (.d (i64 p1.tick)), (.d (i64 p1.gap)), (.d (i64 p1.sight.By)), (.d (i64 p1.sight.Lo)), (.d (i64 p1.sight.Hi)), (.d (i64 p1.sight.VLo)), (.d (i64 p1.sight.VHi)), (.d (bo p1.sees))])] (.d (.tup [])) [some (.box 107 [(.d (i64 r.Mate_.ID)), (.d (i64 r.Mate_.S)), (.d (i64 r.Mate_.V)), (.d (i64 r.Mate_.Len)), (.d (i64 r.Mate_.Ahead)), (.d (i64 r.Mate_.Guess_.R)), (.d (i64 r.Mate_.Guess_.V)), (.d (bo r.Mate_.Trust)), (.d (i64 r.Mate_.Ward)), (.d (i64 r.Mate_.WardGuess.R)), (.d (i64 r.Mate_.WardGuess.V)), (.d (i64 r.Mate_.Until)), (.d (i64 r.tick)), (.d (i64 r.gap)), (.d (i64 r.sight.By)), (.d (i64 r.sight.Lo)), (.d (i64 r.sight.Hi)), (.d (i64 r.sight.VLo)), (.d (i64 r.sight.VHi)), (.d (bo r.sees))])] [] := by
  unfold choose_convoy_mind_hail_oa at h
  rcases disp_t h with ⟨rfl, h⟩ | ⟨_, h⟩
  · exact convoy_mind_hail_oa_ok _ _ r h
  rcases disp_t h with ⟨rfl, h⟩ | ⟨_, h⟩
  · exact convoy_mind_ask_oa_ok _ _ r h
  rcases disp_t h with ⟨rfl, h⟩ | ⟨_, h⟩
  · exact convoy_mind_grant_oa_ok _ _ r h
  rcases disp_t h with ⟨rfl, h⟩ | ⟨_, h⟩
  · exact convoy_mind_done_oa_ok _ _ r h
  cases h

noncomputable def convoy_mind_thinks_1_bb (p1 : ConvoyLetter) (p2 : ConvoyMind) : Option Bool :=
  some ((((p1.Note_.Kind == 2) && (p1.Note_.To == p2.Mate_.ID)) && (p1.Note_.From == p2.Mate_.Ward)) && (p1.Note_.From != p2.Mate_.ID))

/-- (*kerbstone/convoy.mind).thinks$1 -/
def ac_convoy_mind_thinks_1_bb : AC := (.seq (.reg [oo 2 (.box 125 true (.t 0)), oo 3 (.mv (.c zf))]) (.seq (.draw [oo 4 (.fieldA 0 (.t 2)), oo 5 (.fieldA 0 (.t 4)), oo 6 (.load 1 false (.t 5)), oo 7 (.bin .eql (.t 6) (ci 2)), oo 8 (.mv (.t 7)), og 9 (.fieldA 0 (.t 2)) 8, og 10 (.fieldA 2 (.t 9)) 8, og 11 (.load 1 false (.t 10)) 8, og 12 (.load 1 false (.t 1)) 8, og 13 (.nilck (.t 12)) 8, og 14 (.fieldA 0 (.t 13)) 8, og 15 (.fieldA 0 (.t 14)) 8, og 16 (.load 1 false (.t 15)) 8, og 17 (.bin .eql (.t 11) (.t 16)) 8, oo 18 (.pick (.t 8) (.t 17) (.c zf)), oo 19 (.mv (.t 18)), og 20 (.fieldA 0 (.t 2)) 19, og 21 (.fieldA 1 (.t 20)) 19, og 22 (.load 1 false (.t 21)) 19, og 23 (.load 1 false (.t 1)) 19, og 24 (.nilck (.t 23)) 19, og 25 (.fieldA 0 (.t 24)) 19, og 26 (.fieldA 8 (.t 25)) 19, og 27 (.load 1 false (.t 26)) 19, og 28 (.bin .eql (.t 22) (.t 27)) 19, oo 29 (.pick (.t 19) (.t 28) (.c zf)), oo 30 (.mv (.t 29)), og 31 (.fieldA 0 (.t 2)) 30, og 32 (.fieldA 1 (.t 31)) 30, og 33 (.load 1 false (.t 32)) 30, og 34 (.load 1 false (.t 1)) 30, og 35 (.nilck (.t 34)) 30, og 36 (.fieldA 0 (.t 35)) 30, og 37 (.fieldA 0 (.t 36)) 30, og 38 (.load 1 false (.t 37)) 30, og 39 (.bin .neq (.t 33) (.t 38)) 30, oo 40 (.pick (.t 30) (.t 39) (.c zf)), oo 3 (.mv (.t 40))] []) .ret))
theorem fn_convoy_mind_thinks_1_bb : FnOK Try.prog 111 41 [.t 3] ac_convoy_mind_thinks_1_bb := ⟨_, _, Try.func111, rfl, Try.ntmps111, by kernel_rfl, ⟨fun _ => [], by kernel_rfl⟩, by kernel_rfl⟩
theorem convoy_mind_thinks_1_bb_ok (p1 : ConvoyLetter) (p2 : ConvoyMind) (r : Bool) (h : convoy_mind_thinks_1_bb p1 p2 = some r) : PCall Try.prog 111 [(.agg (eConvoyLetter p1)), (.bp [(.bp (eConvoyMind p2) 0)] 0)] (bo r) := by
  refine l_call fn_convoy_mind_thinks_1_bb (nl rfl) ?_
  unfold convoy_mind_thinks_1_bb at h
  unfold ac_convoy_mind_thinks_1_bb
  refine l_sub (s0 := ⟨T [(0, (.d _)), (1, (.d _))], G []⟩) (sbr rfl rfl) ?_
  refine lr (fun u1 hu1 => sn rfl rfl (sv rfl (s_nil (l_seq (l_draw rfl fun u2 hu2 => sp rfl rfl (sp rfl rfl (sl rfl G_hit rfl (sv rfl (sv rfl (gp rfl (gw_t rfl) (fun _ => rfl) ?_))))))))))
  refine g_val _ (.ptr _ _) rfl (gw_t rfl) (fun w2 => (by simp only [gd_pos w2]; rfl)) ?_
  refine gt rfl (vl rfl G_hit rfl) (gt rfl (fun _ => rfl) ?_)
  refine gt rfl (fun w5 => (by simp only [gd_pos w5]; rfl)) ?_
  refine gt rfl (fun w6 => (by simp only [gd_pos w6]; rfl)) ?_
  refine gt rfl (fun w7 => (by simp only [gd_pos w7]; rfl)) ?_
  refine gt rfl (fun w8 => (by simp only [gd_pos w8]; rfl)) ?_
  refine gt rfl (fun w9 => (v_bin (gd_pos w9) (gd_pos w9) rfl)) (sa rfl rfl rfl (sv rfl (gp rfl (gw_t rfl) (fun _ => rfl) ?_)))
  refine g_val _ (.ptr _ _) rfl (gw_t rfl) (fun w11 => (by simp only [gd_pos w11]; rfl)) ?_
  refine gt rfl (vl rfl G_hit rfl) (gt rfl (fun _ => rfl) ?_)
  refine gt rfl (fun w14 => (by simp only [gd_pos w14]; rfl)) ?_
  refine gt rfl (fun w15 => (by simp only [gd_pos w15]; rfl)) ?_
  refine gt rfl (fun w16 => (by simp only [gd_pos w16]; rfl)) ?_
  refine gt rfl (fun w17 => (by simp only [gd_pos w17]; rfl)) ?_
  refine gt rfl (fun w18 => (v_bin (gd_pos w18) (gd_pos w18) rfl)) (sa rfl rfl rfl (sv rfl (gp rfl (gw_t rfl) (fun _ => rfl) ?_)))
  refine g_val _ (.ptr _ _) rfl (gw_t rfl) (fun w20 => (by simp only [gd_pos w20]; rfl)) ?_
  refine gt rfl (vl rfl G_hit rfl) (gt rfl (fun _ => rfl) ?_)
  refine gt rfl (fun w23 => (by simp only [gd_pos w23]; rfl)) ?_
  refine gt rfl (fun w24 => (by simp only [gd_pos w24]; rfl)) ?_
  refine gt rfl (fun w25 => (by simp only [gd_pos w25]; rfl)) ?_
  refine gt rfl (fun w26 => (by simp only [gd_pos w26]; rfl)) ?_
  refine gt rfl (fun w27 => (v_bin (gd_pos w27) (gd_pos w27) rfl)) (sa rfl rfl rfl (sv rfl (s_nil (l_ret ?_))))
  obtain rfl := Option.some.inj h
  exact fin_ok (.inr rfl) (resD1 (res_t rfl) rf_d) (.refl _)

noncomputable def slices_IndexFunc_letter_letter_convoy_mind_thinks_1bb_l1 (p1 : (List ConvoyLetter)) (p2 : ConvoyMind) (x1 : Int) : Option (Stp Int (Sum Unit Int)) :=
  cond (decide (x1 < (p1.length : Int))) ((geti p1 x1).bind fun v1 => (convoy_mind_thinks_1_bb v1 p2).bind fun v2 => cond v2 (some (.out (.inr x1))) (some (.go (w64 (x1 + 1))))) (some (.out (.inl ())))
noncomputable def slices_IndexFunc_letter_letter_convoy_mind_thinks_1bb (p1 : (List ConvoyLetter)) (p2 : ConvoyMind) : Option Int :=
  thenS (loop (slices_IndexFunc_letter_letter_convoy_mind_thinks_1bb_l1 p1 p2) 0) (fun _ => some (-1)) (fun r => some r)

/-- slices.IndexFunc[[]kerbstone/convoy.letter,kerbstone/convoy.letter] -/
def ac_slices_IndexFunc_letter_letter_convoy_mind_thinks_1bb : AC := (.seq (.reg [oo 4 (.mv (ci 0))]) (.seq (.seq (.reg [oo 6 (.mv (.t 0)), oo 7 (.len (.t 6)), oo 8 (.mv (ci 0))]) (.block 0 (.loop (.seq (.reg [oo 9 (.bin .lss (.t 8) (.t 7))]) (.seq (.cond (.t 9) .skip (.exit 0)) (.seq (.block 1 (.seq (.reg [oo 10 (.mv (.t 8)), oo 5 (.mv (.t 10))]) (.seq (.reg [oo 11 (.mv (.t 1)), oo 12 (.mv (.t 0)), oo 13 (.mv (.t 5)), oo 14 (.idxS 9 (.t 12) (.t 13)), oo 15 (.load 9 true (.t 14)), oo 16 (.call (.t 11) [(.t 15)])]) (.cond (.t 16) (.seq (.reg [oo 17 (.mv (.t 5)), oo 4 (.mv (.t 17))]) .ret) .skip)))) (.reg [oo 18 (.bin .add (.t 8) (ci 1)), oo 8 (.mv (.t 18))]))))))) (.seq (.reg [oo 4 (.mv (ci (-1)))]) .ret)))
theorem fn_slices_IndexFunc_letter_letter_convoy_mind_thinks_1bb : FnOK Try.prog 131 19 [.t 4] ac_slices_IndexFunc_letter_letter_convoy_mind_thinks_1bb := ⟨_, _, Try.func131, rfl, Try.ntmps131, by kernel_rfl, ⟨fun _ => [], by kernel_rfl⟩, by kernel_rfl⟩
set_option maxHeartbeats 4000000 in
theorem slices_IndexFunc_letter_letter_convoy_mind_thinks_1bb_ok (p1 : (List ConvoyLetter)) (p2 : ConvoyMind) (r : Int) (h : slices_IndexFunc_letter_letter_convoy_mind_thinks_1bb p1 p2 = some r) : PCall Try.prog 131 [(.list (List.map eConvoyLetter p1)), (.fn (.func 111) [] [(.bp [(.bp (eConvoyMind p2) 0)] 0)])] (i64 r) := by
  refine l_call fn_slices_IndexFunc_letter_letter_convoy_mind_thinks_1bb (nl rfl) ?_
  unfold slices_IndexFunc_letter_letter_convoy_mind_thinks_1bb at h
  unfold ac_slices_IndexFunc_letter_letter_convoy_mind_thinks_1bb
  refine l_sub (s0 := ⟨T [(0, (.d _)), (1, (.d _))], G []⟩) (sbr rfl rfl) ?_
  refine lr (fun u1 hu1 => sv rfl (s_nil (l_seq (lr (fun u2 hu2 => sv rfl (sd rfl (v_len rfl) (sv rfl (s_nil (js h fun z1 hz1 h => l_join (fun s => ∃ (y1 : Unit) (g1 : Unit), z1 = .inl y1 ∧ Sb ⟨T [], G []⟩ s) ?_ ?_)))))))))
  · refine l_block (l_loop (slices_IndexFunc_letter_letter_convoy_mind_thinks_1bb_l1 p1 p2) (fun (x1 : Int) (g2 : Unit) => ⟨T [(0, (dl eConvoyLetter p1)), (1, (.d (.fn (.func 111) [] [(.bp [(.bp (eConvoyMind p2) 0)] 0)]))), (7, (di (p1.length : Int))), (8, (di x1))], G []⟩) 0 () _ hz1 (sbr rfl rfl) ?_)
    intro x1 g2 z2 hz2 ez2
    unfold slices_IndexFunc_letter_letter_convoy_mind_thinks_1bb_l1 at hz2
    refine lr (fun u3 hu3 => sv rfl (s_nil (l_seq (cc rfl hz2 (fun c1 hz2 => ?_) (fun c1 hz2 => ?_)))))
    · refine l_skip (l_seq (l_block (lr (fun u4 hu4 => sv rfl (sv rfl (s_nil (lr (fun u5 hu5 => sv rfl (sv rfl (sv rfl (bs hz2 fun v1 hv1 hz2 => sd rfl (v_idx rfl rfl hv1 rfl) (sd rfl (v_loadLG rfl hv1 rfl rfl) (bs hz2 fun v2 hv2 hz2 => s_call rfl rfl all2_refl (convoy_mind_thinks_1_bb_ok _ _  _ hv2) (.inl rfl) (s_nil (cc rfl hz2 (fun c2 hz2 => ?_) (fun c2 hz2 => ?_))))))))))))))))
      · refine lr (fun u6 hu6 => sv rfl (sv rfl (s_nil (l_ret ?_))))
        obtain rfl := Option.some.inj hz2
        obtain rfl := ez2 _ rfl
        refine ⟨nofun, awl_ret ?_⟩
        rw [Sum.elim_inr] at h
        obtain rfl := Option.some.inj h
        exact fin_ok (.inr rfl) (resD1 (res_t rfl) rf_d) (.refl _)
      · refine l_skip (l_end (l_reg fun u7 hu7 => sv rfl (sv rfl (s_nil (l_nil ?_)))))
        obtain rfl := Option.some.inj hz2
        exact ⟨rfl, (), (sbr rfl rfl)⟩
    · refine l_exitN rfl ?_
      obtain rfl := Option.some.inj hz2
      obtain rfl := ez2 _ rfl
      refine ⟨nofun, awl_pop rfl (l_j ?_)⟩
      exact ⟨_, (), rfl, (sbr rfl rfl)⟩
  · rintro _ ⟨y1, g1, rfl, q1⟩
    rw [Sum.elim_inl] at h
    refine l_sub q1 (lr (fun u8 hu8 => sv rfl (s_nil (l_ret ?_))))
    obtain rfl := Option.some.inj h
    exact fin_ok (.inr rfl) (resD1 (res_t rfl) rf_d) (.refl _)

noncomputable def slices_ContainsFunc_letter_letter_convoy_mind_thinks_1bb (p1 : (List ConvoyLetter)) (p2 : ConvoyMind) : Option Bool :=
  (slices_IndexFunc_letter_letter_convoy_mind_thinks_1bb p1 p2).bind fun v1 => some (decide (v1 ≥ 0))

/-- slices.ContainsFunc[[]kerbstone/convoy.letter,kerbstone/convoy.letter] -/
def ac_slices_ContainsFunc_letter_letter_convoy_mind_thinks_1bb : AC := (.seq (.reg [oo 4 (.mv (.c zf))]) (.seq (.reg [oo 5 (.mv (.t 0)), oo 6 (.mv (.t 1)), oo 7 (.call (cf 131) [(.t 5), (.t 6)]), oo 8 (.bin .geq (.t 7) (ci 0)), oo 4 (.mv (.t 8))]) .ret))
theorem fn_slices_ContainsFunc_letter_letter_convoy_mind_thinks_1bb : FnOK Try.prog 112 9 [.t 4] ac_slices_ContainsFunc_letter_letter_convoy_mind_thinks_1bb := ⟨_, _, Try.func112, rfl, Try.ntmps112, by kernel_rfl, ⟨fun _ => [], by kernel_rfl⟩, by kernel_rfl⟩
theorem slices_ContainsFunc_letter_letter_convoy_mind_thinks_1bb_ok (p1 : (List ConvoyLetter)) (p2 : ConvoyMind) (r : Bool) (h : slices_ContainsFunc_letter_letter_convoy_mind_thinks_1bb p1 p2 = some r) : PCall Try.prog 112 [(.list (List.map eConvoyLetter p1)), (.fn (.func 111) [] [(.bp [(.bp (eConvoyMind p2) 0)] 0)])] (bo r) := by
  refine l_call fn_slices_ContainsFunc_letter_letter_convoy_mind_thinks_1bb (nl rfl) ?_
  unfold slices_ContainsFunc_letter_letter_convoy_mind_thinks_1bb at h
  unfold ac_slices_ContainsFunc_letter_letter_convoy_mind_thinks_1bb
  refine l_sub (s0 := ⟨T [(0, (.d _)), (1, (.d _))], G []⟩) (sbr rfl rfl) ?_
  refine lr (fun u1 hu1 => sv rfl (s_nil (lr (fun u2 hu2 => sv rfl (sv rfl (bs h fun v1 hv1 h => s_call rfl rfl all2_refl (slices_IndexFunc_letter_letter_convoy_mind_thinks_1bb_ok _ _  _ hv1) (.inl rfl) (sv rfl (sv rfl (s_nil (l_ret ?_))))))))))
  obtain rfl := Option.some.inj h
  exact fin_ok (.inr rfl) (resD1 (res_t rfl) rf_d) (.refl _)

noncomputable def convoy_mind_thinks_o_l1 (p2 : (List ConvoyLetter)) (x1 : (Int × ConvoyMind)) : Option (Stp (Int × ConvoyMind) ConvoyMind) :=
  cond (decide (x1.1 < (p2.length : Int))) ((geti p2 x1.1).bind fun v1 => cond (v1.Note_.From != x1.2.Mate_.ID) ((convoy_hears v1.Note_.Kind).bind fun v2 => (choose_convoy_mind_hail_oa v2 x1.2 v1).bind fun v3 => some (.go ((w64 (x1.1 + 1)), v3))) (some (.go ((w64 (x1.1 + 1)), x1.2)))) (some (.out x1.2))
noncomputable def convoy_mind_thinks_o (p1 : ConvoyMind) (p2 : (List ConvoyLetter)) : Option ConvoyMind :=
  (loop (convoy_mind_thinks_o_l1 p2) (0, p1)).bind fun y1 => ((cond ((y1.Mate_.Ward != 0) && (y1.Mate_.Until == 0)) (slices_ContainsFunc_letter_letter_convoy_mind_thinks_1bb p2 y1) (some default))).bind fun v4 => (cond (((y1.Mate_.Ward != 0) && (y1.Mate_.Until == 0)) && (!v4)) ((convoy_mind_forget_o y1).bind fun v5 => some v5) (some y1)).bind fun y2 => (cond (y2.sees && (y2.Mate_.Ahead != 0)) ((convoy_Better y2.Mate_.Guess_ (Guess.mk y2.sight.Lo y2.sight.VLo)).bind fun v6 => some (ConvoyMind.mk (Mate.mk y2.Mate_.ID y2.Mate_.S y2.Mate_.V y2.Mate_.Len y2.Mate_.Ahead v6 y2.Mate_.Trust y2.Mate_.Ward y2.Mate_.WardGuess y2.Mate_.Until) y2.tick y2.gap y2.sight y2.sees)) (some y2)).bind fun y3 => ((cond ((y3.Mate_.Ward != 0) && (y3.Mate_.Until == 0)) (convoy_Safe y3.Mate_.S y3.Mate_.V y3.gap y3.Mate_.WardGuess) (some default))).bind fun v7 => cond (((y3.Mate_.Ward != 0) && (y3.Mate_.Until == 0)) && v7) (some (ConvoyMind.mk (Mate.mk y3.Mate_.ID y3.Mate_.S y3.Mate_.V y3.Mate_.Len y3.Mate_.Ahead y3.Mate_.Guess_ y3.Mate_.Trust y3.Mate_.Ward y3.Mate_.WardGuess (w64 (y3.tick + 30))) y3.tick y3.gap y3.sight y3.sees)) (some y3)

/-- (*kerbstone/convoy.mind).thinks -/
def ac_convoy_mind_thinks_o : AC := (.seq (.reg [oo 2 (.box 105 false (.t 0))]) (.seq (.seq (.reg [oo 7 (.mv (.t 1)), oo 8 (.len (.t 7)), oo 9 (.mv (ci 0))]) (.block 0 (.loop (.seq (.reg [oo 10 (.bin .lss (.t 9) (.t 8))]) (.seq (.cond (.t 10) .skip (.exit 0)) (.seq (.block 1 (.seq (.reg [oo 11 (.idxS 9 (.t 7) (.t 9)), oo 12 (.load 9 true (.t 11)), oo 5 (.alloc 125 [z0, z0, z0, z0, z0, z0, z0, z0, z0]), oe (.store 9 (.t 5) (.t 12))]) (.seq (.draw [oo 13 (.fieldA 0 (.t 5)), oo 14 (.fieldA 1 (.t 13)), oo 15 (.load 1 false (.t 14)), oo 16 (.load 1 false (.t 2)), oo 17 (.nilck (.t 16)), oo 18 (.fieldA 0 (.t 17)), oo 19 (.fieldA 0 (.t 18)), oo 20 (.load 1 false (.t 19)), oo 21 (.bin .neq (.t 15) (.t 20))] []) (.cond (.t 21) (.draw [oo 22 (.fieldA 0 (.t 5)), oo 23 (.fieldA 0 (.t 22)), oo 24 (.load 1 false (.t 23)), oo 25 (.call (cf 110) [(.t 24)]), oo 26 (.load 1 false (.t 2)), oo 27 (.load 9 true (.t 5)), oo 28 (.ocall 10050060 (.t 25) [(.t 26), (.t 27)])] []) .skip)))) (.reg [oo 29 (.bin .add (.t 9) (ci 1)), oo 9 (.mv (.t 29))]))))))) (.seq (.reg [oo 30 (.mkfn (.func 111) [] [(.t 2)]), oo 6 (.mv (.t 30))]) (.seq (.seq (.reg [oo 31 (.load 1 false (.t 2)), oo 32 (.nilck (.t 31)), oo 33 (.fieldA 0 (.t 32)), oo 34 (.fieldA 8 (.t 33)), oo 35 (.load 1 false (.t 34)), oo 36 (.bin .neq (.t 35) (ci 0)), oo 37 (.mv (.t 36)), og 38 (.load 1 false (.t 2)) 37, og 39 (.nilck (.t 38)) 37, og 40 (.fieldA 0 (.t 39)) 37, og 41 (.fieldA 11 (.t 40)) 37, og 42 (.load 1 false (.t 41)) 37, og 43 (.bin .eql (.t 42) (ci 0)) 37, oo 44 (.pick (.t 37) (.t 43) (.c zf)), oo 45 (.mv (.t 44)), og 46 (.mv (.t 1)) 45, og 47 (.mv (.t 6)) 45, og 48 (.call (cf 112) [(.t 46), (.t 47)]) 45, og 49 (.un .not (.t 48)) 45, oo 50 (.pick (.t 45) (.t 49) (.c zf))]) (.cond (.t 50) (.reg [oo 51 (.load 1 false (.t 2)), oo 52 (.ocall 10090010 (cf 113) [(.t 51)])]) .skip)) (.seq (.seq (.reg [oo 53 (.load 1 false (.t 2)), oo 54 (.nilck (.t 53)), oo 55 (.fieldA 19 (.t 54)), oo 56 (.load 1 false (.t 55)), oo 57 (.mv (.t 56)), og 58 (.load 1 false (.t 2)) 57, og 59 (.nilck (.t 58)) 57, og 60 (.fieldA 0 (.t 59)) 57, og 61 (.fieldA 4 (.t 60)) 57, og 62 (.load 1 false (.t 61)) 57, og 63 (.bin .neq (.t 62) (ci 0)) 57, oo 64 (.pick (.t 57) (.t 63) (.c zf))]) (.cond (.t 64) (.draw [oo 65 (.load 1 false (.t 2)), oo 66 (.load 1 false (.t 2)), oo 67 (.nilck (.t 66)), oo 68 (.fieldA 0 (.t 67)), oo 69 (.fieldA 5 (.t 68)), oo 70 (.load 2 true (.t 69)), oo 71 (.load 1 false (.t 2)), oo 72 (.nilck (.t 71)), oo 73 (.fieldA 14 (.t 72)), oo 74 (.fieldA 1 (.t 73)), oo 75 (.load 1 false (.t 74)), oo 76 (.load 1 false (.t 2)), oo 77 (.nilck (.t 76)), oo 78 (.fieldA 14 (.t 77)), oo 79 (.fieldA 3 (.t 78)), oo 80 (.load 1 false (.t 79)), oo 81 (.build [z0, z0] [(0, 1, (.t 75)), (1, 1, (.t 80))]), oo 82 (.call (cf 19) [(.t 70), (.t 81)]), oo 83 (.nilck (.t 65)), oo 84 (.fieldA 0 (.t 83)), oo 85 (.fieldA 5 (.t 84)), oe (.store 2 (.t 85) (.t 82))] []) .skip)) (.seq (.draw [oo 86 (.load 1 false (.t 2)), oo 87 (.nilck (.t 86)), oo 88 (.fieldA 0 (.t 87)), oo 89 (.fieldA 8 (.t 88)), oo 90 (.load 1 false (.t 89)), oo 91 (.bin .neq (.t 90) (ci 0)), oo 92 (.mv (.t 91)), og 93 (.load 1 false (.t 2)) 92, og 94 (.nilck (.t 93)) 92, og 95 (.fieldA 0 (.t 94)) 92, og 96 (.fieldA 11 (.t 95)) 92, og 97 (.load 1 false (.t 96)) 92, og 98 (.bin .eql (.t 97) (ci 0)) 92, oo 99 (.pick (.t 92) (.t 98) (.c zf)), oo 100 (.mv (.t 99)), og 101 (.load 1 false (.t 2)) 100, og 102 (.nilck (.t 101)) 100, og 103 (.fieldA 0 (.t 102)) 100, og 104 (.fieldA 1 (.t 103)) 100, og 105 (.load 1 false (.t 104)) 100, og 106 (.load 1 false (.t 2)) 100, og 107 (.nilck (.t 106)) 100, og 108 (.fieldA 0 (.t 107)) 100, og 109 (.fieldA 2 (.t 108)) 100, og 110 (.load 1 false (.t 109)) 100, og 111 (.load 1 false (.t 2)) 100, og 112 (.nilck (.t 111)) 100, og 113 (.fieldA 13 (.t 112)) 100, og 114 (.load 1 false (.t 113)) 100, og 115 (.load 1 false (.t 2)) 100, og 116 (.nilck (.t 115)) 100, og 117 (.fieldA 0 (.t 116)) 100, og 118 (.fieldA 9 (.t 117)) 100, og 119 (.load 2 true (.t 118)) 100, og 120 (.call (cf 21) [(.t 105), (.t 110), (.t 114), (.t 119)]) 100, oo 121 (.pick (.t 100) (.t 120) (.c zf))] []) (.cond (.t 121) (.draw [oo 122 (.load 1 false (.t 2)), oo 123 (.load 1 false (.t 2)), oo 124 (.nilck (.t 123)), oo 125 (.fieldA 12 (.t 124)), oo 126 (.load 1 false (.t 125)), oo 127 (.bin .add (.t 126) (ci 30)), oo 128 (.nilck (.t 122)), oo 129 (.fieldA 0 (.t 128)), oo 130 (.fieldA 11 (.t 129)), oe (.store 1 (.t 130) (.t 127))] []) .skip)))))))
theorem fn_convoy_mind_thinks_o : FnOK Try.prog 88 131 [] ac_convoy_mind_thinks_o := ⟨_, _, Try.func88, rfl, Try.ntmps88, by kernel_rfl, ⟨fun r => if r == 5 then [1005006] else if r == 9 then [1009001] else [], by kernel_rfl⟩, by kernel_rfl⟩
set_option maxHeartbeats 4000000 in
theorem convoy_mind_thinks_o_ok (p1 : ConvoyMind) (p2 : (List ConvoyLetter)) (r : ConvoyMind) (h : convoy_mind_thinks_o p1 p2 = some r) : MCall Try.prog 88 [(.ptr (900000, 0) 0), (dl eConvoyLetter p2)] [(.box 107 (dConvoyMind p1))] (.d (.tup [])) [some (.box 107 (dConvoyMind r))] [] := by
  refine m_callF fn_convoy_mind_thinks_o rfl (nl rfl) ?_
  unfold convoy_mind_thinks_o at h
  unfold ac_convoy_mind_thinks_o
  refine l_sub (s0 := ⟨T [(0, (.ptr _ _)), (1, (.d _))], G [((900000, 0), some (.box 107 _))]⟩) (sbr rfl rfl) ?_
  refine lr (fun u1 hu1 => sn rfl rfl (s_nil (l_seq (lr (fun u2 hu2 => sv rfl (sd rfl (v_len rfl) (sv rfl (s_nil (bs h fun y1 hy1 h => l_join (fun s => ∃ g1 : Unit, Sb ⟨T [(0, (.ptr (900000, 0) 0)), (1, (dl eConvoyLetter p2)), (2, (.ptr (2, u1) 0))], G [((900000, 0), some (.box 107 (dConvoyMind y1))), ((2, u1), some (.box 105 [(.ptr (900000, 0) 0)]))]⟩ s) ?_ ?_)))))))))
  · refine l_block (l_loop (convoy_mind_thinks_o_l1 p2) (fun (x1 : (Int × ConvoyMind)) (g2 : Unit) => ⟨T [(0, (.ptr (900000, 0) 0)), (1, (dl eConvoyLetter p2)), (2, (.ptr (2, u1) 0)), (7, (dl eConvoyLetter p2)), (8, (di (p2.length : Int))), (9, (di x1.1))], G [((900000, 0), some (.box 107 (dConvoyMind x1.2))), ((2, u1), some (.box 105 [(.ptr (900000, 0) 0)]))]⟩) (0, p1) () _ hy1 (sbr rfl rfl) ?_)
    intro x1 g2 z1 hz1 ez1
    unfold convoy_mind_thinks_o_l1 at hz1
    refine lr (fun u3 hu3 => sv rfl (s_nil (l_seq (cc rfl hz1 (fun c1 hz1 => ?_) (fun c1 hz1 => ?_)))))
    · refine l_skip (l_seq (l_block (lr (fun u4 hu4 => bs hz1 fun v1 hv1 hz1 => sd rfl (v_idx rfl rfl hv1 rfl) (sd rfl (v_loadLG rfl hv1 rfl rfl) (sn rfl rfl (sst rfl G_hit (dConvoyLetter v1) rfl (s_nil (l_seq (l_draw rfl fun u5 hu5 => sp rfl rfl (sp rfl rfl (sl rfl G_hit rfl (sp rfl (v_load rfl (gq rfl) rfl) (sp rfl rfl (sp rfl rfl (sp rfl rfl (sl rfl (gq rfl) rfl (sv rfl (s_nil (cc rfl hz1 (fun c2 hz1 => ?_) (fun c2 hz1 => ?_)))))))))))))))))))))
      · refine l_sub (s0 := ⟨T [(0, (.ptr _ _)), (1, (.d _)), (2, (.ptr _ _)), (5, (.ptr _ _)), (7, (.d _)), (8, (.d _)), (9, (.d _))], G [((900000, 0), some (.box 107 _)), ((2, u1), some (.box 105 _)), ((5, u4), some (.box 125 _))]⟩) (sbr rfl rfl) ?_
        refine l_draw rfl fun u6 hu6 => sp rfl rfl (sp rfl rfl (sl rfl (gq rfl) rfl (bs hz1 fun v2 hv2 hz1 => s_call rfl rfl all2_refl (convoy_hears_ok _  _ hv2) (.inl rfl) (sp rfl (v_load rfl (gq rfl) rfl) (sd rfl (v_loadG rfl (gq rfl) rfl rfl) (bs hz1 fun v3 hv3 hz1 => s_oc (v := .d (.tup [])) (us := [(900000, 0)]) (oc_m (choose_convoy_mind_hail_oa_ok _ _ _ _ hv3) [(900000, 0)] [(900000, 0)] _ (((900000, 0), some (.box 107 (dConvoyMind v3))) :: _) rfl all2_av (kl_cons (kr_ptr G_hit rfl) (kl_cons kr_d kl_nil)) (live_cons G_hit live_nil) ⟨⟨_, G_hit, .of rfl⟩, trivial⟩ (fun _ h => h) nd1 rfl rfl rfl) (s_nil (l_end (l_reg fun u7 hu7 => sv rfl (sv rfl (s_nil (l_nil ?_))))))))))))
        obtain rfl := Option.some.inj hz1
        exact ⟨rfl, (), (sbr rfl rfl)⟩
      · refine l_skip (l_end (l_sub (s0 := ⟨T [(0, (.ptr _ _)), (1, (.d _)), (2, (.ptr _ _)), (7, (.d _)), (8, (.d _)), (9, (.d _))], G [((900000, 0), some (.box 107 _)), ((2, u1), some (.box 105 _))]⟩) (sbr rfl rfl) ?_))
        refine l_reg fun u8 hu8 => sv rfl (sv rfl (s_nil (l_nil ?_)))
        obtain rfl := Option.some.inj hz1
        exact ⟨rfl, (), (sbr rfl rfl)⟩
    · refine l_exitN rfl ?_
      obtain rfl := Option.some.inj hz1
      obtain rfl := ez1 _ rfl
      refine ⟨nofun, awl_pop rfl (l_j ?_)⟩
      exact ⟨(), (sbr rfl rfl)⟩
  · rintro _ ⟨g1, q1⟩
    refine l_sub q1 (lr (fun u9 hu9 => s_val (.fn _ _ _) rfl rfl (s_val (.fn _ _ _) rfl rfl (s_nil (l_seq (lr (fun u10 hu10 => sp rfl (v_load rfl (gq rfl) rfl) (sp rfl rfl (sp rfl rfl (sp rfl rfl (sl rfl G_hit rfl (sv rfl (sv rfl (g_val _ (.ptr _ _) rfl (gw_t rfl) (fun w1 => (v_load rfl (gq rfl) rfl)) ?_))))))))))))))
    refine g_val _ (.ptr _ _) rfl (gw_t rfl) (fun w2 => (by simp only [gd_pos w2]; rfl)) ?_
    refine g_val _ (.ptr _ _) rfl (gw_t rfl) (fun w3 => (by simp only [gd_pos w3]; rfl)) ?_
    refine g_val _ (.ptr _ _) rfl (gw_t rfl) (fun w4 => (by simp only [gd_pos w4]; rfl)) ?_
    refine gt rfl (vl rfl G_hit rfl) (gt rfl (vb rfl rfl rfl) (sa rfl rfl rfl (sv rfl (gt rfl (fun _ => rfl) (g_val _ (.fn _ _ _) rfl (gw_t rfl) (fun _ => rfl) (bs h fun v4 hv4 h => ?_))))))
    refine g_call _ (bo v4) (gw_t rfl) (fun w9 => ⟨_, [(dl eConvoyLetter p2), (.fn (.func 111) [] [(.ptr (2, u1) 0)])], _, _, (by simp only [gd_pos w9]; rfl), (rfL_cons rf_d (rfL_cons (rf_fn rfL_nil (rfL_cons (rf_ptr (gq rfl) (rfL_cons (rf_ptr G_hit (rfL_cons rf_d (rfL_cons rf_d (rfL_cons rf_d (rfL_cons rf_d (rfL_cons rf_d (rfL_cons rf_d (rfL_cons rf_d (rfL_cons rf_d (rfL_cons rf_d (rfL_cons rf_d (rfL_cons rf_d (rfL_cons rf_d (rfL_cons rf_d (rfL_cons rf_d (rfL_cons rf_d (rfL_cons rf_d (rfL_cons rf_d (rfL_cons rf_d (rfL_cons rf_d (rfL_cons rf_d rfL_nil))))))))))))))))))))) rfL_nil)) rfL_nil)) rfL_nil)), all2_refl, slices_ContainsFunc_letter_letter_convoy_mind_thinks_1bb_ok _ _  _ (cond_t w9 hv4), (.inr rfl)⟩) ?_
    refine g_val _ (.d (bo (!v4))) rfl (gw_t rfl) (fun w10 => (by simp only [gd_pos w10]; rfl)) ?_
    refine sa rfl rfl rfl (s_nil (bs h fun y2 hy2 h => l_join (fun s => ∃ g3 : Unit, Sb ⟨T [(0, (.ptr (900000, 0) 0)), (2, (.ptr (2, u1) 0))], G [((900000, 0), some (.box 107 (dConvoyMind y2))), ((2, u1), some (.box 105 [(.ptr (900000, 0) 0)]))]⟩ s) ?_ ?_))
    · refine cc rfl hy2 (fun c3 hy2 => ?_) (fun c3 hy2 => ?_)
      · refine l_sub (s0 := ⟨T [(0, (.ptr _ _)), (2, (.ptr _ _))], G [((900000, 0), some (.box 107 _)), ((2, u1), some (.box 105 _))]⟩) (sbr rfl rfl) ?_
        refine l_reg fun u11 hu11 => sp rfl (v_load rfl (gq rfl) rfl) (bs hy2 fun v5 hv5 hy2 => s_oc (v := .d (.tup [])) (us := [(900000, 0)]) (oc_m (convoy_mind_forget_o_ok _ _ hv5) [(900000, 0)] [(900000, 0)] _ (((900000, 0), some (.box 107 (dConvoyMind v5))) :: _) rfl all2_av (kl_cons (kr_ptr G_hit rfl) kl_nil) (live_cons G_hit live_nil) ⟨⟨_, G_hit, .of rfl⟩, trivial⟩ (fun _ h => h) nd1 rfl rfl rfl) (s_nil ?_))
        obtain rfl := Option.some.inj hy2
        exact l_j ⟨(), (sbr rfl rfl)⟩
      · refine l_skip ?_
        obtain rfl := Option.some.inj hy2
        exact l_j ⟨(), (sbr rfl rfl)⟩
    · rintro _ ⟨g3, q2⟩
      refine l_sub q2 (l_seq (lr (fun u12 hu12 => sp rfl (v_load rfl (gq rfl) rfl) (sp rfl rfl (sp rfl rfl (sl rfl G_hit rfl (sv rfl (g_val _ (.ptr _ _) rfl (gw_t rfl) (fun w11 => (v_load rfl (gq rfl) rfl)) ?_))))))))
      refine g_val _ (.ptr _ _) rfl (gw_t rfl) (fun w12 => (by simp only [gd_pos w12]; rfl)) ?_
      refine g_val _ (.ptr _ _) rfl (gw_t rfl) (fun w13 => (by simp only [gd_pos w13]; rfl)) ?_
      refine g_val _ (.ptr _ _) rfl (gw_t rfl) (fun w14 => (by simp only [gd_pos w14]; rfl)) ?_
      refine gt rfl (vl rfl G_hit rfl) (gt rfl (vb rfl rfl rfl) (sa rfl rfl rfl (s_nil (bs h fun y3 hy3 h => l_join (fun s => ∃ g4 : Unit, Sb ⟨T [(0, (.ptr (900000, 0) 0)), (2, (.ptr (2, u1) 0))], G [((900000, 0), some (.box 107 (dConvoyMind y3))), ((2, u1), some (.box 105 [(.ptr (900000, 0) 0)]))]⟩ s) ?_ ?_))))
      · refine cc rfl hy3 (fun c4 hy3 => ?_) (fun c4 hy3 => ?_)
        · refine l_draw rfl fun u13 hu13 => sp rfl (v_load rfl (gq rfl) rfl) (sp rfl (v_load rfl (gq rfl) rfl) (sp rfl rfl (sp rfl rfl (sp rfl rfl (sd rfl (v_loadG rfl G_hit rfl rfl) (sp rfl (v_load rfl (gq rfl) rfl) (sp rfl rfl (sp rfl rfl (sp rfl rfl (sl rfl G_hit rfl (sp rfl (v_load rfl (gq rfl) rfl) (sp rfl rfl (sp rfl rfl (sp rfl rfl (sl rfl G_hit rfl (sv rfl (bs hy3 fun v6 hv6 hy3 => s_call rfl rfl all2_refl (convoy_Better_ok _ _  _ hv6) (.inl rfl) (sp rfl rfl (sp rfl rfl (sp rfl rfl (sst rfl G_hit [(di y2.Mate_.ID), (di y2.Mate_.S), (di y2.Mate_.V), (di y2.Mate_.Len), (di y2.Mate_.Ahead), (di v6.R), (di v6.V), (.d (bo y2.Mate_.Trust)), (di y2.Mate_.Ward), (di y2.Mate_.WardGuess.R), (di y2.Mate_.WardGuess.V), (di y2.Mate_.Until), (di y2.tick), (di y2.gap), (di y2.sight.By), (di y2.sight.Lo), (di y2.sight.Hi), (di y2.sight.VLo), (di y2.sight.VHi), (.d (bo y2.sees))] rfl (s_nil ?_))))))))))))))))))))))
          obtain rfl := Option.some.inj hy3
          exact l_j ⟨(), (sbr rfl rfl)⟩
        · refine l_skip ?_
          obtain rfl := Option.some.inj hy3
          exact l_j ⟨(), (sbr rfl rfl)⟩
      · rintro _ ⟨g4, q3⟩
        refine l_sub q3 (l_seq (l_draw rfl fun u14 hu14 => sp rfl (v_load rfl (gq rfl) rfl) (sp rfl rfl (sp rfl rfl (sp rfl rfl (sl rfl G_hit rfl (sv rfl (sv rfl (g_val _ (.ptr _ _) rfl (gw_t rfl) (fun w17 => (v_load rfl (gq rfl) rfl)) ?_)))))))))
        refine g_val _ (.ptr _ _) rfl (gw_t rfl) (fun w18 => (by simp only [gd_pos w18]; rfl)) ?_
        refine g_val _ (.ptr _ _) rfl (gw_t rfl) (fun w19 => (by simp only [gd_pos w19]; rfl)) ?_
        refine g_val _ (.ptr _ _) rfl (gw_t rfl) (fun w20 => (by simp only [gd_pos w20]; rfl)) ?_
        refine gt rfl (vl rfl G_hit rfl) (gt rfl (vb rfl rfl rfl) (sa rfl rfl rfl (sv rfl (g_val _ (.ptr _ _) rfl (gw_t rfl) (fun w23 => (v_load rfl (gq rfl) rfl)) ?_))))
        refine g_val _ (.ptr _ _) rfl (gw_t rfl) (fun w24 => (by simp only [gd_pos w24]; rfl)) ?_
        refine g_val _ (.ptr _ _) rfl (gw_t rfl) (fun w25 => (by simp only [gd_pos w25]; rfl)) ?_
        refine g_val _ (.ptr _ _) rfl (gw_t rfl) (fun w26 => (by simp only [gd_pos w26]; rfl)) ?_
        refine gt rfl (vl rfl G_hit rfl) (g_val _ (.ptr _ _) rfl (gw_t rfl) (fun w28 => (v_load rfl (gq rfl) rfl)) ?_)
        refine g_val _ (.ptr _ _) rfl (gw_t rfl) (fun w29 => (by simp only [gd_pos w29]; rfl)) ?_
        refine g_val _ (.ptr _ _) rfl (gw_t rfl) (fun w30 => (by simp only [gd_pos w30]; rfl)) ?_
        refine g_val _ (.ptr _ _) rfl (gw_t rfl) (fun w31 => (by simp only [gd_pos w31]; rfl)) ?_
        refine gt rfl (vl rfl G_hit rfl) (g_val _ (.ptr _ _) rfl (gw_t rfl) (fun w33 => (v_load rfl (gq rfl) rfl)) ?_)
        refine g_val _ (.ptr _ _) rfl (gw_t rfl) (fun w34 => (by simp only [gd_pos w34]; rfl)) ?_
        refine g_val _ (.ptr _ _) rfl (gw_t rfl) (fun w35 => (by simp only [gd_pos w35]; rfl)) ?_
        refine gt rfl (vl rfl G_hit rfl) (g_val _ (.ptr _ _) rfl (gw_t rfl) (fun w37 => (v_load rfl (gq rfl) rfl)) ?_)
        refine g_val _ (.ptr _ _) rfl (gw_t rfl) (fun w38 => (by simp only [gd_pos w38]; rfl)) ?_
        refine g_val _ (.ptr _ _) rfl (gw_t rfl) (fun w39 => (by simp only [gd_pos w39]; rfl)) ?_
        refine g_val _ (.ptr _ _) rfl (gw_t rfl) (fun w40 => (by simp only [gd_pos w40]; rfl)) ?_
        refine gt rfl (fun w41 => (v_loadG (gd_pos w41) G_hit rfl rfl)) (bs h fun v7 hv7 h => ?_)
        refine g_call _ (bo v7) (gw_t rfl) (fun w42 => ⟨_, [(di y3.Mate_.S), (di y3.Mate_.V), (di y3.gap), (.d (.agg [(i64 y3.Mate_.WardGuess.R), (i64 y3.Mate_.WardGuess.V)]))], _, _, (by simp only [gd_pos w42]; rfl), rfl, all2_refl, convoy_Safe_ok _ _ _ _  _ (cond_t w42 hv7), (.inl rfl)⟩) ?_
        refine sa rfl rfl rfl (s_nil (cc rfl h (fun c5 h => ?_) (fun c5 h => ?_)))
        · refine l_sub (s0 := ⟨T [(0, (.ptr _ _)), (2, (.ptr _ _))], G [((900000, 0), some (.box 107 _)), ((2, u1), some (.box 105 _))]⟩) (sbr rfl rfl) ?_
          refine l_draw rfl fun u15 hu15 => sp rfl (v_load rfl (gq rfl) rfl) (sp rfl (v_load rfl (gq rfl) rfl) (sp rfl rfl (sp rfl rfl (sl rfl G_hit rfl (sv rfl (sp rfl rfl (sp rfl rfl (sp rfl rfl (sst rfl G_hit [(di y3.Mate_.ID), (di y3.Mate_.S), (di y3.Mate_.V), (di y3.Mate_.Len), (di y3.Mate_.Ahead), (di y3.Mate_.Guess_.R), (di y3.Mate_.Guess_.V), (.d (bo y3.Mate_.Trust)), (di y3.Mate_.Ward), (di y3.Mate_.WardGuess.R), (di y3.Mate_.WardGuess.V), (di (w64 (y3.tick + 30))), (di y3.tick), (di y3.gap), (di y3.sight.By), (di y3.sight.Lo), (di y3.sight.Hi), (di y3.sight.VLo), (di y3.sight.VHi), (.d (bo y3.sees))] rfl (s_nil (l_nil ?_)))))))))))
          obtain rfl := Option.some.inj h
          exact fin_mf (.inl rfl) [] resDF0 (.refl _) ⟨⟨_, _, _, G_hit, old_notin_nil, rfl, all2_d, rfl⟩, trivial⟩
        · refine l_skip (l_nil ?_)
          obtain rfl := Option.some.inj h
          exact fin_mf (.inl rfl) [] resDF0 (.refl _) ⟨⟨_, _, _, G_hit, old_notin_nil, rfl, all2_d, rfl⟩, trivial⟩

noncomputable def convoy_Step_2_b (p1 : Int) (p2 : (List Int)) : Option Int :=
  cond (decide (p1 < (p2.length : Int))) ((geti p2 p1).bind fun v1 => some v1) (some 0)

/-- kerbstone/convoy.Step$2 -/
def ac_convoy_Step_2_b : AC := (.seq (.reg [oo 3 (.mv (ci 0))]) (.seq (.seq (.reg [oo 4 (.mv (.t 0)), oo 5 (.load 1 false (.t 1)), oo 6 (.len (.t 5)), oo 7 (.bin .lss (.t 4) (.t 6))]) (.cond (.t 7) (.seq (.reg [oo 8 (.load 1 false (.t 1)), oo 9 (.mv (.t 0)), oo 10 (.idxS 1 (.t 8) (.t 9)), oo 11 (.load 1 false (.t 10)), oo 3 (.mv (.t 11))]) .ret) .skip)) (.seq (.reg [oo 3 (.mv (ci 0))]) .ret)))
theorem fn_convoy_Step_2_b : FnOK Try.prog 85 12 [.t 3] ac_convoy_Step_2_b := ⟨_, _, Try.func85, rfl, Try.ntmps85, by kernel_rfl, ⟨fun _ => [], by kernel_rfl⟩, by kernel_rfl⟩
theorem convoy_Step_2_b_ok (p1 : Int) (p2 : (List Int)) (r : Int) (h : convoy_Step_2_b p1 p2 = some r) : PCall Try.prog 85 [(i64 p1), (.bp [(.list (List.map eInt_i64 p2))] 0)] (i64 r) := by
  refine l_call fn_convoy_Step_2_b (nl rfl) ?_
  unfold convoy_Step_2_b at h
  unfold ac_convoy_Step_2_b
  refine l_sub (s0 := ⟨T [(0, (.d _)), (1, (.d _))], G []⟩) (sbr rfl rfl) ?_
  refine lr (fun u1 hu1 => sv rfl (s_nil (l_seq (lr (fun u2 hu2 => sv rfl (sv rfl (sd rfl (v_len rfl) (sv rfl (s_nil (cc rfl h (fun c1 h => ?_) (fun c1 h => ?_)))))))))))
  · refine lr (fun u3 hu3 => sv rfl (sv rfl (bs h fun v1 hv1 h => sd rfl (v_idx rfl rfl hv1 rfl) (sd rfl (v_loadL rfl hv1 rfl) (sv rfl (s_nil (l_ret ?_)))))))
    obtain rfl := Option.some.inj h
    exact fin_ok (.inr rfl) (resD1 (res_t rfl) rf_d) (.refl _)
  · refine l_skip (lr (fun u4 hu4 => sv rfl (s_nil (l_ret ?_))))
    obtain rfl := Option.some.inj h
    exact fin_ok (.inr rfl) (resD1 (res_t rfl) rf_d) (.refl _)

noncomputable def convoy_moved (p1 : Int) (p2 : Int) (p3 : Int) : Option (Int × Int) :=
  some ((w64 (p1 + (mm2 true 0 (mm2 false (w64 (p2 + p3)) 2000)))), (mm2 true 0 (mm2 false (w64 (p2 + p3)) 2000)))

/-- kerbstone/convoy.moved -/
def ac_convoy_moved : AC := (.seq (.reg [oo 6 (.mv (ci 0)), oo 7 (.mv (ci 0))]) (.seq (.reg [oo 8 (.mv (.t 1)), oo 9 (.mv (.t 2)), oo 10 (.bin .add (.t 8) (.t 9)), oo 11 (.mm false (.t 10) [(ci 2000)]), oo 12 (.mm true (ci 0) [(.t 11)]), oo 1 (.mv (.t 12))]) (.seq (.reg [oo 13 (.mv (.t 0)), oo 14 (.mv (.t 1)), oo 15 (.bin .add (.t 13) (.t 14)), oo 16 (.mv (.t 1)), oo 6 (.mv (.t 15)), oo 7 (.mv (.t 16))]) .ret)))
theorem fn_convoy_moved : FnOK Try.prog 116 17 [.t 6, .t 7] ac_convoy_moved := ⟨_, _, Try.func116, rfl, Try.ntmps116, by kernel_rfl, ⟨fun _ => [], by kernel_rfl⟩, by kernel_rfl⟩
theorem convoy_moved_ok (p1 : Int) (p2 : Int) (p3 : Int) (r : (Int × Int)) (h : convoy_moved p1 p2 p3 = some r) : PCall Try.prog 116 [(i64 p1), (i64 p2), (i64 p3)] (.tup [(i64 r.1), (i64 r.2)]) := by
  refine l_call fn_convoy_moved (nl rfl) ?_
  unfold convoy_moved at h
  unfold ac_convoy_moved
  refine l_sub (s0 := ⟨T [(0, (.d _)), (1, (.d _)), (2, (.d _))], G []⟩) (sbr rfl rfl) ?_
  refine lr (fun u1 hu1 => sv rfl (sv rfl (s_nil (lr (fun u2 hu2 => sv rfl (sv rfl (sv rfl (sv rfl (sv rfl (sv rfl (s_nil (lr (fun u3 hu3 => sv rfl (sv rfl (sv rfl (sv rfl (sv rfl (sv rfl (s_nil (l_ret ?_))))))))))))))))))))
  obtain rfl := Option.some.inj h
  exact fin_ok (.inr rfl) (resD2 (res_t rfl) (res_t rfl) rf_d rf_d) (.refl _)

noncomputable def convoy_mind_drives_1_bb_b_b (p1 : Int) (p2 : Int) (p3 : ConvoyMind) (p4 : Guess) (p5 : Guess) : Option Bool :=
  (convoy_keeps p3.gap p3.Mate_ p1 p2 p4 p5).bind fun v1 => some v1

/-- (*kerbstone/convoy.mind).drives$1 -/
def ac_convoy_mind_drives_1_bb_b_b : AC := (.seq (.reg [oo 7 (.mv (.c zf))]) (.seq (.draw [oo 8 (.load 1 false (.t 2)), oo 9 (.nilck (.t 8)), oo 10 (.fieldA 13 (.t 9)), oo 11 (.load 1 false (.t 10)), oo 12 (.load 1 false (.t 2)), oo 13 (.nilck (.t 12)), oo 14 (.fieldA 0 (.t 13)), oo 15 (.load 12 true (.t 14)), oo 16 (.mv (.t 0)), oo 17 (.mv (.t 1)), oo 18 (.load 2 true (.t 3)), oo 19 (.load 2 true (.t 4)), oo 20 (.call (cf 76) [(.t 11), (.t 15), (.t 16), (.t 17), (.t 18), (.t 19)]), oo 7 (.mv (.t 20))] []) .ret))
theorem fn_convoy_mind_drives_1_bb_b_b : FnOK Try.prog 115 21 [.t 7] ac_convoy_mind_drives_1_bb_b_b := ⟨_, _, Try.func115, rfl, Try.ntmps115, by kernel_rfl, ⟨fun _ => [], by kernel_rfl⟩, by kernel_rfl⟩
theorem convoy_mind_drives_1_bb_b_b_ok (p1 : Int) (p2 : Int) (p3 : ConvoyMind) (p4 : Guess) (p5 : Guess) (r : Bool) (h : convoy_mind_drives_1_bb_b_b p1 p2 p3 p4 p5 = some r) : PCall Try.prog 115 [(i64 p1), (i64 p2), (.bp [(.bp (eConvoyMind p3) 0)] 0), (.bp [(i64 p4.R), (i64 p4.V)] 0), (.bp [(i64 p5.R), (i64 p5.V)] 0)] (bo r) := by
  refine l_call fn_convoy_mind_drives_1_bb_b_b (nl rfl) ?_
  unfold convoy_mind_drives_1_bb_b_b at h
  unfold ac_convoy_mind_drives_1_bb_b_b
  refine l_sub (s0 := ⟨T [(0, (.d _)), (1, (.d _)), (2, (.d _)), (3, (.d _)), (4, (.d _))], G []⟩) (sbr rfl rfl) ?_
  refine lr (fun u1 hu1 => sv rfl (s_nil (l_seq (l_draw rfl fun u2 hu2 => sv rfl (sv rfl (sv rfl (sv rfl (sv rfl (sv rfl (sv rfl (sv rfl (sv rfl (sv rfl (sv rfl (sv rfl (bs h fun v1 hv1 h => s_call rfl rfl all2_refl (convoy_keeps_ok _ _ _ _ _ _  _ hv1) (.inl rfl) (sv rfl (s_nil (l_ret ?_)))))))))))))))))))
  obtain rfl := Option.some.inj h
  exact fin_ok (.inr rfl) (resD1 (res_t rfl) rf_d) (.refl _)

noncomputable def convoy_greatest_convoy_mind_drives_1bbbb_l1 (p1 : Int) (p2 : Int) (p4 : ConvoyMind) (p5 : Guess) (p6 : Guess) (x1 : Int) : Option (Stp Int Int) :=
  cond (decide (x1 > (-90))) ((convoy_moved p1 p2 x1).bind fun v1 => (convoy_mind_drives_1_bb_b_b v1.1 v1.2 p4 p5 p6).bind fun v2 => cond v2 (some (.out x1)) (some (.go (w64 (x1 - 1))))) (some (.out x1))
noncomputable def convoy_greatest_convoy_mind_drives_1bbbb (p1 : Int) (p2 : Int) (p3 : Int) (p4 : ConvoyMind) (p5 : Guess) (p6 : Guess) : Option Int :=
  (loop (convoy_greatest_convoy_mind_drives_1bbbb_l1 p1 p2 p4 p5 p6) (mm2 true (-90) (mm2 false p3 30))).bind fun y1 => some y1

/-- kerbstone/convoy.greatest -/
def ac_convoy_greatest_convoy_mind_drives_1bbbb : AC := (.seq (.reg [oo 8 (.mv (ci 0))]) (.seq (.reg [oo 10 (.mv (.t 2)), oo 11 (.mm false (.t 10) [(ci 30)]), oo 12 (.mm true (ci (-90)) [(.t 11)]), oo 9 (.mv (.t 12))]) (.seq (.block 0 (.loop (.seq (.seq (.reg [oo 13 (.mv (.t 9)), oo 14 (.bin .gtr (.t 13) (ci (-90)))]) (.cond (.t 14) .skip (.exit 0))) (.seq (.block 1 (.seq (.reg [oo 17 (.mv (.t 3)), oo 18 (.mv (.t 0)), oo 19 (.mv (.t 1)), oo 20 (.mv (.t 9)), oo 21 (.call (cf 116) [(.t 18), (.t 19), (.t 20)]), oo 22 (.ext (.t 21) 0), oo 23 (.ext (.t 21) 1), oo 24 (.call (.t 17) [(.t 22), (.t 23)])]) (.cond (.t 24) (.exit 0) .skip))) (.reg [oo 15 (.mv (.t 9)), oo 16 (.bin .sub (.t 15) (ci 1)), oo 9 (.mv (.t 16))]))))) (.seq (.reg [oo 25 (.mv (.t 9)), oo 8 (.mv (.t 25))]) .ret))))
theorem fn_convoy_greatest_convoy_mind_drives_1bbbb : FnOK Try.prog 114 26 [.t 8] ac_convoy_greatest_convoy_mind_drives_1bbbb := ⟨_, _, Try.func114, rfl, Try.ntmps114, by kernel_rfl, ⟨fun _ => [], by kernel_rfl⟩, by kernel_rfl⟩
set_option maxHeartbeats 4000000 in
theorem convoy_greatest_convoy_mind_drives_1bbbb_ok (p1 : Int) (p2 : Int) (p3 : Int) (p4 : ConvoyMind) (p5 : Guess) (p6 : Guess) (r : Int) (h : convoy_greatest_convoy_mind_drives_1bbbb p1 p2 p3 p4 p5 p6 = some r) : PCall Try.prog 114 [(i64 p1), (i64 p2), (i64 p3), (.fn (.func 115) [] [(.bp [(.bp (eConvoyMind p4) 0)] 0), (.bp [(i64 p5.R), (i64 p5.V)] 0), (.bp [(i64 p6.R), (i64 p6.V)] 0)])] (i64 r) := by
  refine l_call fn_convoy_greatest_convoy_mind_drives_1bbbb (nl rfl) ?_
  unfold convoy_greatest_convoy_mind_drives_1bbbb at h
  unfold ac_convoy_greatest_convoy_mind_drives_1bbbb
  refine l_sub (s0 := ⟨T [(0, (.d _)), (1, (.d _)), (2, (.d _)), (3, (.d _))], G []⟩) (sbr rfl rfl) ?_
  refine lr (fun u1 hu1 => sv rfl (s_nil (lr (fun u2 hu2 => sv rfl (sv rfl (sv rfl (sv rfl (s_nil (l_seq (bs h fun y1 hy1 h => l_join (fun s => ∃ g1 : Unit, Sb ⟨T [(9, (di y1))], G []⟩ s) ?_ ?_))))))))))
  · refine l_block (l_loop (convoy_greatest_convoy_mind_drives_1bbbb_l1 p1 p2 p4 p5 p6) (fun (x1 : Int) (g2 : Unit) => ⟨T [(0, (di p1)), (1, (di p2)), (3, (.d (.fn (.func 115) [] [(.bp [(.bp (eConvoyMind p4) 0)] 0), (.bp [(i64 p5.R), (i64 p5.V)] 0), (.bp [(i64 p6.R), (i64 p6.V)] 0)]))), (9, (di x1))], G []⟩) (mm2 true (-90) (mm2 false p3 30)) () _ hy1 (sbr rfl rfl) ?_)
    intro x1 g2 z1 hz1 ez1
    unfold convoy_greatest_convoy_mind_drives_1bbbb_l1 at hz1
    refine l_seq (lr (fun u3 hu3 => sv rfl (sv rfl (s_nil (cc rfl hz1 (fun c1 hz1 => ?_) (fun c1 hz1 => ?_))))))
    · refine l_skip (l_seq (l_block (lr (fun u4 hu4 => sv rfl (sv rfl (sv rfl (sv rfl (bs hz1 fun v1 hv1 hz1 => s_call rfl rfl all2_refl (convoy_moved_ok _ _ _  _ hv1) (.inl rfl) (sv rfl (sv rfl (bs hz1 fun v2 hv2 hz1 => s_call rfl rfl all2_refl (convoy_mind_drives_1_bb_b_b_ok _ _ _ _ _  _ hv2) (.inl rfl) (s_nil (cc rfl hz1 (fun c2 hz1 => ?_) (fun c2 hz1 => ?_))))))))))))))
      · refine l_exitN rfl ?_
        obtain rfl := Option.some.inj hz1
        obtain rfl := ez1 _ rfl
        refine ⟨nofun, awl_pop rfl (l_j ?_)⟩
        exact ⟨(), (sbr rfl rfl)⟩
      · refine l_skip (l_end (l_reg fun u5 hu5 => sv rfl (sv rfl (sv rfl (s_nil (l_nil ?_))))))
        obtain rfl := Option.some.inj hz1
        exact ⟨rfl, (), (sbr rfl rfl)⟩
    · refine l_exitN rfl ?_
      obtain rfl := Option.some.inj hz1
      obtain rfl := ez1 _ rfl
      refine ⟨nofun, awl_pop rfl (l_j ?_)⟩
      exact ⟨(), (sbr rfl rfl)⟩
  · rintro _ ⟨g1, q1⟩
    refine l_sub q1 (lr (fun u6 hu6 => sv rfl (sv rfl (s_nil (l_ret ?_)))))
    obtain rfl := Option.some.inj h
    exact fin_ok (.inr rfl) (resD1 (res_t rfl) rf_d) (.refl _)

noncomputable def convoy_mind_drives_b (p1 : ConvoyMind) (p2 : Int) : Option Mate :=
  (cond ((p1.Mate_.Ward != 0) && (p1.Mate_.Until == 0)) (some (mm2 false p2 (-20))) (some p2)).bind fun y1 => (convoy_Age p1.Mate_.Guess_ 1).bind fun v1 => (convoy_Age p1.Mate_.WardGuess 1).bind fun v2 => (convoy_greatest_convoy_mind_drives_1bbbb p1.Mate_.S p1.Mate_.V y1 p1 v1 v2).bind fun v3 => (convoy_moved p1.Mate_.S p1.Mate_.V v3).bind fun v4 => (cond (p1.Mate_.Ahead != 0) (some (Mate.mk p1.Mate_.ID v4.1 v4.2 p1.Mate_.Len p1.Mate_.Ahead v1 p1.Mate_.Trust p1.Mate_.Ward p1.Mate_.WardGuess p1.Mate_.Until)) (some (Mate.mk p1.Mate_.ID v4.1 v4.2 p1.Mate_.Len p1.Mate_.Ahead p1.Mate_.Guess_ p1.Mate_.Trust p1.Mate_.Ward p1.Mate_.WardGuess p1.Mate_.Until))).bind fun y2 => cond (p1.Mate_.Ward != 0) (some (Mate.mk y2.ID y2.S y2.V y2.Len y2.Ahead y2.Guess_ y2.Trust y2.Ward v2 y2.Until)) (some y2)

/-- (*kerbstone/convoy.mind).drives -/
def ac_convoy_mind_drives_b : AC := (.seq (.reg [oo 2 (.box 105 false (.t 0)), oo 4 (.alloc 65 [z0, z0, z0, z0, z0, z0, z0, zf, z0, z0, z0, z0])]) (.seq (.seq (.reg [oo 9 (.load 1 false (.t 2)), oo 10 (.nilck (.t 9)), oo 11 (.fieldA 0 (.t 10)), oo 12 (.fieldA 8 (.t 11)), oo 13 (.load 1 false (.t 12)), oo 14 (.bin .neq (.t 13) (ci 0)), oo 15 (.mv (.t 14)), og 16 (.load 1 false (.t 2)) 15, og 17 (.nilck (.t 16)) 15, og 18 (.fieldA 0 (.t 17)) 15, og 19 (.fieldA 11 (.t 18)) 15, og 20 (.load 1 false (.t 19)) 15, og 21 (.bin .eql (.t 20) (ci 0)) 15, oo 22 (.pick (.t 15) (.t 21) (.c zf))]) (.cond (.t 22) (.reg [oo 23 (.mv (.t 1)), oo 24 (.mm false (.t 23) [(ci (-20))]), oo 1 (.mv (.t 24))]) .skip)) (.seq (.draw [oo 25 (.load 1 false (.t 2)), oo 26 (.nilck (.t 25)), oo 27 (.fieldA 0 (.t 26)), oo 28 (.fieldA 5 (.t 27)), oo 29 (.load 2 true (.t 28)), oo 30 (.call (cf 15) [(.t 29), (ci 1)]), oo 31 (.load 1 false (.t 2)), oo 32 (.nilck (.t 31)), oo 33 (.fieldA 0 (.t 32)), oo 34 (.fieldA 9 (.t 33)), oo 35 (.load 2 true (.t 34)), oo 36 (.call (cf 15) [(.t 35), (ci 1)]), oo 5 (.alloc 23 [z0, z0]), oo 6 (.alloc 23 [z0, z0]), oe (.store 2 (.t 5) (.t 30)), oe (.store 2 (.t 6) (.t 36))] []) (.seq (.draw [oo 37 (.load 1 false (.t 2)), oo 38 (.nilck (.t 37)), oo 39 (.fieldA 0 (.t 38)), oo 40 (.fieldA 1 (.t 39)), oo 41 (.load 1 false (.t 40)), oo 42 (.load 1 false (.t 2)), oo 43 (.nilck (.t 42)), oo 44 (.fieldA 0 (.t 43)), oo 45 (.fieldA 2 (.t 44)), oo 46 (.load 1 false (.t 45)), oo 47 (.mv (.t 1)), oo 48 (.mkfn (.func 115) [] [(.t 2), (.t 5), (.t 6)]), oo 49 (.call (cf 114) [(.t 41), (.t 46), (.t 47), (.t 48)]), oo 7 (.mv (.t 49))] []) (.seq (.reg [oo 50 (.load 1 false (.t 2)), oo 51 (.nilck (.t 50)), oo 52 (.fieldA 0 (.t 51)), oo 53 (.load 12 true (.t 52)), oo 8 (.alloc 65 [z0, z0, z0, z0, z0, z0, z0, zf, z0, z0, z0, z0]), oe (.store 12 (.t 8) (.t 53))]) (.seq (.draw [oo 55 (.load 1 false (.t 2)), oo 56 (.nilck (.t 55)), oo 57 (.fieldA 0 (.t 56)), oo 58 (.fieldA 1 (.t 57)), oo 59 (.load 1 false (.t 58)), oo 60 (.load 1 false (.t 2)), oo 61 (.nilck (.t 60)), oo 62 (.fieldA 0 (.t 61)), oo 63 (.fieldA 2 (.t 62)), oo 64 (.load 1 false (.t 63)), oo 65 (.mv (.t 7)), oo 66 (.call (cf 116) [(.t 59), (.t 64), (.t 65)]), oo 54 (.mv (.t 66)), oo 67 (.ext (.t 54) 0), oo 68 (.ext (.t 54) 1), oo 69 (.fieldA 1 (.t 8)), oe (.store 1 (.t 69) (.t 67)), oo 70 (.fieldA 2 (.t 8)), oe (.store 1 (.t 70) (.t 68))] []) (.seq (.seq (.reg [oo 71 (.load 1 false (.t 2)), oo 72 (.nilck (.t 71)), oo 73 (.fieldA 0 (.t 72)), oo 74 (.fieldA 4 (.t 73)), oo 75 (.load 1 false (.t 74)), oo 76 (.bin .neq (.t 75) (ci 0))]) (.cond (.t 76) (.reg [oo 77 (.load 2 true (.t 5)), oo 78 (.fieldA 5 (.t 8)), oe (.store 2 (.t 78) (.t 77))]) .skip)) (.seq (.seq (.reg [oo 79 (.load 1 false (.t 2)), oo 80 (.nilck (.t 79)), oo 81 (.fieldA 0 (.t 80)), oo 82 (.fieldA 8 (.t 81)), oo 83 (.load 1 false (.t 82)), oo 84 (.bin .neq (.t 83) (ci 0))]) (.cond (.t 84) (.reg [oo 85 (.load 2 true (.t 6)), oo 86 (.fieldA 9 (.t 8)), oe (.store 2 (.t 86) (.t 85))]) .skip)) (.seq (.reg [oo 87 (.load 12 true (.t 8)), oe (.store 12 (.t 4) (.t 87))]) .ret)))))))))
theorem fn_convoy_mind_drives_b : FnOK Try.prog 89 88 [.cell 4 12 true] ac_convoy_mind_drives_b := ⟨_, _, Try.func89, rfl, Try.ntmps89, by kernel_rfl, ⟨fun _ => [], by kernel_rfl⟩, by kernel_rfl⟩
set_option maxHeartbeats 4000000 in
theorem convoy_mind_drives_b_ok (p1 : ConvoyMind) (p2 : Int) (r : Mate) (h : convoy_mind_drives_b p1 p2 = some r) : PCall Try.prog 89 [(.bp (eConvoyMind p1) 0), (i64 p2)] (.agg (eMate r)) := by
  refine l_call fn_convoy_mind_drives_b (nl rfl) ?_
  unfold convoy_mind_drives_b at h
  unfold ac_convoy_mind_drives_b
  refine l_sub (s0 := ⟨T [(0, (.d _)), (1, (.d _))], G []⟩) (sbr rfl rfl) ?_
  refine lr (fun u1 hu1 => sn rfl rfl (sn rfl rfl (s_nil (l_seq (lr (fun u2 hu2 => sl rfl (gq rfl) rfl (sv rfl (sv rfl (sv rfl (sv rfl (sv rfl (sv rfl (gt rfl (fun w1 => (v_load rfl (gq rfl) rfl)) ?_)))))))))))))
  refine gt rfl (fun w2 => (by simp only [gd_pos w2]; rfl)) ?_
  refine gt rfl (fun w3 => (by simp only [gd_pos w3]; rfl)) ?_
  refine gt rfl (fun w4 => (by simp only [gd_pos w4]; rfl)) ?_
  refine gt rfl (fun w5 => (by simp only [gd_pos w5]; rfl)) ?_
  refine gt rfl (vb rfl rfl rfl) (sa rfl rfl rfl (s_nil (bs h fun y1 hy1 h => l_join (fun s => ∃ g1 : Unit, Sb ⟨T [(1, (di y1)), (2, (.ptr (2, u1) 0)), (4, (.ptr (4, u1) 0))], G [((2, u1), some (.box 105 [(.d (.bp (eConvoyMind p1) 0))])), ((4, u1), some (.box 65 [(di 0), (di 0), (di 0), (di 0), (di 0), (di 0), (di 0), (.d (bo false)), (di 0), (di 0), (di 0), (di 0)]))]⟩ s) ?_ ?_)))
  · refine cc rfl hy1 (fun c1 hy1 => ?_) (fun c1 hy1 => ?_)
    · refine l_reg fun u3 hu3 => sv rfl (sv rfl (sv rfl (s_nil ?_)))
      obtain rfl := Option.some.inj hy1
      exact l_j ⟨(), (sbr rfl rfl)⟩
    · refine l_skip ?_
      obtain rfl := Option.some.inj hy1
      exact l_j ⟨(), (sbr rfl rfl)⟩
  · rintro _ ⟨g1, q1⟩
    refine l_sub q1 (l_seq (l_draw rfl fun u4 hu4 => sl rfl G_hit rfl (sv rfl (sv rfl (sv rfl (sv rfl (bs h fun v1 hv1 h => s_call rfl rfl all2_refl (convoy_Age_ok _ _  _ hv1) (.inl rfl) (sl rfl G_hit rfl (sv rfl (sv rfl (sv rfl (sv rfl (bs h fun v2 hv2 h => s_call rfl rfl all2_refl (convoy_Age_ok _ _  _ hv2) (.inl rfl) (sn rfl rfl (sn rfl rfl (sst rfl (gq rfl) [(di v1.R), (di v1.V)] rfl (sst rfl (gq rfl) [(di v2.R), (di v2.V)] rfl (s_nil (l_seq (l_sub (s0 := ⟨T [(1, (.d _)), (2, (.ptr _ _)), (4, (.ptr _ _)), (5, (.ptr _ _)), (6, (.ptr _ _))], G [((2, u1), some (.box 105 _)), ((4, u1), some (.box 65 _)), ((5, u4), some (.box 23 _)), ((6, u4), some (.box 23 _))]⟩) (sbr rfl rfl) ?_))))))))))))))))))))
    refine l_draw rfl fun u5 hu5 => sl rfl G_hit rfl (sv rfl (sv rfl (sv rfl (sv rfl (sl rfl G_hit rfl (sv rfl (sv rfl (sv rfl (sv rfl (sv rfl (s_val (.fn _ _ _) rfl rfl (bs h fun v3 hv3 h => s_call rfl (rfL_cons rf_d (rfL_cons rf_d (rfL_cons rf_d (rfL_cons (rf_fn rfL_nil (rfL_cons (rf_ptr G_hit (rfL_cons rf_d rfL_nil)) (rfL_cons (rf_ptr (gq rfl) (rfL_cons rf_d (rfL_cons rf_d rfL_nil))) (rfL_cons (rf_ptr (gq rfl) (rfL_cons rf_d (rfL_cons rf_d rfL_nil))) rfL_nil)))) rfL_nil)))) all2_refl (convoy_greatest_convoy_mind_drives_1bbbb_ok _ _ _ _ _ _  _ hv3) (.inr rfl) (sv rfl (s_nil (l_seq (l_sub (s0 := ⟨T [(2, (.ptr _ _)), (4, (.ptr _ _)), (5, (.ptr _ _)), (6, (.ptr _ _)), (7, (.d _))], G [((2, u1), some (.box 105 _)), ((4, u1), some (.box 65 _)), ((5, u4), some (.box 23 _)), ((6, u4), some (.box 23 _))]⟩) (sbr rfl rfl) ?_))))))))))))))))
    refine l_reg fun u6 hu6 => sl rfl G_hit rfl (sv rfl (sv rfl (sv rfl (sn rfl rfl (sst rfl G_hit (dMate p1.Mate_) rfl (s_nil (l_seq (l_draw rfl fun u7 hu7 => sl rfl (gq rfl) rfl (sv rfl (sv rfl (sv rfl (sv rfl (sl rfl (gq rfl) rfl (sv rfl (sv rfl (sv rfl (sv rfl (sv rfl (bs h fun v4 hv4 h => s_call rfl rfl all2_refl (convoy_moved_ok _ _ _  _ hv4) (.inl rfl) (sv rfl (sv rfl (sv rfl (sp rfl rfl (sst rfl G_hit [(di p1.Mate_.ID), (di v4.1), (di p1.Mate_.V), (di p1.Mate_.Len), (di p1.Mate_.Ahead), (di p1.Mate_.Guess_.R), (di p1.Mate_.Guess_.V), (.d (bo p1.Mate_.Trust)), (di p1.Mate_.Ward), (di p1.Mate_.WardGuess.R), (di p1.Mate_.WardGuess.V), (di p1.Mate_.Until)] rfl (sp rfl rfl (sst rfl G_hit [(di p1.Mate_.ID), (di v4.1), (di v4.2), (di p1.Mate_.Len), (di p1.Mate_.Ahead), (di p1.Mate_.Guess_.R), (di p1.Mate_.Guess_.V), (.d (bo p1.Mate_.Trust)), (di p1.Mate_.Ward), (di p1.Mate_.WardGuess.R), (di p1.Mate_.WardGuess.V), (di p1.Mate_.Until)] rfl (s_nil (l_seq (l_seq (l_sub (s0 := ⟨T [(2, (.ptr _ _)), (4, (.ptr _ _)), (5, (.ptr _ _)), (6, (.ptr _ _)), (8, (.ptr _ _))], G [((2, u1), some (.box 105 _)), ((4, u1), some (.box 65 _)), ((5, u4), some (.box 23 _)), ((6, u4), some (.box 23 _)), ((8, u6), some (.box 65 _))]⟩) (sbr rfl rfl) ?_))))))))))))))))))))))))))))))
    refine l_reg fun u8 hu8 => sl rfl G_hit rfl (sv rfl (sv rfl (sv rfl (sv rfl (sv rfl (s_nil (bs h fun y2 hy2 h => l_join (fun s => ∃ g2 : Unit, Sb ⟨T [(2, (.ptr (2, u1) 0)), (4, (.ptr (4, u1) 0)), (6, (.ptr (6, u4) 0)), (8, (.ptr (8, u6) 0))], G [((2, u1), some (.box 105 [(.d (.bp (eConvoyMind p1) 0))])), ((4, u1), some (.box 65 [(di 0), (di 0), (di 0), (di 0), (di 0), (di 0), (di 0), (.d (bo false)), (di 0), (di 0), (di 0), (di 0)])), ((6, u4), some (.box 23 [(di v2.R), (di v2.V)])), ((8, u6), some (.box 65 (dMate y2)))]⟩ s) ?_ ?_)))))))
    · refine cc rfl hy2 (fun c2 hy2 => ?_) (fun c2 hy2 => ?_)
      · refine l_reg fun u9 hu9 => sd rfl (v_loadG rfl (gq rfl) rfl rfl) (sp rfl rfl (sst rfl (gq rfl) [(di p1.Mate_.ID), (di v4.1), (di v4.2), (di p1.Mate_.Len), (di p1.Mate_.Ahead), (di v1.R), (di v1.V), (.d (bo p1.Mate_.Trust)), (di p1.Mate_.Ward), (di p1.Mate_.WardGuess.R), (di p1.Mate_.WardGuess.V), (di p1.Mate_.Until)] rfl (s_nil ?_)))
        obtain rfl := Option.some.inj hy2
        exact l_j ⟨(), (sbr rfl rfl)⟩
      · refine l_skip ?_
        obtain rfl := Option.some.inj hy2
        exact l_j ⟨(), (sbr rfl rfl)⟩
    · rintro _ ⟨g2, q2⟩
      refine l_sub q2 (l_seq (lr (fun u10 hu10 => sl rfl G_hit rfl (sv rfl (sv rfl (sv rfl (sv rfl (sv rfl (s_nil (cc rfl h (fun c3 h => ?_) (fun c3 h => ?_)))))))))))
      · refine l_reg fun u11 hu11 => sd rfl (v_loadG rfl (gq rfl) rfl rfl) (sp rfl rfl (sst rfl (gq rfl) [(di y2.ID), (di y2.S), (di y2.V), (di y2.Len), (di y2.Ahead), (di y2.Guess_.R), (di y2.Guess_.V), (.d (bo y2.Trust)), (di y2.Ward), (di v2.R), (di v2.V), (di y2.Until)] rfl (s_nil (lr (fun u12 hu12 => sd rfl (v_loadG rfl G_hit rfl rfl) (sst rfl (gq rfl) [(di y2.ID), (di y2.S), (di y2.V), (di y2.Len), (di y2.Ahead), (di y2.Guess_.R), (di y2.Guess_.V), (.d (bo y2.Trust)), (di y2.Ward), (di v2.R), (di v2.V), (di y2.Until)] rfl (s_nil (l_ret ?_))))))))
        obtain rfl := Option.some.inj h
        exact fin_ok (.inr rfl) (resD1 (res_cellG rfl G_hit (nl rfl) rfl) rf_d) (.refl _)
      · refine l_skip (lr (fun u13 hu13 => sd rfl (v_loadG rfl (gq rfl) rfl rfl) (sst rfl (gq rfl) (dMate y2) rfl (s_nil (l_ret ?_)))))
        obtain rfl := Option.some.inj h
        exact fin_ok (.inr rfl) (resD1 (res_cellG rfl G_hit (nl rfl) rfl) rf_d) (.refl _)

noncomputable def convoy_nearer_o (p1 : Guest) (p2 : Int) (p3 : Guess) : Option Guest :=
  (cond (p1.Ahead != 0) ((convoy_Better p1.Guess_ p3).bind fun v1 => some v1) (some p3)).bind fun y1 => some (Guest.mk p1.ID p1.S p1.V p1.Len p1.End p2 y1 p1.From p1.Until)

/-- kerbstone/convoy.nearer -/
def ac_convoy_nearer_o : AC := (.seq (.reg [oo 5 (.box 23 true (.t 2))]) (.seq (.seq (.reg [oo 6 (.mv (.t 0)), oo 7 (.nilck (.t 6)), oo 8 (.fieldA 5 (.t 7)), oo 9 (.load 1 false (.t 8)), oo 10 (.bin .neq (.t 9) (ci 0))]) (.cond (.t 10) (.draw [oo 11 (.mv (.t 0)), oo 12 (.nilck (.t 11)), oo 13 (.fieldA 6 (.t 12)), oo 14 (.load 2 true (.t 13)), oo 15 (.load 2 true (.t 5)), oo 16 (.call (cf 19) [(.t 14), (.t 15)]), oe (.store 2 (.t 5) (.t 16))] []) .skip)) (.draw [oo 17 (.mv (.t 0)), oo 18 (.mv (.t 0)), oo 19 (.mv (.t 1)), oo 20 (.load 2 true (.t 5)), oo 21 (.nilck (.t 17)), oo 22 (.fieldA 5 (.t 21)), oe (.store 1 (.t 22) (.t 19)), oo 23 (.nilck (.t 18)), oo 24 (.fieldA 6 (.t 23)), oe (.store 2 (.t 24) (.t 20))] [(3, 6)])))
theorem fn_convoy_nearer_o : FnOK Try.prog 117 25 [] ac_convoy_nearer_o := ⟨_, _, Try.func117, rfl, Try.ntmps117, by kernel_rfl, ⟨fun _ => [], by kernel_rfl⟩, by kernel_rfl⟩
theorem convoy_nearer_o_ok (p1 : Guest) (p2 : Int) (p3 : Guess) (r : Guest) (h : convoy_nearer_o p1 p2 p3 = some r) : MCall Try.prog 117 [(.ptr (900000, 0) 0), (di p2), (.d (.agg [(i64 p3.R), (i64 p3.V)]))] [(.box 36 (dGuest p1))] (.d (.tup [])) [some (.box 36 (dGuest r))] [] := by
  refine m_callF fn_convoy_nearer_o rfl (nl rfl) ?_
  unfold convoy_nearer_o at h
  unfold ac_convoy_nearer_o
  refine l_sub (s0 := ⟨T [(0, (.ptr _ _)), (1, (.d _)), (2, (.d _))], G [((900000, 0), some (.box 36 _))]⟩) (sbr rfl rfl) ?_
  refine lr (fun u1 hu1 => sn rfl rfl (s_nil (l_seq (lr (fun u2 hu2 => sp rfl rfl (sp rfl rfl (sp rfl rfl (sl rfl (gq rfl) rfl (sv rfl (s_nil (bs h fun y1 hy1 h => l_join (fun s => ∃ g1 : Unit, Sb ⟨T [(0, (.ptr (900000, 0) 0)), (1, (di p2)), (5, (.ptr (5, u1) 0))], G [((900000, 0), some (.box 36 (dGuest p1))), ((5, u1), some (.box 23 [(di y1.R), (di y1.V)]))]⟩ s) ?_ ?_)))))))))))
  · refine cc rfl hy1 (fun c1 hy1 => ?_) (fun c1 hy1 => ?_)
    · refine l_draw rfl fun u3 hu3 => sp rfl rfl (sp rfl rfl (sp rfl rfl (sd rfl (v_loadG rfl (gq rfl) rfl rfl) (sd rfl (v_loadG rfl G_hit rfl rfl) (bs hy1 fun v1 hv1 hy1 => s_call rfl rfl all2_refl (convoy_Better_ok _ _  _ hv1) (.inl rfl) (sst rfl G_hit [(di v1.R), (di v1.V)] rfl (s_nil ?_)))))))
      obtain rfl := Option.some.inj hy1
      exact l_j ⟨(), (sbr rfl rfl)⟩
    · refine l_skip ?_
      obtain rfl := Option.some.inj hy1
      exact l_j ⟨(), (sbr rfl rfl)⟩
  · rintro _ ⟨g1, q1⟩
    refine l_sub q1 (l_drawT fun u4 hu4 => t_val (.ptr _ _) rfl rfl (t_val (.ptr _ _) rfl rfl (t_val (.d _) rfl rfl (t_val (.d _) rfl (v_loadG rfl (gq rfl) rfl rfl) (t_val (.ptr _ _) rfl rfl (t_val (.ptr _ _) rfl rfl (t_store _ _ _ _ _ rfl rfl rfl G_hit (nl rfl) [(di p1.ID), (di p1.S), (di p1.V), (di p1.Len), (di p1.End), (di p2), (di p1.Guess_.R), (di p1.Guess_.V), (di p1.From), (di p1.Until)] rfl (t_val (.ptr _ _) rfl rfl (t_val (.ptr _ _) rfl rfl (t_store _ _ _ _ _ rfl rfl rfl G_hit (nl rfl) [(di p1.ID), (di p1.S), (di p1.V), (di p1.Len), (di p1.End), (di p2), (di y1.R), (di y1.V), (di p1.From), (di p1.Until)] rfl (t_nil ⟨rfl, ?_⟩)))))))))))
    refine l_nil ?_
    obtain rfl := Option.some.inj h
    exact fin_mf (.inl rfl) [] resDF0 (.refl _) ⟨⟨_, _, _, G_hit, old_notin_nil, rfl, all2_d, rfl⟩, trivial⟩

noncomputable def convoy_arrives_l1 (p1 : Convoy) (p2 : (List ConvoyLetter)) (y1 : Int) (y2 : Int) (x1 : (Int × Guest)) : Option (Stp (Int × Guest) Guest) :=
  cond (decide (x1.1 < (p2.length : Int))) ((geti p2 x1.1).bind fun v4 => cond ((v4.Note_.Kind == 1) && (v4.Note_.From == y1)) ((convoy_nearer_o x1.2 y1 v4.guess).bind fun v5 => some (.go ((w64 (x1.1 + 1)), v5))) (cond ((((v4.Note_.Kind == 3) && (v4.Note_.To == x1.2.ID)) && (v4.Note_.From == y2)) && (decide (v4.Note_.Until ≥ p1.Tick))) (some (.go ((w64 (x1.1 + 1)), (Guest.mk x1.2.ID x1.2.S x1.2.V x1.2.Len x1.2.End x1.2.Ahead x1.2.Guess_ y2 v4.Note_.Until)))) (some (.go ((w64 (x1.1 + 1)), x1.2))))) (some (.out x1.2))
noncomputable def convoy_arrives (p1 : Convoy) (p2 : (List ConvoyLetter)) (p3 : (List Sight)) : Option (Guest × Bool) :=
  (convoy_beside p1).bind fun v1 => (cond (decide (v1.1 ≥ 0)) ((geti p1.Mates v1.1).bind fun v2 => some v2.ID) (some 0)).bind fun y1 => (cond (decide (v1.2 ≥ 0)) ((geti p1.Mates v1.2).bind fun v3 => some v3.ID) (some 0)).bind fun y2 => (cond (p1.Guest_.Ahead != y1) (some (Guest.mk p1.Guest_.ID p1.Guest_.S p1.Guest_.V p1.Guest_.Len p1.Guest_.End 0 (Guess.mk 0 0) p1.Guest_.From p1.Guest_.Until)) (some p1.Guest_)).bind fun y3 => (loop (convoy_arrives_l1 p1 p2 y1 y2) (0, y3)).bind fun y4 => (convoy_look p3 y4.ID).bind fun v6 => (cond (v6.2 && (y1 != 0)) ((convoy_nearer_o y4 y1 (Guess.mk v6.1.Lo v6.1.VLo)).bind fun v7 => some v7) (some y4)).bind fun y5 => ((cond ((!(y1 == 0)) && (y5.Ahead == y1)) (convoy_Safe y5.S y5.V p1.Gap y5.Guess_) (some default))).bind fun v8 => some (y5, (((y1 == 0) || ((y5.Ahead == y1) && v8)) && ((y2 == 0) || ((y5.From == y2) && (decide (p1.Tick ≤ y5.Until))))))

/-- kerbstone/convoy.arrives -/
def ac_convoy_arrives : AC := (.seq (.reg [oo 3 (.box 38 true (.t 0)), oo 6 (.alloc 36 [z0, z0, z0, z0, z0, z0, z0, z0, z0, z0]), oo 7 (.mv (.c zf))]) (.seq (.reg [oo 19 (.fieldA 3 (.t 3)), oo 20 (.load 10 true (.t 19)), oo 8 (.alloc 36 [z0, z0, z0, z0, z0, z0, z0, z0, z0, z0]), oe (.store 10 (.t 8) (.t 20))]) (.seq (.reg [oo 9 (.mv (ci 0)), oo 10 (.mv (ci 0))]) (.seq (.reg [oo 22 (.load 13 true (.t 3)), oo 23 (.call (cf 65) [(.t 22)]), oo 21 (.mv (.t 23)), oo 24 (.ext (.t 21) 0), oo 25 (.ext (.t 21) 1), oo 11 (.mv (.t 24)), oo 12 (.mv (.t 25))]) (.seq (.seq (.reg [oo 26 (.mv (.t 11)), oo 27 (.bin .geq (.t 26) (ci 0))]) (.cond (.t 27) (.reg [oo 28 (.fieldA 2 (.t 3)), oo 29 (.load 1 false (.t 28)), oo 30 (.mv (.t 11)), oo 31 (.idxS 12 (.t 29) (.t 30)), oo 32 (.fieldA 0 (.t 31)), oo 33 (.load 1 false (.t 32)), oo 9 (.mv (.t 33))]) .skip)) (.seq (.seq (.reg [oo 34 (.mv (.t 12)), oo 35 (.bin .geq (.t 34) (ci 0))]) (.cond (.t 35) (.reg [oo 36 (.fieldA 2 (.t 3)), oo 37 (.load 1 false (.t 36)), oo 38 (.mv (.t 12)), oo 39 (.idxS 12 (.t 37) (.t 38)), oo 40 (.fieldA 0 (.t 39)), oo 41 (.load 1 false (.t 40)), oo 10 (.mv (.t 41))]) .skip)) (.seq (.seq (.reg [oo 42 (.fieldA 5 (.t 8)), oo 43 (.load 1 false (.t 42)), oo 44 (.mv (.t 9)), oo 45 (.bin .neq (.t 43) (.t 44))]) (.cond (.t 45) (.reg [oo 46 (.build [z0, z0] []), oo 47 (.fieldA 5 (.t 8)), oe (.store 1 (.t 47) (ci 0)), oo 48 (.fieldA 6 (.t 8)), oe (.store 2 (.t 48) (.t 46))]) .skip)) (.seq (.seq (.reg [oo 49 (.mv (.t 1)), oo 50 (.len (.t 49)), oo 51 (.mv (ci 0))]) (.block 0 (.loop (.seq (.reg [oo 52 (.bin .lss (.t 51) (.t 50))]) (.seq (.cond (.t 52) .skip (.exit 0)) (.seq (.block 1 (.seq (.reg [oo 53 (.idxS 9 (.t 49) (.t 51)), oo 54 (.load 9 true (.t 53)), oo 14 (.alloc 125 [z0, z0, z0, z0, z0, z0, z0, z0, z0]), oe (.store 9 (.t 14) (.t 54))]) (.block 2 (.seq (.reg [oo 56 (.fieldA 0 (.t 14)), oo 57 (.fieldA 0 (.t 56)), oo 58 (.load 1 false (.t 57)), oo 59 (.bin .eql (.t 58) (ci 1)), oo 60 (.mv (.t 59)), og 61 (.fieldA 0 (.t 14)) 60, og 62 (.fieldA 1 (.t 61)) 60, og 63 (.load 1 false (.t 62)) 60, og 64 (.mv (.t 9)) 60, og 65 (.bin .eql (.t 63) (.t 64)) 60, oo 66 (.pick (.t 60) (.t 65) (.c zf)), oo 55 (.mv (.t 66))]) (.cond (.t 55) (.reg [oo 67 (.mv (.t 9)), oo 68 (.fieldA 7 (.t 14)), oo 69 (.load 2 true (.t 68)), oo 70 (.ocall 10140030 (cf 117) [(.t 8), (.t 67), (.t 69)])]) (.seq (.reg [oo 72 (.fieldA 0 (.t 14)), oo 73 (.fieldA 0 (.t 72)), oo 74 (.load 1 false (.t 73)), oo 75 (.bin .eql (.t 74) (ci 3)), oo 76 (.mv (.t 75)), og 77 (.fieldA 0 (.t 14)) 76, og 78 (.fieldA 2 (.t 77)) 76, og 79 (.load 1 false (.t 78)) 76, og 80 (.fieldA 0 (.t 8)) 76, og 81 (.load 1 false (.t 80)) 76, og 82 (.bin .eql (.t 79) (.t 81)) 76, oo 83 (.pick (.t 76) (.t 82) (.c zf)), oo 84 (.mv (.t 83)), og 85 (.fieldA 0 (.t 14)) 84, og 86 (.fieldA 1 (.t 85)) 84, og 87 (.load 1 false (.t 86)) 84, og 88 (.mv (.t 10)) 84, og 89 (.bin .eql (.t 87) (.t 88)) 84, oo 90 (.pick (.t 84) (.t 89) (.c zf)), oo 91 (.mv (.t 90)), og 92 (.fieldA 0 (.t 14)) 91, og 93 (.fieldA 6 (.t 92)) 91, og 94 (.load 1 false (.t 93)) 91, og 95 (.fieldA 0 (.t 3)) 91, og 96 (.load 1 false (.t 95)) 91, og 97 (.bin .geq (.t 94) (.t 96)) 91, oo 98 (.pick (.t 91) (.t 97) (.c zf)), oo 71 (.mv (.t 98))]) (.cond (.t 71) (.draw [oo 99 (.mv (.t 10)), oo 100 (.fieldA 0 (.t 14)), oo 101 (.fieldA 6 (.t 100)), oo 102 (.load 1 false (.t 101)), oo 103 (.fieldA 8 (.t 8)), oe (.store 1 (.t 103) (.t 99)), oo 104 (.fieldA 9 (.t 8)), oe (.store 1 (.t 104) (.t 102))] [(3, 5)]) .skip))))))) (.reg [oo 105 (.bin .add (.t 51) (ci 1)), oo 51 (.mv (.t 105))]))))))) (.seq (.seq (.reg [oo 107 (.mv (.t 2)), oo 108 (.fieldA 0 (.t 8)), oo 109 (.load 1 false (.t 108)), oo 110 (.call (cf 87) [(.t 107), (.t 109)]), oo 106 (.mv (.t 110)), oo 111 (.ext (.t 106) 0), oo 112 (.ext (.t 106) 1), oo 15 (.alloc 42 [z0, z0, z0, z0, z0]), oe (.store 5 (.t 15) (.t 111)), oo 16 (.mv (.t 112))]) (.seq (.reg [oo 113 (.mv (.t 16)), oo 114 (.mv (.t 113)), og 115 (.mv (.t 9)) 114, og 116 (.bin .neq (.t 115) (ci 0)) 114, oo 117 (.pick (.t 114) (.t 116) (.c zf))]) (.cond (.t 117) (.reg [oo 118 (.mv (.t 9)), oo 119 (.fieldA 1 (.t 15)), oo 120 (.load 1 false (.t 119)), oo 121 (.fieldA 3 (.t 15)), oo 122 (.load 1 false (.t 121)), oo 123 (.build [z0, z0] [(0, 1, (.t 120)), (1, 1, (.t 122))]), oo 124 (.ocall 10200060 (cf 117) [(.t 8), (.t 118), (.t 123)])]) .skip))) (.seq (.reg [oo 125 (.mv (.t 9)), oo 126 (.bin .eql (.t 125) (ci 0)), oo 127 (.mv (.t 126)), oh 128 (.fieldA 5 (.t 8)) 127, oh 129 (.load 1 false (.t 128)) 127, oh 130 (.mv (.t 9)) 127, oh 131 (.bin .eql (.t 129) (.t 130)) 127, oh 132 (.mv (.t 131)) 127, og 133 (.fieldA 1 (.t 8)) 132, og 134 (.load 1 false (.t 133)) 132, og 135 (.fieldA 2 (.t 8)) 132, og 136 (.load 1 false (.t 135)) 132, og 137 (.fieldA 1 (.t 3)) 132, og 138 (.load 1 false (.t 137)) 132, og 139 (.fieldA 6 (.t 8)) 132, og 140 (.load 2 true (.t 139)) 132, og 141 (.call (cf 21) [(.t 134), (.t 136), (.t 138), (.t 140)]) 132, oh 142 (.pick (.t 132) (.t 141) (.c zf)) 127, oo 143 (.pick (.t 127) (.c (.v (.bool true))) (.t 142)), oo 17 (.mv (.t 143))]) (.seq (.reg [oo 144 (.mv (.t 10)), oo 145 (.bin .eql (.t 144) (ci 0)), oo 146 (.mv (.t 145)), oh 147 (.fieldA 8 (.t 8)) 146, oh 148 (.load 1 false (.t 147)) 146, oh 149 (.mv (.t 10)) 146, oh 150 (.bin .eql (.t 148) (.t 149)) 146, oh 151 (.mv (.t 150)) 146, og 152 (.fieldA 0 (.t 3)) 151, og 153 (.load 1 false (.t 152)) 151, og 154 (.fieldA 9 (.t 8)) 151, og 155 (.load 1 false (.t 154)) 151, og 156 (.bin .leq (.t 153) (.t 155)) 151, oh 157 (.pick (.t 151) (.t 156) (.c zf)) 146, oo 158 (.pick (.t 146) (.c (.v (.bool true))) (.t 157)), oo 18 (.mv (.t 158))]) (.seq (.reg [oo 159 (.load 10 true (.t 8)), oo 160 (.mv (.t 17)), oo 161 (.mv (.t 160)), og 162 (.mv (.t 18)) 161, oo 163 (.pick (.t 161) (.t 162) (.c zf)), oe (.store 10 (.t 6) (.t 159)), oo 7 (.mv (.t 163))]) .ret))))))))))))
theorem fn_convoy_arrives : FnOK Try.prog 90 164 [.cell 6 10 true, .t 7] ac_convoy_arrives := ⟨_, _, Try.func90, rfl, Try.ntmps90, by kernel_rfl, ⟨fun r => if r == 14 then [1014003] else if r == 20 then [1020006] else [], by kernel_rfl⟩, by kernel_rfl⟩
set_option maxHeartbeats 4000000 in
theorem convoy_arrives_ok (p1 : Convoy) (p2 : (List ConvoyLetter)) (p3 : (List Sight)) (r : (Guest × Bool)) (h : convoy_arrives p1 p2 p3 = some r) : PCall Try.prog 90 [(.agg (eConvoy p1)), (.list (List.map eConvoyLetter p2)), (.list (List.map eSight p3))] (.tup [(.agg (eGuest r.1)), (bo r.2)]) := by
  refine l_call fn_convoy_arrives (nl rfl) ?_
  unfold convoy_arrives at h
  unfold ac_convoy_arrives
  refine l_sub (s0 := ⟨T [(0, (.d _)), (1, (.d _)), (2, (.d _))], G []⟩) (sbr rfl rfl) ?_
  refine lr (fun u1 hu1 => sn rfl rfl (sn rfl rfl (sv rfl (s_nil (lr (fun u2 hu2 => sp rfl rfl (sd rfl (v_loadG rfl (gq rfl) rfl rfl) (sn rfl rfl (sst rfl G_hit (dGuest p1.Guest_) rfl (s_nil (lr (fun u3 hu3 => sv rfl (sv rfl (s_nil (lr (fun u4 hu4 => sd rfl (v_loadG rfl (gq rfl) rfl rfl) (bs h fun v1 hv1 h => s_call rfl rfl all2_refl (convoy_beside_ok _  _ hv1) (.inl rfl) (sv rfl (sv rfl (sv rfl (sv rfl (sv rfl (s_nil (l_seq (lr (fun u5 hu5 => sv rfl (sv rfl (s_nil (bs h fun y1 hy1 h => l_join (fun s => ∃ g1 : Unit, Sb ⟨T [(1, (dl eConvoyLetter p2)), (2, (dl eSight p3)), (3, (.ptr (3, u1) 0)), (6, (.ptr (6, u1) 0)), (8, (.ptr (8, u2) 0)), (9, (di y1)), (10, (di 0)), (12, (di v1.2))], G [((3, u1), some (.box 38 (dConvoy p1))), ((6, u1), some (.box 36 [(di 0), (di 0), (di 0), (di 0), (di 0), (di 0), (di 0), (di 0), (di 0), (di 0)])), ((8, u2), some (.box 36 (dGuest p1.Guest_)))]⟩ s) ?_ ?_)))))))))))))))))))))))))))))
  · refine cc rfl hy1 (fun c1 hy1 => ?_) (fun c1 hy1 => ?_)
    · refine l_sub (s0 := ⟨T [(1, (.d _)), (2, (.d _)), (3, (.ptr _ _)), (6, (.ptr _ _)), (8, (.ptr _ _)), (10, (.d _)), (11, (.d _)), (12, (.d _))], G [((3, u1), some (.box 38 _)), ((6, u1), some (.box 36 _)), ((8, u2), some (.box 36 _))]⟩) (sbr rfl rfl) ?_
      refine l_reg fun u6 hu6 => sp rfl rfl (sl rfl G_hit rfl (sv rfl (bs hy1 fun v2 hv2 hy1 => sd rfl (v_idx rfl rfl hv2 rfl) (sv rfl (sd rfl (v_loadL rfl hv2 rfl) (sv rfl (s_nil ?_)))))))
      obtain rfl := Option.some.inj hy1
      exact l_j ⟨(), (sbr rfl rfl)⟩
    · refine l_skip ?_
      obtain rfl := Option.some.inj hy1
      exact l_j ⟨(), (sbr rfl rfl)⟩
  · rintro _ ⟨g1, q1⟩
    refine l_sub q1 (l_seq (lr (fun u7 hu7 => sv rfl (sv rfl (s_nil (bs h fun y2 hy2 h => l_join (fun s => ∃ g2 : Unit, Sb ⟨T [(1, (dl eConvoyLetter p2)), (2, (dl eSight p3)), (3, (.ptr (3, u1) 0)), (6, (.ptr (6, u1) 0)), (8, (.ptr (8, u2) 0)), (9, (di y1)), (10, (di y2))], G [((3, u1), some (.box 38 (dConvoy p1))), ((6, u1), some (.box 36 [(di 0), (di 0), (di 0), (di 0), (di 0), (di 0), (di 0), (di 0), (di 0), (di 0)])), ((8, u2), some (.box 36 (dGuest p1.Guest_)))]⟩ s) ?_ ?_))))))
    · refine cc rfl hy2 (fun c2 hy2 => ?_) (fun c2 hy2 => ?_)
      · refine l_reg fun u8 hu8 => sp rfl rfl (sl rfl G_hit rfl (sv rfl (bs hy2 fun v3 hv3 hy2 => sd rfl (v_idx rfl rfl hv3 rfl) (sv rfl (sd rfl (v_loadL rfl hv3 rfl) (sv rfl (s_nil ?_)))))))
        obtain rfl := Option.some.inj hy2
        exact l_j ⟨(), (sbr rfl rfl)⟩
      · refine l_skip ?_
        obtain rfl := Option.some.inj hy2
        exact l_j ⟨(), (sbr rfl rfl)⟩
    · rintro _ ⟨g2, q2⟩
      refine l_sub q2 (l_seq (lr (fun u9 hu9 => sp rfl rfl (sl rfl (gq rfl) rfl (sv rfl (sv rfl (s_nil (bs h fun y3 hy3 h => l_join (fun s => ∃ g3 : Unit, Sb ⟨T [(1, (dl eConvoyLetter p2)), (2, (dl eSight p3)), (3, (.ptr (3, u1) 0)), (6, (.ptr (6, u1) 0)), (8, (.ptr (8, u2) 0)), (9, (di y1)), (10, (di y2))], G [((3, u1), some (.box 38 (dConvoy p1))), ((6, u1), some (.box 36 [(di 0), (di 0), (di 0), (di 0), (di 0), (di 0), (di 0), (di 0), (di 0), (di 0)])), ((8, u2), some (.box 36 (dGuest y3)))]⟩ s) ?_ ?_))))))))
      · refine cc rfl hy3 (fun c3 hy3 => ?_) (fun c3 hy3 => ?_)
        · refine l_reg fun u10 hu10 => sv rfl (sp rfl rfl (sst rfl (gq rfl) [(di p1.Guest_.ID), (di p1.Guest_.S), (di p1.Guest_.V), (di p1.Guest_.Len), (di p1.Guest_.End), (di 0), (di p1.Guest_.Guess_.R), (di p1.Guest_.Guess_.V), (di p1.Guest_.From), (di p1.Guest_.Until)] rfl (sp rfl rfl (sst rfl G_hit [(di p1.Guest_.ID), (di p1.Guest_.S), (di p1.Guest_.V), (di p1.Guest_.Len), (di p1.Guest_.End), (di 0), (di 0), (di 0), (di p1.Guest_.From), (di p1.Guest_.Until)] rfl (s_nil ?_)))))
          obtain rfl := Option.some.inj hy3
          exact l_j ⟨(), (sbr rfl rfl)⟩
        · refine l_skip ?_
          obtain rfl := Option.some.inj hy3
          exact l_j ⟨(), (sbr rfl rfl)⟩
      · rintro _ ⟨g3, q3⟩
        refine l_sub q3 (l_seq (lr (fun u11 hu11 => sv rfl (sd rfl (v_len rfl) (sv rfl (s_nil (bs h fun y4 hy4 h => l_join (fun s => ∃ g4 : Unit, Sb ⟨T [(2, (dl eSight p3)), (3, (.ptr (3, u1) 0)), (6, (.ptr (6, u1) 0)), (8, (.ptr (8, u2) 0)), (9, (di y1)), (10, (di y2))], G [((3, u1), some (.box 38 (dConvoy p1))), ((6, u1), some (.box 36 [(di 0), (di 0), (di 0), (di 0), (di 0), (di 0), (di 0), (di 0), (di 0), (di 0)])), ((8, u2), some (.box 36 (dGuest y4)))]⟩ s) ?_ ?_)))))))
        · refine l_block (l_loop (convoy_arrives_l1 p1 p2 y1 y2) (fun (x1 : (Int × Guest)) (g5 : Unit) => ⟨T [(2, (dl eSight p3)), (3, (.ptr (3, u1) 0)), (6, (.ptr (6, u1) 0)), (8, (.ptr (8, u2) 0)), (9, (di y1)), (10, (di y2)), (49, (dl eConvoyLetter p2)), (50, (di (p2.length : Int))), (51, (di x1.1))], G [((3, u1), some (.box 38 (dConvoy p1))), ((6, u1), some (.box 36 [(di 0), (di 0), (di 0), (di 0), (di 0), (di 0), (di 0), (di 0), (di 0), (di 0)])), ((8, u2), some (.box 36 (dGuest x1.2)))]⟩) (0, y3) () _ hy4 (sbr rfl rfl) ?_)
          intro x1 g5 z1 hz1 ez1
          unfold convoy_arrives_l1 at hz1
          refine lr (fun u12 hu12 => sv rfl (s_nil (l_seq (cc rfl hz1 (fun c4 hz1 => ?_) (fun c4 hz1 => ?_)))))
          · refine l_skip (l_seq (l_block (lr (fun u13 hu13 => bs hz1 fun v4 hv4 hz1 => sd rfl (v_idx rfl rfl hv4 rfl) (sd rfl (v_loadLG rfl hv4 rfl rfl) (sn rfl rfl (sst rfl G_hit (dConvoyLetter v4) rfl (s_nil (l_block (lr (fun u14 hu14 => sp rfl rfl (sp rfl rfl (sl rfl G_hit rfl (sv rfl (sv rfl (gp rfl (gw_t rfl) (fun _ => rfl) ?_))))))))))))))))
            refine g_val _ (.ptr _ _) rfl (gw_t rfl) (fun w2 => (by simp only [gd_pos w2]; rfl)) ?_
            refine gt rfl (vl rfl G_hit rfl) (gt rfl (fun _ => rfl) (gt rfl (fun w5 => (v_bin (gd_pos w5) (gd_pos w5) rfl)) (sa rfl rfl rfl (sv rfl (s_nil (cc rfl hz1 (fun c5 hz1 => ?_) (fun c5 hz1 => ?_)))))))
            · refine l_sub (s0 := ⟨T [(2, (.d _)), (3, (.ptr _ _)), (6, (.ptr _ _)), (8, (.ptr _ _)), (9, (.d _)), (10, (.d _)), (14, (.ptr _ _)), (49, (.d _)), (50, (.d _)), (51, (.d _))], G [((3, u1), some (.box 38 _)), ((6, u1), some (.box 36 _)), ((8, u2), some (.box 36 _)), ((14, u13), some (.box 125 _))]⟩) (sbr rfl rfl) ?_
              refine l_reg fun u15 hu15 => sv rfl (sp rfl rfl (sd rfl (v_loadG rfl (gq rfl) rfl rfl) (bs hz1 fun v5 hv5 hz1 => s_oc (v := .d (.tup [])) (us := [(8, u2)]) (oc_m (convoy_nearer_o_ok _ _ _ _ hv5) [(8, u2)] [(8, u2)] _ (((8, u2), some (.box 36 (dGuest v5))) :: _) rfl all2_av (kl_cons (kr_ptr (G_skip rfl (G_skip rfl G_hit)) rfl) (kl_cons kr_d (kl_cons kr_d kl_nil))) (live_cons (G_skip rfl (G_skip rfl G_hit)) live_nil) ⟨⟨_, (G_skip rfl (G_skip rfl G_hit)), .of rfl⟩, trivial⟩ (fun _ h => h) nd1 rfl rfl rfl) (s_nil (l_end (l_end (l_reg fun u16 hu16 => sv rfl (sv rfl (s_nil (l_nil ?_))))))))))
              obtain rfl := Option.some.inj hz1
              exact ⟨rfl, (), (sbr rfl rfl)⟩
            · refine l_seq (l_sub (s0 := ⟨T [(2, (.d _)), (3, (.ptr _ _)), (6, (.ptr _ _)), (8, (.ptr _ _)), (9, (.d _)), (10, (.d _)), (14, (.ptr _ _)), (49, (.d _)), (50, (.d _)), (51, (.d _))], G [((3, u1), some (.box 38 _)), ((6, u1), some (.box 36 _)), ((8, u2), some (.box 36 _)), ((14, u13), some (.box 125 _))]⟩) (sbr rfl rfl) ?_)
              refine l_reg fun u17 hu17 => sp rfl rfl (sp rfl rfl (sl rfl (gq rfl) rfl (sv rfl (sv rfl (gp rfl (gw_t rfl) (fun _ => rfl) ?_)))))
              refine g_val _ (.ptr _ _) rfl (gw_t rfl) (fun w7 => (by simp only [gd_pos w7]; rfl)) ?_
              refine gt rfl (vl rfl (gq rfl) rfl) (gp rfl (gw_t rfl) (fun _ => rfl) (gt rfl (vl rfl (gq rfl) rfl) (gt rfl (fun w11 => (v_bin (gd_pos w11) (gd_pos w11) rfl)) (sa rfl rfl rfl (sv rfl (gp rfl (gw_t rfl) (fun _ => rfl) ?_))))))
              refine g_val _ (.ptr _ _) rfl (gw_t rfl) (fun w13 => (by simp only [gd_pos w13]; rfl)) ?_
              refine gt rfl (vl rfl (gq rfl) rfl) (gt rfl (fun _ => rfl) (gt rfl (fun w16 => (v_bin (gd_pos w16) (gd_pos w16) rfl)) (sa rfl rfl rfl (sv rfl (gp rfl (gw_t rfl) (fun _ => rfl) ?_)))))
              refine g_val _ (.ptr _ _) rfl (gw_t rfl) (fun w18 => (by simp only [gd_pos w18]; rfl)) ?_
              refine gt rfl (vl rfl (gq rfl) rfl) (gp rfl (gw_t rfl) (fun _ => rfl) (gt rfl (vl rfl G_hit rfl) (gt rfl (fun w22 => (v_bin (gd_pos w22) (gd_pos w22) rfl)) (sa rfl rfl rfl (sv rfl (s_nil (cc rfl hz1 (fun c6 hz1 => ?_) (fun c6 hz1 => ?_))))))))
              · refine l_sub (s0 := ⟨T [(2, (.d _)), (3, (.ptr _ _)), (6, (.ptr _ _)), (8, (.ptr _ _)), (9, (.d _)), (10, (.d _)), (14, (.ptr _ _)), (49, (.d _)), (50, (.d _)), (51, (.d _))], G [((3, u1), some (.box 38 _)), ((6, u1), some (.box 36 _)), ((8, u2), some (.box 36 _)), ((14, u13), some (.box 125 _))]⟩) (sbr rfl rfl) ?_
                refine l_drawT fun u18 hu18 => t_val (.d _) rfl rfl (t_val (.ptr _ _) rfl rfl (t_val (.ptr _ _) rfl rfl (t_val (.d _) rfl (v_load rfl (gq rfl) rfl) (t_val (.ptr _ _) rfl rfl (t_store _ _ _ _ _ rfl rfl rfl (gq rfl) (nl rfl) [(di x1.2.ID), (di x1.2.S), (di x1.2.V), (di x1.2.Len), (di x1.2.End), (di x1.2.Ahead), (di x1.2.Guess_.R), (di x1.2.Guess_.V), (di y2), (di x1.2.Until)] rfl (t_val (.ptr _ _) rfl rfl (t_store _ _ _ _ _ rfl rfl rfl G_hit (nl rfl) [(di x1.2.ID), (di x1.2.S), (di x1.2.V), (di x1.2.Len), (di x1.2.End), (di x1.2.Ahead), (di x1.2.Guess_.R), (di x1.2.Guess_.V), (di y2), (di v4.Note_.Until)] rfl (t_nil ⟨rfl, ?_⟩))))))))
                refine l_end (l_end (l_reg fun u19 hu19 => sv rfl (sv rfl (s_nil (l_nil ?_)))))
                obtain rfl := Option.some.inj hz1
                exact ⟨rfl, (), (sbr rfl rfl)⟩
              · refine l_skip (l_end (l_end (l_sub (s0 := ⟨T [(2, (.d _)), (3, (.ptr _ _)), (6, (.ptr _ _)), (8, (.ptr _ _)), (9, (.d _)), (10, (.d _)), (49, (.d _)), (50, (.d _)), (51, (.d _))], G [((3, u1), some (.box 38 _)), ((6, u1), some (.box 36 _)), ((8, u2), some (.box 36 _))]⟩) (sbr rfl rfl) ?_)))
                refine l_reg fun u20 hu20 => sv rfl (sv rfl (s_nil (l_nil ?_)))
                obtain rfl := Option.some.inj hz1
                exact ⟨rfl, (), (sbr rfl rfl)⟩
          · refine l_exitN rfl ?_
            obtain rfl := Option.some.inj hz1
            obtain rfl := ez1 _ rfl
            refine ⟨nofun, awl_pop rfl (l_j ?_)⟩
            exact ⟨(), (sbr rfl rfl)⟩
        · rintro _ ⟨g4, q4⟩
          refine l_sub q4 (l_seq (lr (fun u21 hu21 => sv rfl (sp rfl rfl (sl rfl (gq rfl) rfl (bs h fun v6 hv6 h => s_call rfl rfl all2_refl (convoy_look_ok _ _  _ hv6) (.inl rfl) (sv rfl (sv rfl (sv rfl (sn rfl rfl (sst rfl G_hit (dSight v6.1) rfl (sv rfl (s_nil (lr (fun u22 hu22 => sv rfl (sv rfl (gt rfl (fun _ => rfl) (gt rfl (vb rfl rfl rfl) (sa rfl rfl rfl (s_nil (bs h fun y5 hy5 h => l_join (fun s => ∃ g6 : Unit, Sb ⟨T [(3, (.ptr (3, u1) 0)), (6, (.ptr (6, u1) 0)), (8, (.ptr (8, u2) 0)), (9, (di y1)), (10, (di y2))], G [((3, u1), some (.box 38 (dConvoy p1))), ((6, u1), some (.box 36 [(di 0), (di 0), (di 0), (di 0), (di 0), (di 0), (di 0), (di 0), (di 0), (di 0)])), ((8, u2), some (.box 36 (dGuest y5)))]⟩ s) ?_ ?_)))))))))))))))))))))
          · refine cc rfl hy5 (fun c7 hy5 => ?_) (fun c7 hy5 => ?_)
            · refine l_sub (s0 := ⟨T [(3, (.ptr _ _)), (6, (.ptr _ _)), (8, (.ptr _ _)), (9, (.d _)), (10, (.d _)), (15, (.ptr _ _))], G [((3, u1), some (.box 38 _)), ((6, u1), some (.box 36 _)), ((8, u2), some (.box 36 _)), ((15, u21), some (.box 42 _))]⟩) (sbr rfl rfl) ?_
              refine l_reg fun u23 hu23 => sv rfl (sp rfl rfl (sl rfl (gq rfl) rfl (sp rfl rfl (sl rfl (gq rfl) rfl (sv rfl (bs hy5 fun v7 hv7 hy5 => s_oc (v := .d (.tup [])) (us := [(8, u2)]) (oc_m (convoy_nearer_o_ok _ _ _ _ hv7) [(8, u2)] [(8, u2)] _ (((8, u2), some (.box 36 (dGuest v7))) :: _) rfl all2_av (kl_cons (kr_ptr (G_skip rfl (G_skip rfl G_hit)) rfl) (kl_cons kr_d (kl_cons kr_d kl_nil))) (live_cons (G_skip rfl (G_skip rfl G_hit)) live_nil) ⟨⟨_, (G_skip rfl (G_skip rfl G_hit)), .of rfl⟩, trivial⟩ (fun _ h => h) nd1 rfl rfl rfl) (s_nil ?_)))))))
              obtain rfl := Option.some.inj hy5
              exact l_j ⟨(), (sbr rfl rfl)⟩
            · refine l_skip ?_
              obtain rfl := Option.some.inj hy5
              exact l_j ⟨(), (sbr rfl rfl)⟩
          · rintro _ ⟨g6, q5⟩
            refine l_sub q5 (lr (fun u24 hu24 => sv rfl (sv rfl (sv rfl (gp rfl (gw_f rfl) (fun _ => rfl) (gf rfl (vl rfl (gq rfl) rfl) (gf rfl (fun _ => rfl) (gf rfl (fun w28 => (v_bin (gd_pos w28) (gd_pos w28) rfl)) (gf rfl (fun w29 => (v_mv (gd_pos w29))) (g_val _ (.ptr _ _) rfl (gw_gt rfl) (fun _ => rfl) (gv rfl (gw_gt rfl) (vl rfl (gq rfl) rfl) (g_val _ (.ptr _ _) rfl (gw_gt rfl) (fun _ => rfl) (gv rfl (gw_gt rfl) (vl rfl (gq rfl) rfl) (g_val _ (.ptr _ _) rfl (gw_gt rfl) (fun _ => rfl) (gv rfl (gw_gt rfl) (vl rfl G_hit rfl) (g_val _ (.ptr _ _) rfl (gw_gt rfl) (fun _ => rfl) (gv rfl (gw_gt rfl) (fun w37 => (v_loadG (gd_pos w37) (gq rfl) rfl rfl)) (bs h fun v8 hv8 h => ?_))))))))))))))))))
            refine g_call _ (bo v8) (gw_gt rfl) (fun w38 => ⟨_, [(di y5.S), (di y5.V), (di p1.Gap), (.d (.agg [(i64 y5.Guess_.R), (i64 y5.Guess_.V)]))], _, _, (by simp only [gd_pos w38]; rfl), rfl, all2_refl, convoy_Safe_ok _ _ _ _  _ (cond_t w38 hv8), (.inl rfl)⟩) ?_
            refine gf rfl (fun w39 => (v_and (gd_pos w39) (fun hc => gd_pos (and_i w39 hc)) rfl)) (sd rfl (v_or rfl rfl (fun hc => gd_pos (not_t hc))) (sv rfl (s_nil (l_seq (l_sub (s0 := ⟨T [(3, (.ptr _ _)), (6, (.ptr _ _)), (8, (.ptr _ _)), (10, (.d _)), (17, (.d _))], G [((3, u1), some (.box 38 _)), ((6, u1), some (.box 36 _)), ((8, u2), some (.box 36 _))]⟩) (sbr rfl rfl) ?_)))))
            refine l_reg fun u25 hu25 => sv rfl (sv rfl (sv rfl (gp rfl (gw_f rfl) (fun _ => rfl) (gf rfl (vl rfl (gq rfl) rfl) (gf rfl (fun _ => rfl) (gf rfl (fun w43 => (v_bin (gd_pos w43) (gd_pos w43) rfl)) (gf rfl (fun w44 => (v_mv (gd_pos w44))) (g_val _ (.ptr _ _) rfl (gw_gt rfl) (fun _ => rfl) (gv rfl (gw_gt rfl) (vl rfl G_hit rfl) (g_val _ (.ptr _ _) rfl (gw_gt rfl) (fun _ => rfl) (gv rfl (gw_gt rfl) (vl rfl (gq rfl) rfl) (gv rfl (gw_gt rfl) (fun w49 => (v_bin (gd_pos w49) (gd_pos w49) rfl)) (gf rfl (fun w50 => (v_and (gd_pos w50) (fun hc => gd_pos (and_i w50 hc)) rfl)) (sd rfl (v_or rfl rfl (fun hc => gd_pos (not_t hc))) (sv rfl (s_nil (l_seq (l_sub (s0 := ⟨T [(6, (.ptr _ _)), (8, (.ptr _ _)), (17, (.d _)), (18, (.d _))], G [((6, u1), some (.box 36 _)), ((8, u2), some (.box 36 _))]⟩) (sbr rfl rfl) ?_))))))))))))))))))
            refine l_reg fun u26 hu26 => sd rfl (v_loadG rfl (gq rfl) rfl rfl) (sv rfl (sv rfl (gt rfl (fun _ => rfl) (sa rfl rfl rfl (sst rfl G_hit (dGuest y5) rfl (sv rfl (s_nil (l_ret ?_))))))))
            obtain rfl := Option.some.inj h
            exact fin_ok (.inr rfl) (resD2 (res_cellG rfl G_hit (nl rfl) rfl) (res_t rfl) rf_d rf_d) (.refl _)

noncomputable def convoy_rolls_1_b (p1 : Int) (p2 : Int) (p3 : Guest) : Option Bool :=
  (convoy_stop p2).bind fun v1 => some (decide ((w64 (p1 + v1)) < p3.End))

/-- kerbstone/convoy.rolls$1 -/
def ac_convoy_rolls_1_b : AC := (.seq (.reg [oo 5 (.mv (.c zf))]) (.seq (.draw [oo 6 (.mv (.t 0)), oo 7 (.mv (.t 1)), oo 8 (.call (cf 62) [(.t 7)]), oo 9 (.bin .add (.t 6) (.t 8)), oo 10 (.fieldA 4 (.t 2)), oo 11 (.load 1 false (.t 10)), oo 12 (.bin .lss (.t 9) (.t 11)), oo 5 (.mv (.t 12))] []) .ret))
theorem fn_convoy_rolls_1_b : FnOK Try.prog 118 13 [.t 5] ac_convoy_rolls_1_b := ⟨_, _, Try.func118, rfl, Try.ntmps118, by kernel_rfl, ⟨fun _ => [], by kernel_rfl⟩, by kernel_rfl⟩
theorem convoy_rolls_1_b_ok (p1 : Int) (p2 : Int) (p3 : Guest) (r : Bool) (h : convoy_rolls_1_b p1 p2 p3 = some r) : PCall Try.prog 118 [(i64 p1), (i64 p2), (.bp (eGuest p3) 0)] (bo r) := by
  refine l_call fn_convoy_rolls_1_b (nl rfl) ?_
  unfold convoy_rolls_1_b at h
  unfold ac_convoy_rolls_1_b
  refine l_sub (s0 := ⟨T [(0, (.d _)), (1, (.d _)), (2, (.d _))], G []⟩) (sbr rfl rfl) ?_
  refine lr (fun u1 hu1 => sv rfl (s_nil (l_seq (l_draw rfl fun u2 hu2 => sv rfl (sv rfl (bs h fun v1 hv1 h => s_call rfl rfl all2_refl (convoy_stop_ok _  _ hv1) (.inl rfl) (sv rfl (sv rfl (sv rfl (sv rfl (sv rfl (s_nil (l_ret ?_)))))))))))))
  obtain rfl := Option.some.inj h
  exact fin_ok (.inr rfl) (resD1 (res_t rfl) rf_d) (.refl _)

noncomputable def convoy_greatest_convoy_rolls_1b_l1 (p1 : Int) (p2 : Int) (p4 : Guest) (x1 : Int) : Option (Stp Int Int) :=
  cond (decide (x1 > (-90))) ((convoy_moved p1 p2 x1).bind fun v1 => (convoy_rolls_1_b v1.1 v1.2 p4).bind fun v2 => cond v2 (some (.out x1)) (some (.go (w64 (x1 - 1))))) (some (.out x1))
noncomputable def convoy_greatest_convoy_rolls_1b (p1 : Int) (p2 : Int) (p3 : Int) (p4 : Guest) : Option Int :=
  (loop (convoy_greatest_convoy_rolls_1b_l1 p1 p2 p4) (mm2 true (-90) (mm2 false p3 30))).bind fun y1 => some y1

/-- kerbstone/convoy.greatest -/
def ac_convoy_greatest_convoy_rolls_1b : AC := (.seq (.reg [oo 8 (.mv (ci 0))]) (.seq (.reg [oo 10 (.mv (.t 2)), oo 11 (.mm false (.t 10) [(ci 30)]), oo 12 (.mm true (ci (-90)) [(.t 11)]), oo 9 (.mv (.t 12))]) (.seq (.block 0 (.loop (.seq (.seq (.reg [oo 13 (.mv (.t 9)), oo 14 (.bin .gtr (.t 13) (ci (-90)))]) (.cond (.t 14) .skip (.exit 0))) (.seq (.block 1 (.seq (.reg [oo 17 (.mv (.t 3)), oo 18 (.mv (.t 0)), oo 19 (.mv (.t 1)), oo 20 (.mv (.t 9)), oo 21 (.call (cf 116) [(.t 18), (.t 19), (.t 20)]), oo 22 (.ext (.t 21) 0), oo 23 (.ext (.t 21) 1), oo 24 (.call (.t 17) [(.t 22), (.t 23)])]) (.cond (.t 24) (.exit 0) .skip))) (.reg [oo 15 (.mv (.t 9)), oo 16 (.bin .sub (.t 15) (ci 1)), oo 9 (.mv (.t 16))]))))) (.seq (.reg [oo 25 (.mv (.t 9)), oo 8 (.mv (.t 25))]) .ret))))
theorem fn_convoy_greatest_convoy_rolls_1b : FnOK Try.prog 114 26 [.t 8] ac_convoy_greatest_convoy_rolls_1b := ⟨_, _, Try.func114, rfl, Try.ntmps114, by kernel_rfl, ⟨fun _ => [], by kernel_rfl⟩, by kernel_rfl⟩
set_option maxHeartbeats 4000000 in
theorem convoy_greatest_convoy_rolls_1b_ok (p1 : Int) (p2 : Int) (p3 : Int) (p4 : Guest) (r : Int) (h : convoy_greatest_convoy_rolls_1b p1 p2 p3 p4 = some r) : PCall Try.prog 114 [(i64 p1), (i64 p2), (i64 p3), (.fn (.func 118) [] [(.bp (eGuest p4) 0)])] (i64 r) := by
  refine l_call fn_convoy_greatest_convoy_rolls_1b (nl rfl) ?_
  unfold convoy_greatest_convoy_rolls_1b at h
  unfold ac_convoy_greatest_convoy_rolls_1b
  refine l_sub (s0 := ⟨T [(0, (.d _)), (1, (.d _)), (2, (.d _)), (3, (.d _))], G []⟩) (sbr rfl rfl) ?_
  refine lr (fun u1 hu1 => sv rfl (s_nil (lr (fun u2 hu2 => sv rfl (sv rfl (sv rfl (sv rfl (s_nil (l_seq (bs h fun y1 hy1 h => l_join (fun s => ∃ g1 : Unit, Sb ⟨T [(9, (di y1))], G []⟩ s) ?_ ?_))))))))))
  · refine l_block (l_loop (convoy_greatest_convoy_rolls_1b_l1 p1 p2 p4) (fun (x1 : Int) (g2 : Unit) => ⟨T [(0, (di p1)), (1, (di p2)), (3, (.d (.fn (.func 118) [] [(.bp (eGuest p4) 0)]))), (9, (di x1))], G []⟩) (mm2 true (-90) (mm2 false p3 30)) () _ hy1 (sbr rfl rfl) ?_)
    intro x1 g2 z1 hz1 ez1
    unfold convoy_greatest_convoy_rolls_1b_l1 at hz1
    refine l_seq (lr (fun u3 hu3 => sv rfl (sv rfl (s_nil (cc rfl hz1 (fun c1 hz1 => ?_) (fun c1 hz1 => ?_))))))
    · refine l_skip (l_seq (l_block (lr (fun u4 hu4 => sv rfl (sv rfl (sv rfl (sv rfl (bs hz1 fun v1 hv1 hz1 => s_call rfl rfl all2_refl (convoy_moved_ok _ _ _  _ hv1) (.inl rfl) (sv rfl (sv rfl (bs hz1 fun v2 hv2 hz1 => s_call rfl rfl all2_refl (convoy_rolls_1_b_ok _ _ _  _ hv2) (.inl rfl) (s_nil (cc rfl hz1 (fun c2 hz1 => ?_) (fun c2 hz1 => ?_))))))))))))))
      · refine l_exitN rfl ?_
        obtain rfl := Option.some.inj hz1
        obtain rfl := ez1 _ rfl
        refine ⟨nofun, awl_pop rfl (l_j ?_)⟩
        exact ⟨(), (sbr rfl rfl)⟩
      · refine l_skip (l_end (l_reg fun u5 hu5 => sv rfl (sv rfl (sv rfl (s_nil (l_nil ?_))))))
        obtain rfl := Option.some.inj hz1
        exact ⟨rfl, (), (sbr rfl rfl)⟩
    · refine l_exitN rfl ?_
      obtain rfl := Option.some.inj hz1
      obtain rfl := ez1 _ rfl
      refine ⟨nofun, awl_pop rfl (l_j ?_)⟩
      exact ⟨(), (sbr rfl rfl)⟩
  · rintro _ ⟨g1, q1⟩
    refine l_sub q1 (lr (fun u6 hu6 => sv rfl (sv rfl (s_nil (l_ret ?_)))))
    obtain rfl := Option.some.inj h
    exact fin_ok (.inr rfl) (resD1 (res_t rfl) rf_d) (.refl _)

noncomputable def convoy_rolls (p1 : Guest) (p2 : Int) : Option Guest :=
  (convoy_greatest_convoy_rolls_1b p1.S p1.V p2 p1).bind fun v1 => (convoy_moved p1.S p1.V v1).bind fun v2 => cond (p1.Ahead != 0) ((convoy_Age p1.Guess_ 1).bind fun v3 => some (Guest.mk p1.ID v2.1 v2.2 p1.Len p1.End p1.Ahead v3 p1.From p1.Until)) (some (Guest.mk p1.ID v2.1 v2.2 p1.Len p1.End p1.Ahead p1.Guess_ p1.From p1.Until))

/-- kerbstone/convoy.rolls -/
def ac_convoy_rolls : AC := (.seq (.reg [oo 2 (.box 36 true (.t 0)), oo 4 (.alloc 36 [z0, z0, z0, z0, z0, z0, z0, z0, z0, z0])]) (.seq (.reg [oo 6 (.fieldA 1 (.t 2)), oo 7 (.load 1 false (.t 6)), oo 8 (.fieldA 2 (.t 2)), oo 9 (.load 1 false (.t 8)), oo 10 (.mv (.t 1)), oo 11 (.mkfn (.func 118) [] [(.t 2)]), oo 12 (.call (cf 114) [(.t 7), (.t 9), (.t 10), (.t 11)]), oo 5 (.mv (.t 12))]) (.seq (.reg [oo 14 (.fieldA 1 (.t 2)), oo 15 (.load 1 false (.t 14)), oo 16 (.fieldA 2 (.t 2)), oo 17 (.load 1 false (.t 16)), oo 18 (.mv (.t 5)), oo 19 (.call (cf 116) [(.t 15), (.t 17), (.t 18)]), oo 13 (.mv (.t 19)), oo 20 (.ext (.t 13) 0), oo 21 (.ext (.t 13) 1), oo 22 (.fieldA 1 (.t 2)), oe (.store 1 (.t 22) (.t 20)), oo 23 (.fieldA 2 (.t 2)), oe (.store 1 (.t 23) (.t 21))]) (.seq (.seq (.reg [oo 24 (.fieldA 5 (.t 2)), oo 25 (.load 1 false (.t 24)), oo 26 (.bin .neq (.t 25) (ci 0))]) (.cond (.t 26) (.reg [oo 27 (.fieldA 6 (.t 2)), oo 28 (.load 2 true (.t 27)), oo 29 (.call (cf 15) [(.t 28), (ci 1)]), oo 30 (.fieldA 6 (.t 2)), oe (.store 2 (.t 30) (.t 29))]) .skip)) (.seq (.reg [oo 31 (.load 10 true (.t 2)), oe (.store 10 (.t 4) (.t 31))]) .ret)))))
theorem fn_convoy_rolls : FnOK Try.prog 91 32 [.cell 4 10 true] ac_convoy_rolls := ⟨_, _, Try.func91, rfl, Try.ntmps91, by kernel_rfl, ⟨fun _ => [], by kernel_rfl⟩, by kernel_rfl⟩
set_option maxHeartbeats 4000000 in
theorem convoy_rolls_ok (p1 : Guest) (p2 : Int) (r : Guest) (h : convoy_rolls p1 p2 = some r) : PCall Try.prog 91 [(.agg (eGuest p1)), (i64 p2)] (.agg (eGuest r)) := by
  refine l_call fn_convoy_rolls (nl rfl) ?_
  unfold convoy_rolls at h
  unfold ac_convoy_rolls
  refine l_sub (s0 := ⟨T [(0, (.d _)), (1, (.d _))], G []⟩) (sbr rfl rfl) ?_
  refine lr (fun u1 hu1 => sn rfl rfl (sn rfl rfl (s_nil (lr (fun u2 hu2 => sp rfl rfl (sl rfl (gq rfl) rfl (sp rfl rfl (sl rfl (gq rfl) rfl (sv rfl (s_val (.fn _ _ _) rfl rfl (bs h fun v1 hv1 h => s_call rfl (rfL_cons rf_d (rfL_cons rf_d (rfL_cons rf_d (rfL_cons (rf_fn rfL_nil (rfL_cons (rf_ptr (gq rfl) (rfL_cons rf_d (rfL_cons rf_d (rfL_cons rf_d (rfL_cons rf_d (rfL_cons rf_d (rfL_cons rf_d (rfL_cons rf_d (rfL_cons rf_d (rfL_cons rf_d (rfL_cons rf_d rfL_nil))))))))))) rfL_nil)) rfL_nil)))) all2_refl (convoy_greatest_convoy_rolls_1b_ok _ _ _ _  _ hv1) (.inr rfl) (sv rfl (s_nil (lr (fun u3 hu3 => sp rfl rfl (sl rfl (gq rfl) rfl (sp rfl rfl (sl rfl (gq rfl) rfl (sv rfl (bs h fun v2 hv2 h => s_call rfl rfl all2_refl (convoy_moved_ok _ _ _  _ hv2) (.inl rfl) (sv rfl (sv rfl (sv rfl (sp rfl rfl (sst rfl (gq rfl) [(di p1.ID), (di v2.1), (di p1.V), (di p1.Len), (di p1.End), (di p1.Ahead), (di p1.Guess_.R), (di p1.Guess_.V), (di p1.From), (di p1.Until)] rfl (sp rfl rfl (sst rfl G_hit [(di p1.ID), (di v2.1), (di v2.2), (di p1.Len), (di p1.End), (di p1.Ahead), (di p1.Guess_.R), (di p1.Guess_.V), (di p1.From), (di p1.Until)] rfl (s_nil (l_seq (l_seq (l_sub (s0 := ⟨T [(2, (.ptr _ _)), (4, (.ptr _ _))], G [((2, u1), some (.box 36 _)), ((4, u1), some (.box 36 _))]⟩) (sbr rfl rfl) ?_)))))))))))))))))))))))))))))))
  refine l_reg fun u4 hu4 => sp rfl rfl (sl rfl G_hit rfl (sv rfl (s_nil (cc rfl h (fun c1 h => ?_) (fun c1 h => ?_)))))
  · refine l_reg fun u5 hu5 => sp rfl rfl (sd rfl (v_loadG rfl G_hit rfl rfl) (bs h fun v3 hv3 h => s_call rfl rfl all2_refl (convoy_Age_ok _ _  _ hv3) (.inl rfl) (sp rfl rfl (sst rfl G_hit [(di p1.ID), (di v2.1), (di v2.2), (di p1.Len), (di p1.End), (di p1.Ahead), (di v3.R), (di v3.V), (di p1.From), (di p1.Until)] rfl (s_nil (lr (fun u6 hu6 => sd rfl (v_loadG rfl G_hit rfl rfl) (sst rfl (gq rfl) [(di p1.ID), (di v2.1), (di v2.2), (di p1.Len), (di p1.End), (di p1.Ahead), (di v3.R), (di v3.V), (di p1.From), (di p1.Until)] rfl (s_nil (l_ret ?_))))))))))
    obtain rfl := Option.some.inj h
    exact fin_ok (.inr rfl) (resD1 (res_cellG rfl G_hit (nl rfl) rfl) rf_d) (.refl _)
  · refine l_skip (lr (fun u7 hu7 => sd rfl (v_loadG rfl G_hit rfl rfl) (sst rfl (gq rfl) [(di p1.ID), (di v2.1), (di v2.2), (di p1.Len), (di p1.End), (di p1.Ahead), (di p1.Guess_.R), (di p1.Guess_.V), (di p1.From), (di p1.Until)] rfl (s_nil (l_ret ?_)))))
    obtain rfl := Option.some.inj h
    exact fin_ok (.inr rfl) (resD1 (res_cellG rfl G_hit (nl rfl) rfl) rf_d) (.refl _)

section
open Go.RowKit Go.Lib

theorem info65 : (Try.prog.info? 65).map (fun i => (i.size, i.bytes)) = some (12, 96) := by kernel_rfl
theorem mixed : Try.prog.follows .mixedOrders = true := by kernel_rfl

structure Keep (p : Prop) : Prop where
  out : p
set_option maxHeartbeats 4000000 in
set_option maxRecDepth 100000 in
theorem ins_shift (g n c i vg m vc : Nat) (cur cury : Array Value) (ys : List Value) (w : World) (hi : i < n) (hm : 0 < m) (hroom : n + m ≤ c) (hc63 : c ≤ 9223372036854775807) (hvb : vg ≠ g)
    (hg : w.heap[g]? = some (.cells cur 65 (0, 0))) (hgy : w.heap[vg]? = some (.cells cury 65 (0, 0))) (hcs : cur.size = c * 12) (hys : ys.length = m * 12) (hyc : cury.toList.take (m * 12) = ys)
    (h1c : ∀ v ∈ cur.toList.take (n * 12), v.oneCell' = true) (h1v : ∀ v ∈ ys, v.oneCell' = true) :
    Calls Try.prog 92 #[.slice (some ⟨g, 0, none⟩) n c, .int .i64 i, .slice (some ⟨vg, 0, none⟩) m vc] w fun e w' =>
      ∃ row, row = cur.toList.take ((i + m) * 12) ++ (cur.toList.drop (i * 12)).take ((n - i) * 12) ++ cur.toList.drop ((i + m) * 12 + (n - i) * 12) ∧
      e = .returned (.slice (some ⟨g, 0, none⟩) (n + m) c) ∧ w' = (w.drew.setRow g row.toArray).setRow g (row.take (i * 12) ++ ys ++ row.drop (i * 12 + m * 12)).toArray := by
  obtain ⟨i0, hi0, hzz⟩ : ∃ i0, Try.prog.info? 65 = some i0 ∧ i0.size = 12 := by
    have := info65
    cases h : Try.prog.info? 65 with
    | none => rw [h] at this; cases this
    | some i0 => rw [h] at this; simp only [Option.map_some, Option.some.injEq, Prod.mk.injEq] at this; exact ⟨i0, rfl, this.1⟩
  have mixed' := mixed
  have hz1 : ¬ ((m : Int) = 0) := by omega
  have hz2 : ¬ ((i : Int) = (n : Int)) := by omega
  have hov : ∀ lb cb, (callFunc 119 #[.slice (some ⟨vg, 0, none⟩) m vc, .slice (some ⟨g, (i + m) * 12, none⟩) lb cb]).run Try.prog w = .ok (.value (.bool false)) w := fun lb cb => by
    rw [run_callFunc_extern Try.func119 (by kernel_rfl) (by kernel_rfl) (by kernel_rfl) (e := Extern.SlicesOverlaps.overlaps #[34, 34] #[4]) (by kernel_rfl),
      Lib.run_overlaps_apart w 34 4 65 Try.underlying34 12 Try.sizeOf65 ⟨vg, 0, none⟩ ⟨g, (i + m) * 12, none⟩ m vc lb cb hvb 65 65 cury.size cur.size (by simp [World.shape?, hgy]) (by simp [World.shape?, hg]) (by omega) (by simp [World.frozen?, hgy]) (by simp [World.frozen?, hgy])]
    rfl
  have hw1 : IntKind.i64.wrap ((i : Int) + (m : Int)) = (i : Int) + (m : Int) := by rw [IntKind.wrap_i64]; omega
  have hw2 : IntKind.i64.wrap ((n : Int) + (m : Int)) = (n : Int) + (m : Int) := by rw [IntKind.wrap_i64]; omega
  have hb1 : (0 : Int) ≤ (i : Int) + (m : Int) := by omega
  have hin : i ≤ n := by omega
  have htn : ((i : Int) + (m : Int)).toNat = i + m := by omega
  have hb2 : ¬ (c = i + m) := by omega
  have hb3 : (i : Int) ≤ (n : Int) + (m : Int) := by omega
  have hb4 : ¬ (c = i) := by omega
  obtain ⟨row, hrow⟩ : ∃ row, row = cur.toList.take ((i + m) * 12) ++ (cur.toList.drop (i * 12)).take ((n - i) * 12) ++ cur.toList.drop ((i + m) * 12 + (n - i) * 12) := ⟨_, rfl⟩
  have hle : (n + m) * 12 ≤ c * 12 := Nat.mul_le_mul_right _ hroom
  have hll : ((cur.toList.drop (i * 12)).take ((n - i) * 12)).length = (n - i) * 12 := by rw [List.length_take, List.length_drop, Array.length_toList, hcs]; omega
  have hcp1 : ∀ ty dc sc, (Builtin.copy_ #[34, 34] ty #[.slice (some ⟨g, (i + m) * 12, none⟩) (n + m - (i + m)) dc, .slice (some ⟨g, i * 12, none⟩) (n + m - i) sc]).run Try.prog w.drew = .ok (goInt ((n - i : Nat) : Int)) (w.drew.setRow g row.toArray) := fun ty dc sc => by
    have := run_copy_rowN (P := Try.prog) w.drew 34 34 ty 65 i0 g ((i + m) * 12) (n + m - (i + m)) dc ⟨g, i * 12, none⟩ (n + m - i) sc cur 65 ((cur.toList.drop (i * 12)).take ((n - i) * 12)) Try.underlying34 hi0 hg (n - i) (by simp only [Nat.min_def]; split <;> omega) (by rw [hll, hzz])
      (row_cells (w := w.drew) hg (i * 12) (by rw [hll])) (by rw [hll, hcs]; omega) (fun v hv => h1c v (by
        rw [Nat.sub_mul, ← List.drop_take] at hv
        exact List.mem_of_mem_drop hv))
    rw [hll] at this
    rw [hrow]
    exact this
  have hrl : row.length = c * 12 := by
    rw [hrow]; simp only [List.length_append, hll, List.length_take, List.length_drop, Array.length_toList, hcs]; omega
  have hg1 : (w.drew.setRow g row.toArray).heap[g]? = some (.cells row.toArray 65 (0, 0)) := setRow_heap w.drew g cur row.toArray 65 (0, 0) hg
  have hgy1 : (w.drew.setRow g row.toArray).heap[vg]? = some (.cells cury 65 (0, 0)) := by rw [setRow_other _ _ _ _ hvb]; exact hgy
  have hcp2 : ∀ ty dc, (Builtin.copy_ #[34, 34] ty #[.slice (some ⟨g, i * 12, none⟩) (n + m - i) dc, .slice (some ⟨vg, 0, none⟩) m vc]).run Try.prog (w.drew.setRow g row.toArray) = .ok (goInt (m : Int)) ((w.drew.setRow g row.toArray).setRow g (row.take (i * 12) ++ ys ++ row.drop (i * 12 + m * 12)).toArray) := fun ty dc => by
    have := run_copy_rowN (P := Try.prog) (w.drew.setRow g row.toArray) 34 34 ty 65 i0 g (i * 12) (n + m - i) dc ⟨vg, 0, none⟩ m vc row.toArray 65 ys Try.underlying34 hi0 hg1 m (by simp only [Nat.min_def]; split <;> omega) (by rw [hys, hzz])
      (row_cells hgy1 0 (by rw [List.drop_zero, hys]; exact hyc.symm)) (by rw [hys]; simp only [List.size_toArray, hrl]; omega) h1v
    rw [hys] at this
    exact this
  have kr := Keep.mk hrow
  clear hrow hll hle
  go_enter Try.func92, Try.ntmps92
  go_wp2_with (simp only [hov])
  go_region_law_o (refine step_copy_runI rfl _ _ 34 34 rfl _ _ (by simp [Act.eval, Act.put]) (by simp [Act.eval, Act.put]) (hcp1 _ _ _) ?_)
  go_wp2_with (at_builtin; refine wpList_copy_runI _ rfl _ _ 34 34 rfl _ _ rfl rfl (hcp2 _ _) ?_)
  go_ret
  exact ⟨row, kr.out, rfl, by rw [List.append_assoc]⟩

set_option maxHeartbeats 4000000 in
set_option maxRecDepth 100000 in
theorem ins_end (g n c vg m vc : Nat) (w : World) (hn : 0 < n) (hnc : n ≤ c) (hm : 0 < m) (v1 : Value) (w1 : World)
    (hr : (Builtin.append_ #[34, 34] 34 #[.slice (some ⟨g, 0, none⟩) n c, .slice (some ⟨vg, 0, none⟩) m vc]).run Try.prog w = .ok v1 w1) :
    Calls Try.prog 92 #[.slice (some ⟨g, 0, none⟩) n c, .int .i64 n, .slice (some ⟨vg, 0, none⟩) m vc] w fun e w' => e = .returned v1 ∧ w' = w1 := by
  have mixed' := mixed
  have hz1 : ¬ ((m : Int) = 0) := by omega
  have hin : n ≤ c := by omega
  have hb : (0 : Int) ≤ (n : Int) := by omega
  go_enter Try.func92, Try.ntmps92
  go_wp2_with (at_builtin; refine Lib.wpList_append_run _ rfl _ _ 34 34 rfl _ _ rfl rfl _ _ hr ?_)
  all_goals go_ret
  all_goals exact ⟨rfl, rfl⟩

set_option maxHeartbeats 4000000 in
set_option maxRecDepth 100000 in
theorem ins_grow (g n c i vg m vc : Nat) (cur cury : Array Value) (xs ys : List Value) (w : World) (hi : i < n) (hm : 0 < m) (hnc : n ≤ c) (hroom : c < n + m) (hbig : n + m ≤ 1000000000)
    (hg : w.heap[g]? = some (.cells cur 65 (0, 0))) (hgy : w.heap[vg]? = some (.cells cury 65 (0, 0))) (hxs : xs.length = n * 12) (hxc : cur.toList.take (n * 12) = xs) (hys : ys.length = m * 12) (hyc : cury.toList.take (m * 12) = ys)
    (h1c : ∀ v ∈ xs, v.oneCell' = true) (h1v : ∀ v ∈ ys, v.oneCell' = true) :
    Calls Try.prog 92 #[.slice (some ⟨g, 0, none⟩) n c, .int .i64 i, .slice (some ⟨vg, 0, none⟩) m vc] w fun e w' =>
      ∃ row z z' row1 : List Value, row = xs.take (i * 12) ++ z ++ z' ∧ z.length = (m + (n - i)) * 12 ∧ row1 = row.take (i * 12) ++ ys ++ row.drop (i * 12 + m * 12) ∧ row.length = (grownCap w (n + m) c 65) * 12 ∧
      e = .returned (.slice (some ⟨w.heap.size, 0, none⟩) (n + m) (grownCap w (n + m) c 65)) ∧
      w' = (((w.alloc (.cells row.toArray 65)).drew.setRow w.heap.size row1.toArray).drew).setRow w.heap.size (row1.take ((i + m) * 12) ++ xs.drop (i * 12) ++ row1.drop ((i + m) * 12 + (n - i) * 12)).toArray := by
  obtain ⟨i0, hi0, hzz, hby⟩ : ∃ i0, Try.prog.info? 65 = some i0 ∧ i0.size = 12 ∧ i0.bytes = 96 := by
    have := info65
    cases h : Try.prog.info? 65 with
    | none => rw [h] at this; cases this
    | some i0 => rw [h] at this; simp only [Option.map_some, Option.some.injEq, Prod.mk.injEq] at this; exact ⟨i0, rfl, this.1, this.2⟩
  obtain ⟨z0, hz0, hzc⟩ : ∃ z0, i0.zero = some z0 ∧ z0.cells.size = 12 := by
    have : (Try.prog.info? 65).bind (fun i => i.zero.map fun z => z.cells.size) = some 12 := by kernel_rfl
    rw [hi0] at this
    simp only [Option.bind_some, Option.map_eq_some_iff] at this
    exact this
  have mixed' := mixed
  have hz1 : ¬ ((m : Int) = 0) := by omega
  have hz2 : ¬ ((i : Int) = (n : Int)) := by omega
  have hz3 : (c : Int) < (n : Int) + (m : Int) := by omega
  have hbw : g < w.heap.size := (Array.getElem?_eq_some_iff.1 hg).1
  have hvw : vg < w.heap.size := (Array.getElem?_eq_some_iff.1 hgy).1
  have hkk : (n : Int) + (m : Int) - (i : Int) = ((n + m - i : Nat) : Int) := by omega
  have hik : i + (n + m - i) = n + m := by omega
  have hold : (Builtin.firstCells i0.size i (.slice (some ⟨g, 0, none⟩) i c)).run Try.prog w.drew = .ok (xs.take (i * 12)).toArray w.drew := by
    rw [hzz]
    exact run_firstCells_some w.drew 12 i ⟨g, 0, none⟩ i c (xs.take (i * 12)) (by rw [List.length_take, hxs]; omega) (row_cells (w := w.drew) hg 0 (by
      rw [List.drop_zero]; exact take_len (k := min (i * 12) (n * 12)) (by rw [← hxc, List.take_take])))
  have hrz : ∀ ty, (Builtin.append_ #[34, 3] ty #[.slice (some ⟨g, 0, none⟩) i c, .int .i64 ((n : Int) + (m : Int) - (i : Int))]).run Try.prog w =
      .ok (.slice (some ⟨w.heap.size, 0, none⟩) (n + m) (grownCap w (n + m) c 65)) (w.drew.alloc (.cells ((xs.take (i * 12)).toArray ++ Builtin.zeroCells z0.cells (n + m - i) ++ Builtin.zeroCells z0.cells (grownCap w (n + m) c 65 - (n + m))) 65)) := fun ty => by
    have h := Lib.run_append_grow_zeros w 34 3 ty 65 i0 z0 .i64 .i64 Try.underlying34 Try.underlying3 hi0 hz0 (some ⟨g, 0, none⟩) i c (xs.take (i * 12)) hold (n + m - i) (by omega) (by omega) (by omega) (by omega) (by rw [hby]; omega) (by rw [hby, hik]; exact growslice_fits hroom (by omega))
    rw [hik] at h
    rw [hkk]
    exact h
  have hGn : n + m ≤ grownCap w (n + m) c 65 := grownCap_ge w _ _ _
  have hG63 : grownCap w (n + m) c 65 ≤ 9223372036854775807 := by
    have := grownCap_le_maxLen w (n + m) c 65 (by unfold maxLen; omega)
    unfold maxLen at this
    omega
  obtain ⟨CC, hCC⟩ : ∃ G, G = grownCap w (n + m) c 65 := ⟨_, rfl⟩
  rw [← hCC] at hrz hGn hG63 ⊢
  obtain ⟨z, hz⟩ : ∃ z, z = (Builtin.zeroCells z0.cells (n + m - i)).toList := ⟨_, rfl⟩
  obtain ⟨z', hz'⟩ : ∃ z, z = (Builtin.zeroCells z0.cells (CC - (n + m))).toList := ⟨_, rfl⟩
  have hzl : z.length = (m + (n - i)) * 12 := by rw [hz, Array.length_toList, size_zeroCells, hzc]; congr 1; omega
  have hzl' : z'.length = (CC - (n + m)) * 12 := by rw [hz', Array.length_toList, size_zeroCells, hzc]
  obtain ⟨row, hrow⟩ : ∃ row, row = xs.take (i * 12) ++ z ++ z' := ⟨_, rfl⟩
  have hra : (xs.take (i * 12)).toArray ++ Builtin.zeroCells z0.cells (n + m - i) ++ Builtin.zeroCells z0.cells (CC - (n + m)) = row.toArray := by
    apply Array.ext'
    rw [hrow, hz, hz']
    simp
  rw [hra] at hrz
  have hrl : row.length = CC * 12 := by
    rw [hrow]; simp only [List.length_append, hzl, hzl', List.length_take, hxs]; omega
  obtain ⟨row1, hrow1⟩ : ∃ row1, row1 = row.take (i * 12) ++ ys ++ row.drop (i * 12 + m * 12) := ⟨_, rfl⟩
  have hrl1 : row1.length = CC * 12 := by
    rw [hrow1]; simp only [List.length_append, hys, List.length_take, List.length_drop, hrl]; omega
  have hcpA : ∀ (W : World), W.heap = (w.alloc (.cells row.toArray 65)).heap → ∀ ty dc, (Builtin.copy_ #[34, 34] ty #[.slice (some ⟨w.heap.size, i * 12, none⟩) (n + m - i) dc, .slice (some ⟨vg, 0, none⟩) m vc]).run Try.prog W = .ok (goInt (m : Int)) (W.setRow w.heap.size row1.toArray) := fun W hW ty dc => by
    have g1 : W.heap[w.heap.size]? = some (.cells row.toArray 65 (0, 0)) := by rw [hW]; exact heap_alloc_new w _
    have g2 : W.heap[vg]? = some (.cells cury 65 (0, 0)) := by rw [hW, heap_alloc_old w _ hvw]; exact hgy
    have := run_copy_rowN (P := Try.prog) W 34 34 ty 65 i0 w.heap.size (i * 12) (n + m - i) dc ⟨vg, 0, none⟩ m vc row.toArray 65 ys Try.underlying34 hi0 g1 m (by simp only [Nat.min_def]; split <;> omega) (by rw [hys, hzz])
      (row_cells g2 0 (by rw [List.drop_zero, hys]; exact hyc.symm)) (by rw [hys]; simp only [List.size_toArray, hrl]; omega) h1v
    rw [hys] at this
    rw [hrow1]
    exact this
  have hdl : (xs.drop (i * 12)).length = (n - i) * 12 := by rw [List.length_drop, hxs]; omega
  have hcpB : ∀ (W : World), W.heap = ((w.alloc (.cells row.toArray 65)).setRow w.heap.size row1.toArray).heap → ∀ ty dc sc, (Builtin.copy_ #[34, 34] ty #[.slice (some ⟨w.heap.size, (i + m) * 12, none⟩) (n + m - (i + m)) dc, .slice (some ⟨g, i * 12, none⟩) (n - i) sc]).run Try.prog W = .ok (goInt ((n - i : Nat) : Int)) (W.setRow w.heap.size (row1.take ((i + m) * 12) ++ xs.drop (i * 12) ++ row1.drop ((i + m) * 12 + (n - i) * 12)).toArray) := fun W hW ty dc sc => by
    have g1 : W.heap[w.heap.size]? = some (.cells row1.toArray 65 (0, 0)) := by rw [hW]; exact setRow_heap _ _ row.toArray row1.toArray 65 (0, 0) (heap_alloc_new w _)
    have g2 : W.heap[g]? = some (.cells cur 65 (0, 0)) := by rw [hW, setRow_other _ _ _ _ (by omega), heap_alloc_old w _ hbw]; exact hg
    have := run_copy_rowN (P := Try.prog) W 34 34 ty 65 i0 w.heap.size ((i + m) * 12) (n + m - (i + m)) dc ⟨g, i * 12, none⟩ (n - i) sc row1.toArray 65 (xs.drop (i * 12)) Try.underlying34 hi0 g1 (n - i) (by simp only [Nat.min_def]; split <;> omega) (by rw [hdl, hzz])
      (row_cells g2 (i * 12) (by rw [hdl, ← hxc, List.drop_take]; congr 1; omega)) (by rw [hdl]; simp only [List.size_toArray, hrl1]; omega) (fun v hv => h1c v (List.mem_of_mem_drop hv))
    rw [hdl] at this
    exact this
  have hA := hcpA (w.alloc (.cells row.toArray 65)).drew rfl
  have hB := hcpB ((w.alloc (.cells row.toArray 65)).drew.setRow w.heap.size row1.toArray).drew rfl
  clear hcpA hcpB
  have K := Keep.mk (And.intro hrow (And.intro hzl (And.intro hrow1 hrl)))
  have hGi : ¬ (CC = i) := by omega
  have hGim : ¬ (CC = i + m) := by omega
  have hci : ¬ (c = i) := by omega
  have hw1 : IntKind.i64.wrap ((i : Int) + (m : Int)) = (i : Int) + (m : Int) := by rw [IntKind.wrap_i64]; omega
  have hb1 : (0 : Int) ≤ (i : Int) + (m : Int) := by omega
  have hin : i ≤ n := by omega
  have htn : ((i : Int) + (m : Int)).toNat = i + m := by omega
  have hb3 : (i : Int) ≤ (n : Int) := by omega
  clear hkk hik hold hrow hrow1 hra hCC hz hz' hxc hyc
  go_enter Try.func92, Try.ntmps92
  go_wp2_with (first
    | (at_builtin; refine Lib.wpList_append_run _ rfl _ _ _ _ rfl _ _ rfl rfl _ _ (hrz _) ?_)
    | (at_builtin; refine wpList_copy_runI _ rfl _ _ 34 34 rfl _ _ rfl rfl (hA _ _) ?_))
  go_region_law_o (refine step_copy_runI rfl _ _ 34 34 rfl _ _ (by simp [Act.eval, Act.put]) (by simp [Act.eval, Act.put]) (hB _ _ _) ?_)
  go_wp2
  go_ret
  obtain ⟨k1, k2, k3, k4⟩ := K.out
  exact ⟨row, z, z', row1, k1, k2, k3, k4, rfl, by rw [List.append_assoc]⟩


theorem ins_all (w : World) (x y : Value) (n m i : Nat) (xs ys : List Value) (hx : w.ownsRow 0 65 12 x n xs) (hy : w.ownsRow 0 65 12 y m ys) (hn : 0 < n) (hm : 0 < m) (hi : i ≤ n) (hbig : n + m ≤ 1000000000)
    (hne : ∀ g, x.ownBlock = some g → y.ownBlock ≠ some g) (h1x : ∀ v ∈ xs, v.oneCell' = true) (h1y : ∀ v ∈ ys, v.oneCell' = true) :
    Calls Try.prog 92 #[x, .int .i64 i, y] w fun e w' => ∃ v, e = .returned v ∧ w'.ownsRow 0 65 12 v (n + m) (xs.take (i * 12) ++ ys ++ xs.drop (i * 12)) ∧ w.grownBy w' x.ownBlock ∧ (v.ownBlock = x.ownBlock ∨ v.ownBlock = some w.heap.size) := by
  obtain ⟨hxl, hx | ⟨g, c, cur, rfl, _, hg, hnc, hcm, hcs, hxc⟩⟩ := hx
  · omega
  obtain ⟨hyl, hy | ⟨vg, vc, cury, rfl, _, hgy, hmc, hcmy, hcsy, hyc⟩⟩ := hy
  · omega
  have hvg : vg ≠ g := fun e => hne g rfl (by rw [e]; rfl)
  rcases Nat.lt_or_ge i n with hin | hin
  · have hn12 : n * 12 = i * 12 + (n - i) * 12 := by rw [← Nat.add_mul]; congr 1; omega
    rcases Nat.lt_or_ge c (n + m) with hroom | hroom
    · refine (ins_grow g n c i vg m vc cur cury xs ys w hin hm hnc hroom hbig hg hgy hxl hxc hyl hyc h1x h1y).mono ?_
      rintro e w' ⟨row, z, z', row1, k1, k2, k3, k4, rfl, rfl⟩
      have hGn : n + m ≤ grownCap w (n + m) c 65 := grownCap_ge w _ _ _
      have hGm := grownCap_le_maxLen w (n + m) c 65 (by unfold maxLen; omega)
      generalize grownCap w (n + m) c 65 = CC at hGn hGm k4 ⊢
      have hi2 := ins_new xs ys z z' (i * 12) (m * 12) ((n - i) * 12) (by rw [hxl, hn12]) hyl (by rw [k2, Nat.add_mul]) row k1 row1 k3
      rw [← Nat.add_mul i m 12] at hi2
      have e1 : i * 12 + (n - i) * 12 + m * 12 = (n + m) * 12 := by rw [← hn12, Nat.add_mul]
      rw [e1] at hi2
      refine ⟨_, rfl, ⟨?_, .inr ⟨w.heap.size, CC, (row1.take ((i + m) * 12) ++ xs.drop (i * 12) ++ row1.drop ((i + m) * 12 + (n - i) * 12)).toArray, rfl, Nat.zero_le _, ?_, hGn, hGm, ?_, ?_⟩⟩, ?_, .inr rfl⟩
      · simp only [List.length_append, List.length_take, List.length_drop, hxl, hyl]; omega
      · refine setRow_heap _ _ row1.toArray _ 65 (0, 0) ?_
        refine setRow_heap _ _ row.toArray _ 65 (0, 0) ?_
        exact heap_alloc_new w _
      · rw [List.size_toArray, hi2.2, k4]
      · exact hi2.1
      · refine ⟨rfl, rfl, rfl, by simp, fun k hk _ => ?_⟩
        rw [setRow_other _ _ _ _ (by omega)]
        refine (setRow_other _ _ _ _ (by omega)).trans ?_
        exact heap_alloc_old w _ hk
    · refine (ins_shift g n c i vg m vc cur cury ys w hin hm hroom hcm hvg hg hgy hcs hyl hyc (by rw [hxc]; exact h1x) h1y).mono ?_
      rintro e w' ⟨row, k1, rfl, rfl⟩
      have hle : (n + m) * 12 ≤ c * 12 := Nat.mul_le_mul_right _ hroom
      have e1 : i * 12 + (n - i) * 12 + m * 12 = (n + m) * 12 := by rw [← hn12, Nat.add_mul]
      rw [Nat.add_mul i m 12] at k1
      have hi2 := ins_room cur.toList (i * 12) (m * 12) ((n - i) * 12) ys hyl (by rw [e1, Array.length_toList, hcs]; exact hle) row k1
      rw [e1, ← hn12, hxc] at hi2
      refine ⟨_, rfl, ⟨?_, .inr ⟨g, c, (row.take (i * 12) ++ ys ++ row.drop (i * 12 + m * 12)).toArray, rfl, Nat.zero_le _, ?_, hroom, hcm, ?_, ?_⟩⟩, ?_, .inl rfl⟩
      · simp only [List.length_append, List.length_take, List.length_drop, hxl, hyl]; omega
      · refine setRow_heap _ _ row.toArray _ 65 (0, 0) ?_
        exact setRow_heap _ _ cur _ 65 (0, 0) hg
      · rw [List.size_toArray, hi2.2, Array.length_toList, hcs]
      · exact hi2.1
      · refine ⟨rfl, rfl, rfl, by simp, fun k hk hne => ?_⟩
        have hkg : k ≠ g := fun e => hne (by rw [e]; rfl)
        rw [setRow_other _ _ _ _ hkg]
        exact setRow_other _ _ _ _ hkg
  · obtain rfl : i = n := by omega
    obtain ⟨i0, hi0, hzz, hby⟩ : ∃ i0, Try.prog.info? 65 = some i0 ∧ i0.size = 12 ∧ i0.bytes = 96 := by
      have := info65
      cases h : Try.prog.info? 65 with
      | none => rw [h] at this; cases this
      | some i0 => rw [h] at this; simp only [Option.map_some, Option.some.injEq, Prod.mk.injEq] at this; exact ⟨i0, rfl, this.1, this.2⟩
    obtain ⟨z0, hz0, hzc⟩ : ∃ z0, i0.zero = some z0 ∧ z0.cells.size = 12 := by
      have : (Try.prog.info? 65).bind (fun i => i.zero.map fun z => z.cells.size) = some 12 := by kernel_rfl
      rw [hi0] at this
      simp only [Option.bind_some, Option.map_eq_some_iff] at this
      exact this
    obtain ⟨v1, w', r1, r2, r3, _, r5⟩ := run_append_own_at (P := Try.prog) w 0 34 34 65 i0 z0 12 96 Try.underlying34 hi0 hz0 hzz hby hzc (by omega) (.slice (some ⟨g, 0, none⟩) i c) i xs ⟨hxl, .inr ⟨g, c, cur, rfl, Nat.zero_le _, hg, hnc, hcm, hcs, hxc⟩⟩ ⟨vg, 0, none⟩ m vc ys hyl
      (row_cells hgy 0 (by rw [List.drop_zero, hyl]; exact hyc.symm)) h1y (by unfold maxLen; omega) (by omega) (Nat.zero_le _)
    refine (ins_end g i c vg m vc w hn hnc hm v1 w' r1).mono ?_
    rintro e w'' ⟨rfl, rfl⟩
    refine ⟨v1, rfl, ?_, r3, r5⟩
    rw [List.take_of_length_le (by omega), List.drop_eq_nil_of_le (by omega), List.append_nil]
    exact r2

theorem old_ne01 : oldK 0 ≠ oldK 1 := by intro h; simp [oldK] at h
/-- slices.Insert, as a contract: the row that is handed in becomes the one that is handed out. -/
theorem insert_M (xs ys : List (List D)) (i : Nat) (hx : xs ≠ []) (hy : ys ≠ []) (hi : i ≤ xs.length) (hl : xs.length + ys.length ≤ 1000000000) :
    MCall Try.prog 92 [.sl (900000, 0), .d (.v (.int .i64 i)), .sl (900001, 0)] [.arr 65 12 xs, .arr 65 12 ys] (.sl (800000, 0)) [none, none] [some (.arr 65 12 (xs.take i ++ ys ++ xs.drop i))] := by
  refine ⟨rfl, fun vs w => ?_, fun w I ρ vs H hlen hrep => ?_⟩
  · have hn' : ¬ Try.f92.name = "runtime.NumGoroutine" := by decide
    have hb : ∃ c, Try.f92.body = some c := ⟨_, rfl⟩
    obtain ⟨c, hb⟩ := hb
    simp [callFunc, Try.func92, hb, hn']
  have hnx : 0 < xs.length := List.length_pos_iff.2 hx
  have hny : 0 < ys.length := List.length_pos_iff.2 hy
  obtain ⟨a, b, d, rfl⟩ : ∃ a b d, vs = [a, b, d] := by
    match vs, hlen with
    | [a, b, d], _ => exact ⟨a, b, d, rfl⟩
  have r0 := hrep 0 _ rfl
  have r1 := hrep 1 _ rfl
  have r2 := hrep 2 _ rfl
  simp only [List.getD_cons_zero, List.getD_cons_succ] at r0 r1 r2
  have hb0 : G (oldG 0 [Blk.arr 65 12 xs, .arr 65 12 ys]) (oldK 0) = some (.arr 65 12 xs) := rfl
  have hb1 : G (oldG 0 [Blk.arr 65 12 xs, .arr 65 12 ys]) (oldK 1) = some (.arr 65 12 ys) := rfl
  obtain ⟨x0, cx, p1, p2, p3, p4⟩ := H.blk _ _ hb0
  obtain ⟨y0, cy, q1, q2, q3, q4⟩ := H.blk _ _ hb1
  have e0 : a = x0 := by
    cases r0 with
    | sl _ _ h => exact Option.some.inj (h.symm.trans p1)
  have e1 : b = .int .i64 i := by cases r1 with | d _ _ h => cases h with | v => rfl
  have e2 : d = y0 := by
    cases r2 with
    | sl _ _ h => exact Option.some.inj (h.symm.trans q1)
  subst e0 e1 e2
  have locx : ∀ g, a.ownBlock = some g → locOf ρ (oldK 0) (.arr 65 12 xs) = some g := fun g h => by simp [locOf, p1, h]
  have locy : ∀ g, d.ownBlock = some g → locOf ρ (oldK 1) (.arr 65 12 ys) = some g := fun g h => by simp [locOf, q1, h]
  have one : ∀ (es : List (List D)) (cs : List Value), cs.length = es.length * 12 → (∀ e ∈ es, e.length = 12) → (∀ i j d, at2 es i j = some d → d.one = true ∧ RepD w I d (cs.getD (i * 12 + j) undef)) → ∀ v ∈ cs, v.oneCell' = true := by
    intro es cs h1 h2 h3 v hv
    obtain ⟨k, hk, rfl⟩ := List.mem_iff_getElem.1 hv
    have a1 : k / 12 < es.length := by omega
    have a2 : k % 12 < (es[k / 12]).length := by rw [h2 _ (List.getElem_mem a1)]; omega
    obtain ⟨g1, g2⟩ := h3 (k / 12) (k % 12) (es[k / 12][k % 12]) (by simp [at2, a1, a2])
    rw [show k / 12 * 12 + k % 12 = k by omega, List.getD, List.getElem?_eq_getElem hk] at g2
    exact g2.one g1
  refine (ins_all w a d xs.length ys.length i cx cy p2 q2 hnx hny hi hl (fun g h h' => old_ne01 (H.sep _ _ _ _ g hb0 hb1 (locx g h) (locy g h'))) (one xs cx p2.1 p3 p4) (one ys cy q2.1 q3 q4)).mono ?_
  rintro e w' ⟨v, rfl, hrow, hgr, hob⟩
  obtain ⟨u0, hu0⟩ := H.fresh
  have hk0 : ρ (7, u0) = none := hu0 7 u0 (Nat.le_refl _)
  have hva : ∀ g, a.ownBlock = some g → ¬ I g ∧ own ρ (G (oldG 0 [Blk.arr 65 12 xs, .arr 65 12 ys])) g := fun g h => ⟨H.notI _ _ g hb0 (locx g h), _, _, hb0, locx g h⟩
  have hI' : ∀ b, I b → w'.heap[b]? = w.heap[b]? := fun b hb => hgr.block b (H.ilt b hb) (fun e => (hva b e.symm).1 hb)
  have H0 : HeapOK w' I ρ (fun _ => none) := ⟨fun k b hb => (by cases hb), fun k k' b b' g h1 => (by cases h1), fun k b g h1 => (by cases h1), fun k b g h1 => (by cases h1), fun b hb => Nat.lt_of_lt_of_le (H.ilt b hb) hgr.size, ⟨u0, hu0⟩, H.rone⟩
  have hv1 : v.oneCell' = true := by rcases hrow.2 with ⟨rfl, _⟩ | ⟨g, cap, cur, rfl, _⟩ <;> rfl
  have hown : ∀ g, ¬ own ρ (fun _ => none) g := fun g ⟨k, b, h, _⟩ => by cases h
  have hloc : ∀ g, locOf (upd ρ (7, u0) (some v)) (7, u0) (.arr 65 12 (xs.take i ++ ys ++ xs.drop i)) = some g → v.ownBlock = some g := by
    intro g hg; simpa [locOf, upd_same] using hg
  have Hn := heap_add H0 (7, u0) v (.arr 65 12 (xs.take i ++ ys ++ xs.drop i)) hk0 hv1 (fun g hg => by
    have hg' := hloc g hg
    refine ⟨hown g, ?_, (hrow.lt g hg').2⟩
    rcases hob with h | h
    · exact (hva g (h.symm.trans hg')).1
    · rw [h] at hg'; cases hg'
      exact fun hi => Nat.lt_irrefl _ (H.ilt _ hi))
    ⟨v, _, upd_same _ _ _, by
      rw [show (xs.take i ++ ys ++ xs.drop i).length = xs.length + ys.length by simp only [List.length_append, List.length_take, List.length_drop]; omega]
      exact hrow, by
      intro q hq
      rw [List.mem_append, List.mem_append] at hq
      rcases hq with (h | h) | h
      · exact p3 q (List.mem_of_mem_take h)
      · exact q3 q h
      · exact p3 q (List.mem_of_mem_drop h), by
      intro r j d' hd'
      have hj : j < 12 := by
        unfold at2 at hd'
        cases hq : (xs.take i ++ ys ++ xs.drop i)[r]? with
        | none => rw [hq] at hd'; cases hd'
        | some q =>
          rw [hq, Option.bind_some] at hd'
          have hlt := (List.getElem?_eq_some_iff.1 hd').1
          have := List.mem_of_getElem? hq
          rw [List.mem_append, List.mem_append] at this
          rcases this with (h | h) | h
          · rwa [p3 q (List.mem_of_mem_take h)] at hlt
          · rwa [q3 q h] at hlt
          · rwa [p3 q (List.mem_of_mem_drop h)] at hlt
      have hxl := p2.1
      have hyl := q2.1
      have htl : (cx.take (i * 12)).length = i * 12 := by rw [List.length_take, hxl]; omega
      rcases at2_append hd' with ⟨hr, hd1⟩ | ⟨hr, hd1⟩
      · rw [List.length_append, List.length_take, Nat.min_eq_left hi] at hr
        rcases at2_append hd1 with ⟨hr1, hd2⟩ | ⟨hr1, hd2⟩
        · rw [List.length_take, Nat.min_eq_left hi] at hr1
          have hd3 : at2 xs r j = some d' := by
            unfold at2 at hd2 ⊢
            rwa [List.getElem?_take, if_pos hr1] at hd2
          obtain ⟨g1, g2⟩ := p4 r j d' hd3
          refine ⟨g1, ?_⟩
          have := g2.keep hI' (fun _ hb => hb)
          rw [List.getD, List.append_assoc, List.getElem?_append_left (by rw [htl]; omega), List.getElem?_take, if_pos (by omega)]
          rwa [List.getD] at this
        · rw [List.length_take, Nat.min_eq_left hi] at hr1 hd2
          obtain ⟨g1, g2⟩ := q4 (r - i) j d' hd2
          refine ⟨g1, ?_⟩
          have := g2.keep hI' (fun _ hb => hb)
          rw [List.getD, List.append_assoc, List.getElem?_append_right (by rw [htl]; omega), htl, List.getElem?_append_left (by rw [hyl]; omega), show r * 12 + j - i * 12 = (r - i) * 12 + j by omega]
          rwa [List.getD] at this
      · rw [List.length_append, List.length_take, Nat.min_eq_left hi] at hr hd1
        have hd3 : at2 xs (r - ys.length) j = some d' := by
          unfold at2 at hd1 ⊢
          rw [List.getElem?_drop] at hd1
          rwa [show i + (r - (i + ys.length)) = r - ys.length by omega] at hd1
        obtain ⟨g1, g2⟩ := p4 _ j d' hd3
        refine ⟨g1, ?_⟩
        have := g2.keep hI' (fun _ hb => hb)
        rw [List.getD, List.getElem?_append_right (by rw [List.length_append, htl, hyl]; omega), List.length_append, htl, hyl, List.getElem?_drop, show i * 12 + (r * 12 + j - (i * 12 + ys.length * 12)) = (r - ys.length) * 12 + j by omega]
        rwa [List.getD] at this⟩
  refine ⟨v, .sl (7, u0), I, _, _, rfl, .sl _ _ (upd_same _ _ _), Hn, ⟨hgr.os, hgr.tape, hgr.output, hgr.size, fun b hb hn' => hgr.block b hb (fun e => hn' (hva b e.symm).2), fun _ hb => hb, fun _ hb _ => .inl hb, ?_, le_upd hk0⟩, fun _ => (7, u0), rfl, ?_, ?_, ?_, ?_⟩
  · rintro g ⟨k', b', h1, h2⟩ hl
    by_cases ek : k' = (7, u0)
    · subst ek
      rw [upd_same] at h1
      cases h1
      have hg' := hloc g h2
      rcases hob with h | h
      · exact (hva g (h.symm.trans hg')).2
      · rw [h] at hg'; cases hg'; omega
    · rw [upd_ne _ _ _ _ ek] at h1; cases h1
  · intro j b hb
    match j, hb with
    | 0, hb => cases hb
    | 1, hb => cases hb
    | j + 2, hb => simp at hb
  · intro j b hb
    match j, hb with
    | 0, hb => cases hb; exact upd_same _ _ _
    | j + 1, hb => simp at hb
  · intro j _ i _ e; simp only [oldK, Prod.mk.injEq] at e; omega
  · intro j j' h1 h2 _
    simp only [List.length_cons, List.length_nil] at h1 h2
    omega

theorem ins_C : InsC Try.prog 92 65 12 := fun xs ys i h1 h2 h3 h4 => insert_M xs ys i h1 h2 h3 h4

end
end Go.Abs.Convoy
