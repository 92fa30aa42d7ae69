/-
  The functions, part 4.
-/
import Derived.Test.YtdkgjoilcfoclaaFns3
set_option maxRecDepth 20000
set_option linter.unusedVariables false
namespace Go.Abs.Convoy
open Go Go.Abs Go.Proofs
attribute [local irreducible] regW regT AWL

noncomputable def convoy_New_l1 (p2 : (List Mate)) (x1 : (Int × Convoy)) : Option (Stp (Int × Convoy) Convoy) :=
  cond (decide (x1.1 < (p2.length : Int))) ((geti p2 x1.1).bind fun v1 => (cond (decide (x1.1 > 0)) ((geti p2 (w64 (x1.1 - 1))).bind fun v2 => (geti p2 (w64 (x1.1 - 1))).bind fun v3 => (geti p2 (w64 (x1.1 - 1))).bind fun v4 => some (Mate.mk (w64 (x1.1 + 1)) v1.S v1.V v1.Len x1.1 (Guess.mk (w64 (v2.S - v3.Len)) v4.V) true 0 (Guess.mk 0 0) 0)) (some (Mate.mk (w64 (x1.1 + 1)) v1.S v1.V v1.Len 0 (Guess.mk 0 0) true 0 (Guess.mk 0 0) 0))).bind fun y2 => (appc x1.2.Mates [y2]).bind fun v5 => some (.go ((w64 (x1.1 + 1)), (Convoy.mk x1.2.Tick x1.2.Gap v5 x1.2.Guest_)))) (some (.out x1.2))
noncomputable def convoy_New (p1 : Int) (p2 : (List Mate)) : Option (Convoy × Int) :=
  (loop (convoy_New_l1 p2) (0, (Convoy.mk 0 p1 [] (Guest.mk 0 0 0 0 0 0 (Guess.mk 0 0) 0 0)))).bind fun y1 => (convoy_Check y1).bind fun v6 => cond (v6 != 0) (some ((Convoy.mk 0 0 [] (Guest.mk 0 0 0 0 0 0 (Guess.mk 0 0) 0 0)), v6)) (some (y1, 0))

/-- kerbstone/convoy.New -/
def ac_convoy_New : AC := (.seq (.reg [oo 4 (.alloc 38 [z0, z0, .nilS, z0, z0, z0, z0, z0, z0, z0, z0, z0, z0]), oo 5 (.mv (ci 0))]) (.seq (.reg [oo 11 (.mv (.t 0)), oo 12 (.build [z0, z0, .nilS, z0, z0, z0, z0, z0, z0, z0, z0, z0, z0] [(1, 1, (.t 11))]), oo 6 (.alloc 38 [z0, z0, .nilS, z0, z0, z0, z0, z0, z0, z0, z0, z0, z0]), oe (.store 13 (.t 6) (.t 12))]) (.seq (.seq (.reg [oo 13 (.mv (.t 1)), oo 14 (.len (.t 13)), oo 15 (.mv (ci 0))]) (.block 0 (.loop (.seq (.reg [oo 16 (.bin .lss (.t 15) (.t 14))]) (.seq (.cond (.t 16) .skip (.exit 0)) (.seq (.block 1 (.seq (.reg [oo 17 (.mv (.t 15)), oo 18 (.idxS 12 (.t 13) (.t 15)), oo 19 (.load 12 true (.t 18)), oo 8 (.alloc 65 [z0, z0, z0, z0, z0, z0, z0, zf, z0, z0, z0, z0]), oo 7 (.mv (.t 17)), oe (.store 12 (.t 8) (.t 19))]) (.seq (.reg [oo 20 (.mv (.t 7)), oo 21 (.bin .add (.t 20) (ci 1)), oo 22 (.fieldA 1 (.t 8)), oo 23 (.load 1 false (.t 22)), oo 24 (.fieldA 2 (.t 8)), oo 25 (.load 1 false (.t 24)), oo 26 (.fieldA 3 (.t 8)), oo 27 (.load 1 false (.t 26)), oo 28 (.build [z0, z0, z0, z0, z0, z0, z0, zf, z0, z0, z0, z0] [(0, 1, (.t 21)), (1, 1, (.t 23)), (2, 1, (.t 25)), (3, 1, (.t 27)), (7, 1, (.c (.v (.bool true))))]), oo 9 (.alloc 65 [z0, z0, z0, z0, z0, z0, z0, zf, z0, z0, z0, z0]), oe (.store 12 (.t 9) (.t 28))]) (.seq (.seq (.reg [oo 29 (.mv (.t 7)), oo 30 (.bin .gtr (.t 29) (ci 0))]) (.cond (.t 30) (.draw [oo 31 (.mv (.t 7)), oo 32 (.mv (.t 1)), oo 33 (.mv (.t 7)), oo 34 (.bin .sub (.t 33) (ci 1)), oo 35 (.idxS 12 (.t 32) (.t 34)), oo 36 (.fieldA 1 (.t 35)), oo 37 (.load 1 false (.t 36)), oo 38 (.mv (.t 1)), oo 39 (.mv (.t 7)), oo 40 (.bin .sub (.t 39) (ci 1)), oo 41 (.idxS 12 (.t 38) (.t 40)), oo 42 (.fieldA 3 (.t 41)), oo 43 (.load 1 false (.t 42)), oo 44 (.bin .sub (.t 37) (.t 43)), oo 45 (.mv (.t 1)), oo 46 (.mv (.t 7)), oo 47 (.bin .sub (.t 46) (ci 1)), oo 48 (.idxS 12 (.t 45) (.t 47)), oo 49 (.fieldA 2 (.t 48)), oo 50 (.load 1 false (.t 49)), oo 51 (.build [z0, z0] [(0, 1, (.t 44)), (1, 1, (.t 50))]), oo 52 (.fieldA 4 (.t 9)), oe (.store 1 (.t 52) (.t 31)), oo 53 (.fieldA 5 (.t 9)), oe (.store 2 (.t 53) (.t 51))] [(4, 22), (6, 22), (10, 22), (12, 22), (17, 22), (19, 22)]) .skip)) (.reg [oo 54 (.fieldA 2 (.t 6)), oo 55 (.load 1 false (.t 54)), oo 56 (.load 12 true (.t 9)), oo 57 (.dslice 65 12 1 [z0, z0, z0, z0, z0, z0, z0, zf, z0, z0, z0, z0] [(0, 12, (.t 56))]), oo 58 (.append 34 65 12 (.t 55) (.t 57)), oo 59 (.fieldA 2 (.t 6)), oe (.store 1 (.t 59) (.t 58))]))))) (.reg [oo 60 (.bin .add (.t 15) (ci 1)), oo 15 (.mv (.t 60))]))))))) (.seq (.seq (.reg [oo 61 (.load 13 true (.t 6)), oo 62 (.call (cf 32) [(.t 61)]), oo 10 (.mv (.t 62))]) (.seq (.reg [oo 63 (.mv (.t 10)), oo 64 (.bin .neq (.t 63) (ci 0))]) (.cond (.t 64) (.seq (.reg [oo 65 (.build [z0, z0, .nilS, z0, z0, z0, z0, z0, z0, z0, z0, z0, z0] []), oo 66 (.mv (.t 10)), oe (.store 13 (.t 4) (.t 65)), oo 5 (.mv (.t 66))]) .ret) .skip))) (.seq (.reg [oo 67 (.load 13 true (.t 6)), oe (.store 13 (.t 4) (.t 67)), oo 5 (.mv (ci 0))]) .ret)))))
theorem fn_convoy_New : FnOK Try.prog 43 68 [.cell 4 13 true, .t 5] ac_convoy_New := ⟨_, _, Try.func43, rfl, Try.ntmps43, by kernel_rfl, ⟨fun r => if r == 8 then [1003] else [], by kernel_rfl⟩, by kernel_rfl⟩
set_option maxHeartbeats 4000000 in
theorem convoy_New_ok (p1 : Int) (p2 : (List Mate)) (r : (Convoy × Int)) (h : convoy_New p1 p2 = some r) : PCall Try.prog 43 [(i64 p1), (.list (List.map eMate p2))] (.tup [(.agg (eConvoy r.1)), (i64 r.2)]) := by
  refine l_call fn_convoy_New (nl rfl) ?_
  unfold convoy_New at h
  unfold ac_convoy_New
  refine l_sub (s0 := ⟨T [(0, (.d _)), (1, (.d _))], G []⟩) (sbr rfl rfl) ?_
  refine lr (fun u1 hu1 => sn rfl rfl (sv rfl (s_nil (lr (fun u2 hu2 => sv rfl (sv rfl (sn rfl rfl (sst rfl G_hit [(di 0), (di p1), (.d .nilS), (di 0), (di 0), (di 0), (di 0), (di 0), (di 0), (di 0), (di 0), (di 0), (di 0)] rfl (s_nil (l_seq (lr (fun u3 hu3 => sv rfl (sd rfl (v_len rfl) (sv rfl (s_nil (bs h fun y1 hy1 h => l_join (fun s => ∃ g1 : Nat, Sb ⟨T [(4, (.ptr (4, u1) 0)), (6, (.ptr (6, u2) 0))], G [((4, u1), some (.box 38 [(di 0), (di 0), (.d .nilS), (di 0), (di 0), (di 0), (di 0), (di 0), (di 0), (di 0), (di 0), (di 0), (di 0)])), ((6, u2), some (.box 38 [(di y1.Tick), (di y1.Gap), (oS y1.Mates (58, g1)), (di y1.Guest_.ID), (di y1.Guest_.S), (di y1.Guest_.V), (di y1.Guest_.Len), (di y1.Guest_.End), (di y1.Guest_.Ahead), (di y1.Guest_.Guess_.R), (di y1.Guest_.Guess_.V), (di y1.Guest_.From), (di y1.Guest_.Until)])), ((58, g1), oB 65 12 eMate y1.Mates)]⟩ s) ?_ ?_))))))))))))))))
  · refine l_block (l_loop (convoy_New_l1 p2) (fun (x1 : (Int × Convoy)) (g2 : Nat) => ⟨T [(1, (dl eMate p2)), (4, (.ptr (4, u1) 0)), (6, (.ptr (6, u2) 0)), (13, (dl eMate p2)), (14, (di (p2.length : Int))), (15, (di x1.1))], G [((4, u1), some (.box 38 [(di 0), (di 0), (.d .nilS), (di 0), (di 0), (di 0), (di 0), (di 0), (di 0), (di 0), (di 0), (di 0), (di 0)])), ((6, u2), some (.box 38 [(di x1.2.Tick), (di x1.2.Gap), (oS x1.2.Mates (58, g2)), (di x1.2.Guest_.ID), (di x1.2.Guest_.S), (di x1.2.Guest_.V), (di x1.2.Guest_.Len), (di x1.2.Guest_.End), (di x1.2.Guest_.Ahead), (di x1.2.Guest_.Guess_.R), (di x1.2.Guest_.Guess_.V), (di x1.2.Guest_.From), (di x1.2.Guest_.Until)])), ((58, g2), oB 65 12 eMate x1.2.Mates)]⟩) (0, (Convoy.mk 0 p1 [] (Guest.mk 0 0 0 0 0 0 (Guess.mk 0 0) 0 0))) 0 _ hy1 (sb_of ⟨.of rfl, .of rfl, .of rfl, .of rfl, .of rfl, .of rfl, trivial⟩ (sbG_some (gq rfl) (.of rfl) (sbG_some G_hit (.of rfl) (sbG_nil trivial)))) ?_)
    intro x1 g2 z1 hz1 ez1
    unfold convoy_New_l1 at hz1
    refine lr (fun u4 hu4 => sv rfl (s_nil (l_seq (cc rfl hz1 (fun c1 hz1 => ?_) (fun c1 hz1 => ?_)))))
    · refine l_skip (l_seq (l_block (lr (fun u5 hu5 => sv rfl (bs hz1 fun v1 hv1 hz1 => sd rfl (v_idx rfl rfl hv1 rfl) (sd rfl (v_loadLG rfl hv1 rfl rfl) (sn rfl rfl (sv rfl (sst rfl G_hit (dMate v1) rfl (s_nil (lr (fun u6 hu6 => sv rfl (sv rfl (sp rfl rfl (sl rfl G_hit rfl (sp rfl rfl (sl rfl G_hit rfl (sp rfl rfl (sl rfl G_hit rfl (sv rfl (sn rfl rfl (sst rfl G_hit [(di (w64 (x1.1 + 1))), (di v1.S), (di v1.V), (di v1.Len), (di 0), (di 0), (di 0), (.d (bo true)), (di 0), (di 0), (di 0), (di 0)] rfl (s_nil (l_seq (l_seq (l_sub (s0 := ⟨T [(1, (dl eMate p2)), (4, (.ptr (4, u1) 0)), (6, (.ptr (6, u2) 0)), (7, (di x1.1)), (9, (.ptr (9, u6) 0)), (13, (dl eMate p2)), (14, (di (p2.length : Int))), (15, (di x1.1))], G [((4, u1), some (.box 38 [(di 0), (di 0), (.d .nilS), (di 0), (di 0), (di 0), (di 0), (di 0), (di 0), (di 0), (di 0), (di 0), (di 0)])), ((6, u2), some (.box 38 [(di x1.2.Tick), (di x1.2.Gap), (oS x1.2.Mates (58, g2)), (di x1.2.Guest_.ID), (di x1.2.Guest_.S), (di x1.2.Guest_.V), (di x1.2.Guest_.Len), (di x1.2.Guest_.End), (di x1.2.Guest_.Ahead), (di x1.2.Guest_.Guess_.R), (di x1.2.Guest_.Guess_.V), (di x1.2.Guest_.From), (di x1.2.Guest_.Until)])), ((58, g2), oB 65 12 eMate x1.2.Mates), ((9, u6), some (.box 65 [(di (w64 (x1.1 + 1))), (di v1.S), (di v1.V), (di v1.Len), (di 0), (di 0), (di 0), (.d (bo true)), (di 0), (di 0), (di 0), (di 0)]))]⟩) (sb_of ⟨.of rfl, .of rfl, .of rfl, .of rfl, .of rfl, .of rfl, .of rfl, .of rfl, trivial⟩ (sbG_some (gq rfl) (.of rfl) (sbG_some (gq rfl) (.of rfl) (sbG_oB (gq rfl) (sbG_some G_hit (.of rfl) trivial))))) ?_))))))))))))))))))))))))))
      refine l_reg fun u7 hu7 => sv rfl (sv rfl (s_nil (bs hz1 fun y2 hy2 hz1 => l_join (fun s => ∃ g3 : Unit, Sb ⟨T [(1, (dl eMate p2)), (4, (.ptr (4, u1) 0)), (6, (.ptr (6, u2) 0)), (9, (.ptr (9, u6) 0)), (13, (dl eMate p2)), (14, (di (p2.length : Int))), (15, (di x1.1))], G [((4, u1), some (.box 38 [(di 0), (di 0), (.d .nilS), (di 0), (di 0), (di 0), (di 0), (di 0), (di 0), (di 0), (di 0), (di 0), (di 0)])), ((6, u2), some (.box 38 [(di x1.2.Tick), (di x1.2.Gap), (oS x1.2.Mates (58, g2)), (di x1.2.Guest_.ID), (di x1.2.Guest_.S), (di x1.2.Guest_.V), (di x1.2.Guest_.Len), (di x1.2.Guest_.End), (di x1.2.Guest_.Ahead), (di x1.2.Guest_.Guess_.R), (di x1.2.Guest_.Guess_.V), (di x1.2.Guest_.From), (di x1.2.Guest_.Until)])), ((9, u6), some (.box 65 (dMate y2))), ((58, g2), oB 65 12 eMate x1.2.Mates)]⟩ s) ?_ ?_)))
      · refine cc rfl hy2 (fun c2 hy2 => ?_) (fun c2 hy2 => ?_)
        · refine l_drawT fun u8 hu8 => t_val (.d _) rfl rfl (t_val (.d _) rfl rfl (t_val (.d _) rfl rfl (t_val (.d _) rfl rfl (bs hy2 fun v2 hv2 hy2 => t_val (.d _) rfl (v_idx rfl rfl hv2 rfl) (t_val (.d _) rfl rfl (t_val (.d _) rfl (v_loadL rfl hv2 rfl) (t_val (.d _) rfl rfl (t_val (.d _) rfl rfl (t_val (.d _) rfl rfl (bs hy2 fun v3 hv3 hy2 => t_val (.d _) rfl (v_idx rfl rfl hv3 rfl) (t_val (.d _) rfl rfl (t_val (.d _) rfl (v_loadL rfl hv3 rfl) (t_val (.d _) rfl rfl (t_val (.d _) rfl rfl (t_val (.d _) rfl rfl (t_val (.d _) rfl rfl (bs hy2 fun v4 hv4 hy2 => t_val (.d _) rfl (v_idx rfl rfl hv4 rfl) (t_val (.d _) rfl rfl (t_val (.d _) rfl (v_loadL rfl hv4 rfl) (t_val (.d _) rfl rfl (t_val (.ptr _ _) rfl rfl (t_store _ _ _ _ _ rfl rfl rfl (gq rfl) (nl rfl) [(di (w64 (x1.1 + 1))), (di v1.S), (di v1.V), (di v1.Len), (di x1.1), (di 0), (di 0), (.d (bo true)), (di 0), (di 0), (di 0), (di 0)] rfl (t_val (.ptr _ _) rfl rfl (t_store _ _ _ _ _ rfl rfl rfl G_hit (nl rfl) [(di (w64 (x1.1 + 1))), (di v1.S), (di v1.V), (di v1.Len), (di x1.1), (di (w64 (v2.S - v3.Len))), (di v4.V), (.d (bo true)), (di 0), (di 0), (di 0), (di 0)] rfl (t_nil ⟨rfl, ?_⟩)))))))))))))))))))))))))
          obtain rfl := Option.some.inj hy2
          exact l_j ⟨(), (sb_of ⟨.of rfl, .of rfl, .of rfl, .of rfl, .of rfl, .of rfl, .of rfl, trivial⟩ (sbG_some (gq rfl) (.of rfl) (sbG_some (gq rfl) (.of rfl) (sbG_some G_hit (.of rfl) (sbG_oB (gq rfl) trivial)))))⟩
        · refine l_skip ?_
          obtain rfl := Option.some.inj hy2
          exact l_j ⟨(), (sb_of ⟨.of rfl, .of rfl, .of rfl, .of rfl, .of rfl, .of rfl, .of rfl, trivial⟩ (sbG_some G_hit (.of rfl) (sbG_some (gq rfl) (.of rfl) (sbG_some (gq rfl) (.of rfl) (sbG_oB (gq rfl) trivial)))))⟩
      · rintro _ ⟨g3, q1⟩
        refine l_sub q1 (l_reg fun u9 hu9 => sp rfl rfl (s_val (oS x1.2.Mates (58, g2)) rfl (v_load rfl (gq rfl) rfl) (sd rfl (v_loadG rfl (gq rfl) rfl rfl) (s_val (dl eMate [y2]) rfl (v_dsliceN eMate ([y2] : List Mate) (fun _ => rfl) rfl rfl ⟨rfl, rfl, rfl, trivial⟩) (bs hz1 fun v5 hv5 hz1 => s_appendO eMate (58, g2) x1.2.Mates y2 [] _ (elems_list (fun _ => rfl)) rfl (gq rfl) hv5 (sp rfl rfl (sst rfl (gq rfl) [(di x1.2.Tick), (di x1.2.Gap), (.sl (58, u9)), (di x1.2.Guest_.ID), (di x1.2.Guest_.S), (di x1.2.Guest_.V), (di x1.2.Guest_.Len), (di x1.2.Guest_.End), (di x1.2.Guest_.Ahead), (di x1.2.Guest_.Guess_.R), (di x1.2.Guest_.Guess_.V), (di x1.2.Guest_.From), (di x1.2.Guest_.Until)] rfl (s_nil (l_end (l_reg fun u10 hu10 => sv rfl (sv rfl (s_nil (l_nil ?_)))))))))))))
        obtain rfl := Option.some.inj hz1
        exact ⟨rfl, u9, (sb_of ⟨.of rfl, .of rfl, .of rfl, .of rfl, .of rfl, .of rfl, trivial⟩ (sbG_some (gq rfl) (.of rfl) (sbG_some G_hit (.box (.cons (.of rfl) (.cons (.of rfl) (.cons (.of (oS_ne (appc_ne hv5)).symm) (.cons (.of rfl) (.cons (.of rfl) (.cons (.of rfl) (.cons (.of rfl) (.cons (.of rfl) (.cons (.of rfl) (.cons (.of rfl) (.cons (.of rfl) (.cons (.of rfl) (.cons (.of rfl) .nil)))))))))))))) (sbG_own (gq rfl) trivial))))⟩
    · refine l_exitN rfl ?_
      obtain rfl := Option.some.inj hz1
      obtain rfl := ez1 _ rfl
      refine ⟨nofun, awl_pop rfl (l_j ?_)⟩
      exact ⟨g2, (sb_of ⟨.of rfl, .of rfl, trivial⟩ (sbG_some G_hit (.of rfl) (sbG_some (gq rfl) (.of rfl) (sbG_oB (gq rfl) trivial))))⟩
  · rintro _ ⟨g1, q2⟩
    refine l_sub q2 (l_seq (lr (fun u11 hu11 => s_val (mkAgg [(di y1.Tick), (di y1.Gap), (oS y1.Mates (58, g1)), (di y1.Guest_.ID), (di y1.Guest_.S), (di y1.Guest_.V), (di y1.Guest_.Len), (di y1.Guest_.End), (di y1.Guest_.Ahead), (di y1.Guest_.Guess_.R), (di y1.Guest_.Guess_.V), (di y1.Guest_.From), (di y1.Guest_.Until)]) rfl (v_loadG rfl (gq rfl) rfl rfl) (bs h fun v6 hv6 h => s_call rfl (rfL_cons (rf_mkAgg (rfL_cons rf_d (rfL_cons rf_d (rfL_cons (rf_oS (gq rfl)) (rfL_cons rf_d (rfL_cons rf_d (rfL_cons rf_d (rfL_cons rf_d (rfL_cons rf_d (rfL_cons rf_d (rfL_cons rf_d (rfL_cons rf_d (rfL_cons rf_d (rfL_cons rf_d rfL_nil)))))))))))))) rfL_nil) (.cons (.agg (.cons ⟨(.refl _), rfl⟩ (.cons ⟨(.refl _), rfl⟩ (.cons ⟨oD_le, rfl⟩ (.cons ⟨(.refl _), rfl⟩ (.cons ⟨(.refl _), rfl⟩ (.cons ⟨(.refl _), rfl⟩ (.cons ⟨(.refl _), rfl⟩ (.cons ⟨(.refl _), rfl⟩ (.cons ⟨(.refl _), rfl⟩ (.cons ⟨(.refl _), rfl⟩ (.cons ⟨(.refl _), rfl⟩ (.cons ⟨(.refl _), rfl⟩ (.cons ⟨(.refl _), rfl⟩ .nil)))))))))))))) .nil) (convoy_Check_ok _  _ hv6) (.inr rfl) (sv rfl (s_nil (lr (fun u12 hu12 => sv rfl (sv rfl (s_nil (cc rfl h (fun c3 h => ?_) (fun c3 h => ?_))))))))))))
    · refine lr (fun u13 hu13 => sv rfl (sv rfl (sst rfl G_hit [(di 0), (di 0), (.d .nilS), (di 0), (di 0), (di 0), (di 0), (di 0), (di 0), (di 0), (di 0), (di 0), (di 0)] rfl (sv rfl (s_nil (l_ret ?_))))))
      obtain rfl := Option.some.inj h
      exact fin_ok (.inr rfl) (resD2 (res_cellG rfl G_hit (nl rfl) rfl) (res_t rfl) rf_d rf_d) (.tup (.cons (.agg (.cons ⟨(.refl _), rfl⟩ (.cons ⟨(.refl _), rfl⟩ (.cons ⟨DLe.nil, rfl⟩ (.cons ⟨(.refl _), rfl⟩ (.cons ⟨(.refl _), rfl⟩ (.cons ⟨(.refl _), rfl⟩ (.cons ⟨(.refl _), rfl⟩ (.cons ⟨(.refl _), rfl⟩ (.cons ⟨(.refl _), rfl⟩ (.cons ⟨(.refl _), rfl⟩ (.cons ⟨(.refl _), rfl⟩ (.cons ⟨(.refl _), rfl⟩ (.cons ⟨(.refl _), rfl⟩ .nil)))))))))))))) (.cons (.refl _) .nil)))
    · refine l_skip (lr (fun u14 hu14 => s_val (mkAgg [(di y1.Tick), (di y1.Gap), (oS y1.Mates (58, g1)), (di y1.Guest_.ID), (di y1.Guest_.S), (di y1.Guest_.V), (di y1.Guest_.Len), (di y1.Guest_.End), (di y1.Guest_.Ahead), (di y1.Guest_.Guess_.R), (di y1.Guest_.Guess_.V), (di y1.Guest_.From), (di y1.Guest_.Until)]) rfl (v_loadG rfl (gq rfl) rfl rfl) (s_store _ _ _ _ _ (cellsV_mkAgg _) rfl rfl G_hit (nl rfl) [(di y1.Tick), (di y1.Gap), (oS y1.Mates (58, g1)), (di y1.Guest_.ID), (di y1.Guest_.S), (di y1.Guest_.V), (di y1.Guest_.Len), (di y1.Guest_.End), (di y1.Guest_.Ahead), (di y1.Guest_.Guess_.R), (di y1.Guest_.Guess_.V), (di y1.Guest_.From), (di y1.Guest_.Until)] rfl (sv rfl (s_nil (l_ret ?_))))))
      obtain rfl := Option.some.inj h
      exact fin_ok (.inr rfl) (resD2 (res_cellG rfl G_hit (nl rfl) rfl) (res_t rfl) (rf_mkAgg (rfL_cons rf_d (rfL_cons rf_d (rfL_cons (rf_oS (gq rfl)) (rfL_cons rf_d (rfL_cons rf_d (rfL_cons rf_d (rfL_cons rf_d (rfL_cons rf_d (rfL_cons rf_d (rfL_cons rf_d (rfL_cons rf_d (rfL_cons rf_d (rfL_cons rf_d rfL_nil)))))))))))))) rf_d) (.tup (.cons (.agg (.cons ⟨(.refl _), rfl⟩ (.cons ⟨(.refl _), rfl⟩ (.cons ⟨oD_le, rfl⟩ (.cons ⟨(.refl _), rfl⟩ (.cons ⟨(.refl _), rfl⟩ (.cons ⟨(.refl _), rfl⟩ (.cons ⟨(.refl _), rfl⟩ (.cons ⟨(.refl _), rfl⟩ (.cons ⟨(.refl _), rfl⟩ (.cons ⟨(.refl _), rfl⟩ (.cons ⟨(.refl _), rfl⟩ (.cons ⟨(.refl _), rfl⟩ (.cons ⟨(.refl _), rfl⟩ .nil)))))))))))))) (.cons (.refl _) .nil)))

noncomputable def law09_shown : Option Convoy :=
  (convoy_New 1000 [(Mate.mk 0 50000 1000 4000 0 (Guess.mk 0 0) false 0 (Guess.mk 0 0) 0), (Mate.mk 0 40000 1000 4000 0 (Guess.mk 0 0) false 0 (Guess.mk 0 0) 0)]).bind fun v1 => cond ((v1.2 != 0) || ((v1.1.Mates.length : Int) != 2)) (some (Convoy.mk 0 0 [] (Guest.mk 0 0 0 0 0 0 (Guess.mk 0 0) 0 0))) (some v1.1)

/-- kerbstone/kerbstonelaw09.shown -/
def ac_law09_shown : AC := (.seq (.reg [oo 0 (.alloc 38 [z0, z0, .nilS, z0, z0, z0, z0, z0, z0, z0, z0, z0, z0])]) (.seq (.reg [oo 4 (.build [z0, z0, z0, z0, z0, z0, z0, zf, z0, z0, z0, z0] [(1, 1, (ci 50000)), (2, 1, (ci 1000)), (3, 1, (ci 4000))]), oo 5 (.build [z0, z0, z0, z0, z0, z0, z0, zf, z0, z0, z0, z0] [(1, 1, (ci 40000)), (2, 1, (ci 1000)), (3, 1, (ci 4000))]), oo 6 (.dslice 65 12 2 [z0, z0, z0, z0, z0, z0, z0, zf, z0, z0, z0, z0] [(0, 12, (.t 4)), (12, 12, (.t 5))]), oo 7 (.call (cf 43) [(ci 1000), (.t 6)]), oo 3 (.mv (.t 7)), oo 8 (.ext (.t 3) 0), oo 9 (.ext (.t 3) 1), oo 1 (.alloc 38 [z0, z0, .nilS, z0, z0, z0, z0, z0, z0, z0, z0, z0, z0]), oe (.store 13 (.t 1) (.t 8)), oo 2 (.mv (.t 9))]) (.seq (.seq (.reg [oo 10 (.mv (.t 2)), oo 11 (.bin .neq (.t 10) (ci 0)), oo 12 (.mv (.t 11)), oh 13 (.fieldA 2 (.t 1)) 12, oh 14 (.load 1 false (.t 13)) 12, oh 15 (.len (.t 14)) 12, oh 16 (.bin .neq (.t 15) (ci 2)) 12, oo 17 (.pick (.t 12) (.c (.v (.bool true))) (.t 16))]) (.cond (.t 17) (.seq (.reg [oo 18 (.build [z0, z0, .nilS, z0, z0, z0, z0, z0, z0, z0, z0, z0, z0] []), oe (.store 13 (.t 0) (.t 18))]) .ret) .skip)) (.seq (.reg [oo 19 (.load 13 true (.t 1)), oe (.store 13 (.t 0) (.t 19))]) .ret))))
theorem fn_law09_shown : FnOK Try.prog 57 20 [.cell 0 13 true] ac_law09_shown := ⟨_, _, Try.func57, rfl, Try.ntmps57, by kernel_rfl, ⟨fun r => if r == 1 then [1002] else [], by kernel_rfl⟩, by kernel_rfl⟩
theorem law09_shown_ok (r : Convoy) (h : law09_shown = some r) : PCall Try.prog 57 [] (.agg (eConvoy r)) := by
  refine l_call fn_law09_shown (nl rfl) ?_
  unfold law09_shown at h
  unfold ac_law09_shown
  refine l_sub (s0 := ⟨T [], G []⟩) (sbr rfl rfl) ?_
  refine lr (fun u1 hu1 => sn rfl rfl (s_nil (lr (fun u2 hu2 => sv rfl (sv rfl (s_val (dl eMate [(Mate.mk 0 50000 1000 4000 0 (Guess.mk 0 0) false 0 (Guess.mk 0 0) 0), (Mate.mk 0 40000 1000 4000 0 (Guess.mk 0 0) false 0 (Guess.mk 0 0) 0)]) rfl (v_dsliceN eMate ([(Mate.mk 0 50000 1000 4000 0 (Guess.mk 0 0) false 0 (Guess.mk 0 0) 0), (Mate.mk 0 40000 1000 4000 0 (Guess.mk 0 0) false 0 (Guess.mk 0 0) 0)] : List Mate) (fun _ => rfl) rfl rfl ⟨rfl, rfl, rfl, rfl, rfl, rfl, trivial⟩) (bs h fun v1 hv1 h => s_call rfl rfl all2_refl (convoy_New_ok _ _  _ hv1) (.inl rfl) (sv rfl (sv rfl (sv rfl (sn rfl rfl (sst rfl G_hit (dConvoy v1.1) rfl (sv rfl (s_nil (l_seq (lr (fun u3 hu3 => sv rfl (sv rfl (sv rfl (gp rfl (gw_f rfl) (fun _ => rfl) (gf rfl (vl rfl G_hit rfl) (gf rfl (fun w3 => (v_len (gd_pos w3))) (gf rfl (vb rfl rfl rfl) (sd rfl (v_or rfl rfl (fun hc => gd_pos (not_t hc))) (s_nil (cc rfl h (fun c1 h => ?_) (fun c1 h => ?_)))))))))))))))))))))))))))
  · refine lr (fun u4 hu4 => sv rfl (sst rfl (gq rfl) [(di 0), (di 0), (.d .nilS), (di 0), (di 0), (di 0), (di 0), (di 0), (di 0), (di 0), (di 0), (di 0), (di 0)] rfl (s_nil (l_ret ?_))))
    obtain rfl := Option.some.inj h
    exact fin_ok (.inr rfl) (resD1 (res_cellG rfl G_hit (nl rfl) rfl) rf_d) (.agg (.cons ⟨(.refl _), rfl⟩ (.cons ⟨(.refl _), rfl⟩ (.cons ⟨DLe.nil, rfl⟩ (.cons ⟨(.refl _), rfl⟩ (.cons ⟨(.refl _), rfl⟩ (.cons ⟨(.refl _), rfl⟩ (.cons ⟨(.refl _), rfl⟩ (.cons ⟨(.refl _), rfl⟩ (.cons ⟨(.refl _), rfl⟩ (.cons ⟨(.refl _), rfl⟩ (.cons ⟨(.refl _), rfl⟩ (.cons ⟨(.refl _), rfl⟩ (.cons ⟨(.refl _), rfl⟩ .nil))))))))))))))
  · refine l_skip (lr (fun u5 hu5 => sd rfl (v_loadG rfl G_hit rfl rfl) (sst rfl (gq rfl) (dConvoy v1.1) rfl (s_nil (l_ret ?_)))))
    obtain rfl := Option.some.inj h
    exact fin_ok (.inr rfl) (resD1 (res_cellG rfl G_hit (nl rfl) rfl) rf_d) (.refl _)

noncomputable def convoy_Below (p1 : Guess) (p2 : Int) (p3 : Int) : Option Bool :=
  (convoy_sane [p1.R, p1.V, p2, p3]).bind fun v1 => ((cond (v1 && (decide (p1.R ≤ p2))) (convoy_end p1) (some default))).bind fun v2 => ((cond (v1 && (decide (p1.R ≤ p2))) (convoy_stop p3) (some default))).bind fun v3 => some ((v1 && (decide (p1.R ≤ p2))) && (decide (v2 ≤ (w64 (p2 + v3)))))

/-- kerbstone/convoy.Below -/
def ac_convoy_Below : AC := (.seq (.reg [oo 3 (.box 23 true (.t 0)), oo 6 (.mv (.c zf))]) (.seq (.reg [oo 7 (.fieldA 0 (.t 3)), oo 8 (.load 1 false (.t 7)), oo 9 (.fieldA 1 (.t 3)), oo 10 (.load 1 false (.t 9)), oo 11 (.mv (.t 1)), oo 12 (.mv (.t 2)), oo 13 (.dslice 2 1 4 [z0] [(0, 1, (.t 8)), (1, 1, (.t 10)), (2, 1, (.t 11)), (3, 1, (.t 12))]), oo 14 (.call (cf 59) [(.t 13)]), oo 15 (.mv (.t 14)), og 16 (.fieldA 0 (.t 3)) 15, og 17 (.load 1 false (.t 16)) 15, og 18 (.mv (.t 1)) 15, og 19 (.bin .leq (.t 17) (.t 18)) 15, oo 20 (.pick (.t 15) (.t 19) (.c zf)), oo 21 (.mv (.t 20)), og 22 (.load 2 true (.t 3)) 21, og 23 (.call (cf 61) [(.t 22)]) 21, og 24 (.mv (.t 1)) 21, og 25 (.mv (.t 2)) 21, og 26 (.call (cf 62) [(.t 25)]) 21, og 27 (.bin .add (.t 24) (.t 26)) 21, og 28 (.bin .leq (.t 23) (.t 27)) 21, oo 29 (.pick (.t 21) (.t 28) (.c zf)), oo 6 (.mv (.t 29))]) .ret))
theorem fn_convoy_Below : FnOK Try.prog 17 30 [.t 6] ac_convoy_Below := ⟨_, _, Try.func17, rfl, Try.ntmps17, by kernel_rfl, ⟨fun r => if r == 1 then [1006] else [], by kernel_rfl⟩, by kernel_rfl⟩
theorem convoy_Below_ok (p1 : Guess) (p2 : Int) (p3 : Int) (r : Bool) (h : convoy_Below p1 p2 p3 = some r) : PCall Try.prog 17 [(.agg [(i64 p1.R), (i64 p1.V)]), (i64 p2), (i64 p3)] (bo r) := by
  refine l_call fn_convoy_Below (nl rfl) ?_
  unfold convoy_Below at h
  unfold ac_convoy_Below
  refine l_sub (s0 := ⟨T [(0, (.d _)), (1, (.d _)), (2, (.d _))], G []⟩) (sbr rfl rfl) ?_
  refine lr (fun u1 hu1 => sn rfl rfl (sv rfl (s_nil (lr (fun u2 hu2 => sp rfl rfl (sl rfl G_hit rfl (sp rfl rfl (sl rfl G_hit rfl (sv rfl (sv rfl (s_val (dl eInt_i64 [p1.R, p1.V, p2, p3]) rfl rfl (bs h fun v1 hv1 h => s_call rfl rfl all2_refl (convoy_sane_ok _  _ hv1) (.inl rfl) (sv rfl (gp rfl (gw_t rfl) (fun _ => rfl) (gt rfl (vl rfl G_hit rfl) (gt rfl (fun _ => rfl) (gt rfl (fun w4 => (v_bin (gd_pos w4) (gd_pos w4) rfl)) (sa rfl rfl rfl (sv rfl (gt rfl (fun w5 => (v_loadG rfl G_hit rfl rfl)) (bs h fun v2 hv2 h => ?_)))))))))))))))))))))
  refine g_call _ (i64 v2) (gw_t rfl) (fun w6 => ⟨_, [(.d (.agg [(i64 p1.R), (i64 p1.V)]))], _, _, (by simp only [gd_pos w6]; rfl), rfl, all2_refl, convoy_end_ok _  _ (cond_t w6 hv2), (.inl rfl)⟩) ?_
  refine gt rfl (fun _ => rfl) (gt rfl (fun _ => rfl) (bs h fun v3 hv3 h => ?_))
  refine g_call _ (i64 v3) (gw_t rfl) (fun w9 => ⟨_, [(di p3)], _, _, (by simp only [gd_pos w9]; rfl), rfl, all2_refl, convoy_stop_ok _  _ (cond_t w9 hv3), (.inl rfl)⟩) ?_
  refine gt rfl (fun w10 => (v_bin (gd_pos w10) (gd_pos w10) rfl)) (gt rfl (fun w11 => (v_bin (gd_pos w11) (gd_pos w11) rfl)) (sa rfl rfl rfl (sv rfl (s_nil (l_ret ?_)))))
  obtain rfl := Option.some.inj h
  exact fin_ok (.inr rfl) (resD1 (res_t rfl) rf_d) (.refl _)

noncomputable def convoy_holds (p1 : (List Mate)) (p2 : Int) (p3 : Guess) : Option Bool :=
  (convoy_find p1 p2).bind fun v1 => ((cond (decide (v1 ≥ 0)) (geti p1 v1) (some default))).bind fun v2 => ((cond (decide (v1 ≥ 0)) (convoy_rear v2) (some default))).bind fun v3 => ((cond (decide (v1 ≥ 0)) (geti p1 v1) (some default))).bind fun v4 => ((cond (decide (v1 ≥ 0)) (convoy_Below p3 v3 v4.V) (some default))).bind fun v5 => some ((decide (v1 ≥ 0)) && v5)

/-- kerbstone/convoy.holds -/
def ac_convoy_holds : AC := (.seq (.reg [oo 5 (.box 23 true (.t 2)), oo 6 (.mv (.c zf))]) (.seq (.reg [oo 8 (.mv (.t 0)), oo 9 (.mv (.t 1)), oo 10 (.call (cf 64) [(.t 8), (.t 9)]), oo 7 (.mv (.t 10))]) (.seq (.draw [oo 11 (.mv (.t 7)), oo 12 (.bin .geq (.t 11) (ci 0)), oo 13 (.mv (.t 12)), og 14 (.load 2 true (.t 5)) 13, og 15 (.mv (.t 0)) 13, og 16 (.mv (.t 7)) 13, og 17 (.idxS 12 (.t 15) (.t 16)) 13, og 18 (.load 12 true (.t 17)) 13, og 19 (.call (cf 67) [(.t 18)]) 13, og 20 (.mv (.t 0)) 13, og 21 (.mv (.t 7)) 13, og 22 (.idxS 12 (.t 20) (.t 21)) 13, og 23 (.fieldA 2 (.t 22)) 13, og 24 (.load 1 false (.t 23)) 13, og 25 (.call (cf 17) [(.t 14), (.t 19), (.t 24)]) 13, oo 26 (.pick (.t 13) (.t 25) (.c zf)), oo 6 (.mv (.t 26))] []) .ret)))
theorem fn_convoy_holds : FnOK Try.prog 79 27 [.t 6] ac_convoy_holds := ⟨_, _, Try.func79, rfl, Try.ntmps79, by kernel_rfl, ⟨fun _ => [], by kernel_rfl⟩, by kernel_rfl⟩
theorem convoy_holds_ok (p1 : (List Mate)) (p2 : Int) (p3 : Guess) (r : Bool) (h : convoy_holds p1 p2 p3 = some r) : PCall Try.prog 79 [(.list (List.map eMate p1)), (i64 p2), (.agg [(i64 p3.R), (i64 p3.V)])] (bo r) := by
  refine l_call fn_convoy_holds (nl rfl) ?_
  unfold convoy_holds at h
  unfold ac_convoy_holds
  refine l_sub (s0 := ⟨T [(0, (.d _)), (1, (.d _)), (2, (.d _))], G []⟩) (sbr rfl rfl) ?_
  refine lr (fun u1 hu1 => sn rfl rfl (sv rfl (s_nil (lr (fun u2 hu2 => sv rfl (sv rfl (bs h fun v1 hv1 h => s_call rfl rfl all2_refl (convoy_find_ok _ _  _ hv1) (.inl rfl) (sv rfl (s_nil (l_seq (l_draw rfl fun u3 hu3 => sv rfl (sv rfl (sv rfl (gt rfl (fun w1 => (v_loadG rfl G_hit rfl rfl)) (gt rfl (fun _ => rfl) (gt rfl (fun _ => rfl) (bs h fun v2 hv2 h => gt rfl (fun w4 => (v_idx (gd_pos w4) (gd_pos w4) (cond_t w4 hv2) rfl)) (gt rfl (fun w5 => (v_loadLG (gd_pos w5) (cond_t w5 hv2) rfl rfl)) (bs h fun v3 hv3 h => ?_)))))))))))))))))))
  refine g_call _ (i64 v3) (gw_t rfl) (fun w6 => ⟨_, [(.d (.agg (eMate v2)))], _, _, (by simp only [gd_pos w6]; rfl), rfl, all2_refl, convoy_rear_ok _  _ (cond_t w6 hv3), (.inl rfl)⟩) ?_
  refine gt rfl (fun _ => rfl) (gt rfl (fun _ => rfl) (bs h fun v4 hv4 h => gt rfl (fun w9 => (v_idx (gd_pos w9) (gd_pos w9) (cond_t w9 hv4) rfl)) ?_))
  refine gt rfl (fun w10 => (by simp only [gd_pos w10]; rfl)) ?_
  refine gt rfl (fun w11 => (v_loadL (gd_pos w11) (cond_t w11 hv4) rfl)) (bs h fun v5 hv5 h => ?_)
  refine g_call _ (bo v5) (gw_t rfl) (fun w12 => ⟨_, [(.d (.agg [(i64 p3.R), (i64 p3.V)])), (di v3), (di v4.V)], _, _, (by simp only [gd_pos w12]; rfl), rfl, all2_refl, convoy_Below_ok _ _ _  _ (cond_t w12 hv5), (.inl rfl)⟩) ?_
  refine sa rfl rfl rfl (sv rfl (s_nil (l_ret ?_)))
  obtain rfl := Option.some.inj h
  exact fin_ok (.inr rfl) (resD1 (res_t rfl) rf_d) (.refl _)

noncomputable def convoy_Sound_l1 (p1 : Convoy) (x1 : Int) : Option (Stp Int (Sum Unit Bool)) :=
  cond (decide (x1 < (p1.Mates.length : Int))) ((geti p1.Mates x1).bind fun v2 => ((cond (v2.Ahead != 0) (subl p1.Mates 0 x1) (some default))).bind fun v3 => ((cond (v2.Ahead != 0) (convoy_holds v3 v2.Ahead v2.Guess_) (some default))).bind fun v4 => cond ((v2.Ahead != 0) && (!v4)) (some (.out (.inr false))) (((cond (v2.Until != 0) (subl p1.Mates 0 x1) (some default))).bind fun v5 => ((cond (v2.Until != 0) (convoy_find v5 v2.Ward) (some default))).bind fun v6 => ((cond ((v2.Until != 0) && (decide (v6 ≥ 0))) (subl p1.Mates 0 x1) (some default))).bind fun v7 => ((cond ((v2.Until != 0) && (decide (v6 ≥ 0))) (convoy_holds v7 v2.Ward v2.WardGuess) (some default))).bind fun v8 => cond (((v2.Until != 0) && (decide (v6 ≥ 0))) && (!v8)) (some (.out (.inr false))) (((cond ((v2.Until != 0) && (v2.Ward == p1.Guest_.ID)) (convoy_Below v2.WardGuess (w64 (p1.Guest_.S - p1.Guest_.Len)) p1.Guest_.V) (some default))).bind fun v9 => cond (((v2.Until != 0) && (v2.Ward == p1.Guest_.ID)) && (!v9)) (some (.out (.inr false))) (((cond (decide (x1 > 0)) (geti p1.Mates (w64 (x1 - 1))) (some default))).bind fun v10 => ((cond (((decide (x1 > 0)) && (v10.ID != v2.Ahead)) && (!(v2.Until == 0))) (geti p1.Mates (w64 (x1 - 1))) (some default))).bind fun v11 => cond (((decide (x1 > 0)) && (v10.ID != v2.Ahead)) && ((v2.Until == 0) || (v11.ID != v2.Ward))) (some (.out (.inr false))) (some (.go (w64 (x1 + 1)))))))) (some (.out (.inl ())))
noncomputable def convoy_Sound (p1 : Convoy) : Option Bool :=
  (convoy_Check p1).bind fun v1 => cond (v1 != 0) (some false) (thenS (loop (convoy_Sound_l1 p1) 0) (fun _ => ((cond (!(p1.Guest_.Ahead == 0)) (convoy_holds p1.Mates p1.Guest_.Ahead p1.Guest_.Guess_) (some default))).bind fun v12 => some ((p1.Guest_.Ahead == 0) || v12)) (fun r => some r))

/-- kerbstone/convoy.Sound -/
def ac_convoy_Sound : AC := (.seq (.reg [oo 1 (.box 38 true (.t 0)), oo 2 (.mv (.c zf))]) (.seq (.seq (.reg [oo 5 (.load 13 true (.t 1)), oo 6 (.call (cf 32) [(.t 5)]), oo 7 (.bin .neq (.t 6) (ci 0))]) (.cond (.t 7) (.seq (.reg [oo 2 (.mv (.c zf))]) .ret) .skip)) (.seq (.seq (.reg [oo 8 (.fieldA 2 (.t 1)), oo 9 (.load 1 false (.t 8)), oo 10 (.len (.t 9)), oo 11 (.mv (ci 0))]) (.block 0 (.loop (.seq (.reg [oo 12 (.bin .lss (.t 11) (.t 10))]) (.seq (.cond (.t 12) .skip (.exit 0)) (.seq (.block 1 (.seq (.reg [oo 13 (.mv (.t 11)), oo 14 (.idxS 12 (.t 9) (.t 11)), oo 15 (.load 12 true (.t 14)), oo 4 (.alloc 65 [z0, z0, z0, z0, z0, z0, z0, zf, z0, z0, z0, z0]), oo 3 (.mv (.t 13)), oe (.store 12 (.t 4) (.t 15))]) (.seq (.seq (.draw [oo 16 (.fieldA 4 (.t 4)), oo 17 (.load 1 false (.t 16)), oo 18 (.bin .neq (.t 17) (ci 0)), oo 19 (.mv (.t 18)), og 20 (.fieldA 2 (.t 1)) 19, og 21 (.load 1 false (.t 20)) 19, og 22 (.mv (.t 3)) 19, og 23 (.slice 12 (.t 21) none (some (.t 22)) none) 19, og 24 (.fieldA 4 (.t 4)) 19, og 25 (.load 1 false (.t 24)) 19, og 26 (.fieldA 5 (.t 4)) 19, og 27 (.load 2 true (.t 26)) 19, og 28 (.call (cf 79) [(.t 23), (.t 25), (.t 27)]) 19, og 29 (.un .not (.t 28)) 19, oo 30 (.pick (.t 19) (.t 29) (.c zf))] []) (.cond (.t 30) (.seq (.reg [oo 2 (.mv (.c zf))]) .ret) .skip)) (.seq (.seq (.draw [oo 31 (.fieldA 11 (.t 4)), oo 32 (.load 1 false (.t 31)), oo 33 (.bin .neq (.t 32) (ci 0)), oo 34 (.mv (.t 33)), og 35 (.fieldA 2 (.t 1)) 34, og 36 (.load 1 false (.t 35)) 34, og 37 (.mv (.t 3)) 34, og 38 (.slice 12 (.t 36) none (some (.t 37)) none) 34, og 39 (.fieldA 8 (.t 4)) 34, og 40 (.load 1 false (.t 39)) 34, og 41 (.call (cf 64) [(.t 38), (.t 40)]) 34, og 42 (.bin .geq (.t 41) (ci 0)) 34, oo 43 (.pick (.t 34) (.t 42) (.c zf)), oo 44 (.mv (.t 43)), og 45 (.fieldA 2 (.t 1)) 44, og 46 (.load 1 false (.t 45)) 44, og 47 (.mv (.t 3)) 44, og 48 (.slice 12 (.t 46) none (some (.t 47)) none) 44, og 49 (.fieldA 8 (.t 4)) 44, og 50 (.load 1 false (.t 49)) 44, og 51 (.fieldA 9 (.t 4)) 44, og 52 (.load 2 true (.t 51)) 44, og 53 (.call (cf 79) [(.t 48), (.t 50), (.t 52)]) 44, og 54 (.un .not (.t 53)) 44, oo 55 (.pick (.t 44) (.t 54) (.c zf))] []) (.cond (.t 55) (.seq (.reg [oo 2 (.mv (.c zf))]) .ret) .skip)) (.seq (.seq (.reg [oo 56 (.fieldA 11 (.t 4)), oo 57 (.load 1 false (.t 56)), oo 58 (.bin .neq (.t 57) (ci 0)), oo 59 (.mv (.t 58)), og 60 (.fieldA 8 (.t 4)) 59, og 61 (.load 1 false (.t 60)) 59, og 62 (.fieldA 3 (.t 1)) 59, og 63 (.fieldA 0 (.t 62)) 59, og 64 (.load 1 false (.t 63)) 59, og 65 (.bin .eql (.t 61) (.t 64)) 59, oo 66 (.pick (.t 59) (.t 65) (.c zf)), oo 67 (.mv (.t 66)), og 68 (.fieldA 9 (.t 4)) 67, og 69 (.load 2 true (.t 68)) 67, og 70 (.fieldA 3 (.t 1)) 67, og 71 (.fieldA 1 (.t 70)) 67, og 72 (.load 1 false (.t 71)) 67, og 73 (.fieldA 3 (.t 1)) 67, og 74 (.fieldA 3 (.t 73)) 67, og 75 (.load 1 false (.t 74)) 67, og 76 (.bin .sub (.t 72) (.t 75)) 67, og 77 (.fieldA 3 (.t 1)) 67, og 78 (.fieldA 2 (.t 77)) 67, og 79 (.load 1 false (.t 78)) 67, og 80 (.call (cf 17) [(.t 69), (.t 76), (.t 79)]) 67, og 81 (.un .not (.t 80)) 67, oo 82 (.pick (.t 67) (.t 81) (.c zf))]) (.cond (.t 82) (.seq (.reg [oo 2 (.mv (.c zf))]) .ret) .skip)) (.seq (.draw [oo 83 (.mv (.t 3)), oo 84 (.bin .gtr (.t 83) (ci 0)), oo 85 (.mv (.t 84)), og 86 (.fieldA 2 (.t 1)) 85, og 87 (.load 1 false (.t 86)) 85, og 88 (.mv (.t 3)) 85, og 89 (.bin .sub (.t 88) (ci 1)) 85, og 90 (.idxS 12 (.t 87) (.t 89)) 85, og 91 (.fieldA 0 (.t 90)) 85, og 92 (.load 1 false (.t 91)) 85, og 93 (.fieldA 4 (.t 4)) 85, og 94 (.load 1 false (.t 93)) 85, og 95 (.bin .neq (.t 92) (.t 94)) 85, oo 96 (.pick (.t 85) (.t 95) (.c zf)), oo 97 (.mv (.t 96)), og 98 (.fieldA 11 (.t 4)) 97, og 99 (.load 1 false (.t 98)) 97, og 100 (.bin .eql (.t 99) (ci 0)) 97, og 101 (.mv (.t 100)) 97, oh 102 (.fieldA 2 (.t 1)) 101, oh 103 (.load 1 false (.t 102)) 101, oh 104 (.mv (.t 3)) 101, oh 105 (.bin .sub (.t 104) (ci 1)) 101, oh 106 (.idxS 12 (.t 103) (.t 105)) 101, oh 107 (.fieldA 0 (.t 106)) 101, oh 108 (.load 1 false (.t 107)) 101, oh 109 (.fieldA 8 (.t 4)) 101, oh 110 (.load 1 false (.t 109)) 101, oh 111 (.bin .neq (.t 108) (.t 110)) 101, og 112 (.pick (.t 101) (.c (.v (.bool true))) (.t 111)) 97, oo 113 (.pick (.t 97) (.t 112) (.c zf))] []) (.cond (.t 113) (.seq (.reg [oo 2 (.mv (.c zf))]) .ret) .skip))))))) (.reg [oo 114 (.bin .add (.t 11) (ci 1)), oo 11 (.mv (.t 114))]))))))) (.seq (.reg [oo 115 (.fieldA 3 (.t 1)), oo 116 (.fieldA 5 (.t 115)), oo 117 (.load 1 false (.t 116)), oo 118 (.bin .eql (.t 117) (ci 0)), oo 119 (.mv (.t 118)), oh 120 (.fieldA 2 (.t 1)) 119, oh 121 (.load 1 false (.t 120)) 119, oh 122 (.fieldA 3 (.t 1)) 119, oh 123 (.fieldA 5 (.t 122)) 119, oh 124 (.load 1 false (.t 123)) 119, oh 125 (.fieldA 3 (.t 1)) 119, oh 126 (.fieldA 6 (.t 125)) 119, oh 127 (.load 2 true (.t 126)) 119, oh 128 (.call (cf 79) [(.t 121), (.t 124), (.t 127)]) 119, oo 129 (.pick (.t 119) (.c (.v (.bool true))) (.t 128)), oo 2 (.mv (.t 129))]) .ret))))
theorem fn_convoy_Sound : FnOK Try.prog 34 130 [.t 2] ac_convoy_Sound := ⟨_, _, Try.func34, rfl, Try.ntmps34, by kernel_rfl, ⟨fun _ => [], by kernel_rfl⟩, by kernel_rfl⟩
set_option maxHeartbeats 4000000 in
theorem convoy_Sound_ok (p1 : Convoy) (r : Bool) (h : convoy_Sound p1 = some r) : PCall Try.prog 34 [(.agg (eConvoy p1))] (bo r) := by
  refine l_call fn_convoy_Sound (nl rfl) ?_
  unfold convoy_Sound at h
  unfold ac_convoy_Sound
  refine l_sub (s0 := ⟨T [(0, (.d _))], G []⟩) (sbr rfl rfl) ?_
  refine lr (fun u1 hu1 => sn rfl rfl (sv rfl (s_nil (l_seq (lr (fun u2 hu2 => sd rfl (v_loadG rfl G_hit rfl rfl) (bs h fun v1 hv1 h => s_call rfl rfl all2_refl (convoy_Check_ok _  _ hv1) (.inl rfl) (sv rfl (s_nil (cc rfl h (fun c1 h => ?_) (fun c1 h => ?_)))))))))))
  · refine lr (fun u3 hu3 => sv rfl (s_nil (l_ret ?_)))
    obtain rfl := Option.some.inj h
    exact fin_ok (.inr rfl) (resD1 (res_t rfl) rf_d) (.refl _)
  · refine l_skip (l_seq (lr (fun u4 hu4 => sp rfl rfl (sl rfl G_hit rfl (sd rfl (v_len rfl) (sv rfl (s_nil (js h fun z1 hz1 h => l_join (fun s => ∃ (y1 : Unit) (g1 : Unit), z1 = .inl y1 ∧ Sb ⟨T [(1, (.ptr (1, u1) 0))], G [((1, u1), some (.box 38 (dConvoy p1)))]⟩ s) ?_ ?_))))))))
    · refine l_block (l_loop (convoy_Sound_l1 p1) (fun (x1 : Int) (g2 : Unit) => ⟨T [(1, (.ptr (1, u1) 0)), (9, (dl eMate p1.Mates)), (10, (di (p1.Mates.length : Int))), (11, (di x1))], G [((1, u1), some (.box 38 (dConvoy p1)))]⟩) 0 () _ hz1 (sbr rfl rfl) ?_)
      intro x1 g2 z2 hz2 ez2
      unfold convoy_Sound_l1 at hz2
      refine lr (fun u5 hu5 => sv rfl (s_nil (l_seq (cc rfl hz2 (fun c2 hz2 => ?_) (fun c2 hz2 => ?_)))))
      · refine l_skip (l_seq (l_block (lr (fun u6 hu6 => sv rfl (bs hz2 fun v2 hv2 hz2 => sd rfl (v_idx rfl rfl hv2 rfl) (sd rfl (v_loadLG rfl hv2 rfl rfl) (sn rfl rfl (sv rfl (sst rfl G_hit (dMate v2) rfl (s_nil (l_seq (l_seq (l_draw rfl fun u7 hu7 => sp rfl rfl (sl rfl G_hit rfl (sv rfl (sv rfl (gp rfl (gw_t rfl) (fun _ => rfl) (gt rfl (vl rfl (gq rfl) rfl) (gt rfl (fun _ => rfl) (bs hz2 fun v3 hv3 hz2 => gt rfl (fun w4 => (v_sub (gd_pos w4) (fun _ => rfl) bd_beg (bd_x (gd_pos w4)) (cond_t w4 hv3))) (gp rfl (gw_t rfl) (fun _ => rfl) (gt rfl (vl rfl G_hit rfl) (gp rfl (gw_t rfl) (fun _ => rfl) (gt rfl (fun w8 => (v_loadG (gd_pos w8) G_hit rfl rfl)) (bs hz2 fun v4 hv4 hz2 => ?_)))))))))))))))))))))))))
        refine g_call _ (bo v4) (gw_t rfl) (fun w9 => ⟨_, [(dl eMate v3), (di v2.Ahead), (.d (.agg [(i64 v2.Guess_.R), (i64 v2.Guess_.V)]))], _, _, (by simp only [gd_pos w9]; rfl), rfl, all2_refl, convoy_holds_ok _ _ _  _ (cond_t w9 hv4), (.inl rfl)⟩) ?_
        refine g_val _ (.d (bo (!v4))) rfl (gw_t rfl) (fun w10 => (by simp only [gd_pos w10]; rfl)) ?_
        refine sa rfl rfl rfl (s_nil (cc rfl hz2 (fun c3 hz2 => ?_) (fun c3 hz2 => ?_)))
        · refine l_seq (l_sub (s0 := ⟨T [], G []⟩) (sbr rfl rfl) ?_)
          refine l_reg fun u8 hu8 => sv rfl (s_nil (l_ret ?_))
          obtain rfl := Option.some.inj hz2
          obtain rfl := ez2 _ rfl
          refine ⟨nofun, awl_ret ?_⟩
          rw [Sum.elim_inr] at h
          obtain rfl := Option.some.inj h
          exact fin_ok (.inr rfl) (resD1 (res_t rfl) rf_d) (.refl _)
        · refine l_skip (l_seq (l_seq (l_sub (s0 := ⟨T [(1, (.ptr _ _)), (3, (.d _)), (4, (.ptr _ _)), (9, (.d _)), (10, (.d _)), (11, (.d _))], G [((1, u1), some (.box 38 _)), ((4, u6), some (.box 65 _))]⟩) (sbr rfl rfl) ?_)))
          refine l_draw rfl fun u9 hu9 => sp rfl rfl (sl rfl (gq rfl) rfl (sv rfl (sv rfl (gp rfl (gw_t rfl) (fun _ => rfl) (gt rfl (vl rfl G_hit rfl) (gt rfl (fun _ => rfl) (bs hz2 fun v5 hv5 hz2 => gt rfl (fun w14 => (v_sub (gd_pos w14) (fun _ => rfl) bd_beg (bd_x (gd_pos w14)) (cond_t w14 hv5))) (gp rfl (gw_t rfl) (fun _ => rfl) (gt rfl (vl rfl (gq rfl) rfl) (bs hz2 fun v6 hv6 hz2 => ?_))))))))))
          refine g_call _ (i64 v6) (gw_t rfl) (fun w17 => ⟨_, [(dl eMate v5), (di v2.Ward)], _, _, (by simp only [gd_pos w17]; rfl), rfl, all2_refl, convoy_find_ok _ _  _ (cond_t w17 hv6), (.inl rfl)⟩) ?_
          refine gt rfl (vb rfl rfl rfl) (sa rfl rfl rfl (sv rfl (gp rfl (gw_t rfl) (fun _ => rfl) (gt rfl (vl rfl G_hit rfl) (gt rfl (fun _ => rfl) (bs hz2 fun v7 hv7 hz2 => gt rfl (fun w22 => (v_sub (gd_pos w22) (fun _ => rfl) bd_beg (bd_x (gd_pos w22)) (cond_t w22 hv7))) (gp rfl (gw_t rfl) (fun _ => rfl) (gt rfl (vl rfl (gq rfl) rfl) (gp rfl (gw_t rfl) (fun _ => rfl) (gt rfl (fun w26 => (v_loadG (gd_pos w26) (gq rfl) rfl rfl)) (bs hz2 fun v8 hv8 hz2 => ?_)))))))))))
          refine g_call _ (bo v8) (gw_t rfl) (fun w27 => ⟨_, [(dl eMate v7), (di v2.Ward), (.d (.agg [(i64 v2.WardGuess.R), (i64 v2.WardGuess.V)]))], _, _, (by simp only [gd_pos w27]; rfl), rfl, all2_refl, convoy_holds_ok _ _ _  _ (cond_t w27 hv8), (.inl rfl)⟩) ?_
          refine g_val _ (.d (bo (!v8))) rfl (gw_t rfl) (fun w28 => (by simp only [gd_pos w28]; rfl)) ?_
          refine sa rfl rfl rfl (s_nil (cc rfl hz2 (fun c4 hz2 => ?_) (fun c4 hz2 => ?_)))
          · refine l_seq (l_sub (s0 := ⟨T [], G []⟩) (sbr rfl rfl) ?_)
            refine l_reg fun u10 hu10 => sv rfl (s_nil (l_ret ?_))
            obtain rfl := Option.some.inj hz2
            obtain rfl := ez2 _ rfl
            refine ⟨nofun, awl_ret ?_⟩
            rw [Sum.elim_inr] at h
            obtain rfl := Option.some.inj h
            exact fin_ok (.inr rfl) (resD1 (res_t rfl) rf_d) (.refl _)
          · refine l_skip (l_seq (l_seq (l_sub (s0 := ⟨T [(1, (.ptr _ _)), (3, (.d _)), (4, (.ptr _ _)), (9, (.d _)), (10, (.d _)), (11, (.d _))], G [((1, u1), some (.box 38 _)), ((4, u6), some (.box 65 _))]⟩) (sbr rfl rfl) ?_)))
            refine l_reg fun u11 hu11 => sp rfl rfl (sl rfl (gq rfl) rfl (sv rfl (sv rfl (gp rfl (gw_t rfl) (fun _ => rfl) (gt rfl (vl rfl (gq rfl) rfl) (gp rfl (gw_t rfl) (fun _ => rfl) ?_))))))
            refine g_val _ (.ptr _ _) rfl (gw_t rfl) (fun w32 => (by simp only [gd_pos w32]; rfl)) ?_
            refine gt rfl (vl rfl G_hit rfl) (gt rfl (fun w34 => (v_bin (gd_pos w34) (gd_pos w34) rfl)) (sa rfl rfl rfl (sv rfl (gp rfl (gw_t rfl) (fun _ => rfl) (gt rfl (fun w36 => (v_loadG (gd_pos w36) (gq rfl) rfl rfl)) (gp rfl (gw_t rfl) (fun _ => rfl) ?_))))))
            refine g_val _ (.ptr _ _) rfl (gw_t rfl) (fun w38 => (by simp only [gd_pos w38]; rfl)) ?_
            refine gt rfl (vl rfl G_hit rfl) (gp rfl (gw_t rfl) (fun _ => rfl) ?_)
            refine g_val _ (.ptr _ _) rfl (gw_t rfl) (fun w41 => (by simp only [gd_pos w41]; rfl)) ?_
            refine gt rfl (vl rfl G_hit rfl) (gt rfl (fun w43 => (v_bin (gd_pos w43) (gd_pos w43) rfl)) (gp rfl (gw_t rfl) (fun _ => rfl) ?_))
            refine g_val _ (.ptr _ _) rfl (gw_t rfl) (fun w45 => (by simp only [gd_pos w45]; rfl)) ?_
            refine gt rfl (vl rfl G_hit rfl) (bs hz2 fun v9 hv9 hz2 => ?_)
            refine g_call _ (bo v9) (gw_t rfl) (fun w47 => ⟨_, [(.d (.agg [(i64 v2.WardGuess.R), (i64 v2.WardGuess.V)])), (di (w64 (p1.Guest_.S - p1.Guest_.Len))), (di p1.Guest_.V)], _, _, (by simp only [gd_pos w47]; rfl), rfl, all2_refl, convoy_Below_ok _ _ _  _ (cond_t w47 hv9), (.inl rfl)⟩) ?_
            refine g_val _ (.d (bo (!v9))) rfl (gw_t rfl) (fun w48 => (by simp only [gd_pos w48]; rfl)) ?_
            refine sa rfl rfl rfl (s_nil (cc rfl hz2 (fun c5 hz2 => ?_) (fun c5 hz2 => ?_)))
            · refine l_seq (l_sub (s0 := ⟨T [], G []⟩) (sbr rfl rfl) ?_)
              refine l_reg fun u12 hu12 => sv rfl (s_nil (l_ret ?_))
              obtain rfl := Option.some.inj hz2
              obtain rfl := ez2 _ rfl
              refine ⟨nofun, awl_ret ?_⟩
              rw [Sum.elim_inr] at h
              obtain rfl := Option.some.inj h
              exact fin_ok (.inr rfl) (resD1 (res_t rfl) rf_d) (.refl _)
            · refine l_skip (l_seq (l_sub (s0 := ⟨T [(1, (.ptr _ _)), (3, (.d _)), (4, (.ptr _ _)), (9, (.d _)), (10, (.d _)), (11, (.d _))], G [((1, u1), some (.box 38 _)), ((4, u6), some (.box 65 _))]⟩) (sbr rfl rfl) ?_))
              refine l_draw rfl fun u13 hu13 => sv rfl (sv rfl (sv rfl (gp rfl (gw_t rfl) (fun _ => rfl) (gt rfl (vl rfl G_hit rfl) (gt rfl (fun _ => rfl) (gt rfl (vb rfl rfl rfl) (bs hz2 fun v10 hv10 hz2 => gt rfl (fun w53 => (v_idx (gd_pos w53) (gd_pos w53) (cond_t w53 hv10) rfl)) ?_)))))))
              refine gt rfl (fun w54 => (by simp only [gd_pos w54]; rfl)) ?_
              refine gt rfl (fun w55 => (v_loadL (gd_pos w55) (cond_t w55 hv10) rfl)) (gp rfl (gw_t rfl) (fun _ => rfl) (gt rfl (vl rfl (gq rfl) rfl) (gt rfl (fun w58 => (v_bin (gd_pos w58) (gd_pos w58) rfl)) (sa rfl rfl rfl (sv rfl (gp rfl (gw_t rfl) (fun _ => rfl) (gt rfl (vl rfl (gq rfl) rfl) (gt rfl (vb rfl rfl rfl) (gt rfl (fun w62 => (v_mv (gd_pos w62))) (g_val _ (.ptr _ _) rfl (gw_gf rfl) (fun _ => rfl) (gv rfl (gw_gf rfl) (vl rfl G_hit rfl) (gv rfl (gw_gf rfl) (fun _ => rfl) (gv rfl (gw_gf rfl) (vb rfl rfl rfl) (bs hz2 fun v11 hv11 hz2 => gv rfl (gw_gf rfl) (fun w67 => (v_idx (gd_pos w67) (gd_pos w67) (cond_t w67 hv11) rfl)) ?_))))))))))))))
              refine gv rfl (gw_gf rfl) (fun w68 => (by simp only [gd_pos w68]; rfl)) ?_
              refine gv rfl (gw_gf rfl) (fun w69 => (v_loadL (gd_pos w69) (cond_t w69 hv11) rfl)) (g_val _ (.ptr _ _) rfl (gw_gf rfl) (fun _ => rfl) (gv rfl (gw_gf rfl) (vl rfl (gq rfl) rfl) (gv rfl (gw_gf rfl) (fun w72 => (v_bin (gd_pos w72) (gd_pos w72) rfl)) (gt rfl (fun w73 => (v_or (gd_pos w73) rfl (fun hc => gd_pos (and_i w73 (not_t hc))))) (sa rfl rfl rfl (s_nil (cc rfl hz2 (fun c6 hz2 => ?_) (fun c6 hz2 => ?_))))))))
              · refine l_seq (l_sub (s0 := ⟨T [], G []⟩) (sbr rfl rfl) ?_)
                refine l_reg fun u14 hu14 => sv rfl (s_nil (l_ret ?_))
                obtain rfl := Option.some.inj hz2
                obtain rfl := ez2 _ rfl
                refine ⟨nofun, awl_ret ?_⟩
                rw [Sum.elim_inr] at h
                obtain rfl := Option.some.inj h
                exact fin_ok (.inr rfl) (resD1 (res_t rfl) rf_d) (.refl _)
              · refine l_skip (l_end (l_sub (s0 := ⟨T [(1, (.ptr _ _)), (9, (.d _)), (10, (.d _)), (11, (.d _))], G [((1, u1), some (.box 38 _))]⟩) (sbr rfl rfl) ?_))
                refine l_reg fun u15 hu15 => sv rfl (sv rfl (s_nil (l_nil ?_)))
                obtain rfl := Option.some.inj hz2
                exact ⟨rfl, (), (sbr rfl rfl)⟩
      · refine l_exitN rfl ?_
        obtain rfl := Option.some.inj hz2
        obtain rfl := ez2 _ rfl
        refine ⟨nofun, awl_pop rfl (l_j ?_)⟩
        exact ⟨_, (), rfl, (sbr rfl rfl)⟩
    · rintro _ ⟨y1, g1, rfl, q1⟩
      rw [Sum.elim_inl] at h
      refine l_sub q1 (lr (fun u16 hu16 => sp rfl rfl (sp rfl rfl (sl rfl G_hit rfl (sv rfl (sv rfl (gp rfl (gw_f rfl) (fun _ => rfl) (gf rfl (vl rfl G_hit rfl) (gp rfl (gw_f rfl) (fun _ => rfl) ?_)))))))))
      refine g_val _ (.ptr _ _) rfl (gw_f rfl) (fun w77 => (by simp only [gd_pos w77]; rfl)) ?_
      refine gf rfl (vl rfl G_hit rfl) (gp rfl (gw_f rfl) (fun _ => rfl) ?_)
      refine g_val _ (.ptr _ _) rfl (gw_f rfl) (fun w80 => (by simp only [gd_pos w80]; rfl)) ?_
      refine gf rfl (fun w81 => (v_loadG (gd_pos w81) G_hit rfl rfl)) (bs h fun v12 hv12 h => ?_)
      refine g_call _ (bo v12) (gw_f rfl) (fun w82 => ⟨_, [(dl eMate p1.Mates), (di p1.Guest_.Ahead), (.d (.agg [(i64 p1.Guest_.Guess_.R), (i64 p1.Guest_.Guess_.V)]))], _, _, (by simp only [gd_pos w82]; rfl), rfl, all2_refl, convoy_holds_ok _ _ _  _ (cond_t w82 hv12), (.inl rfl)⟩) ?_
      refine sd rfl (v_or rfl rfl (fun hc => gd_pos (not_t hc))) (sv rfl (s_nil (l_ret ?_)))
      obtain rfl := Option.some.inj h
      exact fin_ok (.inr rfl) (resD1 (res_t rfl) rf_d) (.refl _)

noncomputable def convoy_Gaps_l1 (p1 : Convoy) (x1 : ((List Int) × Int)) : Option (Stp ((List Int) × Int) (List Int)) :=
  cond (decide (x1.2 < (p1.Mates.length : Int))) ((geti p1.Mates (w64 (x1.2 - 1))).bind fun v2 => (convoy_rear v2).bind fun v3 => (geti p1.Mates x1.2).bind fun v4 => (appc x1.1 [(w64 (v3 - v4.S))]).bind fun v5 => some (.go (v5, (w64 (x1.2 + 1))))) (some (.out x1.1))
noncomputable def convoy_Gaps (p1 : Convoy) : Option (List Int) :=
  (convoy_Check p1).bind fun v1 => cond (v1 != 0) (some []) ((loop (convoy_Gaps_l1 p1) ([], 1)).bind fun y1 => some y1)

/-- kerbstone/convoy.Gaps -/
def ac_convoy_Gaps : AC := (.seq (.reg [oo 1 (.box 38 true (.t 0)), oo 2 (.mv (.c .nilS))]) (.seq (.seq (.reg [oo 5 (.load 13 true (.t 1)), oo 6 (.call (cf 32) [(.t 5)]), oo 7 (.bin .neq (.t 6) (ci 0))]) (.cond (.t 7) (.seq (.reg [oo 2 (.mv (.c .nilS))]) .ret) .skip)) (.seq (.reg [oo 3 (.mv (.c .nilS))]) (.seq (.seq (.reg [oo 4 (.mv (ci 1))]) (.block 0 (.loop (.seq (.seq (.reg [oo 8 (.mv (.t 4)), oo 9 (.fieldA 2 (.t 1)), oo 10 (.load 1 false (.t 9)), oo 11 (.len (.t 10)), oo 12 (.bin .lss (.t 8) (.t 11))]) (.cond (.t 12) .skip (.exit 0))) (.seq (.block 1 (.draw [oo 15 (.mv (.t 3)), oo 16 (.fieldA 2 (.t 1)), oo 17 (.load 1 false (.t 16)), oo 18 (.mv (.t 4)), oo 19 (.bin .sub (.t 18) (ci 1)), oo 20 (.idxS 12 (.t 17) (.t 19)), oo 21 (.load 12 true (.t 20)), oo 22 (.call (cf 67) [(.t 21)]), oo 23 (.fieldA 2 (.t 1)), oo 24 (.load 1 false (.t 23)), oo 25 (.mv (.t 4)), oo 26 (.idxS 12 (.t 24) (.t 25)), oo 27 (.fieldA 1 (.t 26)), oo 28 (.load 1 false (.t 27)), oo 29 (.bin .sub (.t 22) (.t 28)), oo 30 (.dslice 2 1 1 [z0] [(0, 1, (.t 29))]), oo 31 (.append 39 2 1 (.t 15) (.t 30)), oo 3 (.mv (.t 31))] [])) (.reg [oo 13 (.mv (.t 4)), oo 14 (.bin .add (.t 13) (ci 1)), oo 4 (.mv (.t 14))])))))) (.seq (.reg [oo 32 (.mv (.t 3)), oo 2 (.mv (.t 32))]) .ret)))))
theorem fn_convoy_Gaps : FnOK Try.prog 37 33 [.t 2] ac_convoy_Gaps := ⟨_, _, Try.func37, rfl, Try.ntmps37, by kernel_rfl, ⟨fun r => if r == 7 then [1015] else [], by kernel_rfl⟩, by kernel_rfl⟩
set_option maxHeartbeats 4000000 in
theorem convoy_Gaps_ok (p1 : Convoy) (r : (List Int)) (h : convoy_Gaps p1 = some r) : PCall Try.prog 37 [(.agg (eConvoy p1))] (.list (List.map eInt_i64 r)) := by
  refine l_call fn_convoy_Gaps (nl rfl) ?_
  unfold convoy_Gaps at h
  unfold ac_convoy_Gaps
  refine l_sub (s0 := ⟨T [(0, (.d _))], G []⟩) (sbr rfl rfl) ?_
  refine lr (fun u1 hu1 => sn rfl rfl (sv rfl (s_nil (l_seq (lr (fun u2 hu2 => sd rfl (v_loadG rfl G_hit rfl rfl) (bs h fun v1 hv1 h => s_call rfl rfl all2_refl (convoy_Check_ok _  _ hv1) (.inl rfl) (sv rfl (s_nil (cc rfl h (fun c1 h => ?_) (fun c1 h => ?_)))))))))))
  · refine lr (fun u3 hu3 => sv rfl (s_nil (l_ret ?_)))
    obtain rfl := Option.some.inj h
    exact fin_ok (.inr rfl) (resD1 (res_t rfl) rf_d) DLe.nil
  · refine l_skip (lr (fun u4 hu4 => sv rfl (s_nil (l_seq (lr (fun u5 hu5 => sv rfl (s_nil (bs h fun y1 hy1 h => l_join (fun s => ∃ g1 : Nat, Sb ⟨T [(3, (oS y1 (31, g1)))], G [((31, g1), oB 2 1 eInt_i64 y1)]⟩ s) ?_ ?_))))))))
    · refine l_block (l_loop (convoy_Gaps_l1 p1) (fun (x1 : ((List Int) × Int)) (g2 : Nat) => ⟨T [(1, (.ptr (1, u1) 0)), (3, (oS x1.1 (31, g2))), (4, (di x1.2))], G [((1, u1), some (.box 38 (dConvoy p1))), ((31, g2), oB 2 1 eInt_i64 x1.1)]⟩) ([], 1) 0 _ hy1 (sb_of ⟨.of rfl, .of rfl, .of rfl, trivial⟩ (sbG_some G_hit (.of rfl) (sbG_nil trivial))) ?_)
      intro x1 g2 z1 hz1 ez1
      unfold convoy_Gaps_l1 at hz1
      refine l_seq (lr (fun u6 hu6 => sv rfl (sp rfl rfl (sl rfl G_hit rfl (sd rfl (v_len rfl) (sv rfl (s_nil (cc rfl hz1 (fun c2 hz1 => ?_) (fun c2 hz1 => ?_)))))))))
      · refine l_skip (l_seq (l_block (l_draw rfl fun u7 hu7 => s_val (oS x1.1 (31, g2)) rfl rfl (sp rfl rfl (sl rfl G_hit rfl (sv rfl (sv rfl (bs hz1 fun v2 hv2 hz1 => sd rfl (v_idx rfl rfl hv2 rfl) (sd rfl (v_loadLG rfl hv2 rfl rfl) (bs hz1 fun v3 hv3 hz1 => s_call rfl rfl all2_refl (convoy_rear_ok _  _ hv3) (.inl rfl) (sp rfl rfl (sl rfl G_hit rfl (sv rfl (bs hz1 fun v4 hv4 hz1 => sd rfl (v_idx rfl rfl hv4 rfl) (sv rfl (sd rfl (v_loadL rfl hv4 rfl) (sv rfl (s_val (dl eInt_i64 [(w64 (v3 - v4.S))]) rfl rfl (bs hz1 fun v5 hv5 hz1 => s_appendO eInt_i64 (31, g2) x1.1 (w64 (v3 - v4.S)) [] _ (elems_list (fun _ => rfl)) rfl (gq rfl) hv5 (ss rfl (s_nil (l_end (l_sub (s0 := ⟨T [(1, (.ptr _ _)), (3, (.sl _)), (4, (.d _))], G [((1, u1), some (.box 38 _)), ((31, u7), some _)]⟩) (sbr rfl rfl) ?_)))))))))))))))))))))))
        refine l_reg fun u8 hu8 => sv rfl (sv rfl (sv rfl (s_nil (l_nil ?_))))
        obtain rfl := Option.some.inj hz1
        exact ⟨rfl, u7, (sb_of ⟨.of rfl, (.of (oS_ne (appc_ne hv5)).symm), .of rfl, trivial⟩ (sbG_some G_hit (.of rfl) (sbG_own (gq rfl) trivial)))⟩
      · refine l_exitN rfl ?_
        obtain rfl := Option.some.inj hz1
        obtain rfl := ez1 _ rfl
        refine ⟨nofun, awl_pop rfl (l_j ?_)⟩
        exact ⟨g2, (sb_of ⟨.of rfl, trivial⟩ (sbG_oB (gq rfl) trivial))⟩
    · rintro _ ⟨g1, q1⟩
      refine l_sub q1 (lr (fun u9 hu9 => s_val (oS y1 (31, g1)) rfl rfl (s_val (oS y1 (31, g1)) rfl rfl (s_nil (l_ret ?_)))))
      obtain rfl := Option.some.inj h
      exact fin_ok (.inr rfl) (resD1 (res_t rfl) (rf_oS G_hit)) oD_le

noncomputable def kit_SameLongs_l1 (p1 : (List Int)) (p2 : (List Int)) (x1 : Int) : Option (Stp Int (Sum Unit Bool)) :=
  cond ((decide (x1 < (p1.length : Int))) && (decide (x1 < (p2.length : Int)))) ((geti p1 x1).bind fun v1 => (geti p2 x1).bind fun v2 => cond (v1 != v2) (some (.out (.inr false))) (some (.go (w64 (x1 + 1))))) (some (.out (.inl ())))
noncomputable def kit_SameLongs (p1 : (List Int)) (p2 : (List Int)) : Option Bool :=
  thenS (loop (kit_SameLongs_l1 p1 p2) 0) (fun _ => some ((p1.length : Int) == (p2.length : Int))) (fun r => some r)

/-- kerbstone/kerbstonekit.SameLongs -/
def ac_kit_SameLongs : AC := (.seq (.reg [oo 4 (.mv (.c zf))]) (.seq (.seq (.reg [oo 5 (.mv (ci 0))]) (.block 0 (.loop (.seq (.seq (.reg [oo 6 (.mv (.t 5)), oo 7 (.mv (.t 0)), oo 8 (.len (.t 7)), oo 9 (.bin .lss (.t 6) (.t 8)), oo 10 (.mv (.t 9)), og 11 (.mv (.t 5)) 10, og 12 (.mv (.t 1)) 10, og 13 (.len (.t 12)) 10, og 14 (.bin .lss (.t 11) (.t 13)) 10, oo 15 (.pick (.t 10) (.t 14) (.c zf))]) (.cond (.t 15) .skip (.exit 0))) (.seq (.block 1 (.seq (.draw [oo 18 (.mv (.t 0)), oo 19 (.mv (.t 5)), oo 20 (.idxS 1 (.t 18) (.t 19)), oo 21 (.load 1 false (.t 20)), oo 22 (.mv (.t 1)), oo 23 (.mv (.t 5)), oo 24 (.idxS 1 (.t 22) (.t 23)), oo 25 (.load 1 false (.t 24)), oo 26 (.bin .neq (.t 21) (.t 25))] []) (.cond (.t 26) (.seq (.reg [oo 4 (.mv (.c zf))]) .ret) .skip))) (.reg [oo 16 (.mv (.t 5)), oo 17 (.bin .add (.t 16) (ci 1)), oo 5 (.mv (.t 17))])))))) (.seq (.reg [oo 27 (.mv (.t 0)), oo 28 (.len (.t 27)), oo 29 (.mv (.t 1)), oo 30 (.len (.t 29)), oo 31 (.bin .eql (.t 28) (.t 30)), oo 4 (.mv (.t 31))]) .ret)))
theorem fn_kit_SameLongs : FnOK Try.prog 36 32 [.t 4] ac_kit_SameLongs := ⟨_, _, Try.func36, rfl, Try.ntmps36, by kernel_rfl, ⟨fun _ => [], by kernel_rfl⟩, by kernel_rfl⟩
set_option maxHeartbeats 4000000 in
theorem kit_SameLongs_ok (p1 : (List Int)) (p2 : (List Int)) (r : Bool) (h : kit_SameLongs p1 p2 = some r) : PCall Try.prog 36 [(.list (List.map eInt_i64 p1)), (.list (List.map eInt_i64 p2))] (bo r) := by
  refine l_call fn_kit_SameLongs (nl rfl) ?_
  unfold kit_SameLongs at h
  unfold ac_kit_SameLongs
  refine l_sub (s0 := ⟨T [(0, (.d _)), (1, (.d _))], G []⟩) (sbr rfl rfl) ?_
  refine lr (fun u1 hu1 => sv rfl (s_nil (l_seq (lr (fun u2 hu2 => sv rfl (s_nil (js h fun z1 hz1 h => l_join (fun s => ∃ (y1 : Unit) (g1 : Unit), z1 = .inl y1 ∧ Sb ⟨T [(0, (dl eInt_i64 p1)), (1, (dl eInt_i64 p2))], G []⟩ s) ?_ ?_)))))))
  · refine l_block (l_loop (kit_SameLongs_l1 p1 p2) (fun (x1 : Int) (g2 : Unit) => ⟨T [(0, (dl eInt_i64 p1)), (1, (dl eInt_i64 p2)), (5, (di x1))], G []⟩) 0 () _ hz1 (sbr rfl rfl) ?_)
    intro x1 g2 z2 hz2 ez2
    unfold kit_SameLongs_l1 at hz2
    refine l_seq (lr (fun u3 hu3 => sv rfl (sv rfl (sd rfl (v_len rfl) (sv rfl (sv rfl (gt rfl (fun _ => rfl) (gt rfl (fun _ => rfl) (gt rfl (fun w3 => (v_len (gd_pos w3))) (gt rfl (fun w4 => (v_bin (gd_pos w4) (gd_pos w4) rfl)) (sa rfl rfl rfl (s_nil (cc rfl hz2 (fun c1 hz2 => ?_) (fun c1 hz2 => ?_))))))))))))))
    · refine l_skip (l_seq (l_block (l_seq (l_draw rfl fun u4 hu4 => sv rfl (sv rfl (bs hz2 fun v1 hv1 hz2 => sd rfl (v_idx rfl rfl hv1 rfl) (sd rfl (v_loadL rfl hv1 rfl) (sv rfl (sv rfl (bs hz2 fun v2 hv2 hz2 => sd rfl (v_idx rfl rfl hv2 rfl) (sd rfl (v_loadL rfl hv2 rfl) (sv rfl (s_nil (cc rfl hz2 (fun c2 hz2 => ?_) (fun c2 hz2 => ?_)))))))))))))))
      · refine lr (fun u5 hu5 => sv rfl (s_nil (l_ret ?_)))
        obtain rfl := Option.some.inj hz2
        obtain rfl := ez2 _ rfl
        refine ⟨nofun, awl_ret ?_⟩
        rw [Sum.elim_inr] at h
        obtain rfl := Option.some.inj h
        exact fin_ok (.inr rfl) (resD1 (res_t rfl) rf_d) (.refl _)
      · refine l_skip (l_end (l_reg fun u6 hu6 => sv rfl (sv rfl (sv rfl (s_nil (l_nil ?_))))))
        obtain rfl := Option.some.inj hz2
        exact ⟨rfl, (), (sbr rfl rfl)⟩
    · refine l_exitN rfl ?_
      obtain rfl := Option.some.inj hz2
      obtain rfl := ez2 _ rfl
      refine ⟨nofun, awl_pop rfl (l_j ?_)⟩
      exact ⟨_, (), rfl, (sbr rfl rfl)⟩
  · rintro _ ⟨y1, g1, rfl, q1⟩
    rw [Sum.elim_inl] at h
    refine l_sub q1 (lr (fun u7 hu7 => sv rfl (sd rfl (v_len rfl) (sv rfl (sd rfl (v_len rfl) (sv rfl (sv rfl (s_nil (l_ret ?_)))))))))
    obtain rfl := Option.some.inj h
    exact fin_ok (.inr rfl) (resD1 (res_t rfl) rf_d) (.refl _)

noncomputable def law09_awake : Option Bool :=
  (law09_shown).bind fun v1 => ((cond ((v1.Mates.length : Int) == 2) (convoy_Age (Guess.mk 0 200) 2) (some default))).bind fun v2 => ((cond (((v1.Mates.length : Int) == 2) && (v2.R == 130 && (v2.V == 20 && true))) (convoy_Sound v1) (some default))).bind fun v3 => ((cond ((((v1.Mates.length : Int) == 2) && (v2.R == 130 && (v2.V == 20 && true))) && v3) (convoy_Gaps v1) (some default))).bind fun v4 => ((cond ((((v1.Mates.length : Int) == 2) && (v2.R == 130 && (v2.V == 20 && true))) && v3) (kit_SameLongs v4 [6000]) (some default))).bind fun v5 => ((cond (((((v1.Mates.length : Int) == 2) && (v2.R == 130 && (v2.V == 20 && true))) && v3) && v5) (convoy_Safe 0 191 1000 (Guess.mk 1000 100)) (some default))).bind fun v6 => some ((((((v1.Mates.length : Int) == 2) && (v2.R == 130 && (v2.V == 20 && true))) && v3) && v5) && (!v6))

/-- kerbstone/kerbstonelaw09.awake -/
def ac_law09_awake : AC := (.seq (.reg [oo 0 (.mv (.c zf))]) (.seq (.reg [oo 2 (.call (cf 57) []), oo 1 (.alloc 38 [z0, z0, .nilS, z0, z0, z0, z0, z0, z0, z0, z0, z0, z0]), oe (.store 13 (.t 1) (.t 2))]) (.seq (.reg [oo 3 (.fieldA 2 (.t 1)), oo 4 (.load 1 false (.t 3)), oo 5 (.len (.t 4)), oo 6 (.bin .eql (.t 5) (ci 2)), oo 7 (.mv (.t 6)), og 8 (.build [z0, z0] [(1, 1, (ci 200))]) 7, og 9 (.call (cf 15) [(.t 8), (ci 2)]) 7, og 10 (.build [z0, z0] [(0, 1, (ci 130)), (1, 1, (ci 20))]) 7, og 11 (.eqA false [false, false] (.t 9) (.t 10)) 7, oo 12 (.pick (.t 7) (.t 11) (.c zf)), oo 13 (.mv (.t 12)), og 14 (.load 13 true (.t 1)) 13, og 15 (.call (cf 34) [(.t 14)]) 13, oo 16 (.pick (.t 13) (.t 15) (.c zf)), oo 17 (.mv (.t 16)), og 18 (.load 13 true (.t 1)) 17, og 19 (.call (cf 37) [(.t 18)]) 17, og 20 (.dslice 2 1 1 [z0] [(0, 1, (ci 6000))]) 17, og 21 (.call (cf 36) [(.t 19), (.t 20)]) 17, oo 22 (.pick (.t 17) (.t 21) (.c zf)), oo 23 (.mv (.t 22)), og 24 (.build [z0, z0] [(0, 1, (ci 1000)), (1, 1, (ci 100))]) 23, og 25 (.call (cf 21) [(ci 0), (ci 191), (ci 1000), (.t 24)]) 23, og 26 (.un .not (.t 25)) 23, oo 27 (.pick (.t 23) (.t 26) (.c zf)), oo 0 (.mv (.t 27))]) .ret)))
theorem fn_law09_awake : FnOK Try.prog 23 28 [.t 0] ac_law09_awake := ⟨_, _, Try.func23, rfl, Try.ntmps23, by kernel_rfl, ⟨fun r => if r == 2 then [1017] else [], by kernel_rfl⟩, by kernel_rfl⟩
theorem law09_awake_ok (r : Bool) (h : law09_awake = some r) : PCall Try.prog 23 [] (bo r) := by
  refine l_call fn_law09_awake (nl rfl) ?_
  unfold law09_awake at h
  unfold ac_law09_awake
  refine l_sub (s0 := ⟨T [], G []⟩) (sbr rfl rfl) ?_
  refine lr (fun u1 hu1 => sv rfl (s_nil (lr (fun u2 hu2 => bs h fun v1 hv1 h => s_call rfl rfl all2_refl (law09_shown_ok  _ hv1) (.inl rfl) (sn rfl rfl (sst rfl G_hit (dConvoy v1) rfl (s_nil (lr (fun u3 hu3 => sp rfl rfl (sl rfl G_hit rfl (sd rfl (v_len rfl) (sv rfl (sv rfl (gt rfl (fun _ => rfl) (bs h fun v2 hv2 h => ?_)))))))))))))))
  refine g_call _ (.agg [(i64 v2.R), (i64 v2.V)]) (gw_t rfl) (fun w2 => ⟨_, [(.d (.agg [(i64 0), (i64 200)])), (di 2)], _, _, (by simp only [gd_pos w2]; rfl), rfl, all2_refl, convoy_Age_ok _ _  _ (cond_t w2 hv2), (.inl rfl)⟩) ?_
  refine gt rfl (fun _ => rfl) ?_
  refine g_val _ (.d (bo (v2.R == 130 && (v2.V == 20 && true)))) rfl (gw_t rfl) (fun w4 => (by simp only [gd_pos w4]; rfl)) ?_
  refine sa rfl rfl rfl (sv rfl (gt rfl (fun w5 => (v_loadG rfl G_hit rfl rfl)) (bs h fun v3 hv3 h => ?_)))
  refine g_call _ (bo v3) (gw_t rfl) (fun w6 => ⟨_, [(.d (.agg (eConvoy v1)))], _, _, (by simp only [gd_pos w6]; rfl), rfl, all2_refl, convoy_Sound_ok _  _ (cond_t w6 hv3), (.inl rfl)⟩) ?_
  refine sa rfl rfl rfl (sv rfl (gt rfl (fun w7 => (v_loadG rfl G_hit rfl rfl)) (bs h fun v4 hv4 h => ?_)))
  refine g_call _ (.list (List.map eInt_i64 v4)) (gw_t rfl) (fun w8 => ⟨_, [(.d (.agg (eConvoy v1)))], _, _, (by simp only [gd_pos w8]; rfl), rfl, all2_refl, convoy_Gaps_ok _  _ (cond_t w8 hv4), (.inl rfl)⟩) ?_
  refine g_val _ (dl eInt_i64 [6000]) rfl (gw_t rfl) (fun _ => rfl) (bs h fun v5 hv5 h => ?_)
  refine g_call _ (bo v5) (gw_t rfl) (fun w10 => ⟨_, [(dl eInt_i64 v4), (dl eInt_i64 [6000])], _, _, (by simp only [gd_pos w10]; rfl), rfl, all2_refl, kit_SameLongs_ok _ _  _ (cond_t w10 hv5), (.inl rfl)⟩) ?_
  refine sa rfl rfl rfl (sv rfl (gt rfl (fun _ => rfl) (bs h fun v6 hv6 h => ?_)))
  refine g_call _ (bo v6) (gw_t rfl) (fun w12 => ⟨_, [(di 0), (di 191), (di 1000), (.d (.agg [(i64 1000), (i64 100)]))], _, _, (by simp only [gd_pos w12]; rfl), rfl, all2_refl, convoy_Safe_ok _ _ _ _  _ (cond_t w12 hv6), (.inl rfl)⟩) ?_
  refine g_val _ (.d (bo (!v6))) rfl (gw_t rfl) (fun w13 => (by simp only [gd_pos w13]; rfl)) ?_
  refine sa rfl rfl rfl (sv rfl (s_nil (l_ret ?_)))
  obtain rfl := Option.some.inj h
  exact fin_ok (.inr rfl) (resD1 (res_t rfl) rf_d) (.refl _)

noncomputable def law09_ConvoyMore_l2 (y1 : (KitRing × Convoy)) (v7 : (Convoy × Int)) (v9 : (Convoy × Int)) (v11 : (Convoy × Int)) (x2 : Int) : Option (Stp Int (Sum Unit Bool)) :=
  cond (decide (x2 < (y1.2.Mates.length : Int))) ((geti v9.1.Mates x2).bind fun v12 => (geti v7.1.Mates x2).bind fun v13 => ((cond (!(decide (v12.V < v13.V))) (geti v11.1.Mates x2) (some default))).bind fun v14 => ((cond (!(decide (v12.V < v13.V))) (geti v9.1.Mates x2) (some default))).bind fun v15 => cond ((decide (v12.V < v13.V)) || (decide (v14.V < v15.V))) (some (.out (.inr false))) (some (.go (w64 (x2 + 1))))) (some (.out (.inl ())))
noncomputable def law09_ConvoyMore_l1 (x1 : (Int × KitRing × Convoy)) : Option (Stp (Int × KitRing × Convoy) (Sum (KitRing × Convoy) Bool)) :=
  cond (decide (x1.1 > 0)) ((law09_wanted_o x1.2.1 (x1.2.2.Mates.length : Int)).bind fun v4 => (convoy_Step x1.2.2 v4.1 [] []).bind fun v5 => cond (v5.2 != 0) (some (.out (.inr false))) (some (.go ((w64 (x1.1 - 1)), v4.2, v5.1)))) (some (.out (.inl (x1.2.1, x1.2.2))))
noncomputable def law09_ConvoyMore (p1 : (List Int)) (p2 : Int) : Option Bool :=
  (kit_NewRing_m p1).bind fun v1 => (kit_Convoy_o v1 false).bind fun v2 => (kit_Mod p2 12).bind fun v3 => thenS (loop (law09_ConvoyMore_l1) (v3, v2.2, v2.1)) (fun y1 => (law09_wanted_o y1.1 (y1.2.Mates.length : Int)).bind fun v6 => (convoy_Step y1.2 v6.1 [] []).bind fun v7 => (law09_looks_o v6.2 y1.2 true).bind fun v8 => (convoy_Step y1.2 v6.1 [] v8.1).bind fun v9 => (convoy_Notes y1.2).bind fun v10 => (convoy_Step y1.2 v6.1 v10 []).bind fun v11 => cond ((((((v7.2 != 0) || (v9.2 != 0)) || (v11.2 != 0)) || ((v7.1.Mates.length : Int) != (y1.2.Mates.length : Int))) || ((v9.1.Mates.length : Int) != (y1.2.Mates.length : Int))) || ((v11.1.Mates.length : Int) != (y1.2.Mates.length : Int))) (some false) (thenS (loop (law09_ConvoyMore_l2 y1 v7 v9 v11) 0) (fun _ => (law09_awake).bind fun v16 => some v16) (fun r => some r))) (fun r => some r)

/-- kerbstone/kerbstonelaw09.ConvoyMore -/
def ac_law09_ConvoyMore : AC := (.seq (.reg [oo 4 (.mv (.c zf))]) (.seq (.reg [oo 18 (.mv (.t 0)), oo 19 (.ocall 10010010 (cf 30) [(.t 18)]), oo 5 (.mv (.t 19))]) (.seq (.reg [oo 20 (.mv (.t 5)), oo 21 (.ocall 10020010 (cf 29) [(.t 20), (.c zf)]), oo 6 (.alloc 38 [z0, z0, .nilS, z0, z0, z0, z0, z0, z0, z0, z0, z0, z0]), oe (.store 13 (.t 6) (.t 21))]) (.seq (.seq (.reg [oo 22 (.mv (.t 1)), oo 23 (.call (cf 26) [(.t 22), (ci 12)]), oo 7 (.mv (.t 23))]) (.block 0 (.loop (.seq (.seq (.reg [oo 24 (.mv (.t 7)), oo 25 (.bin .gtr (.t 24) (ci 0))]) (.cond (.t 25) .skip (.exit 0))) (.seq (.block 1 (.seq (.draw [oo 29 (.load 13 true (.t 6)), oo 30 (.mv (.t 5)), oo 31 (.fieldA 2 (.t 6)), oo 32 (.load 1 false (.t 31)), oo 33 (.len (.t 32)), oo 34 (.ocall 10060050 (cf 51) [(.t 30), (.t 33)]), oo 35 (.call (cf 50) [(.t 29), (.t 34), (.c .nilS), (.c .nilS)]), oo 28 (.mv (.t 35)), oo 36 (.ext (.t 28) 0), oo 37 (.ext (.t 28) 1), oo 8 (.alloc 38 [z0, z0, .nilS, z0, z0, z0, z0, z0, z0, z0, z0, z0, z0]), oe (.store 13 (.t 8) (.t 36)), oo 9 (.mv (.t 37))] [(0, 5), (5, 10)]) (.seq (.seq (.reg [oo 38 (.mv (.t 9)), oo 39 (.bin .neq (.t 38) (ci 0))]) (.cond (.t 39) (.seq (.reg [oo 4 (.mv (.c zf))]) .ret) .skip)) (.reg [oo 40 (.load 13 true (.t 8)), oe (.store 13 (.t 6) (.t 40))])))) (.reg [oo 26 (.mv (.t 7)), oo 27 (.bin .sub (.t 26) (ci 1)), oo 7 (.mv (.t 27))])))))) (.seq (.reg [oo 41 (.mv (.t 5)), oo 42 (.fieldA 2 (.t 6)), oo 43 (.load 1 false (.t 42)), oo 44 (.len (.t 43)), oo 45 (.ocall 10100040 (cf 51) [(.t 41), (.t 44)]), oo 10 (.mv (.t 45))]) (.seq (.reg [oo 47 (.load 13 true (.t 6)), oo 48 (.mv (.t 10)), oo 49 (.call (cf 50) [(.t 47), (.t 48), (.c .nilS), (.c .nilS)]), oo 46 (.mv (.t 49)), oo 50 (.ext (.t 46) 0), oo 51 (.ext (.t 46) 1), oo 11 (.alloc 38 [z0, z0, .nilS, z0, z0, z0, z0, z0, z0, z0, z0, z0, z0]), oe (.store 13 (.t 11) (.t 50)), oo 12 (.mv (.t 51))]) (.seq (.draw [oo 53 (.load 13 true (.t 6)), oo 54 (.mv (.t 10)), oo 55 (.mv (.t 5)), oo 56 (.load 13 true (.t 6)), oo 57 (.ocall 10120040 (cf 52) [(.t 55), (.t 56), (.c (.v (.bool true)))]), oo 58 (.call (cf 50) [(.t 53), (.t 54), (.c .nilS), (.t 57)]), oo 52 (.mv (.t 58)), oo 59 (.ext (.t 52) 0), oo 60 (.ext (.t 52) 1), oo 13 (.alloc 38 [z0, z0, .nilS, z0, z0, z0, z0, z0, z0, z0, z0, z0, z0]), oe (.store 13 (.t 13) (.t 59)), oo 14 (.mv (.t 60))] [(0, 4), (4, 9)]) (.seq (.draw [oo 62 (.load 13 true (.t 6)), oo 63 (.mv (.t 10)), oo 64 (.load 13 true (.t 6)), oo 65 (.call (cf 40) [(.t 64)]), oo 66 (.call (cf 50) [(.t 62), (.t 63), (.t 65), (.c .nilS)]), oo 61 (.mv (.t 66)), oo 67 (.ext (.t 61) 0), oo 68 (.ext (.t 61) 1), oo 15 (.alloc 38 [z0, z0, .nilS, z0, z0, z0, z0, z0, z0, z0, z0, z0, z0]), oe (.store 13 (.t 15) (.t 67)), oo 16 (.mv (.t 68))] []) (.seq (.seq (.reg [oo 69 (.mv (.t 12)), oo 70 (.bin .neq (.t 69) (ci 0)), oo 71 (.mv (.t 70)), oh 72 (.mv (.t 14)) 71, oh 73 (.bin .neq (.t 72) (ci 0)) 71, oo 74 (.pick (.t 71) (.c (.v (.bool true))) (.t 73)), oo 75 (.mv (.t 74)), oh 76 (.mv (.t 16)) 75, oh 77 (.bin .neq (.t 76) (ci 0)) 75, oo 78 (.pick (.t 75) (.c (.v (.bool true))) (.t 77)), oo 79 (.mv (.t 78)), oh 80 (.fieldA 2 (.t 11)) 79, oh 81 (.load 1 false (.t 80)) 79, oh 82 (.len (.t 81)) 79, oh 83 (.fieldA 2 (.t 6)) 79, oh 84 (.load 1 false (.t 83)) 79, oh 85 (.len (.t 84)) 79, oh 86 (.bin .neq (.t 82) (.t 85)) 79, oo 87 (.pick (.t 79) (.c (.v (.bool true))) (.t 86)), oo 88 (.mv (.t 87)), oh 89 (.fieldA 2 (.t 13)) 88, oh 90 (.load 1 false (.t 89)) 88, oh 91 (.len (.t 90)) 88, oh 92 (.fieldA 2 (.t 6)) 88, oh 93 (.load 1 false (.t 92)) 88, oh 94 (.len (.t 93)) 88, oh 95 (.bin .neq (.t 91) (.t 94)) 88, oo 96 (.pick (.t 88) (.c (.v (.bool true))) (.t 95)), oo 97 (.mv (.t 96)), oh 98 (.fieldA 2 (.t 15)) 97, oh 99 (.load 1 false (.t 98)) 97, oh 100 (.len (.t 99)) 97, oh 101 (.fieldA 2 (.t 6)) 97, oh 102 (.load 1 false (.t 101)) 97, oh 103 (.len (.t 102)) 97, oh 104 (.bin .neq (.t 100) (.t 103)) 97, oo 105 (.pick (.t 97) (.c (.v (.bool true))) (.t 104))]) (.cond (.t 105) (.seq (.reg [oo 4 (.mv (.c zf))]) .ret) .skip)) (.seq (.seq (.reg [oo 17 (.mv (ci 0))]) (.block 2 (.loop (.seq (.seq (.reg [oo 106 (.mv (.t 17)), oo 107 (.fieldA 2 (.t 6)), oo 108 (.load 1 false (.t 107)), oo 109 (.len (.t 108)), oo 110 (.bin .lss (.t 106) (.t 109))]) (.cond (.t 110) .skip (.exit 2))) (.seq (.block 3 (.seq (.draw [oo 113 (.fieldA 2 (.t 13)), oo 114 (.load 1 false (.t 113)), oo 115 (.mv (.t 17)), oo 116 (.idxS 12 (.t 114) (.t 115)), oo 117 (.fieldA 2 (.t 116)), oo 118 (.load 1 false (.t 117)), oo 119 (.fieldA 2 (.t 11)), oo 120 (.load 1 false (.t 119)), oo 121 (.mv (.t 17)), oo 122 (.idxS 12 (.t 120) (.t 121)), oo 123 (.fieldA 2 (.t 122)), oo 124 (.load 1 false (.t 123)), oo 125 (.bin .lss (.t 118) (.t 124)), oo 126 (.mv (.t 125)), oh 127 (.fieldA 2 (.t 15)) 126, oh 128 (.load 1 false (.t 127)) 126, oh 129 (.mv (.t 17)) 126, oh 130 (.idxS 12 (.t 128) (.t 129)) 126, oh 131 (.fieldA 2 (.t 130)) 126, oh 132 (.load 1 false (.t 131)) 126, oh 133 (.fieldA 2 (.t 13)) 126, oh 134 (.load 1 false (.t 133)) 126, oh 135 (.mv (.t 17)) 126, oh 136 (.idxS 12 (.t 134) (.t 135)) 126, oh 137 (.fieldA 2 (.t 136)) 126, oh 138 (.load 1 false (.t 137)) 126, oh 139 (.bin .lss (.t 132) (.t 138)) 126, oo 140 (.pick (.t 126) (.c (.v (.bool true))) (.t 139))] []) (.cond (.t 140) (.seq (.reg [oo 4 (.mv (.c zf))]) .ret) .skip))) (.reg [oo 111 (.mv (.t 17)), oo 112 (.bin .add (.t 111) (ci 1)), oo 17 (.mv (.t 112))])))))) (.seq (.reg [oo 141 (.call (cf 23) []), oo 4 (.mv (.t 141))]) .ret)))))))))))
theorem fn_law09_ConvoyMore : FnOK Try.prog 12 142 [.t 4] ac_law09_ConvoyMore := ⟨_, _, Try.func12, rfl, Try.ntmps12, by kernel_rfl, ⟨fun r => if r == 1 then [1001001] else if r == 2 then [1002001] else if r == 6 then [1006005] else if r == 10 then [1010004] else if r == 12 then [1012004] else [], by kernel_rfl⟩, by kernel_rfl⟩
set_option maxHeartbeats 4000000 in
theorem law09_ConvoyMore_ok (p1 : (List Int)) (p2 : Int) (r : Bool) (h : law09_ConvoyMore p1 p2 = some r) : PCall Try.prog 12 [(.list (List.map eInt_i64 p1)), (i64 p2)] (bo r) := by
  refine l_call fn_law09_ConvoyMore (nl rfl) ?_
  unfold law09_ConvoyMore at h
  unfold ac_law09_ConvoyMore
  refine l_sub (s0 := ⟨T [(0, (.d _)), (1, (.d _))], G []⟩) (sbr rfl rfl) ?_
  refine lr (fun u1 hu1 => sv rfl (s_nil (lr (fun u2 hu2 => sv rfl (bs h fun v1 hv1 h => s_oc (v := .ptr (10010010, u2) 0) (us := [(10010010, u2)]) (oc_m (kit_NewRing_m_ok _ _ hv1) [] [] _ (((10010010, u2), some (.box 94 [(dl eInt_i64 v1.l), (di v1.at_)])) :: _) rfl all2_av rfl live_nil trivial (fun _ h => h) List.nodup_nil rfl rfl rfl) (sp rfl rfl (s_nil (lr (fun u3 hu3 => sp rfl rfl (bs h fun v2 hv2 h => s_oc (v := .d (.agg (eConvoy v2.1))) (us := [(10010010, u2)]) (oc_m (kit_Convoy_o_ok _ _ _ hv2) [(10010010, u2)] [(10010010, u2)] _ (((10010010, u2), some (.box 94 [(dl eInt_i64 v2.2.l), (di v2.2.at_)])) :: _) rfl all2_av (kl_cons (kr_ptr G_hit rfl) (kl_cons kr_d kl_nil)) (live_cons G_hit live_nil) ⟨⟨_, G_hit, .of rfl⟩, trivial⟩ (fun _ h => h) nd1 rfl rfl rfl) (sn rfl rfl (sst rfl G_hit (dConvoy v2.1) rfl (s_nil (l_seq (lr (fun u4 hu4 => sv rfl (bs h fun v3 hv3 h => s_call rfl rfl all2_refl (kit_Mod_ok _ _  _ hv3) (.inl rfl) (sv rfl (s_nil (js h fun z1 hz1 h => l_join (fun s => ∃ (y1 : (KitRing × Convoy)) (g1 : Unit), z1 = .inl y1 ∧ Sb ⟨T [(5, (.ptr (10010010, u2) 0)), (6, (.ptr (6, u3) 0))], G [((10010010, u2), some (.box 94 [(dl eInt_i64 y1.1.l), (di y1.1.at_)])), ((6, u3), some (.box 38 (dConvoy y1.2)))]⟩ s) ?_ ?_))))))))))))))))))))
  · refine l_block (l_loop (law09_ConvoyMore_l1) (fun (x1 : (Int × KitRing × Convoy)) (g2 : Unit) => ⟨T [(5, (.ptr (10010010, u2) 0)), (6, (.ptr (6, u3) 0)), (7, (di x1.1))], G [((10010010, u2), some (.box 94 [(dl eInt_i64 x1.2.1.l), (di x1.2.1.at_)])), ((6, u3), some (.box 38 (dConvoy x1.2.2)))]⟩) (v3, v2.2, v2.1) () _ hz1 (sbr rfl rfl) ?_)
    intro x1 g2 z2 hz2 ez2
    unfold law09_ConvoyMore_l1 at hz2
    refine l_seq (lr (fun u5 hu5 => sv rfl (sv rfl (s_nil (cc rfl hz2 (fun c1 hz2 => ?_) (fun c1 hz2 => ?_))))))
    · refine l_skip (l_seq (l_block (l_seq (l_drawT fun u6 hu6 => t_val (.d _) rfl (v_loadG rfl (gq rfl) rfl rfl) (t_val (.ptr _ _) rfl rfl (t_val (.ptr _ _) rfl rfl (t_val (.d _) rfl (v_load rfl (gq rfl) rfl) (t_val (.d _) rfl (v_len rfl) (bs hz2 fun v4 hv4 hz2 => t_oc (v := .d (.list (List.map eInt_i64 v4.1))) (us := [(10010010, u2)]) (oc_m (law09_wanted_o_ok _ _ _ hv4) [(10010010, u2)] [(10010010, u2)] _ (((10010010, u2), some (.box 94 [(dl eInt_i64 v4.2.l), (di v4.2.at_)])) :: _) rfl all2_av (kl_cons (kr_ptr G_hit rfl) (kl_cons kr_d kl_nil)) (live_cons G_hit live_nil) ⟨⟨_, G_hit, .of rfl⟩, trivial⟩ (fun _ h => h) nd1 rfl rfl rfl) (bs hz2 fun v5 hv5 hz2 => t_call rfl rfl (.cons (.refl _) (.cons (.refl _) (.cons DLe.nil (.cons DLe.nil .nil)))) (convoy_Step_ok _ _ _ _  _ hv5) (.inl rfl) (t_val (.d _) rfl rfl (t_val (.d _) rfl rfl (t_val (.d _) rfl rfl (t_new (.ptr _ _) (.box _ _) rfl rfl (t_store _ _ _ _ _ rfl rfl rfl G_hit (nl rfl) (dConvoy v5.1) rfl (t_val (.d _) rfl rfl (t_nil ⟨rfl, ?_⟩)))))))))))))))))
      refine l_seq (lr (fun u7 hu7 => sv rfl (sv rfl (s_nil (cc rfl hz2 (fun c2 hz2 => ?_) (fun c2 hz2 => ?_))))))
      · refine l_seq (l_sub (s0 := ⟨T [], G []⟩) (sbr rfl rfl) ?_)
        refine l_reg fun u8 hu8 => sv rfl (s_nil (l_ret ?_))
        obtain rfl := Option.some.inj hz2
        obtain rfl := ez2 _ rfl
        refine ⟨nofun, awl_ret ?_⟩
        rw [Sum.elim_inr] at h
        obtain rfl := Option.some.inj h
        exact fin_ok (.inr rfl) (resD1 (res_t rfl) rf_d) (.refl _)
      · refine l_skip (l_sub (s0 := ⟨T [(5, (.ptr _ _)), (6, (.ptr _ _)), (7, (.d _)), (8, (.ptr _ _))], G [((10010010, u2), some (.box 94 _)), ((6, u3), some (.box 38 _)), ((8, u6), some (.box 38 _))]⟩) (sbr rfl rfl) ?_)
        refine l_reg fun u9 hu9 => sd rfl (v_loadG rfl (gq rfl) rfl rfl) (sst rfl (gq rfl) (dConvoy v5.1) rfl (s_nil (l_end (l_reg fun u10 hu10 => sv rfl (sv rfl (sv rfl (s_nil (l_nil ?_))))))))
        obtain rfl := Option.some.inj hz2
        exact ⟨rfl, (), (sbr rfl rfl)⟩
    · refine l_exitN rfl ?_
      obtain rfl := Option.some.inj hz2
      obtain rfl := ez2 _ rfl
      refine ⟨nofun, awl_pop rfl (l_j ?_)⟩
      exact ⟨_, (), rfl, (sbr rfl rfl)⟩
  · rintro _ ⟨y1, g1, rfl, q1⟩
    rw [Sum.elim_inl] at h
    refine l_sub q1 (lr (fun u11 hu11 => sp rfl rfl (sp rfl rfl (sl rfl (gq rfl) rfl (sd rfl (v_len rfl) (bs h fun v6 hv6 h => s_oc (v := .d (.list (List.map eInt_i64 v6.1))) (us := [(10010010, u2)]) (oc_m (law09_wanted_o_ok _ _ _ hv6) [(10010010, u2)] [(10010010, u2)] _ (((10010010, u2), some (.box 94 [(dl eInt_i64 v6.2.l), (di v6.2.at_)])) :: _) rfl all2_av (kl_cons (kr_ptr G_hit rfl) (kl_cons kr_d kl_nil)) (live_cons G_hit live_nil) ⟨⟨_, G_hit, .of rfl⟩, trivial⟩ (fun _ h => h) nd1 rfl rfl rfl) (sv rfl (s_nil (lr (fun u12 hu12 => sd rfl (v_loadG rfl (gq rfl) rfl rfl) (sv rfl (bs h fun v7 hv7 h => s_call rfl rfl (.cons (.refl _) (.cons (.refl _) (.cons DLe.nil (.cons DLe.nil .nil)))) (convoy_Step_ok _ _ _ _  _ hv7) (.inl rfl) (sv rfl (sv rfl (sv rfl (sn rfl rfl (sst rfl G_hit (dConvoy v7.1) rfl (sv rfl (s_nil (l_seq (l_drawT fun u13 hu13 => t_val (.d _) rfl (v_loadG rfl (gq rfl) rfl rfl) (t_val (.d _) rfl rfl (t_val (.ptr _ _) rfl rfl (t_val (.d _) rfl (v_loadG rfl (gq rfl) rfl rfl) (bs h fun v8 hv8 h => t_oc (v := .d (.list (List.map eSight v8.1))) (us := [(10010010, u2)]) (oc_m (law09_looks_o_ok _ _ _ _ hv8) [(10010010, u2)] [(10010010, u2)] _ (((10010010, u2), some (.box 94 [(dl eInt_i64 v8.2.l), (di v8.2.at_)])) :: _) rfl all2_av (kl_cons (kr_ptr (G_skip rfl (G_skip rfl G_hit)) rfl) (kl_cons kr_d (kl_cons kr_d kl_nil))) (live_cons (G_skip rfl (G_skip rfl G_hit)) live_nil) ⟨⟨_, (G_skip rfl (G_skip rfl G_hit)), .of rfl⟩, trivial⟩ (fun _ h => h) nd1 rfl rfl rfl) (bs h fun v9 hv9 h => t_call rfl rfl (.cons (.refl _) (.cons (.refl _) (.cons DLe.nil (.cons (.refl _) .nil)))) (convoy_Step_ok _ _ _ _  _ hv9) (.inl rfl) (t_val (.d _) rfl rfl (t_val (.d _) rfl rfl (t_val (.d _) rfl rfl (t_new (.ptr _ _) (.box _ _) rfl rfl (t_store _ _ _ _ _ rfl rfl rfl G_hit (nl rfl) (dConvoy v9.1) rfl (t_val (.d _) rfl rfl (t_nil ⟨rfl, ?_⟩)))))))))))))))))))))))))))))))))
    refine l_seq (l_sub (s0 := ⟨T [(6, (.ptr _ _)), (10, (.d _)), (11, (.ptr _ _)), (12, (.d _)), (13, (.ptr _ _)), (14, (.d _))], G [((6, u3), some (.box 38 _)), ((11, u12), some (.box 38 _)), ((13, u13), some (.box 38 _))]⟩) (sbr rfl rfl) ?_)
    refine l_draw rfl fun u14 hu14 => sd rfl (v_loadG rfl G_hit rfl rfl) (sv rfl (sd rfl (v_loadG rfl G_hit rfl rfl) (bs h fun v10 hv10 h => s_call rfl rfl all2_refl (convoy_Notes_ok _  _ hv10) (.inl rfl) (bs h fun v11 hv11 h => s_call rfl rfl (.cons (.refl _) (.cons (.refl _) (.cons (.refl _) (.cons DLe.nil .nil)))) (convoy_Step_ok _ _ _ _  _ hv11) (.inl rfl) (sv rfl (sv rfl (sv rfl (sn rfl rfl (sst rfl G_hit (dConvoy v11.1) rfl (sv rfl (s_nil (l_seq (lr (fun u15 hu15 => sv rfl (sv rfl (sv rfl (gf rfl (fun _ => rfl) (gf rfl (vb rfl rfl rfl) (sd rfl (v_or rfl rfl (fun hc => gd_pos (not_t hc))) (sv rfl (gf rfl (fun _ => rfl) (gf rfl (vb rfl rfl rfl) (sd rfl (v_or rfl rfl (fun hc => gd_pos (not_t hc))) (sv rfl (gp rfl (gw_f rfl) (fun _ => rfl) (gf rfl (vl rfl (gq rfl) rfl) (gf rfl (fun w7 => (v_len (gd_pos w7))) (gp rfl (gw_f rfl) (fun _ => rfl) (gf rfl (vl rfl (gq rfl) rfl) (gf rfl (fun w10 => (v_len (gd_pos w10))) (gf rfl (fun w11 => (v_bin (gd_pos w11) (gd_pos w11) rfl)) (sd rfl (v_or rfl rfl (fun hc => gd_pos (not_t hc))) (sv rfl (gp rfl (gw_f rfl) (fun _ => rfl) (gf rfl (vl rfl (gq rfl) rfl) (gf rfl (fun w14 => (v_len (gd_pos w14))) (gp rfl (gw_f rfl) (fun _ => rfl) (gf rfl (vl rfl (gq rfl) rfl) (gf rfl (fun w17 => (v_len (gd_pos w17))) (gf rfl (fun w18 => (v_bin (gd_pos w18) (gd_pos w18) rfl)) (sd rfl (v_or rfl rfl (fun hc => gd_pos (not_t hc))) (sv rfl (gp rfl (gw_f rfl) (fun _ => rfl) (gf rfl (vl rfl G_hit rfl) (gf rfl (fun w21 => (v_len (gd_pos w21))) (gp rfl (gw_f rfl) (fun _ => rfl) (gf rfl (vl rfl (gq rfl) rfl) (gf rfl (fun w24 => (v_len (gd_pos w24))) (gf rfl (fun w25 => (v_bin (gd_pos w25) (gd_pos w25) rfl)) (sd rfl (v_or rfl rfl (fun hc => gd_pos (not_t hc))) (s_nil (cc rfl h (fun c3 h => ?_) (fun c3 h => ?_)))))))))))))))))))))))))))))))))))))))))))))))))))))
    · refine l_seq (l_sub (s0 := ⟨T [], G []⟩) (sbr rfl rfl) ?_)
      refine l_reg fun u16 hu16 => sv rfl (s_nil (l_ret ?_))
      obtain rfl := Option.some.inj h
      exact fin_ok (.inr rfl) (resD1 (res_t rfl) rf_d) (.refl _)
    · refine l_skip (l_seq (l_seq (l_sub (s0 := ⟨T [(6, (.ptr _ _)), (11, (.ptr _ _)), (13, (.ptr _ _)), (15, (.ptr _ _))], G [((6, u3), some (.box 38 _)), ((11, u12), some (.box 38 _)), ((13, u13), some (.box 38 _)), ((15, u14), some (.box 38 _))]⟩) (sbr rfl rfl) ?_)))
      refine l_reg fun u17 hu17 => sv rfl (s_nil (js h fun z3 hz3 h => l_join (fun s => ∃ (y2 : Unit) (g3 : Unit), z3 = .inl y2 ∧ Sb ⟨T [], G []⟩ s) ?_ ?_))
      · refine l_block (l_loop (law09_ConvoyMore_l2 y1 v7 v9 v11) (fun (x2 : Int) (g4 : Unit) => ⟨T [(6, (.ptr (6, u3) 0)), (11, (.ptr (11, u12) 0)), (13, (.ptr (13, u13) 0)), (15, (.ptr (15, u14) 0)), (17, (di x2))], G [((6, u3), some (.box 38 (dConvoy y1.2))), ((11, u12), some (.box 38 (dConvoy v7.1))), ((13, u13), some (.box 38 (dConvoy v9.1))), ((15, u14), some (.box 38 (dConvoy v11.1)))]⟩) 0 () _ hz3 (sbr rfl rfl) ?_)
        intro x2 g4 z4 hz4 ez4
        unfold law09_ConvoyMore_l2 at hz4
        refine l_seq (lr (fun u18 hu18 => sv rfl (sp rfl rfl (sl rfl G_hit rfl (sd rfl (v_len rfl) (sv rfl (s_nil (cc rfl hz4 (fun c4 hz4 => ?_) (fun c4 hz4 => ?_)))))))))
        · refine l_skip (l_seq (l_block (l_seq (l_draw rfl fun u19 hu19 => sp rfl rfl (sl rfl (gq rfl) rfl (sv rfl (bs hz4 fun v12 hv12 hz4 => sd rfl (v_idx rfl rfl hv12 rfl) (sv rfl (sd rfl (v_loadL rfl hv12 rfl) (sp rfl rfl (sl rfl (gq rfl) rfl (sv rfl (bs hz4 fun v13 hv13 hz4 => sd rfl (v_idx rfl rfl hv13 rfl) (sv rfl (sd rfl (v_loadL rfl hv13 rfl) (sv rfl (sv rfl (gp rfl (gw_f rfl) (fun _ => rfl) (gf rfl (vl rfl (gq rfl) rfl) (gf rfl (fun _ => rfl) (bs hz4 fun v14 hv14 hz4 => gf rfl (fun w29 => (v_idx (gd_pos w29) (gd_pos w29) (cond_t w29 hv14) rfl)) ?_)))))))))))))))))))))
          refine gf rfl (fun w30 => (by simp only [gd_pos w30]; rfl)) ?_
          refine gf rfl (fun w31 => (v_loadL (gd_pos w31) (cond_t w31 hv14) rfl)) (gp rfl (gw_f rfl) (fun _ => rfl) (gf rfl (vl rfl (gq rfl) rfl) (gf rfl (fun _ => rfl) (bs hz4 fun v15 hv15 hz4 => gf rfl (fun w35 => (v_idx (gd_pos w35) (gd_pos w35) (cond_t w35 hv15) rfl)) ?_))))
          refine gf rfl (fun w36 => (by simp only [gd_pos w36]; rfl)) ?_
          refine gf rfl (fun w37 => (v_loadL (gd_pos w37) (cond_t w37 hv15) rfl)) (gf rfl (fun w38 => (v_bin (gd_pos w38) (gd_pos w38) rfl)) (sd rfl (v_or rfl rfl (fun hc => gd_pos (not_t hc))) (s_nil (cc rfl hz4 (fun c5 hz4 => ?_) (fun c5 hz4 => ?_)))))
          · refine l_seq (l_sub (s0 := ⟨T [], G []⟩) (sbr rfl rfl) ?_)
            refine l_reg fun u20 hu20 => sv rfl (s_nil (l_ret ?_))
            obtain rfl := Option.some.inj hz4
            obtain rfl := ez4 _ rfl
            refine ⟨nofun, awl_ret ?_⟩
            rw [Sum.elim_inr] at h
            obtain rfl := Option.some.inj h
            exact fin_ok (.inr rfl) (resD1 (res_t rfl) rf_d) (.refl _)
          · refine l_skip (l_end (l_sub (s0 := ⟨T [(6, (.ptr _ _)), (11, (.ptr _ _)), (13, (.ptr _ _)), (15, (.ptr _ _)), (17, (.d _))], G [((6, u3), some (.box 38 _)), ((11, u12), some (.box 38 _)), ((13, u13), some (.box 38 _)), ((15, u14), some (.box 38 _))]⟩) (sbr rfl rfl) ?_))
            refine l_reg fun u21 hu21 => sv rfl (sv rfl (sv rfl (s_nil (l_nil ?_))))
            obtain rfl := Option.some.inj hz4
            exact ⟨rfl, (), (sbr rfl rfl)⟩
        · refine l_exitN rfl ?_
          obtain rfl := Option.some.inj hz4
          obtain rfl := ez4 _ rfl
          refine ⟨nofun, awl_pop rfl (l_j ?_)⟩
          exact ⟨_, (), rfl, (sbr rfl rfl)⟩
      · rintro _ ⟨y2, g3, rfl, q2⟩
        rw [Sum.elim_inl] at h
        refine l_sub q2 (lr (fun u22 hu22 => bs h fun v16 hv16 h => s_call rfl rfl all2_refl (law09_awake_ok  _ hv16) (.inl rfl) (sv rfl (s_nil (l_ret ?_)))))
        obtain rfl := Option.some.inj h
        exact fin_ok (.inr rfl) (resD1 (res_t rfl) rf_d) (.refl _)
end Go.Abs.Convoy
