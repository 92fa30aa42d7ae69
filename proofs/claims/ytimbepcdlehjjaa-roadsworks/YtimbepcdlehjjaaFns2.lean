/-
  The functions, part 2.
-/
import Derived.Test.YtimbepcdlehjjaaFns1
set_option maxRecDepth 20000
set_option maxHeartbeats 4000000
set_option linter.unusedVariables false
namespace Go.Abs.Roads
open Go Go.Abs Go.Proofs
attribute [local irreducible] regW regT AWL

noncomputable def roads_reach_l2 (x1 : (Int × (Int × Int × Int × Int × Int × Int × Int × Int × Int × Int × Int × Int))) (v1 : Lane) (x2 : (Int × (Int × Int × Int × Int × Int × Int × Int × Int × Int × Int × Int × Int))) : Option (Stp (Int × (Int × Int × Int × Int × Int × Int × Int × Int × Int × Int × Int × Int)) (Int × Int × Int × Int × Int × Int × Int × Int × Int × Int × Int × Int)) :=
  cond (decide (x2.1 < (v1.Next.length : Int))) ((geti v1.Next x2.1).bind fun v2 => (geti ([x2.2.1, x2.2.2.1, x2.2.2.2.1, x2.2.2.2.2.1, x2.2.2.2.2.2.1, x2.2.2.2.2.2.2.1, x2.2.2.2.2.2.2.2.1, x2.2.2.2.2.2.2.2.2.1, x2.2.2.2.2.2.2.2.2.2.1, x2.2.2.2.2.2.2.2.2.2.2.1, x2.2.2.2.2.2.2.2.2.2.2.2.1, x2.2.2.2.2.2.2.2.2.2.2.2.2] : List Int) x1.1).bind fun v3 => (geti ([x2.2.1, x2.2.2.1, x2.2.2.2.1, x2.2.2.2.2.1, x2.2.2.2.2.2.1, x2.2.2.2.2.2.2.1, x2.2.2.2.2.2.2.2.1, x2.2.2.2.2.2.2.2.2.1, x2.2.2.2.2.2.2.2.2.2.1, x2.2.2.2.2.2.2.2.2.2.2.1, x2.2.2.2.2.2.2.2.2.2.2.2.1, x2.2.2.2.2.2.2.2.2.2.2.2.2] : List Int) v2).bind fun v4 => (shlc .u32 1 (IntKind.wrap .u64 v2)).bind fun v5 => (geti ([x2.2.1, x2.2.2.1, x2.2.2.2.1, x2.2.2.2.2.1, x2.2.2.2.2.2.1, x2.2.2.2.2.2.2.1, x2.2.2.2.2.2.2.2.1, x2.2.2.2.2.2.2.2.2.1, x2.2.2.2.2.2.2.2.2.2.1, x2.2.2.2.2.2.2.2.2.2.2.1, x2.2.2.2.2.2.2.2.2.2.2.2.1, x2.2.2.2.2.2.2.2.2.2.2.2.2] : List Int) x1.1).bind fun v6 => (setc ([x2.2.1, x2.2.2.1, x2.2.2.2.1, x2.2.2.2.2.1, x2.2.2.2.2.2.1, x2.2.2.2.2.2.2.1, x2.2.2.2.2.2.2.2.1, x2.2.2.2.2.2.2.2.2.1, x2.2.2.2.2.2.2.2.2.2.1, x2.2.2.2.2.2.2.2.2.2.2.1, x2.2.2.2.2.2.2.2.2.2.2.2.1, x2.2.2.2.2.2.2.2.2.2.2.2.2] : List Int) x1.1 (IntKind.wrap .u32 (((BitVec.ofInt (IntKind.bits .u32) v3 |||(BitVec.ofInt (IntKind.bits .u32) (IntKind.wrap .u32 (((BitVec.ofInt (IntKind.bits .u32) v4 |||(BitVec.ofInt (IntKind.bits .u32) v5)).toNat : Nat))))).toNat : Nat)))).bind fun v7 => some (.go ((w64 (x2.1 + 1)), ((v7.getD 0 0), (v7.getD 1 0), (v7.getD 2 0), (v7.getD 3 0), (v7.getD 4 0), (v7.getD 5 0), (v7.getD 6 0), (v7.getD 7 0), (v7.getD 8 0), (v7.getD 9 0), (v7.getD 10 0), (v7.getD 11 0))))) (some (.out x2.2))
noncomputable def roads_reach_l1 (p1 : Map) (x1 : (Int × (Int × Int × Int × Int × Int × Int × Int × Int × Int × Int × Int × Int))) : Option (Stp (Int × (Int × Int × Int × Int × Int × Int × Int × Int × Int × Int × Int × Int)) (Int × Int × Int × Int × Int × Int × Int × Int × Int × Int × Int × Int)) :=
  cond (decide (x1.1 ≥ 0)) ((geti p1.Lanes x1.1).bind fun v1 => (loop (roads_reach_l2 x1 v1) (0, x1.2)).bind fun y2 => some (.go ((w64 (x1.1 - 1)), y2))) (some (.out x1.2))
noncomputable def roads_reach (p1 : Map) : Option (Int × Int × Int × Int × Int × Int × Int × Int × Int × Int × Int × Int) :=
  (loop (roads_reach_l1 p1) ((w64 ((p1.Lanes.length : Int) - 1)), (0, 0, 0, 0, 0, 0, 0, 0, 0, 0, 0, 0))).bind fun y1 => some y1

theorem roads_reach_ok (p1 : Map) (r : (Int × Int × Int × Int × Int × Int × Int × Int × Int × Int × Int × Int)) (h : roads_reach p1 = some r) : PCall Try.prog 57 [(.agg (eMap p1))] (.agg [(.v (.int .u32 r.1)), (.v (.int .u32 r.2.1)), (.v (.int .u32 r.2.2.1)), (.v (.int .u32 r.2.2.2.1)), (.v (.int .u32 r.2.2.2.2.1)), (.v (.int .u32 r.2.2.2.2.2.1)), (.v (.int .u32 r.2.2.2.2.2.2.1)), (.v (.int .u32 r.2.2.2.2.2.2.2.1)), (.v (.int .u32 r.2.2.2.2.2.2.2.2.1)), (.v (.int .u32 r.2.2.2.2.2.2.2.2.2.1)), (.v (.int .u32 r.2.2.2.2.2.2.2.2.2.2.1)), (.v (.int .u32 r.2.2.2.2.2.2.2.2.2.2.2))]) := by
 refine l_call (fk Try.func57 Try.ntmps57 m0 (by with_unfolding_all rfl)) (nl rfl) ?_
 unfold roads_reach at h
 refine l_sub (s0 := ⟨T [(0, (.d _))], G []⟩) (sbr rfl rfl) ?_
 refine lr (fun u1 hu1 => sn rfl rfl (sn rfl rfl (s_nil (lr (fun u2 hu2 => sn rfl rfl (s_nil (l_seq (lr (fun u3 hu3 => sp rfl rfl (sl rfl (gq rfl) rfl (sd rfl (v_len rfl) (sv rfl (sv rfl (s_nil (bs h fun y1 hy1 h => l_join (fun s => ∃ g1 : Unit, Sb ⟨T [(2, (.ptr (2, u1) 0)), (3, (.ptr (3, u2) 0))], G [((2, u1), some (.box 101 [(.d (.v (.int .u32 0))), (.d (.v (.int .u32 0))), (.d (.v (.int .u32 0))), (.d (.v (.int .u32 0))), (.d (.v (.int .u32 0))), (.d (.v (.int .u32 0))), (.d (.v (.int .u32 0))), (.d (.v (.int .u32 0))), (.d (.v (.int .u32 0))), (.d (.v (.int .u32 0))), (.d (.v (.int .u32 0))), (.d (.v (.int .u32 0)))])), ((3, u2), some (.box 101 [(.d (.v (.int .u32 y1.1))), (.d (.v (.int .u32 y1.2.1))), (.d (.v (.int .u32 y1.2.2.1))), (.d (.v (.int .u32 y1.2.2.2.1))), (.d (.v (.int .u32 y1.2.2.2.2.1))), (.d (.v (.int .u32 y1.2.2.2.2.2.1))), (.d (.v (.int .u32 y1.2.2.2.2.2.2.1))), (.d (.v (.int .u32 y1.2.2.2.2.2.2.2.1))), (.d (.v (.int .u32 y1.2.2.2.2.2.2.2.2.1))), (.d (.v (.int .u32 y1.2.2.2.2.2.2.2.2.2.1))), (.d (.v (.int .u32 y1.2.2.2.2.2.2.2.2.2.2.1))), (.d (.v (.int .u32 y1.2.2.2.2.2.2.2.2.2.2.2)))]))]⟩ s) ?_ ?_)))))))))))))))
 refine l_block (l_loop (roads_reach_l1 p1) (fun (x1 : (Int × (Int × Int × Int × Int × Int × Int × Int × Int × Int × Int × Int × Int))) (g2 : Unit) => ⟨T [(1, (.ptr (1, u1) 0)), (2, (.ptr (2, u1) 0)), (3, (.ptr (3, u2) 0)), (4, (di x1.1))], G [((1, u1), some (.box 28 (dMap p1))), ((2, u1), some (.box 101 [(.d (.v (.int .u32 0))), (.d (.v (.int .u32 0))), (.d (.v (.int .u32 0))), (.d (.v (.int .u32 0))), (.d (.v (.int .u32 0))), (.d (.v (.int .u32 0))), (.d (.v (.int .u32 0))), (.d (.v (.int .u32 0))), (.d (.v (.int .u32 0))), (.d (.v (.int .u32 0))), (.d (.v (.int .u32 0))), (.d (.v (.int .u32 0)))])), ((3, u2), some (.box 101 [(.d (.v (.int .u32 x1.2.1))), (.d (.v (.int .u32 x1.2.2.1))), (.d (.v (.int .u32 x1.2.2.2.1))), (.d (.v (.int .u32 x1.2.2.2.2.1))), (.d (.v (.int .u32 x1.2.2.2.2.2.1))), (.d (.v (.int .u32 x1.2.2.2.2.2.2.1))), (.d (.v (.int .u32 x1.2.2.2.2.2.2.2.1))), (.d (.v (.int .u32 x1.2.2.2.2.2.2.2.2.1))), (.d (.v (.int .u32 x1.2.2.2.2.2.2.2.2.2.1))), (.d (.v (.int .u32 x1.2.2.2.2.2.2.2.2.2.2.1))), (.d (.v (.int .u32 x1.2.2.2.2.2.2.2.2.2.2.2.1))), (.d (.v (.int .u32 x1.2.2.2.2.2.2.2.2.2.2.2.2)))]))]⟩) ((w64 ((p1.Lanes.length : Int) - 1)), (0, 0, 0, 0, 0, 0, 0, 0, 0, 0, 0, 0)) () _ hy1 (sbr rfl rfl) ?_)
 intro x1 g2 z1 hz1 ez1
 unfold roads_reach_l1 at hz1
 refine l_seq (lr (fun u4 hu4 => sv rfl (sv rfl (s_nil (cc rfl hz1 (fun c1 hz1 => ?_) (fun c1 hz1 => ?_))))))
 refine l_skip (l_seq (l_block (lr (fun u5 hu5 => sp rfl rfl (sl rfl G_hit rfl (sv rfl (bs hz1 fun v1 hv1 hz1 => sd rfl (v_idx rfl rfl hv1 rfl) (sv rfl (sd rfl (v_loadL rfl hv1 rfl) (sd rfl (v_len rfl) (sv rfl (s_nil (bs hz1 fun y2 hy2 hz1 => l_join (fun s => ∃ g3 : Unit, Sb ⟨T [(1, (.ptr (1, u1) 0)), (2, (.ptr (2, u1) 0)), (3, (.ptr (3, u2) 0)), (4, (di x1.1))], G [((1, u1), some (.box 28 (dMap p1))), ((2, u1), some (.box 101 [(.d (.v (.int .u32 0))), (.d (.v (.int .u32 0))), (.d (.v (.int .u32 0))), (.d (.v (.int .u32 0))), (.d (.v (.int .u32 0))), (.d (.v (.int .u32 0))), (.d (.v (.int .u32 0))), (.d (.v (.int .u32 0))), (.d (.v (.int .u32 0))), (.d (.v (.int .u32 0))), (.d (.v (.int .u32 0))), (.d (.v (.int .u32 0)))])), ((3, u2), some (.box 101 [(.d (.v (.int .u32 y2.1))), (.d (.v (.int .u32 y2.2.1))), (.d (.v (.int .u32 y2.2.2.1))), (.d (.v (.int .u32 y2.2.2.2.1))), (.d (.v (.int .u32 y2.2.2.2.2.1))), (.d (.v (.int .u32 y2.2.2.2.2.2.1))), (.d (.v (.int .u32 y2.2.2.2.2.2.2.1))), (.d (.v (.int .u32 y2.2.2.2.2.2.2.2.1))), (.d (.v (.int .u32 y2.2.2.2.2.2.2.2.2.1))), (.d (.v (.int .u32 y2.2.2.2.2.2.2.2.2.2.1))), (.d (.v (.int .u32 y2.2.2.2.2.2.2.2.2.2.2.1))), (.d (.v (.int .u32 y2.2.2.2.2.2.2.2.2.2.2.2)))]))]⟩ s) ?_ ?_)))))))))))))
 refine l_block (l_loop (roads_reach_l2 x1 v1) (fun (x2 : (Int × (Int × Int × Int × Int × Int × Int × Int × Int × Int × Int × Int × Int))) (g4 : Unit) => ⟨T [(1, (.ptr (1, u1) 0)), (2, (.ptr (2, u1) 0)), (3, (.ptr (3, u2) 0)), (4, (di x1.1)), (20, (dl eInt_i64 v1.Next)), (21, (di (v1.Next.length : Int))), (22, (di x2.1))], G [((1, u1), some (.box 28 (dMap p1))), ((2, u1), some (.box 101 [(.d (.v (.int .u32 0))), (.d (.v (.int .u32 0))), (.d (.v (.int .u32 0))), (.d (.v (.int .u32 0))), (.d (.v (.int .u32 0))), (.d (.v (.int .u32 0))), (.d (.v (.int .u32 0))), (.d (.v (.int .u32 0))), (.d (.v (.int .u32 0))), (.d (.v (.int .u32 0))), (.d (.v (.int .u32 0))), (.d (.v (.int .u32 0)))])), ((3, u2), some (.box 101 [(.d (.v (.int .u32 x2.2.1))), (.d (.v (.int .u32 x2.2.2.1))), (.d (.v (.int .u32 x2.2.2.2.1))), (.d (.v (.int .u32 x2.2.2.2.2.1))), (.d (.v (.int .u32 x2.2.2.2.2.2.1))), (.d (.v (.int .u32 x2.2.2.2.2.2.2.1))), (.d (.v (.int .u32 x2.2.2.2.2.2.2.2.1))), (.d (.v (.int .u32 x2.2.2.2.2.2.2.2.2.1))), (.d (.v (.int .u32 x2.2.2.2.2.2.2.2.2.2.1))), (.d (.v (.int .u32 x2.2.2.2.2.2.2.2.2.2.2.1))), (.d (.v (.int .u32 x2.2.2.2.2.2.2.2.2.2.2.2.1))), (.d (.v (.int .u32 x2.2.2.2.2.2.2.2.2.2.2.2.2)))]))]⟩) (0, x1.2) () _ hy2 (sbr rfl rfl) ?_)
 intro x2 g4 z2 hz2 ez2
 unfold roads_reach_l2 at hz2
 refine lr (fun u6 hu6 => sv rfl (s_nil (l_seq (cc rfl hz2 (fun c2 hz2 => ?_) (fun c2 hz2 => ?_)))))
 refine l_skip (l_seq (l_block (lr (fun u7 hu7 => bs hz2 fun v2 hv2 hz2 => sd rfl (v_idx rfl rfl hv2 rfl) (sd rfl (v_loadL rfl hv2 rfl) (sv rfl (s_nil (l_draw rfl fun u8 hu8 => sv rfl (bs hz2 fun v3 hv3 hz2 => sp rfl (v_idxPV rfl rfl hv3 rfl) (sd rfl (v_loadP1 (f := fun x => (.v (.int .u32 x))) rfl (gq rfl) hv3 rfl) (sv rfl (bs hz2 fun v4 hv4 hz2 => sp rfl (v_idxPV rfl rfl hv4 rfl) (sd rfl (v_loadP1 (f := fun x => (.v (.int .u32 x))) rfl (gq rfl) hv4 rfl) (sv rfl (sv rfl (bs hz2 fun v5 hv5 hz2 => sd rfl (v_shl rfl rfl hv5) (sv rfl (sv rfl (bs hz2 fun v6 hv6 hz2 => sp rfl (v_idxPV rfl rfl hv6 rfl) (bs hz2 fun v7 hv7 hz2 => s_store _ _ _ _ _ rfl rfl rfl (gq rfl) (pv_le (xs := ([x2.2.1, x2.2.2.1, x2.2.2.2.1, x2.2.2.2.2.1, x2.2.2.2.2.2.1, x2.2.2.2.2.2.2.1, x2.2.2.2.2.2.2.2.1, x2.2.2.2.2.2.2.2.2.1, x2.2.2.2.2.2.2.2.2.2.1, x2.2.2.2.2.2.2.2.2.2.2.1, x2.2.2.2.2.2.2.2.2.2.2.2.1, x2.2.2.2.2.2.2.2.2.2.2.2.2] : List Int)) hv7 rfl) [(.d (.v (.int .u32 (v7.getD 0 0)))), (.d (.v (.int .u32 (v7.getD 1 0)))), (.d (.v (.int .u32 (v7.getD 2 0)))), (.d (.v (.int .u32 (v7.getD 3 0)))), (.d (.v (.int .u32 (v7.getD 4 0)))), (.d (.v (.int .u32 (v7.getD 5 0)))), (.d (.v (.int .u32 (v7.getD 6 0)))), (.d (.v (.int .u32 (v7.getD 7 0)))), (.d (.v (.int .u32 (v7.getD 8 0)))), (.d (.v (.int .u32 (v7.getD 9 0)))), (.d (.v (.int .u32 (v7.getD 10 0)))), (.d (.v (.int .u32 (v7.getD 11 0))))] (pv_set (fun x => (.v (.int .u32 x))) 0 hv7) (s_nil (l_end (l_sub (s0 := ⟨T [(1, (.ptr _ _)), (2, (.ptr _ _)), (3, (.ptr _ _)), (4, (.d _)), (20, (.d _)), (21, (.d _)), (22, (.d _))], G [((1, u1), some (.box 28 _)), ((2, u1), some (.box 101 _)), ((3, u2), some (.box 101 _))]⟩) (sbr rfl rfl) ?_)))))))))))))))))))))))
 refine l_reg fun u9 hu9 => sv rfl (sv rfl (s_nil (l_nil ?_)))
 cases hz2
 exact ⟨rfl, (), (sbr rfl rfl)⟩
 refine l_exitN rfl ?_
 cases hz2
 obtain rfl := ez2 _ rfl
 refine ⟨nofun, awl_pop rfl (l_j ?_)⟩
 exact ⟨(), (sbr rfl rfl)⟩
 rintro _ ⟨g3, q1⟩
 refine l_end (l_sub q1 (l_reg fun u10 hu10 => sv rfl (sv rfl (sv rfl (s_nil (l_nil ?_))))))
 cases hz1
 exact ⟨rfl, (), (sbr rfl rfl)⟩
 refine l_exitN rfl ?_
 cases hz1
 obtain rfl := ez1 _ rfl
 refine ⟨nofun, awl_pop rfl (l_j ?_)⟩
 exact ⟨(), (sbr rfl rfl)⟩
 rintro _ ⟨g1, q2⟩
 refine l_sub q2 (lr (fun u11 hu11 => sd rfl (v_loadG rfl (gq rfl) rfl rfl) (sst rfl G_hit [(.d (.v (.int .u32 y1.1))), (.d (.v (.int .u32 y1.2.1))), (.d (.v (.int .u32 y1.2.2.1))), (.d (.v (.int .u32 y1.2.2.2.1))), (.d (.v (.int .u32 y1.2.2.2.2.1))), (.d (.v (.int .u32 y1.2.2.2.2.2.1))), (.d (.v (.int .u32 y1.2.2.2.2.2.2.1))), (.d (.v (.int .u32 y1.2.2.2.2.2.2.2.1))), (.d (.v (.int .u32 y1.2.2.2.2.2.2.2.2.1))), (.d (.v (.int .u32 y1.2.2.2.2.2.2.2.2.2.1))), (.d (.v (.int .u32 y1.2.2.2.2.2.2.2.2.2.2.1))), (.d (.v (.int .u32 y1.2.2.2.2.2.2.2.2.2.2.2)))] rfl (s_nil (l_ret ?_)))))
 cases h
 exact fin_ok (.inr rfl) (resD1 (res_cellG rfl G_hit (nl rfl) rfl) rf_d) (.refl _)

noncomputable def roads_set_has (p1 : Int) (p2 : Int) : Option Bool :=
  (shrc .u32 p1 (IntKind.wrap .u64 p2)).bind fun v1 => some ((IntKind.wrap .u32 (((BitVec.ofInt (IntKind.bits .u32) v1 &&&(BitVec.ofInt (IntKind.bits .u32) 1)).toNat : Nat))) == 1)

theorem roads_set_has_ok (p1 : Int) (p2 : Int) (r : Bool) (h : roads_set_has p1 p2 = some r) : PCall Try.prog 58 [(.v (.int .u32 p1)), (i64 p2)] (bo r) := by
 refine l_call (fk Try.func58 Try.ntmps58 m0 (by with_unfolding_all rfl)) (nl rfl) ?_
 unfold roads_set_has at h
 refine l_sub (s0 := ⟨T [(0, (.d _)), (1, (.d _))], G []⟩) (sbr rfl rfl) ?_
 refine lr (fun u1 hu1 => sv rfl (s_nil (lr (fun u2 hu2 => sv rfl (sv rfl (sv rfl (bs h fun v1 hv1 h => sd rfl (v_shr rfl rfl hv1) (sv rfl (sv rfl (sv rfl (s_nil (l_ret ?_))))))))))))
 cases h
 exact fin_ok (.inr rfl) (resD1 (res_t rfl) rf_d) (.refl _)

noncomputable def roads_entry_1_o_o (p1 : Part) (p2 : (Int × Int × Int × Int × Int × Int × Int × Int × Int × Int × Int × Int)) (p3 : Int) : Option Bool :=
  (geti ([p2.1, p2.2.1, p2.2.2.1, p2.2.2.2.1, p2.2.2.2.2.1, p2.2.2.2.2.2.1, p2.2.2.2.2.2.2.1, p2.2.2.2.2.2.2.2.1, p2.2.2.2.2.2.2.2.2.1, p2.2.2.2.2.2.2.2.2.2.1, p2.2.2.2.2.2.2.2.2.2.2.1, p2.2.2.2.2.2.2.2.2.2.2.2] : List Int) p1.Lane_).bind fun v1 => (roads_set_has v1 p3).bind fun v2 => some v2

theorem roads_entry_1_o_o_ok (p1 : Part) (p2 : (Int × Int × Int × Int × Int × Int × Int × Int × Int × Int × Int × Int)) (p3 : Int) (r : Bool) (h : roads_entry_1_o_o p1 p2 p3 = some r) : MCall Try.prog 118 [(.d (.agg (ePart p1))), (.ptr (900000, 0) 0), (.ptr (900001, 0) 0)] [(.box 101 [(.d (.v (.int .u32 p2.1))), (.d (.v (.int .u32 p2.2.1))), (.d (.v (.int .u32 p2.2.2.1))), (.d (.v (.int .u32 p2.2.2.2.1))), (.d (.v (.int .u32 p2.2.2.2.2.1))), (.d (.v (.int .u32 p2.2.2.2.2.2.1))), (.d (.v (.int .u32 p2.2.2.2.2.2.2.1))), (.d (.v (.int .u32 p2.2.2.2.2.2.2.2.1))), (.d (.v (.int .u32 p2.2.2.2.2.2.2.2.2.1))), (.d (.v (.int .u32 p2.2.2.2.2.2.2.2.2.2.1))), (.d (.v (.int .u32 p2.2.2.2.2.2.2.2.2.2.2.1))), (.d (.v (.int .u32 p2.2.2.2.2.2.2.2.2.2.2.2)))]), (.box 3 [(di p3)])] (.d (bo r)) [some (.box 101 [(.d (.v (.int .u32 p2.1))), (.d (.v (.int .u32 p2.2.1))), (.d (.v (.int .u32 p2.2.2.1))), (.d (.v (.int .u32 p2.2.2.2.1))), (.d (.v (.int .u32 p2.2.2.2.2.1))), (.d (.v (.int .u32 p2.2.2.2.2.2.1))), (.d (.v (.int .u32 p2.2.2.2.2.2.2.1))), (.d (.v (.int .u32 p2.2.2.2.2.2.2.2.1))), (.d (.v (.int .u32 p2.2.2.2.2.2.2.2.2.1))), (.d (.v (.int .u32 p2.2.2.2.2.2.2.2.2.2.1))), (.d (.v (.int .u32 p2.2.2.2.2.2.2.2.2.2.2.1))), (.d (.v (.int .u32 p2.2.2.2.2.2.2.2.2.2.2.2)))]), some (.box 3 [(di p3)])] [] := by
 refine m_callF (fk Try.func118 Try.ntmps118 m0 (by with_unfolding_all rfl)) rfl (nl rfl) ?_
 unfold roads_entry_1_o_o at h
 refine l_sub (s0 := ⟨T [(0, (.d _)), (1, (.ptr _ _)), (2, (.ptr _ _))], G [((900000, 0), some (.box 101 _)), ((900001, 0), some (.box 3 _))]⟩) (sbr rfl rfl) ?_
 refine lr (fun u1 hu1 => sn rfl rfl (sv rfl (s_nil (l_seq (l_draw rfl fun u2 hu2 => sp rfl rfl (sl rfl G_hit rfl (bs h fun v1 hv1 h => sp rfl (v_idxPV rfl rfl hv1 rfl) (sd rfl (v_loadP1 (f := fun x => (.v (.int .u32 x))) rfl (gq rfl) hv1 rfl) (sl rfl (gq rfl) rfl (bs h fun v2 hv2 h => s_call rfl rfl all2_refl (roads_set_has_ok _ _  _ hv2) (.inl rfl) (sv rfl (s_nil (l_ret ?_)))))))))))))
 cases h
 exact fin_mf (.inr rfl) [] (resDF1 (res_t rfl) rf_d) (.refl _) ⟨⟨_, _, _, (gq rfl), old_notin_nil, rfl, all2_d, rfl⟩, ⟨_, _, _, (gq rfl), old_notin_nil, rfl, all2_d, rfl⟩, trivial⟩

noncomputable def slices_IndexFunc_Part_Part_roads_entry_1oo_l1 (p1 : (List Part)) (p2 : (Int × Int × Int × Int × Int × Int × Int × Int × Int × Int × Int × Int)) (p3 : Int) (x1 : Int) : Option (Stp Int (Sum Unit Int)) :=
  cond (decide (x1 < (p1.length : Int))) ((geti p1 x1).bind fun v1 => (roads_entry_1_o_o v1 p2 p3).bind fun v2 => cond v2 (some (.out (.inr x1))) (some (.go (w64 (x1 + 1))))) (some (.out (.inl ())))
noncomputable def slices_IndexFunc_Part_Part_roads_entry_1oo (p1 : (List Part)) (p2 : (Int × Int × Int × Int × Int × Int × Int × Int × Int × Int × Int × Int)) (p3 : Int) : Option Int :=
  thenS (loop (slices_IndexFunc_Part_Part_roads_entry_1oo_l1 p1 p2 p3) 0) (fun _ => some (-1)) (fun r => some r)

theorem slices_IndexFunc_Part_Part_roads_entry_1oo_ok (p1 : (List Part)) (p2 : (Int × Int × Int × Int × Int × Int × Int × Int × Int × Int × Int × Int)) (p3 : Int) (r : Int) (h : slices_IndexFunc_Part_Part_roads_entry_1oo p1 p2 p3 = some r) : MCall Try.prog 84 [(dl ePart p1), (.fn (.func 118) [] [(.ptr (900000, 0) 0), (.ptr (900001, 0) 0)])] [(.box 101 [(.d (.v (.int .u32 p2.1))), (.d (.v (.int .u32 p2.2.1))), (.d (.v (.int .u32 p2.2.2.1))), (.d (.v (.int .u32 p2.2.2.2.1))), (.d (.v (.int .u32 p2.2.2.2.2.1))), (.d (.v (.int .u32 p2.2.2.2.2.2.1))), (.d (.v (.int .u32 p2.2.2.2.2.2.2.1))), (.d (.v (.int .u32 p2.2.2.2.2.2.2.2.1))), (.d (.v (.int .u32 p2.2.2.2.2.2.2.2.2.1))), (.d (.v (.int .u32 p2.2.2.2.2.2.2.2.2.2.1))), (.d (.v (.int .u32 p2.2.2.2.2.2.2.2.2.2.2.1))), (.d (.v (.int .u32 p2.2.2.2.2.2.2.2.2.2.2.2)))]), (.box 3 [(di p3)])] (di r) [some (.box 101 [(.d (.v (.int .u32 p2.1))), (.d (.v (.int .u32 p2.2.1))), (.d (.v (.int .u32 p2.2.2.1))), (.d (.v (.int .u32 p2.2.2.2.1))), (.d (.v (.int .u32 p2.2.2.2.2.1))), (.d (.v (.int .u32 p2.2.2.2.2.2.1))), (.d (.v (.int .u32 p2.2.2.2.2.2.2.1))), (.d (.v (.int .u32 p2.2.2.2.2.2.2.2.1))), (.d (.v (.int .u32 p2.2.2.2.2.2.2.2.2.1))), (.d (.v (.int .u32 p2.2.2.2.2.2.2.2.2.2.1))), (.d (.v (.int .u32 p2.2.2.2.2.2.2.2.2.2.2.1))), (.d (.v (.int .u32 p2.2.2.2.2.2.2.2.2.2.2.2)))]), some (.box 3 [(di p3)])] [] := by
 refine m_callF (fk Try.func84 Try.ntmps84 (fun r => if r == 4 then [1004005] else []) (by with_unfolding_all rfl)) rfl (nl rfl) ?_
 unfold slices_IndexFunc_Part_Part_roads_entry_1oo at h
 refine l_sub (s0 := ⟨T [(0, (.d _)), (1, (.fn _ _ _))], G [((900000, 0), some (.box 101 _)), ((900001, 0), some (.box 3 _))]⟩) (sbr rfl rfl) ?_
 refine lr (fun u1 hu1 => sv rfl (s_nil (l_seq (lr (fun u2 hu2 => sv rfl (sd rfl (v_len rfl) (sv rfl (s_nil (js h fun z1 hz1 h => l_join (fun s => ∃ (y1 : Unit) (g1 : Unit), z1 = .inl y1 ∧ Sb ⟨T [(1, (.fn (.func 118) [] [(.ptr (900000, 0) 0), (.ptr (900001, 0) 0)]))], G [((900000, 0), some (.box 101 [(.d (.v (.int .u32 p2.1))), (.d (.v (.int .u32 p2.2.1))), (.d (.v (.int .u32 p2.2.2.1))), (.d (.v (.int .u32 p2.2.2.2.1))), (.d (.v (.int .u32 p2.2.2.2.2.1))), (.d (.v (.int .u32 p2.2.2.2.2.2.1))), (.d (.v (.int .u32 p2.2.2.2.2.2.2.1))), (.d (.v (.int .u32 p2.2.2.2.2.2.2.2.1))), (.d (.v (.int .u32 p2.2.2.2.2.2.2.2.2.1))), (.d (.v (.int .u32 p2.2.2.2.2.2.2.2.2.2.1))), (.d (.v (.int .u32 p2.2.2.2.2.2.2.2.2.2.2.1))), (.d (.v (.int .u32 p2.2.2.2.2.2.2.2.2.2.2.2)))])), ((900001, 0), some (.box 3 [(di p3)]))]⟩ s) ?_ ?_)))))))))
 refine l_block (l_loop (slices_IndexFunc_Part_Part_roads_entry_1oo_l1 p1 p2 p3) (fun (x1 : Int) (g2 : Unit) => ⟨T [(0, (dl ePart p1)), (1, (.fn (.func 118) [] [(.ptr (900000, 0) 0), (.ptr (900001, 0) 0)])), (7, (di (p1.length : Int))), (8, (di x1))], G [((900000, 0), some (.box 101 [(.d (.v (.int .u32 p2.1))), (.d (.v (.int .u32 p2.2.1))), (.d (.v (.int .u32 p2.2.2.1))), (.d (.v (.int .u32 p2.2.2.2.1))), (.d (.v (.int .u32 p2.2.2.2.2.1))), (.d (.v (.int .u32 p2.2.2.2.2.2.1))), (.d (.v (.int .u32 p2.2.2.2.2.2.2.1))), (.d (.v (.int .u32 p2.2.2.2.2.2.2.2.1))), (.d (.v (.int .u32 p2.2.2.2.2.2.2.2.2.1))), (.d (.v (.int .u32 p2.2.2.2.2.2.2.2.2.2.1))), (.d (.v (.int .u32 p2.2.2.2.2.2.2.2.2.2.2.1))), (.d (.v (.int .u32 p2.2.2.2.2.2.2.2.2.2.2.2)))])), ((900001, 0), some (.box 3 [(di p3)]))]⟩) 0 () _ hz1 (sbr rfl rfl) ?_)
 intro x1 g2 z2 hz2 ez2
 unfold slices_IndexFunc_Part_Part_roads_entry_1oo_l1 at hz2
 refine lr (fun u3 hu3 => sv rfl (s_nil (l_seq (cc rfl hz2 (fun c1 hz2 => ?_) (fun c1 hz2 => ?_)))))
 refine l_skip (l_seq (l_block (lr (fun u4 hu4 => sv rfl (sv rfl (s_nil (lr (fun u5 hu5 => s_val (.fn _ _ _) rfl rfl (sv rfl (sv rfl (bs hz2 fun v1 hv1 hz2 => sd rfl (v_idx rfl rfl hv1 rfl) (sd rfl (v_loadLG rfl hv1 rfl rfl) (bs hz2 fun v2 hv2 hz2 => s_oc (v := .d (bo v2)) (us := [(900000, 0), (900001, 0)]) (oc_m (roads_entry_1_o_o_ok _ _ _ _ hv2) [(900000, 0), (900001, 0)] [(900000, 0), (900001, 0)] _ (((900001, 0), some (.box 3 [(di p3)])) :: (((900000, 0), some (.box 101 [(.d (.v (.int .u32 p2.1))), (.d (.v (.int .u32 p2.2.1))), (.d (.v (.int .u32 p2.2.2.1))), (.d (.v (.int .u32 p2.2.2.2.1))), (.d (.v (.int .u32 p2.2.2.2.2.1))), (.d (.v (.int .u32 p2.2.2.2.2.2.1))), (.d (.v (.int .u32 p2.2.2.2.2.2.2.1))), (.d (.v (.int .u32 p2.2.2.2.2.2.2.2.1))), (.d (.v (.int .u32 p2.2.2.2.2.2.2.2.2.1))), (.d (.v (.int .u32 p2.2.2.2.2.2.2.2.2.2.1))), (.d (.v (.int .u32 p2.2.2.2.2.2.2.2.2.2.2.1))), (.d (.v (.int .u32 p2.2.2.2.2.2.2.2.2.2.2.2)))])) :: _)) rfl all2_av (kl_cons kr_d (kl_cons (kr_ptr G_hit rfl) (kl_cons (kr_ptr (G_skip rfl G_hit) rfl) kl_nil))) (live_cons G_hit (live_cons (G_skip rfl G_hit) live_nil)) ⟨⟨_, G_hit, .of rfl⟩, ⟨_, (G_skip rfl G_hit), .of rfl⟩, trivial⟩ (fun _ h => h) (nd2 (key_ne rfl)) rfl rfl rfl) (s_nil (cc rfl hz2 (fun c2 hz2 => ?_) (fun c2 hz2 => ?_))))))))))))))))
 refine lr (fun u6 hu6 => sv rfl (sv rfl (s_nil (l_ret ?_))))
 cases hz2
 obtain rfl := ez2 _ rfl
 refine ⟨nofun, awl_ret ?_⟩
 rw [Sum.elim_inr] at h
 cases h
 exact fin_mf (.inr rfl) [] (resDF1 (res_t rfl) rf_d) (.refl _) ⟨⟨_, _, _, (gq rfl), old_notin_nil, rfl, all2_d, rfl⟩, ⟨_, _, _, G_hit, old_notin_nil, rfl, all2_d, rfl⟩, trivial⟩
 refine l_skip (l_end (l_reg fun u7 hu7 => sv rfl (sv rfl (s_nil (l_nil ?_)))))
 cases hz2
 exact ⟨rfl, (), (sbr rfl rfl)⟩
 refine l_exitN rfl ?_
 cases hz2
 obtain rfl := ez2 _ rfl
 refine ⟨nofun, awl_pop rfl (l_j ?_)⟩
 exact ⟨_, (), rfl, (sbr rfl rfl)⟩
 rintro _ ⟨y1, g1, rfl, q1⟩
 rw [Sum.elim_inl] at h
 refine l_sub q1 (lr (fun u8 hu8 => sv rfl (s_nil (l_ret ?_))))
 cases h
 exact fin_mf (.inr rfl) [] (resDF1 (res_t rfl) rf_d) (.refl _) ⟨⟨_, _, _, G_hit, old_notin_nil, rfl, all2_d, rfl⟩, ⟨_, _, _, (gq rfl), old_notin_nil, rfl, all2_d, rfl⟩, trivial⟩

noncomputable def slices_ContainsFunc_Part_Part_roads_entry_1oo (p1 : (List Part)) (p2 : (Int × Int × Int × Int × Int × Int × Int × Int × Int × Int × Int × Int)) (p3 : Int) : Option Bool :=
  (slices_IndexFunc_Part_Part_roads_entry_1oo p1 p2 p3).bind fun v1 => some (decide (v1 ≥ 0))

theorem slices_ContainsFunc_Part_Part_roads_entry_1oo_ok (p1 : (List Part)) (p2 : (Int × Int × Int × Int × Int × Int × Int × Int × Int × Int × Int × Int)) (p3 : Int) (r : Bool) (h : slices_ContainsFunc_Part_Part_roads_entry_1oo p1 p2 p3 = some r) : MCall Try.prog 117 [(dl ePart p1), (.fn (.func 118) [] [(.ptr (900000, 0) 0), (.ptr (900001, 0) 0)])] [(.box 101 [(.d (.v (.int .u32 p2.1))), (.d (.v (.int .u32 p2.2.1))), (.d (.v (.int .u32 p2.2.2.1))), (.d (.v (.int .u32 p2.2.2.2.1))), (.d (.v (.int .u32 p2.2.2.2.2.1))), (.d (.v (.int .u32 p2.2.2.2.2.2.1))), (.d (.v (.int .u32 p2.2.2.2.2.2.2.1))), (.d (.v (.int .u32 p2.2.2.2.2.2.2.2.1))), (.d (.v (.int .u32 p2.2.2.2.2.2.2.2.2.1))), (.d (.v (.int .u32 p2.2.2.2.2.2.2.2.2.2.1))), (.d (.v (.int .u32 p2.2.2.2.2.2.2.2.2.2.2.1))), (.d (.v (.int .u32 p2.2.2.2.2.2.2.2.2.2.2.2)))]), (.box 3 [(di p3)])] (.d (bo r)) [some (.box 101 [(.d (.v (.int .u32 p2.1))), (.d (.v (.int .u32 p2.2.1))), (.d (.v (.int .u32 p2.2.2.1))), (.d (.v (.int .u32 p2.2.2.2.1))), (.d (.v (.int .u32 p2.2.2.2.2.1))), (.d (.v (.int .u32 p2.2.2.2.2.2.1))), (.d (.v (.int .u32 p2.2.2.2.2.2.2.1))), (.d (.v (.int .u32 p2.2.2.2.2.2.2.2.1))), (.d (.v (.int .u32 p2.2.2.2.2.2.2.2.2.1))), (.d (.v (.int .u32 p2.2.2.2.2.2.2.2.2.2.1))), (.d (.v (.int .u32 p2.2.2.2.2.2.2.2.2.2.2.1))), (.d (.v (.int .u32 p2.2.2.2.2.2.2.2.2.2.2.2)))]), some (.box 3 [(di p3)])] [] := by
 refine m_callF (fk Try.func117 Try.ntmps117 (fun r => if r == 1 then [1001002] else []) (by with_unfolding_all rfl)) rfl (nl rfl) ?_
 unfold slices_ContainsFunc_Part_Part_roads_entry_1oo at h
 refine l_sub (s0 := ⟨T [(0, (.d _)), (1, (.fn _ _ _))], G [((900000, 0), some (.box 101 _)), ((900001, 0), some (.box 3 _))]⟩) (sbr rfl rfl) ?_
 refine lr (fun u1 hu1 => sv rfl (s_nil (lr (fun u2 hu2 => sv rfl (s_val (.fn _ _ _) rfl rfl (bs h fun v1 hv1 h => s_oc (v := .d (i64 v1)) (us := [(900000, 0), (900001, 0)]) (oc_m (slices_IndexFunc_Part_Part_roads_entry_1oo_ok _ _ _ _ hv1) [(900000, 0), (900001, 0)] [(900000, 0), (900001, 0)] _ (((900001, 0), some (.box 3 [(di p3)])) :: (((900000, 0), some (.box 101 [(.d (.v (.int .u32 p2.1))), (.d (.v (.int .u32 p2.2.1))), (.d (.v (.int .u32 p2.2.2.1))), (.d (.v (.int .u32 p2.2.2.2.1))), (.d (.v (.int .u32 p2.2.2.2.2.1))), (.d (.v (.int .u32 p2.2.2.2.2.2.1))), (.d (.v (.int .u32 p2.2.2.2.2.2.2.1))), (.d (.v (.int .u32 p2.2.2.2.2.2.2.2.1))), (.d (.v (.int .u32 p2.2.2.2.2.2.2.2.2.1))), (.d (.v (.int .u32 p2.2.2.2.2.2.2.2.2.2.1))), (.d (.v (.int .u32 p2.2.2.2.2.2.2.2.2.2.2.1))), (.d (.v (.int .u32 p2.2.2.2.2.2.2.2.2.2.2.2)))])) :: _)) rfl all2_av (kl_cons kr_d (kl_cons (kr_fn rfl (kl_cons (kr_ptr G_hit rfl) (kl_cons (kr_ptr (G_skip rfl G_hit) rfl) kl_nil))) kl_nil)) (live_cons G_hit (live_cons (G_skip rfl G_hit) live_nil)) ⟨⟨_, G_hit, .of rfl⟩, ⟨_, (G_skip rfl G_hit), .of rfl⟩, trivial⟩ (fun _ h => h) (nd2 (key_ne rfl)) rfl rfl rfl) (sv rfl (sv rfl (s_nil (l_ret ?_))))))))))
 cases h
 exact fin_mf (.inr rfl) [] (resDF1 (res_t rfl) rf_d) (.refl _) ⟨⟨_, _, _, (gq rfl), old_notin_nil, rfl, all2_d, rfl⟩, ⟨_, _, _, G_hit, old_notin_nil, rfl, all2_d, rfl⟩, trivial⟩

noncomputable def roads_entry (p1 : Map) (p2 : Zone) (p3 : Int) : Option Bool :=
  (roads_reach p1).bind fun v1 => (slices_ContainsFunc_Part_Part_roads_entry_1oo p2.Parts v1 p3).bind fun v2 => some (!v2)

theorem roads_entry_ok (p1 : Map) (p2 : Zone) (p3 : Int) (r : Bool) (h : roads_entry p1 p2 p3 = some r) : PCall Try.prog 86 [(.agg (eMap p1)), (.agg [(.list (List.map ePart p2.Parts)), (i64 p2.Signal_)]), (i64 p3)] (bo r) := by
 refine l_call (fk Try.func86 Try.ntmps86 (fun r => if r == 2 then [1002003] else []) (by with_unfolding_all rfl)) (nl rfl) ?_
 unfold roads_entry at h
 refine l_sub (s0 := ⟨T [(0, (.d _)), (1, (.d _)), (2, (.d _))], G []⟩) (sbr rfl rfl) ?_
 refine lr (fun u1 hu1 => sn rfl rfl (sn rfl rfl (sn rfl rfl (sv rfl (s_nil (lr (fun u2 hu2 => sd rfl (v_loadG rfl (gq rfl) rfl rfl) (bs h fun v1 hv1 h => s_call rfl rfl all2_refl (roads_reach_ok _  _ hv1) (.inl rfl) (sn rfl rfl (sst rfl G_hit [(.d (.v (.int .u32 v1.1))), (.d (.v (.int .u32 v1.2.1))), (.d (.v (.int .u32 v1.2.2.1))), (.d (.v (.int .u32 v1.2.2.2.1))), (.d (.v (.int .u32 v1.2.2.2.2.1))), (.d (.v (.int .u32 v1.2.2.2.2.2.1))), (.d (.v (.int .u32 v1.2.2.2.2.2.2.1))), (.d (.v (.int .u32 v1.2.2.2.2.2.2.2.1))), (.d (.v (.int .u32 v1.2.2.2.2.2.2.2.2.1))), (.d (.v (.int .u32 v1.2.2.2.2.2.2.2.2.2.1))), (.d (.v (.int .u32 v1.2.2.2.2.2.2.2.2.2.2.1))), (.d (.v (.int .u32 v1.2.2.2.2.2.2.2.2.2.2.2)))] rfl (s_nil (lr (fun u3 hu3 => sp rfl rfl (sl rfl (gq rfl) rfl (s_val (.fn _ _ _) rfl rfl (bs h fun v2 hv2 h => s_oc (v := .d (bo v2)) (us := [(7, u2), (5, u1)]) (oc_m (slices_ContainsFunc_Part_Part_roads_entry_1oo_ok _ _ _ _ hv2) [(7, u2), (5, u1)] [(7, u2), (5, u1)] _ (((5, u1), some (.box 3 [(di p3)])) :: (((7, u2), some (.box 101 [(.d (.v (.int .u32 v1.1))), (.d (.v (.int .u32 v1.2.1))), (.d (.v (.int .u32 v1.2.2.1))), (.d (.v (.int .u32 v1.2.2.2.1))), (.d (.v (.int .u32 v1.2.2.2.2.1))), (.d (.v (.int .u32 v1.2.2.2.2.2.1))), (.d (.v (.int .u32 v1.2.2.2.2.2.2.1))), (.d (.v (.int .u32 v1.2.2.2.2.2.2.2.1))), (.d (.v (.int .u32 v1.2.2.2.2.2.2.2.2.1))), (.d (.v (.int .u32 v1.2.2.2.2.2.2.2.2.2.1))), (.d (.v (.int .u32 v1.2.2.2.2.2.2.2.2.2.2.1))), (.d (.v (.int .u32 v1.2.2.2.2.2.2.2.2.2.2.2)))])) :: _)) rfl all2_av (kl_cons kr_d (kl_cons (kr_fn rfl (kl_cons (kr_ptr G_hit rfl) (kl_cons (kr_ptr (G_skip rfl (G_skip rfl G_hit)) rfl) kl_nil))) kl_nil)) (live_cons G_hit (live_cons (G_skip rfl (G_skip rfl G_hit)) live_nil)) ⟨⟨_, G_hit, .of rfl⟩, ⟨_, (G_skip rfl (G_skip rfl G_hit)), .of rfl⟩, trivial⟩ (fun _ h => h) (nd2 (key_ne rfl)) rfl rfl rfl) (s_val (.d (bo (!v2))) rfl rfl (sv rfl (s_nil (l_ret ?_))))))))))))))))))))
 cases h
 exact fin_ok (.inr rfl) (resD1 (res_t rfl) rf_d) (.refl _)

noncomputable def roads_merges_1_1_b_b (p1 : Int) (p2 : Map) (p3 : Zone) : Option Bool :=
  (roads_entry p2 p3 p1).bind fun v1 => some (!v1)

theorem roads_merges_1_1_b_b_ok (p1 : Int) (p2 : Map) (p3 : Zone) (r : Bool) (h : roads_merges_1_1_b_b p1 p2 p3 = some r) : PCall Try.prog 112 [(i64 p1), (.bp (eMap p2) 0), (.bp [(.list (List.map ePart p3.Parts)), (i64 p3.Signal_)] 0)] (bo r) := by
 refine l_call (fk Try.func112 Try.ntmps112 m0 (by with_unfolding_all rfl)) (nl rfl) ?_
 unfold roads_merges_1_1_b_b at h
 refine l_sub (s0 := ⟨T [(0, (.d _)), (1, (.d _)), (2, (.d _))], G []⟩) (sbr rfl rfl) ?_
 refine lr (fun u1 hu1 => sv rfl (s_nil (lr (fun u2 hu2 => sv rfl (sv rfl (sv rfl (bs h fun v1 hv1 h => s_call rfl rfl all2_refl (roads_entry_ok _ _ _  _ hv1) (.inl rfl) (s_val (.d (bo (!v1))) rfl rfl (sv rfl (s_nil (l_ret ?_)))))))))))
 cases h
 exact fin_ok (.inr rfl) (resD1 (res_t rfl) rf_d) (.refl _)

noncomputable def slices_IndexFunc_int_int_roads_merges_1_1bb_l1 (p1 : (List Int)) (p2 : Map) (p3 : Zone) (x1 : Int) : Option (Stp Int (Sum Unit Int)) :=
  cond (decide (x1 < (p1.length : Int))) ((geti p1 x1).bind fun v1 => (roads_merges_1_1_b_b v1 p2 p3).bind fun v2 => cond v2 (some (.out (.inr x1))) (some (.go (w64 (x1 + 1))))) (some (.out (.inl ())))
noncomputable def slices_IndexFunc_int_int_roads_merges_1_1bb (p1 : (List Int)) (p2 : Map) (p3 : Zone) : Option Int :=
  thenS (loop (slices_IndexFunc_int_int_roads_merges_1_1bb_l1 p1 p2 p3) 0) (fun _ => some (-1)) (fun r => some r)

theorem slices_IndexFunc_int_int_roads_merges_1_1bb_ok (p1 : (List Int)) (p2 : Map) (p3 : Zone) (r : Int) (h : slices_IndexFunc_int_int_roads_merges_1_1bb p1 p2 p3 = some r) : PCall Try.prog 53 [(.list (List.map eInt_i64 p1)), (.fn (.func 112) [] [(.bp (eMap p2) 0), (.bp [(.list (List.map ePart p3.Parts)), (i64 p3.Signal_)] 0)])] (i64 r) := by
 refine l_call (fk Try.func53 Try.ntmps53 m0 (by with_unfolding_all rfl)) (nl rfl) ?_
 unfold slices_IndexFunc_int_int_roads_merges_1_1bb at h
 refine l_sub (s0 := ⟨T [(0, (.d _)), (1, (.d _))], G []⟩) (sbr rfl rfl) ?_
 refine lr (fun u1 hu1 => sv rfl (s_nil (l_seq (lr (fun u2 hu2 => sv rfl (sd rfl (v_len rfl) (sv rfl (s_nil (js h fun z1 hz1 h => l_join (fun s => ∃ (y1 : Unit) (g1 : Unit), z1 = .inl y1 ∧ Sb ⟨T [], G []⟩ s) ?_ ?_)))))))))
 refine l_block (l_loop (slices_IndexFunc_int_int_roads_merges_1_1bb_l1 p1 p2 p3) (fun (x1 : Int) (g2 : Unit) => ⟨T [(0, (dl eInt_i64 p1)), (1, (.d (.fn (.func 112) [] [(.bp (eMap p2) 0), (.bp [(.list (List.map ePart p3.Parts)), (i64 p3.Signal_)] 0)]))), (7, (di (p1.length : Int))), (8, (di x1))], G []⟩) 0 () _ hz1 (sbr rfl rfl) ?_)
 intro x1 g2 z2 hz2 ez2
 unfold slices_IndexFunc_int_int_roads_merges_1_1bb_l1 at hz2
 refine lr (fun u3 hu3 => sv rfl (s_nil (l_seq (cc rfl hz2 (fun c1 hz2 => ?_) (fun c1 hz2 => ?_)))))
 refine l_skip (l_seq (l_block (lr (fun u4 hu4 => sv rfl (sv rfl (s_nil (lr (fun u5 hu5 => sv rfl (sv rfl (sv rfl (bs hz2 fun v1 hv1 hz2 => sd rfl (v_idx rfl rfl hv1 rfl) (sd rfl (v_loadL rfl hv1 rfl) (bs hz2 fun v2 hv2 hz2 => s_call rfl rfl all2_refl (roads_merges_1_1_b_b_ok _ _ _  _ hv2) (.inl rfl) (s_nil (cc rfl hz2 (fun c2 hz2 => ?_) (fun c2 hz2 => ?_))))))))))))))))
 refine lr (fun u6 hu6 => sv rfl (sv rfl (s_nil (l_ret ?_))))
 cases hz2
 obtain rfl := ez2 _ rfl
 refine ⟨nofun, awl_ret ?_⟩
 rw [Sum.elim_inr] at h
 cases h
 exact fin_ok (.inr rfl) (resD1 (res_t rfl) rf_d) (.refl _)
 refine l_skip (l_end (l_reg fun u7 hu7 => sv rfl (sv rfl (s_nil (l_nil ?_)))))
 cases hz2
 exact ⟨rfl, (), (sbr rfl rfl)⟩
 refine l_exitN rfl ?_
 cases hz2
 obtain rfl := ez2 _ rfl
 refine ⟨nofun, awl_pop rfl (l_j ?_)⟩
 exact ⟨_, (), rfl, (sbr rfl rfl)⟩
 rintro _ ⟨y1, g1, rfl, q1⟩
 rw [Sum.elim_inl] at h
 refine l_sub q1 (lr (fun u8 hu8 => sv rfl (s_nil (l_ret ?_))))
 cases h
 exact fin_ok (.inr rfl) (resD1 (res_t rfl) rf_d) (.refl _)

noncomputable def slices_ContainsFunc_int_int_roads_merges_1_1bb (p1 : (List Int)) (p2 : Map) (p3 : Zone) : Option Bool :=
  (slices_IndexFunc_int_int_roads_merges_1_1bb p1 p2 p3).bind fun v1 => some (decide (v1 ≥ 0))

theorem slices_ContainsFunc_int_int_roads_merges_1_1bb_ok (p1 : (List Int)) (p2 : Map) (p3 : Zone) (r : Bool) (h : slices_ContainsFunc_int_int_roads_merges_1_1bb p1 p2 p3 = some r) : PCall Try.prog 111 [(.list (List.map eInt_i64 p1)), (.fn (.func 112) [] [(.bp (eMap p2) 0), (.bp [(.list (List.map ePart p3.Parts)), (i64 p3.Signal_)] 0)])] (bo r) := by
 refine l_call (fk Try.func111 Try.ntmps111 m0 (by with_unfolding_all rfl)) (nl rfl) ?_
 unfold slices_ContainsFunc_int_int_roads_merges_1_1bb at h
 refine l_sub (s0 := ⟨T [(0, (.d _)), (1, (.d _))], G []⟩) (sbr rfl rfl) ?_
 refine lr (fun u1 hu1 => sv rfl (s_nil (lr (fun u2 hu2 => sv rfl (sv rfl (bs h fun v1 hv1 h => s_call rfl rfl all2_refl (slices_IndexFunc_int_int_roads_merges_1_1bb_ok _ _ _  _ hv1) (.inl rfl) (sv rfl (sv rfl (s_nil (l_ret ?_))))))))))
 cases h
 exact fin_ok (.inr rfl) (resD1 (res_t rfl) rf_d) (.refl _)

noncomputable def roads_merges_1_b_b_b (p1 : Zone) (p2 : Map) (p3 : Int) (p4 : (List Int)) : Option Bool :=
  (roads_closed p2 p1 p3).bind fun v1 => ((cond v1 (slices_ContainsFunc_int_int_roads_merges_1_1bb p4 p2 p1) (some default))).bind fun v2 => some (v1 && (!v2))

theorem roads_merges_1_b_b_b_ok (p1 : Zone) (p2 : Map) (p3 : Int) (p4 : (List Int)) (r : Bool) (h : roads_merges_1_b_b_b p1 p2 p3 p4 = some r) : PCall Try.prog 109 [(.agg [(.list (List.map ePart p1.Parts)), (i64 p1.Signal_)]), (.bp (eMap p2) 0), (.bp [(i64 p3)] 0), (.bp [(.list (List.map eInt_i64 p4))] 0)] (bo r) := by
 refine l_call (fk Try.func109 Try.ntmps109 m0 (by with_unfolding_all rfl)) (nl rfl) ?_
 unfold roads_merges_1_b_b_b at h
 refine l_sub (s0 := ⟨T [(0, (.d _)), (1, (.d _)), (2, (.d _)), (3, (.d _))], G []⟩) (sbr rfl rfl) ?_
 refine lr (fun u1 hu1 => sn rfl rfl (sv rfl (s_nil (lr (fun u2 hu2 => sv rfl (sd rfl (v_loadG rfl G_hit rfl rfl) (sv rfl (bs h fun v1 hv1 h => s_call rfl rfl all2_refl (roads_closed_ok _ _ _  _ hv1) (.inl rfl) (sv rfl (gt rfl (fun _ => rfl) (g_val _ (.fn _ _ _) rfl (gw_t rfl) (fun _ => rfl) (bs h fun v2 hv2 h => ?_))))))))))))
 refine g_call v1 (bo v2) (gw_t rfl) (fun w3 => ⟨_, [(dl eInt_i64 p4), (.fn (.func 112) [] [(.d (.bp (eMap p2) 0)), (.ptr (4, u1) 0)])], _, _, (by simp only [gd_pos w3]; rfl), (rD (rfL_cons (rf_fn rfL_nil (rD (rfL_cons (rf_ptr G_hit (rD (rD rfL_nil))) rfL_nil))) rfL_nil)), all2_refl, slices_ContainsFunc_int_int_roads_merges_1_1bb_ok _ _ _  _ (cond_t w3 hv2), (.inr rfl)⟩) ?_
 refine g_val _ (.d (bo (!v2))) rfl (gw_t rfl) (fun w4 => (by simp only [gd_pos w4]; rfl)) ?_
 refine sa rfl rfl rfl (sv rfl (s_nil (l_ret ?_)))
 cases h
 exact fin_ok (.inr rfl) (resD1 (res_t rfl) rf_d) (.refl _)

noncomputable def slices_IndexFunc_Zone_Zone_roads_merges_1bbb_l1 (p1 : (List Zone)) (p2 : Map) (p3 : Int) (p4 : (List Int)) (x1 : Int) : Option (Stp Int (Sum Unit Int)) :=
  cond (decide (x1 < (p1.length : Int))) ((geti p1 x1).bind fun v1 => (roads_merges_1_b_b_b v1 p2 p3 p4).bind fun v2 => cond v2 (some (.out (.inr x1))) (some (.go (w64 (x1 + 1))))) (some (.out (.inl ())))
noncomputable def slices_IndexFunc_Zone_Zone_roads_merges_1bbb (p1 : (List Zone)) (p2 : Map) (p3 : Int) (p4 : (List Int)) : Option Int :=
  thenS (loop (slices_IndexFunc_Zone_Zone_roads_merges_1bbb_l1 p1 p2 p3 p4) 0) (fun _ => some (-1)) (fun r => some r)

theorem slices_IndexFunc_Zone_Zone_roads_merges_1bbb_ok (p1 : (List Zone)) (p2 : Map) (p3 : Int) (p4 : (List Int)) (r : Int) (h : slices_IndexFunc_Zone_Zone_roads_merges_1bbb p1 p2 p3 p4 = some r) : PCall Try.prog 128 [(.list (List.map eZone p1)), (.fn (.func 109) [] [(.bp (eMap p2) 0), (.bp [(i64 p3)] 0), (.bp [(.list (List.map eInt_i64 p4))] 0)])] (i64 r) := by
 refine l_call (fk Try.func128 Try.ntmps128 m0 (by with_unfolding_all rfl)) (nl rfl) ?_
 unfold slices_IndexFunc_Zone_Zone_roads_merges_1bbb at h
 refine l_sub (s0 := ⟨T [(0, (.d _)), (1, (.d _))], G []⟩) (sbr rfl rfl) ?_
 refine lr (fun u1 hu1 => sv rfl (s_nil (l_seq (lr (fun u2 hu2 => sv rfl (sd rfl (v_len rfl) (sv rfl (s_nil (js h fun z1 hz1 h => l_join (fun s => ∃ (y1 : Unit) (g1 : Unit), z1 = .inl y1 ∧ Sb ⟨T [], G []⟩ s) ?_ ?_)))))))))
 refine l_block (l_loop (slices_IndexFunc_Zone_Zone_roads_merges_1bbb_l1 p1 p2 p3 p4) (fun (x1 : Int) (g2 : Unit) => ⟨T [(0, (dl eZone p1)), (1, (.d (.fn (.func 109) [] [(.bp (eMap p2) 0), (.bp [(i64 p3)] 0), (.bp [(.list (List.map eInt_i64 p4))] 0)]))), (7, (di (p1.length : Int))), (8, (di x1))], G []⟩) 0 () _ hz1 (sbr rfl rfl) ?_)
 intro x1 g2 z2 hz2 ez2
 unfold slices_IndexFunc_Zone_Zone_roads_merges_1bbb_l1 at hz2
 refine lr (fun u3 hu3 => sv rfl (s_nil (l_seq (cc rfl hz2 (fun c1 hz2 => ?_) (fun c1 hz2 => ?_)))))
 refine l_skip (l_seq (l_block (lr (fun u4 hu4 => sv rfl (sv rfl (s_nil (lr (fun u5 hu5 => sv rfl (sv rfl (sv rfl (bs hz2 fun v1 hv1 hz2 => sd rfl (v_idx rfl rfl hv1 rfl) (sd rfl (v_loadLG rfl hv1 rfl rfl) (bs hz2 fun v2 hv2 hz2 => s_call rfl rfl all2_refl (roads_merges_1_b_b_b_ok _ _ _ _  _ hv2) (.inl rfl) (s_nil (cc rfl hz2 (fun c2 hz2 => ?_) (fun c2 hz2 => ?_))))))))))))))))
 refine lr (fun u6 hu6 => sv rfl (sv rfl (s_nil (l_ret ?_))))
 cases hz2
 obtain rfl := ez2 _ rfl
 refine ⟨nofun, awl_ret ?_⟩
 rw [Sum.elim_inr] at h
 cases h
 exact fin_ok (.inr rfl) (resD1 (res_t rfl) rf_d) (.refl _)
 refine l_skip (l_end (l_reg fun u7 hu7 => sv rfl (sv rfl (s_nil (l_nil ?_)))))
 cases hz2
 exact ⟨rfl, (), (sbr rfl rfl)⟩
 refine l_exitN rfl ?_
 cases hz2
 obtain rfl := ez2 _ rfl
 refine ⟨nofun, awl_pop rfl (l_j ?_)⟩
 exact ⟨_, (), rfl, (sbr rfl rfl)⟩
 rintro _ ⟨y1, g1, rfl, q1⟩
 rw [Sum.elim_inl] at h
 refine l_sub q1 (lr (fun u8 hu8 => sv rfl (s_nil (l_ret ?_))))
 cases h
 exact fin_ok (.inr rfl) (resD1 (res_t rfl) rf_d) (.refl _)

noncomputable def slices_ContainsFunc_Zone_Zone_roads_merges_1bbb (p1 : (List Zone)) (p2 : Map) (p3 : Int) (p4 : (List Int)) : Option Bool :=
  (slices_IndexFunc_Zone_Zone_roads_merges_1bbb p1 p2 p3 p4).bind fun v1 => some (decide (v1 ≥ 0))

theorem slices_ContainsFunc_Zone_Zone_roads_merges_1bbb_ok (p1 : (List Zone)) (p2 : Map) (p3 : Int) (p4 : (List Int)) (r : Bool) (h : slices_ContainsFunc_Zone_Zone_roads_merges_1bbb p1 p2 p3 p4 = some r) : PCall Try.prog 108 [(.list (List.map eZone p1)), (.fn (.func 109) [] [(.bp (eMap p2) 0), (.bp [(i64 p3)] 0), (.bp [(.list (List.map eInt_i64 p4))] 0)])] (bo r) := by
 refine l_call (fk Try.func108 Try.ntmps108 m0 (by with_unfolding_all rfl)) (nl rfl) ?_
 unfold slices_ContainsFunc_Zone_Zone_roads_merges_1bbb at h
 refine l_sub (s0 := ⟨T [(0, (.d _)), (1, (.d _))], G []⟩) (sbr rfl rfl) ?_
 refine lr (fun u1 hu1 => sv rfl (s_nil (lr (fun u2 hu2 => sv rfl (sv rfl (bs h fun v1 hv1 h => s_call rfl rfl all2_refl (slices_IndexFunc_Zone_Zone_roads_merges_1bbb_ok _ _ _ _  _ hv1) (.inl rfl) (sv rfl (sv rfl (s_nil (l_ret ?_))))))))))
 cases h
 exact fin_ok (.inr rfl) (resD1 (res_t rfl) rf_d) (.refl _)

noncomputable def roads_merges_l1 (p1 : Map) (x1 : ((List Clash) × Int)) : Option (Stp ((List Clash) × Int) (List Clash)) :=
  cond (decide (x1.2 < (p1.Lanes.length : Int))) ((roads_before p1 x1.2).bind fun v1 => (slices_ContainsFunc_Zone_Zone_roads_merges_1bbb p1.Zones p1 x1.2 v1).bind fun v2 => cond ((decide ((v1.length : Int) > 1)) && (!v2)) ((appc x1.1 [(Clash.mk 1 (-1) x1.2 (-1))]).bind fun v3 => some (.go (v3, (w64 (x1.2 + 1))))) (some (.go (x1.1, (w64 (x1.2 + 1)))))) (some (.out x1.1))
noncomputable def roads_merges (p1 : Map) : Option (List Clash) :=
  (loop (roads_merges_l1 p1) ([], 0)).bind fun y1 => some y1

theorem roads_merges_ok (p1 : Map) (r : (List Clash)) (h : roads_merges p1 = some r) : PCall Try.prog 79 [(.agg (eMap p1))] (.list (List.map eClash r)) := by
 refine l_call (fk Try.func79 Try.ntmps79 (fun r => if r == 7 then [1003] else []) (by with_unfolding_all rfl)) (nl rfl) ?_
 unfold roads_merges at h
 refine l_sub (s0 := ⟨T [(0, (.d _))], G []⟩) (sbr rfl rfl) ?_
 refine lr (fun u1 hu1 => sn rfl rfl (sv rfl (s_nil (l_seq (lr (fun u2 hu2 => sp rfl rfl (sl rfl G_hit rfl (sd rfl (v_len rfl) (sv rfl (s_nil (bs h fun y1 hy1 h => l_join (fun s => ∃ g1 : Nat, Sb ⟨T [(2, (oS y1 (30, g1)))], G [((30, g1), oB 145 4 eClash y1)]⟩ s) ?_ ?_)))))))))))
 refine l_block (l_loop (roads_merges_l1 p1) (fun (x1 : ((List Clash) × Int)) (g2 : Nat) => ⟨T [(1, (.ptr (1, u1) 0)), (2, (oS x1.1 (30, g2))), (8, (di (p1.Lanes.length : Int))), (9, (di x1.2))], G [((1, u1), some (.box 28 (dMap p1))), ((30, g2), oB 145 4 eClash x1.1)]⟩) ([], 0) 0 _ hy1 (sb_of ⟨.of rfl, .of rfl, .of rfl, .of rfl, trivial⟩ (sbG_some G_hit (.of rfl) (sbG_nil trivial))) ?_)
 intro x1 g2 z1 hz1 ez1
 unfold roads_merges_l1 at hz1
 refine lr (fun u3 hu3 => sv rfl (s_nil (l_seq (cc rfl hz1 (fun c1 hz1 => ?_) (fun c1 hz1 => ?_)))))
 refine l_skip (l_seq (l_block (lr (fun u4 hu4 => sv rfl (sn rfl rfl (sst rfl G_hit [(di x1.2)] rfl (s_nil (lr (fun u5 hu5 => sd rfl (v_loadG rfl (gq rfl) rfl rfl) (sl rfl G_hit rfl (bs hz1 fun v1 hv1 hz1 => s_call rfl rfl all2_refl (roads_before_ok _ _  _ hv1) (.inl rfl) (sn rfl rfl (sst rfl G_hit [(dl eInt_i64 v1)] rfl (s_nil (lr (fun u6 hu6 => sp rfl rfl (sl rfl (gq rfl) rfl (s_val (.fn _ _ _) rfl rfl (bs hz1 fun v2 hv2 hz1 => s_call rfl (rD (rfL_cons (rf_fn rfL_nil (rfL_cons (rf_ptr (gq rfl) (rD (rD (rD (rD (rD rfL_nil)))))) (rfL_cons (rf_ptr (gq rfl) (rD rfL_nil)) (rfL_cons (rf_ptr G_hit (rD rfL_nil)) rfL_nil)))) rfL_nil)) all2_refl (slices_ContainsFunc_Zone_Zone_roads_merges_1bbb_ok _ _ _ _  _ hv2) (.inr rfl) (sv rfl (s_nil (lr (fun u7 hu7 => sl rfl G_hit rfl (sd rfl (v_len rfl) (sv rfl (sv rfl (gt rfl (fun _ => rfl) ?_)))))))))))))))))))))))))))
 refine g_val _ (.d (bo (!v2))) rfl (gw_t rfl) (fun w2 => (by simp only [gd_pos w2]; rfl)) ?_
 refine sa rfl rfl rfl (s_nil (cc rfl hz1 (fun c2 hz1 => ?_) (fun c2 hz1 => ?_)))
 refine l_sub (s0 := ⟨T [(1, (.ptr (1, u1) 0)), (2, (oS x1.1 (30, g2))), (3, (.ptr (3, u4) 0)), (8, (di (p1.Lanes.length : Int))), (9, (di x1.2))], G [((1, u1), some (.box 28 (dMap p1))), ((30, g2), oB 145 4 eClash x1.1), ((3, u4), some (.box 3 [(di x1.2)]))]⟩) (sb_of ⟨.of rfl, .of rfl, .of rfl, .of rfl, .of rfl, trivial⟩ (sg rfl (sbG_oB (gq rfl) (sg rfl trivial)))) ?_
 refine l_reg fun u8 hu8 => s_val (oS x1.1 (30, g2)) rfl rfl (sl rfl (gq rfl) rfl (sv rfl (s_val (dl eClash [(Clash.mk 1 (-1) x1.2 (-1))]) rfl rfl (bs hz1 fun v3 hv3 hz1 => s_appendO eClash (30, g2) x1.1 (Clash.mk 1 (-1) x1.2 (-1)) [] _ (elems_list (fun _ => rfl)) rfl (gq rfl) hv3 (ss rfl (s_nil (l_end (l_reg fun u9 hu9 => sv rfl (sv rfl (s_nil (l_nil ?_)))))))))))
 cases hz1
 exact ⟨rfl, u8, (sb_of ⟨.of rfl, (.of (oS_ne (appc_ne hv3)).symm), .of rfl, .of rfl, trivial⟩ (sg rfl (sbG_own G_hit trivial)))⟩
 refine l_skip (l_end (l_sub (s0 := ⟨T [(1, (.ptr (1, u1) 0)), (2, (oS x1.1 (30, g2))), (8, (di (p1.Lanes.length : Int))), (9, (di x1.2))], G [((1, u1), some (.box 28 (dMap p1))), ((30, g2), oB 145 4 eClash x1.1)]⟩) (sb_of ⟨.of rfl, .of rfl, .of rfl, .of rfl, trivial⟩ (sg rfl (sbG_oB (gq rfl) trivial))) ?_))
 refine l_reg fun u10 hu10 => sv rfl (sv rfl (s_nil (l_nil ?_)))
 cases hz1
 exact ⟨rfl, g2, (sb_of ⟨.of rfl, .of rfl, .of rfl, .of rfl, trivial⟩ (sbG_some G_hit (.of rfl) (sbG_oB (gq rfl) trivial)))⟩
 refine l_exitN rfl ?_
 cases hz1
 obtain rfl := ez1 _ rfl
 refine ⟨nofun, awl_pop rfl (l_j ?_)⟩
 exact ⟨g2, (sb_of ⟨.of rfl, trivial⟩ (sbG_oB (gq rfl) trivial))⟩
 rintro _ ⟨g1, q1⟩
 refine l_sub q1 (lr (fun u11 hu11 => s_val (oS y1 (30, g1)) rfl rfl (s_val (oS y1 (30, g1)) rfl rfl (s_nil (l_ret ?_)))))
 cases h
 exact fin_ok (.inr rfl) (resD1 (res_t rfl) (rf_oS G_hit)) oD_le

noncomputable def roads_chains_l2 (p1 : Map) (x1 : ((List Clash) × Int)) (v1 : Zone) (x2 : ((List Clash) × Int)) : Option (Stp ((List Clash) × Int) (List Clash)) :=
  cond (decide (x2.2 < (v1.Parts.length : Int))) ((geti v1.Parts x2.2).bind fun v2 => (roads_entry p1 v1 v2.Lane_).bind fun v3 => ((cond (!v3) (roads_closed p1 v1 v2.Lane_) (some default))).bind fun v4 => cond ((!v3) && (!v4)) ((appc x2.1 [(Clash.mk 2 x1.2 v2.Lane_ (-1))]).bind fun v5 => some (.go (v5, (w64 (x2.2 + 1))))) (some (.go (x2.1, (w64 (x2.2 + 1)))))) (some (.out x2.1))
noncomputable def roads_chains_l1 (p1 : Map) (x1 : ((List Clash) × Int)) : Option (Stp ((List Clash) × Int) (List Clash)) :=
  cond (decide (x1.2 < (p1.Zones.length : Int))) ((geti p1.Zones x1.2).bind fun v1 => (loop (roads_chains_l2 p1 x1 v1) (x1.1, 0)).bind fun y2 => some (.go (y2, (w64 (x1.2 + 1))))) (some (.out x1.1))
noncomputable def roads_chains (p1 : Map) : Option (List Clash) :=
  (loop (roads_chains_l1 p1) ([], 0)).bind fun y1 => some y1

theorem roads_chains_ok (p1 : Map) (r : (List Clash)) (h : roads_chains p1 = some r) : PCall Try.prog 80 [(.agg (eMap p1))] (.list (List.map eClash r)) := by
 refine l_call (fk Try.func80 Try.ntmps80 (fun r => if r == 8 then [1005] else []) (by with_unfolding_all rfl)) (nl rfl) ?_
 unfold roads_chains at h
 refine l_sub (s0 := ⟨T [(0, (.d _))], G []⟩) (sbr rfl rfl) ?_
 refine lr (fun u1 hu1 => sn rfl rfl (sv rfl (s_nil (l_seq (lr (fun u2 hu2 => sp rfl rfl (sl rfl G_hit rfl (sd rfl (v_len rfl) (sv rfl (s_nil (bs h fun y1 hy1 h => l_join (fun s => ∃ g1 : Nat, Sb ⟨T [(2, (oS y1 (42, g1)))], G [((42, g1), oB 145 4 eClash y1)]⟩ s) ?_ ?_)))))))))))
 refine l_block (l_loop (roads_chains_l1 p1) (fun (x1 : ((List Clash) × Int)) (g2 : Nat) => ⟨T [(1, (.ptr (1, u1) 0)), (2, (oS x1.1 (42, g2))), (8, (dl eZone p1.Zones)), (9, (di (p1.Zones.length : Int))), (10, (di x1.2))], G [((1, u1), some (.box 28 (dMap p1))), ((42, g2), oB 145 4 eClash x1.1)]⟩) ([], 0) 0 _ hy1 (sb_of ⟨.of rfl, .of rfl, .of rfl, .of rfl, .of rfl, trivial⟩ (sbG_some G_hit (.of rfl) (sbG_nil trivial))) ?_)
 intro x1 g2 z1 hz1 ez1
 unfold roads_chains_l1 at hz1
 refine lr (fun u3 hu3 => sv rfl (s_nil (l_seq (cc rfl hz1 (fun c1 hz1 => ?_) (fun c1 hz1 => ?_)))))
 refine l_skip (l_seq (l_block (lr (fun u4 hu4 => sv rfl (bs hz1 fun v1 hv1 hz1 => sd rfl (v_idx rfl rfl hv1 rfl) (sd rfl (v_loadLG rfl hv1 rfl rfl) (sn rfl rfl (sv rfl (sst rfl G_hit [(dl ePart v1.Parts), (di v1.Signal_)] rfl (s_nil (lr (fun u5 hu5 => sp rfl rfl (sl rfl G_hit rfl (sd rfl (v_len rfl) (sv rfl (s_nil (bs hz1 fun y2 hy2 hz1 => l_join (fun s => ∃ g3 : Nat, Sb ⟨T [(1, (.ptr (1, u1) 0)), (2, (oS y2 (42, g3))), (8, (dl eZone p1.Zones)), (9, (di (p1.Zones.length : Int))), (10, (di x1.2))], G [((1, u1), some (.box 28 (dMap p1))), ((42, g3), oB 145 4 eClash y2)]⟩ s) ?_ ?_)))))))))))))))))
 refine l_block (l_loop (roads_chains_l2 p1 x1 v1) (fun (x2 : ((List Clash) × Int)) (g4 : Nat) => ⟨T [(1, (.ptr (1, u1) 0)), (2, (oS x2.1 (42, g4))), (3, (di x1.2)), (4, (.ptr (4, u4) 0)), (8, (dl eZone p1.Zones)), (9, (di (p1.Zones.length : Int))), (10, (di x1.2)), (16, (dl ePart v1.Parts)), (17, (di (v1.Parts.length : Int))), (18, (di x2.2))], G [((1, u1), some (.box 28 (dMap p1))), ((4, u4), some (.box 69 [(dl ePart v1.Parts), (di v1.Signal_)])), ((42, g4), oB 145 4 eClash x2.1)]⟩) (x1.1, 0) g2 _ hy2 (sb_of ⟨.of rfl, .of rfl, .of rfl, .of rfl, .of rfl, .of rfl, .of rfl, .of rfl, .of rfl, .of rfl, trivial⟩ (sg rfl (sbG_some G_hit (.of rfl) (sbG_oB (gq rfl) trivial)))) ?_)
 intro x2 g4 z2 hz2 ez2
 unfold roads_chains_l2 at hz2
 refine lr (fun u6 hu6 => sv rfl (s_nil (l_seq (cc rfl hz2 (fun c2 hz2 => ?_) (fun c2 hz2 => ?_)))))
 refine l_skip (l_seq (l_block (lr (fun u7 hu7 => bs hz2 fun v2 hv2 hz2 => sd rfl (v_idx rfl rfl hv2 rfl) (sd rfl (v_loadLG rfl hv2 rfl rfl) (sn rfl rfl (sst rfl G_hit (dPart v2) rfl (s_nil (lr (fun u8 hu8 => sd rfl (v_loadG rfl (gq rfl) rfl rfl) (sd rfl (v_loadG rfl (gq rfl) rfl rfl) (sp rfl rfl (sl rfl G_hit rfl (bs hz2 fun v3 hv3 hz2 => s_call rfl rfl all2_refl (roads_entry_ok _ _ _  _ hv3) (.inl rfl) (s_val (.d (bo (!v3))) rfl rfl (sv rfl (gt rfl (fun w1 => (v_loadG rfl (gq rfl) rfl rfl)) (gt rfl (fun w2 => (v_loadG rfl (gq rfl) rfl rfl)) (gp rfl (gw_t rfl) (fun _ => rfl) (gt rfl (vl rfl G_hit rfl) (bs hz2 fun v4 hv4 hz2 => ?_)))))))))))))))))))))
 refine g_call _ (bo v4) (gw_t rfl) (fun w5 => ⟨_, [(.d (.agg (eMap p1))), (.d (.agg [(.list (List.map ePart v1.Parts)), (i64 v1.Signal_)])), (di v2.Lane_)], _, _, (by simp only [gd_pos w5]; rfl), rfl, all2_refl, roads_closed_ok _ _ _  _ (cond_t w5 hv4), (.inl rfl)⟩) ?_
 refine g_val _ (.d (bo (!v4))) rfl (gw_t rfl) (fun w6 => (by simp only [gd_pos w6]; rfl)) ?_
 refine sa rfl rfl rfl (s_nil (cc rfl hz2 (fun c3 hz2 => ?_) (fun c3 hz2 => ?_)))
 refine l_sub (s0 := ⟨T [(1, (.ptr (1, u1) 0)), (2, (oS x2.1 (42, g4))), (3, (di x1.2)), (4, (.ptr (4, u4) 0)), (6, (.ptr (6, u7) 0)), (8, (dl eZone p1.Zones)), (9, (di (p1.Zones.length : Int))), (10, (di x1.2)), (16, (dl ePart v1.Parts)), (17, (di (v1.Parts.length : Int))), (18, (di x2.2))], G [((1, u1), some (.box 28 (dMap p1))), ((42, g4), oB 145 4 eClash x2.1), ((4, u4), some (.box 69 [(dl ePart v1.Parts), (di v1.Signal_)])), ((6, u7), some (.box 71 (dPart v2)))]⟩) (sb_of ⟨.of rfl, .of rfl, .of rfl, .of rfl, .of rfl, .of rfl, .of rfl, .of rfl, .of rfl, .of rfl, .of rfl, trivial⟩ (sg rfl (sbG_oB (gq rfl) (sg rfl (sbG_some G_hit (.of rfl) trivial))))) ?_
 refine l_reg fun u9 hu9 => s_val (oS x2.1 (42, g4)) rfl rfl (sv rfl (sp rfl rfl (sl rfl (gq rfl) rfl (sv rfl (s_val (dl eClash [(Clash.mk 2 x1.2 v2.Lane_ (-1))]) rfl rfl (bs hz2 fun v5 hv5 hz2 => s_appendO eClash (42, g4) x2.1 (Clash.mk 2 x1.2 v2.Lane_ (-1)) [] _ (elems_list (fun _ => rfl)) rfl (gq rfl) hv5 (ss rfl (s_nil (l_end (l_sub (s0 := ⟨T [(1, (.ptr _ _)), (2, (.sl _)), (3, (.d _)), (4, (.ptr _ _)), (8, (.d _)), (9, (.d _)), (10, (.d _)), (16, (.d _)), (17, (.d _)), (18, (.d _))], G [((1, u1), some (.box 28 _)), ((42, u9), some _), ((4, u4), some (.box 69 _))]⟩) (sbr rfl rfl) ?_))))))))))
 refine l_reg fun u10 hu10 => sv rfl (sv rfl (s_nil (l_nil ?_)))
 cases hz2
 exact ⟨rfl, u9, (sb_of ⟨.of rfl, (.of (oS_ne (appc_ne hv5)).symm), .of rfl, .of rfl, .of rfl, .of rfl, .of rfl, .of rfl, .of rfl, .of rfl, trivial⟩ (sbG_some G_hit (.of rfl) (sg rfl (sbG_own (gq rfl) trivial))))⟩
 refine l_skip (l_end (l_sub (s0 := ⟨T [(1, (.ptr (1, u1) 0)), (2, (oS x2.1 (42, g4))), (3, (di x1.2)), (4, (.ptr (4, u4) 0)), (8, (dl eZone p1.Zones)), (9, (di (p1.Zones.length : Int))), (10, (di x1.2)), (16, (dl ePart v1.Parts)), (17, (di (v1.Parts.length : Int))), (18, (di x2.2))], G [((1, u1), some (.box 28 (dMap p1))), ((42, g4), oB 145 4 eClash x2.1), ((4, u4), some (.box 69 [(dl ePart v1.Parts), (di v1.Signal_)]))]⟩) (sb_of ⟨.of rfl, .of rfl, .of rfl, .of rfl, .of rfl, .of rfl, .of rfl, .of rfl, .of rfl, .of rfl, trivial⟩ (sg rfl (sbG_oB (gq rfl) (sg rfl trivial)))) ?_))
 refine l_reg fun u11 hu11 => sv rfl (sv rfl (s_nil (l_nil ?_)))
 cases hz2
 exact ⟨rfl, g4, (sb_of ⟨.of rfl, .of rfl, .of rfl, .of rfl, .of rfl, .of rfl, .of rfl, .of rfl, .of rfl, .of rfl, trivial⟩ (sbG_some G_hit (.of rfl) (sg rfl (sbG_oB (gq rfl) trivial))))⟩
 refine l_exitN rfl ?_
 cases hz2
 obtain rfl := ez2 _ rfl
 refine ⟨nofun, awl_pop rfl (l_j ?_)⟩
 exact ⟨g4, (sb_of ⟨.of rfl, .of rfl, .of rfl, .of rfl, .of rfl, trivial⟩ (sbG_some G_hit (.of rfl) (sbG_oB (gq rfl) trivial)))⟩
 rintro _ ⟨g3, q1⟩
 refine l_end (l_sub q1 (l_reg fun u12 hu12 => sv rfl (sv rfl (s_nil (l_nil ?_)))))
 cases hz1
 exact ⟨rfl, g3, (sb_of ⟨.of rfl, .of rfl, .of rfl, .of rfl, .of rfl, trivial⟩ (sbG_some G_hit (.of rfl) (sbG_oB (gq rfl) trivial)))⟩
 refine l_exitN rfl ?_
 cases hz1
 obtain rfl := ez1 _ rfl
 refine ⟨nofun, awl_pop rfl (l_j ?_)⟩
 exact ⟨g2, (sb_of ⟨.of rfl, trivial⟩ (sbG_oB (gq rfl) trivial))⟩
 rintro _ ⟨g1, q2⟩
 refine l_sub q2 (lr (fun u13 hu13 => s_val (oS y1 (42, g1)) rfl rfl (s_val (oS y1 (42, g1)) rfl rfl (s_nil (l_ret ?_)))))
 cases h
 exact fin_ok (.inr rfl) (resD1 (res_t rfl) (rf_oS G_hit)) oD_le

noncomputable def roads_entries_l1 (p1 : Map) (p2 : Zone) (x1 : ((List Int) × Int)) : Option (Stp ((List Int) × Int) (List Int)) :=
  cond (decide (x1.2 < (p2.Parts.length : Int))) ((geti p2.Parts x1.2).bind fun v1 => (roads_entry p1 p2 v1.Lane_).bind fun v2 => cond v2 ((appc x1.1 [v1.Lane_]).bind fun v3 => some (.go (v3, (w64 (x1.2 + 1))))) (some (.go (x1.1, (w64 (x1.2 + 1)))))) (some (.out x1.1))
noncomputable def roads_entries (p1 : Map) (p2 : Zone) : Option (List Int) :=
  (loop (roads_entries_l1 p1 p2) ([], 0)).bind fun y1 => some y1

theorem roads_entries_ok (p1 : Map) (p2 : Zone) (r : (List Int)) (h : roads_entries p1 p2 = some r) : PCall Try.prog 56 [(.agg (eMap p1)), (.agg [(.list (List.map ePart p2.Parts)), (i64 p2.Signal_)])] (.list (List.map eInt_i64 r)) := by
 refine l_call (fk Try.func56 Try.ntmps56 (fun r => if r == 6 then [1003] else []) (by with_unfolding_all rfl)) (nl rfl) ?_
 unfold roads_entries at h
 refine l_sub (s0 := ⟨T [(0, (.d _)), (1, (.d _))], G []⟩) (sbr rfl rfl) ?_
 refine lr (fun u1 hu1 => sn rfl rfl (sn rfl rfl (sv rfl (s_nil (lr (fun u2 hu2 => sv rfl (s_nil (l_seq (lr (fun u3 hu3 => sp rfl rfl (sl rfl G_hit rfl (sd rfl (v_len rfl) (sv rfl (s_nil (bs h fun y1 hy1 h => l_join (fun s => ∃ g1 : Nat, Sb ⟨T [(5, (oS y1 (24, g1)))], G [((24, g1), oB 3 1 eInt_i64 y1)]⟩ s) ?_ ?_)))))))))))))))
 refine l_block (l_loop (roads_entries_l1 p1 p2) (fun (x1 : ((List Int) × Int)) (g2 : Nat) => ⟨T [(2, (.ptr (2, u1) 0)), (3, (.ptr (3, u1) 0)), (5, (oS x1.1 (24, g2))), (9, (dl ePart p2.Parts)), (10, (di (p2.Parts.length : Int))), (11, (di x1.2))], G [((2, u1), some (.box 28 (dMap p1))), ((3, u1), some (.box 69 [(dl ePart p2.Parts), (di p2.Signal_)])), ((24, g2), oB 3 1 eInt_i64 x1.1)]⟩) ([], 0) 0 _ hy1 (sb_of ⟨.of rfl, .of rfl, .of rfl, .of rfl, .of rfl, .of rfl, trivial⟩ (sg rfl (sbG_some G_hit (.of rfl) (sbG_nil trivial)))) ?_)
 intro x1 g2 z1 hz1 ez1
 unfold roads_entries_l1 at hz1
 refine lr (fun u4 hu4 => sv rfl (s_nil (l_seq (cc rfl hz1 (fun c1 hz1 => ?_) (fun c1 hz1 => ?_)))))
 refine l_skip (l_seq (l_block (lr (fun u5 hu5 => bs hz1 fun v1 hv1 hz1 => sd rfl (v_idx rfl rfl hv1 rfl) (sd rfl (v_loadLG rfl hv1 rfl rfl) (sn rfl rfl (sst rfl G_hit (dPart v1) rfl (s_nil (lr (fun u6 hu6 => sd rfl (v_loadG rfl (gq rfl) rfl rfl) (sd rfl (v_loadG rfl (gq rfl) rfl rfl) (sp rfl rfl (sl rfl G_hit rfl (bs hz1 fun v2 hv2 hz1 => s_call rfl rfl all2_refl (roads_entry_ok _ _ _  _ hv2) (.inl rfl) (s_nil (cc rfl hz1 (fun c2 hz1 => ?_) (fun c2 hz1 => ?_)))))))))))))))))
 refine l_reg fun u7 hu7 => s_val (oS x1.1 (24, g2)) rfl rfl (sp rfl rfl (sl rfl G_hit rfl (s_val (dl eInt_i64 [v1.Lane_]) rfl rfl (bs hz1 fun v3 hv3 hz1 => s_appendO eInt_i64 (24, g2) x1.1 v1.Lane_ [] _ (elems_list (fun _ => rfl)) rfl (gq rfl) hv3 (ss rfl (s_nil (l_end (l_sub (s0 := ⟨T [(2, (.ptr _ _)), (3, (.ptr _ _)), (5, (.sl _)), (9, (.d _)), (10, (.d _)), (11, (.d _))], G [((2, u1), some (.box 28 _)), ((3, u1), some (.box 69 _)), ((24, u7), some _)]⟩) (sbr rfl rfl) ?_))))))))
 refine l_reg fun u8 hu8 => sv rfl (sv rfl (s_nil (l_nil ?_)))
 cases hz1
 exact ⟨rfl, u7, (sb_of ⟨.of rfl, .of rfl, (.of (oS_ne (appc_ne hv3)).symm), .of rfl, .of rfl, .of rfl, trivial⟩ (sbG_some G_hit (.of rfl) (sg rfl (sbG_own (gq rfl) trivial))))⟩
 refine l_skip (l_end (l_reg fun u9 hu9 => sv rfl (sv rfl (s_nil (l_nil ?_)))))
 cases hz1
 exact ⟨rfl, g2, (sb_of ⟨.of rfl, .of rfl, .of rfl, .of rfl, .of rfl, .of rfl, trivial⟩ (sg rfl (sg rfl (sbG_oB (gq rfl) trivial))))⟩
 refine l_exitN rfl ?_
 cases hz1
 obtain rfl := ez1 _ rfl
 refine ⟨nofun, awl_pop rfl (l_j ?_)⟩
 exact ⟨g2, (sb_of ⟨.of rfl, trivial⟩ (sbG_oB (gq rfl) trivial))⟩
 rintro _ ⟨g1, q1⟩
 refine l_sub q1 (lr (fun u10 hu10 => s_val (oS y1 (24, g1)) rfl rfl (s_val (oS y1 (24, g1)) rfl rfl (s_nil (l_ret ?_)))))
 cases h
 exact fin_ok (.inr rfl) (resD1 (res_t rfl) (rf_oS G_hit)) oD_le

noncomputable def roads_ranks_1 (p1 : Zone) (p2 : Int) (p3 : Int) : Option Bool :=
  (roads_part p1 p2).bind fun v1 => (roads_part p1 p3).bind fun v2 => some ((p1.Signal_ == 0) && (v1.1.Rank == v2.1.Rank))

theorem roads_ranks_1_ok (p1 : Zone) (p2 : Int) (p3 : Int) (r : Bool) (h : roads_ranks_1 p1 p2 p3 = some r) : PCall Try.prog 114 [(.agg [(.list (List.map ePart p1.Parts)), (i64 p1.Signal_)]), (i64 p2), (i64 p3)] (bo r) := by
 refine l_call (fk Try.func114 Try.ntmps114 m0 (by with_unfolding_all rfl)) (nl rfl) ?_
 unfold roads_ranks_1 at h
 refine l_sub (s0 := ⟨T [(0, (.d _)), (1, (.d _)), (2, (.d _))], G []⟩) (sbr rfl rfl) ?_
 refine lr (fun u1 hu1 => sn rfl rfl (sv rfl (s_nil (lr (fun u2 hu2 => sd rfl (v_loadG rfl G_hit rfl rfl) (sv rfl (bs h fun v1 hv1 h => s_call rfl rfl all2_refl (roads_part_ok _ _  _ hv1) (.inl rfl) (sv rfl (sv rfl (sv rfl (sn rfl rfl (sst rfl G_hit (dPart v1.1) rfl (sv rfl (s_nil (lr (fun u3 hu3 => sd rfl (v_loadG rfl (gq rfl) rfl rfl) (sv rfl (bs h fun v2 hv2 h => s_call rfl rfl all2_refl (roads_part_ok _ _  _ hv2) (.inl rfl) (sv rfl (sv rfl (sv rfl (sn rfl rfl (sst rfl G_hit (dPart v2.1) rfl (sv rfl (s_nil (l_seq (l_sub (s0 := ⟨T [(3, (.ptr _ _)), (7, (.ptr _ _)), (9, (.ptr _ _))], G [((3, u1), some (.box 69 _)), ((7, u2), some (.box 71 _)), ((9, u3), some (.box 71 _))]⟩) (sbr rfl rfl) ?_)))))))))))))))))))))))))))
 refine l_reg fun u4 hu4 => sp rfl rfl (sl rfl G_hit rfl (sv rfl (sv rfl (gp rfl (gw_t rfl) (fun _ => rfl) (gt rfl (vl rfl (gq rfl) rfl) (gp rfl (gw_t rfl) (fun _ => rfl) (gt rfl (vl rfl (gq rfl) rfl) (gt rfl (fun w5 => (v_bin (gd_pos w5) (gd_pos w5) rfl)) (sa rfl rfl rfl (sv rfl (s_nil (l_ret ?_))))))))))))
 cases h
 exact fin_ok (.inr rfl) (resD1 (res_t rfl) rf_d) (.refl _)

noncomputable def roads_pairs_roads_ranks_1_l3 (p2 : Int) (x1 : ((List Clash) × Int)) (v1 : Zone) (v3 : Int) (v4 : List Int) (x3 : ((List Clash) × Int)) : Option (Stp ((List Clash) × Int) (List Clash)) :=
  cond (decide (x3.2 < (v4.length : Int))) ((geti v4 x3.2).bind fun v5 => (roads_ranks_1 v1 v3 v5).bind fun v6 => cond v6 ((appc x3.1 [(Clash.mk p2 x1.2 v3 v5)]).bind fun v7 => some (.go (v7, (w64 (x3.2 + 1))))) (some (.go (x3.1, (w64 (x3.2 + 1)))))) (some (.out x3.1))
noncomputable def roads_pairs_roads_ranks_1_l2 (p2 : Int) (x1 : ((List Clash) × Int)) (v1 : Zone) (v2 : (List Int)) (x2 : ((List Clash) × Int)) : Option (Stp ((List Clash) × Int) (List Clash)) :=
  cond (decide (x2.2 < (v2.length : Int))) ((geti v2 x2.2).bind fun v3 => (subl v2 (w64 (x2.2 + 1)) (v2.length : Int)).bind fun v4 => (loop (roads_pairs_roads_ranks_1_l3 p2 x1 v1 v3 v4) (x2.1, 0)).bind fun y3 => some (.go (y3, (w64 (x2.2 + 1))))) (some (.out x2.1))
noncomputable def roads_pairs_roads_ranks_1_l1 (p1 : Map) (p2 : Int) (x1 : ((List Clash) × Int)) : Option (Stp ((List Clash) × Int) (List Clash)) :=
  cond (decide (x1.2 < (p1.Zones.length : Int))) ((geti p1.Zones x1.2).bind fun v1 => (roads_entries p1 v1).bind fun v2 => (loop (roads_pairs_roads_ranks_1_l2 p2 x1 v1 v2) (x1.1, 0)).bind fun y2 => some (.go (y2, (w64 (x1.2 + 1))))) (some (.out x1.1))
noncomputable def roads_pairs_roads_ranks_1 (p1 : Map) (p2 : Int) : Option (List Clash) :=
  (loop (roads_pairs_roads_ranks_1_l1 p1 p2) ([], 0)).bind fun y1 => some y1

theorem roads_pairs_roads_ranks_1_ok (p1 : Map) (p2 : Int) (r : (List Clash)) (h : roads_pairs_roads_ranks_1 p1 p2 = some r) : PCall Try.prog 113 [(.agg (eMap p1)), (i64 p2), (.fn (.func 114) [] [])] (.list (List.map eClash r)) := by
 refine l_call (fk Try.func113 Try.ntmps113 (fun r => if r == 12 then [1006] else []) (by with_unfolding_all rfl)) (nl rfl) ?_
 unfold roads_pairs_roads_ranks_1 at h
 refine l_sub (s0 := ⟨T [(0, (.d _)), (1, (.d _)), (2, (.d _))], G []⟩) (sbr rfl rfl) ?_
 refine lr (fun u1 hu1 => sn rfl rfl (sv rfl (s_nil (l_seq (lr (fun u2 hu2 => sp rfl rfl (sl rfl G_hit rfl (sd rfl (v_len rfl) (sv rfl (s_nil (bs h fun y1 hy1 h => l_join (fun s => ∃ g1 : Nat, Sb ⟨T [(6, (oS y1 (53, g1)))], G [((53, g1), oB 145 4 eClash y1)]⟩ s) ?_ ?_)))))))))))
 refine l_block (l_loop (roads_pairs_roads_ranks_1_l1 p1 p2) (fun (x1 : ((List Clash) × Int)) (g2 : Nat) => ⟨T [(1, (di p2)), (2, (.d (.fn (.func 114) [] []))), (3, (.ptr (3, u1) 0)), (6, (oS x1.1 (53, g2))), (15, (dl eZone p1.Zones)), (16, (di (p1.Zones.length : Int))), (17, (di x1.2))], G [((3, u1), some (.box 28 (dMap p1))), ((53, g2), oB 145 4 eClash x1.1)]⟩) ([], 0) 0 _ hy1 (sb_of ⟨.of rfl, .of rfl, .of rfl, .of rfl, .of rfl, .of rfl, .of rfl, trivial⟩ (sbG_some G_hit (.of rfl) (sbG_nil trivial))) ?_)
 intro x1 g2 z1 hz1 ez1
 unfold roads_pairs_roads_ranks_1_l1 at hz1
 refine lr (fun u3 hu3 => sv rfl (s_nil (l_seq (cc rfl hz1 (fun c1 hz1 => ?_) (fun c1 hz1 => ?_)))))
 refine l_skip (l_seq (l_block (lr (fun u4 hu4 => sv rfl (bs hz1 fun v1 hv1 hz1 => sd rfl (v_idx rfl rfl hv1 rfl) (sd rfl (v_loadLG rfl hv1 rfl rfl) (sn rfl rfl (sv rfl (sst rfl G_hit [(dl ePart v1.Parts), (di v1.Signal_)] rfl (s_nil (lr (fun u5 hu5 => sd rfl (v_loadG rfl (gq rfl) rfl rfl) (sd rfl (v_loadG rfl G_hit rfl rfl) (bs hz1 fun v2 hv2 hz1 => s_call rfl rfl all2_refl (roads_entries_ok _ _  _ hv2) (.inl rfl) (sv rfl (s_nil (lr (fun u6 hu6 => sv rfl (sd rfl (v_len rfl) (sv rfl (s_nil (bs hz1 fun y2 hy2 hz1 => l_join (fun s => ∃ g3 : Nat, Sb ⟨T [(1, (di p2)), (2, (.d (.fn (.func 114) [] []))), (3, (.ptr (3, u1) 0)), (6, (oS y2 (53, g3))), (15, (dl eZone p1.Zones)), (16, (di (p1.Zones.length : Int))), (17, (di x1.2))], G [((3, u1), some (.box 28 (dMap p1))), ((53, g3), oB 145 4 eClash y2)]⟩ s) ?_ ?_))))))))))))))))))))))
 refine l_block (l_loop (roads_pairs_roads_ranks_1_l2 p2 x1 v1 v2) (fun (x2 : ((List Clash) × Int)) (g4 : Nat) => ⟨T [(1, (di p2)), (2, (.d (.fn (.func 114) [] []))), (3, (.ptr (3, u1) 0)), (6, (oS x2.1 (53, g4))), (7, (di x1.2)), (8, (.ptr (8, u4) 0)), (9, (dl eInt_i64 v2)), (15, (dl eZone p1.Zones)), (16, (di (p1.Zones.length : Int))), (17, (di x1.2)), (25, (dl eInt_i64 v2)), (26, (di (v2.length : Int))), (27, (di x2.2))], G [((3, u1), some (.box 28 (dMap p1))), ((8, u4), some (.box 69 [(dl ePart v1.Parts), (di v1.Signal_)])), ((53, g4), oB 145 4 eClash x2.1)]⟩) (x1.1, 0) g2 _ hy2 (sb_of ⟨.of rfl, .of rfl, .of rfl, .of rfl, .of rfl, .of rfl, .of rfl, .of rfl, .of rfl, .of rfl, .of rfl, .of rfl, .of rfl, trivial⟩ (sg rfl (sbG_some G_hit (.of rfl) (sbG_oB (gq rfl) trivial)))) ?_)
 intro x2 g4 z2 hz2 ez2
 unfold roads_pairs_roads_ranks_1_l2 at hz2
 refine lr (fun u7 hu7 => sv rfl (s_nil (l_seq (cc rfl hz2 (fun c2 hz2 => ?_) (fun c2 hz2 => ?_)))))
 refine l_skip (l_seq (l_block (lr (fun u8 hu8 => sv rfl (bs hz2 fun v3 hv3 hz2 => sd rfl (v_idx rfl rfl hv3 rfl) (sd rfl (v_loadL rfl hv3 rfl) (sv rfl (sv rfl (s_nil (lr (fun u9 hu9 => sv rfl (sv rfl (sv rfl (bs hz2 fun v4 hv4 hz2 => sd rfl (v_sub rfl (fun _ => rfl) (bd_x rfl) bd_end hv4) (sd rfl (v_len rfl) (sv rfl (s_nil (bs hz2 fun y3 hy3 hz2 => l_join (fun s => ∃ g5 : Nat, Sb ⟨T [(1, (di p2)), (2, (.d (.fn (.func 114) [] []))), (3, (.ptr (3, u1) 0)), (6, (oS y3 (53, g5))), (7, (di x1.2)), (8, (.ptr (8, u4) 0)), (9, (dl eInt_i64 v2)), (15, (dl eZone p1.Zones)), (16, (di (p1.Zones.length : Int))), (17, (di x1.2)), (25, (dl eInt_i64 v2)), (26, (di (v2.length : Int))), (27, (di x2.2))], G [((3, u1), some (.box 28 (dMap p1))), ((8, u4), some (.box 69 [(dl ePart v1.Parts), (di v1.Signal_)])), ((53, g5), oB 145 4 eClash y3)]⟩ s) ?_ ?_))))))))))))))))))
 refine l_block (l_loop (roads_pairs_roads_ranks_1_l3 p2 x1 v1 v3 v4) (fun (x3 : ((List Clash) × Int)) (g6 : Nat) => ⟨T [(1, (di p2)), (2, (.d (.fn (.func 114) [] []))), (3, (.ptr (3, u1) 0)), (6, (oS x3.1 (53, g6))), (7, (di x1.2)), (8, (.ptr (8, u4) 0)), (9, (dl eInt_i64 v2)), (11, (di v3)), (15, (dl eZone p1.Zones)), (16, (di (p1.Zones.length : Int))), (17, (di x1.2)), (25, (dl eInt_i64 v2)), (26, (di (v2.length : Int))), (27, (di x2.2)), (35, (dl eInt_i64 v4)), (36, (di (v4.length : Int))), (37, (di x3.2))], G [((3, u1), some (.box 28 (dMap p1))), ((8, u4), some (.box 69 [(dl ePart v1.Parts), (di v1.Signal_)])), ((53, g6), oB 145 4 eClash x3.1)]⟩) (x2.1, 0) g4 _ hy3 (sb_of ⟨.of rfl, .of rfl, .of rfl, .of rfl, .of rfl, .of rfl, .of rfl, .of rfl, .of rfl, .of rfl, .of rfl, .of rfl, .of rfl, .of rfl, .of rfl, .of rfl, .of rfl, trivial⟩ (sbG_some G_hit (.of rfl) (sg rfl (sbG_oB (gq rfl) trivial)))) ?_)
 intro x3 g6 z3 hz3 ez3
 unfold roads_pairs_roads_ranks_1_l3 at hz3
 refine lr (fun u10 hu10 => sv rfl (s_nil (l_seq (cc rfl hz3 (fun c3 hz3 => ?_) (fun c3 hz3 => ?_)))))
 refine l_skip (l_seq (l_block (lr (fun u11 hu11 => bs hz3 fun v5 hv5 hz3 => sd rfl (v_idx rfl rfl hv5 rfl) (sd rfl (v_loadL rfl hv5 rfl) (sv rfl (s_nil (lr (fun u12 hu12 => sv rfl (sd rfl (v_loadG rfl (gq rfl) rfl rfl) (sv rfl (sv rfl (bs hz3 fun v6 hv6 hz3 => s_call rfl rfl all2_refl (roads_ranks_1_ok _ _ _  _ hv6) (.inl rfl) (s_nil (cc rfl hz3 (fun c4 hz3 => ?_) (fun c4 hz3 => ?_))))))))))))))))
 refine l_sub (s0 := ⟨T [(1, (di p2)), (2, (.d (.fn (.func 114) [] []))), (3, (.ptr (3, u1) 0)), (6, (oS x3.1 (53, g6))), (7, (di x1.2)), (8, (.ptr (8, u4) 0)), (9, (dl eInt_i64 v2)), (11, (di v3)), (13, (di v5)), (15, (dl eZone p1.Zones)), (16, (di (p1.Zones.length : Int))), (17, (di x1.2)), (25, (dl eInt_i64 v2)), (26, (di (v2.length : Int))), (27, (di x2.2)), (35, (dl eInt_i64 v4)), (36, (di (v4.length : Int))), (37, (di x3.2))], G [((3, u1), some (.box 28 (dMap p1))), ((53, g6), oB 145 4 eClash x3.1), ((8, u4), some (.box 69 [(dl ePart v1.Parts), (di v1.Signal_)]))]⟩) (sb_of ⟨.of rfl, .of rfl, .of rfl, .of rfl, .of rfl, .of rfl, .of rfl, .of rfl, .of rfl, .of rfl, .of rfl, .of rfl, .of rfl, .of rfl, .of rfl, .of rfl, .of rfl, .of rfl, trivial⟩ (sbG_some G_hit (.of rfl) (sbG_oB (gq rfl) (sg rfl trivial)))) ?_
 refine l_reg fun u13 hu13 => s_val (oS x3.1 (53, g6)) rfl rfl (sv rfl (sv rfl (sv rfl (sv rfl (sv rfl (s_val (dl eClash [(Clash.mk p2 x1.2 v3 v5)]) rfl rfl (bs hz3 fun v7 hv7 hz3 => s_appendO eClash (53, g6) x3.1 (Clash.mk p2 x1.2 v3 v5) [] _ (elems_list (fun _ => rfl)) rfl (gq rfl) hv7 (ss rfl (s_nil (l_end (l_sub (s0 := ⟨T [(1, (.d _)), (2, (.d _)), (3, (.ptr _ _)), (6, (.sl _)), (7, (.d _)), (8, (.ptr _ _)), (9, (.d _)), (11, (.d _)), (15, (.d _)), (16, (.d _)), (17, (.d _)), (25, (.d _)), (26, (.d _)), (27, (.d _)), (35, (.d _)), (36, (.d _)), (37, (.d _))], G [((3, u1), some (.box 28 _)), ((53, u13), some _), ((8, u4), some (.box 69 _))]⟩) (sbr rfl rfl) ?_)))))))))))
 refine l_reg fun u14 hu14 => sv rfl (sv rfl (s_nil (l_nil ?_)))
 cases hz3
 exact ⟨rfl, u13, (sb_of ⟨.of rfl, .of rfl, .of rfl, (.of (oS_ne (appc_ne hv7)).symm), .of rfl, .of rfl, .of rfl, .of rfl, .of rfl, .of rfl, .of rfl, .of rfl, .of rfl, .of rfl, .of rfl, .of rfl, .of rfl, trivial⟩ (sbG_some G_hit (.of rfl) (sg rfl (sbG_own (gq rfl) trivial))))⟩
 refine l_skip (l_end (l_sub (s0 := ⟨T [(1, (di p2)), (2, (.d (.fn (.func 114) [] []))), (3, (.ptr (3, u1) 0)), (6, (oS x3.1 (53, g6))), (7, (di x1.2)), (8, (.ptr (8, u4) 0)), (9, (dl eInt_i64 v2)), (11, (di v3)), (15, (dl eZone p1.Zones)), (16, (di (p1.Zones.length : Int))), (17, (di x1.2)), (25, (dl eInt_i64 v2)), (26, (di (v2.length : Int))), (27, (di x2.2)), (35, (dl eInt_i64 v4)), (36, (di (v4.length : Int))), (37, (di x3.2))], G [((3, u1), some (.box 28 (dMap p1))), ((53, g6), oB 145 4 eClash x3.1), ((8, u4), some (.box 69 [(dl ePart v1.Parts), (di v1.Signal_)]))]⟩) (sb_of ⟨.of rfl, .of rfl, .of rfl, .of rfl, .of rfl, .of rfl, .of rfl, .of rfl, .of rfl, .of rfl, .of rfl, .of rfl, .of rfl, .of rfl, .of rfl, .of rfl, .of rfl, trivial⟩ (sbG_some G_hit (.of rfl) (sbG_oB (gq rfl) (sg rfl trivial)))) ?_))
 refine l_reg fun u15 hu15 => sv rfl (sv rfl (s_nil (l_nil ?_)))
 cases hz3
 exact ⟨rfl, g6, (sb_of ⟨.of rfl, .of rfl, .of rfl, .of rfl, .of rfl, .of rfl, .of rfl, .of rfl, .of rfl, .of rfl, .of rfl, .of rfl, .of rfl, .of rfl, .of rfl, .of rfl, .of rfl, trivial⟩ (sbG_some G_hit (.of rfl) (sg rfl (sbG_oB (gq rfl) trivial))))⟩
 refine l_exitN rfl ?_
 cases hz3
 obtain rfl := ez3 _ rfl
 refine ⟨nofun, awl_pop rfl (l_j ?_)⟩
 exact ⟨g6, (sb_of ⟨.of rfl, .of rfl, .of rfl, .of rfl, .of rfl, .of rfl, .of rfl, .of rfl, .of rfl, .of rfl, .of rfl, .of rfl, .of rfl, trivial⟩ (sbG_some G_hit (.of rfl) (sg rfl (sbG_oB (gq rfl) trivial))))⟩
 rintro _ ⟨g5, q1⟩
 refine l_end (l_sub q1 (l_reg fun u16 hu16 => sv rfl (sv rfl (s_nil (l_nil ?_)))))
 cases hz2
 exact ⟨rfl, g5, (sb_of ⟨.of rfl, .of rfl, .of rfl, .of rfl, .of rfl, .of rfl, .of rfl, .of rfl, .of rfl, .of rfl, .of rfl, .of rfl, .of rfl, trivial⟩ (sbG_some G_hit (.of rfl) (sg rfl (sbG_oB (gq rfl) trivial))))⟩
 refine l_exitN rfl ?_
 cases hz2
 obtain rfl := ez2 _ rfl
 refine ⟨nofun, awl_pop rfl (l_j ?_)⟩
 exact ⟨g4, (sb_of ⟨.of rfl, .of rfl, .of rfl, .of rfl, .of rfl, .of rfl, .of rfl, trivial⟩ (sbG_some G_hit (.of rfl) (sbG_oB (gq rfl) trivial)))⟩
 rintro _ ⟨g3, q2⟩
 refine l_end (l_sub q2 (l_reg fun u17 hu17 => sv rfl (sv rfl (s_nil (l_nil ?_)))))
 cases hz1
 exact ⟨rfl, g3, (sb_of ⟨.of rfl, .of rfl, .of rfl, .of rfl, .of rfl, .of rfl, .of rfl, trivial⟩ (sbG_some G_hit (.of rfl) (sbG_oB (gq rfl) trivial)))⟩
 refine l_exitN rfl ?_
 cases hz1
 obtain rfl := ez1 _ rfl
 refine ⟨nofun, awl_pop rfl (l_j ?_)⟩
 exact ⟨g2, (sb_of ⟨.of rfl, trivial⟩ (sbG_oB (gq rfl) trivial))⟩
 rintro _ ⟨g1, q3⟩
 refine l_sub q3 (lr (fun u18 hu18 => s_val (oS y1 (53, g1)) rfl rfl (s_val (oS y1 (53, g1)) rfl rfl (s_nil (l_ret ?_)))))
 cases h
 exact fin_ok (.inr rfl) (resD1 (res_t rfl) (rf_oS G_hit)) oD_le

noncomputable def roads_ranks (p1 : Map) : Option (List Clash) :=
  (roads_pairs_roads_ranks_1 p1 3).bind fun v1 => some v1

theorem roads_ranks_ok (p1 : Map) (r : (List Clash)) (h : roads_ranks p1 = some r) : PCall Try.prog 81 [(.agg (eMap p1))] (.list (List.map eClash r)) := by
 refine l_call (fk Try.func81 Try.ntmps81 m0 (by with_unfolding_all rfl)) (nl rfl) ?_
 unfold roads_ranks at h
 refine l_sub (s0 := ⟨T [(0, (.d _))], G []⟩) (sbr rfl rfl) ?_
 refine lr (fun u1 hu1 => sn rfl rfl (sv rfl (s_nil (lr (fun u2 hu2 => sd rfl (v_loadG rfl G_hit rfl rfl) (bs h fun v1 hv1 h => s_call rfl rfl all2_refl (roads_pairs_roads_ranks_1_ok _ _  _ hv1) (.inl rfl) (sv rfl (s_nil (l_ret ?_)))))))))
 cases h
 exact fin_ok (.inr rfl) (resD1 (res_t rfl) rf_d) (.refl _)

noncomputable def roads_greens_1_1_b_b (p1 : Phase) (p2 : Int) (p3 : Int) : Option Bool :=
  (slices_Contains_int_int p1.Green p2).bind fun v1 => ((cond v1 (slices_Contains_int_int p1.Green p3) (some default))).bind fun v2 => some (v1 && v2)

theorem roads_greens_1_1_b_b_ok (p1 : Phase) (p2 : Int) (p3 : Int) (r : Bool) (h : roads_greens_1_1_b_b p1 p2 p3 = some r) : PCall Try.prog 116 [(.agg [(i64 p1.Ticks), (.list (List.map eInt_i64 p1.Green))]), (.bp [(i64 p2)] 0), (.bp [(i64 p3)] 0)] (bo r) := by
 refine l_call (fk Try.func116 Try.ntmps116 m0 (by with_unfolding_all rfl)) (nl rfl) ?_
 unfold roads_greens_1_1_b_b at h
 refine l_sub (s0 := ⟨T [(0, (.d _)), (1, (.d _)), (2, (.d _))], G []⟩) (sbr rfl rfl) ?_
 refine lr (fun u1 hu1 => sn rfl rfl (sv rfl (s_nil (lr (fun u2 hu2 => sp rfl rfl (sl rfl G_hit rfl (sv rfl (bs h fun v1 hv1 h => s_call rfl rfl all2_refl (slices_Contains_int_int_ok _ _  _ hv1) (.inl rfl) (sv rfl (gp rfl (gw_t rfl) (fun _ => rfl) (gt rfl (vl rfl G_hit rfl) (gt rfl (fun _ => rfl) (bs h fun v2 hv2 h => ?_)))))))))))))
 refine g_call v1 (bo v2) (gw_t rfl) (fun w4 => ⟨_, [(dl eInt_i64 p1.Green), (di p3)], _, _, (by simp only [gd_pos w4]; rfl), rfl, all2_refl, slices_Contains_int_int_ok _ _  _ (cond_t w4 hv2), (.inl rfl)⟩) ?_
 refine sa rfl rfl rfl (sv rfl (s_nil (l_ret ?_)))
 cases h
 exact fin_ok (.inr rfl) (resD1 (res_t rfl) rf_d) (.refl _)

noncomputable def slices_IndexFunc_Phase_Phase_roads_greens_1_1bb_l1 (p1 : (List Phase)) (p2 : Int) (p3 : Int) (x1 : Int) : Option (Stp Int (Sum Unit Int)) :=
  cond (decide (x1 < (p1.length : Int))) ((geti p1 x1).bind fun v1 => (roads_greens_1_1_b_b v1 p2 p3).bind fun v2 => cond v2 (some (.out (.inr x1))) (some (.go (w64 (x1 + 1))))) (some (.out (.inl ())))
noncomputable def slices_IndexFunc_Phase_Phase_roads_greens_1_1bb (p1 : (List Phase)) (p2 : Int) (p3 : Int) : Option Int :=
  thenS (loop (slices_IndexFunc_Phase_Phase_roads_greens_1_1bb_l1 p1 p2 p3) 0) (fun _ => some (-1)) (fun r => some r)

theorem slices_IndexFunc_Phase_Phase_roads_greens_1_1bb_ok (p1 : (List Phase)) (p2 : Int) (p3 : Int) (r : Int) (h : slices_IndexFunc_Phase_Phase_roads_greens_1_1bb p1 p2 p3 = some r) : PCall Try.prog 107 [(.list (List.map ePhase p1)), (.fn (.func 116) [] [(.bp [(i64 p2)] 0), (.bp [(i64 p3)] 0)])] (i64 r) := by
 refine l_call (fk Try.func107 Try.ntmps107 m0 (by with_unfolding_all rfl)) (nl rfl) ?_
 unfold slices_IndexFunc_Phase_Phase_roads_greens_1_1bb at h
 refine l_sub (s0 := ⟨T [(0, (.d _)), (1, (.d _))], G []⟩) (sbr rfl rfl) ?_
 refine lr (fun u1 hu1 => sv rfl (s_nil (l_seq (lr (fun u2 hu2 => sv rfl (sd rfl (v_len rfl) (sv rfl (s_nil (js h fun z1 hz1 h => l_join (fun s => ∃ (y1 : Unit) (g1 : Unit), z1 = .inl y1 ∧ Sb ⟨T [], G []⟩ s) ?_ ?_)))))))))
 refine l_block (l_loop (slices_IndexFunc_Phase_Phase_roads_greens_1_1bb_l1 p1 p2 p3) (fun (x1 : Int) (g2 : Unit) => ⟨T [(0, (dl ePhase p1)), (1, (.d (.fn (.func 116) [] [(.bp [(i64 p2)] 0), (.bp [(i64 p3)] 0)]))), (7, (di (p1.length : Int))), (8, (di x1))], G []⟩) 0 () _ hz1 (sbr rfl rfl) ?_)
 intro x1 g2 z2 hz2 ez2
 unfold slices_IndexFunc_Phase_Phase_roads_greens_1_1bb_l1 at hz2
 refine lr (fun u3 hu3 => sv rfl (s_nil (l_seq (cc rfl hz2 (fun c1 hz2 => ?_) (fun c1 hz2 => ?_)))))
 refine l_skip (l_seq (l_block (lr (fun u4 hu4 => sv rfl (sv rfl (s_nil (lr (fun u5 hu5 => sv rfl (sv rfl (sv rfl (bs hz2 fun v1 hv1 hz2 => sd rfl (v_idx rfl rfl hv1 rfl) (sd rfl (v_loadLG rfl hv1 rfl rfl) (bs hz2 fun v2 hv2 hz2 => s_call rfl rfl all2_refl (roads_greens_1_1_b_b_ok _ _ _  _ hv2) (.inl rfl) (s_nil (cc rfl hz2 (fun c2 hz2 => ?_) (fun c2 hz2 => ?_))))))))))))))))
 refine lr (fun u6 hu6 => sv rfl (sv rfl (s_nil (l_ret ?_))))
 cases hz2
 obtain rfl := ez2 _ rfl
 refine ⟨nofun, awl_ret ?_⟩
 rw [Sum.elim_inr] at h
 cases h
 exact fin_ok (.inr rfl) (resD1 (res_t rfl) rf_d) (.refl _)
 refine l_skip (l_end (l_reg fun u7 hu7 => sv rfl (sv rfl (s_nil (l_nil ?_)))))
 cases hz2
 exact ⟨rfl, (), (sbr rfl rfl)⟩
 refine l_exitN rfl ?_
 cases hz2
 obtain rfl := ez2 _ rfl
 refine ⟨nofun, awl_pop rfl (l_j ?_)⟩
 exact ⟨_, (), rfl, (sbr rfl rfl)⟩
 rintro _ ⟨y1, g1, rfl, q1⟩
 rw [Sum.elim_inl] at h
 refine l_sub q1 (lr (fun u8 hu8 => sv rfl (s_nil (l_ret ?_))))
 cases h
 exact fin_ok (.inr rfl) (resD1 (res_t rfl) rf_d) (.refl _)

noncomputable def slices_ContainsFunc_Phase_Phase_roads_greens_1_1bb (p1 : (List Phase)) (p2 : Int) (p3 : Int) : Option Bool :=
  (slices_IndexFunc_Phase_Phase_roads_greens_1_1bb p1 p2 p3).bind fun v1 => some (decide (v1 ≥ 0))

theorem slices_ContainsFunc_Phase_Phase_roads_greens_1_1bb_ok (p1 : (List Phase)) (p2 : Int) (p3 : Int) (r : Bool) (h : slices_ContainsFunc_Phase_Phase_roads_greens_1_1bb p1 p2 p3 = some r) : PCall Try.prog 76 [(.list (List.map ePhase p1)), (.fn (.func 116) [] [(.bp [(i64 p2)] 0), (.bp [(i64 p3)] 0)])] (bo r) := by
 refine l_call (fk Try.func76 Try.ntmps76 m0 (by with_unfolding_all rfl)) (nl rfl) ?_
 unfold slices_ContainsFunc_Phase_Phase_roads_greens_1_1bb at h
 refine l_sub (s0 := ⟨T [(0, (.d _)), (1, (.d _))], G []⟩) (sbr rfl rfl) ?_
 refine lr (fun u1 hu1 => sv rfl (s_nil (lr (fun u2 hu2 => sv rfl (sv rfl (bs h fun v1 hv1 h => s_call rfl rfl all2_refl (slices_IndexFunc_Phase_Phase_roads_greens_1_1bb_ok _ _ _  _ hv1) (.inl rfl) (sv rfl (sv rfl (s_nil (l_ret ?_))))))))))
 cases h
 exact fin_ok (.inr rfl) (resD1 (res_t rfl) rf_d) (.refl _)

noncomputable def roads_greens_1_b (p1 : Zone) (p2 : Int) (p3 : Int) (p4 : Map) : Option Bool :=
  ((cond (decide (p1.Signal_ > 0)) (geti p4.Signals (w64 (p1.Signal_ - 1))) (some default))).bind fun v1 => ((cond (decide (p1.Signal_ > 0)) (slices_ContainsFunc_Phase_Phase_roads_greens_1_1bb v1.Phases p2 p3) (some default))).bind fun v2 => some ((decide (p1.Signal_ > 0)) && v2)

theorem roads_greens_1_b_ok (p1 : Zone) (p2 : Int) (p3 : Int) (p4 : Map) (r : Bool) (h : roads_greens_1_b p1 p2 p3 p4 = some r) : PCall Try.prog 115 [(.agg [(.list (List.map ePart p1.Parts)), (i64 p1.Signal_)]), (i64 p2), (i64 p3), (.bp (eMap p4) 0)] (bo r) := by
 refine l_call (fk Try.func115 Try.ntmps115 m0 (by with_unfolding_all rfl)) (nl rfl) ?_
 unfold roads_greens_1_b at h
 refine l_sub (s0 := ⟨T [(0, (.d _)), (1, (.d _)), (2, (.d _)), (3, (.d _))], G []⟩) (sbr rfl rfl) ?_
 refine lr (fun u1 hu1 => sn rfl rfl (sn rfl rfl (sn rfl rfl (sv rfl (s_nil (lr (fun u2 hu2 => sp rfl rfl (sl rfl (gq rfl) rfl (sv rfl (sv rfl (gt rfl (fun _ => rfl) ?_)))))))))))
 refine gt rfl (fun w2 => (by simp only [gd_pos w2]; rfl)) ?_
 refine gp rfl (gw_t rfl) (fun _ => rfl) (gt rfl (vl rfl (gq rfl) rfl) (gt rfl (vb rfl rfl rfl) (bs h fun v1 hv1 h => gt rfl (fun w6 => (v_idx (gd_pos w6) (gd_pos w6) (cond_t w6 hv1) rfl)) ?_)))
 refine gt rfl (fun w7 => (by simp only [gd_pos w7]; rfl)) ?_
 refine gt rfl (fun w8 => (v_loadL (gd_pos w8) (cond_t w8 hv1) rfl)) (g_val _ (.fn _ _ _) rfl (gw_t rfl) (fun _ => rfl) (bs h fun v2 hv2 h => ?_))
 refine g_call _ (bo v2) (gw_t rfl) (fun w10 => ⟨_, [(dl ePhase v1.Phases), (.fn (.func 116) [] [(.ptr (5, u1) 0), (.ptr (6, u1) 0)])], _, _, (by simp only [gd_pos w10]; rfl), (rD (rfL_cons (rf_fn rfL_nil (rfL_cons (rf_ptr (gq rfl) (rD rfL_nil)) (rfL_cons (rf_ptr G_hit (rD rfL_nil)) rfL_nil))) rfL_nil)), all2_refl, slices_ContainsFunc_Phase_Phase_roads_greens_1_1bb_ok _ _ _  _ (cond_t w10 hv2), (.inr rfl)⟩) ?_
 refine sa rfl rfl rfl (sv rfl (s_nil (l_ret ?_)))
 cases h
 exact fin_ok (.inr rfl) (resD1 (res_t rfl) rf_d) (.refl _)

noncomputable def roads_pairs_roads_greens_1b_l3 (p2 : Int) (p3 : Map) (x1 : ((List Clash) × Int)) (v1 : Zone) (v3 : Int) (v4 : List Int) (x3 : ((List Clash) × Int)) : Option (Stp ((List Clash) × Int) (List Clash)) :=
  cond (decide (x3.2 < (v4.length : Int))) ((geti v4 x3.2).bind fun v5 => (roads_greens_1_b v1 v3 v5 p3).bind fun v6 => cond v6 ((appc x3.1 [(Clash.mk p2 x1.2 v3 v5)]).bind fun v7 => some (.go (v7, (w64 (x3.2 + 1))))) (some (.go (x3.1, (w64 (x3.2 + 1)))))) (some (.out x3.1))
noncomputable def roads_pairs_roads_greens_1b_l2 (p2 : Int) (p3 : Map) (x1 : ((List Clash) × Int)) (v1 : Zone) (v2 : (List Int)) (x2 : ((List Clash) × Int)) : Option (Stp ((List Clash) × Int) (List Clash)) :=
  cond (decide (x2.2 < (v2.length : Int))) ((geti v2 x2.2).bind fun v3 => (subl v2 (w64 (x2.2 + 1)) (v2.length : Int)).bind fun v4 => (loop (roads_pairs_roads_greens_1b_l3 p2 p3 x1 v1 v3 v4) (x2.1, 0)).bind fun y3 => some (.go (y3, (w64 (x2.2 + 1))))) (some (.out x2.1))
noncomputable def roads_pairs_roads_greens_1b_l1 (p1 : Map) (p2 : Int) (p3 : Map) (x1 : ((List Clash) × Int)) : Option (Stp ((List Clash) × Int) (List Clash)) :=
  cond (decide (x1.2 < (p1.Zones.length : Int))) ((geti p1.Zones x1.2).bind fun v1 => (roads_entries p1 v1).bind fun v2 => (loop (roads_pairs_roads_greens_1b_l2 p2 p3 x1 v1 v2) (x1.1, 0)).bind fun y2 => some (.go (y2, (w64 (x1.2 + 1))))) (some (.out x1.1))
noncomputable def roads_pairs_roads_greens_1b (p1 : Map) (p2 : Int) (p3 : Map) : Option (List Clash) :=
  (loop (roads_pairs_roads_greens_1b_l1 p1 p2 p3) ([], 0)).bind fun y1 => some y1

theorem roads_pairs_roads_greens_1b_ok (p1 : Map) (p2 : Int) (p3 : Map) (r : (List Clash)) (h : roads_pairs_roads_greens_1b p1 p2 p3 = some r) : PCall Try.prog 113 [(.agg (eMap p1)), (i64 p2), (.fn (.func 115) [] [(.bp (eMap p3) 0)])] (.list (List.map eClash r)) := by
 refine l_call (fk Try.func113 Try.ntmps113 (fun r => if r == 12 then [1006] else []) (by with_unfolding_all rfl)) (nl rfl) ?_
 unfold roads_pairs_roads_greens_1b at h
 refine l_sub (s0 := ⟨T [(0, (.d _)), (1, (.d _)), (2, (.d _))], G []⟩) (sbr rfl rfl) ?_
 refine lr (fun u1 hu1 => sn rfl rfl (sv rfl (s_nil (l_seq (lr (fun u2 hu2 => sp rfl rfl (sl rfl G_hit rfl (sd rfl (v_len rfl) (sv rfl (s_nil (bs h fun y1 hy1 h => l_join (fun s => ∃ g1 : Nat, Sb ⟨T [(6, (oS y1 (53, g1)))], G [((53, g1), oB 145 4 eClash y1)]⟩ s) ?_ ?_)))))))))))
 refine l_block (l_loop (roads_pairs_roads_greens_1b_l1 p1 p2 p3) (fun (x1 : ((List Clash) × Int)) (g2 : Nat) => ⟨T [(1, (di p2)), (2, (.d (.fn (.func 115) [] [(.bp (eMap p3) 0)]))), (3, (.ptr (3, u1) 0)), (6, (oS x1.1 (53, g2))), (15, (dl eZone p1.Zones)), (16, (di (p1.Zones.length : Int))), (17, (di x1.2))], G [((3, u1), some (.box 28 (dMap p1))), ((53, g2), oB 145 4 eClash x1.1)]⟩) ([], 0) 0 _ hy1 (sb_of ⟨.of rfl, .of rfl, .of rfl, .of rfl, .of rfl, .of rfl, .of rfl, trivial⟩ (sbG_some G_hit (.of rfl) (sbG_nil trivial))) ?_)
 intro x1 g2 z1 hz1 ez1
 unfold roads_pairs_roads_greens_1b_l1 at hz1
 refine lr (fun u3 hu3 => sv rfl (s_nil (l_seq (cc rfl hz1 (fun c1 hz1 => ?_) (fun c1 hz1 => ?_)))))
 refine l_skip (l_seq (l_block (lr (fun u4 hu4 => sv rfl (bs hz1 fun v1 hv1 hz1 => sd rfl (v_idx rfl rfl hv1 rfl) (sd rfl (v_loadLG rfl hv1 rfl rfl) (sn rfl rfl (sv rfl (sst rfl G_hit [(dl ePart v1.Parts), (di v1.Signal_)] rfl (s_nil (lr (fun u5 hu5 => sd rfl (v_loadG rfl (gq rfl) rfl rfl) (sd rfl (v_loadG rfl G_hit rfl rfl) (bs hz1 fun v2 hv2 hz1 => s_call rfl rfl all2_refl (roads_entries_ok _ _  _ hv2) (.inl rfl) (sv rfl (s_nil (lr (fun u6 hu6 => sv rfl (sd rfl (v_len rfl) (sv rfl (s_nil (bs hz1 fun y2 hy2 hz1 => l_join (fun s => ∃ g3 : Nat, Sb ⟨T [(1, (di p2)), (2, (.d (.fn (.func 115) [] [(.bp (eMap p3) 0)]))), (3, (.ptr (3, u1) 0)), (6, (oS y2 (53, g3))), (15, (dl eZone p1.Zones)), (16, (di (p1.Zones.length : Int))), (17, (di x1.2))], G [((3, u1), some (.box 28 (dMap p1))), ((53, g3), oB 145 4 eClash y2)]⟩ s) ?_ ?_))))))))))))))))))))))
 refine l_block (l_loop (roads_pairs_roads_greens_1b_l2 p2 p3 x1 v1 v2) (fun (x2 : ((List Clash) × Int)) (g4 : Nat) => ⟨T [(1, (di p2)), (2, (.d (.fn (.func 115) [] [(.bp (eMap p3) 0)]))), (3, (.ptr (3, u1) 0)), (6, (oS x2.1 (53, g4))), (7, (di x1.2)), (8, (.ptr (8, u4) 0)), (9, (dl eInt_i64 v2)), (15, (dl eZone p1.Zones)), (16, (di (p1.Zones.length : Int))), (17, (di x1.2)), (25, (dl eInt_i64 v2)), (26, (di (v2.length : Int))), (27, (di x2.2))], G [((3, u1), some (.box 28 (dMap p1))), ((8, u4), some (.box 69 [(dl ePart v1.Parts), (di v1.Signal_)])), ((53, g4), oB 145 4 eClash x2.1)]⟩) (x1.1, 0) g2 _ hy2 (sb_of ⟨.of rfl, .of rfl, .of rfl, .of rfl, .of rfl, .of rfl, .of rfl, .of rfl, .of rfl, .of rfl, .of rfl, .of rfl, .of rfl, trivial⟩ (sg rfl (sbG_some G_hit (.of rfl) (sbG_oB (gq rfl) trivial)))) ?_)
 intro x2 g4 z2 hz2 ez2
 unfold roads_pairs_roads_greens_1b_l2 at hz2
 refine lr (fun u7 hu7 => sv rfl (s_nil (l_seq (cc rfl hz2 (fun c2 hz2 => ?_) (fun c2 hz2 => ?_)))))
 refine l_skip (l_seq (l_block (lr (fun u8 hu8 => sv rfl (bs hz2 fun v3 hv3 hz2 => sd rfl (v_idx rfl rfl hv3 rfl) (sd rfl (v_loadL rfl hv3 rfl) (sv rfl (sv rfl (s_nil (lr (fun u9 hu9 => sv rfl (sv rfl (sv rfl (bs hz2 fun v4 hv4 hz2 => sd rfl (v_sub rfl (fun _ => rfl) (bd_x rfl) bd_end hv4) (sd rfl (v_len rfl) (sv rfl (s_nil (bs hz2 fun y3 hy3 hz2 => l_join (fun s => ∃ g5 : Nat, Sb ⟨T [(1, (di p2)), (2, (.d (.fn (.func 115) [] [(.bp (eMap p3) 0)]))), (3, (.ptr (3, u1) 0)), (6, (oS y3 (53, g5))), (7, (di x1.2)), (8, (.ptr (8, u4) 0)), (9, (dl eInt_i64 v2)), (15, (dl eZone p1.Zones)), (16, (di (p1.Zones.length : Int))), (17, (di x1.2)), (25, (dl eInt_i64 v2)), (26, (di (v2.length : Int))), (27, (di x2.2))], G [((3, u1), some (.box 28 (dMap p1))), ((8, u4), some (.box 69 [(dl ePart v1.Parts), (di v1.Signal_)])), ((53, g5), oB 145 4 eClash y3)]⟩ s) ?_ ?_))))))))))))))))))
 refine l_block (l_loop (roads_pairs_roads_greens_1b_l3 p2 p3 x1 v1 v3 v4) (fun (x3 : ((List Clash) × Int)) (g6 : Nat) => ⟨T [(1, (di p2)), (2, (.d (.fn (.func 115) [] [(.bp (eMap p3) 0)]))), (3, (.ptr (3, u1) 0)), (6, (oS x3.1 (53, g6))), (7, (di x1.2)), (8, (.ptr (8, u4) 0)), (9, (dl eInt_i64 v2)), (11, (di v3)), (15, (dl eZone p1.Zones)), (16, (di (p1.Zones.length : Int))), (17, (di x1.2)), (25, (dl eInt_i64 v2)), (26, (di (v2.length : Int))), (27, (di x2.2)), (35, (dl eInt_i64 v4)), (36, (di (v4.length : Int))), (37, (di x3.2))], G [((3, u1), some (.box 28 (dMap p1))), ((8, u4), some (.box 69 [(dl ePart v1.Parts), (di v1.Signal_)])), ((53, g6), oB 145 4 eClash x3.1)]⟩) (x2.1, 0) g4 _ hy3 (sb_of ⟨.of rfl, .of rfl, .of rfl, .of rfl, .of rfl, .of rfl, .of rfl, .of rfl, .of rfl, .of rfl, .of rfl, .of rfl, .of rfl, .of rfl, .of rfl, .of rfl, .of rfl, trivial⟩ (sbG_some G_hit (.of rfl) (sg rfl (sbG_oB (gq rfl) trivial)))) ?_)
 intro x3 g6 z3 hz3 ez3
 unfold roads_pairs_roads_greens_1b_l3 at hz3
 refine lr (fun u10 hu10 => sv rfl (s_nil (l_seq (cc rfl hz3 (fun c3 hz3 => ?_) (fun c3 hz3 => ?_)))))
 refine l_skip (l_seq (l_block (lr (fun u11 hu11 => bs hz3 fun v5 hv5 hz3 => sd rfl (v_idx rfl rfl hv5 rfl) (sd rfl (v_loadL rfl hv5 rfl) (sv rfl (s_nil (lr (fun u12 hu12 => sv rfl (sd rfl (v_loadG rfl (gq rfl) rfl rfl) (sv rfl (sv rfl (bs hz3 fun v6 hv6 hz3 => s_call rfl rfl all2_refl (roads_greens_1_b_ok _ _ _ _  _ hv6) (.inl rfl) (s_nil (cc rfl hz3 (fun c4 hz3 => ?_) (fun c4 hz3 => ?_))))))))))))))))
 refine l_sub (s0 := ⟨T [(1, (di p2)), (2, (.d (.fn (.func 115) [] [(.bp (eMap p3) 0)]))), (3, (.ptr (3, u1) 0)), (6, (oS x3.1 (53, g6))), (7, (di x1.2)), (8, (.ptr (8, u4) 0)), (9, (dl eInt_i64 v2)), (11, (di v3)), (13, (di v5)), (15, (dl eZone p1.Zones)), (16, (di (p1.Zones.length : Int))), (17, (di x1.2)), (25, (dl eInt_i64 v2)), (26, (di (v2.length : Int))), (27, (di x2.2)), (35, (dl eInt_i64 v4)), (36, (di (v4.length : Int))), (37, (di x3.2))], G [((3, u1), some (.box 28 (dMap p1))), ((53, g6), oB 145 4 eClash x3.1), ((8, u4), some (.box 69 [(dl ePart v1.Parts), (di v1.Signal_)]))]⟩) (sb_of ⟨.of rfl, .of rfl, .of rfl, .of rfl, .of rfl, .of rfl, .of rfl, .of rfl, .of rfl, .of rfl, .of rfl, .of rfl, .of rfl, .of rfl, .of rfl, .of rfl, .of rfl, .of rfl, trivial⟩ (sbG_some G_hit (.of rfl) (sbG_oB (gq rfl) (sg rfl trivial)))) ?_
 refine l_reg fun u13 hu13 => s_val (oS x3.1 (53, g6)) rfl rfl (sv rfl (sv rfl (sv rfl (sv rfl (sv rfl (s_val (dl eClash [(Clash.mk p2 x1.2 v3 v5)]) rfl rfl (bs hz3 fun v7 hv7 hz3 => s_appendO eClash (53, g6) x3.1 (Clash.mk p2 x1.2 v3 v5) [] _ (elems_list (fun _ => rfl)) rfl (gq rfl) hv7 (ss rfl (s_nil (l_end (l_sub (s0 := ⟨T [(1, (.d _)), (2, (.d _)), (3, (.ptr _ _)), (6, (.sl _)), (7, (.d _)), (8, (.ptr _ _)), (9, (.d _)), (11, (.d _)), (15, (.d _)), (16, (.d _)), (17, (.d _)), (25, (.d _)), (26, (.d _)), (27, (.d _)), (35, (.d _)), (36, (.d _)), (37, (.d _))], G [((3, u1), some (.box 28 _)), ((53, u13), some _), ((8, u4), some (.box 69 _))]⟩) (sbr rfl rfl) ?_)))))))))))
 refine l_reg fun u14 hu14 => sv rfl (sv rfl (s_nil (l_nil ?_)))
 cases hz3
 exact ⟨rfl, u13, (sb_of ⟨.of rfl, .of rfl, .of rfl, (.of (oS_ne (appc_ne hv7)).symm), .of rfl, .of rfl, .of rfl, .of rfl, .of rfl, .of rfl, .of rfl, .of rfl, .of rfl, .of rfl, .of rfl, .of rfl, .of rfl, trivial⟩ (sbG_some G_hit (.of rfl) (sg rfl (sbG_own (gq rfl) trivial))))⟩
 refine l_skip (l_end (l_sub (s0 := ⟨T [(1, (di p2)), (2, (.d (.fn (.func 115) [] [(.bp (eMap p3) 0)]))), (3, (.ptr (3, u1) 0)), (6, (oS x3.1 (53, g6))), (7, (di x1.2)), (8, (.ptr (8, u4) 0)), (9, (dl eInt_i64 v2)), (11, (di v3)), (15, (dl eZone p1.Zones)), (16, (di (p1.Zones.length : Int))), (17, (di x1.2)), (25, (dl eInt_i64 v2)), (26, (di (v2.length : Int))), (27, (di x2.2)), (35, (dl eInt_i64 v4)), (36, (di (v4.length : Int))), (37, (di x3.2))], G [((3, u1), some (.box 28 (dMap p1))), ((53, g6), oB 145 4 eClash x3.1), ((8, u4), some (.box 69 [(dl ePart v1.Parts), (di v1.Signal_)]))]⟩) (sb_of ⟨.of rfl, .of rfl, .of rfl, .of rfl, .of rfl, .of rfl, .of rfl, .of rfl, .of rfl, .of rfl, .of rfl, .of rfl, .of rfl, .of rfl, .of rfl, .of rfl, .of rfl, trivial⟩ (sbG_some G_hit (.of rfl) (sbG_oB (gq rfl) (sg rfl trivial)))) ?_))
 refine l_reg fun u15 hu15 => sv rfl (sv rfl (s_nil (l_nil ?_)))
 cases hz3
 exact ⟨rfl, g6, (sb_of ⟨.of rfl, .of rfl, .of rfl, .of rfl, .of rfl, .of rfl, .of rfl, .of rfl, .of rfl, .of rfl, .of rfl, .of rfl, .of rfl, .of rfl, .of rfl, .of rfl, .of rfl, trivial⟩ (sbG_some G_hit (.of rfl) (sg rfl (sbG_oB (gq rfl) trivial))))⟩
 refine l_exitN rfl ?_
 cases hz3
 obtain rfl := ez3 _ rfl
 refine ⟨nofun, awl_pop rfl (l_j ?_)⟩
 exact ⟨g6, (sb_of ⟨.of rfl, .of rfl, .of rfl, .of rfl, .of rfl, .of rfl, .of rfl, .of rfl, .of rfl, .of rfl, .of rfl, .of rfl, .of rfl, trivial⟩ (sbG_some G_hit (.of rfl) (sg rfl (sbG_oB (gq rfl) trivial))))⟩
 rintro _ ⟨g5, q1⟩
 refine l_end (l_sub q1 (l_reg fun u16 hu16 => sv rfl (sv rfl (s_nil (l_nil ?_)))))
 cases hz2
 exact ⟨rfl, g5, (sb_of ⟨.of rfl, .of rfl, .of rfl, .of rfl, .of rfl, .of rfl, .of rfl, .of rfl, .of rfl, .of rfl, .of rfl, .of rfl, .of rfl, trivial⟩ (sbG_some G_hit (.of rfl) (sg rfl (sbG_oB (gq rfl) trivial))))⟩
 refine l_exitN rfl ?_
 cases hz2
 obtain rfl := ez2 _ rfl
 refine ⟨nofun, awl_pop rfl (l_j ?_)⟩
 exact ⟨g4, (sb_of ⟨.of rfl, .of rfl, .of rfl, .of rfl, .of rfl, .of rfl, .of rfl, trivial⟩ (sbG_some G_hit (.of rfl) (sbG_oB (gq rfl) trivial)))⟩
 rintro _ ⟨g3, q2⟩
 refine l_end (l_sub q2 (l_reg fun u17 hu17 => sv rfl (sv rfl (s_nil (l_nil ?_)))))
 cases hz1
 exact ⟨rfl, g3, (sb_of ⟨.of rfl, .of rfl, .of rfl, .of rfl, .of rfl, .of rfl, .of rfl, trivial⟩ (sbG_some G_hit (.of rfl) (sbG_oB (gq rfl) trivial)))⟩
 refine l_exitN rfl ?_
 cases hz1
 obtain rfl := ez1 _ rfl
 refine ⟨nofun, awl_pop rfl (l_j ?_)⟩
 exact ⟨g2, (sb_of ⟨.of rfl, trivial⟩ (sbG_oB (gq rfl) trivial))⟩
 rintro _ ⟨g1, q3⟩
 refine l_sub q3 (lr (fun u18 hu18 => s_val (oS y1 (53, g1)) rfl rfl (s_val (oS y1 (53, g1)) rfl rfl (s_nil (l_ret ?_)))))
 cases h
 exact fin_ok (.inr rfl) (resD1 (res_t rfl) (rf_oS G_hit)) oD_le

noncomputable def roads_pairs_roads_greens_1o_l3 (p2 : Int) (p3 : Map) (x1 : ((List Clash) × Int)) (v1 : Zone) (v3 : Int) (v4 : List Int) (x3 : ((List Clash) × Int)) : Option (Stp ((List Clash) × Int) (List Clash)) :=
  cond (decide (x3.2 < (v4.length : Int))) ((geti v4 x3.2).bind fun v5 => (roads_greens_1_b v1 v3 v5 p3).bind fun v6 => cond v6 ((appc x3.1 [(Clash.mk p2 x1.2 v3 v5)]).bind fun v7 => some (.go (v7, (w64 (x3.2 + 1))))) (some (.go (x3.1, (w64 (x3.2 + 1)))))) (some (.out x3.1))
noncomputable def roads_pairs_roads_greens_1o_l2 (p2 : Int) (p3 : Map) (x1 : ((List Clash) × Int)) (v1 : Zone) (v2 : (List Int)) (x2 : ((List Clash) × Int)) : Option (Stp ((List Clash) × Int) (List Clash)) :=
  cond (decide (x2.2 < (v2.length : Int))) ((geti v2 x2.2).bind fun v3 => (subl v2 (w64 (x2.2 + 1)) (v2.length : Int)).bind fun v4 => (loop (roads_pairs_roads_greens_1o_l3 p2 p3 x1 v1 v3 v4) (x2.1, 0)).bind fun y3 => some (.go (y3, (w64 (x2.2 + 1))))) (some (.out x2.1))
noncomputable def roads_pairs_roads_greens_1o_l1 (p1 : Map) (p2 : Int) (p3 : Map) (x1 : ((List Clash) × Int)) : Option (Stp ((List Clash) × Int) (List Clash)) :=
  cond (decide (x1.2 < (p1.Zones.length : Int))) ((geti p1.Zones x1.2).bind fun v1 => (roads_entries p1 v1).bind fun v2 => (loop (roads_pairs_roads_greens_1o_l2 p2 p3 x1 v1 v2) (x1.1, 0)).bind fun y2 => some (.go (y2, (w64 (x1.2 + 1))))) (some (.out x1.1))
noncomputable def roads_pairs_roads_greens_1o (p1 : Map) (p2 : Int) (p3 : Map) : Option (List Clash) :=
  (loop (roads_pairs_roads_greens_1o_l1 p1 p2 p3) ([], 0)).bind fun y1 => some y1

theorem roads_pairs_roads_greens_1o_ok (p1 : Map) (p2 : Int) (p3 : Map) (r : (List Clash)) (h : roads_pairs_roads_greens_1o p1 p2 p3 = some r) : MCall Try.prog 113 [(.d (.agg (eMap p1))), (di p2), (.fn (.func 115) [] [(.ptr (900000, 0) 0)])] [(.box 28 (dMap p3))] (dl eClash r) [some (.box 28 (dMap p3))] [] := by
 refine m_callF (fk Try.func113 Try.ntmps113 (fun r => if r == 12 then [1006] else []) (by with_unfolding_all rfl)) rfl (nl rfl) ?_
 unfold roads_pairs_roads_greens_1o at h
 refine l_sub (s0 := ⟨T [(0, (.d _)), (1, (.d _)), (2, (.fn _ _ _))], G [((900000, 0), some (.box 28 _))]⟩) (sbr rfl rfl) ?_
 refine lr (fun u1 hu1 => sn rfl rfl (sv rfl (s_nil (l_seq (lr (fun u2 hu2 => sp rfl rfl (sl rfl G_hit rfl (sd rfl (v_len rfl) (sv rfl (s_nil (bs h fun y1 hy1 h => l_join (fun s => ∃ g1 : Nat, Sb ⟨T [(2, (.fn (.func 115) [] [(.ptr (900000, 0) 0)])), (6, (oS y1 (53, g1)))], G [((900000, 0), some (.box 28 (dMap p3))), ((53, g1), oB 145 4 eClash y1)]⟩ s) ?_ ?_)))))))))))
 refine l_block (l_loop (roads_pairs_roads_greens_1o_l1 p1 p2 p3) (fun (x1 : ((List Clash) × Int)) (g2 : Nat) => ⟨T [(1, (di p2)), (2, (.fn (.func 115) [] [(.ptr (900000, 0) 0)])), (3, (.ptr (3, u1) 0)), (6, (oS x1.1 (53, g2))), (15, (dl eZone p1.Zones)), (16, (di (p1.Zones.length : Int))), (17, (di x1.2))], G [((900000, 0), some (.box 28 (dMap p3))), ((3, u1), some (.box 28 (dMap p1))), ((53, g2), oB 145 4 eClash x1.1)]⟩) ([], 0) 0 _ hy1 (sb_of ⟨.of rfl, .of rfl, .of rfl, .of rfl, .of rfl, .of rfl, .of rfl, trivial⟩ (sg rfl (sbG_some G_hit (.of rfl) (sbG_nil trivial)))) ?_)
 intro x1 g2 z1 hz1 ez1
 unfold roads_pairs_roads_greens_1o_l1 at hz1
 refine lr (fun u3 hu3 => sv rfl (s_nil (l_seq (cc rfl hz1 (fun c1 hz1 => ?_) (fun c1 hz1 => ?_)))))
 refine l_skip (l_seq (l_block (lr (fun u4 hu4 => sv rfl (bs hz1 fun v1 hv1 hz1 => sd rfl (v_idx rfl rfl hv1 rfl) (sd rfl (v_loadLG rfl hv1 rfl rfl) (sn rfl rfl (sv rfl (sst rfl G_hit [(dl ePart v1.Parts), (di v1.Signal_)] rfl (s_nil (lr (fun u5 hu5 => sd rfl (v_loadG rfl (gq rfl) rfl rfl) (sd rfl (v_loadG rfl G_hit rfl rfl) (bs hz1 fun v2 hv2 hz1 => s_call rfl rfl all2_refl (roads_entries_ok _ _  _ hv2) (.inl rfl) (sv rfl (s_nil (lr (fun u6 hu6 => sv rfl (sd rfl (v_len rfl) (sv rfl (s_nil (bs hz1 fun y2 hy2 hz1 => l_join (fun s => ∃ g3 : Nat, Sb ⟨T [(1, (di p2)), (2, (.fn (.func 115) [] [(.ptr (900000, 0) 0)])), (3, (.ptr (3, u1) 0)), (6, (oS y2 (53, g3))), (15, (dl eZone p1.Zones)), (16, (di (p1.Zones.length : Int))), (17, (di x1.2))], G [((900000, 0), some (.box 28 (dMap p3))), ((3, u1), some (.box 28 (dMap p1))), ((53, g3), oB 145 4 eClash y2)]⟩ s) ?_ ?_))))))))))))))))))))))
 refine l_block (l_loop (roads_pairs_roads_greens_1o_l2 p2 p3 x1 v1 v2) (fun (x2 : ((List Clash) × Int)) (g4 : Nat) => ⟨T [(1, (di p2)), (2, (.fn (.func 115) [] [(.ptr (900000, 0) 0)])), (3, (.ptr (3, u1) 0)), (6, (oS x2.1 (53, g4))), (7, (di x1.2)), (8, (.ptr (8, u4) 0)), (9, (dl eInt_i64 v2)), (15, (dl eZone p1.Zones)), (16, (di (p1.Zones.length : Int))), (17, (di x1.2)), (25, (dl eInt_i64 v2)), (26, (di (v2.length : Int))), (27, (di x2.2))], G [((900000, 0), some (.box 28 (dMap p3))), ((3, u1), some (.box 28 (dMap p1))), ((8, u4), some (.box 69 [(dl ePart v1.Parts), (di v1.Signal_)])), ((53, g4), oB 145 4 eClash x2.1)]⟩) (x1.1, 0) g2 _ hy2 (sb_of ⟨.of rfl, .of rfl, .of rfl, .of rfl, .of rfl, .of rfl, .of rfl, .of rfl, .of rfl, .of rfl, .of rfl, .of rfl, .of rfl, trivial⟩ (sg rfl (sg rfl (sbG_some G_hit (.of rfl) (sbG_oB (gq rfl) trivial))))) ?_)
 intro x2 g4 z2 hz2 ez2
 unfold roads_pairs_roads_greens_1o_l2 at hz2
 refine lr (fun u7 hu7 => sv rfl (s_nil (l_seq (cc rfl hz2 (fun c2 hz2 => ?_) (fun c2 hz2 => ?_)))))
 refine l_skip (l_seq (l_block (lr (fun u8 hu8 => sv rfl (bs hz2 fun v3 hv3 hz2 => sd rfl (v_idx rfl rfl hv3 rfl) (sd rfl (v_loadL rfl hv3 rfl) (sv rfl (sv rfl (s_nil (lr (fun u9 hu9 => sv rfl (sv rfl (sv rfl (bs hz2 fun v4 hv4 hz2 => sd rfl (v_sub rfl (fun _ => rfl) (bd_x rfl) bd_end hv4) (sd rfl (v_len rfl) (sv rfl (s_nil (bs hz2 fun y3 hy3 hz2 => l_join (fun s => ∃ g5 : Nat, Sb ⟨T [(1, (di p2)), (2, (.fn (.func 115) [] [(.ptr (900000, 0) 0)])), (3, (.ptr (3, u1) 0)), (6, (oS y3 (53, g5))), (7, (di x1.2)), (8, (.ptr (8, u4) 0)), (9, (dl eInt_i64 v2)), (15, (dl eZone p1.Zones)), (16, (di (p1.Zones.length : Int))), (17, (di x1.2)), (25, (dl eInt_i64 v2)), (26, (di (v2.length : Int))), (27, (di x2.2))], G [((900000, 0), some (.box 28 (dMap p3))), ((3, u1), some (.box 28 (dMap p1))), ((8, u4), some (.box 69 [(dl ePart v1.Parts), (di v1.Signal_)])), ((53, g5), oB 145 4 eClash y3)]⟩ s) ?_ ?_))))))))))))))))))
 refine l_block (l_loop (roads_pairs_roads_greens_1o_l3 p2 p3 x1 v1 v3 v4) (fun (x3 : ((List Clash) × Int)) (g6 : Nat) => ⟨T [(1, (di p2)), (2, (.fn (.func 115) [] [(.ptr (900000, 0) 0)])), (3, (.ptr (3, u1) 0)), (6, (oS x3.1 (53, g6))), (7, (di x1.2)), (8, (.ptr (8, u4) 0)), (9, (dl eInt_i64 v2)), (11, (di v3)), (15, (dl eZone p1.Zones)), (16, (di (p1.Zones.length : Int))), (17, (di x1.2)), (25, (dl eInt_i64 v2)), (26, (di (v2.length : Int))), (27, (di x2.2)), (35, (dl eInt_i64 v4)), (36, (di (v4.length : Int))), (37, (di x3.2))], G [((900000, 0), some (.box 28 (dMap p3))), ((3, u1), some (.box 28 (dMap p1))), ((8, u4), some (.box 69 [(dl ePart v1.Parts), (di v1.Signal_)])), ((53, g6), oB 145 4 eClash x3.1)]⟩) (x2.1, 0) g4 _ hy3 (sb_of ⟨.of rfl, .of rfl, .of rfl, .of rfl, .of rfl, .of rfl, .of rfl, .of rfl, .of rfl, .of rfl, .of rfl, .of rfl, .of rfl, .of rfl, .of rfl, .of rfl, .of rfl, trivial⟩ (sbG_some G_hit (.of rfl) (sg rfl (sg rfl (sbG_oB (gq rfl) trivial))))) ?_)
 intro x3 g6 z3 hz3 ez3
 unfold roads_pairs_roads_greens_1o_l3 at hz3
 refine lr (fun u10 hu10 => sv rfl (s_nil (l_seq (cc rfl hz3 (fun c3 hz3 => ?_) (fun c3 hz3 => ?_)))))
 refine l_skip (l_seq (l_block (lr (fun u11 hu11 => bs hz3 fun v5 hv5 hz3 => sd rfl (v_idx rfl rfl hv5 rfl) (sd rfl (v_loadL rfl hv5 rfl) (sv rfl (s_nil (lr (fun u12 hu12 => s_val (.fn _ _ _) rfl rfl (sd rfl (v_loadG rfl (gq rfl) rfl rfl) (sv rfl (sv rfl (bs hz3 fun v6 hv6 hz3 => s_call rfl (rD (rD (rD (rfL_cons (rf_ptr G_hit (rD (rD (rD (rD (rD rfL_nil)))))) rfL_nil)))) all2_refl (roads_greens_1_b_ok _ _ _ _  _ hv6) (.inr rfl) (s_nil (cc rfl hz3 (fun c4 hz3 => ?_) (fun c4 hz3 => ?_))))))))))))))))
 refine l_sub (s0 := ⟨T [(1, (di p2)), (2, (.fn (.func 115) [] [(.ptr (900000, 0) 0)])), (3, (.ptr (3, u1) 0)), (6, (oS x3.1 (53, g6))), (7, (di x1.2)), (8, (.ptr (8, u4) 0)), (9, (dl eInt_i64 v2)), (11, (di v3)), (13, (di v5)), (15, (dl eZone p1.Zones)), (16, (di (p1.Zones.length : Int))), (17, (di x1.2)), (25, (dl eInt_i64 v2)), (26, (di (v2.length : Int))), (27, (di x2.2)), (35, (dl eInt_i64 v4)), (36, (di (v4.length : Int))), (37, (di x3.2))], G [((900000, 0), some (.box 28 (dMap p3))), ((3, u1), some (.box 28 (dMap p1))), ((53, g6), oB 145 4 eClash x3.1), ((8, u4), some (.box 69 [(dl ePart v1.Parts), (di v1.Signal_)]))]⟩) (sb_of ⟨.of rfl, .of rfl, .of rfl, .of rfl, .of rfl, .of rfl, .of rfl, .of rfl, .of rfl, .of rfl, .of rfl, .of rfl, .of rfl, .of rfl, .of rfl, .of rfl, .of rfl, .of rfl, trivial⟩ (sbG_some G_hit (.of rfl) (sg rfl (sbG_oB (gq rfl) (sg rfl trivial))))) ?_
 refine l_reg fun u13 hu13 => s_val (oS x3.1 (53, g6)) rfl rfl (sv rfl (sv rfl (sv rfl (sv rfl (sv rfl (s_val (dl eClash [(Clash.mk p2 x1.2 v3 v5)]) rfl rfl (bs hz3 fun v7 hv7 hz3 => s_appendO eClash (53, g6) x3.1 (Clash.mk p2 x1.2 v3 v5) [] _ (elems_list (fun _ => rfl)) rfl (gq rfl) hv7 (ss rfl (s_nil (l_end (l_sub (s0 := ⟨T [(1, (.d _)), (2, (.fn _ _ _)), (3, (.ptr _ _)), (6, (.sl _)), (7, (.d _)), (8, (.ptr _ _)), (9, (.d _)), (11, (.d _)), (15, (.d _)), (16, (.d _)), (17, (.d _)), (25, (.d _)), (26, (.d _)), (27, (.d _)), (35, (.d _)), (36, (.d _)), (37, (.d _))], G [((900000, 0), some (.box 28 _)), ((3, u1), some (.box 28 _)), ((53, u13), some _), ((8, u4), some (.box 69 _))]⟩) (sbr rfl rfl) ?_)))))))))))
 refine l_reg fun u14 hu14 => sv rfl (sv rfl (s_nil (l_nil ?_)))
 cases hz3
 exact ⟨rfl, u13, (sb_of ⟨.of rfl, .of rfl, .of rfl, (.of (oS_ne (appc_ne hv7)).symm), .of rfl, .of rfl, .of rfl, .of rfl, .of rfl, .of rfl, .of rfl, .of rfl, .of rfl, .of rfl, .of rfl, .of rfl, .of rfl, trivial⟩ (sbG_some G_hit (.of rfl) (sg rfl (sg rfl (sbG_own (gq rfl) trivial)))))⟩
 refine l_skip (l_end (l_sub (s0 := ⟨T [(1, (di p2)), (2, (.fn (.func 115) [] [(.ptr (900000, 0) 0)])), (3, (.ptr (3, u1) 0)), (6, (oS x3.1 (53, g6))), (7, (di x1.2)), (8, (.ptr (8, u4) 0)), (9, (dl eInt_i64 v2)), (11, (di v3)), (15, (dl eZone p1.Zones)), (16, (di (p1.Zones.length : Int))), (17, (di x1.2)), (25, (dl eInt_i64 v2)), (26, (di (v2.length : Int))), (27, (di x2.2)), (35, (dl eInt_i64 v4)), (36, (di (v4.length : Int))), (37, (di x3.2))], G [((900000, 0), some (.box 28 (dMap p3))), ((3, u1), some (.box 28 (dMap p1))), ((53, g6), oB 145 4 eClash x3.1), ((8, u4), some (.box 69 [(dl ePart v1.Parts), (di v1.Signal_)]))]⟩) (sb_of ⟨.of rfl, .of rfl, .of rfl, .of rfl, .of rfl, .of rfl, .of rfl, .of rfl, .of rfl, .of rfl, .of rfl, .of rfl, .of rfl, .of rfl, .of rfl, .of rfl, .of rfl, trivial⟩ (sbG_some G_hit (.of rfl) (sg rfl (sbG_oB (gq rfl) (sg rfl trivial))))) ?_))
 refine l_reg fun u15 hu15 => sv rfl (sv rfl (s_nil (l_nil ?_)))
 cases hz3
 exact ⟨rfl, g6, (sb_of ⟨.of rfl, .of rfl, .of rfl, .of rfl, .of rfl, .of rfl, .of rfl, .of rfl, .of rfl, .of rfl, .of rfl, .of rfl, .of rfl, .of rfl, .of rfl, .of rfl, .of rfl, trivial⟩ (sbG_some G_hit (.of rfl) (sg rfl (sg rfl (sbG_oB (gq rfl) trivial)))))⟩
 refine l_exitN rfl ?_
 cases hz3
 obtain rfl := ez3 _ rfl
 refine ⟨nofun, awl_pop rfl (l_j ?_)⟩
 exact ⟨g6, (sb_of ⟨.of rfl, .of rfl, .of rfl, .of rfl, .of rfl, .of rfl, .of rfl, .of rfl, .of rfl, .of rfl, .of rfl, .of rfl, .of rfl, trivial⟩ (sbG_some G_hit (.of rfl) (sg rfl (sg rfl (sbG_oB (gq rfl) trivial)))))⟩
 rintro _ ⟨g5, q1⟩
 refine l_end (l_sub q1 (l_reg fun u16 hu16 => sv rfl (sv rfl (s_nil (l_nil ?_)))))
 cases hz2
 exact ⟨rfl, g5, (sb_of ⟨.of rfl, .of rfl, .of rfl, .of rfl, .of rfl, .of rfl, .of rfl, .of rfl, .of rfl, .of rfl, .of rfl, .of rfl, .of rfl, trivial⟩ (sbG_some G_hit (.of rfl) (sg rfl (sg rfl (sbG_oB (gq rfl) trivial)))))⟩
 refine l_exitN rfl ?_
 cases hz2
 obtain rfl := ez2 _ rfl
 refine ⟨nofun, awl_pop rfl (l_j ?_)⟩
 exact ⟨g4, (sb_of ⟨.of rfl, .of rfl, .of rfl, .of rfl, .of rfl, .of rfl, .of rfl, trivial⟩ (sbG_some G_hit (.of rfl) (sg rfl (sbG_oB (gq rfl) trivial))))⟩
 rintro _ ⟨g3, q2⟩
 refine l_end (l_sub q2 (l_reg fun u17 hu17 => sv rfl (sv rfl (s_nil (l_nil ?_)))))
 cases hz1
 exact ⟨rfl, g3, (sb_of ⟨.of rfl, .of rfl, .of rfl, .of rfl, .of rfl, .of rfl, .of rfl, trivial⟩ (sbG_some G_hit (.of rfl) (sg rfl (sbG_oB (gq rfl) trivial))))⟩
 refine l_exitN rfl ?_
 cases hz1
 obtain rfl := ez1 _ rfl
 refine ⟨nofun, awl_pop rfl (l_j ?_)⟩
 exact ⟨g2, (sb_of ⟨.of rfl, .of rfl, trivial⟩ (sbG_some G_hit (.of rfl) (sbG_oB (gq rfl) trivial)))⟩
 rintro _ ⟨g1, q3⟩
 refine l_sub q3 (lr (fun u18 hu18 => s_val (oS y1 (53, g1)) rfl rfl (s_val (oS y1 (53, g1)) rfl rfl (s_nil (l_ret ?_)))))
 cases h
 exact fin_mf (.inr rfl) [(53, g1)] (resDF1 (res_t rfl) (rf_oS (rs_in (.head _) (gq rfl)))) oD_le ⟨⟨_, _, _, G_hit, (old_notin rfl old_notin_nil), rfl, all2_d, rfl⟩, trivial⟩

noncomputable def roads_greens (p1 : Map) : Option (List Clash) :=
  (roads_pairs_roads_greens_1o p1 4 p1).bind fun v1 => some v1

theorem roads_greens_ok (p1 : Map) (r : (List Clash)) (h : roads_greens p1 = some r) : PCall Try.prog 82 [(.agg (eMap p1))] (.list (List.map eClash r)) := by
 refine l_call (fk Try.func82 Try.ntmps82 (fun r => if r == 1 then [1001002] else []) (by with_unfolding_all rfl)) (nl rfl) ?_
 unfold roads_greens at h
 refine l_sub (s0 := ⟨T [(0, (.d _))], G []⟩) (sbr rfl rfl) ?_
 refine lr (fun u1 hu1 => sn rfl rfl (sv rfl (s_nil (lr (fun u2 hu2 => sd rfl (v_loadG rfl G_hit rfl rfl) (s_val (.fn _ _ _) rfl rfl (bs h fun v1 hv1 h => s_oc (v := .d (.list (List.map eClash v1))) (us := [(1, u1)]) (oc_m (roads_pairs_roads_greens_1o_ok _ _ _ _ hv1) [(1, u1)] [(1, u1)] _ (((1, u1), some (.box 28 (dMap p1))) :: _) rfl all2_av (kl_cons kr_d (kl_cons kr_d (kl_cons (kr_fn rfl (kl_cons (kr_ptr G_hit rfl) kl_nil)) kl_nil))) (live_cons G_hit live_nil) ⟨⟨_, G_hit, .of rfl⟩, trivial⟩ (fun _ h => h) nd1 rfl rfl rfl) (sv rfl (s_nil (l_ret ?_))))))))))
 cases h
 exact fin_ok (.inr rfl) (resD1 (res_t rfl) rf_d) (.refl _)

noncomputable def roads_Fit (p1 : Map) : Option Bool :=
  (roads_Check p1).bind fun v1 => ((cond (v1 == 0) (roads_merges p1) (some default))).bind fun v2 => ((cond (v1 == 0) (roads_chains p1) (some default))).bind fun v3 => ((cond (v1 == 0) (roads_ranks p1) (some default))).bind fun v4 => ((cond (v1 == 0) (roads_greens p1) (some default))).bind fun v5 => some ((v1 == 0) && ((w64 ((w64 ((w64 ((v2.length : Int) + (v3.length : Int))) + (v4.length : Int))) + (v5.length : Int))) == 0))

theorem roads_Fit_ok (p1 : Map) (r : Bool) (h : roads_Fit p1 = some r) : PCall Try.prog 50 [(.agg (eMap p1))] (bo r) := by
 refine l_call (fk Try.func50 Try.ntmps50 m0 (by with_unfolding_all rfl)) (nl rfl) ?_
 unfold roads_Fit at h
 refine l_sub (s0 := ⟨T [(0, (.d _))], G []⟩) (sbr rfl rfl) ?_
 refine lr (fun u1 hu1 => sn rfl rfl (sv rfl (s_nil (l_seq (l_draw rfl fun u2 hu2 => sd rfl (v_loadG rfl G_hit rfl rfl) (bs h fun v1 hv1 h => s_call rfl rfl all2_refl (roads_Check_ok _  _ hv1) (.inl rfl) (sv rfl (sv rfl (gt rfl (fun w1 => (v_loadG rfl G_hit rfl rfl)) (bs h fun v2 hv2 h => ?_))))))))))
 refine g_call _ (.list (List.map eClash v2)) (gw_t rfl) (fun w2 => ⟨_, [(.d (.agg (eMap p1)))], _, _, (by simp only [gd_pos w2]; rfl), rfl, all2_refl, roads_merges_ok _  _ (cond_t w2 hv2), (.inl rfl)⟩) ?_
 refine gt rfl (fun w3 => (v_len (gd_pos w3))) (gt rfl (fun w4 => (v_loadG rfl G_hit rfl rfl)) (bs h fun v3 hv3 h => ?_))
 refine g_call _ (.list (List.map eClash v3)) (gw_t rfl) (fun w5 => ⟨_, [(.d (.agg (eMap p1)))], _, _, (by simp only [gd_pos w5]; rfl), rfl, all2_refl, roads_chains_ok _  _ (cond_t w5 hv3), (.inl rfl)⟩) ?_
 refine gt rfl (fun w6 => (v_len (gd_pos w6))) (gt rfl (fun w7 => (v_bin (gd_pos w7) (gd_pos w7) rfl)) (gt rfl (fun w8 => (v_loadG rfl G_hit rfl rfl)) (bs h fun v4 hv4 h => ?_)))
 refine g_call _ (.list (List.map eClash v4)) (gw_t rfl) (fun w9 => ⟨_, [(.d (.agg (eMap p1)))], _, _, (by simp only [gd_pos w9]; rfl), rfl, all2_refl, roads_ranks_ok _  _ (cond_t w9 hv4), (.inl rfl)⟩) ?_
 refine gt rfl (fun w10 => (v_len (gd_pos w10))) (gt rfl (fun w11 => (v_bin (gd_pos w11) (gd_pos w11) rfl)) (gt rfl (fun w12 => (v_loadG rfl G_hit rfl rfl)) (bs h fun v5 hv5 h => ?_)))
 refine g_call _ (.list (List.map eClash v5)) (gw_t rfl) (fun w13 => ⟨_, [(.d (.agg (eMap p1)))], _, _, (by simp only [gd_pos w13]; rfl), rfl, all2_refl, roads_greens_ok _  _ (cond_t w13 hv5), (.inl rfl)⟩) ?_
 refine gt rfl (fun w14 => (v_len (gd_pos w14))) (gt rfl (fun w15 => (v_bin (gd_pos w15) (gd_pos w15) rfl)) (gt rfl (vb rfl rfl rfl) (sa rfl rfl rfl (sv rfl (s_nil (l_ret ?_))))))
 cases h
 exact fin_ok (.inr rfl) (resD1 (res_t rfl) rf_d) (.refl _)

noncomputable def law03_awake : Option Bool :=
  (kit_Cross).bind fun v1 => (roads_Place v1 [0] 60000).bind fun v2 => (roads_Check v1).bind fun v3 => ((cond (v3 == 0) (roads_Fit v1) (some default))).bind fun v4 => ((cond (((((v3 == 0) && v4) && (v2.1 == 0)) && (v2.2.1 == 60000)) && v2.2.2) (roads_Length v1 1) (some default))).bind fun v5 => ((cond ((((((v3 == 0) && v4) && (v2.1 == 0)) && (v2.2.1 == 60000)) && v2.2.2) && (v5 == 100000)) (roads_Limit v1 0 10 5) (some default))).bind fun v6 => some (((((((v3 == 0) && v4) && (v2.1 == 0)) && (v2.2.1 == 60000)) && v2.2.2) && (v5 == 100000)) && (v6 == 1500))

theorem law03_awake_ok (r : Bool) (h : law03_awake = some r) : PCall Try.prog 14 [] (bo r) := by
 refine l_call (fk Try.func14 Try.ntmps14 (fun r => if r == 2 then [1001] else []) (by with_unfolding_all rfl)) (nl rfl) ?_
 unfold law03_awake at h
 refine l_sub (s0 := ⟨T [], G []⟩) (sbr rfl rfl) ?_
 refine lr (fun u1 hu1 => sv rfl (s_nil (lr (fun u2 hu2 => bs h fun v1 hv1 h => s_call rfl rfl all2_refl (kit_Cross_ok  _ hv1) (.inl rfl) (sn rfl rfl (sst rfl G_hit (dMap v1) rfl (s_nil (lr (fun u3 hu3 => sd rfl (v_loadG rfl G_hit rfl rfl) (s_val (dl eInt_i64 [0]) rfl rfl (bs h fun v2 hv2 h => s_call rfl rfl all2_refl (roads_Place_ok _ _ _  _ hv2) (.inl rfl) (sv rfl (sv rfl (sv rfl (sv rfl (sv rfl (sv rfl (sv rfl (s_nil (lr (fun u4 hu4 => sd rfl (v_loadG rfl G_hit rfl rfl) (bs h fun v3 hv3 h => s_call rfl rfl all2_refl (roads_Check_ok _  _ hv3) (.inl rfl) (sv rfl (sv rfl (gt rfl (fun w1 => (v_loadG rfl G_hit rfl rfl)) (bs h fun v4 hv4 h => ?_))))))))))))))))))))))))))
 refine g_call _ (bo v4) (gw_t rfl) (fun w2 => ⟨_, [(.d (.agg (eMap v1)))], _, _, (by simp only [gd_pos w2]; rfl), rfl, all2_refl, roads_Fit_ok _  _ (cond_t w2 hv4), (.inl rfl)⟩) ?_
 refine sa rfl rfl rfl (sv rfl (gt rfl (fun _ => rfl) (gt rfl (vb rfl rfl rfl) (sa rfl rfl rfl (sv rfl (gt rfl (fun _ => rfl) (gt rfl (vb rfl rfl rfl) (sa rfl rfl rfl (sv rfl (gt rfl (fun _ => rfl) (sa rfl rfl rfl (sv rfl (gt rfl (fun w8 => (v_loadG rfl G_hit rfl rfl)) (bs h fun v5 hv5 h => ?_))))))))))))))
 refine g_call _ (i64 v5) (gw_t rfl) (fun w9 => ⟨_, [(.d (.agg (eMap v1))), (di 1)], _, _, (by simp only [gd_pos w9]; rfl), rfl, all2_refl, roads_Length_ok _ _  _ (cond_t w9 hv5), (.inl rfl)⟩) ?_
 refine gt rfl (vb rfl rfl rfl) (sa rfl rfl rfl (sv rfl (gt rfl (fun w11 => (v_loadG rfl G_hit rfl rfl)) (bs h fun v6 hv6 h => ?_))))
 refine g_call _ (i64 v6) (gw_t rfl) (fun w12 => ⟨_, [(.d (.agg (eMap v1))), (di 0), (di 10), (di 5)], _, _, (by simp only [gd_pos w12]; rfl), rfl, all2_refl, roads_Limit_ok _ _ _ _  _ (cond_t w12 hv6), (.inl rfl)⟩) ?_
 refine gt rfl (vb rfl rfl rfl) (sa rfl rfl rfl (sv rfl (s_nil (l_ret ?_))))
 cases h
 exact fin_ok (.inr rfl) (resD1 (res_t rfl) rf_d) (.refl _)

noncomputable def law03_RoadsWorks (p1 : Int) (p2 : (Int × Int × Int × Int × Int)) (p3 : Int) (p4 : Int) : Option Bool :=
  (kit_Map p1).bind fun v1 => (roads_Length (Map.mk v1.Version v1.Lanes v1.Zones v1.Signals []) 0).bind fun v2 => cond (decide (v2 < 1000)) (some false) ((kit_Mod64 p2.1 (w64 (v2 + 1))).bind fun v3 => (kit_Mod64 p2.2.1 (w64 ((w64 (v2 - v3)) + 1))).bind fun v4 => (kit_Mod64 p2.2.2.1 1000).bind fun v5 => (kit_Mod64 p2.2.2.2.2 2001).bind fun v6 => (kit_Mod64 p2.2.2.2.1 100).bind fun v7 => (kit_Mod64 p3 (w64 (v2 + 1))).bind fun v8 => (kit_Mod64 p4 1001).bind fun v9 => (roads_Limit (Map.mk v1.Version v1.Lanes v1.Zones v1.Signals []) 0 v8 v9).bind fun v10 => (geti v1.Lanes 0).bind fun v11 => ((cond (!(v11.Kind != 1)) (roads_Check (Map.mk v1.Version v1.Lanes v1.Zones v1.Signals [(Work.mk 0 v3 (w64 (v3 + v4)) v5 (w64 ((w64 (v5 + 1)) + v7)) v6)])) (some default))).bind fun v12 => cond ((v11.Kind != 1) || (v12 != 0)) (some false) ((roads_Limit (Map.mk v1.Version v1.Lanes v1.Zones v1.Signals [(Work.mk 0 v3 (w64 (v3 + v4)) v5 (w64 ((w64 (v5 + 1)) + v7)) v6)]) 0 v8 v9).bind fun v13 => cond ((((decide (v8 < v3)) || (decide (v8 > (w64 (v3 + v4))))) || (decide (v9 < v5))) || (decide (v9 ≥ (w64 ((w64 (v5 + 1)) + v7))))) (((cond (v13 == v10) (law03_awake) (some default))).bind fun v14 => some ((v13 == v10) && v14)) (((cond (v13 == (mm2 false v10 v6)) (law03_awake) (some default))).bind fun v15 => some ((v13 == (mm2 false v10 v6)) && v15))))

theorem law03_RoadsWorks_ok (p1 : Int) (p2 : (Int × Int × Int × Int × Int)) (p3 : Int) (p4 : Int) (r : Bool) (h : law03_RoadsWorks p1 p2 p3 p4 = some r) : PCall Try.prog 3 [(i64 p1), (.agg [(i64 p2.1), (i64 p2.2.1), (i64 p2.2.2.1), (i64 p2.2.2.2.1), (i64 p2.2.2.2.2)]), (i64 p3), (i64 p4)] (bo r) := by
 refine l_call (fk Try.func3 Try.ntmps3 (fun r => if r == 11 then [1001] else []) (by with_unfolding_all rfl)) (nl rfl) ?_
 unfold law03_RoadsWorks at h
 refine l_sub (s0 := ⟨T [(0, (.d _)), (1, (.d _)), (2, (.d _)), (3, (.d _))], G []⟩) (sbr rfl rfl) ?_
 refine lr (fun u1 hu1 => sn rfl rfl (sv rfl (s_nil (lr (fun u2 hu2 => sv rfl (bs h fun v1 hv1 h => s_call rfl rfl all2_refl (kit_Map_ok _  _ hv1) (.inl rfl) (sn rfl rfl (sst rfl G_hit (dMap v1) rfl (s_nil (lr (fun u3 hu3 => sp rfl rfl (sst rfl G_hit ((dMap v1).set 4 (.d .nilS)) rfl (s_nil (lr (fun u4 hu4 => sd rfl (v_loadG rfl G_hit rfl rfl) (bs h fun v2 hv2 h => s_call rfl rfl (.cons (.agg (ca rfl (ca rfl (ca rfl (ca rfl (.cons ⟨DLe.nil, rfl⟩ .nil)))))) all2_refl) (roads_Length_ok _ _  _ hv2) (.inl rfl) (sv rfl (s_nil (l_seq (lr (fun u5 hu5 => sv rfl (sv rfl (s_nil (cc rfl h (fun c1 h => ?_) (fun c1 h => ?_)))))))))))))))))))))))))
 refine lr (fun u6 hu6 => sv rfl (s_nil (l_ret ?_)))
 cases h
 exact fin_ok (.inr rfl) (resD1 (res_t rfl) rf_d) (.refl _)
 refine l_skip (lr (fun u7 hu7 => sp rfl rfl (sl rfl (gq rfl) rfl (sv rfl (sv rfl (bs h fun v3 hv3 h => s_call rfl rfl all2_refl (kit_Mod64_ok _ _  _ hv3) (.inl rfl) (sv rfl (s_nil (l_seq (l_sub (s0 := ⟨T [(2, (.d _)), (3, (.d _)), (5, (.ptr _ _)), (9, (.ptr _ _)), (10, (.d _)), (11, (.d _))], G [((5, u1), some (.box 22 _)), ((9, u2), some (.box 28 _))]⟩) (sbr rfl rfl) ?_))))))))))
 refine l_draw rfl fun u8 hu8 => sv rfl (sv rfl (sp rfl rfl (sl rfl G_hit rfl (sv rfl (sv rfl (sv rfl (sv rfl (bs h fun v4 hv4 h => s_call rfl rfl all2_refl (kit_Mod64_ok _ _  _ hv4) (.inl rfl) (sv rfl (sp rfl rfl (sl rfl G_hit rfl (bs h fun v5 hv5 h => s_call rfl rfl all2_refl (kit_Mod64_ok _ _  _ hv5) (.inl rfl) (sp rfl rfl (sl rfl G_hit rfl (bs h fun v6 hv6 h => s_call rfl rfl all2_refl (kit_Mod64_ok _ _  _ hv6) (.inl rfl) (sv rfl (sn rfl rfl (sst rfl G_hit [(di 0), (di v3), (di (w64 (v3 + v4))), (di v5), (di 0), (di v6)] rfl (s_nil (l_seq (l_sub (s0 := ⟨T [(2, (.d _)), (3, (.d _)), (5, (.ptr _ _)), (9, (.ptr _ _)), (10, (.d _)), (12, (.ptr _ _))], G [((5, u1), some (.box 22 _)), ((9, u2), some (.box 28 _)), ((12, u8), some (.box 33 _))]⟩) (sbr rfl rfl) ?_)))))))))))))))))))))
 refine l_draw rfl fun u9 hu9 => sp rfl rfl (sl rfl (gq rfl) rfl (sv rfl (sp rfl rfl (sl rfl G_hit rfl (bs h fun v7 hv7 h => s_call rfl rfl all2_refl (kit_Mod64_ok _ _  _ hv7) (.inl rfl) (sv rfl (sp rfl rfl (sst rfl (gq rfl) [(di 0), (di v3), (di (w64 (v3 + v4))), (di v5), (di (w64 ((w64 (v5 + 1)) + v7))), (di v6)] rfl (s_nil (lr (fun u10 hu10 => sv rfl (sv rfl (sv rfl (bs h fun v8 hv8 h => s_call rfl rfl all2_refl (kit_Mod64_ok _ _  _ hv8) (.inl rfl) (sv rfl (bs h fun v9 hv9 h => s_call rfl rfl all2_refl (kit_Mod64_ok _ _  _ hv9) (.inl rfl) (sv rfl (sv rfl (s_nil (l_seq (l_sub (s0 := ⟨T [(2, (.d _)), (3, (.d _)), (9, (.ptr _ _)), (12, (.ptr _ _))], G [((9, u2), some (.box 28 _)), ((12, u8), some (.box 33 _))]⟩) (sbr rfl rfl) ?_)))))))))))))))))))))
 refine l_reg fun u11 hu11 => sd rfl (v_loadG rfl G_hit rfl rfl) (sv rfl (sv rfl (bs h fun v10 hv10 h => s_call rfl rfl (.cons (.agg (ca rfl (ca rfl (ca rfl (ca rfl (.cons ⟨DLe.nil, rfl⟩ .nil)))))) (.cons (.refl _) (.cons (.refl _) all2_refl))) (roads_Limit_ok _ _ _ _  _ hv10) (.inl rfl) (sv rfl (s_nil (lr (fun u12 hu12 => sd rfl (v_loadG rfl (gq rfl) rfl rfl) (s_val (dl eWork [(Work.mk 0 v3 (w64 (v3 + v4)) v5 (w64 ((w64 (v5 + 1)) + v7)) v6)]) rfl rfl (sp rfl rfl (sst rfl G_hit ((dMap v1).set 4 (dl eWork [(Work.mk 0 v3 (w64 (v3 + v4)) v5 (w64 ((w64 (v5 + 1)) + v7)) v6)])) rfl (s_nil (l_seq (lr (fun u13 hu13 => sp rfl rfl (sl rfl G_hit rfl (bs h fun v11 hv11 h => sd rfl (v_idx rfl rfl hv11 rfl) (sv rfl (sd rfl (v_loadL rfl hv11 rfl) (sv rfl (sv rfl (gf rfl (fun w1 => (v_loadG rfl G_hit rfl rfl)) (bs h fun v12 hv12 h => ?_))))))))))))))))))))))
 refine g_call _ (i64 v12) (gw_f rfl) (fun w2 => ⟨_, [(.d (.agg [(i64 v1.Version), (.list (List.map eLane v1.Lanes)), (.list (List.map eZone v1.Zones)), (.list (List.map eSignal v1.Signals)), (.list (List.map eWork [(Work.mk 0 v3 (w64 (v3 + v4)) v5 (w64 ((w64 (v5 + 1)) + v7)) v6)]))]))], _, _, (by simp only [gd_pos w2]; rfl), rfl, all2_refl, roads_Check_ok _  _ (cond_t w2 hv12), (.inl rfl)⟩) ?_
 refine gf rfl (vb rfl rfl rfl) (sd rfl (v_or rfl rfl (fun hc => gd_pos (not_t hc))) (s_nil (cc rfl h (fun c2 h => ?_) (fun c2 h => ?_))))
 refine l_seq (l_sub (s0 := ⟨T [], G []⟩) (sbr rfl rfl) ?_)
 refine l_reg fun u14 hu14 => sv rfl (s_nil (l_ret ?_))
 cases h
 exact fin_ok (.inr rfl) (resD1 (res_t rfl) rf_d) (.refl _)
 refine l_skip (l_seq (l_sub (s0 := ⟨T [(2, (.d _)), (3, (.d _)), (9, (.ptr _ _)), (12, (.ptr _ _)), (13, (.d _))], G [((9, u2), some (.box 28 _)), ((12, u8), some (.box 33 _))]⟩) (sbr rfl rfl) ?_))
 refine l_reg fun u15 hu15 => sd rfl (v_loadG rfl G_hit rfl rfl) (sv rfl (sv rfl (bs h fun v13 hv13 h => s_call rfl rfl all2_refl (roads_Limit_ok _ _ _ _  _ hv13) (.inl rfl) (sv rfl (s_nil (l_seq (lr (fun u16 hu16 => sv rfl (sp rfl rfl (sl rfl (gq rfl) rfl (sv rfl (sv rfl (gf rfl (fun _ => rfl) (gp rfl (gw_f rfl) (fun _ => rfl) (gf rfl (vl rfl (gq rfl) rfl) (gf rfl (fun w7 => (v_bin (gd_pos w7) (gd_pos w7) rfl)) (sd rfl (v_or rfl rfl (fun hc => gd_pos (not_t hc))) (sv rfl (gf rfl (fun _ => rfl) (gp rfl (gw_f rfl) (fun _ => rfl) (gf rfl (vl rfl (gq rfl) rfl) (gf rfl (fun w11 => (v_bin (gd_pos w11) (gd_pos w11) rfl)) (sd rfl (v_or rfl rfl (fun hc => gd_pos (not_t hc))) (sv rfl (gf rfl (fun _ => rfl) (gp rfl (gw_f rfl) (fun _ => rfl) (gf rfl (vl rfl (gq rfl) rfl) (gf rfl (fun w15 => (v_bin (gd_pos w15) (gd_pos w15) rfl)) (sd rfl (v_or rfl rfl (fun hc => gd_pos (not_t hc))) (s_nil (cc rfl h (fun c3 h => ?_) (fun c3 h => ?_))))))))))))))))))))))))))))))))
 refine l_seq (l_sub (s0 := ⟨T [(13, (.d _)), (14, (.d _))], G []⟩) (sbr rfl rfl) ?_)
 refine l_reg fun u17 hu17 => sv rfl (sv rfl (sv rfl (sv rfl (bs h fun v14 hv14 h => g_call _ (bo v14) (gw_t rfl) (fun w16 => ⟨_, _, _, _, rfl, rfl, all2_refl, law03_awake_ok  _ (cond_t w16 hv14), (.inl rfl)⟩) (sa rfl rfl rfl (sv rfl (s_nil (l_ret ?_))))))))
 cases h
 exact fin_ok (.inr rfl) (resD1 (res_t rfl) rf_d) (.refl _)
 refine l_skip (l_seq (l_sub (s0 := ⟨T [(12, (.ptr _ _)), (13, (.d _)), (14, (.d _))], G [((12, u8), some (.box 33 _))]⟩) (sbr rfl rfl) ?_))
 refine l_reg fun u18 hu18 => sv rfl (sv rfl (sp rfl rfl (sl rfl G_hit rfl (sv rfl (sv rfl (sv rfl (bs h fun v15 hv15 h => g_call _ (bo v15) (gw_t rfl) (fun w17 => ⟨_, _, _, _, rfl, rfl, all2_refl, law03_awake_ok  _ (cond_t w17 hv15), (.inl rfl)⟩) (sa rfl rfl rfl (sv rfl (s_nil (l_ret ?_)))))))))))
 cases h
 exact fin_ok (.inr rfl) (resD1 (res_t rfl) rf_d) (.refl _)
end Go.Abs.Roads
