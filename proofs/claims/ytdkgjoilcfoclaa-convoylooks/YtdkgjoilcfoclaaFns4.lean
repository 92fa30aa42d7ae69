/-
  The functions, part 4.
-/
import Derived.Test.YtdkgjoilcfoclaaFns3
set_option maxRecDepth 20000
set_option linter.unusedVariables false
namespace Go.Abs.Convoy
open Go Go.Abs Go.Proofs
attribute [local irreducible] regW regT AWL

noncomputable def kit_Mates_o_l2 (p2 : Int) (v4 : Mate) (x2 : Mate) : Option (Stp Mate Mate) :=
  (ref09_Safe x2.S x2.V p2 (Guess.mk (w64 (v4.S - v4.Len)) v4.V)).bind fun v7 => cond (!v7) (some (.go (Mate.mk x2.ID (w64 (x2.S - 500)) x2.V x2.Len x2.Ahead x2.Guess_ x2.Trust x2.Ward x2.WardGuess x2.Until))) (some (.out x2))
noncomputable def kit_Mates_o_l1 (p2 : Int) (x1 : ((List Mate) × Int × KitRing)) : Option (Stp ((List Mate) × Int × KitRing) ((List Mate) × KitRing)) :=
  cond (decide (x1.2.1 > 0)) ((geti x1.1 (w64 ((x1.1.length : Int) - 1))).bind fun v4 => (kit_Ring_Next_o x1.2.2 2001).bind fun v5 => (kit_Ring_Next_o v5.2 6000).bind fun v6 => (loop (kit_Mates_o_l2 p2 v4) (Mate.mk 0 (w64 ((w64 (v4.S - v4.Len)) - p2)) v5.1 (w64 (300 + v6.1)) 0 (Guess.mk 0 0) false 0 (Guess.mk 0 0) 0)).bind fun y2 => (kit_Ring_Next_o v6.2 3).bind fun v8 => (kit_Ring_Next_o v8.2 9000).bind fun v9 => (appc x1.1 [(Mate.mk y2.ID (w64 (y2.S - (w64 (v8.1 * v9.1)))) y2.V y2.Len y2.Ahead y2.Guess_ y2.Trust y2.Ward y2.WardGuess y2.Until)]).bind fun v10 => some (.go (v10, (w64 (x1.2.1 - 1)), v9.2))) (some (.out (x1.1, x1.2.2)))
noncomputable def kit_Mates_o (p1 : KitRing) (p2 : Int) (p3 : Int) : Option ((List Mate) × KitRing) :=
  (kit_Ring_Next_o p1 2001).bind fun v1 => (kit_Ring_Next_o v1.2 6000).bind fun v2 => (kit_Ring_Next_o v2.2 p3).bind fun v3 => (loop (kit_Mates_o_l1 p2) ([(Mate.mk 0 16777216 v1.1 (w64 (300 + v2.1)) 0 (Guess.mk 0 0) false 0 (Guess.mk 0 0) 0)], v3.1, v3.2)).bind fun y1 => some (y1.1, y1.2)

/-- kerbstone/kerbstonekit.Mates -/
def ac_kit_Mates_o : AC :=
  (.seq (.reg [⟨(some 6), .mv (.c .nilS), none⟩])
  (.seq (.reg [⟨(some 12), .mv (.t 0), none⟩, ⟨(some 13), .ocall 10010010 (.c (.fn (.func 49) [] [])) [(.t 12), (.c (.v (.int .i64 2001)))], none⟩, ⟨(some 14), .mv (.t 0), none⟩, ⟨(some 15), .ocall 10010030 (.c (.fn (.func 49) [] [])) [(.t 14), (.c (.v (.int .i64 6000)))], none⟩, ⟨(some 16), .bin .add (.c (.v (.int .i64 300))) (.t 15), none⟩, ⟨(some 17), .build [(.v (.int .i64 0)), (.v (.int .i64 0)), (.v (.int .i64 0)), (.v (.int .i64 0)), (.v (.int .i64 0)), (.v (.int .i64 0)), (.v (.int .i64 0)), (.v (.bool false)), (.v (.int .i64 0)), (.v (.int .i64 0)), (.v (.int .i64 0)), (.v (.int .i64 0))] [(1, 1, (.c (.v (.int .i64 16777216)))), (2, 1, (.t 13)), (3, 1, (.t 16))], none⟩, ⟨(some 18), .bslice 65 12 1 [(.v (.int .i64 0)), (.v (.int .i64 0)), (.v (.int .i64 0)), (.v (.int .i64 0)), (.v (.int .i64 0)), (.v (.int .i64 0)), (.v (.int .i64 0)), (.v (.bool false)), (.v (.int .i64 0)), (.v (.int .i64 0)), (.v (.int .i64 0)), (.v (.int .i64 0))] [(0, 12, (.t 17))], none⟩, ⟨(some 7), .mv (.t 18), none⟩])
  (.seq (.seq (.reg [⟨(some 19), .mv (.t 0), none⟩, ⟨(some 20), .mv (.t 2), none⟩, ⟨(some 21), .ocall 10020020 (.c (.fn (.func 49) [] [])) [(.t 19), (.t 20)], none⟩, ⟨(some 8), .mv (.t 21), none⟩])
  (.block 0
    (.loop
      (.seq (.seq (.reg [⟨(some 22), .mv (.t 8), none⟩, ⟨(some 23), .bin .gtr (.t 22) (.c (.v (.int .i64 0))), none⟩])
      (.cond (.t 23)
        .skip
        (.exit 0)))
      (.seq (.block 1
        (.seq (.reg [⟨(some 26), .mv (.t 7), none⟩, ⟨(some 27), .mv (.t 7), none⟩, ⟨(some 28), .len (.t 27), none⟩, ⟨(some 29), .bin .sub (.t 28) (.c (.v (.int .i64 1))), none⟩, ⟨(some 30), .idxS 12 (.t 26) (.t 29), none⟩, ⟨(some 31), .load 12 true (.t 30), none⟩, ⟨(some 9), .alloc 65 [(.v (.int .i64 0)), (.v (.int .i64 0)), (.v (.int .i64 0)), (.v (.int .i64 0)), (.v (.int .i64 0)), (.v (.int .i64 0)), (.v (.int .i64 0)), (.v (.bool false)), (.v (.int .i64 0)), (.v (.int .i64 0)), (.v (.int .i64 0)), (.v (.int .i64 0))], none⟩, ⟨none, .store 12 (.t 9) (.t 31), none⟩])
        (.seq (.reg [⟨(some 32), .fieldA 1 (.t 9), none⟩, ⟨(some 33), .load 1 false (.t 32), none⟩, ⟨(some 34), .fieldA 3 (.t 9), none⟩, ⟨(some 35), .load 1 false (.t 34), none⟩, ⟨(some 36), .bin .sub (.t 33) (.t 35), none⟩, ⟨(some 37), .fieldA 2 (.t 9), none⟩, ⟨(some 38), .load 1 false (.t 37), none⟩, ⟨(some 39), .build [(.v (.int .i64 0)), (.v (.int .i64 0))] [(0, 1, (.t 36)), (1, 1, (.t 38))], none⟩, ⟨(some 10), .alloc 23 [(.v (.int .i64 0)), (.v (.int .i64 0))], none⟩, ⟨none, .store 2 (.t 10) (.t 39), none⟩])
        (.seq (.draw [⟨(some 40), .fieldA 0 (.t 10), none⟩, ⟨(some 41), .load 1 false (.t 40), none⟩, ⟨(some 42), .mv (.t 1), none⟩, ⟨(some 43), .bin .sub (.t 41) (.t 42), none⟩, ⟨(some 44), .mv (.t 0), none⟩, ⟨(some 45), .ocall 10070050 (.c (.fn (.func 49) [] [])) [(.t 44), (.c (.v (.int .i64 2001)))], none⟩, ⟨(some 46), .mv (.t 0), none⟩, ⟨(some 47), .ocall 10070070 (.c (.fn (.func 49) [] [])) [(.t 46), (.c (.v (.int .i64 6000)))], none⟩, ⟨(some 48), .bin .add (.c (.v (.int .i64 300))) (.t 47), none⟩, ⟨(some 49), .build [(.v (.int .i64 0)), (.v (.int .i64 0)), (.v (.int .i64 0)), (.v (.int .i64 0)), (.v (.int .i64 0)), (.v (.int .i64 0)), (.v (.int .i64 0)), (.v (.bool false)), (.v (.int .i64 0)), (.v (.int .i64 0)), (.v (.int .i64 0)), (.v (.int .i64 0))] [(1, 1, (.t 43)), (2, 1, (.t 45)), (3, 1, (.t 48))], none⟩, ⟨(some 11), .alloc 65 [(.v (.int .i64 0)), (.v (.int .i64 0)), (.v (.int .i64 0)), (.v (.int .i64 0)), (.v (.int .i64 0)), (.v (.int .i64 0)), (.v (.int .i64 0)), (.v (.bool false)), (.v (.int .i64 0)), (.v (.int .i64 0)), (.v (.int .i64 0)), (.v (.int .i64 0))], none⟩, ⟨none, .store 12 (.t 11) (.t 49), none⟩] [(1, 5), (1, 7), (5, 10), (7, 10)])
        (.seq (.block 2
          (.loop
            (.seq (.seq (.reg [⟨(some 50), .fieldA 1 (.t 11), none⟩, ⟨(some 51), .load 1 false (.t 50), none⟩, ⟨(some 52), .fieldA 2 (.t 11), none⟩, ⟨(some 53), .load 1 false (.t 52), none⟩, ⟨(some 54), .mv (.t 1), none⟩, ⟨(some 55), .load 2 true (.t 10), none⟩, ⟨(some 56), .call (.c (.fn (.func 22) [] [])) [(.t 51), (.t 53), (.t 54), (.t 55)], none⟩, ⟨(some 57), .un .not (.t 56), none⟩])
            (.cond (.t 57)
              .skip
              (.exit 2)))
            (.block 3
              (.reg [⟨(some 58), .fieldA 1 (.t 11), none⟩, ⟨(some 59), .load 1 false (.t 58), none⟩, ⟨(some 60), .bin .sub (.t 59) (.c (.v (.int .i64 500))), none⟩, ⟨(some 61), .fieldA 1 (.t 11), none⟩, ⟨none, .store 1 (.t 61) (.t 60), none⟩])))))
        (.seq (.draw [⟨(some 62), .fieldA 1 (.t 11), none⟩, ⟨(some 63), .load 1 false (.t 62), none⟩, ⟨(some 64), .mv (.t 0), none⟩, ⟨(some 65), .ocall 10100030 (.c (.fn (.func 49) [] [])) [(.t 64), (.c (.v (.int .i64 3)))], none⟩, ⟨(some 66), .mv (.t 0), none⟩, ⟨(some 67), .ocall 10100050 (.c (.fn (.func 49) [] [])) [(.t 66), (.c (.v (.int .i64 9000)))], none⟩, ⟨(some 68), .bin .mul (.t 65) (.t 67), none⟩, ⟨(some 69), .bin .sub (.t 63) (.t 68), none⟩, ⟨(some 70), .fieldA 1 (.t 11), none⟩, ⟨none, .store 1 (.t 70) (.t 69), none⟩] [(1, 3), (1, 5)])
        (.reg [⟨(some 71), .mv (.t 7), none⟩, ⟨(some 72), .load 12 true (.t 11), none⟩, ⟨(some 73), .bslice 65 12 1 [(.v (.int .i64 0)), (.v (.int .i64 0)), (.v (.int .i64 0)), (.v (.int .i64 0)), (.v (.int .i64 0)), (.v (.int .i64 0)), (.v (.int .i64 0)), (.v (.bool false)), (.v (.int .i64 0)), (.v (.int .i64 0)), (.v (.int .i64 0)), (.v (.int .i64 0))] [(0, 12, (.t 72))], none⟩, ⟨(some 74), .append 34 65 12 (.t 71) (.t 73), none⟩, ⟨(some 7), .mv (.t 74), none⟩])))))))
      (.reg [⟨(some 24), .mv (.t 8), none⟩, ⟨(some 25), .bin .sub (.t 24) (.c (.v (.int .i64 1))), none⟩, ⟨(some 8), .mv (.t 25), none⟩]))))))
  (.seq (.reg [⟨(some 75), .mv (.t 7), none⟩, ⟨(some 6), .mv (.t 75), none⟩])
  .ret))))
theorem fn_kit_Mates_o : FnOK Try.prog 72 76 [.t 6] ac_kit_Mates_o := ⟨_, _, Try.func72, rfl, Try.ntmps72, by kernel_rfl, ⟨fun r => if r == 1 then [1001001, 1001003] else if r == 2 then [1002002] else if r == 7 then [1007005, 1007007] else if r == 10 then [1010003, 1010005] else [], by kernel_rfl⟩, by kernel_rfl⟩
set_option maxHeartbeats 4000000 in
theorem kit_Mates_o_ok (p1 : KitRing) (p2 : Int) (p3 : Int) (r : ((List Mate) × KitRing)) (h : kit_Mates_o p1 p2 p3 = some r) : MCall Try.prog 72 [(.ptr (900000, 0) 0), (.d (i64 p2)), (.d (i64 p3))] [(.box 94 [(.d (.list (List.map eInt_i64 p1.l))), (.d (i64 p1.at_))])] (.d (.list (List.map eMate r.1))) [some (.box 94 [(.d (.list (List.map eInt_i64 r.2.l))), (.d (i64 r.2.at_))])] [] := by
  refine m_callF fn_kit_Mates_o rfl (Nat.le_of_ble_eq_true rfl) ?_
  unfold kit_Mates_o at h
  unfold ac_kit_Mates_o
  refine (l_sub (s0 := ⟨T [(0, (.ptr (900000, 0) 0)), (1, (.d (i64 p2))), (2, (.d (i64 p3)))], G [((900000, 0), some (.box 94 [(.d (.list (List.map eInt_i64 p1.l))), (.d (i64 p1.at_))]))]⟩) (sb_of ⟨.of rfl, .of rfl, .of rfl, trivial⟩ (sbG_some G_hit (.of rfl) trivial)) ?_)
  refine l_seq ?_
  refine l_reg fun u1 hu1 => ?_
  refine s_val (.d _) rfl rfl ?_
  refine s_nil ?_
  refine l_seq ?_
  refine l_reg fun u2 hu2 => ?_
  refine s_val (.ptr _ _) rfl rfl ?_
  obtain ⟨v1, hv1, h⟩ := bind_some h
  refine s_oc (v := .d (i64 v1.1)) (us := [(900000, 0)]) (oc_m (kit_Ring_Next_o_ok _ _ _ hv1) [(900000, 0)] [(900000, 0)] _ (((900000, 0), some (.box 94 [(.d (.list (List.map eInt_i64 v1.2.l))), (.d (i64 v1.2.at_))])) :: _) rfl all2_av (kl_cons (kr_ptr G_hit rfl) (kl_cons kr_d kl_nil)) (live_cons G_hit live_nil) ⟨⟨_, G_hit, .of rfl⟩, trivial⟩ (fun _ h => h) nd1 rfl rfl rfl) ?_
  refine s_val (.ptr _ _) rfl rfl ?_
  obtain ⟨v2, hv2, h⟩ := bind_some h
  refine s_oc (v := .d (i64 v2.1)) (us := [(900000, 0)]) (oc_m (kit_Ring_Next_o_ok _ _ _ hv2) [(900000, 0)] [(900000, 0)] _ (((900000, 0), some (.box 94 [(.d (.list (List.map eInt_i64 v2.2.l))), (.d (i64 v2.2.at_))])) :: _) rfl all2_av (kl_cons (kr_ptr G_hit rfl) (kl_cons kr_d kl_nil)) (live_cons G_hit live_nil) ⟨⟨_, G_hit, .of rfl⟩, trivial⟩ (fun _ h => h) nd1 rfl rfl rfl) ?_
  refine s_val (.d _) rfl rfl ?_
  refine s_val (.d _) rfl rfl ?_
  refine s_new (.sl _) (.arr 65 12 (List.map eMate ([(Mate.mk 0 16777216 v1.1 (w64 (300 + v2.1)) 0 (Guess.mk 0 0) false 0 (Guess.mk 0 0) 0)] : List Mate))) rfl (aval_bsliceN eMate _ (fun _ => rfl) rfl rfl ⟨rfl, rfl, rfl, trivial⟩) ?_
  refine s_val (.sl _) rfl rfl ?_
  refine s_nil ?_
  refine l_seq ?_
  refine l_seq ?_
  refine l_reg fun u3 hu3 => ?_
  refine s_val (.ptr _ _) rfl rfl ?_
  refine s_val (.d _) rfl rfl ?_
  obtain ⟨v3, hv3, h⟩ := bind_some h
  refine s_oc (v := .d (i64 v3.1)) (us := [(900000, 0)]) (oc_m (kit_Ring_Next_o_ok _ _ _ hv3) [(900000, 0)] [(900000, 0)] _ (((900000, 0), some (.box 94 [(.d (.list (List.map eInt_i64 v3.2.l))), (.d (i64 v3.2.at_))])) :: _) rfl all2_av (kl_cons (kr_ptr (G_skip rfl G_hit) rfl) (kl_cons kr_d kl_nil)) (live_cons (G_skip rfl G_hit) live_nil) ⟨⟨_, (G_skip rfl G_hit), .of rfl⟩, trivial⟩ (fun _ h => h) nd1 rfl rfl rfl) ?_
  refine s_val (.d _) rfl rfl ?_
  refine s_nil ?_
  obtain ⟨y1, hy1, h⟩ := bind_some h
  refine l_join (fun s => ∃ g1 : ({d : Nat // d ∈ [18, 74]} × Nat), Sb ⟨T [(0, (.ptr (900000, 0) 0)), (7, (oS y1.1 (g1.1.val, g1.2)))], G [((900000, 0), some (.box 94 [(.d (.list (List.map eInt_i64 y1.2.l))), (.d (i64 y1.2.at_))])), ((g1.1.val, g1.2), oB 65 12 eMate y1.1)]⟩ s) ?_ ?_
  · skip
    refine l_block ?_
    refine l_loop (kit_Mates_o_l1 p2) (fun (x1 : ((List Mate) × Int × KitRing)) (g2 : ({d : Nat // d ∈ [18, 74]} × Nat)) => ⟨T [(0, (.ptr (900000, 0) 0)), (1, (.d (i64 p2))), (7, (oS x1.1 (g2.1.val, g2.2))), (8, (.d (i64 x1.2.1)))], G [((900000, 0), some (.box 94 [(.d (.list (List.map eInt_i64 x1.2.2.l))), (.d (i64 x1.2.2.at_))])), ((g2.1.val, g2.2), oB 65 12 eMate x1.1)]⟩) ([(Mate.mk 0 16777216 v1.1 (w64 (300 + v2.1)) 0 (Guess.mk 0 0) false 0 (Guess.mk 0 0) 0)], v3.1, v3.2) (⟨18, .head _⟩, u2) _ hy1 (sb_of ⟨.of rfl, .of rfl, (.of (oS_ne (List.cons_ne_nil _ _)).symm), .of rfl, trivial⟩ (sbG_some G_hit (.of rfl) (sbG_own (G_skip rfl G_hit) trivial))) ?_
    intro x1 g2 z1 hz1 ez1
    unfold kit_Mates_o_l1 at hz1
    refine l_seq ?_
    refine l_seq ?_
    refine l_reg fun u4 hu4 => ?_
    refine s_val (.d _) rfl rfl ?_
    refine s_val (.d _) rfl rfl ?_
    refine s_nil ?_
    refine l_cond (decide (x1.2.1 > 0)) rfl (fun c1 => ?_) (fun c1 => ?_)
    · replace hz1 := cond_t c1 hz1
      refine l_skip ?_
      refine l_seq ?_
      refine l_block ?_
      refine l_seq ?_
      refine l_reg fun u5 hu5 => ?_
      refine s_val (oS x1.1 (g2.1.val, g2.2)) rfl rfl ?_
      refine s_val (oS x1.1 (g2.1.val, g2.2)) rfl rfl ?_
      refine s_val (.d _) rfl (v_lenO (f := eMate) rfl (G_skip (neL g2.1.property rfl) G_hit)) ?_
      refine s_val (.d _) rfl rfl ?_
      obtain ⟨v4, hv4, hz1⟩ := bind_some hz1
      refine s_val (.aptr _ _ _ _) rfl (v_idxO rfl rfl (G_skip (neL g2.1.property rfl) G_hit) hv4) ?_
      refine s_val (.d _) rfl (v_loadAG rfl (look_oB (G_skip (neL g2.1.property rfl) G_hit) (geti_ne hv4)) hv4 rfl rfl) ?_
      refine s_new (.ptr _ _) (.box _ _) rfl rfl ?_
      refine s_store _ _ _ _ _ rfl rfl rfl G_hit (Nat.le_of_ble_eq_true rfl) [(.d (i64 v4.ID)), (.d (i64 v4.S)), (.d (i64 v4.V)), (.d (i64 v4.Len)), (.d (i64 v4.Ahead)), (.d (i64 v4.Guess_.R)), (.d (i64 v4.Guess_.V)), (.d (bo v4.Trust)), (.d (i64 v4.Ward)), (.d (i64 v4.WardGuess.R)), (.d (i64 v4.WardGuess.V)), (.d (i64 v4.Until))] rfl ?_
      refine s_nil ?_
      refine l_seq ?_
      refine l_reg fun u6 hu6 => ?_
      refine s_val (.ptr _ _) rfl rfl ?_
      refine s_val (.d _) rfl (v_load rfl G_hit rfl) ?_
      refine s_val (.ptr _ _) rfl rfl ?_
      refine s_val (.d _) rfl (v_load rfl G_hit rfl) ?_
      refine s_val (.d _) rfl rfl ?_
      refine s_val (.ptr _ _) rfl rfl ?_
      refine s_val (.d _) rfl (v_load rfl G_hit rfl) ?_
      refine s_val (.d _) rfl rfl ?_
      refine s_new (.ptr _ _) (.box _ _) rfl rfl ?_
      refine s_store _ _ _ _ _ rfl rfl rfl G_hit (Nat.le_of_ble_eq_true rfl) [(.d (i64 (w64 (v4.S - v4.Len)))), (.d (i64 v4.V))] rfl ?_
      refine s_nil ?_
      refine l_seq ?_
      refine l_sub (s0 := ⟨T [(0, (.ptr (900000, 0) 0)), (1, (.d (i64 p2))), (7, (oS x1.1 (g2.1.val, g2.2))), (8, (.d (i64 x1.2.1))), (10, (.ptr (10, u6) 0))], G [((900000, 0), some (.box 94 [(.d (.list (List.map eInt_i64 x1.2.2.l))), (.d (i64 x1.2.2.at_))])), ((g2.1.val, g2.2), oB 65 12 eMate x1.1), ((10, u6), some (.box 23 [(.d (i64 (w64 (v4.S - v4.Len)))), (.d (i64 v4.V))]))]⟩) (sb_of ⟨.of rfl, .of rfl, .of rfl, .of rfl, .of rfl, trivial⟩ (sbG_some (G_skip rfl (G_skip rfl (G_skip rfl (G_skip rfl G_hit)))) (.of rfl) (sbG_oB (G_skip (neL g2.1.property rfl) (G_skip (neL g2.1.property rfl) (G_skip (neL g2.1.property rfl) (G_skip (neL g2.1.property rfl) (G_skip (neL g2.1.property rfl) G_hit))))) (sbG_some G_hit (.of rfl) trivial)))) ?_
      refine l_drawT fun u7 hu7 => ?_
      refine t_val (.ptr _ _) rfl rfl ?_
      refine t_val (.d _) rfl (v_load rfl (G_skip rfl (G_skip (neR g2.1.property rfl) G_hit)) rfl) ?_
      refine t_val (.d _) rfl rfl ?_
      refine t_val (.d _) rfl rfl ?_
      refine t_val (.ptr _ _) rfl rfl ?_
      obtain ⟨v5, hv5, hz1⟩ := bind_some hz1
      refine t_oc (v := .d (i64 v5.1)) (us := [(900000, 0)]) (oc_m (kit_Ring_Next_o_ok _ _ _ hv5) [(900000, 0)] [(900000, 0)] _ (((900000, 0), some (.box 94 [(.d (.list (List.map eInt_i64 v5.2.l))), (.d (i64 v5.2.at_))])) :: _) rfl all2_av (kl_cons (kr_ptr G_hit rfl) (kl_cons kr_d kl_nil)) (live_cons G_hit live_nil) ⟨⟨_, G_hit, .of rfl⟩, trivial⟩ (fun _ h => h) nd1 rfl rfl rfl) ?_
      refine t_val (.ptr _ _) rfl rfl ?_
      obtain ⟨v6, hv6, hz1⟩ := bind_some hz1
      refine t_oc (v := .d (i64 v6.1)) (us := [(900000, 0)]) (oc_m (kit_Ring_Next_o_ok _ _ _ hv6) [(900000, 0)] [(900000, 0)] _ (((900000, 0), some (.box 94 [(.d (.list (List.map eInt_i64 v6.2.l))), (.d (i64 v6.2.at_))])) :: _) rfl all2_av (kl_cons (kr_ptr G_hit rfl) (kl_cons kr_d kl_nil)) (live_cons G_hit live_nil) ⟨⟨_, G_hit, .of rfl⟩, trivial⟩ (fun _ h => h) nd1 rfl rfl rfl) ?_
      refine t_val (.d _) rfl rfl ?_
      refine t_val (.d _) rfl rfl ?_
      refine t_new (.ptr _ _) (.box _ _) rfl rfl ?_
      refine t_store _ _ _ _ _ rfl rfl rfl G_hit (Nat.le_of_ble_eq_true rfl) [(.d (i64 0)), (.d (i64 (w64 ((w64 (v4.S - v4.Len)) - p2)))), (.d (i64 v5.1)), (.d (i64 (w64 (300 + v6.1)))), (.d (i64 0)), (.d (i64 0)), (.d (i64 0)), (.d (bo false)), (.d (i64 0)), (.d (i64 0)), (.d (i64 0)), (.d (i64 0))] rfl ?_
      refine t_nil ⟨rfl, ?_⟩
      refine l_seq ?_
      obtain ⟨y2, hy2, hz1⟩ := bind_some hz1
      refine l_join (fun s => ∃ g3 : Unit, Sb ⟨T [(0, (.ptr (900000, 0) 0)), (1, (.d (i64 p2))), (7, (oS x1.1 (g2.1.val, g2.2))), (8, (.d (i64 x1.2.1))), (11, (.ptr (11, u7) 0))], G [((900000, 0), some (.box 94 [(.d (.list (List.map eInt_i64 v6.2.l))), (.d (i64 v6.2.at_))])), ((g2.1.val, g2.2), oB 65 12 eMate x1.1), ((11, u7), some (.box 65 [(.d (i64 y2.ID)), (.d (i64 y2.S)), (.d (i64 y2.V)), (.d (i64 y2.Len)), (.d (i64 y2.Ahead)), (.d (i64 y2.Guess_.R)), (.d (i64 y2.Guess_.V)), (.d (bo y2.Trust)), (.d (i64 y2.Ward)), (.d (i64 y2.WardGuess.R)), (.d (i64 y2.WardGuess.V)), (.d (i64 y2.Until))]))]⟩ s) ?_ ?_
      · skip
        refine l_block ?_
        refine l_loop (kit_Mates_o_l2 p2 v4) (fun (x2 : Mate) (g4 : Unit) => ⟨T [(0, (.ptr (900000, 0) 0)), (1, (.d (i64 p2))), (7, (oS x1.1 (g2.1.val, g2.2))), (8, (.d (i64 x1.2.1))), (10, (.ptr (10, u6) 0)), (11, (.ptr (11, u7) 0))], G [((900000, 0), some (.box 94 [(.d (.list (List.map eInt_i64 v6.2.l))), (.d (i64 v6.2.at_))])), ((g2.1.val, g2.2), oB 65 12 eMate x1.1), ((10, u6), some (.box 23 [(.d (i64 (w64 (v4.S - v4.Len)))), (.d (i64 v4.V))])), ((11, u7), some (.box 65 [(.d (i64 x2.ID)), (.d (i64 x2.S)), (.d (i64 x2.V)), (.d (i64 x2.Len)), (.d (i64 x2.Ahead)), (.d (i64 x2.Guess_.R)), (.d (i64 x2.Guess_.V)), (.d (bo x2.Trust)), (.d (i64 x2.Ward)), (.d (i64 x2.WardGuess.R)), (.d (i64 x2.WardGuess.V)), (.d (i64 x2.Until))]))]⟩) (Mate.mk 0 (w64 ((w64 (v4.S - v4.Len)) - p2)) v5.1 (w64 (300 + v6.1)) 0 (Guess.mk 0 0) false 0 (Guess.mk 0 0) 0) () _ hy2 (sb_of ⟨.of rfl, .of rfl, .of rfl, .of rfl, .of rfl, .of rfl, trivial⟩ (sbG_some (G_skip rfl (G_skip rfl G_hit)) (.of rfl) (sbG_oB (G_skip (neL g2.1.property rfl) (G_skip (neL g2.1.property rfl) (G_skip (neL g2.1.property rfl) (G_skip (neL g2.1.property rfl) (G_skip (neL g2.1.property rfl) G_hit))))) (sbG_some (G_skip rfl (G_skip rfl (G_skip rfl (G_skip rfl (G_skip rfl (G_skip (neR g2.1.property rfl) G_hit)))))) (.of rfl) (sbG_some G_hit (.of rfl) trivial))))) ?_
        intro x2 g4 z2 hz2 ez2
        unfold kit_Mates_o_l2 at hz2
        refine l_seq ?_
        refine l_seq ?_
        refine l_reg fun u8 hu8 => ?_
        refine s_val (.ptr _ _) rfl rfl ?_
        refine s_val (.d _) rfl (v_load rfl (G_skip rfl (G_skip (neR g2.1.property rfl) (G_skip rfl G_hit))) rfl) ?_
        refine s_val (.ptr _ _) rfl rfl ?_
        refine s_val (.d _) rfl (v_load rfl (G_skip rfl (G_skip (neR g2.1.property rfl) (G_skip rfl G_hit))) rfl) ?_
        refine s_val (.d _) rfl rfl ?_
        refine s_val (.d _) rfl (v_loadG rfl (G_skip rfl (G_skip (neR g2.1.property rfl) G_hit)) rfl rfl) ?_
        obtain ⟨v7, hv7, hz2⟩ := bind_some hz2
        refine s_call rfl rfl all2_refl (ref09_Safe_ok _ _ _ _  _ hv7) (.inl rfl) ?_
        refine s_val (.d _) rfl rfl ?_
        refine s_nil ?_
        refine l_cond (!v7) rfl (fun c2 => ?_) (fun c2 => ?_)
        · replace hz2 := cond_t c2 hz2
          refine l_skip ?_
          refine l_block ?_
          refine l_reg fun u9 hu9 => ?_
          refine s_val (.ptr _ _) rfl rfl ?_
          refine s_val (.d _) rfl (v_load rfl (G_skip rfl (G_skip (neR g2.1.property rfl) (G_skip rfl G_hit))) rfl) ?_
          refine s_val (.d _) rfl rfl ?_
          refine s_val (.ptr _ _) rfl rfl ?_
          refine s_store _ _ _ _ _ rfl rfl rfl (G_skip rfl (G_skip (neR g2.1.property rfl) (G_skip rfl G_hit))) (Nat.le_of_ble_eq_true rfl) [(.d (i64 x2.ID)), (.d (i64 (w64 (x2.S - 500)))), (.d (i64 x2.V)), (.d (i64 x2.Len)), (.d (i64 x2.Ahead)), (.d (i64 x2.Guess_.R)), (.d (i64 x2.Guess_.V)), (.d (bo x2.Trust)), (.d (i64 x2.Ward)), (.d (i64 x2.WardGuess.R)), (.d (i64 x2.WardGuess.V)), (.d (i64 x2.Until))] rfl ?_
          refine s_nil ?_
          refine l_end ?_
          refine l_nil ?_
          obtain rfl := Option.some.inj hz2
          exact ⟨rfl, (), (sb_of ⟨.of rfl, .of rfl, .of rfl, .of rfl, .of rfl, .of rfl, trivial⟩ (sbG_some (G_skip rfl G_hit) (.of rfl) (sbG_oB (G_skip (neL g2.1.property rfl) (G_skip (neL g2.1.property rfl) G_hit)) (sbG_some (G_skip rfl (G_skip rfl (G_skip (neR g2.1.property rfl) G_hit))) (.of rfl) (sbG_some G_hit (.of rfl) trivial)))))⟩
        · replace hz2 := cond_f c2 hz2
          refine l_exitN rfl ?_
          obtain rfl := Option.some.inj hz2
          obtain rfl := ez2 _ rfl
          refine ⟨nofun, awl_pop rfl (l_j ?_)⟩
          exact ⟨(), (sb_of ⟨.of rfl, .of rfl, .of rfl, .of rfl, .of rfl, trivial⟩ (sbG_some G_hit (.of rfl) (sbG_oB (G_skip (neL g2.1.property rfl) G_hit) (sbG_some (G_skip rfl (G_skip (neR g2.1.property rfl) (G_skip rfl G_hit))) (.of rfl) trivial))))⟩
      · rintro _ ⟨g3, q1⟩
        refine l_sub q1 ?_
        refine l_seq ?_
        refine l_drawT fun u10 hu10 => ?_
        refine t_val (.ptr _ _) rfl rfl ?_
        refine t_val (.d _) rfl (v_load rfl (G_skip rfl (G_skip (neR g2.1.property rfl) G_hit)) rfl) ?_
        refine t_val (.ptr _ _) rfl rfl ?_
        obtain ⟨v8, hv8, hz1⟩ := bind_some hz1
        refine t_oc (v := .d (i64 v8.1)) (us := [(900000, 0)]) (oc_m (kit_Ring_Next_o_ok _ _ _ hv8) [(900000, 0)] [(900000, 0)] _ (((900000, 0), some (.box 94 [(.d (.list (List.map eInt_i64 v8.2.l))), (.d (i64 v8.2.at_))])) :: _) rfl all2_av (kl_cons (kr_ptr G_hit rfl) (kl_cons kr_d kl_nil)) (live_cons G_hit live_nil) ⟨⟨_, G_hit, .of rfl⟩, trivial⟩ (fun _ h => h) nd1 rfl rfl rfl) ?_
        refine t_val (.ptr _ _) rfl rfl ?_
        obtain ⟨v9, hv9, hz1⟩ := bind_some hz1
        refine t_oc (v := .d (i64 v9.1)) (us := [(900000, 0)]) (oc_m (kit_Ring_Next_o_ok _ _ _ hv9) [(900000, 0)] [(900000, 0)] _ (((900000, 0), some (.box 94 [(.d (.list (List.map eInt_i64 v9.2.l))), (.d (i64 v9.2.at_))])) :: _) rfl all2_av (kl_cons (kr_ptr G_hit rfl) (kl_cons kr_d kl_nil)) (live_cons G_hit live_nil) ⟨⟨_, G_hit, .of rfl⟩, trivial⟩ (fun _ h => h) nd1 rfl rfl rfl) ?_
        refine t_val (.d _) rfl rfl ?_
        refine t_val (.d _) rfl rfl ?_
        refine t_val (.ptr _ _) rfl rfl ?_
        refine t_store _ _ _ _ _ rfl rfl rfl (G_skip rfl (G_skip rfl (G_skip rfl (G_skip (neR g2.1.property rfl) G_hit)))) (Nat.le_of_ble_eq_true rfl) [(.d (i64 y2.ID)), (.d (i64 (w64 (y2.S - (w64 (v8.1 * v9.1)))))), (.d (i64 y2.V)), (.d (i64 y2.Len)), (.d (i64 y2.Ahead)), (.d (i64 y2.Guess_.R)), (.d (i64 y2.Guess_.V)), (.d (bo y2.Trust)), (.d (i64 y2.Ward)), (.d (i64 y2.WardGuess.R)), (.d (i64 y2.WardGuess.V)), (.d (i64 y2.Until))] rfl ?_
        refine t_nil ⟨rfl, ?_⟩
        refine l_reg fun u11 hu11 => ?_
        refine s_val (oS x1.1 (g2.1.val, g2.2)) rfl rfl ?_
        refine s_val (.d _) rfl (v_loadG rfl G_hit rfl rfl) ?_
        refine s_new (.sl _) (.arr 65 12 (List.map eMate ([(Mate.mk y2.ID (w64 (y2.S - (w64 (v8.1 * v9.1)))) y2.V y2.Len y2.Ahead y2.Guess_ y2.Trust y2.Ward y2.WardGuess y2.Until)] : List Mate))) rfl (aval_bsliceN eMate _ (fun _ => rfl) rfl rfl ⟨rfl, rfl, rfl, trivial⟩) ?_
        obtain ⟨v10, hv10, hz1⟩ := bind_some hz1
        refine s_appendO eMate (g2.1.val, g2.2) x1.1 (Mate.mk y2.ID (w64 (y2.S - (w64 (v8.1 * v9.1)))) y2.V y2.Len y2.Ahead y2.Guess_ y2.Trust y2.Ward y2.WardGuess y2.Until) [] _ (elems_sl G_hit) rfl (G_skip (neL g2.1.property rfl) (G_skip (neL g2.1.property rfl) (G_skip (neL g2.1.property rfl) (G_skip (neL g2.1.property rfl) (G_skip (neL g2.1.property rfl) G_hit))))) hv10 ?_
        refine s_val (.sl _) rfl rfl ?_
        refine s_nil ?_
        refine l_end ?_
        refine l_sub (s0 := ⟨T [(0, (.ptr (900000, 0) 0)), (1, (.d (i64 p2))), (7, (.sl (74, u11))), (8, (.d (i64 x1.2.1)))], G [((900000, 0), some (.box 94 [(.d (.list (List.map eInt_i64 v9.2.l))), (.d (i64 v9.2.at_))])), ((74, u11), some (.arr 65 12 (List.map eMate v10)))]⟩) (sb_of ⟨.of rfl, .of rfl, .of rfl, .of rfl, trivial⟩ (sbG_some (G_skip rfl (G_skip (neR g2.1.property rfl) (G_skip rfl (G_skip rfl G_hit)))) (.of rfl) (sbG_some G_hit (.of rfl) trivial))) ?_
        refine l_reg fun u12 hu12 => ?_
        refine s_val (.d _) rfl rfl ?_
        refine s_val (.d _) rfl rfl ?_
        refine s_val (.d _) rfl rfl ?_
        refine s_nil ?_
        refine l_nil ?_
        obtain rfl := Option.some.inj hz1
        exact ⟨rfl, (⟨74, .tail _ (.head _)⟩, u11), (sb_of ⟨.of rfl, .of rfl, (.of (oS_ne (appc_ne hv10)).symm), .of rfl, trivial⟩ (sbG_some G_hit (.of rfl) (sbG_own (G_skip rfl G_hit) trivial)))⟩
    · replace hz1 := cond_f c1 hz1
      refine l_exitN rfl ?_
      obtain rfl := Option.some.inj hz1
      obtain rfl := ez1 _ rfl
      refine ⟨nofun, awl_pop rfl (l_j ?_)⟩
      exact ⟨(g2.1, g2.2), (sb_of ⟨.of rfl, .of rfl, trivial⟩ (sbG_some G_hit (.of rfl) (sbG_oB (G_skip (neL g2.1.property rfl) G_hit) trivial)))⟩
  · rintro _ ⟨g1, q2⟩
    refine l_sub q2 ?_
    refine l_seq ?_
    refine l_reg fun u13 hu13 => ?_
    refine s_val (oS y1.1 (g1.1.val, g1.2)) rfl rfl ?_
    refine s_val (oS y1.1 (g1.1.val, g1.2)) rfl rfl ?_
    refine s_nil ?_
    refine l_ret ?_
    obtain rfl := Option.some.inj h
    exact fin_mf (.inr rfl) [(g1.1.val, g1.2)] (resDF1 (res_t rfl) (rf_oS (rs_in (.head _) (G_skip (neL g1.1.property rfl) G_hit)))) oD_le ⟨⟨_, _, _, G_hit, (old_notinG g1.1.property rfl old_notin_nil), rfl, all2_d, rfl⟩, trivial⟩

noncomputable def ref09_New_l1 (p2 : (List Mate)) (x1 : (Int × Convoy)) : Option (Stp (Int × Convoy) Convoy) :=
  cond (decide (x1.1 < (p2.length : Int))) ((geti p2 x1.1).bind fun v1 => (geti p2 x1.1).bind fun v2 => (geti p2 x1.1).bind fun v3 => (cond (decide (x1.1 > 0)) ((geti p2 (w64 (x1.1 - 1))).bind fun v4 => (ref09_rear v4).bind fun v5 => (geti p2 (w64 (x1.1 - 1))).bind fun v6 => some (Mate.mk (w64 (x1.1 + 1)) v1.S v2.V v3.Len x1.1 (Guess.mk v5 v6.V) true 0 (Guess.mk 0 0) 0)) (some (Mate.mk (w64 (x1.1 + 1)) v1.S v2.V v3.Len x1.1 (Guess.mk 0 0) true 0 (Guess.mk 0 0) 0))).bind fun y2 => (appc x1.2.Mates [y2]).bind fun v7 => some (.go ((w64 (x1.1 + 1)), (Convoy.mk x1.2.Tick x1.2.Gap v7 x1.2.Guest_)))) (some (.out x1.2))
noncomputable def ref09_New (p1 : Int) (p2 : (List Mate)) : Option (Convoy × Int) :=
  (loop (ref09_New_l1 p2) (0, (Convoy.mk 0 p1 [] (Guest.mk 0 0 0 0 0 0 (Guess.mk 0 0) 0 0)))).bind fun y1 => (ref09_Check y1).bind fun v8 => cond (v8 != 0) (some ((Convoy.mk 0 0 [] (Guest.mk 0 0 0 0 0 0 (Guess.mk 0 0) 0 0)), v8)) (some (y1, 0))

/-- kerbstone/kerbstoneref09.New -/
def ac_ref09_New : AC :=
  (.seq (.reg [⟨(some 4), .alloc 38 [(.v (.int .i64 0)), (.v (.int .i64 0)), .nilS, (.v (.int .i64 0)), (.v (.int .i64 0)), (.v (.int .i64 0)), (.v (.int .i64 0)), (.v (.int .i64 0)), (.v (.int .i64 0)), (.v (.int .i64 0)), (.v (.int .i64 0)), (.v (.int .i64 0)), (.v (.int .i64 0))], none⟩, ⟨(some 5), .mv (.c (.v (.int .i64 0))), none⟩])
  (.seq (.reg [⟨(some 10), .mv (.t 0), none⟩, ⟨(some 11), .build [(.v (.int .i64 0)), (.v (.int .i64 0)), .nilS, (.v (.int .i64 0)), (.v (.int .i64 0)), (.v (.int .i64 0)), (.v (.int .i64 0)), (.v (.int .i64 0)), (.v (.int .i64 0)), (.v (.int .i64 0)), (.v (.int .i64 0)), (.v (.int .i64 0)), (.v (.int .i64 0))] [(1, 1, (.t 10))], none⟩, ⟨(some 6), .alloc 38 [(.v (.int .i64 0)), (.v (.int .i64 0)), .nilS, (.v (.int .i64 0)), (.v (.int .i64 0)), (.v (.int .i64 0)), (.v (.int .i64 0)), (.v (.int .i64 0)), (.v (.int .i64 0)), (.v (.int .i64 0)), (.v (.int .i64 0)), (.v (.int .i64 0)), (.v (.int .i64 0))], none⟩, ⟨none, .store 13 (.t 6) (.t 11), none⟩])
  (.seq (.seq (.reg [⟨(some 7), .mv (.c (.v (.int .i64 0))), none⟩])
  (.block 0
    (.loop
      (.seq (.seq (.reg [⟨(some 12), .mv (.t 7), none⟩, ⟨(some 13), .mv (.t 1), none⟩, ⟨(some 14), .len (.t 13), none⟩, ⟨(some 15), .bin .lss (.t 12) (.t 14), none⟩])
      (.cond (.t 15)
        .skip
        (.exit 0)))
      (.seq (.block 1
        (.seq (.draw [⟨(some 18), .mv (.t 7), none⟩, ⟨(some 19), .bin .add (.t 18) (.c (.v (.int .i64 1))), none⟩, ⟨(some 20), .mv (.t 1), none⟩, ⟨(some 21), .mv (.t 7), none⟩, ⟨(some 22), .idxS 12 (.t 20) (.t 21), none⟩, ⟨(some 23), .fieldA 1 (.t 22), none⟩, ⟨(some 24), .load 1 false (.t 23), none⟩, ⟨(some 25), .mv (.t 1), none⟩, ⟨(some 26), .mv (.t 7), none⟩, ⟨(some 27), .idxS 12 (.t 25) (.t 26), none⟩, ⟨(some 28), .fieldA 2 (.t 27), none⟩, ⟨(some 29), .load 1 false (.t 28), none⟩, ⟨(some 30), .mv (.t 1), none⟩, ⟨(some 31), .mv (.t 7), none⟩, ⟨(some 32), .idxS 12 (.t 30) (.t 31), none⟩, ⟨(some 33), .fieldA 3 (.t 32), none⟩, ⟨(some 34), .load 1 false (.t 33), none⟩, ⟨(some 35), .mv (.t 7), none⟩, ⟨(some 36), .build [(.v (.int .i64 0)), (.v (.int .i64 0)), (.v (.int .i64 0)), (.v (.int .i64 0)), (.v (.int .i64 0)), (.v (.int .i64 0)), (.v (.int .i64 0)), (.v (.bool false)), (.v (.int .i64 0)), (.v (.int .i64 0)), (.v (.int .i64 0)), (.v (.int .i64 0))] [(0, 1, (.t 19)), (1, 1, (.t 24)), (2, 1, (.t 29)), (3, 1, (.t 34)), (4, 1, (.t 35)), (7, 1, (.c (.v (.bool true))))], none⟩, ⟨(some 8), .alloc 65 [(.v (.int .i64 0)), (.v (.int .i64 0)), (.v (.int .i64 0)), (.v (.int .i64 0)), (.v (.int .i64 0)), (.v (.int .i64 0)), (.v (.int .i64 0)), (.v (.bool false)), (.v (.int .i64 0)), (.v (.int .i64 0)), (.v (.int .i64 0)), (.v (.int .i64 0))], none⟩, ⟨none, .store 12 (.t 8) (.t 36), none⟩] [])
        (.seq (.seq (.reg [⟨(some 37), .mv (.t 7), none⟩, ⟨(some 38), .bin .gtr (.t 37) (.c (.v (.int .i64 0))), none⟩])
        (.cond (.t 38)
          (.draw [⟨(some 39), .mv (.t 1), none⟩, ⟨(some 40), .mv (.t 7), none⟩, ⟨(some 41), .bin .sub (.t 40) (.c (.v (.int .i64 1))), none⟩, ⟨(some 42), .idxS 12 (.t 39) (.t 41), none⟩, ⟨(some 43), .load 12 true (.t 42), none⟩, ⟨(some 44), .call (.c (.fn (.func 70) [] [])) [(.t 43)], none⟩, ⟨(some 45), .mv (.t 1), none⟩, ⟨(some 46), .mv (.t 7), none⟩, ⟨(some 47), .bin .sub (.t 46) (.c (.v (.int .i64 1))), none⟩, ⟨(some 48), .idxS 12 (.t 45) (.t 47), none⟩, ⟨(some 49), .fieldA 2 (.t 48), none⟩, ⟨(some 50), .load 1 false (.t 49), none⟩, ⟨(some 51), .build [(.v (.int .i64 0)), (.v (.int .i64 0))] [(0, 1, (.t 44)), (1, 1, (.t 50))], none⟩, ⟨(some 52), .fieldA 5 (.t 8), none⟩, ⟨none, .store 2 (.t 52) (.t 51), none⟩] [])
          .skip))
        (.reg [⟨(some 53), .fieldA 2 (.t 6), none⟩, ⟨(some 54), .load 1 false (.t 53), none⟩, ⟨(some 55), .load 12 true (.t 8), none⟩, ⟨(some 56), .dslice 65 12 1 [(.v (.int .i64 0)), (.v (.int .i64 0)), (.v (.int .i64 0)), (.v (.int .i64 0)), (.v (.int .i64 0)), (.v (.int .i64 0)), (.v (.int .i64 0)), (.v (.bool false)), (.v (.int .i64 0)), (.v (.int .i64 0)), (.v (.int .i64 0)), (.v (.int .i64 0))] [(0, 12, (.t 55))], none⟩, ⟨(some 57), .append 34 65 12 (.t 54) (.t 56), none⟩, ⟨(some 58), .fieldA 2 (.t 6), none⟩, ⟨none, .store 1 (.t 58) (.t 57), none⟩]))))
      (.reg [⟨(some 16), .mv (.t 7), none⟩, ⟨(some 17), .bin .add (.t 16) (.c (.v (.int .i64 1))), none⟩, ⟨(some 7), .mv (.t 17), none⟩]))))))
  (.seq (.seq (.reg [⟨(some 59), .load 13 true (.t 6), none⟩, ⟨(some 60), .call (.c (.fn (.func 33) [] [])) [(.t 59)], none⟩, ⟨(some 9), .mv (.t 60), none⟩])
  (.seq (.reg [⟨(some 61), .mv (.t 9), none⟩, ⟨(some 62), .bin .neq (.t 61) (.c (.v (.int .i64 0))), none⟩])
  (.cond (.t 62)
    (.seq (.reg [⟨(some 63), .build [(.v (.int .i64 0)), (.v (.int .i64 0)), .nilS, (.v (.int .i64 0)), (.v (.int .i64 0)), (.v (.int .i64 0)), (.v (.int .i64 0)), (.v (.int .i64 0)), (.v (.int .i64 0)), (.v (.int .i64 0)), (.v (.int .i64 0)), (.v (.int .i64 0)), (.v (.int .i64 0))] [], none⟩, ⟨(some 64), .mv (.t 9), none⟩, ⟨none, .store 13 (.t 4) (.t 63), none⟩, ⟨(some 5), .mv (.t 64), none⟩])
    .ret)
    .skip)))
  (.seq (.reg [⟨(some 65), .load 13 true (.t 6), none⟩, ⟨none, .store 13 (.t 4) (.t 65), none⟩, ⟨(some 5), .mv (.c (.v (.int .i64 0))), none⟩])
  .ret)))))
theorem fn_ref09_New : FnOK Try.prog 44 66 [.cell 4 13 true, .t 5] ac_ref09_New := ⟨_, _, Try.func44, rfl, Try.ntmps44, by kernel_rfl, ⟨fun r => if r == 8 then [1003] else [], by kernel_rfl⟩, by kernel_rfl⟩
set_option maxHeartbeats 4000000 in
theorem ref09_New_ok (p1 : Int) (p2 : (List Mate)) (r : (Convoy × Int)) (h : ref09_New p1 p2 = some r) : PCall Try.prog 44 [(i64 p1), (.list (List.map eMate p2))] (.tup [(.agg [(i64 r.1.Tick), (i64 r.1.Gap), (.list (List.map eMate r.1.Mates)), (i64 r.1.Guest_.ID), (i64 r.1.Guest_.S), (i64 r.1.Guest_.V), (i64 r.1.Guest_.Len), (i64 r.1.Guest_.End), (i64 r.1.Guest_.Ahead), (i64 r.1.Guest_.Guess_.R), (i64 r.1.Guest_.Guess_.V), (i64 r.1.Guest_.From), (i64 r.1.Guest_.Until)]), (i64 r.2)]) := by
  refine l_call fn_ref09_New (Nat.le_of_ble_eq_true rfl) ?_
  unfold ref09_New at h
  unfold ac_ref09_New
  refine (l_sub (s0 := ⟨T [(0, (.d (i64 p1))), (1, (.d (.list (List.map eMate p2))))], G []⟩) (sb_of ⟨.of rfl, .of rfl, trivial⟩ trivial) ?_)
  refine l_seq ?_
  refine l_reg fun u1 hu1 => ?_
  refine s_new (.ptr _ _) (.box _ _) rfl rfl ?_
  refine s_val (.d _) rfl rfl ?_
  refine s_nil ?_
  refine l_seq ?_
  refine l_reg fun u2 hu2 => ?_
  refine s_val (.d _) rfl rfl ?_
  refine s_val (.d _) rfl rfl ?_
  refine s_new (.ptr _ _) (.box _ _) rfl rfl ?_
  refine s_store _ _ _ _ _ rfl rfl rfl G_hit (Nat.le_of_ble_eq_true rfl) [(.d (i64 0)), (.d (i64 p1)), (.d .nilS), (.d (i64 0)), (.d (i64 0)), (.d (i64 0)), (.d (i64 0)), (.d (i64 0)), (.d (i64 0)), (.d (i64 0)), (.d (i64 0)), (.d (i64 0)), (.d (i64 0))] rfl ?_
  refine s_nil ?_
  refine l_seq ?_
  refine l_seq ?_
  refine l_reg fun u3 hu3 => ?_
  refine s_val (.d _) rfl rfl ?_
  refine s_nil ?_
  obtain ⟨y1, hy1, h⟩ := bind_some h
  refine l_join (fun s => ∃ g1 : Nat, Sb ⟨T [(4, (.ptr (4, u1) 0)), (6, (.ptr (6, u2) 0))], G [((4, u1), some (.box 38 [(.d (i64 0)), (.d (i64 0)), (.d .nilS), (.d (i64 0)), (.d (i64 0)), (.d (i64 0)), (.d (i64 0)), (.d (i64 0)), (.d (i64 0)), (.d (i64 0)), (.d (i64 0)), (.d (i64 0)), (.d (i64 0))])), ((6, u2), some (.box 38 [(.d (i64 y1.Tick)), (.d (i64 y1.Gap)), (oS y1.Mates (57, g1)), (.d (i64 y1.Guest_.ID)), (.d (i64 y1.Guest_.S)), (.d (i64 y1.Guest_.V)), (.d (i64 y1.Guest_.Len)), (.d (i64 y1.Guest_.End)), (.d (i64 y1.Guest_.Ahead)), (.d (i64 y1.Guest_.Guess_.R)), (.d (i64 y1.Guest_.Guess_.V)), (.d (i64 y1.Guest_.From)), (.d (i64 y1.Guest_.Until))])), ((57, g1), oB 65 12 eMate y1.Mates)]⟩ s) ?_ ?_
  · skip
    refine l_block ?_
    refine l_loop (ref09_New_l1 p2) (fun (x1 : (Int × Convoy)) (g2 : Nat) => ⟨T [(1, (.d (.list (List.map eMate p2)))), (4, (.ptr (4, u1) 0)), (6, (.ptr (6, u2) 0)), (7, (.d (i64 x1.1)))], G [((4, u1), some (.box 38 [(.d (i64 0)), (.d (i64 0)), (.d .nilS), (.d (i64 0)), (.d (i64 0)), (.d (i64 0)), (.d (i64 0)), (.d (i64 0)), (.d (i64 0)), (.d (i64 0)), (.d (i64 0)), (.d (i64 0)), (.d (i64 0))])), ((6, u2), some (.box 38 [(.d (i64 x1.2.Tick)), (.d (i64 x1.2.Gap)), (oS x1.2.Mates (57, g2)), (.d (i64 x1.2.Guest_.ID)), (.d (i64 x1.2.Guest_.S)), (.d (i64 x1.2.Guest_.V)), (.d (i64 x1.2.Guest_.Len)), (.d (i64 x1.2.Guest_.End)), (.d (i64 x1.2.Guest_.Ahead)), (.d (i64 x1.2.Guest_.Guess_.R)), (.d (i64 x1.2.Guest_.Guess_.V)), (.d (i64 x1.2.Guest_.From)), (.d (i64 x1.2.Guest_.Until))])), ((57, g2), oB 65 12 eMate x1.2.Mates)]⟩) (0, (Convoy.mk 0 p1 [] (Guest.mk 0 0 0 0 0 0 (Guess.mk 0 0) 0 0))) 0 _ hy1 (sb_of ⟨.of rfl, .of rfl, .of rfl, .of rfl, trivial⟩ (sbG_some (G_skip rfl (G_skip rfl G_hit)) (.of rfl) (sbG_some G_hit (.of rfl) (sbG_nil trivial)))) ?_
    intro x1 g2 z1 hz1 ez1
    unfold ref09_New_l1 at hz1
    refine l_seq ?_
    refine l_seq ?_
    refine l_reg fun u4 hu4 => ?_
    refine s_val (.d _) rfl rfl ?_
    refine s_val (.d _) rfl rfl ?_
    refine s_val (.d _) rfl (v_len rfl) ?_
    refine s_val (.d _) rfl rfl ?_
    refine s_nil ?_
    refine l_cond (decide (x1.1 < (p2.length : Int))) rfl (fun c1 => ?_) (fun c1 => ?_)
    · replace hz1 := cond_t c1 hz1
      refine l_skip ?_
      refine l_seq ?_
      refine l_block ?_
      refine l_seq ?_
      refine l_draw rfl fun u5 hu5 => ?_
      refine s_val (.d _) rfl rfl ?_
      refine s_val (.d _) rfl rfl ?_
      refine s_val (.d _) rfl rfl ?_
      refine s_val (.d _) rfl rfl ?_
      obtain ⟨v1, hv1, hz1⟩ := bind_some hz1
      refine s_val (.d _) rfl (v_idx rfl rfl hv1 rfl) ?_
      refine s_val (.d _) rfl rfl ?_
      refine s_val (.d _) rfl (v_loadL rfl hv1 rfl) ?_
      refine s_val (.d _) rfl rfl ?_
      refine s_val (.d _) rfl rfl ?_
      obtain ⟨v2, hv2, hz1⟩ := bind_some hz1
      refine s_val (.d _) rfl (v_idx rfl rfl hv2 rfl) ?_
      refine s_val (.d _) rfl rfl ?_
      refine s_val (.d _) rfl (v_loadL rfl hv2 rfl) ?_
      refine s_val (.d _) rfl rfl ?_
      refine s_val (.d _) rfl rfl ?_
      obtain ⟨v3, hv3, hz1⟩ := bind_some hz1
      refine s_val (.d _) rfl (v_idx rfl rfl hv3 rfl) ?_
      refine s_val (.d _) rfl rfl ?_
      refine s_val (.d _) rfl (v_loadL rfl hv3 rfl) ?_
      refine s_val (.d _) rfl rfl ?_
      refine s_val (.d _) rfl rfl ?_
      refine s_new (.ptr _ _) (.box _ _) rfl rfl ?_
      refine s_store _ _ _ _ _ rfl rfl rfl G_hit (Nat.le_of_ble_eq_true rfl) [(.d (i64 (w64 (x1.1 + 1)))), (.d (i64 v1.S)), (.d (i64 v2.V)), (.d (i64 v3.Len)), (.d (i64 x1.1)), (.d (i64 0)), (.d (i64 0)), (.d (bo true)), (.d (i64 0)), (.d (i64 0)), (.d (i64 0)), (.d (i64 0))] rfl ?_
      refine s_nil ?_
      refine l_seq ?_
      refine l_seq ?_
      refine l_sub (s0 := ⟨T [(1, (.d (.list (List.map eMate p2)))), (4, (.ptr (4, u1) 0)), (6, (.ptr (6, u2) 0)), (7, (.d (i64 x1.1))), (8, (.ptr (8, u5) 0))], G [((4, u1), some (.box 38 [(.d (i64 0)), (.d (i64 0)), (.d .nilS), (.d (i64 0)), (.d (i64 0)), (.d (i64 0)), (.d (i64 0)), (.d (i64 0)), (.d (i64 0)), (.d (i64 0)), (.d (i64 0)), (.d (i64 0)), (.d (i64 0))])), ((6, u2), some (.box 38 [(.d (i64 x1.2.Tick)), (.d (i64 x1.2.Gap)), (oS x1.2.Mates (57, g2)), (.d (i64 x1.2.Guest_.ID)), (.d (i64 x1.2.Guest_.S)), (.d (i64 x1.2.Guest_.V)), (.d (i64 x1.2.Guest_.Len)), (.d (i64 x1.2.Guest_.End)), (.d (i64 x1.2.Guest_.Ahead)), (.d (i64 x1.2.Guest_.Guess_.R)), (.d (i64 x1.2.Guest_.Guess_.V)), (.d (i64 x1.2.Guest_.From)), (.d (i64 x1.2.Guest_.Until))])), ((57, g2), oB 65 12 eMate x1.2.Mates), ((8, u5), some (.box 65 [(.d (i64 (w64 (x1.1 + 1)))), (.d (i64 v1.S)), (.d (i64 v2.V)), (.d (i64 v3.Len)), (.d (i64 x1.1)), (.d (i64 0)), (.d (i64 0)), (.d (bo true)), (.d (i64 0)), (.d (i64 0)), (.d (i64 0)), (.d (i64 0))]))]⟩) (sb_of ⟨.of rfl, .of rfl, .of rfl, .of rfl, .of rfl, trivial⟩ (sbG_some (G_skip rfl (G_skip rfl G_hit)) (.of rfl) (sbG_some (G_skip rfl (G_skip rfl (G_skip rfl G_hit))) (.of rfl) (sbG_oB (G_skip rfl (G_skip rfl (G_skip rfl (G_skip rfl G_hit)))) (sbG_some G_hit (.of rfl) trivial))))) ?_
      refine l_reg fun u6 hu6 => ?_
      refine s_val (.d _) rfl rfl ?_
      refine s_val (.d _) rfl rfl ?_
      refine s_nil ?_
      obtain ⟨y2, hy2, hz1⟩ := bind_some hz1
      refine l_join (fun s => ∃ g3 : Unit, Sb ⟨T [(1, (.d (.list (List.map eMate p2)))), (4, (.ptr (4, u1) 0)), (6, (.ptr (6, u2) 0)), (7, (.d (i64 x1.1))), (8, (.ptr (8, u5) 0))], G [((4, u1), some (.box 38 [(.d (i64 0)), (.d (i64 0)), (.d .nilS), (.d (i64 0)), (.d (i64 0)), (.d (i64 0)), (.d (i64 0)), (.d (i64 0)), (.d (i64 0)), (.d (i64 0)), (.d (i64 0)), (.d (i64 0)), (.d (i64 0))])), ((6, u2), some (.box 38 [(.d (i64 x1.2.Tick)), (.d (i64 x1.2.Gap)), (oS x1.2.Mates (57, g2)), (.d (i64 x1.2.Guest_.ID)), (.d (i64 x1.2.Guest_.S)), (.d (i64 x1.2.Guest_.V)), (.d (i64 x1.2.Guest_.Len)), (.d (i64 x1.2.Guest_.End)), (.d (i64 x1.2.Guest_.Ahead)), (.d (i64 x1.2.Guest_.Guess_.R)), (.d (i64 x1.2.Guest_.Guess_.V)), (.d (i64 x1.2.Guest_.From)), (.d (i64 x1.2.Guest_.Until))])), ((8, u5), some (.box 65 [(.d (i64 y2.ID)), (.d (i64 y2.S)), (.d (i64 y2.V)), (.d (i64 y2.Len)), (.d (i64 y2.Ahead)), (.d (i64 y2.Guess_.R)), (.d (i64 y2.Guess_.V)), (.d (bo y2.Trust)), (.d (i64 y2.Ward)), (.d (i64 y2.WardGuess.R)), (.d (i64 y2.WardGuess.V)), (.d (i64 y2.Until))])), ((57, g2), oB 65 12 eMate x1.2.Mates)]⟩ s) ?_ ?_
      · skip
        refine l_cond (decide (x1.1 > 0)) rfl (fun c2 => ?_) (fun c2 => ?_)
        · replace hy2 := cond_t c2 hy2
          refine l_draw rfl fun u7 hu7 => ?_
          refine s_val (.d _) rfl rfl ?_
          refine s_val (.d _) rfl rfl ?_
          refine s_val (.d _) rfl rfl ?_
          obtain ⟨v4, hv4, hy2⟩ := bind_some hy2
          refine s_val (.d _) rfl (v_idx rfl rfl hv4 rfl) ?_
          refine s_val (.d _) rfl (v_loadLG rfl hv4 rfl rfl) ?_
          obtain ⟨v5, hv5, hy2⟩ := bind_some hy2
          refine s_call rfl rfl all2_refl (ref09_rear_ok _  _ hv5) (.inl rfl) ?_
          refine s_val (.d _) rfl rfl ?_
          refine s_val (.d _) rfl rfl ?_
          refine s_val (.d _) rfl rfl ?_
          obtain ⟨v6, hv6, hy2⟩ := bind_some hy2
          refine s_val (.d _) rfl (v_idx rfl rfl hv6 rfl) ?_
          refine s_val (.d _) rfl rfl ?_
          refine s_val (.d _) rfl (v_loadL rfl hv6 rfl) ?_
          refine s_val (.d _) rfl rfl ?_
          refine s_val (.ptr _ _) rfl rfl ?_
          refine s_store _ _ _ _ _ rfl rfl rfl (G_skip rfl (G_skip rfl (G_skip rfl G_hit))) (Nat.le_of_ble_eq_true rfl) [(.d (i64 (w64 (x1.1 + 1)))), (.d (i64 v1.S)), (.d (i64 v2.V)), (.d (i64 v3.Len)), (.d (i64 x1.1)), (.d (i64 v5)), (.d (i64 v6.V)), (.d (bo true)), (.d (i64 0)), (.d (i64 0)), (.d (i64 0)), (.d (i64 0))] rfl ?_
          refine s_nil ?_
          obtain rfl := Option.some.inj hy2
          exact l_j ⟨(), (sb_of ⟨.of rfl, .of rfl, .of rfl, .of rfl, .of rfl, trivial⟩ (sbG_some (G_skip rfl G_hit) (.of rfl) (sbG_some (G_skip rfl (G_skip rfl G_hit)) (.of rfl) (sbG_some G_hit (.of rfl) (sbG_oB (G_skip rfl (G_skip rfl (G_skip rfl G_hit))) trivial)))))⟩
        · replace hy2 := cond_f c2 hy2
          refine l_skip ?_
          obtain rfl := Option.some.inj hy2
          exact l_j ⟨(), (sb_of ⟨.of rfl, .of rfl, .of rfl, .of rfl, .of rfl, trivial⟩ (sbG_some G_hit (.of rfl) (sbG_some (G_skip rfl G_hit) (.of rfl) (sbG_some (G_skip rfl (G_skip rfl (G_skip rfl G_hit))) (.of rfl) (sbG_oB (G_skip rfl (G_skip rfl G_hit)) trivial)))))⟩
      · rintro _ ⟨g3, q1⟩
        refine l_sub q1 ?_
        refine l_reg fun u8 hu8 => ?_
        refine s_val (.ptr _ _) rfl rfl ?_
        refine s_val (oS x1.2.Mates (57, g2)) rfl (v_load rfl (G_skip rfl G_hit) rfl) ?_
        refine s_val (.d _) rfl (v_loadG rfl (G_skip rfl (G_skip rfl G_hit)) rfl rfl) ?_
        refine s_val (.d (.list (List.map eMate [y2]))) rfl (v_dsliceN eMate ([y2] : List Mate) (fun _ => rfl) rfl rfl ⟨rfl, rfl, rfl, trivial⟩) ?_
        obtain ⟨v7, hv7, hz1⟩ := bind_some hz1
        refine s_appendO eMate (57, g2) x1.2.Mates y2 [] _ (elems_list (fun _ => rfl)) rfl (G_skip rfl (G_skip rfl (G_skip rfl G_hit))) hv7 ?_
        refine s_val (.ptr _ _) rfl rfl ?_
        refine s_store _ _ _ _ _ rfl rfl rfl (G_skip rfl (G_skip rfl (G_skip rfl G_hit))) (Nat.le_of_ble_eq_true rfl) [(.d (i64 x1.2.Tick)), (.d (i64 x1.2.Gap)), (.sl (57, u8)), (.d (i64 x1.2.Guest_.ID)), (.d (i64 x1.2.Guest_.S)), (.d (i64 x1.2.Guest_.V)), (.d (i64 x1.2.Guest_.Len)), (.d (i64 x1.2.Guest_.End)), (.d (i64 x1.2.Guest_.Ahead)), (.d (i64 x1.2.Guest_.Guess_.R)), (.d (i64 x1.2.Guest_.Guess_.V)), (.d (i64 x1.2.Guest_.From)), (.d (i64 x1.2.Guest_.Until))] rfl ?_
        refine s_nil ?_
        refine l_end ?_
        refine l_reg fun u9 hu9 => ?_
        refine s_val (.d _) rfl rfl ?_
        refine s_val (.d _) rfl rfl ?_
        refine s_val (.d _) rfl rfl ?_
        refine s_nil ?_
        refine l_nil ?_
        obtain rfl := Option.some.inj hz1
        exact ⟨rfl, u8, (sb_of ⟨.of rfl, .of rfl, .of rfl, .of rfl, trivial⟩ (sbG_some (G_skip rfl (G_skip rfl (G_skip rfl G_hit))) (.of rfl) (sbG_some G_hit (.box (.cons (.of rfl) (.cons (.of rfl) (.cons (.of (oS_ne (appc_ne hv7)).symm) (.cons (.of rfl) (.cons (.of rfl) (.cons (.of rfl) (.cons (.of rfl) (.cons (.of rfl) (.cons (.of rfl) (.cons (.of rfl) (.cons (.of rfl) (.cons (.of rfl) (.cons (.of rfl) .nil)))))))))))))) (sbG_own (G_skip rfl G_hit) trivial))))⟩
    · replace hz1 := cond_f c1 hz1
      refine l_exitN rfl ?_
      obtain rfl := Option.some.inj hz1
      obtain rfl := ez1 _ rfl
      refine ⟨nofun, awl_pop rfl (l_j ?_)⟩
      exact ⟨g2, (sb_of ⟨.of rfl, .of rfl, trivial⟩ (sbG_some G_hit (.of rfl) (sbG_some (G_skip rfl G_hit) (.of rfl) (sbG_oB (G_skip rfl (G_skip rfl G_hit)) trivial))))⟩
  · rintro _ ⟨g1, q2⟩
    refine l_sub q2 ?_
    refine l_seq ?_
    refine l_seq ?_
    refine l_reg fun u10 hu10 => ?_
    refine s_val (mkAgg [(.d (i64 y1.Tick)), (.d (i64 y1.Gap)), (oS y1.Mates (57, g1)), (.d (i64 y1.Guest_.ID)), (.d (i64 y1.Guest_.S)), (.d (i64 y1.Guest_.V)), (.d (i64 y1.Guest_.Len)), (.d (i64 y1.Guest_.End)), (.d (i64 y1.Guest_.Ahead)), (.d (i64 y1.Guest_.Guess_.R)), (.d (i64 y1.Guest_.Guess_.V)), (.d (i64 y1.Guest_.From)), (.d (i64 y1.Guest_.Until))]) rfl (v_loadG rfl (G_skip rfl G_hit) rfl rfl) ?_
    obtain ⟨v8, hv8, h⟩ := bind_some h
    refine s_call rfl (rfL_cons (rf_mkAgg (rfL_cons rf_d (rfL_cons rf_d (rfL_cons (rf_oS (G_skip rfl (G_skip rfl G_hit))) (rfL_cons rf_d (rfL_cons rf_d (rfL_cons rf_d (rfL_cons rf_d (rfL_cons rf_d (rfL_cons rf_d (rfL_cons rf_d (rfL_cons rf_d (rfL_cons rf_d (rfL_cons rf_d rfL_nil)))))))))))))) rfL_nil) (.cons (.agg (.cons ⟨(.refl _), rfl⟩ (.cons ⟨(.refl _), rfl⟩ (.cons ⟨oD_le, rfl⟩ (.cons ⟨(.refl _), rfl⟩ (.cons ⟨(.refl _), rfl⟩ (.cons ⟨(.refl _), rfl⟩ (.cons ⟨(.refl _), rfl⟩ (.cons ⟨(.refl _), rfl⟩ (.cons ⟨(.refl _), rfl⟩ (.cons ⟨(.refl _), rfl⟩ (.cons ⟨(.refl _), rfl⟩ (.cons ⟨(.refl _), rfl⟩ (.cons ⟨(.refl _), rfl⟩ .nil)))))))))))))) .nil) (ref09_Check_ok _  _ hv8) (.inr rfl) ?_
    refine s_val (.d _) rfl rfl ?_
    refine s_nil ?_
    refine l_seq ?_
    refine l_reg fun u11 hu11 => ?_
    refine s_val (.d _) rfl rfl ?_
    refine s_val (.d _) rfl rfl ?_
    refine s_nil ?_
    refine l_cond (v8 != 0) rfl (fun c3 => ?_) (fun c3 => ?_)
    · replace h := cond_t c3 h
      refine l_seq ?_
      refine l_reg fun u12 hu12 => ?_
      refine s_val (.d _) rfl rfl ?_
      refine s_val (.d _) rfl rfl ?_
      refine s_store _ _ _ _ _ rfl rfl rfl G_hit (Nat.le_of_ble_eq_true rfl) [(.d (i64 0)), (.d (i64 0)), (.d .nilS), (.d (i64 0)), (.d (i64 0)), (.d (i64 0)), (.d (i64 0)), (.d (i64 0)), (.d (i64 0)), (.d (i64 0)), (.d (i64 0)), (.d (i64 0)), (.d (i64 0))] rfl ?_
      refine s_val (.d _) rfl rfl ?_
      refine s_nil ?_
      refine l_ret ?_
      obtain rfl := Option.some.inj h
      refine fin_ok (.inr rfl) (resD2 (res_cellG rfl G_hit (Nat.le_of_ble_eq_true rfl) rfl) (res_t rfl) rf_d rf_d) ?_
      exact .tup (.cons (.agg (.cons ⟨(.refl _), rfl⟩ (.cons ⟨(.refl _), rfl⟩ (.cons ⟨DLe.nil, rfl⟩ (.cons ⟨(.refl _), rfl⟩ (.cons ⟨(.refl _), rfl⟩ (.cons ⟨(.refl _), rfl⟩ (.cons ⟨(.refl _), rfl⟩ (.cons ⟨(.refl _), rfl⟩ (.cons ⟨(.refl _), rfl⟩ (.cons ⟨(.refl _), rfl⟩ (.cons ⟨(.refl _), rfl⟩ (.cons ⟨(.refl _), rfl⟩ (.cons ⟨(.refl _), rfl⟩ .nil)))))))))))))) (.cons (.refl _) .nil))
    · replace h := cond_f c3 h
      refine l_skip ?_
      refine l_seq ?_
      refine l_reg fun u13 hu13 => ?_
      refine s_val (mkAgg [(.d (i64 y1.Tick)), (.d (i64 y1.Gap)), (oS y1.Mates (57, g1)), (.d (i64 y1.Guest_.ID)), (.d (i64 y1.Guest_.S)), (.d (i64 y1.Guest_.V)), (.d (i64 y1.Guest_.Len)), (.d (i64 y1.Guest_.End)), (.d (i64 y1.Guest_.Ahead)), (.d (i64 y1.Guest_.Guess_.R)), (.d (i64 y1.Guest_.Guess_.V)), (.d (i64 y1.Guest_.From)), (.d (i64 y1.Guest_.Until))]) rfl (v_loadG rfl (G_skip rfl G_hit) rfl rfl) ?_
      refine s_store _ _ _ _ _ (cellsV_mkAgg _) rfl rfl G_hit (Nat.le_of_ble_eq_true rfl) [(.d (i64 y1.Tick)), (.d (i64 y1.Gap)), (oS y1.Mates (57, g1)), (.d (i64 y1.Guest_.ID)), (.d (i64 y1.Guest_.S)), (.d (i64 y1.Guest_.V)), (.d (i64 y1.Guest_.Len)), (.d (i64 y1.Guest_.End)), (.d (i64 y1.Guest_.Ahead)), (.d (i64 y1.Guest_.Guess_.R)), (.d (i64 y1.Guest_.Guess_.V)), (.d (i64 y1.Guest_.From)), (.d (i64 y1.Guest_.Until))] rfl ?_
      refine s_val (.d _) rfl rfl ?_
      refine s_nil ?_
      refine l_ret ?_
      obtain rfl := Option.some.inj h
      refine fin_ok (.inr rfl) (resD2 (res_cellG rfl G_hit (Nat.le_of_ble_eq_true rfl) rfl) (res_t rfl) (rf_mkAgg (rfL_cons rf_d (rfL_cons rf_d (rfL_cons (rf_oS (G_skip rfl (G_skip rfl (G_skip rfl G_hit)))) (rfL_cons rf_d (rfL_cons rf_d (rfL_cons rf_d (rfL_cons rf_d (rfL_cons rf_d (rfL_cons rf_d (rfL_cons rf_d (rfL_cons rf_d (rfL_cons rf_d (rfL_cons rf_d rfL_nil)))))))))))))) rf_d) ?_
      exact .tup (.cons (.agg (.cons ⟨(.refl _), rfl⟩ (.cons ⟨(.refl _), rfl⟩ (.cons ⟨oD_le, rfl⟩ (.cons ⟨(.refl _), rfl⟩ (.cons ⟨(.refl _), rfl⟩ (.cons ⟨(.refl _), rfl⟩ (.cons ⟨(.refl _), rfl⟩ (.cons ⟨(.refl _), rfl⟩ (.cons ⟨(.refl _), rfl⟩ (.cons ⟨(.refl _), rfl⟩ (.cons ⟨(.refl _), rfl⟩ (.cons ⟨(.refl _), rfl⟩ (.cons ⟨(.refl _), rfl⟩ .nil)))))))))))))) (.cons (.refl _) .nil))

noncomputable def ref09_Copy (p1 : Convoy) : Option Convoy :=
  (appc ([] : List Mate) p1.Mates).bind fun v1 => some (Convoy.mk p1.Tick p1.Gap v1 p1.Guest_)

/-- kerbstone/kerbstoneref09.Copy -/
def ac_ref09_Copy : AC :=
  (.seq (.reg [⟨(some 1), .box 38 true (.t 0), none⟩, ⟨(some 2), .alloc 38 [(.v (.int .i64 0)), (.v (.int .i64 0)), .nilS, (.v (.int .i64 0)), (.v (.int .i64 0)), (.v (.int .i64 0)), (.v (.int .i64 0)), (.v (.int .i64 0)), (.v (.int .i64 0)), (.v (.int .i64 0)), (.v (.int .i64 0)), (.v (.int .i64 0)), (.v (.int .i64 0))], none⟩])
  (.seq (.reg [⟨(some 3), .fieldA 2 (.t 1), none⟩, ⟨(some 4), .load 1 false (.t 3), none⟩, ⟨(some 5), .append 34 65 12 (.c .nilS) (.t 4), none⟩, ⟨(some 6), .fieldA 2 (.t 1), none⟩, ⟨none, .store 1 (.t 6) (.t 5), none⟩])
  (.seq (.reg [⟨(some 7), .load 13 true (.t 1), none⟩, ⟨none, .store 13 (.t 2) (.t 7), none⟩])
  .ret)))
theorem fn_ref09_Copy : FnOK Try.prog 31 8 [.cell 2 13 true] ac_ref09_Copy := ⟨_, _, Try.func31, rfl, Try.ntmps31, by kernel_rfl, ⟨fun _ => [], by kernel_rfl⟩, by kernel_rfl⟩
theorem ref09_Copy_ok (p1 : Convoy) (r : Convoy) (h : ref09_Copy p1 = some r) : PCall Try.prog 31 [(.agg [(i64 p1.Tick), (i64 p1.Gap), (.list (List.map eMate p1.Mates)), (i64 p1.Guest_.ID), (i64 p1.Guest_.S), (i64 p1.Guest_.V), (i64 p1.Guest_.Len), (i64 p1.Guest_.End), (i64 p1.Guest_.Ahead), (i64 p1.Guest_.Guess_.R), (i64 p1.Guest_.Guess_.V), (i64 p1.Guest_.From), (i64 p1.Guest_.Until)])] (.agg [(i64 r.Tick), (i64 r.Gap), (.list (List.map eMate r.Mates)), (i64 r.Guest_.ID), (i64 r.Guest_.S), (i64 r.Guest_.V), (i64 r.Guest_.Len), (i64 r.Guest_.End), (i64 r.Guest_.Ahead), (i64 r.Guest_.Guess_.R), (i64 r.Guest_.Guess_.V), (i64 r.Guest_.From), (i64 r.Guest_.Until)]) := by
  refine l_call fn_ref09_Copy (Nat.le_of_ble_eq_true rfl) ?_
  unfold ref09_Copy at h
  unfold ac_ref09_Copy
  refine (l_sub (s0 := ⟨T [(0, (.d (.agg [(i64 p1.Tick), (i64 p1.Gap), (.list (List.map eMate p1.Mates)), (i64 p1.Guest_.ID), (i64 p1.Guest_.S), (i64 p1.Guest_.V), (i64 p1.Guest_.Len), (i64 p1.Guest_.End), (i64 p1.Guest_.Ahead), (i64 p1.Guest_.Guess_.R), (i64 p1.Guest_.Guess_.V), (i64 p1.Guest_.From), (i64 p1.Guest_.Until)])))], G []⟩) (sb_of ⟨.of rfl, trivial⟩ trivial) ?_)
  refine l_seq ?_
  refine l_reg fun u1 hu1 => ?_
  refine s_new (.ptr _ _) (.box _ _) rfl rfl ?_
  refine s_new (.ptr _ _) (.box _ _) rfl rfl ?_
  refine s_nil ?_
  refine l_seq ?_
  refine l_reg fun u2 hu2 => ?_
  refine s_val (.ptr _ _) rfl rfl ?_
  refine s_val (.d _) rfl (v_load rfl (G_skip rfl G_hit) rfl) ?_
  obtain ⟨v1, hv1, h⟩ := bind_some h
  refine s_appendG eMate (5, u2) ([] : List Mate) p1.Mates _ (elems_list (fun _ => rfl)) rfl (fresh_none hu2) hv1 (fresh_none hu2) ?_
  refine s_val (.ptr _ _) rfl rfl ?_
  refine s_store _ _ _ _ _ (cellsV_oS _ _) rfl rfl (G_skip rfl (G_skip rfl (G_skip rfl G_hit))) (Nat.le_of_ble_eq_true rfl) [(.d (i64 p1.Tick)), (.d (i64 p1.Gap)), (oS v1 (5, u2)), (.d (i64 p1.Guest_.ID)), (.d (i64 p1.Guest_.S)), (.d (i64 p1.Guest_.V)), (.d (i64 p1.Guest_.Len)), (.d (i64 p1.Guest_.End)), (.d (i64 p1.Guest_.Ahead)), (.d (i64 p1.Guest_.Guess_.R)), (.d (i64 p1.Guest_.Guess_.V)), (.d (i64 p1.Guest_.From)), (.d (i64 p1.Guest_.Until))] rfl ?_
  refine s_nil ?_
  refine l_seq ?_
  refine l_reg fun u3 hu3 => ?_
  refine s_val (mkAgg [(.d (i64 p1.Tick)), (.d (i64 p1.Gap)), (oS v1 (5, u2)), (.d (i64 p1.Guest_.ID)), (.d (i64 p1.Guest_.S)), (.d (i64 p1.Guest_.V)), (.d (i64 p1.Guest_.Len)), (.d (i64 p1.Guest_.End)), (.d (i64 p1.Guest_.Ahead)), (.d (i64 p1.Guest_.Guess_.R)), (.d (i64 p1.Guest_.Guess_.V)), (.d (i64 p1.Guest_.From)), (.d (i64 p1.Guest_.Until))]) rfl (v_loadG rfl G_hit rfl rfl) ?_
  refine s_store _ _ _ _ _ (cellsV_mkAgg _) rfl rfl (G_skip rfl (G_skip rfl (G_skip rfl G_hit))) (Nat.le_of_ble_eq_true rfl) [(.d (i64 p1.Tick)), (.d (i64 p1.Gap)), (oS v1 (5, u2)), (.d (i64 p1.Guest_.ID)), (.d (i64 p1.Guest_.S)), (.d (i64 p1.Guest_.V)), (.d (i64 p1.Guest_.Len)), (.d (i64 p1.Guest_.End)), (.d (i64 p1.Guest_.Ahead)), (.d (i64 p1.Guest_.Guess_.R)), (.d (i64 p1.Guest_.Guess_.V)), (.d (i64 p1.Guest_.From)), (.d (i64 p1.Guest_.Until))] rfl ?_
  refine s_nil ?_
  refine l_ret ?_
  obtain rfl := Option.some.inj h
  refine fin_ok (.inr rfl) (resD1 (res_cellG rfl G_hit (Nat.le_of_ble_eq_true rfl) rfl) (rf_mkAgg (rfL_cons rf_d (rfL_cons rf_d (rfL_cons (rf_oS (G_skip rfl (G_skip rfl G_hit))) (rfL_cons rf_d (rfL_cons rf_d (rfL_cons rf_d (rfL_cons rf_d (rfL_cons rf_d (rfL_cons rf_d (rfL_cons rf_d (rfL_cons rf_d (rfL_cons rf_d (rfL_cons rf_d rfL_nil))))))))))))))) ?_
  exact (.agg (.cons ⟨(.refl _), rfl⟩ (.cons ⟨(.refl _), rfl⟩ (.cons ⟨oD_le, rfl⟩ (.cons ⟨(.refl _), rfl⟩ (.cons ⟨(.refl _), rfl⟩ (.cons ⟨(.refl _), rfl⟩ (.cons ⟨(.refl _), rfl⟩ (.cons ⟨(.refl _), rfl⟩ (.cons ⟨(.refl _), rfl⟩ (.cons ⟨(.refl _), rfl⟩ (.cons ⟨(.refl _), rfl⟩ (.cons ⟨(.refl _), rfl⟩ (.cons ⟨(.refl _), rfl⟩ .nil))))))))))))))

noncomputable def ref09_Ramp_l1 (p1 : Convoy) (p2 : Guest) (x1 : (Bool × Int)) : Option (Stp (Bool × Int) Bool) :=
  cond (decide (x1.2 < (p1.Mates.length : Int))) (((cond (!x1.1) (geti p1.Mates x1.2) (some default))).bind fun v2 => ((cond (!(x1.1 || (v2.ID == p2.ID))) (geti p1.Mates x1.2) (some default))).bind fun v3 => some (.go (((x1.1 || (v2.ID == p2.ID)) || ((v3.Ward == p2.ID) && (p2.ID != 0))), (w64 (x1.2 + 1))))) (some (.out x1.1))
noncomputable def ref09_Ramp (p1 : Convoy) (p2 : Guest) : Option (Convoy × Int) :=
  (ref09_Check p1).bind fun v1 => cond (v1 != 0) (some ((Convoy.mk 0 0 [] (Guest.mk 0 0 0 0 0 0 (Guess.mk 0 0) 0 0)), v1)) ((loop (ref09_Ramp_l1 p1 p2) ((p1.Guest_.ID != 0), 0)).bind fun y1 => cond y1 (some ((Convoy.mk 0 0 [] (Guest.mk 0 0 0 0 0 0 (Guess.mk 0 0) 0 0)), 9)) (cond (p2.ID == 0) (some ((Convoy.mk 0 0 [] (Guest.mk 0 0 0 0 0 0 (Guess.mk 0 0) 0 0)), 2)) ((ref09_Copy p1).bind fun v4 => (ref09_Check (Convoy.mk v4.Tick v4.Gap v4.Mates (Guest.mk p2.ID p2.S p2.V p2.Len p2.End 0 (Guess.mk 0 0) 0 0))).bind fun v5 => cond (v5 != 0) (some ((Convoy.mk 0 0 [] (Guest.mk 0 0 0 0 0 0 (Guess.mk 0 0) 0 0)), v5)) (some ((Convoy.mk v4.Tick v4.Gap v4.Mates (Guest.mk p2.ID p2.S p2.V p2.Len p2.End 0 (Guess.mk 0 0) 0 0)), 0)))))

/-- kerbstone/kerbstoneref09.Ramp -/
def ac_ref09_Ramp : AC :=
  (.seq (.reg [⟨(some 2), .box 38 true (.t 0), none⟩, ⟨(some 3), .box 36 true (.t 1), none⟩, ⟨(some 4), .alloc 38 [(.v (.int .i64 0)), (.v (.int .i64 0)), .nilS, (.v (.int .i64 0)), (.v (.int .i64 0)), (.v (.int .i64 0)), (.v (.int .i64 0)), (.v (.int .i64 0)), (.v (.int .i64 0)), (.v (.int .i64 0)), (.v (.int .i64 0)), (.v (.int .i64 0)), (.v (.int .i64 0))], none⟩, ⟨(some 5), .mv (.c (.v (.int .i64 0))), none⟩])
  (.seq (.seq (.reg [⟨(some 11), .load 13 true (.t 2), none⟩, ⟨(some 12), .call (.c (.fn (.func 33) [] [])) [(.t 11)], none⟩, ⟨(some 6), .mv (.t 12), none⟩])
  (.seq (.reg [⟨(some 13), .mv (.t 6), none⟩, ⟨(some 14), .bin .neq (.t 13) (.c (.v (.int .i64 0))), none⟩])
  (.cond (.t 14)
    (.seq (.reg [⟨(some 15), .build [(.v (.int .i64 0)), (.v (.int .i64 0)), .nilS, (.v (.int .i64 0)), (.v (.int .i64 0)), (.v (.int .i64 0)), (.v (.int .i64 0)), (.v (.int .i64 0)), (.v (.int .i64 0)), (.v (.int .i64 0)), (.v (.int .i64 0)), (.v (.int .i64 0)), (.v (.int .i64 0))] [], none⟩, ⟨(some 16), .mv (.t 6), none⟩, ⟨none, .store 13 (.t 4) (.t 15), none⟩, ⟨(some 5), .mv (.t 16), none⟩])
    .ret)
    .skip)))
  (.seq (.reg [⟨(some 17), .fieldA 3 (.t 2), none⟩, ⟨(some 18), .fieldA 0 (.t 17), none⟩, ⟨(some 19), .load 1 false (.t 18), none⟩, ⟨(some 20), .bin .neq (.t 19) (.c (.v (.int .i64 0))), none⟩, ⟨(some 7), .mv (.t 20), none⟩])
  (.seq (.seq (.reg [⟨(some 8), .mv (.c (.v (.int .i64 0))), none⟩])
  (.block 0
    (.loop
      (.seq (.seq (.reg [⟨(some 21), .mv (.t 8), none⟩, ⟨(some 22), .fieldA 2 (.t 2), none⟩, ⟨(some 23), .load 1 false (.t 22), none⟩, ⟨(some 24), .len (.t 23), none⟩, ⟨(some 25), .bin .lss (.t 21) (.t 24), none⟩])
      (.cond (.t 25)
        .skip
        (.exit 0)))
      (.seq (.block 1
        (.draw [⟨(some 28), .mv (.t 7), none⟩, ⟨(some 29), .mv (.t 28), none⟩, ⟨(some 30), .fieldA 2 (.t 2), (some (29, false))⟩, ⟨(some 31), .load 1 false (.t 30), (some (29, false))⟩, ⟨(some 32), .mv (.t 8), (some (29, false))⟩, ⟨(some 33), .idxS 12 (.t 31) (.t 32), (some (29, false))⟩, ⟨(some 34), .fieldA 0 (.t 33), (some (29, false))⟩, ⟨(some 35), .load 1 false (.t 34), (some (29, false))⟩, ⟨(some 36), .fieldA 0 (.t 3), (some (29, false))⟩, ⟨(some 37), .load 1 false (.t 36), (some (29, false))⟩, ⟨(some 38), .bin .eql (.t 35) (.t 37), (some (29, false))⟩, ⟨(some 39), .pick (.t 29) (.c (.v (.bool true))) (.t 38), none⟩, ⟨(some 40), .mv (.t 39), none⟩, ⟨(some 41), .fieldA 2 (.t 2), (some (40, false))⟩, ⟨(some 42), .load 1 false (.t 41), (some (40, false))⟩, ⟨(some 43), .mv (.t 8), (some (40, false))⟩, ⟨(some 44), .idxS 12 (.t 42) (.t 43), (some (40, false))⟩, ⟨(some 45), .fieldA 8 (.t 44), (some (40, false))⟩, ⟨(some 46), .load 1 false (.t 45), (some (40, false))⟩, ⟨(some 47), .fieldA 0 (.t 3), (some (40, false))⟩, ⟨(some 48), .load 1 false (.t 47), (some (40, false))⟩, ⟨(some 49), .bin .eql (.t 46) (.t 48), (some (40, false))⟩, ⟨(some 50), .mv (.t 49), (some (40, false))⟩, ⟨(some 51), .fieldA 0 (.t 3), (some (50, true))⟩, ⟨(some 52), .load 1 false (.t 51), (some (50, true))⟩, ⟨(some 53), .bin .neq (.t 52) (.c (.v (.int .i64 0))), (some (50, true))⟩, ⟨(some 54), .pick (.t 50) (.t 53) (.c (.v (.bool false))), (some (40, false))⟩, ⟨(some 55), .pick (.t 40) (.c (.v (.bool true))) (.t 54), none⟩, ⟨(some 7), .mv (.t 55), none⟩] []))
      (.reg [⟨(some 26), .mv (.t 8), none⟩, ⟨(some 27), .bin .add (.t 26) (.c (.v (.int .i64 1))), none⟩, ⟨(some 8), .mv (.t 27), none⟩]))))))
  (.seq (.seq (.reg [⟨(some 56), .mv (.t 7), none⟩])
  (.cond (.t 56)
    (.seq (.reg [⟨(some 57), .build [(.v (.int .i64 0)), (.v (.int .i64 0)), .nilS, (.v (.int .i64 0)), (.v (.int .i64 0)), (.v (.int .i64 0)), (.v (.int .i64 0)), (.v (.int .i64 0)), (.v (.int .i64 0)), (.v (.int .i64 0)), (.v (.int .i64 0)), (.v (.int .i64 0)), (.v (.int .i64 0))] [], none⟩, ⟨none, .store 13 (.t 4) (.t 57), none⟩, ⟨(some 5), .mv (.c (.v (.int .i64 9))), none⟩])
    .ret)
    .skip))
  (.seq (.seq (.reg [⟨(some 58), .fieldA 0 (.t 3), none⟩, ⟨(some 59), .load 1 false (.t 58), none⟩, ⟨(some 60), .bin .eql (.t 59) (.c (.v (.int .i64 0))), none⟩])
  (.cond (.t 60)
    (.seq (.reg [⟨(some 61), .build [(.v (.int .i64 0)), (.v (.int .i64 0)), .nilS, (.v (.int .i64 0)), (.v (.int .i64 0)), (.v (.int .i64 0)), (.v (.int .i64 0)), (.v (.int .i64 0)), (.v (.int .i64 0)), (.v (.int .i64 0)), (.v (.int .i64 0)), (.v (.int .i64 0)), (.v (.int .i64 0))] [], none⟩, ⟨none, .store 13 (.t 4) (.t 61), none⟩, ⟨(some 5), .mv (.c (.v (.int .i64 2))), none⟩])
    .ret)
    .skip))
  (.seq (.reg [⟨(some 62), .load 13 true (.t 2), none⟩, ⟨(some 63), .call (.c (.fn (.func 31) [] [])) [(.t 62)], none⟩, ⟨(some 9), .alloc 38 [(.v (.int .i64 0)), (.v (.int .i64 0)), .nilS, (.v (.int .i64 0)), (.v (.int .i64 0)), (.v (.int .i64 0)), (.v (.int .i64 0)), (.v (.int .i64 0)), (.v (.int .i64 0)), (.v (.int .i64 0)), (.v (.int .i64 0)), (.v (.int .i64 0)), (.v (.int .i64 0))], none⟩, ⟨none, .store 13 (.t 9) (.t 63), none⟩])
  (.seq (.reg [⟨(some 64), .fieldA 0 (.t 3), none⟩, ⟨(some 65), .load 1 false (.t 64), none⟩, ⟨(some 66), .fieldA 1 (.t 3), none⟩, ⟨(some 67), .load 1 false (.t 66), none⟩, ⟨(some 68), .fieldA 2 (.t 3), none⟩, ⟨(some 69), .load 1 false (.t 68), none⟩, ⟨(some 70), .fieldA 3 (.t 3), none⟩, ⟨(some 71), .load 1 false (.t 70), none⟩, ⟨(some 72), .fieldA 4 (.t 3), none⟩, ⟨(some 73), .load 1 false (.t 72), none⟩, ⟨(some 74), .build [(.v (.int .i64 0)), (.v (.int .i64 0)), (.v (.int .i64 0)), (.v (.int .i64 0)), (.v (.int .i64 0)), (.v (.int .i64 0)), (.v (.int .i64 0)), (.v (.int .i64 0)), (.v (.int .i64 0)), (.v (.int .i64 0))] [(0, 1, (.t 65)), (1, 1, (.t 67)), (2, 1, (.t 69)), (3, 1, (.t 71)), (4, 1, (.t 73))], none⟩, ⟨(some 75), .fieldA 3 (.t 9), none⟩, ⟨none, .store 10 (.t 75) (.t 74), none⟩])
  (.seq (.seq (.reg [⟨(some 76), .load 13 true (.t 9), none⟩, ⟨(some 77), .call (.c (.fn (.func 33) [] [])) [(.t 76)], none⟩, ⟨(some 10), .mv (.t 77), none⟩])
  (.seq (.reg [⟨(some 78), .mv (.t 10), none⟩, ⟨(some 79), .bin .neq (.t 78) (.c (.v (.int .i64 0))), none⟩])
  (.cond (.t 79)
    (.seq (.reg [⟨(some 80), .build [(.v (.int .i64 0)), (.v (.int .i64 0)), .nilS, (.v (.int .i64 0)), (.v (.int .i64 0)), (.v (.int .i64 0)), (.v (.int .i64 0)), (.v (.int .i64 0)), (.v (.int .i64 0)), (.v (.int .i64 0)), (.v (.int .i64 0)), (.v (.int .i64 0)), (.v (.int .i64 0))] [], none⟩, ⟨(some 81), .mv (.t 10), none⟩, ⟨none, .store 13 (.t 4) (.t 80), none⟩, ⟨(some 5), .mv (.t 81), none⟩])
    .ret)
    .skip)))
  (.seq (.reg [⟨(some 82), .load 13 true (.t 9), none⟩, ⟨none, .store 13 (.t 4) (.t 82), none⟩, ⟨(some 5), .mv (.c (.v (.int .i64 0))), none⟩])
  .ret))))))))))
theorem fn_ref09_Ramp : FnOK Try.prog 46 83 [.cell 4 13 true, .t 5] ac_ref09_Ramp := ⟨_, _, Try.func46, rfl, Try.ntmps46, by kernel_rfl, ⟨fun _ => [], by kernel_rfl⟩, by kernel_rfl⟩
set_option maxHeartbeats 4000000 in
theorem ref09_Ramp_ok (p1 : Convoy) (p2 : Guest) (r : (Convoy × Int)) (h : ref09_Ramp p1 p2 = some r) : PCall Try.prog 46 [(.agg [(i64 p1.Tick), (i64 p1.Gap), (.list (List.map eMate p1.Mates)), (i64 p1.Guest_.ID), (i64 p1.Guest_.S), (i64 p1.Guest_.V), (i64 p1.Guest_.Len), (i64 p1.Guest_.End), (i64 p1.Guest_.Ahead), (i64 p1.Guest_.Guess_.R), (i64 p1.Guest_.Guess_.V), (i64 p1.Guest_.From), (i64 p1.Guest_.Until)]), (.agg [(i64 p2.ID), (i64 p2.S), (i64 p2.V), (i64 p2.Len), (i64 p2.End), (i64 p2.Ahead), (i64 p2.Guess_.R), (i64 p2.Guess_.V), (i64 p2.From), (i64 p2.Until)])] (.tup [(.agg [(i64 r.1.Tick), (i64 r.1.Gap), (.list (List.map eMate r.1.Mates)), (i64 r.1.Guest_.ID), (i64 r.1.Guest_.S), (i64 r.1.Guest_.V), (i64 r.1.Guest_.Len), (i64 r.1.Guest_.End), (i64 r.1.Guest_.Ahead), (i64 r.1.Guest_.Guess_.R), (i64 r.1.Guest_.Guess_.V), (i64 r.1.Guest_.From), (i64 r.1.Guest_.Until)]), (i64 r.2)]) := by
  refine l_call fn_ref09_Ramp (Nat.le_of_ble_eq_true rfl) ?_
  unfold ref09_Ramp at h
  unfold ac_ref09_Ramp
  refine (l_sub (s0 := ⟨T [(0, (.d (.agg [(i64 p1.Tick), (i64 p1.Gap), (.list (List.map eMate p1.Mates)), (i64 p1.Guest_.ID), (i64 p1.Guest_.S), (i64 p1.Guest_.V), (i64 p1.Guest_.Len), (i64 p1.Guest_.End), (i64 p1.Guest_.Ahead), (i64 p1.Guest_.Guess_.R), (i64 p1.Guest_.Guess_.V), (i64 p1.Guest_.From), (i64 p1.Guest_.Until)]))), (1, (.d (.agg [(i64 p2.ID), (i64 p2.S), (i64 p2.V), (i64 p2.Len), (i64 p2.End), (i64 p2.Ahead), (i64 p2.Guess_.R), (i64 p2.Guess_.V), (i64 p2.From), (i64 p2.Until)])))], G []⟩) (sb_of ⟨.of rfl, .of rfl, trivial⟩ trivial) ?_)
  refine l_seq ?_
  refine l_reg fun u1 hu1 => ?_
  refine s_new (.ptr _ _) (.box _ _) rfl rfl ?_
  refine s_new (.ptr _ _) (.box _ _) rfl rfl ?_
  refine s_new (.ptr _ _) (.box _ _) rfl rfl ?_
  refine s_val (.d _) rfl rfl ?_
  refine s_nil ?_
  refine l_seq ?_
  refine l_seq ?_
  refine l_reg fun u2 hu2 => ?_
  refine s_val (.d _) rfl (v_loadG rfl (G_skip rfl (G_skip rfl G_hit)) rfl rfl) ?_
  obtain ⟨v1, hv1, h⟩ := bind_some h
  refine s_call rfl rfl all2_refl (ref09_Check_ok _  _ hv1) (.inl rfl) ?_
  refine s_val (.d _) rfl rfl ?_
  refine s_nil ?_
  refine l_seq ?_
  refine l_reg fun u3 hu3 => ?_
  refine s_val (.d _) rfl rfl ?_
  refine s_val (.d _) rfl rfl ?_
  refine s_nil ?_
  refine l_cond (v1 != 0) rfl (fun c1 => ?_) (fun c1 => ?_)
  · replace h := cond_t c1 h
    refine l_seq ?_
    refine l_reg fun u4 hu4 => ?_
    refine s_val (.d _) rfl rfl ?_
    refine s_val (.d _) rfl rfl ?_
    refine s_store _ _ _ _ _ rfl rfl rfl G_hit (Nat.le_of_ble_eq_true rfl) [(.d (i64 0)), (.d (i64 0)), (.d .nilS), (.d (i64 0)), (.d (i64 0)), (.d (i64 0)), (.d (i64 0)), (.d (i64 0)), (.d (i64 0)), (.d (i64 0)), (.d (i64 0)), (.d (i64 0)), (.d (i64 0))] rfl ?_
    refine s_val (.d _) rfl rfl ?_
    refine s_nil ?_
    refine l_ret ?_
    obtain rfl := Option.some.inj h
    refine fin_ok (.inr rfl) (resD2 (res_cellG rfl G_hit (Nat.le_of_ble_eq_true rfl) rfl) (res_t rfl) rf_d rf_d) ?_
    exact .tup (.cons (.agg (.cons ⟨(.refl _), rfl⟩ (.cons ⟨(.refl _), rfl⟩ (.cons ⟨DLe.nil, rfl⟩ (.cons ⟨(.refl _), rfl⟩ (.cons ⟨(.refl _), rfl⟩ (.cons ⟨(.refl _), rfl⟩ (.cons ⟨(.refl _), rfl⟩ (.cons ⟨(.refl _), rfl⟩ (.cons ⟨(.refl _), rfl⟩ (.cons ⟨(.refl _), rfl⟩ (.cons ⟨(.refl _), rfl⟩ (.cons ⟨(.refl _), rfl⟩ (.cons ⟨(.refl _), rfl⟩ .nil)))))))))))))) (.cons (.refl _) .nil))
  · replace h := cond_f c1 h
    refine l_skip ?_
    refine l_seq ?_
    refine l_reg fun u5 hu5 => ?_
    refine s_val (.ptr _ _) rfl rfl ?_
    refine s_val (.ptr _ _) rfl rfl ?_
    refine s_val (.d _) rfl (v_load rfl (G_skip rfl (G_skip rfl G_hit)) rfl) ?_
    refine s_val (.d _) rfl rfl ?_
    refine s_val (.d _) rfl rfl ?_
    refine s_nil ?_
    refine l_seq ?_
    refine l_seq ?_
    refine l_reg fun u6 hu6 => ?_
    refine s_val (.d _) rfl rfl ?_
    refine s_nil ?_
    obtain ⟨y1, hy1, h⟩ := bind_some h
    refine l_join (fun s => ∃ g1 : Unit, Sb ⟨T [(2, (.ptr (2, u1) 0)), (3, (.ptr (3, u1) 0)), (4, (.ptr (4, u1) 0)), (7, (.d (bo y1)))], G [((2, u1), some (.box 38 [(.d (i64 p1.Tick)), (.d (i64 p1.Gap)), (.d (.list (List.map eMate p1.Mates))), (.d (i64 p1.Guest_.ID)), (.d (i64 p1.Guest_.S)), (.d (i64 p1.Guest_.V)), (.d (i64 p1.Guest_.Len)), (.d (i64 p1.Guest_.End)), (.d (i64 p1.Guest_.Ahead)), (.d (i64 p1.Guest_.Guess_.R)), (.d (i64 p1.Guest_.Guess_.V)), (.d (i64 p1.Guest_.From)), (.d (i64 p1.Guest_.Until))])), ((3, u1), some (.box 36 [(.d (i64 p2.ID)), (.d (i64 p2.S)), (.d (i64 p2.V)), (.d (i64 p2.Len)), (.d (i64 p2.End)), (.d (i64 p2.Ahead)), (.d (i64 p2.Guess_.R)), (.d (i64 p2.Guess_.V)), (.d (i64 p2.From)), (.d (i64 p2.Until))])), ((4, u1), some (.box 38 [(.d (i64 0)), (.d (i64 0)), (.d .nilS), (.d (i64 0)), (.d (i64 0)), (.d (i64 0)), (.d (i64 0)), (.d (i64 0)), (.d (i64 0)), (.d (i64 0)), (.d (i64 0)), (.d (i64 0)), (.d (i64 0))]))]⟩ s) ?_ ?_
    · skip
      refine l_block ?_
      refine l_loop (ref09_Ramp_l1 p1 p2) (fun (x1 : (Bool × Int)) (g2 : Unit) => ⟨T [(2, (.ptr (2, u1) 0)), (3, (.ptr (3, u1) 0)), (4, (.ptr (4, u1) 0)), (7, (.d (bo x1.1))), (8, (.d (i64 x1.2)))], G [((2, u1), some (.box 38 [(.d (i64 p1.Tick)), (.d (i64 p1.Gap)), (.d (.list (List.map eMate p1.Mates))), (.d (i64 p1.Guest_.ID)), (.d (i64 p1.Guest_.S)), (.d (i64 p1.Guest_.V)), (.d (i64 p1.Guest_.Len)), (.d (i64 p1.Guest_.End)), (.d (i64 p1.Guest_.Ahead)), (.d (i64 p1.Guest_.Guess_.R)), (.d (i64 p1.Guest_.Guess_.V)), (.d (i64 p1.Guest_.From)), (.d (i64 p1.Guest_.Until))])), ((3, u1), some (.box 36 [(.d (i64 p2.ID)), (.d (i64 p2.S)), (.d (i64 p2.V)), (.d (i64 p2.Len)), (.d (i64 p2.End)), (.d (i64 p2.Ahead)), (.d (i64 p2.Guess_.R)), (.d (i64 p2.Guess_.V)), (.d (i64 p2.From)), (.d (i64 p2.Until))])), ((4, u1), some (.box 38 [(.d (i64 0)), (.d (i64 0)), (.d .nilS), (.d (i64 0)), (.d (i64 0)), (.d (i64 0)), (.d (i64 0)), (.d (i64 0)), (.d (i64 0)), (.d (i64 0)), (.d (i64 0)), (.d (i64 0)), (.d (i64 0))]))]⟩) ((p1.Guest_.ID != 0), 0) () _ hy1 (sb_of ⟨.of rfl, .of rfl, .of rfl, .of rfl, .of rfl, trivial⟩ (sbG_some (G_skip rfl (G_skip rfl G_hit)) (.of rfl) (sbG_some (G_skip rfl G_hit) (.of rfl) (sbG_some G_hit (.of rfl) trivial)))) ?_
      intro x1 g2 z1 hz1 ez1
      unfold ref09_Ramp_l1 at hz1
      refine l_seq ?_
      refine l_seq ?_
      refine l_reg fun u7 hu7 => ?_
      refine s_val (.d _) rfl rfl ?_
      refine s_val (.ptr _ _) rfl rfl ?_
      refine s_val (.d _) rfl (v_load rfl G_hit rfl) ?_
      refine s_val (.d _) rfl (v_len rfl) ?_
      refine s_val (.d _) rfl rfl ?_
      refine s_nil ?_
      refine l_cond (decide (x1.2 < (p1.Mates.length : Int))) rfl (fun c2 => ?_) (fun c2 => ?_)
      · replace hz1 := cond_t c2 hz1
        refine l_skip ?_
        refine l_seq ?_
        refine l_block ?_
        refine l_draw rfl fun u8 hu8 => ?_
        refine s_val (.d _) rfl rfl ?_
        refine s_val (.d _) rfl rfl ?_
        refine g_val (!x1.1) (.ptr _ _) rfl (gw_f rfl) (fun w1 => rfl) ?_
        refine g_val (!x1.1) (.d _) rfl (gw_f rfl) (fun w2 => (v_load (gd_pos w2) G_hit rfl)) ?_
        refine g_val (!x1.1) (.d _) rfl (gw_f rfl) (fun w3 => rfl) ?_
        obtain ⟨v2, hv2, hz1⟩ := bind_some hz1
        refine g_val (!x1.1) (.d _) rfl (gw_f rfl) (fun w4 => (v_idx (gd_pos w4) (gd_pos w4) (cond_t w4 hv2) rfl)) ?_
        refine g_val (!x1.1) (.d _) rfl (gw_f rfl) (fun w5 => (by simp only [gd_pos w5]; rfl)) ?_
        refine g_val (!x1.1) (.d _) rfl (gw_f rfl) (fun w6 => (v_loadL (gd_pos w6) (cond_t w6 hv2) rfl)) ?_
        refine g_val (!x1.1) (.ptr _ _) rfl (gw_f rfl) (fun w7 => rfl) ?_
        refine g_val (!x1.1) (.d _) rfl (gw_f rfl) (fun w8 => (v_load (gd_pos w8) (G_skip rfl G_hit) rfl)) ?_
        refine g_val (!x1.1) (.d _) rfl (gw_f rfl) (fun w9 => (v_bin (gd_pos w9) (gd_pos w9) rfl)) ?_
        refine s_val (.d _) rfl (v_or rfl rfl (fun hc => gd_pos (not_t hc))) ?_
        refine s_val (.d _) rfl rfl ?_
        refine g_val (!(x1.1 || (v2.ID == p2.ID))) (.ptr _ _) rfl (gw_f rfl) (fun w10 => rfl) ?_
        refine g_val (!(x1.1 || (v2.ID == p2.ID))) (.d _) rfl (gw_f rfl) (fun w11 => (v_load (gd_pos w11) G_hit rfl)) ?_
        refine g_val (!(x1.1 || (v2.ID == p2.ID))) (.d _) rfl (gw_f rfl) (fun w12 => rfl) ?_
        obtain ⟨v3, hv3, hz1⟩ := bind_some hz1
        refine g_val (!(x1.1 || (v2.ID == p2.ID))) (.d _) rfl (gw_f rfl) (fun w13 => (v_idx (gd_pos w13) (gd_pos w13) (cond_t w13 hv3) rfl)) ?_
        refine g_val (!(x1.1 || (v2.ID == p2.ID))) (.d _) rfl (gw_f rfl) (fun w14 => (by simp only [gd_pos w14]; rfl)) ?_
        refine g_val (!(x1.1 || (v2.ID == p2.ID))) (.d _) rfl (gw_f rfl) (fun w15 => (v_loadL (gd_pos w15) (cond_t w15 hv3) rfl)) ?_
        refine g_val (!(x1.1 || (v2.ID == p2.ID))) (.ptr _ _) rfl (gw_f rfl) (fun w16 => rfl) ?_
        refine g_val (!(x1.1 || (v2.ID == p2.ID))) (.d _) rfl (gw_f rfl) (fun w17 => (v_load (gd_pos w17) (G_skip rfl G_hit) rfl)) ?_
        refine g_val (!(x1.1 || (v2.ID == p2.ID))) (.d _) rfl (gw_f rfl) (fun w18 => (v_bin (gd_pos w18) (gd_pos w18) rfl)) ?_
        refine g_val (!(x1.1 || (v2.ID == p2.ID))) (.d _) rfl (gw_f rfl) (fun w19 => (v_mv (gd_pos w19))) ?_
        refine g_val ((!(x1.1 || (v2.ID == p2.ID))) && (v3.Ward == p2.ID)) (.ptr _ _) rfl (gw_gt rfl) (fun w20 => rfl) ?_
        refine g_val ((!(x1.1 || (v2.ID == p2.ID))) && (v3.Ward == p2.ID)) (.d _) rfl (gw_gt rfl) (fun w21 => (v_load (gd_pos w21) (G_skip rfl G_hit) rfl)) ?_
        refine g_val ((!(x1.1 || (v2.ID == p2.ID))) && (v3.Ward == p2.ID)) (.d _) rfl (gw_gt rfl) (fun w22 => (v_bin (gd_pos w22) rfl rfl)) ?_
        refine g_val (!(x1.1 || (v2.ID == p2.ID))) (.d _) rfl (gw_f rfl) (fun w23 => (v_and (gd_pos w23) (fun hc => gd_pos (and_i w23 hc)) rfl)) ?_
        refine s_val (.d _) rfl (v_or rfl rfl (fun hc => gd_pos (not_t hc))) ?_
        refine s_val (.d _) rfl rfl ?_
        refine s_nil ?_
        refine l_end ?_
        refine l_sub (s0 := ⟨T [(2, (.ptr (2, u1) 0)), (3, (.ptr (3, u1) 0)), (4, (.ptr (4, u1) 0)), (7, (.d (bo ((x1.1 || (v2.ID == p2.ID)) || ((v3.Ward == p2.ID) && (p2.ID != 0)))))), (8, (.d (i64 x1.2))), (30, (gd (!x1.1) true (.ptr (2, u1) 2))), (31, (gd (!x1.1) true (.d (.list (List.map eMate p1.Mates))))), (32, (gd (!x1.1) true (.d (i64 x1.2)))), (33, (gd (!x1.1) true (.d (.lp (List.map eMate p1.Mates) (x1.2).toNat 0)))), (34, (gd (!x1.1) true (.d (.lp (List.map eMate p1.Mates) (x1.2).toNat 0)))), (35, (gd (!x1.1) true (.d (i64 v2.ID)))), (36, (gd (!x1.1) true (.ptr (3, u1) 0))), (37, (gd (!x1.1) true (.d (i64 p2.ID)))), (38, (gd (!x1.1) true (.d (bo (v2.ID == p2.ID))))), (41, (gd (!(x1.1 || (v2.ID == p2.ID))) true (.ptr (2, u1) 2))), (42, (gd (!(x1.1 || (v2.ID == p2.ID))) true (.d (.list (List.map eMate p1.Mates))))), (43, (gd (!(x1.1 || (v2.ID == p2.ID))) true (.d (i64 x1.2)))), (44, (gd (!(x1.1 || (v2.ID == p2.ID))) true (.d (.lp (List.map eMate p1.Mates) (x1.2).toNat 0)))), (45, (gd (!(x1.1 || (v2.ID == p2.ID))) true (.d (.lp (List.map eMate p1.Mates) (x1.2).toNat 8)))), (46, (gd (!(x1.1 || (v2.ID == p2.ID))) true (.d (i64 v3.Ward)))), (47, (gd (!(x1.1 || (v2.ID == p2.ID))) true (.ptr (3, u1) 0))), (48, (gd (!(x1.1 || (v2.ID == p2.ID))) true (.d (i64 p2.ID)))), (49, (gd (!(x1.1 || (v2.ID == p2.ID))) true (.d (bo (v3.Ward == p2.ID))))), (50, (gd (!(x1.1 || (v2.ID == p2.ID))) true (.d (bo (v3.Ward == p2.ID))))), (51, (gd ((!(x1.1 || (v2.ID == p2.ID))) && (v3.Ward == p2.ID)) true (.ptr (3, u1) 0))), (52, (gd ((!(x1.1 || (v2.ID == p2.ID))) && (v3.Ward == p2.ID)) true (.d (i64 p2.ID)))), (53, (gd ((!(x1.1 || (v2.ID == p2.ID))) && (v3.Ward == p2.ID)) true (.d (bo (p2.ID != 0))))), (54, (gd (!(x1.1 || (v2.ID == p2.ID))) true (.d (bo ((v3.Ward == p2.ID) && (p2.ID != 0))))))], G [((2, u1), some (.box 38 [(.d (i64 p1.Tick)), (.d (i64 p1.Gap)), (.d (.list (List.map eMate p1.Mates))), (.d (i64 p1.Guest_.ID)), (.d (i64 p1.Guest_.S)), (.d (i64 p1.Guest_.V)), (.d (i64 p1.Guest_.Len)), (.d (i64 p1.Guest_.End)), (.d (i64 p1.Guest_.Ahead)), (.d (i64 p1.Guest_.Guess_.R)), (.d (i64 p1.Guest_.Guess_.V)), (.d (i64 p1.Guest_.From)), (.d (i64 p1.Guest_.Until))])), ((3, u1), some (.box 36 [(.d (i64 p2.ID)), (.d (i64 p2.S)), (.d (i64 p2.V)), (.d (i64 p2.Len)), (.d (i64 p2.End)), (.d (i64 p2.Ahead)), (.d (i64 p2.Guess_.R)), (.d (i64 p2.Guess_.V)), (.d (i64 p2.From)), (.d (i64 p2.Until))])), ((4, u1), some (.box 38 [(.d (i64 0)), (.d (i64 0)), (.d .nilS), (.d (i64 0)), (.d (i64 0)), (.d (i64 0)), (.d (i64 0)), (.d (i64 0)), (.d (i64 0)), (.d (i64 0)), (.d (i64 0)), (.d (i64 0)), (.d (i64 0))]))]⟩) (sb_of ⟨.of rfl, .of rfl, .of rfl, .of rfl, .of rfl, .of rfl, .of rfl, .of rfl, .of rfl, .of rfl, .of rfl, .of rfl, .of rfl, .of rfl, .of rfl, .of rfl, .of rfl, .of rfl, .of rfl, .of rfl, .of rfl, .of rfl, .of rfl, .of rfl, .of rfl, .of rfl, .of rfl, .of rfl, trivial⟩ (sbG_some G_hit (.of rfl) (sbG_some (G_skip rfl G_hit) (.of rfl) (sbG_some (G_skip rfl (G_skip rfl G_hit)) (.of rfl) trivial)))) ?_
        refine l_reg fun u9 hu9 => ?_
        refine s_val (.d _) rfl rfl ?_
        refine s_val (.d _) rfl rfl ?_
        refine s_val (.d _) rfl rfl ?_
        refine s_nil ?_
        refine l_nil ?_
        obtain rfl := Option.some.inj hz1
        exact ⟨rfl, (), (sb_of ⟨.of rfl, .of rfl, .of rfl, .of rfl, .of rfl, trivial⟩ (sbG_some G_hit (.of rfl) (sbG_some (G_skip rfl G_hit) (.of rfl) (sbG_some (G_skip rfl (G_skip rfl G_hit)) (.of rfl) trivial))))⟩
      · replace hz1 := cond_f c2 hz1
        refine l_exitN rfl ?_
        obtain rfl := Option.some.inj hz1
        obtain rfl := ez1 _ rfl
        refine ⟨nofun, awl_pop rfl (l_j ?_)⟩
        exact ⟨(), (sb_of ⟨.of rfl, .of rfl, .of rfl, .of rfl, trivial⟩ (sbG_some G_hit (.of rfl) (sbG_some (G_skip rfl G_hit) (.of rfl) (sbG_some (G_skip rfl (G_skip rfl G_hit)) (.of rfl) trivial))))⟩
    · rintro _ ⟨g1, q1⟩
      refine l_sub q1 ?_
      refine l_seq ?_
      refine l_seq ?_
      refine l_reg fun u10 hu10 => ?_
      refine s_val (.d _) rfl rfl ?_
      refine s_nil ?_
      refine l_cond y1 rfl (fun c3 => ?_) (fun c3 => ?_)
      · replace h := cond_t c3 h
        refine l_seq ?_
        refine l_reg fun u11 hu11 => ?_
        refine s_val (.d _) rfl rfl ?_
        refine s_store _ _ _ _ _ rfl rfl rfl (G_skip rfl (G_skip rfl G_hit)) (Nat.le_of_ble_eq_true rfl) [(.d (i64 0)), (.d (i64 0)), (.d .nilS), (.d (i64 0)), (.d (i64 0)), (.d (i64 0)), (.d (i64 0)), (.d (i64 0)), (.d (i64 0)), (.d (i64 0)), (.d (i64 0)), (.d (i64 0)), (.d (i64 0))] rfl ?_
        refine s_val (.d _) rfl rfl ?_
        refine s_nil ?_
        refine l_ret ?_
        obtain rfl := Option.some.inj h
        refine fin_ok (.inr rfl) (resD2 (res_cellG rfl G_hit (Nat.le_of_ble_eq_true rfl) rfl) (res_t rfl) rf_d rf_d) ?_
        exact .tup (.cons (.agg (.cons ⟨(.refl _), rfl⟩ (.cons ⟨(.refl _), rfl⟩ (.cons ⟨DLe.nil, rfl⟩ (.cons ⟨(.refl _), rfl⟩ (.cons ⟨(.refl _), rfl⟩ (.cons ⟨(.refl _), rfl⟩ (.cons ⟨(.refl _), rfl⟩ (.cons ⟨(.refl _), rfl⟩ (.cons ⟨(.refl _), rfl⟩ (.cons ⟨(.refl _), rfl⟩ (.cons ⟨(.refl _), rfl⟩ (.cons ⟨(.refl _), rfl⟩ (.cons ⟨(.refl _), rfl⟩ .nil)))))))))))))) (.cons (.refl _) .nil))
      · replace h := cond_f c3 h
        refine l_skip ?_
        refine l_seq ?_
        refine l_seq ?_
        refine l_reg fun u12 hu12 => ?_
        refine s_val (.ptr _ _) rfl rfl ?_
        refine s_val (.d _) rfl (v_load rfl (G_skip rfl G_hit) rfl) ?_
        refine s_val (.d _) rfl rfl ?_
        refine s_nil ?_
        refine l_cond (p2.ID == 0) rfl (fun c4 => ?_) (fun c4 => ?_)
        · replace h := cond_t c4 h
          refine l_seq ?_
          refine l_reg fun u13 hu13 => ?_
          refine s_val (.d _) rfl rfl ?_
          refine s_store _ _ _ _ _ rfl rfl rfl (G_skip rfl (G_skip rfl G_hit)) (Nat.le_of_ble_eq_true rfl) [(.d (i64 0)), (.d (i64 0)), (.d .nilS), (.d (i64 0)), (.d (i64 0)), (.d (i64 0)), (.d (i64 0)), (.d (i64 0)), (.d (i64 0)), (.d (i64 0)), (.d (i64 0)), (.d (i64 0)), (.d (i64 0))] rfl ?_
          refine s_val (.d _) rfl rfl ?_
          refine s_nil ?_
          refine l_ret ?_
          obtain rfl := Option.some.inj h
          refine fin_ok (.inr rfl) (resD2 (res_cellG rfl G_hit (Nat.le_of_ble_eq_true rfl) rfl) (res_t rfl) rf_d rf_d) ?_
          exact .tup (.cons (.agg (.cons ⟨(.refl _), rfl⟩ (.cons ⟨(.refl _), rfl⟩ (.cons ⟨DLe.nil, rfl⟩ (.cons ⟨(.refl _), rfl⟩ (.cons ⟨(.refl _), rfl⟩ (.cons ⟨(.refl _), rfl⟩ (.cons ⟨(.refl _), rfl⟩ (.cons ⟨(.refl _), rfl⟩ (.cons ⟨(.refl _), rfl⟩ (.cons ⟨(.refl _), rfl⟩ (.cons ⟨(.refl _), rfl⟩ (.cons ⟨(.refl _), rfl⟩ (.cons ⟨(.refl _), rfl⟩ .nil)))))))))))))) (.cons (.refl _) .nil))
        · replace h := cond_f c4 h
          refine l_skip ?_
          refine l_seq ?_
          refine l_reg fun u14 hu14 => ?_
          refine s_val (.d _) rfl (v_loadG rfl G_hit rfl rfl) ?_
          obtain ⟨v4, hv4, h⟩ := bind_some h
          refine s_call rfl rfl all2_refl (ref09_Copy_ok _  _ hv4) (.inl rfl) ?_
          refine s_new (.ptr _ _) (.box _ _) rfl rfl ?_
          refine s_store _ _ _ _ _ rfl rfl rfl G_hit (Nat.le_of_ble_eq_true rfl) [(.d (i64 v4.Tick)), (.d (i64 v4.Gap)), (.d (.list (List.map eMate v4.Mates))), (.d (i64 v4.Guest_.ID)), (.d (i64 v4.Guest_.S)), (.d (i64 v4.Guest_.V)), (.d (i64 v4.Guest_.Len)), (.d (i64 v4.Guest_.End)), (.d (i64 v4.Guest_.Ahead)), (.d (i64 v4.Guest_.Guess_.R)), (.d (i64 v4.Guest_.Guess_.V)), (.d (i64 v4.Guest_.From)), (.d (i64 v4.Guest_.Until))] rfl ?_
          refine s_nil ?_
          refine l_seq ?_
          refine l_reg fun u15 hu15 => ?_
          refine s_val (.ptr _ _) rfl rfl ?_
          refine s_val (.d _) rfl (v_load rfl (G_skip rfl (G_skip rfl (G_skip rfl G_hit))) rfl) ?_
          refine s_val (.ptr _ _) rfl rfl ?_
          refine s_val (.d _) rfl (v_load rfl (G_skip rfl (G_skip rfl (G_skip rfl G_hit))) rfl) ?_
          refine s_val (.ptr _ _) rfl rfl ?_
          refine s_val (.d _) rfl (v_load rfl (G_skip rfl (G_skip rfl (G_skip rfl G_hit))) rfl) ?_
          refine s_val (.ptr _ _) rfl rfl ?_
          refine s_val (.d _) rfl (v_load rfl (G_skip rfl (G_skip rfl (G_skip rfl G_hit))) rfl) ?_
          refine s_val (.ptr _ _) rfl rfl ?_
          refine s_val (.d _) rfl (v_load rfl (G_skip rfl (G_skip rfl (G_skip rfl G_hit))) rfl) ?_
          refine s_val (.d _) rfl rfl ?_
          refine s_val (.ptr _ _) rfl rfl ?_
          refine s_store _ _ _ _ _ rfl rfl rfl G_hit (Nat.le_of_ble_eq_true rfl) [(.d (i64 v4.Tick)), (.d (i64 v4.Gap)), (.d (.list (List.map eMate v4.Mates))), (.d (i64 p2.ID)), (.d (i64 p2.S)), (.d (i64 p2.V)), (.d (i64 p2.Len)), (.d (i64 p2.End)), (.d (i64 0)), (.d (i64 0)), (.d (i64 0)), (.d (i64 0)), (.d (i64 0))] rfl ?_
          refine s_nil ?_
          refine l_seq ?_
          refine l_seq ?_
          refine l_sub (s0 := ⟨T [(4, (.ptr (4, u1) 0)), (9, (.ptr (9, u14) 0))], G [((4, u1), some (.box 38 [(.d (i64 0)), (.d (i64 0)), (.d .nilS), (.d (i64 0)), (.d (i64 0)), (.d (i64 0)), (.d (i64 0)), (.d (i64 0)), (.d (i64 0)), (.d (i64 0)), (.d (i64 0)), (.d (i64 0)), (.d (i64 0))])), ((9, u14), some (.box 38 [(.d (i64 v4.Tick)), (.d (i64 v4.Gap)), (.d (.list (List.map eMate v4.Mates))), (.d (i64 p2.ID)), (.d (i64 p2.S)), (.d (i64 p2.V)), (.d (i64 p2.Len)), (.d (i64 p2.End)), (.d (i64 0)), (.d (i64 0)), (.d (i64 0)), (.d (i64 0)), (.d (i64 0))]))]⟩) (sb_of ⟨.of rfl, .of rfl, trivial⟩ (sbG_some (G_skip rfl (G_skip rfl (G_skip rfl (G_skip rfl (G_skip rfl G_hit))))) (.of rfl) (sbG_some G_hit (.of rfl) trivial))) ?_
          refine l_reg fun u16 hu16 => ?_
          refine s_val (.d _) rfl (v_loadG rfl (G_skip rfl G_hit) rfl rfl) ?_
          obtain ⟨v5, hv5, h⟩ := bind_some h
          refine s_call rfl rfl all2_refl (ref09_Check_ok _  _ hv5) (.inl rfl) ?_
          refine s_val (.d _) rfl rfl ?_
          refine s_nil ?_
          refine l_seq ?_
          refine l_reg fun u17 hu17 => ?_
          refine s_val (.d _) rfl rfl ?_
          refine s_val (.d _) rfl rfl ?_
          refine s_nil ?_
          refine l_cond (v5 != 0) rfl (fun c5 => ?_) (fun c5 => ?_)
          · replace h := cond_t c5 h
            refine l_seq ?_
            refine l_reg fun u18 hu18 => ?_
            refine s_val (.d _) rfl rfl ?_
            refine s_val (.d _) rfl rfl ?_
            refine s_store _ _ _ _ _ rfl rfl rfl G_hit (Nat.le_of_ble_eq_true rfl) [(.d (i64 0)), (.d (i64 0)), (.d .nilS), (.d (i64 0)), (.d (i64 0)), (.d (i64 0)), (.d (i64 0)), (.d (i64 0)), (.d (i64 0)), (.d (i64 0)), (.d (i64 0)), (.d (i64 0)), (.d (i64 0))] rfl ?_
            refine s_val (.d _) rfl rfl ?_
            refine s_nil ?_
            refine l_ret ?_
            obtain rfl := Option.some.inj h
            refine fin_ok (.inr rfl) (resD2 (res_cellG rfl G_hit (Nat.le_of_ble_eq_true rfl) rfl) (res_t rfl) rf_d rf_d) ?_
            exact .tup (.cons (.agg (.cons ⟨(.refl _), rfl⟩ (.cons ⟨(.refl _), rfl⟩ (.cons ⟨DLe.nil, rfl⟩ (.cons ⟨(.refl _), rfl⟩ (.cons ⟨(.refl _), rfl⟩ (.cons ⟨(.refl _), rfl⟩ (.cons ⟨(.refl _), rfl⟩ (.cons ⟨(.refl _), rfl⟩ (.cons ⟨(.refl _), rfl⟩ (.cons ⟨(.refl _), rfl⟩ (.cons ⟨(.refl _), rfl⟩ (.cons ⟨(.refl _), rfl⟩ (.cons ⟨(.refl _), rfl⟩ .nil)))))))))))))) (.cons (.refl _) .nil))
          · replace h := cond_f c5 h
            refine l_skip ?_
            refine l_seq ?_
            refine l_reg fun u19 hu19 => ?_
            refine s_val (.d _) rfl (v_loadG rfl (G_skip rfl G_hit) rfl rfl) ?_
            refine s_store _ _ _ _ _ rfl rfl rfl G_hit (Nat.le_of_ble_eq_true rfl) [(.d (i64 v4.Tick)), (.d (i64 v4.Gap)), (.d (.list (List.map eMate v4.Mates))), (.d (i64 p2.ID)), (.d (i64 p2.S)), (.d (i64 p2.V)), (.d (i64 p2.Len)), (.d (i64 p2.End)), (.d (i64 0)), (.d (i64 0)), (.d (i64 0)), (.d (i64 0)), (.d (i64 0))] rfl ?_
            refine s_val (.d _) rfl rfl ?_
            refine s_nil ?_
            refine l_ret ?_
            obtain rfl := Option.some.inj h
            refine fin_ok (.inr rfl) (resD2 (res_cellG rfl G_hit (Nat.le_of_ble_eq_true rfl) rfl) (res_t rfl) rf_d rf_d) ?_
            exact .refl _

noncomputable def kit_Convoy_o (p1 : KitRing) (p2 : Bool) : Option (Convoy × KitRing) :=
  (kit_Ring_Next_o p1 3000).bind fun v1 => (kit_Mates_o v1.2 (w64 (1 + v1.1)) 5).bind fun v2 => (ref09_New (w64 (1 + v1.1)) v2.1).bind fun v3 => cond (v3.2 != 0) (some ((Convoy.mk 0 0 [] (Guest.mk 0 0 0 0 0 0 (Guess.mk 0 0) 0 0)), v2.2)) (cond (!p2) (some (v3.1, v2.2)) ((kit_Ring_Next_o v2.2 (v3.1.Mates.length : Int)).bind fun v4 => (geti v3.1.Mates v4.1).bind fun v5 => (kit_Ring_Next_o v4.2 20).bind fun v6 => (kit_Ring_Next_o v6.2 20000).bind fun v7 => (kit_Ring_Next_o v7.2 2001).bind fun v8 => (kit_Ring_Next_o v8.2 6000).bind fun v9 => (kit_Ring_Next_o v9.2 60000).bind fun v10 => (ref09_Ramp v3.1 (Guest.mk (w64 (70 + v6.1)) (w64 ((w64 ((w64 (v5.S - v5.Len)) - v7.1)) + 8000)) v8.1 (w64 (300 + v9.1)) (w64 ((w64 ((w64 ((w64 ((w64 (v5.S - v5.Len)) - v7.1)) + 8000)) + 22000)) + v10.1)) 0 (Guess.mk 0 0) 0 0)).bind fun v11 => cond (v11.2 != 0) (some (v3.1, v10.2)) (some (v11.1, v10.2))))

/-- kerbstone/kerbstonekit.Convoy -/
def ac_kit_Convoy_o : AC :=
  (.seq (.reg [⟨(some 4), .alloc 38 [(.v (.int .i64 0)), (.v (.int .i64 0)), .nilS, (.v (.int .i64 0)), (.v (.int .i64 0)), (.v (.int .i64 0)), (.v (.int .i64 0)), (.v (.int .i64 0)), (.v (.int .i64 0)), (.v (.int .i64 0)), (.v (.int .i64 0)), (.v (.int .i64 0)), (.v (.int .i64 0))], none⟩])
  (.seq (.reg [⟨(some 11), .mv (.t 0), none⟩, ⟨(some 12), .ocall 10010010 (.c (.fn (.func 49) [] [])) [(.t 11), (.c (.v (.int .i64 3000)))], none⟩, ⟨(some 13), .bin .add (.c (.v (.int .i64 1))) (.t 12), none⟩, ⟨(some 5), .mv (.t 13), none⟩])
  (.seq (.reg [⟨(some 15), .mv (.t 5), none⟩, ⟨(some 16), .mv (.t 0), none⟩, ⟨(some 17), .mv (.t 5), none⟩, ⟨(some 18), .ocall 10020030 (.c (.fn (.func 72) [] [])) [(.t 16), (.t 17), (.c (.v (.int .i64 5)))], none⟩, ⟨(some 19), .call (.c (.fn (.func 44) [] [])) [(.t 15), (.t 18)], none⟩, ⟨(some 14), .mv (.t 19), none⟩, ⟨(some 20), .ext (.t 14) 0, none⟩, ⟨(some 21), .ext (.t 14) 1, none⟩, ⟨(some 6), .alloc 38 [(.v (.int .i64 0)), (.v (.int .i64 0)), .nilS, (.v (.int .i64 0)), (.v (.int .i64 0)), (.v (.int .i64 0)), (.v (.int .i64 0)), (.v (.int .i64 0)), (.v (.int .i64 0)), (.v (.int .i64 0)), (.v (.int .i64 0)), (.v (.int .i64 0)), (.v (.int .i64 0))], none⟩, ⟨none, .store 13 (.t 6) (.t 20), none⟩, ⟨(some 7), .mv (.t 21), none⟩])
  (.seq (.seq (.reg [⟨(some 22), .mv (.t 7), none⟩, ⟨(some 23), .bin .neq (.t 22) (.c (.v (.int .i64 0))), none⟩])
  (.cond (.t 23)
    (.seq (.reg [⟨(some 24), .build [(.v (.int .i64 0)), (.v (.int .i64 0)), .nilS, (.v (.int .i64 0)), (.v (.int .i64 0)), (.v (.int .i64 0)), (.v (.int .i64 0)), (.v (.int .i64 0)), (.v (.int .i64 0)), (.v (.int .i64 0)), (.v (.int .i64 0)), (.v (.int .i64 0)), (.v (.int .i64 0))] [], none⟩, ⟨none, .store 13 (.t 4) (.t 24), none⟩])
    .ret)
    .skip))
  (.seq (.seq (.reg [⟨(some 25), .mv (.t 1), none⟩, ⟨(some 26), .un .not (.t 25), none⟩])
  (.cond (.t 26)
    (.seq (.reg [⟨(some 27), .load 13 true (.t 6), none⟩, ⟨none, .store 13 (.t 4) (.t 27), none⟩])
    .ret)
    .skip))
  (.seq (.draw [⟨(some 28), .fieldA 2 (.t 6), none⟩, ⟨(some 29), .load 1 false (.t 28), none⟩, ⟨(some 30), .mv (.t 0), none⟩, ⟨(some 31), .fieldA 2 (.t 6), none⟩, ⟨(some 32), .load 1 false (.t 31), none⟩, ⟨(some 33), .len (.t 32), none⟩, ⟨(some 34), .ocall 10070060 (.c (.fn (.func 49) [] [])) [(.t 30), (.t 33)], none⟩, ⟨(some 35), .idxS 12 (.t 29) (.t 34), none⟩, ⟨(some 36), .load 12 true (.t 35), none⟩, ⟨(some 8), .alloc 65 [(.v (.int .i64 0)), (.v (.int .i64 0)), (.v (.int .i64 0)), (.v (.int .i64 0)), (.v (.int .i64 0)), (.v (.int .i64 0)), (.v (.int .i64 0)), (.v (.bool false)), (.v (.int .i64 0)), (.v (.int .i64 0)), (.v (.int .i64 0)), (.v (.int .i64 0))], none⟩, ⟨none, .store 12 (.t 8) (.t 36), none⟩] [(1, 6), (6, 9)])
  (.seq (.draw [⟨(some 37), .mv (.t 0), none⟩, ⟨(some 38), .ocall 10080010 (.c (.fn (.func 49) [] [])) [(.t 37), (.c (.v (.int .i64 20)))], none⟩, ⟨(some 39), .bin .add (.c (.v (.int .i64 70))) (.t 38), none⟩, ⟨(some 40), .fieldA 1 (.t 8), none⟩, ⟨(some 41), .load 1 false (.t 40), none⟩, ⟨(some 42), .fieldA 3 (.t 8), none⟩, ⟨(some 43), .load 1 false (.t 42), none⟩, ⟨(some 44), .bin .sub (.t 41) (.t 43), none⟩, ⟨(some 45), .mv (.t 0), none⟩, ⟨(some 46), .ocall 10080090 (.c (.fn (.func 49) [] [])) [(.t 45), (.c (.v (.int .i64 20000)))], none⟩, ⟨(some 47), .bin .sub (.t 44) (.t 46), none⟩, ⟨(some 48), .bin .add (.t 47) (.c (.v (.int .i64 8000))), none⟩, ⟨(some 49), .mv (.t 0), none⟩, ⟨(some 50), .ocall 10080130 (.c (.fn (.func 49) [] [])) [(.t 49), (.c (.v (.int .i64 2001)))], none⟩, ⟨(some 51), .mv (.t 0), none⟩, ⟨(some 52), .ocall 10080150 (.c (.fn (.func 49) [] [])) [(.t 51), (.c (.v (.int .i64 6000)))], none⟩, ⟨(some 53), .bin .add (.c (.v (.int .i64 300))) (.t 52), none⟩, ⟨(some 54), .build [(.v (.int .i64 0)), (.v (.int .i64 0)), (.v (.int .i64 0)), (.v (.int .i64 0)), (.v (.int .i64 0)), (.v (.int .i64 0)), (.v (.int .i64 0)), (.v (.int .i64 0)), (.v (.int .i64 0)), (.v (.int .i64 0))] [(0, 1, (.t 39)), (1, 1, (.t 48)), (2, 1, (.t 50)), (3, 1, (.t 53))], none⟩, ⟨(some 9), .alloc 36 [(.v (.int .i64 0)), (.v (.int .i64 0)), (.v (.int .i64 0)), (.v (.int .i64 0)), (.v (.int .i64 0)), (.v (.int .i64 0)), (.v (.int .i64 0)), (.v (.int .i64 0)), (.v (.int .i64 0)), (.v (.int .i64 0))], none⟩, ⟨none, .store 10 (.t 9) (.t 54), none⟩] [(1, 4), (1, 6), (4, 9), (6, 9), (4, 13), (6, 13), (4, 15), (6, 15), (1, 18), (9, 18), (13, 18), (15, 18)])
  (.seq (.draw [⟨(some 55), .fieldA 1 (.t 9), none⟩, ⟨(some 56), .load 1 false (.t 55), none⟩, ⟨(some 57), .bin .add (.t 56) (.c (.v (.int .i64 22000))), none⟩, ⟨(some 58), .mv (.t 0), none⟩, ⟨(some 59), .ocall 10090040 (.c (.fn (.func 49) [] [])) [(.t 58), (.c (.v (.int .i64 60000)))], none⟩, ⟨(some 60), .bin .add (.t 57) (.t 59), none⟩, ⟨(some 61), .fieldA 4 (.t 9), none⟩, ⟨none, .store 1 (.t 61) (.t 60), none⟩] [(1, 4)])
  (.seq (.reg [⟨(some 63), .load 13 true (.t 6), none⟩, ⟨(some 64), .load 10 true (.t 9), none⟩, ⟨(some 65), .call (.c (.fn (.func 46) [] [])) [(.t 63), (.t 64)], none⟩, ⟨(some 62), .mv (.t 65), none⟩, ⟨(some 66), .ext (.t 62) 0, none⟩, ⟨(some 67), .ext (.t 62) 1, none⟩, ⟨(some 10), .alloc 38 [(.v (.int .i64 0)), (.v (.int .i64 0)), .nilS, (.v (.int .i64 0)), (.v (.int .i64 0)), (.v (.int .i64 0)), (.v (.int .i64 0)), (.v (.int .i64 0)), (.v (.int .i64 0)), (.v (.int .i64 0)), (.v (.int .i64 0)), (.v (.int .i64 0)), (.v (.int .i64 0))], none⟩, ⟨none, .store 13 (.t 10) (.t 66), none⟩, ⟨(some 7), .mv (.t 67), none⟩])
  (.seq (.seq (.reg [⟨(some 68), .mv (.t 7), none⟩, ⟨(some 69), .bin .neq (.t 68) (.c (.v (.int .i64 0))), none⟩])
  (.cond (.t 69)
    (.seq (.reg [⟨(some 70), .load 13 true (.t 6), none⟩, ⟨none, .store 13 (.t 4) (.t 70), none⟩])
    .ret)
    .skip))
  (.seq (.reg [⟨(some 71), .load 13 true (.t 10), none⟩, ⟨none, .store 13 (.t 4) (.t 71), none⟩])
  .ret)))))))))))
theorem fn_kit_Convoy_o : FnOK Try.prog 29 72 [.cell 4 13 true] ac_kit_Convoy_o := ⟨_, _, Try.func29, rfl, Try.ntmps29, by kernel_rfl, ⟨fun r => if r == 1 then [1001001] else if r == 2 then [1002003] else if r == 7 then [1007006] else if r == 8 then [1008001, 1008009, 1008013, 1008015] else if r == 9 then [1009004] else [], by kernel_rfl⟩, by kernel_rfl⟩
set_option maxHeartbeats 4000000 in
theorem kit_Convoy_o_ok (p1 : KitRing) (p2 : Bool) (r : (Convoy × KitRing)) (h : kit_Convoy_o p1 p2 = some r) : MCall Try.prog 29 [(.ptr (900000, 0) 0), (.d (bo p2))] [(.box 94 [(.d (.list (List.map eInt_i64 p1.l))), (.d (i64 p1.at_))])] (.d (.agg [(i64 r.1.Tick), (i64 r.1.Gap), (.list (List.map eMate r.1.Mates)), (i64 r.1.Guest_.ID), (i64 r.1.Guest_.S), (i64 r.1.Guest_.V), (i64 r.1.Guest_.Len), (i64 r.1.Guest_.End), (i64 r.1.Guest_.Ahead), (i64 r.1.Guest_.Guess_.R), (i64 r.1.Guest_.Guess_.V), (i64 r.1.Guest_.From), (i64 r.1.Guest_.Until)])) [some (.box 94 [(.d (.list (List.map eInt_i64 r.2.l))), (.d (i64 r.2.at_))])] [] := by
  refine m_callF fn_kit_Convoy_o rfl (Nat.le_of_ble_eq_true rfl) ?_
  unfold kit_Convoy_o at h
  unfold ac_kit_Convoy_o
  refine (l_sub (s0 := ⟨T [(0, (.ptr (900000, 0) 0)), (1, (.d (bo p2)))], G [((900000, 0), some (.box 94 [(.d (.list (List.map eInt_i64 p1.l))), (.d (i64 p1.at_))]))]⟩) (sb_of ⟨.of rfl, .of rfl, trivial⟩ (sbG_some G_hit (.of rfl) trivial)) ?_)
  refine l_seq ?_
  refine l_reg fun u1 hu1 => ?_
  refine s_new (.ptr _ _) (.box _ _) rfl rfl ?_
  refine s_nil ?_
  refine l_seq ?_
  refine l_reg fun u2 hu2 => ?_
  refine s_val (.ptr _ _) rfl rfl ?_
  obtain ⟨v1, hv1, h⟩ := bind_some h
  refine s_oc (v := .d (i64 v1.1)) (us := [(900000, 0)]) (oc_m (kit_Ring_Next_o_ok _ _ _ hv1) [(900000, 0)] [(900000, 0)] _ (((900000, 0), some (.box 94 [(.d (.list (List.map eInt_i64 v1.2.l))), (.d (i64 v1.2.at_))])) :: _) rfl all2_av (kl_cons (kr_ptr (G_skip rfl G_hit) rfl) (kl_cons kr_d kl_nil)) (live_cons (G_skip rfl G_hit) live_nil) ⟨⟨_, (G_skip rfl G_hit), .of rfl⟩, trivial⟩ (fun _ h => h) nd1 rfl rfl rfl) ?_
  refine s_val (.d _) rfl rfl ?_
  refine s_val (.d _) rfl rfl ?_
  refine s_nil ?_
  refine l_seq ?_
  refine l_reg fun u3 hu3 => ?_
  refine s_val (.d _) rfl rfl ?_
  refine s_val (.ptr _ _) rfl rfl ?_
  refine s_val (.d _) rfl rfl ?_
  obtain ⟨v2, hv2, h⟩ := bind_some h
  refine s_oc (v := .d (.list (List.map eMate v2.1))) (us := [(900000, 0)]) (oc_m (kit_Mates_o_ok _ _ _ _ hv2) [(900000, 0)] [(900000, 0)] _ (((900000, 0), some (.box 94 [(.d (.list (List.map eInt_i64 v2.2.l))), (.d (i64 v2.2.at_))])) :: _) rfl all2_av (kl_cons (kr_ptr G_hit rfl) (kl_cons kr_d (kl_cons kr_d kl_nil))) (live_cons G_hit live_nil) ⟨⟨_, G_hit, .of rfl⟩, trivial⟩ (fun _ h => h) nd1 rfl rfl rfl) ?_
  obtain ⟨v3, hv3, h⟩ := bind_some h
  refine s_call rfl rfl all2_refl (ref09_New_ok _ _  _ hv3) (.inl rfl) ?_
  refine s_val (.d _) rfl rfl ?_
  refine s_val (.d _) rfl rfl ?_
  refine s_val (.d _) rfl rfl ?_
  refine s_new (.ptr _ _) (.box _ _) rfl rfl ?_
  refine s_store _ _ _ _ _ rfl rfl rfl G_hit (Nat.le_of_ble_eq_true rfl) [(.d (i64 v3.1.Tick)), (.d (i64 v3.1.Gap)), (.d (.list (List.map eMate v3.1.Mates))), (.d (i64 v3.1.Guest_.ID)), (.d (i64 v3.1.Guest_.S)), (.d (i64 v3.1.Guest_.V)), (.d (i64 v3.1.Guest_.Len)), (.d (i64 v3.1.Guest_.End)), (.d (i64 v3.1.Guest_.Ahead)), (.d (i64 v3.1.Guest_.Guess_.R)), (.d (i64 v3.1.Guest_.Guess_.V)), (.d (i64 v3.1.Guest_.From)), (.d (i64 v3.1.Guest_.Until))] rfl ?_
  refine s_val (.d _) rfl rfl ?_
  refine s_nil ?_
  refine l_seq ?_
  refine l_seq ?_
  refine l_sub (s0 := ⟨T [(0, (.ptr (900000, 0) 0)), (1, (.d (bo p2))), (4, (.ptr (4, u1) 0)), (6, (.ptr (6, u3) 0)), (7, (.d (i64 v3.2)))], G [((900000, 0), some (.box 94 [(.d (.list (List.map eInt_i64 v2.2.l))), (.d (i64 v2.2.at_))])), ((4, u1), some (.box 38 [(.d (i64 0)), (.d (i64 0)), (.d .nilS), (.d (i64 0)), (.d (i64 0)), (.d (i64 0)), (.d (i64 0)), (.d (i64 0)), (.d (i64 0)), (.d (i64 0)), (.d (i64 0)), (.d (i64 0)), (.d (i64 0))])), ((6, u3), some (.box 38 [(.d (i64 v3.1.Tick)), (.d (i64 v3.1.Gap)), (.d (.list (List.map eMate v3.1.Mates))), (.d (i64 v3.1.Guest_.ID)), (.d (i64 v3.1.Guest_.S)), (.d (i64 v3.1.Guest_.V)), (.d (i64 v3.1.Guest_.Len)), (.d (i64 v3.1.Guest_.End)), (.d (i64 v3.1.Guest_.Ahead)), (.d (i64 v3.1.Guest_.Guess_.R)), (.d (i64 v3.1.Guest_.Guess_.V)), (.d (i64 v3.1.Guest_.From)), (.d (i64 v3.1.Guest_.Until))]))]⟩) (sb_of ⟨.of rfl, .of rfl, .of rfl, .of rfl, .of rfl, trivial⟩ (sbG_some (G_skip rfl (G_skip rfl G_hit)) (.of rfl) (sbG_some (G_skip rfl (G_skip rfl (G_skip rfl (G_skip rfl G_hit)))) (.of rfl) (sbG_some G_hit (.of rfl) trivial)))) ?_
  refine l_reg fun u4 hu4 => ?_
  refine s_val (.d _) rfl rfl ?_
  refine s_val (.d _) rfl rfl ?_
  refine s_nil ?_
  refine l_cond (v3.2 != 0) rfl (fun c1 => ?_) (fun c1 => ?_)
  · replace h := cond_t c1 h
    refine l_seq ?_
    refine l_reg fun u5 hu5 => ?_
    refine s_val (.d _) rfl rfl ?_
    refine s_store _ _ _ _ _ rfl rfl rfl (G_skip rfl G_hit) (Nat.le_of_ble_eq_true rfl) [(.d (i64 0)), (.d (i64 0)), (.d .nilS), (.d (i64 0)), (.d (i64 0)), (.d (i64 0)), (.d (i64 0)), (.d (i64 0)), (.d (i64 0)), (.d (i64 0)), (.d (i64 0)), (.d (i64 0)), (.d (i64 0))] rfl ?_
    refine s_nil ?_
    refine l_ret ?_
    obtain rfl := Option.some.inj h
    exact fin_mf (.inr rfl) [] (resDF1 (res_cellG rfl G_hit (Nat.le_of_ble_eq_true rfl) rfl) rf_d) (.agg (.cons ⟨(.refl _), rfl⟩ (.cons ⟨(.refl _), rfl⟩ (.cons ⟨DLe.nil, rfl⟩ (.cons ⟨(.refl _), rfl⟩ (.cons ⟨(.refl _), rfl⟩ (.cons ⟨(.refl _), rfl⟩ (.cons ⟨(.refl _), rfl⟩ (.cons ⟨(.refl _), rfl⟩ (.cons ⟨(.refl _), rfl⟩ (.cons ⟨(.refl _), rfl⟩ (.cons ⟨(.refl _), rfl⟩ (.cons ⟨(.refl _), rfl⟩ (.cons ⟨(.refl _), rfl⟩ .nil)))))))))))))) ⟨⟨_, _, _, (G_skip rfl G_hit), old_notin_nil, rfl, all2_d, rfl⟩, trivial⟩
  · replace h := cond_f c1 h
    refine l_skip ?_
    refine l_seq ?_
    refine l_seq ?_
    refine l_reg fun u6 hu6 => ?_
    refine s_val (.d _) rfl rfl ?_
    refine s_val (.d _) rfl rfl ?_
    refine s_nil ?_
    refine l_cond (!p2) rfl (fun c2 => ?_) (fun c2 => ?_)
    · replace h := cond_t c2 h
      refine l_seq ?_
      refine l_reg fun u7 hu7 => ?_
      refine s_val (.d _) rfl (v_loadG rfl (G_skip rfl (G_skip rfl G_hit)) rfl rfl) ?_
      refine s_store _ _ _ _ _ rfl rfl rfl (G_skip rfl G_hit) (Nat.le_of_ble_eq_true rfl) [(.d (i64 v3.1.Tick)), (.d (i64 v3.1.Gap)), (.d (.list (List.map eMate v3.1.Mates))), (.d (i64 v3.1.Guest_.ID)), (.d (i64 v3.1.Guest_.S)), (.d (i64 v3.1.Guest_.V)), (.d (i64 v3.1.Guest_.Len)), (.d (i64 v3.1.Guest_.End)), (.d (i64 v3.1.Guest_.Ahead)), (.d (i64 v3.1.Guest_.Guess_.R)), (.d (i64 v3.1.Guest_.Guess_.V)), (.d (i64 v3.1.Guest_.From)), (.d (i64 v3.1.Guest_.Until))] rfl ?_
      refine s_nil ?_
      refine l_ret ?_
      obtain rfl := Option.some.inj h
      exact fin_mf (.inr rfl) [] (resDF1 (res_cellG rfl G_hit (Nat.le_of_ble_eq_true rfl) rfl) rf_d) (.refl _) ⟨⟨_, _, _, (G_skip rfl G_hit), old_notin_nil, rfl, all2_d, rfl⟩, trivial⟩
    · replace h := cond_f c2 h
      refine l_skip ?_
      refine l_seq ?_
      refine l_drawT fun u8 hu8 => ?_
      refine t_val (.ptr _ _) rfl rfl ?_
      refine t_val (.d _) rfl (v_load rfl (G_skip rfl (G_skip rfl G_hit)) rfl) ?_
      refine t_val (.ptr _ _) rfl rfl ?_
      refine t_val (.ptr _ _) rfl rfl ?_
      refine t_val (.d _) rfl (v_load rfl (G_skip rfl (G_skip rfl G_hit)) rfl) ?_
      refine t_val (.d _) rfl (v_len rfl) ?_
      obtain ⟨v4, hv4, h⟩ := bind_some h
      refine t_oc (v := .d (i64 v4.1)) (us := [(900000, 0)]) (oc_m (kit_Ring_Next_o_ok _ _ _ hv4) [(900000, 0)] [(900000, 0)] _ (((900000, 0), some (.box 94 [(.d (.list (List.map eInt_i64 v4.2.l))), (.d (i64 v4.2.at_))])) :: _) rfl all2_av (kl_cons (kr_ptr G_hit rfl) (kl_cons kr_d kl_nil)) (live_cons G_hit live_nil) ⟨⟨_, G_hit, .of rfl⟩, trivial⟩ (fun _ h => h) nd1 rfl rfl rfl) ?_
      obtain ⟨v5, hv5, h⟩ := bind_some h
      refine t_val (.d _) rfl (v_idx rfl rfl hv5 rfl) ?_
      refine t_val (.d _) rfl (v_loadLG rfl hv5 rfl rfl) ?_
      refine t_new (.ptr _ _) (.box _ _) rfl rfl ?_
      refine t_store _ _ _ _ _ rfl rfl rfl G_hit (Nat.le_of_ble_eq_true rfl) [(.d (i64 v5.ID)), (.d (i64 v5.S)), (.d (i64 v5.V)), (.d (i64 v5.Len)), (.d (i64 v5.Ahead)), (.d (i64 v5.Guess_.R)), (.d (i64 v5.Guess_.V)), (.d (bo v5.Trust)), (.d (i64 v5.Ward)), (.d (i64 v5.WardGuess.R)), (.d (i64 v5.WardGuess.V)), (.d (i64 v5.Until))] rfl ?_
      refine t_nil ⟨rfl, ?_⟩
      refine l_seq ?_
      refine l_sub (s0 := ⟨T [(0, (.ptr (900000, 0) 0)), (4, (.ptr (4, u1) 0)), (6, (.ptr (6, u3) 0)), (8, (.ptr (8, u8) 0))], G [((900000, 0), some (.box 94 [(.d (.list (List.map eInt_i64 v4.2.l))), (.d (i64 v4.2.at_))])), ((4, u1), some (.box 38 [(.d (i64 0)), (.d (i64 0)), (.d .nilS), (.d (i64 0)), (.d (i64 0)), (.d (i64 0)), (.d (i64 0)), (.d (i64 0)), (.d (i64 0)), (.d (i64 0)), (.d (i64 0)), (.d (i64 0)), (.d (i64 0))])), ((6, u3), some (.box 38 [(.d (i64 v3.1.Tick)), (.d (i64 v3.1.Gap)), (.d (.list (List.map eMate v3.1.Mates))), (.d (i64 v3.1.Guest_.ID)), (.d (i64 v3.1.Guest_.S)), (.d (i64 v3.1.Guest_.V)), (.d (i64 v3.1.Guest_.Len)), (.d (i64 v3.1.Guest_.End)), (.d (i64 v3.1.Guest_.Ahead)), (.d (i64 v3.1.Guest_.Guess_.R)), (.d (i64 v3.1.Guest_.Guess_.V)), (.d (i64 v3.1.Guest_.From)), (.d (i64 v3.1.Guest_.Until))])), ((8, u8), some (.box 65 [(.d (i64 v5.ID)), (.d (i64 v5.S)), (.d (i64 v5.V)), (.d (i64 v5.Len)), (.d (i64 v5.Ahead)), (.d (i64 v5.Guess_.R)), (.d (i64 v5.Guess_.V)), (.d (bo v5.Trust)), (.d (i64 v5.Ward)), (.d (i64 v5.WardGuess.R)), (.d (i64 v5.WardGuess.V)), (.d (i64 v5.Until))]))]⟩) (sb_of ⟨.of rfl, .of rfl, .of rfl, .of rfl, trivial⟩ (sbG_some (G_skip rfl (G_skip rfl G_hit)) (.of rfl) (sbG_some (G_skip rfl (G_skip rfl (G_skip rfl (G_skip rfl G_hit)))) (.of rfl) (sbG_some (G_skip rfl (G_skip rfl (G_skip rfl (G_skip rfl (G_skip rfl G_hit))))) (.of rfl) (sbG_some G_hit (.of rfl) trivial))))) ?_
      refine l_drawT fun u9 hu9 => ?_
      refine t_val (.ptr _ _) rfl rfl ?_
      obtain ⟨v6, hv6, h⟩ := bind_some h
      refine t_oc (v := .d (i64 v6.1)) (us := [(900000, 0)]) (oc_m (kit_Ring_Next_o_ok _ _ _ hv6) [(900000, 0)] [(900000, 0)] _ (((900000, 0), some (.box 94 [(.d (.list (List.map eInt_i64 v6.2.l))), (.d (i64 v6.2.at_))])) :: _) rfl all2_av (kl_cons (kr_ptr G_hit rfl) (kl_cons kr_d kl_nil)) (live_cons G_hit live_nil) ⟨⟨_, G_hit, .of rfl⟩, trivial⟩ (fun _ h => h) nd1 rfl rfl rfl) ?_
      refine t_val (.d _) rfl rfl ?_
      refine t_val (.ptr _ _) rfl rfl ?_
      refine t_val (.d _) rfl (v_load rfl (G_skip rfl (G_skip rfl (G_skip rfl (G_skip rfl G_hit)))) rfl) ?_
      refine t_val (.ptr _ _) rfl rfl ?_
      refine t_val (.d _) rfl (v_load rfl (G_skip rfl (G_skip rfl (G_skip rfl (G_skip rfl G_hit)))) rfl) ?_
      refine t_val (.d _) rfl rfl ?_
      refine t_val (.ptr _ _) rfl rfl ?_
      obtain ⟨v7, hv7, h⟩ := bind_some h
      refine t_oc (v := .d (i64 v7.1)) (us := [(900000, 0)]) (oc_m (kit_Ring_Next_o_ok _ _ _ hv7) [(900000, 0)] [(900000, 0)] _ (((900000, 0), some (.box 94 [(.d (.list (List.map eInt_i64 v7.2.l))), (.d (i64 v7.2.at_))])) :: _) rfl all2_av (kl_cons (kr_ptr G_hit rfl) (kl_cons kr_d kl_nil)) (live_cons G_hit live_nil) ⟨⟨_, G_hit, .of rfl⟩, trivial⟩ (fun _ h => h) nd1 rfl rfl rfl) ?_
      refine t_val (.d _) rfl rfl ?_
      refine t_val (.d _) rfl rfl ?_
      refine t_val (.ptr _ _) rfl rfl ?_
      obtain ⟨v8, hv8, h⟩ := bind_some h
      refine t_oc (v := .d (i64 v8.1)) (us := [(900000, 0)]) (oc_m (kit_Ring_Next_o_ok _ _ _ hv8) [(900000, 0)] [(900000, 0)] _ (((900000, 0), some (.box 94 [(.d (.list (List.map eInt_i64 v8.2.l))), (.d (i64 v8.2.at_))])) :: _) rfl all2_av (kl_cons (kr_ptr G_hit rfl) (kl_cons kr_d kl_nil)) (live_cons G_hit live_nil) ⟨⟨_, G_hit, .of rfl⟩, trivial⟩ (fun _ h => h) nd1 rfl rfl rfl) ?_
      refine t_val (.ptr _ _) rfl rfl ?_
      obtain ⟨v9, hv9, h⟩ := bind_some h
      refine t_oc (v := .d (i64 v9.1)) (us := [(900000, 0)]) (oc_m (kit_Ring_Next_o_ok _ _ _ hv9) [(900000, 0)] [(900000, 0)] _ (((900000, 0), some (.box 94 [(.d (.list (List.map eInt_i64 v9.2.l))), (.d (i64 v9.2.at_))])) :: _) rfl all2_av (kl_cons (kr_ptr G_hit rfl) (kl_cons kr_d kl_nil)) (live_cons G_hit live_nil) ⟨⟨_, G_hit, .of rfl⟩, trivial⟩ (fun _ h => h) nd1 rfl rfl rfl) ?_
      refine t_val (.d _) rfl rfl ?_
      refine t_val (.d _) rfl rfl ?_
      refine t_new (.ptr _ _) (.box _ _) rfl rfl ?_
      refine t_store _ _ _ _ _ rfl rfl rfl G_hit (Nat.le_of_ble_eq_true rfl) [(.d (i64 (w64 (70 + v6.1)))), (.d (i64 (w64 ((w64 ((w64 (v5.S - v5.Len)) - v7.1)) + 8000)))), (.d (i64 v8.1)), (.d (i64 (w64 (300 + v9.1)))), (.d (i64 0)), (.d (i64 0)), (.d (i64 0)), (.d (i64 0)), (.d (i64 0)), (.d (i64 0))] rfl ?_
      refine t_nil ⟨rfl, ?_⟩
      refine l_seq ?_
      refine l_sub (s0 := ⟨T [(0, (.ptr (900000, 0) 0)), (4, (.ptr (4, u1) 0)), (6, (.ptr (6, u3) 0)), (9, (.ptr (9, u9) 0))], G [((900000, 0), some (.box 94 [(.d (.list (List.map eInt_i64 v9.2.l))), (.d (i64 v9.2.at_))])), ((4, u1), some (.box 38 [(.d (i64 0)), (.d (i64 0)), (.d .nilS), (.d (i64 0)), (.d (i64 0)), (.d (i64 0)), (.d (i64 0)), (.d (i64 0)), (.d (i64 0)), (.d (i64 0)), (.d (i64 0)), (.d (i64 0)), (.d (i64 0))])), ((6, u3), some (.box 38 [(.d (i64 v3.1.Tick)), (.d (i64 v3.1.Gap)), (.d (.list (List.map eMate v3.1.Mates))), (.d (i64 v3.1.Guest_.ID)), (.d (i64 v3.1.Guest_.S)), (.d (i64 v3.1.Guest_.V)), (.d (i64 v3.1.Guest_.Len)), (.d (i64 v3.1.Guest_.End)), (.d (i64 v3.1.Guest_.Ahead)), (.d (i64 v3.1.Guest_.Guess_.R)), (.d (i64 v3.1.Guest_.Guess_.V)), (.d (i64 v3.1.Guest_.From)), (.d (i64 v3.1.Guest_.Until))])), ((9, u9), some (.box 36 [(.d (i64 (w64 (70 + v6.1)))), (.d (i64 (w64 ((w64 ((w64 (v5.S - v5.Len)) - v7.1)) + 8000)))), (.d (i64 v8.1)), (.d (i64 (w64 (300 + v9.1)))), (.d (i64 0)), (.d (i64 0)), (.d (i64 0)), (.d (i64 0)), (.d (i64 0)), (.d (i64 0))]))]⟩) (sb_of ⟨.of rfl, .of rfl, .of rfl, .of rfl, trivial⟩ (sbG_some (G_skip rfl (G_skip rfl G_hit)) (.of rfl) (sbG_some (G_skip rfl (G_skip rfl (G_skip rfl (G_skip rfl (G_skip rfl (G_skip rfl (G_skip rfl G_hit))))))) (.of rfl) (sbG_some (G_skip rfl (G_skip rfl (G_skip rfl (G_skip rfl (G_skip rfl (G_skip rfl (G_skip rfl (G_skip rfl G_hit)))))))) (.of rfl) (sbG_some G_hit (.of rfl) trivial))))) ?_
      refine l_drawT fun u10 hu10 => ?_
      refine t_val (.ptr _ _) rfl rfl ?_
      refine t_val (.d _) rfl (v_load rfl (G_skip rfl (G_skip rfl (G_skip rfl G_hit))) rfl) ?_
      refine t_val (.d _) rfl rfl ?_
      refine t_val (.ptr _ _) rfl rfl ?_
      obtain ⟨v10, hv10, h⟩ := bind_some h
      refine t_oc (v := .d (i64 v10.1)) (us := [(900000, 0)]) (oc_m (kit_Ring_Next_o_ok _ _ _ hv10) [(900000, 0)] [(900000, 0)] _ (((900000, 0), some (.box 94 [(.d (.list (List.map eInt_i64 v10.2.l))), (.d (i64 v10.2.at_))])) :: _) rfl all2_av (kl_cons (kr_ptr G_hit rfl) (kl_cons kr_d kl_nil)) (live_cons G_hit live_nil) ⟨⟨_, G_hit, .of rfl⟩, trivial⟩ (fun _ h => h) nd1 rfl rfl rfl) ?_
      refine t_val (.d _) rfl rfl ?_
      refine t_val (.ptr _ _) rfl rfl ?_
      refine t_store _ _ _ _ _ rfl rfl rfl (G_skip rfl (G_skip rfl (G_skip rfl (G_skip rfl G_hit)))) (Nat.le_of_ble_eq_true rfl) [(.d (i64 (w64 (70 + v6.1)))), (.d (i64 (w64 ((w64 ((w64 (v5.S - v5.Len)) - v7.1)) + 8000)))), (.d (i64 v8.1)), (.d (i64 (w64 (300 + v9.1)))), (.d (i64 (w64 ((w64 ((w64 ((w64 ((w64 (v5.S - v5.Len)) - v7.1)) + 8000)) + 22000)) + v10.1)))), (.d (i64 0)), (.d (i64 0)), (.d (i64 0)), (.d (i64 0)), (.d (i64 0))] rfl ?_
      refine t_nil ⟨rfl, ?_⟩
      refine l_seq ?_
      refine l_reg fun u11 hu11 => ?_
      refine s_val (.d _) rfl (v_loadG rfl (G_skip rfl (G_skip rfl (G_skip rfl (G_skip rfl G_hit)))) rfl rfl) ?_
      refine s_val (.d _) rfl (v_loadG rfl G_hit rfl rfl) ?_
      obtain ⟨v11, hv11, h⟩ := bind_some h
      refine s_call rfl rfl all2_refl (ref09_Ramp_ok _ _  _ hv11) (.inl rfl) ?_
      refine s_val (.d _) rfl rfl ?_
      refine s_val (.d _) rfl rfl ?_
      refine s_val (.d _) rfl rfl ?_
      refine s_new (.ptr _ _) (.box _ _) rfl rfl ?_
      refine s_store _ _ _ _ _ rfl rfl rfl G_hit (Nat.le_of_ble_eq_true rfl) [(.d (i64 v11.1.Tick)), (.d (i64 v11.1.Gap)), (.d (.list (List.map eMate v11.1.Mates))), (.d (i64 v11.1.Guest_.ID)), (.d (i64 v11.1.Guest_.S)), (.d (i64 v11.1.Guest_.V)), (.d (i64 v11.1.Guest_.Len)), (.d (i64 v11.1.Guest_.End)), (.d (i64 v11.1.Guest_.Ahead)), (.d (i64 v11.1.Guest_.Guess_.R)), (.d (i64 v11.1.Guest_.Guess_.V)), (.d (i64 v11.1.Guest_.From)), (.d (i64 v11.1.Guest_.Until))] rfl ?_
      refine s_val (.d _) rfl rfl ?_
      refine s_nil ?_
      refine l_seq ?_
      refine l_seq ?_
      refine l_sub (s0 := ⟨T [(0, (.ptr (900000, 0) 0)), (4, (.ptr (4, u1) 0)), (6, (.ptr (6, u3) 0)), (7, (.d (i64 v11.2))), (10, (.ptr (10, u11) 0))], G [((900000, 0), some (.box 94 [(.d (.list (List.map eInt_i64 v10.2.l))), (.d (i64 v10.2.at_))])), ((4, u1), some (.box 38 [(.d (i64 0)), (.d (i64 0)), (.d .nilS), (.d (i64 0)), (.d (i64 0)), (.d (i64 0)), (.d (i64 0)), (.d (i64 0)), (.d (i64 0)), (.d (i64 0)), (.d (i64 0)), (.d (i64 0)), (.d (i64 0))])), ((6, u3), some (.box 38 [(.d (i64 v3.1.Tick)), (.d (i64 v3.1.Gap)), (.d (.list (List.map eMate v3.1.Mates))), (.d (i64 v3.1.Guest_.ID)), (.d (i64 v3.1.Guest_.S)), (.d (i64 v3.1.Guest_.V)), (.d (i64 v3.1.Guest_.Len)), (.d (i64 v3.1.Guest_.End)), (.d (i64 v3.1.Guest_.Ahead)), (.d (i64 v3.1.Guest_.Guess_.R)), (.d (i64 v3.1.Guest_.Guess_.V)), (.d (i64 v3.1.Guest_.From)), (.d (i64 v3.1.Guest_.Until))])), ((10, u11), some (.box 38 [(.d (i64 v11.1.Tick)), (.d (i64 v11.1.Gap)), (.d (.list (List.map eMate v11.1.Mates))), (.d (i64 v11.1.Guest_.ID)), (.d (i64 v11.1.Guest_.S)), (.d (i64 v11.1.Guest_.V)), (.d (i64 v11.1.Guest_.Len)), (.d (i64 v11.1.Guest_.End)), (.d (i64 v11.1.Guest_.Ahead)), (.d (i64 v11.1.Guest_.Guess_.R)), (.d (i64 v11.1.Guest_.Guess_.V)), (.d (i64 v11.1.Guest_.From)), (.d (i64 v11.1.Guest_.Until))]))]⟩) (sb_of ⟨.of rfl, .of rfl, .of rfl, .of rfl, .of rfl, trivial⟩ (sbG_some (G_skip rfl (G_skip rfl (G_skip rfl G_hit))) (.of rfl) (sbG_some (G_skip rfl (G_skip rfl (G_skip rfl (G_skip rfl (G_skip rfl G_hit))))) (.of rfl) (sbG_some (G_skip rfl (G_skip rfl (G_skip rfl (G_skip rfl (G_skip rfl (G_skip rfl G_hit)))))) (.of rfl) (sbG_some G_hit (.of rfl) trivial))))) ?_
      refine l_reg fun u12 hu12 => ?_
      refine s_val (.d _) rfl rfl ?_
      refine s_val (.d _) rfl rfl ?_
      refine s_nil ?_
      refine l_cond (v11.2 != 0) rfl (fun c3 => ?_) (fun c3 => ?_)
      · replace h := cond_t c3 h
        refine l_seq ?_
        refine l_reg fun u13 hu13 => ?_
        refine s_val (.d _) rfl (v_loadG rfl (G_skip rfl (G_skip rfl G_hit)) rfl rfl) ?_
        refine s_store _ _ _ _ _ rfl rfl rfl (G_skip rfl G_hit) (Nat.le_of_ble_eq_true rfl) [(.d (i64 v3.1.Tick)), (.d (i64 v3.1.Gap)), (.d (.list (List.map eMate v3.1.Mates))), (.d (i64 v3.1.Guest_.ID)), (.d (i64 v3.1.Guest_.S)), (.d (i64 v3.1.Guest_.V)), (.d (i64 v3.1.Guest_.Len)), (.d (i64 v3.1.Guest_.End)), (.d (i64 v3.1.Guest_.Ahead)), (.d (i64 v3.1.Guest_.Guess_.R)), (.d (i64 v3.1.Guest_.Guess_.V)), (.d (i64 v3.1.Guest_.From)), (.d (i64 v3.1.Guest_.Until))] rfl ?_
        refine s_nil ?_
        refine l_ret ?_
        obtain rfl := Option.some.inj h
        exact fin_mf (.inr rfl) [] (resDF1 (res_cellG rfl G_hit (Nat.le_of_ble_eq_true rfl) rfl) rf_d) (.refl _) ⟨⟨_, _, _, (G_skip rfl G_hit), old_notin_nil, rfl, all2_d, rfl⟩, trivial⟩
      · replace h := cond_f c3 h
        refine l_skip ?_
        refine l_seq ?_
        refine l_reg fun u14 hu14 => ?_
        refine s_val (.d _) rfl (v_loadG rfl (G_skip rfl (G_skip rfl (G_skip rfl G_hit))) rfl rfl) ?_
        refine s_store _ _ _ _ _ rfl rfl rfl (G_skip rfl G_hit) (Nat.le_of_ble_eq_true rfl) [(.d (i64 v11.1.Tick)), (.d (i64 v11.1.Gap)), (.d (.list (List.map eMate v11.1.Mates))), (.d (i64 v11.1.Guest_.ID)), (.d (i64 v11.1.Guest_.S)), (.d (i64 v11.1.Guest_.V)), (.d (i64 v11.1.Guest_.Len)), (.d (i64 v11.1.Guest_.End)), (.d (i64 v11.1.Guest_.Ahead)), (.d (i64 v11.1.Guest_.Guess_.R)), (.d (i64 v11.1.Guest_.Guess_.V)), (.d (i64 v11.1.Guest_.From)), (.d (i64 v11.1.Guest_.Until))] rfl ?_
        refine s_nil ?_
        refine l_ret ?_
        obtain rfl := Option.some.inj h
        exact fin_mf (.inr rfl) [] (resDF1 (res_cellG rfl G_hit (Nat.le_of_ble_eq_true rfl) rfl) rf_d) (.refl _) ⟨⟨_, _, _, (G_skip rfl G_hit), old_notin_nil, rfl, all2_d, rfl⟩, trivial⟩

noncomputable def law09_ConvoyLooks_l1 (p3 : (List Int)) (v5 : (Convoy × KitRing)) (x1 : (Int × Sight × Sight)) : Option (Stp (Int × Sight × Sight) (Sum Unit Bool)) :=
  cond (decide (x1.1 < 91)) ((convoy_Look v5.1 x1.1 p3).bind fun v6 => (ref09_Look v5.1 x1.1 p3).bind fun v7 => cond ((!(v6.1.By == v7.1.By && (v6.1.Lo == v7.1.Lo && (v6.1.Hi == v7.1.Hi && (v6.1.VLo == v7.1.VLo && (v6.1.VHi == v7.1.VHi && true)))))) || (v6.2 != v7.2)) (some (.out (.inr false))) (some (.go ((w64 (x1.1 + 1)), v6.1, v7.1)))) (some (.out (.inl ())))
noncomputable def law09_ConvoyLooks (p1 : Convoy) (p2 : Int) (p3 : (List Int)) (p4 : (List Int)) : Option Bool :=
  cond ((decide ((p1.Mates.length : Int) > 12)) || (decide ((p3.length : Int) > 10))) ((law09_awake).bind fun v1 => some v1) ((convoy_Look p1 p2 p3).bind fun v2 => (ref09_Look p1 p2 p3).bind fun v3 => cond ((!(v2.1.By == v3.1.By && (v2.1.Lo == v3.1.Lo && (v2.1.Hi == v3.1.Hi && (v2.1.VLo == v3.1.VLo && (v2.1.VHi == v3.1.VHi && true)))))) || (v2.2 != v3.2)) (some false) ((kit_NewRing_m p4).bind fun v4 => (kit_Convoy_o v4 true).bind fun v5 => thenS (loop (law09_ConvoyLooks_l1 p3 v5) (0, v2.1, v3.1)) (fun _ => (law09_awake).bind fun v8 => some v8) (fun r => some r)))

/-- kerbstone/kerbstonelaw09.ConvoyLooks -/
def ac_law09_ConvoyLooks : AC :=
  (.seq (.reg [⟨(some 4), .box 38 true (.t 0), none⟩, ⟨(some 8), .mv (.c (.v (.bool false))), none⟩])
  (.seq (.seq (.reg [⟨(some 15), .fieldA 2 (.t 4), none⟩, ⟨(some 16), .load 1 false (.t 15), none⟩, ⟨(some 17), .len (.t 16), none⟩, ⟨(some 18), .bin .gtr (.t 17) (.c (.v (.int .i64 12))), none⟩, ⟨(some 19), .mv (.t 18), none⟩, ⟨(some 20), .mv (.t 2), (some (19, false))⟩, ⟨(some 21), .len (.t 20), (some (19, false))⟩, ⟨(some 22), .bin .gtr (.t 21) (.c (.v (.int .i64 10))), (some (19, false))⟩, ⟨(some 23), .pick (.t 19) (.c (.v (.bool true))) (.t 22), none⟩])
  (.cond (.t 23)
    (.seq (.reg [⟨(some 24), .call (.c (.fn (.func 23) [] [])) [], none⟩, ⟨(some 8), .mv (.t 24), none⟩])
    .ret)
    .skip))
  (.seq (.reg [⟨(some 26), .load 13 true (.t 4), none⟩, ⟨(some 27), .mv (.t 1), none⟩, ⟨(some 28), .mv (.t 2), none⟩, ⟨(some 29), .call (.c (.fn (.func 27) [] [])) [(.t 26), (.t 27), (.t 28)], none⟩, ⟨(some 25), .mv (.t 29), none⟩, ⟨(some 30), .ext (.t 25) 0, none⟩, ⟨(some 31), .ext (.t 25) 1, none⟩, ⟨(some 9), .alloc 42 [(.v (.int .i64 0)), (.v (.int .i64 0)), (.v (.int .i64 0)), (.v (.int .i64 0)), (.v (.int .i64 0))], none⟩, ⟨none, .store 5 (.t 9) (.t 30), none⟩, ⟨(some 10), .mv (.t 31), none⟩])
  (.seq (.reg [⟨(some 33), .load 13 true (.t 4), none⟩, ⟨(some 34), .mv (.t 1), none⟩, ⟨(some 35), .mv (.t 2), none⟩, ⟨(some 36), .call (.c (.fn (.func 28) [] [])) [(.t 33), (.t 34), (.t 35)], none⟩, ⟨(some 32), .mv (.t 36), none⟩, ⟨(some 37), .ext (.t 32) 0, none⟩, ⟨(some 38), .ext (.t 32) 1, none⟩, ⟨(some 11), .alloc 42 [(.v (.int .i64 0)), (.v (.int .i64 0)), (.v (.int .i64 0)), (.v (.int .i64 0)), (.v (.int .i64 0))], none⟩, ⟨none, .store 5 (.t 11) (.t 37), none⟩, ⟨(some 12), .mv (.t 38), none⟩])
  (.seq (.seq (.reg [⟨(some 39), .load 5 true (.t 9), none⟩, ⟨(some 40), .load 5 true (.t 11), none⟩, ⟨(some 41), .eqA true [false, false, false, false, false] (.t 39) (.t 40), none⟩, ⟨(some 42), .mv (.t 41), none⟩, ⟨(some 43), .mv (.t 10), (some (42, false))⟩, ⟨(some 44), .mv (.t 12), (some (42, false))⟩, ⟨(some 45), .bin .neq (.t 43) (.t 44), (some (42, false))⟩, ⟨(some 46), .pick (.t 42) (.c (.v (.bool true))) (.t 45), none⟩])
  (.cond (.t 46)
    (.seq (.reg [⟨(some 8), .mv (.c (.v (.bool false))), none⟩])
    .ret)
    .skip))
  (.seq (.reg [⟨(some 47), .mv (.t 3), none⟩, ⟨(some 48), .ocall 10070010 (.c (.fn (.func 30) [] [])) [(.t 47)], none⟩, ⟨(some 49), .ocall 10070020 (.c (.fn (.func 29) [] [])) [(.t 48), (.c (.v (.bool true)))], none⟩, ⟨(some 13), .alloc 38 [(.v (.int .i64 0)), (.v (.int .i64 0)), .nilS, (.v (.int .i64 0)), (.v (.int .i64 0)), (.v (.int .i64 0)), (.v (.int .i64 0)), (.v (.int .i64 0)), (.v (.int .i64 0)), (.v (.int .i64 0)), (.v (.int .i64 0)), (.v (.int .i64 0)), (.v (.int .i64 0))], none⟩, ⟨none, .store 13 (.t 13) (.t 49), none⟩])
  (.seq (.seq (.reg [⟨(some 14), .mv (.c (.v (.int .i64 0))), none⟩])
  (.block 0
    (.loop
      (.seq (.seq (.reg [⟨(some 50), .mv (.t 14), none⟩, ⟨(some 51), .bin .lss (.t 50) (.c (.v (.int .i64 91))), none⟩])
      (.cond (.t 51)
        .skip
        (.exit 0)))
      (.seq (.block 1
        (.seq (.reg [⟨(some 55), .load 13 true (.t 13), none⟩, ⟨(some 56), .mv (.t 14), none⟩, ⟨(some 57), .mv (.t 2), none⟩, ⟨(some 58), .call (.c (.fn (.func 27) [] [])) [(.t 55), (.t 56), (.t 57)], none⟩, ⟨(some 54), .mv (.t 58), none⟩, ⟨(some 59), .ext (.t 54) 0, none⟩, ⟨(some 60), .ext (.t 54) 1, none⟩, ⟨none, .store 5 (.t 9) (.t 59), none⟩, ⟨(some 10), .mv (.t 60), none⟩])
        (.seq (.reg [⟨(some 62), .load 13 true (.t 13), none⟩, ⟨(some 63), .mv (.t 14), none⟩, ⟨(some 64), .mv (.t 2), none⟩, ⟨(some 65), .call (.c (.fn (.func 28) [] [])) [(.t 62), (.t 63), (.t 64)], none⟩, ⟨(some 61), .mv (.t 65), none⟩, ⟨(some 66), .ext (.t 61) 0, none⟩, ⟨(some 67), .ext (.t 61) 1, none⟩, ⟨none, .store 5 (.t 11) (.t 66), none⟩, ⟨(some 12), .mv (.t 67), none⟩])
        (.seq (.reg [⟨(some 68), .load 5 true (.t 9), none⟩, ⟨(some 69), .load 5 true (.t 11), none⟩, ⟨(some 70), .eqA true [false, false, false, false, false] (.t 68) (.t 69), none⟩, ⟨(some 71), .mv (.t 70), none⟩, ⟨(some 72), .mv (.t 10), (some (71, false))⟩, ⟨(some 73), .mv (.t 12), (some (71, false))⟩, ⟨(some 74), .bin .neq (.t 72) (.t 73), (some (71, false))⟩, ⟨(some 75), .pick (.t 71) (.c (.v (.bool true))) (.t 74), none⟩])
        (.cond (.t 75)
          (.seq (.reg [⟨(some 8), .mv (.c (.v (.bool false))), none⟩])
          .ret)
          .skip)))))
      (.reg [⟨(some 52), .mv (.t 14), none⟩, ⟨(some 53), .bin .add (.t 52) (.c (.v (.int .i64 1))), none⟩, ⟨(some 14), .mv (.t 53), none⟩]))))))
  (.seq (.reg [⟨(some 76), .call (.c (.fn (.func 23) [] [])) [], none⟩, ⟨(some 8), .mv (.t 76), none⟩])
  .ret))))))))
theorem fn_law09_ConvoyLooks : FnOK Try.prog 5 77 [.t 8] ac_law09_ConvoyLooks := ⟨_, _, Try.func5, rfl, Try.ntmps5, by kernel_rfl, ⟨fun r => if r == 7 then [1007001, 1007002] else [], by kernel_rfl⟩, by kernel_rfl⟩
set_option maxHeartbeats 4000000 in
theorem law09_ConvoyLooks_ok (p1 : Convoy) (p2 : Int) (p3 : (List Int)) (p4 : (List Int)) (r : Bool) (h : law09_ConvoyLooks p1 p2 p3 p4 = some r) : PCall Try.prog 5 [(.agg [(i64 p1.Tick), (i64 p1.Gap), (.list (List.map eMate p1.Mates)), (i64 p1.Guest_.ID), (i64 p1.Guest_.S), (i64 p1.Guest_.V), (i64 p1.Guest_.Len), (i64 p1.Guest_.End), (i64 p1.Guest_.Ahead), (i64 p1.Guest_.Guess_.R), (i64 p1.Guest_.Guess_.V), (i64 p1.Guest_.From), (i64 p1.Guest_.Until)]), (i64 p2), (.list (List.map eInt_i64 p3)), (.list (List.map eInt_i64 p4))] (bo r) := by
  refine l_call fn_law09_ConvoyLooks (Nat.le_of_ble_eq_true rfl) ?_
  unfold law09_ConvoyLooks at h
  unfold ac_law09_ConvoyLooks
  refine (l_sub (s0 := ⟨T [(0, (.d (.agg [(i64 p1.Tick), (i64 p1.Gap), (.list (List.map eMate p1.Mates)), (i64 p1.Guest_.ID), (i64 p1.Guest_.S), (i64 p1.Guest_.V), (i64 p1.Guest_.Len), (i64 p1.Guest_.End), (i64 p1.Guest_.Ahead), (i64 p1.Guest_.Guess_.R), (i64 p1.Guest_.Guess_.V), (i64 p1.Guest_.From), (i64 p1.Guest_.Until)]))), (1, (.d (i64 p2))), (2, (.d (.list (List.map eInt_i64 p3)))), (3, (.d (.list (List.map eInt_i64 p4))))], G []⟩) (sb_of ⟨.of rfl, .of rfl, .of rfl, .of rfl, trivial⟩ trivial) ?_)
  refine l_seq ?_
  refine l_reg fun u1 hu1 => ?_
  refine s_new (.ptr _ _) (.box _ _) rfl rfl ?_
  refine s_val (.d _) rfl rfl ?_
  refine s_nil ?_
  refine l_seq ?_
  refine l_seq ?_
  refine l_reg fun u2 hu2 => ?_
  refine s_val (.ptr _ _) rfl rfl ?_
  refine s_val (.d _) rfl (v_load rfl G_hit rfl) ?_
  refine s_val (.d _) rfl (v_len rfl) ?_
  refine s_val (.d _) rfl rfl ?_
  refine s_val (.d _) rfl rfl ?_
  refine g_val (!(decide ((p1.Mates.length : Int) > 12))) (.d _) rfl (gw_f rfl) (fun w1 => rfl) ?_
  refine g_val (!(decide ((p1.Mates.length : Int) > 12))) (.d _) rfl (gw_f rfl) (fun w2 => (v_len (gd_pos w2))) ?_
  refine g_val (!(decide ((p1.Mates.length : Int) > 12))) (.d _) rfl (gw_f rfl) (fun w3 => (v_bin (gd_pos w3) rfl rfl)) ?_
  refine s_val (.d _) rfl (v_or rfl rfl (fun hc => gd_pos (not_t hc))) ?_
  refine s_nil ?_
  refine l_cond ((decide ((p1.Mates.length : Int) > 12)) || (decide ((p3.length : Int) > 10))) rfl (fun c1 => ?_) (fun c1 => ?_)
  · replace h := cond_t c1 h
    refine l_seq ?_
    refine l_reg fun u3 hu3 => ?_
    obtain ⟨v1, hv1, h⟩ := bind_some h
    refine s_call rfl rfl all2_refl (law09_awake_ok  _ hv1) (.inl rfl) ?_
    refine s_val (.d _) rfl rfl ?_
    refine s_nil ?_
    refine l_ret ?_
    obtain rfl := Option.some.inj h
    refine fin_ok (.inr rfl) (resD1 (res_t rfl) rf_d) ?_
    exact (.refl _)
  · replace h := cond_f c1 h
    refine l_skip ?_
    refine l_seq ?_
    refine l_reg fun u4 hu4 => ?_
    refine s_val (.d _) rfl (v_loadG rfl G_hit rfl rfl) ?_
    refine s_val (.d _) rfl rfl ?_
    refine s_val (.d _) rfl rfl ?_
    obtain ⟨v2, hv2, h⟩ := bind_some h
    refine s_call rfl rfl all2_refl (convoy_Look_ok _ _ _  _ hv2) (.inl rfl) ?_
    refine s_val (.d _) rfl rfl ?_
    refine s_val (.d _) rfl rfl ?_
    refine s_val (.d _) rfl rfl ?_
    refine s_new (.ptr _ _) (.box _ _) rfl rfl ?_
    refine s_store _ _ _ _ _ rfl rfl rfl G_hit (Nat.le_of_ble_eq_true rfl) [(.d (i64 v2.1.By)), (.d (i64 v2.1.Lo)), (.d (i64 v2.1.Hi)), (.d (i64 v2.1.VLo)), (.d (i64 v2.1.VHi))] rfl ?_
    refine s_val (.d _) rfl rfl ?_
    refine s_nil ?_
    refine l_seq ?_
    refine l_sub (s0 := ⟨T [(1, (.d (i64 p2))), (2, (.d (.list (List.map eInt_i64 p3)))), (3, (.d (.list (List.map eInt_i64 p4)))), (4, (.ptr (4, u1) 0)), (9, (.ptr (9, u4) 0)), (10, (.d (i64 v2.2)))], G [((4, u1), some (.box 38 [(.d (i64 p1.Tick)), (.d (i64 p1.Gap)), (.d (.list (List.map eMate p1.Mates))), (.d (i64 p1.Guest_.ID)), (.d (i64 p1.Guest_.S)), (.d (i64 p1.Guest_.V)), (.d (i64 p1.Guest_.Len)), (.d (i64 p1.Guest_.End)), (.d (i64 p1.Guest_.Ahead)), (.d (i64 p1.Guest_.Guess_.R)), (.d (i64 p1.Guest_.Guess_.V)), (.d (i64 p1.Guest_.From)), (.d (i64 p1.Guest_.Until))])), ((9, u4), some (.box 42 [(.d (i64 v2.1.By)), (.d (i64 v2.1.Lo)), (.d (i64 v2.1.Hi)), (.d (i64 v2.1.VLo)), (.d (i64 v2.1.VHi))]))]⟩) (sb_of ⟨.of rfl, .of rfl, .of rfl, .of rfl, .of rfl, .of rfl, trivial⟩ (sbG_some (G_skip rfl (G_skip rfl G_hit)) (.of rfl) (sbG_some G_hit (.of rfl) trivial))) ?_
    refine l_reg fun u5 hu5 => ?_
    refine s_val (.d _) rfl (v_loadG rfl G_hit rfl rfl) ?_
    refine s_val (.d _) rfl rfl ?_
    refine s_val (.d _) rfl rfl ?_
    obtain ⟨v3, hv3, h⟩ := bind_some h
    refine s_call rfl rfl all2_refl (ref09_Look_ok _ _ _  _ hv3) (.inl rfl) ?_
    refine s_val (.d _) rfl rfl ?_
    refine s_val (.d _) rfl rfl ?_
    refine s_val (.d _) rfl rfl ?_
    refine s_new (.ptr _ _) (.box _ _) rfl rfl ?_
    refine s_store _ _ _ _ _ rfl rfl rfl G_hit (Nat.le_of_ble_eq_true rfl) [(.d (i64 v3.1.By)), (.d (i64 v3.1.Lo)), (.d (i64 v3.1.Hi)), (.d (i64 v3.1.VLo)), (.d (i64 v3.1.VHi))] rfl ?_
    refine s_val (.d _) rfl rfl ?_
    refine s_nil ?_
    refine l_seq ?_
    refine l_seq ?_
    refine l_reg fun u6 hu6 => ?_
    refine s_val (.d _) rfl (v_loadG rfl (G_skip rfl (G_skip rfl (G_skip rfl G_hit))) rfl rfl) ?_
    refine s_val (.d _) rfl (v_loadG rfl G_hit rfl rfl) ?_
    refine s_val (.d _) rfl rfl ?_
    refine s_val (.d _) rfl rfl ?_
    refine g_val (!(!(v2.1.By == v3.1.By && (v2.1.Lo == v3.1.Lo && (v2.1.Hi == v3.1.Hi && (v2.1.VLo == v3.1.VLo && (v2.1.VHi == v3.1.VHi && true))))))) (.d _) rfl (gw_f rfl) (fun w4 => rfl) ?_
    refine g_val (!(!(v2.1.By == v3.1.By && (v2.1.Lo == v3.1.Lo && (v2.1.Hi == v3.1.Hi && (v2.1.VLo == v3.1.VLo && (v2.1.VHi == v3.1.VHi && true))))))) (.d _) rfl (gw_f rfl) (fun w5 => rfl) ?_
    refine g_val (!(!(v2.1.By == v3.1.By && (v2.1.Lo == v3.1.Lo && (v2.1.Hi == v3.1.Hi && (v2.1.VLo == v3.1.VLo && (v2.1.VHi == v3.1.VHi && true))))))) (.d _) rfl (gw_f rfl) (fun w6 => (v_bin (gd_pos w6) (gd_pos w6) rfl)) ?_
    refine s_val (.d _) rfl (v_or rfl rfl (fun hc => gd_pos (not_t hc))) ?_
    refine s_nil ?_
    refine l_cond ((!(v2.1.By == v3.1.By && (v2.1.Lo == v3.1.Lo && (v2.1.Hi == v3.1.Hi && (v2.1.VLo == v3.1.VLo && (v2.1.VHi == v3.1.VHi && true)))))) || (v2.2 != v3.2)) rfl (fun c2 => ?_) (fun c2 => ?_)
    · replace h := cond_t c2 h
      refine l_seq ?_
      refine l_sub (s0 := ⟨T [], G []⟩) (sb_of trivial trivial) ?_
      refine l_reg fun u7 hu7 => ?_
      refine s_val (.d _) rfl rfl ?_
      refine s_nil ?_
      refine l_ret ?_
      obtain rfl := Option.some.inj h
      refine fin_ok (.inr rfl) (resD1 (res_t rfl) rf_d) ?_
      exact (.refl _)
    · replace h := cond_f c2 h
      refine l_skip ?_
      refine l_seq ?_
      refine l_sub (s0 := ⟨T [(2, (.d (.list (List.map eInt_i64 p3)))), (3, (.d (.list (List.map eInt_i64 p4)))), (9, (.ptr (9, u4) 0)), (11, (.ptr (11, u5) 0))], G [((9, u4), some (.box 42 [(.d (i64 v2.1.By)), (.d (i64 v2.1.Lo)), (.d (i64 v2.1.Hi)), (.d (i64 v2.1.VLo)), (.d (i64 v2.1.VHi))])), ((11, u5), some (.box 42 [(.d (i64 v3.1.By)), (.d (i64 v3.1.Lo)), (.d (i64 v3.1.Hi)), (.d (i64 v3.1.VLo)), (.d (i64 v3.1.VHi))]))]⟩) (sb_of ⟨.of rfl, .of rfl, .of rfl, .of rfl, trivial⟩ (sbG_some (G_skip rfl (G_skip rfl (G_skip rfl G_hit))) (.of rfl) (sbG_some G_hit (.of rfl) trivial))) ?_
      refine l_reg fun u8 hu8 => ?_
      refine s_val (.d _) rfl rfl ?_
      obtain ⟨v4, hv4, h⟩ := bind_some h
      refine s_oc (v := .ptr (10070010, u8) 0) (us := [(10070010, u8)]) (oc_m (kit_NewRing_m_ok _ _ hv4) [] [] _ (((10070010, u8), some (.box 94 [(.d (.list (List.map eInt_i64 v4.l))), (.d (i64 v4.at_))])) :: _) rfl all2_av rfl live_nil trivial (fun _ h => h) List.nodup_nil rfl rfl rfl) ?_
      obtain ⟨v5, hv5, h⟩ := bind_some h
      refine s_oc (v := .d (.agg [(i64 v5.1.Tick), (i64 v5.1.Gap), (.list (List.map eMate v5.1.Mates)), (i64 v5.1.Guest_.ID), (i64 v5.1.Guest_.S), (i64 v5.1.Guest_.V), (i64 v5.1.Guest_.Len), (i64 v5.1.Guest_.End), (i64 v5.1.Guest_.Ahead), (i64 v5.1.Guest_.Guess_.R), (i64 v5.1.Guest_.Guess_.V), (i64 v5.1.Guest_.From), (i64 v5.1.Guest_.Until)])) (us := [(10070010, u8)]) (oc_m (kit_Convoy_o_ok _ _ _ hv5) [(10070010, u8)] [(10070010, u8)] _ (((10070010, u8), some (.box 94 [(.d (.list (List.map eInt_i64 v5.2.l))), (.d (i64 v5.2.at_))])) :: _) rfl all2_av (kl_cons (kr_ptr G_hit rfl) (kl_cons kr_d kl_nil)) (live_cons G_hit live_nil) ⟨⟨_, G_hit, .of rfl⟩, trivial⟩ (fun _ h => h) nd1 rfl rfl rfl) ?_
      refine s_new (.ptr _ _) (.box _ _) rfl rfl ?_
      refine s_store _ _ _ _ _ rfl rfl rfl G_hit (Nat.le_of_ble_eq_true rfl) [(.d (i64 v5.1.Tick)), (.d (i64 v5.1.Gap)), (.d (.list (List.map eMate v5.1.Mates))), (.d (i64 v5.1.Guest_.ID)), (.d (i64 v5.1.Guest_.S)), (.d (i64 v5.1.Guest_.V)), (.d (i64 v5.1.Guest_.Len)), (.d (i64 v5.1.Guest_.End)), (.d (i64 v5.1.Guest_.Ahead)), (.d (i64 v5.1.Guest_.Guess_.R)), (.d (i64 v5.1.Guest_.Guess_.V)), (.d (i64 v5.1.Guest_.From)), (.d (i64 v5.1.Guest_.Until))] rfl ?_
      refine s_nil ?_
      refine l_seq ?_
      refine l_seq ?_
      refine l_reg fun u9 hu9 => ?_
      refine s_val (.d _) rfl rfl ?_
      refine s_nil ?_
      obtain ⟨z1, hz1, h⟩ := thenS_some h
      refine l_join (fun s => ∃ (y1 : Unit) (g1 : Unit), z1 = .inl y1 ∧ Sb ⟨T [], G []⟩ s) ?_ ?_
      · skip
        refine l_block ?_
        refine l_loop (law09_ConvoyLooks_l1 p3 v5) (fun (x1 : (Int × Sight × Sight)) (g2 : Unit) => ⟨T [(2, (.d (.list (List.map eInt_i64 p3)))), (9, (.ptr (9, u4) 0)), (11, (.ptr (11, u5) 0)), (13, (.ptr (13, u8) 0)), (14, (.d (i64 x1.1)))], G [((9, u4), some (.box 42 [(.d (i64 x1.2.1.By)), (.d (i64 x1.2.1.Lo)), (.d (i64 x1.2.1.Hi)), (.d (i64 x1.2.1.VLo)), (.d (i64 x1.2.1.VHi))])), ((11, u5), some (.box 42 [(.d (i64 x1.2.2.By)), (.d (i64 x1.2.2.Lo)), (.d (i64 x1.2.2.Hi)), (.d (i64 x1.2.2.VLo)), (.d (i64 x1.2.2.VHi))])), ((13, u8), some (.box 38 [(.d (i64 v5.1.Tick)), (.d (i64 v5.1.Gap)), (.d (.list (List.map eMate v5.1.Mates))), (.d (i64 v5.1.Guest_.ID)), (.d (i64 v5.1.Guest_.S)), (.d (i64 v5.1.Guest_.V)), (.d (i64 v5.1.Guest_.Len)), (.d (i64 v5.1.Guest_.End)), (.d (i64 v5.1.Guest_.Ahead)), (.d (i64 v5.1.Guest_.Guess_.R)), (.d (i64 v5.1.Guest_.Guess_.V)), (.d (i64 v5.1.Guest_.From)), (.d (i64 v5.1.Guest_.Until))]))]⟩) (0, v2.1, v3.1) () _ hz1 (sb_of ⟨.of rfl, .of rfl, .of rfl, .of rfl, .of rfl, trivial⟩ (sbG_some (G_skip rfl (G_skip rfl (G_skip rfl (G_skip rfl G_hit)))) (.of rfl) (sbG_some (G_skip rfl (G_skip rfl (G_skip rfl (G_skip rfl (G_skip rfl G_hit))))) (.of rfl) (sbG_some G_hit (.of rfl) trivial)))) ?_
        intro x1 g2 z2 hz2 ez2
        unfold law09_ConvoyLooks_l1 at hz2
        refine l_seq ?_
        refine l_seq ?_
        refine l_reg fun u10 hu10 => ?_
        refine s_val (.d _) rfl rfl ?_
        refine s_val (.d _) rfl rfl ?_
        refine s_nil ?_
        refine l_cond (decide (x1.1 < 91)) rfl (fun c3 => ?_) (fun c3 => ?_)
        · replace hz2 := cond_t c3 hz2
          refine l_skip ?_
          refine l_seq ?_
          refine l_block ?_
          refine l_seq ?_
          refine l_reg fun u11 hu11 => ?_
          refine s_val (.d _) rfl (v_loadG rfl (G_skip rfl (G_skip rfl G_hit)) rfl rfl) ?_
          refine s_val (.d _) rfl rfl ?_
          refine s_val (.d _) rfl rfl ?_
          obtain ⟨v6, hv6, hz2⟩ := bind_some hz2
          refine s_call rfl rfl all2_refl (convoy_Look_ok _ _ _  _ hv6) (.inl rfl) ?_
          refine s_val (.d _) rfl rfl ?_
          refine s_val (.d _) rfl rfl ?_
          refine s_val (.d _) rfl rfl ?_
          refine s_store _ _ _ _ _ rfl rfl rfl G_hit (Nat.le_of_ble_eq_true rfl) [(.d (i64 v6.1.By)), (.d (i64 v6.1.Lo)), (.d (i64 v6.1.Hi)), (.d (i64 v6.1.VLo)), (.d (i64 v6.1.VHi))] rfl ?_
          refine s_val (.d _) rfl rfl ?_
          refine s_nil ?_
          refine l_seq ?_
          refine l_reg fun u12 hu12 => ?_
          refine s_val (.d _) rfl (v_loadG rfl (G_skip rfl (G_skip rfl (G_skip rfl G_hit))) rfl rfl) ?_
          refine s_val (.d _) rfl rfl ?_
          refine s_val (.d _) rfl rfl ?_
          obtain ⟨v7, hv7, hz2⟩ := bind_some hz2
          refine s_call rfl rfl all2_refl (ref09_Look_ok _ _ _  _ hv7) (.inl rfl) ?_
          refine s_val (.d _) rfl rfl ?_
          refine s_val (.d _) rfl rfl ?_
          refine s_val (.d _) rfl rfl ?_
          refine s_store _ _ _ _ _ rfl rfl rfl (G_skip rfl (G_skip rfl G_hit)) (Nat.le_of_ble_eq_true rfl) [(.d (i64 v7.1.By)), (.d (i64 v7.1.Lo)), (.d (i64 v7.1.Hi)), (.d (i64 v7.1.VLo)), (.d (i64 v7.1.VHi))] rfl ?_
          refine s_val (.d _) rfl rfl ?_
          refine s_nil ?_
          refine l_seq ?_
          refine l_sub (s0 := ⟨T [(2, (.d (.list (List.map eInt_i64 p3)))), (9, (.ptr (9, u4) 0)), (10, (.d (i64 v6.2))), (11, (.ptr (11, u5) 0)), (12, (.d (i64 v7.2))), (13, (.ptr (13, u8) 0)), (14, (.d (i64 x1.1)))], G [((9, u4), some (.box 42 [(.d (i64 v6.1.By)), (.d (i64 v6.1.Lo)), (.d (i64 v6.1.Hi)), (.d (i64 v6.1.VLo)), (.d (i64 v6.1.VHi))])), ((11, u5), some (.box 42 [(.d (i64 v7.1.By)), (.d (i64 v7.1.Lo)), (.d (i64 v7.1.Hi)), (.d (i64 v7.1.VLo)), (.d (i64 v7.1.VHi))])), ((13, u8), some (.box 38 [(.d (i64 v5.1.Tick)), (.d (i64 v5.1.Gap)), (.d (.list (List.map eMate v5.1.Mates))), (.d (i64 v5.1.Guest_.ID)), (.d (i64 v5.1.Guest_.S)), (.d (i64 v5.1.Guest_.V)), (.d (i64 v5.1.Guest_.Len)), (.d (i64 v5.1.Guest_.End)), (.d (i64 v5.1.Guest_.Ahead)), (.d (i64 v5.1.Guest_.Guess_.R)), (.d (i64 v5.1.Guest_.Guess_.V)), (.d (i64 v5.1.Guest_.From)), (.d (i64 v5.1.Guest_.Until))]))]⟩) (sb_of ⟨.of rfl, .of rfl, .of rfl, .of rfl, .of rfl, .of rfl, .of rfl, trivial⟩ (sbG_some (G_skip rfl G_hit) (.of rfl) (sbG_some G_hit (.of rfl) (sbG_some (G_skip rfl (G_skip rfl (G_skip rfl (G_skip rfl G_hit)))) (.of rfl) trivial)))) ?_
          refine l_reg fun u13 hu13 => ?_
          refine s_val (.d _) rfl (v_loadG rfl G_hit rfl rfl) ?_
          refine s_val (.d _) rfl (v_loadG rfl (G_skip rfl G_hit) rfl rfl) ?_
          refine s_val (.d _) rfl rfl ?_
          refine s_val (.d _) rfl rfl ?_
          refine g_val (!(!(v6.1.By == v7.1.By && (v6.1.Lo == v7.1.Lo && (v6.1.Hi == v7.1.Hi && (v6.1.VLo == v7.1.VLo && (v6.1.VHi == v7.1.VHi && true))))))) (.d _) rfl (gw_f rfl) (fun w7 => rfl) ?_
          refine g_val (!(!(v6.1.By == v7.1.By && (v6.1.Lo == v7.1.Lo && (v6.1.Hi == v7.1.Hi && (v6.1.VLo == v7.1.VLo && (v6.1.VHi == v7.1.VHi && true))))))) (.d _) rfl (gw_f rfl) (fun w8 => rfl) ?_
          refine g_val (!(!(v6.1.By == v7.1.By && (v6.1.Lo == v7.1.Lo && (v6.1.Hi == v7.1.Hi && (v6.1.VLo == v7.1.VLo && (v6.1.VHi == v7.1.VHi && true))))))) (.d _) rfl (gw_f rfl) (fun w9 => (v_bin (gd_pos w9) (gd_pos w9) rfl)) ?_
          refine s_val (.d _) rfl (v_or rfl rfl (fun hc => gd_pos (not_t hc))) ?_
          refine s_nil ?_
          refine l_cond ((!(v6.1.By == v7.1.By && (v6.1.Lo == v7.1.Lo && (v6.1.Hi == v7.1.Hi && (v6.1.VLo == v7.1.VLo && (v6.1.VHi == v7.1.VHi && true)))))) || (v6.2 != v7.2)) rfl (fun c4 => ?_) (fun c4 => ?_)
          · replace hz2 := cond_t c4 hz2
            refine l_seq ?_
            refine l_reg fun u14 hu14 => ?_
            refine s_val (.d _) rfl rfl ?_
            refine s_nil ?_
            refine l_ret ?_
            obtain rfl := Option.some.inj hz2
            obtain rfl := ez2 _ rfl
            refine ⟨nofun, awl_ret ?_⟩
            rw [Sum.elim_inr] at h
            obtain rfl := Option.some.inj h
            refine fin_ok (.inr rfl) (resD1 (res_t rfl) rf_d) ?_
            exact (.refl _)
          · replace hz2 := cond_f c4 hz2
            refine l_skip ?_
            refine l_end ?_
            refine l_reg fun u15 hu15 => ?_
            refine s_val (.d _) rfl rfl ?_
            refine s_val (.d _) rfl rfl ?_
            refine s_val (.d _) rfl rfl ?_
            refine s_nil ?_
            refine l_nil ?_
            obtain rfl := Option.some.inj hz2
            exact ⟨rfl, (), (sb_of ⟨.of rfl, .of rfl, .of rfl, .of rfl, .of rfl, trivial⟩ (sbG_some G_hit (.of rfl) (sbG_some (G_skip rfl G_hit) (.of rfl) (sbG_some (G_skip rfl (G_skip rfl G_hit)) (.of rfl) trivial))))⟩
        · replace hz2 := cond_f c3 hz2
          refine l_exitN rfl ?_
          obtain rfl := Option.some.inj hz2
          obtain rfl := ez2 _ rfl
          refine ⟨nofun, awl_pop rfl (l_j ?_)⟩
          exact ⟨_, (), rfl, (sb_of trivial trivial)⟩
      · rintro _ ⟨y1, g1, rfl, q1⟩
        rw [Sum.elim_inl] at h
        refine l_sub q1 ?_
        refine l_seq ?_
        refine l_reg fun u16 hu16 => ?_
        obtain ⟨v8, hv8, h⟩ := bind_some h
        refine s_call rfl rfl all2_refl (law09_awake_ok  _ hv8) (.inl rfl) ?_
        refine s_val (.d _) rfl rfl ?_
        refine s_nil ?_
        refine l_ret ?_
        obtain rfl := Option.some.inj h
        refine fin_ok (.inr rfl) (resD1 (res_t rfl) rf_d) ?_
        exact (.refl _)
end Go.Abs.Convoy
