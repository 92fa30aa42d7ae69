/-
  The functions, part 3.
-/
import Derived.Test.YtkpmfcpgmhkleaaFns2
set_option maxRecDepth 20000
set_option linter.unusedVariables false
namespace Go.Abs.Curve
open Go Go.Abs Go.Proofs
attribute [local irreducible] regW regT AWL

noncomputable def slices_Clone_Spot_Spot (p1 : List Spot) : Option (List Spot) := appc [] p1

/-- slices.Clone[[]kerbstone/api.Spot,kerbstone/api.Spot] -/
def ac_slices_Clone_Spot_Spot : AC :=
  (.seq (.reg [⟨(some 2), .mv (.c .nilS), none⟩])
  (.seq (.seq (.reg [⟨(some 3), .mv (.t 0), none⟩, ⟨(some 4), .isnil false (.t 3), none⟩])
  (.cond (.t 4)
    (.seq (.reg [⟨(some 2), .mv (.c .nilS), none⟩])
    .ret)
    .skip))
  (.seq (.reg [⟨(some 5), .bslice 43 2 0 [(.v (.int .i64 0)), (.v (.int .i64 0))] [], none⟩, ⟨(some 6), .mv (.t 0), none⟩, ⟨(some 7), .append 22 43 2 (.t 5) (.t 6), none⟩, ⟨(some 2), .mv (.t 7), none⟩])
  .ret)))
theorem fn_slices_Clone_Spot_Spot : FnOK Try.prog 75 8 [.t 2] ac_slices_Clone_Spot_Spot := ⟨_, _, Try.func75, rfl, Try.ntmps75, by kernel_rfl, ⟨fun _ => [], by kernel_rfl⟩, by kernel_rfl⟩
theorem slices_Clone_Spot_Spot_walk (p1 : List Spot) (a0 : D) (hl : appc ([] : List Spot) p1 = some p1) (hn : ∀ h, val1 (T [(3, .d a0), (2, .d .nilS), (0, .d a0)]) h (.isnil false (.t 3)) = some (.d (bo false))) (he : ∀ h, elemsOf h 2 (.d a0) = some (List.map eSpot p1)) :
    PCall Try.prog 75 [a0] (.list (List.map eSpot p1)) := by
  refine l_call fn_slices_Clone_Spot_Spot (Nat.le_of_ble_eq_true rfl) ?_
  unfold ac_slices_Clone_Spot_Spot
  refine (l_sub (s0 := ⟨T [(0, .d a0)], G []⟩) (sb_of ⟨.of rfl, trivial⟩ trivial) ?_)
  refine l_seq ?_
  refine l_reg fun u1 hu1 => ?_
  refine s_val (.d .nilS) rfl rfl ?_
  refine s_nil ?_
  refine l_seq ?_
  refine l_seq ?_
  refine l_reg fun u2 hu2 => ?_
  refine s_val (.d a0) rfl rfl ?_
  refine s_val (.d (bo false)) rfl (hn _) ?_
  refine s_nil ?_
  refine l_condF rfl ?_
  refine l_skip ?_
  refine l_seq ?_
  refine l_reg fun u3 hu3 => ?_
  refine s_new (.sl _) (.arr 43 2 (List.map eSpot ([] : List Spot))) rfl rfl ?_
  refine s_val (.d a0) rfl rfl ?_
  refine s_append eSpot _ [] p1 _ (he _) rfl G_hit hl ?_
  refine s_val (.sl _) rfl rfl ?_
  refine s_nil ?_
  refine l_ret ?_
  exact fin_ok (.inr rfl) (resD1 (res_t rfl) (rf_sl G_hit)) (.refl _)
theorem slices_Clone_Spot_Spot_ok (p1 : List Spot) (r : List Spot) (h : slices_Clone_Spot_Spot p1 = some r) : PCall Try.prog 75 [.list (List.map eSpot p1)] (.list (List.map eSpot r)) := by
  have hr : r = p1 := by obtain ⟨_, rfl⟩ := appc_some h; rfl
  subst hr
  cases r with
  | cons x xs => exact slices_Clone_Spot_Spot_walk (x :: xs) _ h (fun _ => rfl) fun _ => elems_list (fun _ => rfl)
  | nil =>
    refine PCall.nil fun A cap => ?_
    cases A with
    | some A => exact slices_Clone_Spot_Spot_walk [] (.v (.slice (some A) 0 cap)) h (fun _ => rfl) fun _ => rfl
    | none =>
      refine l_call fn_slices_Clone_Spot_Spot (Nat.le_of_ble_eq_true rfl) ?_
      unfold ac_slices_Clone_Spot_Spot
      refine (l_sub (s0 := ⟨T [(0, .d (.v (.slice none 0 cap)))], G []⟩) (sb_of ⟨.of rfl, trivial⟩ trivial) ?_)
      refine l_seq ?_
      refine l_reg fun u1 hu1 => ?_
      refine s_val (.d .nilS) rfl rfl ?_
      refine s_nil ?_
      refine l_seq ?_
      refine l_seq ?_
      refine l_reg fun u2 hu2 => ?_
      refine s_val (.d _) rfl rfl ?_
      refine s_val (.d (bo true)) rfl rfl ?_
      refine s_nil ?_
      refine l_condT rfl ?_
      refine l_seq ?_
      refine l_reg fun u3 hu3 => ?_
      refine s_val (.d .nilS) rfl rfl ?_
      refine s_nil ?_
      refine l_ret ?_
      exact fin_ok (.inr rfl) (resD1 (res_t rfl) rf_d) .nil

noncomputable def slices_Clone_Spot_Spoto (p1 : List Spot) : Option (List Spot) := match p1 with
  | [] => none
  | _ => appc [] p1
theorem slices_Clone_Spot_Spoto_ne {p1 r : List Spot} (h : slices_Clone_Spot_Spoto p1 = some r) : r ≠ [] := by
  cases p1 with
  | nil => cases h
  | cons x xs => have := appc_ne (xs := []) h; exact this

theorem slices_Clone_Spot_Spoto_ok (p1 : List Spot) (r : List Spot) (h : slices_Clone_Spot_Spoto p1 = some r) : MCall Try.prog 75 [.d (.list (List.map eSpot p1))] [] (.sl (800000, 0)) [] [.arr 43 2 (List.map eSpot r)] := by
  cases p1 with
  | nil => cases h
  | cons x xs =>
  have hr : appc ([] : List Spot) (x :: xs) = some r := h
  refine m_callT fn_slices_Clone_Spot_Spot rfl (Nat.le_of_ble_eq_true rfl) ?_
  unfold ac_slices_Clone_Spot_Spot
  refine (l_sub (s0 := ⟨T [(0, .d (.list (List.map eSpot (x :: xs))))], G []⟩) (sb_of ⟨.of rfl, trivial⟩ trivial) ?_)
  refine l_seq ?_
  refine l_reg fun u1 hu1 => ?_
  refine s_val (.d .nilS) rfl rfl ?_
  refine s_nil ?_
  refine l_seq ?_
  refine l_seq ?_
  refine l_reg fun u2 hu2 => ?_
  refine s_val (.d (.list (List.map eSpot (x :: xs)))) rfl rfl ?_
  refine s_val (.d (bo false)) rfl rfl ?_
  refine s_nil ?_
  refine l_condF rfl ?_
  refine l_skip ?_
  refine l_seq ?_
  refine l_reg fun u3 hu3 => ?_
  refine s_new (.sl _) (.arr 43 2 (List.map eSpot ([] : List Spot))) rfl rfl ?_
  refine s_val (.d (.list (List.map eSpot (x :: xs)))) rfl rfl ?_
  refine s_append eSpot _ [] (x :: xs) _ (elems_list (fun _ => rfl)) rfl G_hit hr ?_
  refine s_val (.sl _) rfl rfl ?_
  refine s_nil ?_
  refine l_ret ?_
  exact fin_m (v1 := .sl (7, u3)) (.inr rfl) (resA1 (res_t rfl)) (.of rfl) [((7, u3), some (.arr 43 2 (List.map eSpot r)))] (sbG_some G_hit (.of rfl) trivial) (mpost_of [(7, u3)] rfl trivial ⟨G_hit, trivial⟩ rfl (by simp only [List.mem_cons, List.not_mem_nil, or_false, forall_eq]; exact fun i => old_ne rfl i) nd1)

noncomputable def curve_through (p1 : (List Spot)) : Option Curve :=
  (slices_Clone_Spot_Spot p1).bind fun v1 => some (Curve.mk v1)

/-- kerbstone/curve.through -/
def ac_curve_through : AC :=
  (.seq (.reg [⟨(some 2), .alloc 24 [.nilS], none⟩])
  (.seq (.reg [⟨(some 3), .mv (.t 0), none⟩, ⟨(some 4), .call (.c (.fn (.func 75) [] [])) [(.t 3)], none⟩, ⟨(some 5), .build [.nilS] [(0, 1, (.t 4))], none⟩, ⟨none, .store 1 (.t 2) (.t 5), none⟩])
  .ret))
theorem fn_curve_through : FnOK Try.prog 74 6 [.cell 2 1 true] ac_curve_through := ⟨_, _, Try.func74, rfl, Try.ntmps74, by kernel_rfl, ⟨fun _ => [], by kernel_rfl⟩, by kernel_rfl⟩
theorem curve_through_ok (p1 : (List Spot)) (r : Curve) (h : curve_through p1 = some r) : PCall Try.prog 74 [(.list (List.map eSpot p1))] (.agg [(.list (List.map eSpot r.Pts))]) := by
  refine l_call fn_curve_through (Nat.le_of_ble_eq_true rfl) ?_
  unfold curve_through at h
  unfold ac_curve_through
  refine (l_sub (s0 := ⟨T [(0, (.d (.list (List.map eSpot p1))))], G []⟩) (sb_of ⟨.of rfl, trivial⟩ trivial) ?_)
  refine l_seq ?_
  refine l_reg fun u1 hu1 => ?_
  refine s_new (.ptr _ _) (.box _ _) rfl rfl ?_
  refine s_nil ?_
  refine l_seq ?_
  refine l_reg fun u2 hu2 => ?_
  refine s_val (.d _) rfl rfl ?_
  obtain ⟨v1, hv1, h⟩ := bind_some h
  refine s_call rfl rfl all2_refl (slices_Clone_Spot_Spot_ok _  _ hv1) (.inl rfl) ?_
  refine s_val (.d _) rfl rfl ?_
  refine s_store _ _ _ _ _ rfl rfl rfl G_hit (Nat.le_of_ble_eq_true rfl) [(.d (.list (List.map eSpot v1)))] rfl ?_
  refine s_nil ?_
  refine l_ret ?_
  obtain rfl := Option.some.inj h
  refine fin_ok (.inr rfl) (resD1 (res_cellG rfl G_hit (Nat.le_of_ble_eq_true rfl) rfl) rf_d) ?_
  exact (.refl _)

noncomputable def curve_Join (p1 : Curve) (p2 : Curve) : Option (Curve × Int) :=
  thenS ((curve_Check p1).bind fun v1 => cond (v1 != 0) (some (.inr ((Curve.mk []), v1))) ((curve_Check p2).bind fun v2 => cond (v2 != 0) (some (.inr ((Curve.mk []), v2))) (some (.inl ())))) (fun _ => (geti p1.Pts (w64 ((p1.Pts.length : Int) - 1))).bind fun v3 => (geti p2.Pts 0).bind fun v4 => cond (!(v3.X == v4.X && (v3.Y == v4.Y && true))) (some ((Curve.mk []), 7)) ((slices_Clone_Spot_Spoto p1.Pts).bind fun v5 => (subl p2.Pts 1 (p2.Pts.length : Int)).bind fun v6 => (appc v5 v6).bind fun v7 => (curve_through v7).bind fun v8 => (curve_Check v8).bind fun v9 => cond (v9 != 0) (some ((Curve.mk []), v9)) (some (v8, 0)))) (fun r => some r)

/-- kerbstone/curve.Join -/
def ac_curve_Join : AC :=
  (.seq (.reg [⟨(some 2), .box 24 true (.t 0), none⟩, ⟨(some 3), .box 24 true (.t 1), none⟩, ⟨(some 4), .alloc 24 [.nilS], none⟩, ⟨(some 5), .mv (.c (.v (.int .i64 0))), none⟩])
  (.seq (.seq (.reg [⟨(some 11), .load 1 true (.t 2), none⟩, ⟨(some 12), .load 1 true (.t 3), none⟩, ⟨(some 13), .build [.nilS, .nilS] [(0, 1, (.t 11)), (1, 1, (.t 12))], none⟩, ⟨(some 14), .mv (.c (.v (.int .i64 0))), none⟩])
  (.block 0
    (.loop
      (.seq (.reg [⟨(some 15), .bin .lss (.t 14) (.c (.v (.int .i64 2))), none⟩])
      (.seq (.cond (.t 15)
        .skip
        (.exit 0))
      (.seq (.block 1
        (.seq (.reg [⟨(some 16), .idxA 2 1 true (.t 13) (.t 14), none⟩, ⟨(some 7), .alloc 24 [.nilS], none⟩, ⟨none, .store 1 (.t 7) (.t 16), none⟩])
        (.seq (.reg [⟨(some 17), .load 1 true (.t 7), none⟩, ⟨(some 18), .call (.c (.fn (.func 20) [] [])) [(.t 17)], none⟩, ⟨(some 8), .mv (.t 18), none⟩])
        (.seq (.reg [⟨(some 19), .mv (.t 8), none⟩, ⟨(some 20), .bin .neq (.t 19) (.c (.v (.int .i64 0))), none⟩])
        (.cond (.t 20)
          (.seq (.reg [⟨(some 21), .build [.nilS] [], none⟩, ⟨(some 22), .mv (.t 8), none⟩, ⟨none, .store 1 (.t 4) (.t 21), none⟩, ⟨(some 5), .mv (.t 22), none⟩])
          .ret)
          .skip)))))
      (.reg [⟨(some 23), .bin .add (.t 14) (.c (.v (.int .i64 1))), none⟩, ⟨(some 14), .mv (.t 23), none⟩])))))))
  (.seq (.seq (.draw [⟨(some 24), .fieldA 0 (.t 2), none⟩, ⟨(some 25), .load 1 false (.t 24), none⟩, ⟨(some 26), .fieldA 0 (.t 2), none⟩, ⟨(some 27), .load 1 false (.t 26), none⟩, ⟨(some 28), .len (.t 27), none⟩, ⟨(some 29), .bin .sub (.t 28) (.c (.v (.int .i64 1))), none⟩, ⟨(some 30), .idxS 2 (.t 25) (.t 29), none⟩, ⟨(some 31), .load 2 true (.t 30), none⟩, ⟨(some 32), .fieldA 0 (.t 3), none⟩, ⟨(some 33), .load 1 false (.t 32), none⟩, ⟨(some 34), .idxS 2 (.t 33) (.c (.v (.int .i64 0))), none⟩, ⟨(some 35), .load 2 true (.t 34), none⟩, ⟨(some 36), .eqA true [false, false] (.t 31) (.t 35), none⟩] [])
  (.cond (.t 36)
    (.seq (.reg [⟨(some 37), .build [.nilS] [], none⟩, ⟨none, .store 1 (.t 4) (.t 37), none⟩, ⟨(some 5), .mv (.c (.v (.int .i64 7))), none⟩])
    .ret)
    .skip))
  (.seq (.draw [⟨(some 38), .fieldA 0 (.t 2), none⟩, ⟨(some 39), .load 1 false (.t 38), none⟩, ⟨(some 40), .ocall 10100020 (.c (.fn (.func 75) [] [])) [(.t 39)], none⟩, ⟨(some 41), .fieldA 0 (.t 3), none⟩, ⟨(some 42), .load 1 false (.t 41), none⟩, ⟨(some 43), .slice 2 (.t 42) (some (.c (.v (.int .i64 1)))) none none, none⟩, ⟨(some 44), .append 22 43 2 (.t 40) (.t 43), none⟩, ⟨(some 45), .ocall 10100070 (.c (.fn (.func 74) [] [])) [(.t 44)], none⟩, ⟨(some 9), .alloc 24 [.nilS], none⟩, ⟨none, .store 1 (.t 9) (.t 45), none⟩] [(2, 4), (2, 8), (6, 8), (7, 8)])
  (.seq (.seq (.reg [⟨(some 46), .load 1 true (.t 9), none⟩, ⟨(some 47), .call (.c (.fn (.func 20) [] [])) [(.t 46)], none⟩, ⟨(some 10), .mv (.t 47), none⟩])
  (.seq (.reg [⟨(some 48), .mv (.t 10), none⟩, ⟨(some 49), .bin .neq (.t 48) (.c (.v (.int .i64 0))), none⟩])
  (.cond (.t 49)
    (.seq (.reg [⟨(some 50), .build [.nilS] [], none⟩, ⟨(some 51), .mv (.t 10), none⟩, ⟨none, .store 1 (.t 4) (.t 50), none⟩, ⟨(some 5), .mv (.t 51), none⟩])
    .ret)
    .skip)))
  (.seq (.reg [⟨(some 52), .load 1 true (.t 9), none⟩, ⟨none, .store 1 (.t 4) (.t 52), none⟩, ⟨(some 5), .mv (.c (.v (.int .i64 0))), none⟩])
  .ret))))))
theorem fn_curve_Join : FnOK Try.prog 36 53 [.cell 4 1 true, .t 5] ac_curve_Join := ⟨_, _, Try.func36, rfl, Try.ntmps36, by kernel_rfl, ⟨fun r => if r == 10 then [1010002, 1010007] else [], by kernel_rfl⟩, by kernel_rfl⟩
set_option maxHeartbeats 4000000 in
theorem curve_Join_ok (p1 : Curve) (p2 : Curve) (r : (Curve × Int)) (h : curve_Join p1 p2 = some r) : PCall Try.prog 36 [(.agg [(.list (List.map eSpot p1.Pts))]), (.agg [(.list (List.map eSpot p2.Pts))])] (.tup [(.agg [(.list (List.map eSpot r.1.Pts))]), (i64 r.2)]) := by
  refine l_call fn_curve_Join (Nat.le_of_ble_eq_true rfl) ?_
  unfold curve_Join at h
  unfold ac_curve_Join
  refine (l_sub (s0 := ⟨T [(0, (.d (.agg [(.list (List.map eSpot p1.Pts))]))), (1, (.d (.agg [(.list (List.map eSpot p2.Pts))])))], G []⟩) (sb_of ⟨.of rfl, .of rfl, trivial⟩ trivial) ?_)
  refine l_seq ?_
  refine l_reg fun u1 hu1 => ?_
  refine s_new (.ptr _ _) (.box _ _) rfl rfl ?_
  refine s_new (.ptr _ _) (.box _ _) rfl rfl ?_
  refine s_new (.ptr _ _) (.box _ _) rfl rfl ?_
  refine s_val (.d _) rfl rfl ?_
  refine s_nil ?_
  refine l_seq ?_
  refine l_seq ?_
  refine l_reg fun u2 hu2 => ?_
  refine s_val (.d _) rfl (v_loadG rfl (G_skip rfl (G_skip rfl G_hit)) rfl rfl) ?_
  refine s_val (.d _) rfl (v_loadG rfl (G_skip rfl G_hit) rfl rfl) ?_
  refine s_val (.d _) rfl rfl ?_
  refine s_val (.d _) rfl rfl ?_
  refine s_nil ?_
  obtain ⟨z1, hz1, h⟩ := thenS_some h
  refine l_join (fun s => ∃ (y1 : Unit) (g1 : Unit), z1 = .inl y1 ∧ Sb ⟨T [(2, (.ptr (2, u1) 0)), (3, (.ptr (3, u1) 0)), (4, (.ptr (4, u1) 0))], G [((2, u1), some (.box 24 [(.d (.list (List.map eSpot p1.Pts)))])), ((3, u1), some (.box 24 [(.d (.list (List.map eSpot p2.Pts)))])), ((4, u1), some (.box 24 [(.d .nilS)]))]⟩ s) ?_ ?_
  · skip
    refine l_block ?_
    refine l_unroll ?_
    refine l_seq ?_
    refine l_reg fun u3 hu3 => ?_
    refine s_val (.d _) rfl rfl ?_
    refine s_nil ?_
    refine l_seq ?_
    refine l_condT rfl ?_
    refine l_skip ?_
    refine l_seq ?_
    refine l_block ?_
    refine l_seq ?_
    refine l_reg fun u4 hu4 => ?_
    refine s_val (.d _) rfl rfl ?_
    refine s_new (.ptr _ _) (.box _ _) rfl rfl ?_
    refine s_store _ _ _ _ _ rfl rfl rfl G_hit (Nat.le_of_ble_eq_true rfl) [(.d (.list (List.map eSpot p1.Pts)))] rfl ?_
    refine s_nil ?_
    refine l_seq ?_
    refine l_reg fun u5 hu5 => ?_
    refine s_val (.d _) rfl (v_loadG rfl G_hit rfl rfl) ?_
    obtain ⟨v1, hv1, hz1⟩ := bind_some hz1
    refine s_call rfl rfl all2_refl (curve_Check_ok _  _ hv1) (.inl rfl) ?_
    refine s_val (.d _) rfl rfl ?_
    refine s_nil ?_
    refine l_seq ?_
    refine l_reg fun u6 hu6 => ?_
    refine s_val (.d _) rfl rfl ?_
    refine s_val (.d _) rfl rfl ?_
    refine s_nil ?_
    refine l_cond (v1 != 0) rfl (fun c1 => ?_) (fun c1 => ?_)
    · replace hz1 := cond_t c1 hz1
      refine l_seq ?_
      refine l_sub (s0 := ⟨T [(4, (.ptr (4, u1) 0)), (8, (.d (i64 v1)))], G [((4, u1), some (.box 24 [(.d .nilS)]))]⟩) (sb_of ⟨.of rfl, .of rfl, trivial⟩ (sbG_some (G_skip rfl (G_skip rfl G_hit)) (.of rfl) trivial)) ?_
      refine l_reg fun u7 hu7 => ?_
      refine s_val (.d _) rfl rfl ?_
      refine s_val (.d _) rfl rfl ?_
      refine s_store _ _ _ _ _ rfl rfl rfl G_hit (Nat.le_of_ble_eq_true rfl) [(.d .nilS)] rfl ?_
      refine s_val (.d _) rfl rfl ?_
      refine s_nil ?_
      refine l_ret ?_
      obtain rfl := Option.some.inj hz1
      rw [Sum.elim_inr] at h
      obtain rfl := Option.some.inj h
      refine fin_ok (.inr rfl) (resD2 (res_cellG rfl G_hit (Nat.le_of_ble_eq_true rfl) rfl) (res_t rfl) rf_d rf_d) ?_
      exact .tup (.cons (.agg (.cons ⟨DLe.nil, rfl⟩ .nil)) (.cons (.refl _) .nil))
    · replace hz1 := cond_f c1 hz1
      refine l_skip ?_
      refine l_end ?_
      refine l_sub (s0 := ⟨T [(2, (.ptr (2, u1) 0)), (3, (.ptr (3, u1) 0)), (4, (.ptr (4, u1) 0)), (13, (.d (.agg [(.list (List.map eSpot p1.Pts)), (.list (List.map eSpot p2.Pts))]))), (14, (.d (i64 0)))], G [((2, u1), some (.box 24 [(.d (.list (List.map eSpot p1.Pts)))])), ((3, u1), some (.box 24 [(.d (.list (List.map eSpot p2.Pts)))])), ((4, u1), some (.box 24 [(.d .nilS)]))]⟩) (sb_of ⟨.of rfl, .of rfl, .of rfl, .of rfl, .of rfl, trivial⟩ (sbG_some (G_skip rfl (G_skip rfl (G_skip rfl (G_skip rfl G_hit)))) (.of rfl) (sbG_some (G_skip rfl (G_skip rfl (G_skip rfl G_hit))) (.of rfl) (sbG_some (G_skip rfl (G_skip rfl G_hit)) (.of rfl) trivial)))) ?_
      refine l_reg fun u8 hu8 => ?_
      refine s_val (.d _) rfl rfl ?_
      refine s_val (.d _) rfl rfl ?_
      refine s_nil ?_
      refine l_unroll ?_
      refine l_seq ?_
      refine l_reg fun u9 hu9 => ?_
      refine s_val (.d _) rfl rfl ?_
      refine s_nil ?_
      refine l_seq ?_
      refine l_condT rfl ?_
      refine l_skip ?_
      refine l_seq ?_
      refine l_block ?_
      refine l_seq ?_
      refine l_reg fun u10 hu10 => ?_
      refine s_val (.d _) rfl rfl ?_
      refine s_new (.ptr _ _) (.box _ _) rfl rfl ?_
      refine s_store _ _ _ _ _ rfl rfl rfl G_hit (Nat.le_of_ble_eq_true rfl) [(.d (.list (List.map eSpot p2.Pts)))] rfl ?_
      refine s_nil ?_
      refine l_seq ?_
      refine l_reg fun u11 hu11 => ?_
      refine s_val (.d _) rfl (v_loadG rfl G_hit rfl rfl) ?_
      obtain ⟨v2, hv2, hz1⟩ := bind_some hz1
      refine s_call rfl rfl all2_refl (curve_Check_ok _  _ hv2) (.inl rfl) ?_
      refine s_val (.d _) rfl rfl ?_
      refine s_nil ?_
      refine l_seq ?_
      refine l_reg fun u12 hu12 => ?_
      refine s_val (.d _) rfl rfl ?_
      refine s_val (.d _) rfl rfl ?_
      refine s_nil ?_
      refine l_cond (v2 != 0) rfl (fun c2 => ?_) (fun c2 => ?_)
      · replace hz1 := cond_t c2 hz1
        refine l_seq ?_
        refine l_reg fun u13 hu13 => ?_
        refine s_val (.d _) rfl rfl ?_
        refine s_val (.d _) rfl rfl ?_
        refine s_store _ _ _ _ _ rfl rfl rfl (G_skip rfl (G_skip rfl (G_skip rfl (G_skip rfl G_hit)))) (Nat.le_of_ble_eq_true rfl) [(.d .nilS)] rfl ?_
        refine s_val (.d _) rfl rfl ?_
        refine s_nil ?_
        refine l_ret ?_
        obtain rfl := Option.some.inj hz1
        rw [Sum.elim_inr] at h
        obtain rfl := Option.some.inj h
        refine fin_ok (.inr rfl) (resD2 (res_cellG rfl G_hit (Nat.le_of_ble_eq_true rfl) rfl) (res_t rfl) rf_d rf_d) ?_
        exact .tup (.cons (.agg (.cons ⟨DLe.nil, rfl⟩ .nil)) (.cons (.refl _) .nil))
      · replace hz1 := cond_f c2 hz1
        refine l_skip ?_
        refine l_end ?_
        refine l_reg fun u14 hu14 => ?_
        refine s_val (.d _) rfl rfl ?_
        refine s_val (.d _) rfl rfl ?_
        refine s_nil ?_
        refine l_unroll ?_
        refine l_seq ?_
        refine l_reg fun u15 hu15 => ?_
        refine s_val (.d _) rfl rfl ?_
        refine s_nil ?_
        refine l_seq ?_
        refine l_condF rfl ?_
        refine l_exit rfl ?_
        obtain rfl := Option.some.inj hz1
        exact l_j ⟨_, (), rfl, (sb_of ⟨.of rfl, .of rfl, .of rfl, trivial⟩ (sbG_some (G_skip rfl (G_skip rfl G_hit)) (.of rfl) (sbG_some (G_skip rfl (G_skip rfl (G_skip rfl G_hit))) (.of rfl) (sbG_some (G_skip rfl (G_skip rfl (G_skip rfl (G_skip rfl G_hit)))) (.of rfl) trivial))))⟩
  · rintro _ ⟨y1, g1, rfl, q1⟩
    rw [Sum.elim_inl] at h
    refine l_sub q1 ?_
    refine l_seq ?_
    refine l_seq ?_
    refine l_draw rfl fun u16 hu16 => ?_
    refine s_val (.ptr _ _) rfl rfl ?_
    refine s_val (.d _) rfl (v_load rfl G_hit rfl) ?_
    refine s_val (.ptr _ _) rfl rfl ?_
    refine s_val (.d _) rfl (v_load rfl G_hit rfl) ?_
    refine s_val (.d _) rfl (v_len rfl) ?_
    refine s_val (.d _) rfl rfl ?_
    obtain ⟨v3, hv3, h⟩ := bind_some h
    refine s_val (.d _) rfl (v_idx rfl rfl hv3 rfl) ?_
    refine s_val (.d _) rfl (v_loadLG rfl hv3 rfl rfl) ?_
    refine s_val (.ptr _ _) rfl rfl ?_
    refine s_val (.d _) rfl (v_load rfl (G_skip rfl G_hit) rfl) ?_
    obtain ⟨v4, hv4, h⟩ := bind_some h
    refine s_val (.d _) rfl (v_idx rfl rfl hv4 rfl) ?_
    refine s_val (.d _) rfl (v_loadLG rfl hv4 rfl rfl) ?_
    refine s_val (.d _) rfl rfl ?_
    refine s_nil ?_
    refine l_cond (!(v3.X == v4.X && (v3.Y == v4.Y && true))) rfl (fun c3 => ?_) (fun c3 => ?_)
    · replace h := cond_t c3 h
      refine l_seq ?_
      refine l_reg fun u17 hu17 => ?_
      refine s_val (.d _) rfl rfl ?_
      refine s_store _ _ _ _ _ rfl rfl rfl (G_skip rfl (G_skip rfl G_hit)) (Nat.le_of_ble_eq_true rfl) [(.d .nilS)] rfl ?_
      refine s_val (.d _) rfl rfl ?_
      refine s_nil ?_
      refine l_ret ?_
      obtain rfl := Option.some.inj h
      refine fin_ok (.inr rfl) (resD2 (res_cellG rfl G_hit (Nat.le_of_ble_eq_true rfl) rfl) (res_t rfl) rf_d rf_d) ?_
      exact .tup (.cons (.agg (.cons ⟨DLe.nil, rfl⟩ .nil)) (.cons (.refl _) .nil))
    · replace h := cond_f c3 h
      refine l_skip ?_
      refine l_seq ?_
      refine l_drawT fun u18 hu18 => ?_
      refine t_val (.ptr _ _) rfl rfl ?_
      refine t_val (.d _) rfl (v_load rfl G_hit rfl) ?_
      obtain ⟨v5, hv5, h⟩ := bind_some h
      refine t_oc (v := .sl (10100020, u18)) (us := [(10100020, u18)]) (oc_m (slices_Clone_Spot_Spoto_ok _ _ hv5) [] [] _ (((10100020, u18), some (.arr 43 2 (List.map eSpot v5))) :: _) rfl all2_av rfl live_nil trivial (fun _ h => h) List.nodup_nil rfl rfl rfl) ?_
      refine t_val (.ptr _ _) rfl rfl ?_
      refine t_val (.d _) rfl (v_load rfl (G_skip rfl (G_skip rfl G_hit)) rfl) ?_
      obtain ⟨v6, hv6, h⟩ := bind_some h
      refine t_val (.d _) rfl (v_sub rfl (fun _ => rfl) (bd_x rfl) bd_end hv6) ?_
      obtain ⟨v7, hv7, h⟩ := bind_some h
      refine t_append eSpot _ _ _ _ (elems_list (fun _ => rfl)) rfl G_hit hv7 ?_
      obtain ⟨v8, hv8, h⟩ := bind_some h
      refine t_oc (v := .d (.agg [(.list (List.map eSpot v8.Pts))])) (us := [(44, u18)]) (oc_f [(44, u18)] (((44, u18), none) :: _) rfl (rfL_cons (rf_sl G_hit) rfL_nil) all2_refl (curve_through_ok _ _ hv8) (kl_cons kr_sl kl_nil) rfl) ?_
      refine t_new (.ptr _ _) (.box _ _) rfl rfl ?_
      refine t_store _ _ _ _ _ rfl rfl rfl G_hit (Nat.le_of_ble_eq_true rfl) [(.d (.list (List.map eSpot v8.Pts)))] rfl ?_
      refine t_nil ⟨rfl, ?_⟩
      refine l_seq ?_
      refine l_seq ?_
      refine l_sub (s0 := ⟨T [(4, (.ptr (4, u1) 0)), (9, (.ptr (9, u18) 0))], G [((4, u1), some (.box 24 [(.d .nilS)])), ((9, u18), some (.box 24 [(.d (.list (List.map eSpot v8.Pts)))]))]⟩) (sb_of ⟨.of rfl, .of rfl, trivial⟩ (sbG_some (G_skip rfl (G_skip rfl (G_skip rfl (G_skip rfl (G_skip rfl (G_skip rfl (G_skip rfl (G_skip rfl G_hit)))))))) (.of rfl) (sbG_some G_hit (.of rfl) trivial))) ?_
      refine l_reg fun u19 hu19 => ?_
      refine s_val (.d _) rfl (v_loadG rfl (G_skip rfl G_hit) rfl rfl) ?_
      obtain ⟨v9, hv9, h⟩ := bind_some h
      refine s_call rfl rfl all2_refl (curve_Check_ok _  _ hv9) (.inl rfl) ?_
      refine s_val (.d _) rfl rfl ?_
      refine s_nil ?_
      refine l_seq ?_
      refine l_reg fun u20 hu20 => ?_
      refine s_val (.d _) rfl rfl ?_
      refine s_val (.d _) rfl rfl ?_
      refine s_nil ?_
      refine l_cond (v9 != 0) rfl (fun c4 => ?_) (fun c4 => ?_)
      · replace h := cond_t c4 h
        refine l_seq ?_
        refine l_reg fun u21 hu21 => ?_
        refine s_val (.d _) rfl rfl ?_
        refine s_val (.d _) rfl rfl ?_
        refine s_store _ _ _ _ _ rfl rfl rfl G_hit (Nat.le_of_ble_eq_true rfl) [(.d .nilS)] rfl ?_
        refine s_val (.d _) rfl rfl ?_
        refine s_nil ?_
        refine l_ret ?_
        obtain rfl := Option.some.inj h
        refine fin_ok (.inr rfl) (resD2 (res_cellG rfl G_hit (Nat.le_of_ble_eq_true rfl) rfl) (res_t rfl) rf_d rf_d) ?_
        exact .tup (.cons (.agg (.cons ⟨DLe.nil, rfl⟩ .nil)) (.cons (.refl _) .nil))
      · replace h := cond_f c4 h
        refine l_skip ?_
        refine l_seq ?_
        refine l_reg fun u22 hu22 => ?_
        refine s_val (.d _) rfl (v_loadG rfl (G_skip rfl G_hit) rfl rfl) ?_
        refine s_store _ _ _ _ _ rfl rfl rfl G_hit (Nat.le_of_ble_eq_true rfl) [(.d (.list (List.map eSpot v8.Pts)))] rfl ?_
        refine s_val (.d _) rfl rfl ?_
        refine s_nil ?_
        refine l_ret ?_
        obtain rfl := Option.some.inj h
        refine fin_ok (.inr rfl) (resD2 (res_cellG rfl G_hit (Nat.le_of_ble_eq_true rfl) rfl) (res_t rfl) rf_d rf_d) ?_
        exact .refl _

noncomputable def slices_Equal_Spot_Spot_l1 (p1 : (List Spot)) (p2 : (List Spot)) (x1 : Int) : Option (Stp Int (Sum Unit Bool)) :=
  cond (decide (x1 < (p1.length : Int))) ((geti p1 x1).bind fun v1 => (geti p2 x1).bind fun v2 => cond (!(v1.X == v2.X && (v1.Y == v2.Y && true))) (some (.out (.inr false))) (some (.go (w64 (x1 + 1))))) (some (.out (.inl ())))
noncomputable def slices_Equal_Spot_Spot (p1 : (List Spot)) (p2 : (List Spot)) : Option Bool :=
  cond ((p1.length : Int) != (p2.length : Int)) (some false) (thenS (loop (slices_Equal_Spot_Spot_l1 p1 p2) 0) (fun _ => some true) (fun r => some r))

/-- slices.Equal[[]kerbstone/api.Spot,kerbstone/api.Spot] -/
def ac_slices_Equal_Spot_Spot : AC :=
  (.seq (.reg [⟨(some 4), .mv (.c (.v (.bool false))), none⟩])
  (.seq (.seq (.reg [⟨(some 6), .mv (.t 0), none⟩, ⟨(some 7), .len (.t 6), none⟩, ⟨(some 8), .mv (.t 1), none⟩, ⟨(some 9), .len (.t 8), none⟩, ⟨(some 10), .bin .neq (.t 7) (.t 9), none⟩])
  (.cond (.t 10)
    (.seq (.reg [⟨(some 4), .mv (.c (.v (.bool false))), none⟩])
    .ret)
    .skip))
  (.seq (.seq (.reg [⟨(some 11), .mv (.t 0), none⟩, ⟨(some 12), .len (.t 11), none⟩, ⟨(some 13), .mv (.c (.v (.int .i64 0))), none⟩])
  (.block 0
    (.loop
      (.seq (.reg [⟨(some 14), .bin .lss (.t 13) (.t 12), none⟩])
      (.seq (.cond (.t 14)
        .skip
        (.exit 0))
      (.seq (.block 1
        (.seq (.reg [⟨(some 15), .mv (.t 13), none⟩, ⟨(some 5), .mv (.t 15), none⟩])
        (.seq (.draw [⟨(some 16), .mv (.t 0), none⟩, ⟨(some 17), .mv (.t 5), none⟩, ⟨(some 18), .idxS 2 (.t 16) (.t 17), none⟩, ⟨(some 19), .load 2 true (.t 18), none⟩, ⟨(some 20), .mv (.t 1), none⟩, ⟨(some 21), .mv (.t 5), none⟩, ⟨(some 22), .idxS 2 (.t 20) (.t 21), none⟩, ⟨(some 23), .load 2 true (.t 22), none⟩, ⟨(some 24), .eqA true [false, false] (.t 19) (.t 23), none⟩] [])
        (.cond (.t 24)
          (.seq (.reg [⟨(some 4), .mv (.c (.v (.bool false))), none⟩])
          .ret)
          .skip))))
      (.reg [⟨(some 25), .bin .add (.t 13) (.c (.v (.int .i64 1))), none⟩, ⟨(some 13), .mv (.t 25), none⟩])))))))
  (.seq (.reg [⟨(some 4), .mv (.c (.v (.bool true))), none⟩])
  .ret))))
theorem fn_slices_Equal_Spot_Spot : FnOK Try.prog 77 26 [.t 4] ac_slices_Equal_Spot_Spot := ⟨_, _, Try.func77, rfl, Try.ntmps77, by kernel_rfl, ⟨fun _ => [], by kernel_rfl⟩, by kernel_rfl⟩
set_option maxHeartbeats 4000000 in
theorem slices_Equal_Spot_Spot_ok (p1 : (List Spot)) (p2 : (List Spot)) (r : Bool) (h : slices_Equal_Spot_Spot p1 p2 = some r) : PCall Try.prog 77 [(.list (List.map eSpot p1)), (.list (List.map eSpot p2))] (bo r) := by
  refine l_call fn_slices_Equal_Spot_Spot (Nat.le_of_ble_eq_true rfl) ?_
  unfold slices_Equal_Spot_Spot at h
  unfold ac_slices_Equal_Spot_Spot
  refine (l_sub (s0 := ⟨T [(0, (.d (.list (List.map eSpot p1)))), (1, (.d (.list (List.map eSpot p2))))], G []⟩) (sb_of ⟨.of rfl, .of rfl, trivial⟩ trivial) ?_)
  refine l_seq ?_
  refine l_reg fun u1 hu1 => ?_
  refine s_val (.d _) rfl rfl ?_
  refine s_nil ?_
  refine l_seq ?_
  refine l_seq ?_
  refine l_reg fun u2 hu2 => ?_
  refine s_val (.d _) rfl rfl ?_
  refine s_val (.d _) rfl (v_len rfl) ?_
  refine s_val (.d _) rfl rfl ?_
  refine s_val (.d _) rfl (v_len rfl) ?_
  refine s_val (.d _) rfl rfl ?_
  refine s_nil ?_
  refine l_cond ((p1.length : Int) != (p2.length : Int)) rfl (fun c1 => ?_) (fun c1 => ?_)
  · replace h := cond_t c1 h
    refine l_seq ?_
    refine l_reg fun u3 hu3 => ?_
    refine s_val (.d _) rfl rfl ?_
    refine s_nil ?_
    refine l_ret ?_
    obtain rfl := Option.some.inj h
    refine fin_ok (.inr rfl) (resD1 (res_t rfl) rf_d) ?_
    exact (.refl _)
  · replace h := cond_f c1 h
    refine l_skip ?_
    refine l_seq ?_
    refine l_seq ?_
    refine l_reg fun u4 hu4 => ?_
    refine s_val (.d _) rfl rfl ?_
    refine s_val (.d _) rfl (v_len rfl) ?_
    refine s_val (.d _) rfl rfl ?_
    refine s_nil ?_
    obtain ⟨z1, hz1, h⟩ := thenS_some h
    refine l_join (fun s => ∃ (y1 : Unit) (g1 : Unit), z1 = .inl y1 ∧ Sb ⟨T [], G []⟩ s) ?_ ?_
    · skip
      refine l_block ?_
      refine l_loop (slices_Equal_Spot_Spot_l1 p1 p2) (fun (x1 : Int) (g2 : Unit) => ⟨T [(0, (.d (.list (List.map eSpot p1)))), (1, (.d (.list (List.map eSpot p2)))), (12, (.d (i64 (p1.length : Int)))), (13, (.d (i64 x1)))], G []⟩) 0 () _ hz1 (sb_of ⟨.of rfl, .of rfl, .of rfl, .of rfl, trivial⟩ trivial) ?_
      intro x1 g2 z2 hz2 ez2
      unfold slices_Equal_Spot_Spot_l1 at hz2
      refine l_seq ?_
      refine l_reg fun u5 hu5 => ?_
      refine s_val (.d _) rfl rfl ?_
      refine s_nil ?_
      refine l_seq ?_
      refine l_cond (decide (x1 < (p1.length : Int))) rfl (fun c2 => ?_) (fun c2 => ?_)
      · replace hz2 := cond_t c2 hz2
        refine l_skip ?_
        refine l_seq ?_
        refine l_block ?_
        refine l_seq ?_
        refine l_reg fun u6 hu6 => ?_
        refine s_val (.d _) rfl rfl ?_
        refine s_val (.d _) rfl rfl ?_
        refine s_nil ?_
        refine l_seq ?_
        refine l_draw rfl fun u7 hu7 => ?_
        refine s_val (.d _) rfl rfl ?_
        refine s_val (.d _) rfl rfl ?_
        obtain ⟨v1, hv1, hz2⟩ := bind_some hz2
        refine s_val (.d _) rfl (v_idx rfl rfl hv1 rfl) ?_
        refine s_val (.d _) rfl (v_loadLG rfl hv1 rfl rfl) ?_
        refine s_val (.d _) rfl rfl ?_
        refine s_val (.d _) rfl rfl ?_
        obtain ⟨v2, hv2, hz2⟩ := bind_some hz2
        refine s_val (.d _) rfl (v_idx rfl rfl hv2 rfl) ?_
        refine s_val (.d _) rfl (v_loadLG rfl hv2 rfl rfl) ?_
        refine s_val (.d _) rfl rfl ?_
        refine s_nil ?_
        refine l_cond (!(v1.X == v2.X && (v1.Y == v2.Y && true))) rfl (fun c3 => ?_) (fun c3 => ?_)
        · replace hz2 := cond_t c3 hz2
          refine l_seq ?_
          refine l_reg fun u8 hu8 => ?_
          refine s_val (.d _) rfl rfl ?_
          refine s_nil ?_
          refine l_ret ?_
          obtain rfl := Option.some.inj hz2
          obtain rfl := ez2 _ rfl
          refine ⟨nofun, awl_ret ?_⟩
          rw [Sum.elim_inr] at h
          obtain rfl := Option.some.inj h
          refine fin_ok (.inr rfl) (resD1 (res_t rfl) rf_d) ?_
          exact (.refl _)
        · replace hz2 := cond_f c3 hz2
          refine l_skip ?_
          refine l_end ?_
          refine l_reg fun u9 hu9 => ?_
          refine s_val (.d _) rfl rfl ?_
          refine s_val (.d _) rfl rfl ?_
          refine s_nil ?_
          refine l_nil ?_
          obtain rfl := Option.some.inj hz2
          exact ⟨rfl, (), (sb_of ⟨.of rfl, .of rfl, .of rfl, .of rfl, trivial⟩ trivial)⟩
      · replace hz2 := cond_f c2 hz2
        refine l_exitN rfl ?_
        obtain rfl := Option.some.inj hz2
        obtain rfl := ez2 _ rfl
        refine ⟨nofun, awl_pop rfl (l_j ?_)⟩
        exact ⟨_, (), rfl, (sb_of trivial trivial)⟩
    · rintro _ ⟨y1, g1, rfl, q1⟩
      rw [Sum.elim_inl] at h
      refine l_sub q1 ?_
      refine l_seq ?_
      refine l_reg fun u10 hu10 => ?_
      refine s_val (.d _) rfl rfl ?_
      refine s_nil ?_
      refine l_ret ?_
      obtain rfl := Option.some.inj h
      refine fin_ok (.inr rfl) (resD1 (res_t rfl) rf_d) ?_
      exact (.refl _)

noncomputable def curve_Same (p1 : Curve) (p2 : Curve) : Option Bool :=
  (slices_Equal_Spot_Spot p1.Pts p2.Pts).bind fun v1 => some v1

/-- kerbstone/curve.Same -/
def ac_curve_Same : AC :=
  (.seq (.reg [⟨(some 2), .box 24 true (.t 0), none⟩, ⟨(some 3), .box 24 true (.t 1), none⟩, ⟨(some 4), .mv (.c (.v (.bool false))), none⟩])
  (.seq (.reg [⟨(some 5), .fieldA 0 (.t 2), none⟩, ⟨(some 6), .load 1 false (.t 5), none⟩, ⟨(some 7), .fieldA 0 (.t 3), none⟩, ⟨(some 8), .load 1 false (.t 7), none⟩, ⟨(some 9), .call (.c (.fn (.func 77) [] [])) [(.t 6), (.t 8)], none⟩, ⟨(some 4), .mv (.t 9), none⟩])
  .ret))
theorem fn_curve_Same : FnOK Try.prog 43 10 [.t 4] ac_curve_Same := ⟨_, _, Try.func43, rfl, Try.ntmps43, by kernel_rfl, ⟨fun _ => [], by kernel_rfl⟩, by kernel_rfl⟩
theorem curve_Same_ok (p1 : Curve) (p2 : Curve) (r : Bool) (h : curve_Same p1 p2 = some r) : PCall Try.prog 43 [(.agg [(.list (List.map eSpot p1.Pts))]), (.agg [(.list (List.map eSpot p2.Pts))])] (bo r) := by
  refine l_call fn_curve_Same (Nat.le_of_ble_eq_true rfl) ?_
  unfold curve_Same at h
  unfold ac_curve_Same
  refine (l_sub (s0 := ⟨T [(0, (.d (.agg [(.list (List.map eSpot p1.Pts))]))), (1, (.d (.agg [(.list (List.map eSpot p2.Pts))])))], G []⟩) (sb_of ⟨.of rfl, .of rfl, trivial⟩ trivial) ?_)
  refine l_seq ?_
  refine l_reg fun u1 hu1 => ?_
  refine s_new (.ptr _ _) (.box _ _) rfl rfl ?_
  refine s_new (.ptr _ _) (.box _ _) rfl rfl ?_
  refine s_val (.d _) rfl rfl ?_
  refine s_nil ?_
  refine l_seq ?_
  refine l_reg fun u2 hu2 => ?_
  refine s_val (.ptr _ _) rfl rfl ?_
  refine s_val (.d _) rfl (v_load rfl (G_skip rfl G_hit) rfl) ?_
  refine s_val (.ptr _ _) rfl rfl ?_
  refine s_val (.d _) rfl (v_load rfl G_hit rfl) ?_
  obtain ⟨v1, hv1, h⟩ := bind_some h
  refine s_call rfl rfl all2_refl (slices_Equal_Spot_Spot_ok _ _  _ hv1) (.inl rfl) ?_
  refine s_val (.d _) rfl rfl ?_
  refine s_nil ?_
  refine l_ret ?_
  obtain rfl := Option.some.inj h
  refine fin_ok (.inr rfl) (resD1 (res_t rfl) rf_d) ?_
  exact (.refl _)

noncomputable def law01_CurveKnown : Option Bool :=
  (law01_bent).bind fun v1 => (law01_awake).bind fun v2 => ((cond (!(!v2)) (curve_Check v1) (some default))).bind fun v3 => ((cond (!((!v2) || (v3 != 0))) (curve_Pieces v1) (some default))).bind fun v4 => ((cond (!((!v2) || (v3 != 0))) (kit_SameLongs v4 [5000, 5000]) (some default))).bind fun v5 => ((cond (!(((!v2) || (v3 != 0)) || (!v5))) (law01_of [0, 0]) (some default))).bind fun v6 => ((cond (!(((!v2) || (v3 != 0)) || (!v5))) (curve_Check v6) (some default))).bind fun v7 => ((cond (!((((!v2) || (v3 != 0)) || (!v5)) || (v7 != 6))) (law01_of [0, 0, 300, 400]) (some default))).bind fun v8 => ((cond (!((((!v2) || (v3 != 0)) || (!v5)) || (v7 != 6))) (curve_Check v8) (some default))).bind fun v9 => ((cond (!(((((!v2) || (v3 != 0)) || (!v5)) || (v7 != 6)) || (v9 != 2))) (law01_of [0, 0, 3000, 0, 3000, 2000]) (some default))).bind fun v10 => ((cond (!(((((!v2) || (v3 != 0)) || (!v5)) || (v7 != 6)) || (v9 != 2))) (curve_Check v10) (some default))).bind fun v11 => cond ((((((!v2) || (v3 != 0)) || (!v5)) || (v7 != 6)) || (v9 != 2)) || (v11 != 12)) (some false) ((curve_Piece v1 5000).bind fun v12 => (curve_Piece v1 10000).bind fun v13 => (curve_Piece v1 (-3)).bind fun v14 => (curve_At v1 1).bind fun v15 => ((cond (v15.X == 0 && (v15.Y == 0 && true)) (curve_At v1 5001) (some default))).bind fun v16 => ((cond ((v15.X == 0 && (v15.Y == 0 && true)) && (v16.X == 3001 && (v16.Y == 4000 && true))) (curve_At v1 99999) (some default))).bind fun v17 => (curve_Side (Spot.mk 0 0) (Spot.mk 1 0) (Spot.mk 0 1)).bind fun v18 => ((cond (v18 == 1) (curve_Dist2 (Spot.mk 0 0) (Spot.mk 3 4)) (some default))).bind fun v19 => ((cond ((v18 == 1) && (v19 == 25)) (curve_Blocks (Spot.mk 0 0) (Spot.mk 10 0) (Spot.mk 5 (-5)) (Spot.mk 5 0)) (some default))).bind fun v20 => ((cond (((v18 == 1) && (v19 == 25)) && v20) (curve_Blocks (Spot.mk 0 0) (Spot.mk 10 0) (Spot.mk 11 0) (Spot.mk 20 0)) (some default))).bind fun v21 => (curve_Sees (Spot.mk 0 0) (Spot.mk 3 4) 5).bind fun v22 => ((cond v22 (curve_Sees (Spot.mk 0 0) (Spot.mk 3 4) 4) (some default))).bind fun v23 => (curve_Near v1 (Spot.mk 4000 5000) 1000).bind fun v24 => (kit_SameLongs v24 [6000]).bind fun v25 => ((cond v25 (curve_Near v1 (Spot.mk 3000 4000) 0) (some default))).bind fun v26 => ((cond v25 (kit_SameLongs v26 [5000, 5000]) (some default))).bind fun v27 => ((cond (v25 && v27) (curve_Near v1 (Spot.mk 4000 5001) 1000) (some default))).bind fun v28 => ((cond ((v25 && v27) && ((v28.length : Int) == 0)) (curve_Holds v1 1000 (Spot.mk 4000 5000)) (some default))).bind fun v29 => ((cond (((v25 && v27) && ((v28.length : Int) == 0)) && v29) (curve_Holds v1 999 (Spot.mk 4000 5000)) (some default))).bind fun v30 => (law01_of [0, 0, 10000, 0]).bind fun v31 => (law01_of [5000, (-5000), 5000, 5000]).bind fun v32 => (law01_of [0, 1500, 10000, 1500]).bind fun v33 => (curve_Corridors v31 1000 v32 500).bind fun v34 => (kit_SameCrosses v34 [(Cross.mk 4499 5501 3999 6001)]).bind fun v35 => ((cond v35 (curve_Corridors v31 1000 v33 500) (some default))).bind fun v36 => ((cond v35 (kit_SameCrosses v36 [(Cross.mk 0 10000 0 10000)]) (some default))).bind fun v37 => ((cond (v35 && v37) (curve_Corridors v31 999 v33 500) (some default))).bind fun v38 => (law01_of [10000, 0, 13000, 4000]).bind fun v39 => (curve_Join v31 v39).bind fun v40 => (curve_Join v31 v32).bind fun v41 => ((cond ((((((((((((v12.1 == 1) && (v12.2 == 0)) && (v13.1 == 1)) && (v13.2 == 5000)) && (v14.1 == 0)) && (v14.2 == 0)) && (((v15.X == 0 && (v15.Y == 0 && true)) && (v16.X == 3001 && (v16.Y == 4000 && true))) && (v17.X == 8000 && (v17.Y == 4000 && true)))) && ((((v18 == 1) && (v19 == 25)) && v20) && (!v21))) && (v22 && (!v23))) && ((((v25 && v27) && ((v28.length : Int) == 0)) && v29) && (!v30))) && ((v35 && v37) && ((v38.length : Int) == 0))) && (v40.2 == 0)) (law01_of [0, 0, 10000, 0, 13000, 4000]) (some default))).bind fun v42 => ((cond ((((((((((((v12.1 == 1) && (v12.2 == 0)) && (v13.1 == 1)) && (v13.2 == 5000)) && (v14.1 == 0)) && (v14.2 == 0)) && (((v15.X == 0 && (v15.Y == 0 && true)) && (v16.X == 3001 && (v16.Y == 4000 && true))) && (v17.X == 8000 && (v17.Y == 4000 && true)))) && ((((v18 == 1) && (v19 == 25)) && v20) && (!v21))) && (v22 && (!v23))) && ((((v25 && v27) && ((v28.length : Int) == 0)) && v29) && (!v30))) && ((v35 && v37) && ((v38.length : Int) == 0))) && (v40.2 == 0)) (curve_Same v40.1 v42) (some default))).bind fun v43 => some ((((((((((((((v12.1 == 1) && (v12.2 == 0)) && (v13.1 == 1)) && (v13.2 == 5000)) && (v14.1 == 0)) && (v14.2 == 0)) && (((v15.X == 0 && (v15.Y == 0 && true)) && (v16.X == 3001 && (v16.Y == 4000 && true))) && (v17.X == 8000 && (v17.Y == 4000 && true)))) && ((((v18 == 1) && (v19 == 25)) && v20) && (!v21))) && (v22 && (!v23))) && ((((v25 && v27) && ((v28.length : Int) == 0)) && v29) && (!v30))) && ((v35 && v37) && ((v38.length : Int) == 0))) && (v40.2 == 0)) && v43) && (v41.2 == 7)))

/-- kerbstone/kerbstonelaw01.CurveKnown -/
def ac_law01_CurveKnown : AC :=
  (.seq (.reg [⟨(some 0), .mv (.c (.v (.bool false))), none⟩])
  (.seq (.reg [⟨(some 23), .call (.c (.fn (.func 56) [] [])) [], none⟩, ⟨(some 1), .alloc 24 [.nilS], none⟩, ⟨none, .store 1 (.t 1) (.t 23), none⟩])
  (.seq (.seq (.reg [⟨(some 24), .call (.c (.fn (.func 18) [] [])) [], none⟩, ⟨(some 25), .un .not (.t 24), none⟩, ⟨(some 26), .mv (.t 25), none⟩, ⟨(some 27), .load 1 true (.t 1), (some (26, false))⟩, ⟨(some 28), .call (.c (.fn (.func 20) [] [])) [(.t 27)], (some (26, false))⟩, ⟨(some 29), .bin .neq (.t 28) (.c (.v (.int .i64 0))), (some (26, false))⟩, ⟨(some 30), .pick (.t 26) (.c (.v (.bool true))) (.t 29), none⟩, ⟨(some 31), .mv (.t 30), none⟩, ⟨(some 32), .load 1 true (.t 1), (some (31, false))⟩, ⟨(some 33), .call (.c (.fn (.func 25) [] [])) [(.t 32)], (some (31, false))⟩, ⟨(some 34), .dslice 2 1 2 [(.v (.int .i64 0))] [(0, 1, (.c (.v (.int .i64 5000)))), (1, 1, (.c (.v (.int .i64 5000))))], (some (31, false))⟩, ⟨(some 35), .call (.c (.fn (.func 24) [] [])) [(.t 33), (.t 34)], (some (31, false))⟩, ⟨(some 36), .un .not (.t 35), (some (31, false))⟩, ⟨(some 37), .pick (.t 31) (.c (.v (.bool true))) (.t 36), none⟩, ⟨(some 38), .mv (.t 37), none⟩, ⟨(some 39), .dslice 2 1 2 [(.v (.int .i64 0))] [(0, 1, (.c (.v (.int .i64 0)))), (1, 1, (.c (.v (.int .i64 0))))], (some (38, false))⟩, ⟨(some 40), .call (.c (.fn (.func 57) [] [])) [(.t 39)], (some (38, false))⟩, ⟨(some 41), .call (.c (.fn (.func 20) [] [])) [(.t 40)], (some (38, false))⟩, ⟨(some 42), .bin .neq (.t 41) (.c (.v (.int .i64 6))), (some (38, false))⟩, ⟨(some 43), .pick (.t 38) (.c (.v (.bool true))) (.t 42), none⟩, ⟨(some 44), .mv (.t 43), none⟩, ⟨(some 45), .dslice 2 1 4 [(.v (.int .i64 0))] [(0, 1, (.c (.v (.int .i64 0)))), (1, 1, (.c (.v (.int .i64 0)))), (2, 1, (.c (.v (.int .i64 300)))), (3, 1, (.c (.v (.int .i64 400))))], (some (44, false))⟩, ⟨(some 46), .call (.c (.fn (.func 57) [] [])) [(.t 45)], (some (44, false))⟩, ⟨(some 47), .call (.c (.fn (.func 20) [] [])) [(.t 46)], (some (44, false))⟩, ⟨(some 48), .bin .neq (.t 47) (.c (.v (.int .i64 2))), (some (44, false))⟩, ⟨(some 49), .pick (.t 44) (.c (.v (.bool true))) (.t 48), none⟩, ⟨(some 50), .mv (.t 49), none⟩, ⟨(some 51), .dslice 2 1 6 [(.v (.int .i64 0))] [(0, 1, (.c (.v (.int .i64 0)))), (1, 1, (.c (.v (.int .i64 0)))), (2, 1, (.c (.v (.int .i64 3000)))), (3, 1, (.c (.v (.int .i64 0)))), (4, 1, (.c (.v (.int .i64 3000)))), (5, 1, (.c (.v (.int .i64 2000))))], (some (50, false))⟩, ⟨(some 52), .call (.c (.fn (.func 57) [] [])) [(.t 51)], (some (50, false))⟩, ⟨(some 53), .call (.c (.fn (.func 20) [] [])) [(.t 52)], (some (50, false))⟩, ⟨(some 54), .bin .neq (.t 53) (.c (.v (.int .i64 12))), (some (50, false))⟩, ⟨(some 55), .pick (.t 50) (.c (.v (.bool true))) (.t 54), none⟩])
  (.cond (.t 55)
    (.seq (.reg [⟨(some 0), .mv (.c (.v (.bool false))), none⟩])
    .ret)
    .skip))
  (.seq (.reg [⟨(some 57), .load 1 true (.t 1), none⟩, ⟨(some 58), .call (.c (.fn (.func 29) [] [])) [(.t 57), (.c (.v (.int .i64 5000)))], none⟩, ⟨(some 56), .mv (.t 58), none⟩, ⟨(some 59), .ext (.t 56) 0, none⟩, ⟨(some 60), .ext (.t 56) 1, none⟩, ⟨(some 2), .mv (.t 59), none⟩, ⟨(some 3), .mv (.t 60), none⟩])
  (.seq (.reg [⟨(some 62), .load 1 true (.t 1), none⟩, ⟨(some 63), .call (.c (.fn (.func 29) [] [])) [(.t 62), (.c (.v (.int .i64 10000)))], none⟩, ⟨(some 61), .mv (.t 63), none⟩, ⟨(some 64), .ext (.t 61) 0, none⟩, ⟨(some 65), .ext (.t 61) 1, none⟩, ⟨(some 4), .mv (.t 64), none⟩, ⟨(some 5), .mv (.t 65), none⟩])
  (.seq (.reg [⟨(some 67), .load 1 true (.t 1), none⟩, ⟨(some 68), .call (.c (.fn (.func 29) [] [])) [(.t 67), (.c (.v (.int .i64 (-3))))], none⟩, ⟨(some 66), .mv (.t 68), none⟩, ⟨(some 69), .ext (.t 66) 0, none⟩, ⟨(some 70), .ext (.t 66) 1, none⟩, ⟨(some 6), .mv (.t 69), none⟩, ⟨(some 7), .mv (.t 70), none⟩])
  (.seq (.reg [⟨(some 71), .mv (.t 2), none⟩, ⟨(some 72), .bin .eql (.t 71) (.c (.v (.int .i64 1))), none⟩, ⟨(some 73), .mv (.t 72), none⟩, ⟨(some 74), .mv (.t 3), (some (73, true))⟩, ⟨(some 75), .bin .eql (.t 74) (.c (.v (.int .i64 0))), (some (73, true))⟩, ⟨(some 76), .pick (.t 73) (.t 75) (.c (.v (.bool false))), none⟩, ⟨(some 77), .mv (.t 76), none⟩, ⟨(some 78), .mv (.t 4), (some (77, true))⟩, ⟨(some 79), .bin .eql (.t 78) (.c (.v (.int .i64 1))), (some (77, true))⟩, ⟨(some 80), .pick (.t 77) (.t 79) (.c (.v (.bool false))), none⟩, ⟨(some 81), .mv (.t 80), none⟩, ⟨(some 82), .mv (.t 5), (some (81, true))⟩, ⟨(some 83), .bin .eql (.t 82) (.c (.v (.int .i64 5000))), (some (81, true))⟩, ⟨(some 84), .pick (.t 81) (.t 83) (.c (.v (.bool false))), none⟩, ⟨(some 85), .mv (.t 84), none⟩, ⟨(some 86), .mv (.t 6), (some (85, true))⟩, ⟨(some 87), .bin .eql (.t 86) (.c (.v (.int .i64 0))), (some (85, true))⟩, ⟨(some 88), .pick (.t 85) (.t 87) (.c (.v (.bool false))), none⟩, ⟨(some 89), .mv (.t 88), none⟩, ⟨(some 90), .mv (.t 7), (some (89, true))⟩, ⟨(some 91), .bin .eql (.t 90) (.c (.v (.int .i64 0))), (some (89, true))⟩, ⟨(some 92), .pick (.t 89) (.t 91) (.c (.v (.bool false))), none⟩, ⟨(some 8), .mv (.t 92), none⟩])
  (.seq (.reg [⟨(some 93), .load 1 true (.t 1), none⟩, ⟨(some 94), .call (.c (.fn (.func 31) [] [])) [(.t 93), (.c (.v (.int .i64 1)))], none⟩, ⟨(some 95), .build [(.v (.int .i64 0)), (.v (.int .i64 0))] [], none⟩, ⟨(some 96), .eqA false [false, false] (.t 94) (.t 95), none⟩, ⟨(some 97), .mv (.t 96), none⟩, ⟨(some 98), .load 1 true (.t 1), (some (97, true))⟩, ⟨(some 99), .call (.c (.fn (.func 31) [] [])) [(.t 98), (.c (.v (.int .i64 5001)))], (some (97, true))⟩, ⟨(some 100), .build [(.v (.int .i64 0)), (.v (.int .i64 0))] [(0, 1, (.c (.v (.int .i64 3001)))), (1, 1, (.c (.v (.int .i64 4000))))], (some (97, true))⟩, ⟨(some 101), .eqA false [false, false] (.t 99) (.t 100), (some (97, true))⟩, ⟨(some 102), .pick (.t 97) (.t 101) (.c (.v (.bool false))), none⟩, ⟨(some 103), .mv (.t 102), none⟩, ⟨(some 104), .load 1 true (.t 1), (some (103, true))⟩, ⟨(some 105), .call (.c (.fn (.func 31) [] [])) [(.t 104), (.c (.v (.int .i64 99999)))], (some (103, true))⟩, ⟨(some 106), .build [(.v (.int .i64 0)), (.v (.int .i64 0))] [(0, 1, (.c (.v (.int .i64 8000)))), (1, 1, (.c (.v (.int .i64 4000))))], (some (103, true))⟩, ⟨(some 107), .eqA false [false, false] (.t 105) (.t 106), (some (103, true))⟩, ⟨(some 108), .pick (.t 103) (.t 107) (.c (.v (.bool false))), none⟩, ⟨(some 9), .mv (.t 108), none⟩])
  (.seq (.reg [⟨(some 109), .build [(.v (.int .i64 0)), (.v (.int .i64 0))] [], none⟩, ⟨(some 10), .alloc 43 [(.v (.int .i64 0)), (.v (.int .i64 0))], none⟩, ⟨none, .store 2 (.t 10) (.t 109), none⟩])
  (.seq (.reg [⟨(some 110), .load 2 true (.t 10), none⟩, ⟨(some 111), .build [(.v (.int .i64 0)), (.v (.int .i64 0))] [(0, 1, (.c (.v (.int .i64 1))))], none⟩, ⟨(some 112), .build [(.v (.int .i64 0)), (.v (.int .i64 0))] [(1, 1, (.c (.v (.int .i64 1))))], none⟩, ⟨(some 113), .call (.c (.fn (.func 45) [] [])) [(.t 110), (.t 111), (.t 112)], none⟩, ⟨(some 114), .bin .eql (.t 113) (.c (.v (.int .i64 1))), none⟩, ⟨(some 115), .mv (.t 114), none⟩, ⟨(some 116), .load 2 true (.t 10), (some (115, true))⟩, ⟨(some 117), .build [(.v (.int .i64 0)), (.v (.int .i64 0))] [(0, 1, (.c (.v (.int .i64 3)))), (1, 1, (.c (.v (.int .i64 4))))], (some (115, true))⟩, ⟨(some 118), .call (.c (.fn (.func 47) [] [])) [(.t 116), (.t 117)], (some (115, true))⟩, ⟨(some 119), .bin .eql (.t 118) (.c (.v (.int .i64 25))), (some (115, true))⟩, ⟨(some 120), .pick (.t 115) (.t 119) (.c (.v (.bool false))), none⟩, ⟨(some 121), .mv (.t 120), none⟩, ⟨(some 122), .load 2 true (.t 10), (some (121, true))⟩, ⟨(some 123), .build [(.v (.int .i64 0)), (.v (.int .i64 0))] [(0, 1, (.c (.v (.int .i64 10))))], (some (121, true))⟩, ⟨(some 124), .build [(.v (.int .i64 0)), (.v (.int .i64 0))] [(0, 1, (.c (.v (.int .i64 5)))), (1, 1, (.c (.v (.int .i64 (-5)))))], (some (121, true))⟩, ⟨(some 125), .build [(.v (.int .i64 0)), (.v (.int .i64 0))] [(0, 1, (.c (.v (.int .i64 5))))], (some (121, true))⟩, ⟨(some 126), .call (.c (.fn (.func 49) [] [])) [(.t 122), (.t 123), (.t 124), (.t 125)], (some (121, true))⟩, ⟨(some 127), .pick (.t 121) (.t 126) (.c (.v (.bool false))), none⟩, ⟨(some 128), .mv (.t 127), none⟩, ⟨(some 129), .load 2 true (.t 10), (some (128, true))⟩, ⟨(some 130), .build [(.v (.int .i64 0)), (.v (.int .i64 0))] [(0, 1, (.c (.v (.int .i64 10))))], (some (128, true))⟩, ⟨(some 131), .build [(.v (.int .i64 0)), (.v (.int .i64 0))] [(0, 1, (.c (.v (.int .i64 11))))], (some (128, true))⟩, ⟨(some 132), .build [(.v (.int .i64 0)), (.v (.int .i64 0))] [(0, 1, (.c (.v (.int .i64 20))))], (some (128, true))⟩, ⟨(some 133), .call (.c (.fn (.func 49) [] [])) [(.t 129), (.t 130), (.t 131), (.t 132)], (some (128, true))⟩, ⟨(some 134), .un .not (.t 133), (some (128, true))⟩, ⟨(some 135), .pick (.t 128) (.t 134) (.c (.v (.bool false))), none⟩, ⟨(some 11), .mv (.t 135), none⟩])
  (.seq (.reg [⟨(some 136), .load 2 true (.t 10), none⟩, ⟨(some 137), .build [(.v (.int .i64 0)), (.v (.int .i64 0))] [(0, 1, (.c (.v (.int .i64 3)))), (1, 1, (.c (.v (.int .i64 4))))], none⟩, ⟨(some 138), .call (.c (.fn (.func 51) [] [])) [(.t 136), (.t 137), (.c (.v (.int .i64 5)))], none⟩, ⟨(some 139), .mv (.t 138), none⟩, ⟨(some 140), .load 2 true (.t 10), (some (139, true))⟩, ⟨(some 141), .build [(.v (.int .i64 0)), (.v (.int .i64 0))] [(0, 1, (.c (.v (.int .i64 3)))), (1, 1, (.c (.v (.int .i64 4))))], (some (139, true))⟩, ⟨(some 142), .call (.c (.fn (.func 51) [] [])) [(.t 140), (.t 141), (.c (.v (.int .i64 4)))], (some (139, true))⟩, ⟨(some 143), .un .not (.t 142), (some (139, true))⟩, ⟨(some 144), .pick (.t 139) (.t 143) (.c (.v (.bool false))), none⟩, ⟨(some 12), .mv (.t 144), none⟩])
  (.seq (.reg [⟨(some 145), .build [(.v (.int .i64 0)), (.v (.int .i64 0))] [(0, 1, (.c (.v (.int .i64 4000)))), (1, 1, (.c (.v (.int .i64 5000))))], none⟩, ⟨(some 13), .alloc 43 [(.v (.int .i64 0)), (.v (.int .i64 0))], none⟩, ⟨none, .store 2 (.t 13) (.t 145), none⟩])
  (.seq (.reg [⟨(some 146), .load 1 true (.t 1), none⟩, ⟨(some 147), .load 2 true (.t 13), none⟩, ⟨(some 148), .call (.c (.fn (.func 34) [] [])) [(.t 146), (.t 147), (.c (.v (.int .i64 1000)))], none⟩, ⟨(some 149), .dslice 2 1 1 [(.v (.int .i64 0))] [(0, 1, (.c (.v (.int .i64 6000))))], none⟩, ⟨(some 150), .call (.c (.fn (.func 24) [] [])) [(.t 148), (.t 149)], none⟩, ⟨(some 151), .mv (.t 150), none⟩, ⟨(some 152), .load 1 true (.t 1), (some (151, true))⟩, ⟨(some 153), .build [(.v (.int .i64 0)), (.v (.int .i64 0))] [(0, 1, (.c (.v (.int .i64 3000)))), (1, 1, (.c (.v (.int .i64 4000))))], (some (151, true))⟩, ⟨(some 154), .call (.c (.fn (.func 34) [] [])) [(.t 152), (.t 153), (.c (.v (.int .i64 0)))], (some (151, true))⟩, ⟨(some 155), .dslice 2 1 2 [(.v (.int .i64 0))] [(0, 1, (.c (.v (.int .i64 5000)))), (1, 1, (.c (.v (.int .i64 5000))))], (some (151, true))⟩, ⟨(some 156), .call (.c (.fn (.func 24) [] [])) [(.t 154), (.t 155)], (some (151, true))⟩, ⟨(some 157), .pick (.t 151) (.t 156) (.c (.v (.bool false))), none⟩, ⟨(some 158), .mv (.t 157), none⟩, ⟨(some 159), .load 1 true (.t 1), (some (158, true))⟩, ⟨(some 160), .build [(.v (.int .i64 0)), (.v (.int .i64 0))] [(0, 1, (.c (.v (.int .i64 4000)))), (1, 1, (.c (.v (.int .i64 5001))))], (some (158, true))⟩, ⟨(some 161), .call (.c (.fn (.func 34) [] [])) [(.t 159), (.t 160), (.c (.v (.int .i64 1000)))], (some (158, true))⟩, ⟨(some 162), .len (.t 161), (some (158, true))⟩, ⟨(some 163), .bin .eql (.t 162) (.c (.v (.int .i64 0))), (some (158, true))⟩, ⟨(some 164), .pick (.t 158) (.t 163) (.c (.v (.bool false))), none⟩, ⟨(some 165), .mv (.t 164), none⟩, ⟨(some 166), .load 1 true (.t 1), (some (165, true))⟩, ⟨(some 167), .load 2 true (.t 13), (some (165, true))⟩, ⟨(some 168), .call (.c (.fn (.func 38) [] [])) [(.t 166), (.c (.v (.int .i64 1000))), (.t 167)], (some (165, true))⟩, ⟨(some 169), .pick (.t 165) (.t 168) (.c (.v (.bool false))), none⟩, ⟨(some 170), .mv (.t 169), none⟩, ⟨(some 171), .load 1 true (.t 1), (some (170, true))⟩, ⟨(some 172), .load 2 true (.t 13), (some (170, true))⟩, ⟨(some 173), .call (.c (.fn (.func 38) [] [])) [(.t 171), (.c (.v (.int .i64 999))), (.t 172)], (some (170, true))⟩, ⟨(some 174), .un .not (.t 173), (some (170, true))⟩, ⟨(some 175), .pick (.t 170) (.t 174) (.c (.v (.bool false))), none⟩, ⟨(some 14), .mv (.t 175), none⟩])
  (.seq (.reg [⟨(some 176), .dslice 2 1 4 [(.v (.int .i64 0))] [(0, 1, (.c (.v (.int .i64 0)))), (1, 1, (.c (.v (.int .i64 0)))), (2, 1, (.c (.v (.int .i64 10000)))), (3, 1, (.c (.v (.int .i64 0))))], none⟩, ⟨(some 177), .call (.c (.fn (.func 57) [] [])) [(.t 176)], none⟩, ⟨(some 178), .dslice 2 1 4 [(.v (.int .i64 0))] [(0, 1, (.c (.v (.int .i64 5000)))), (1, 1, (.c (.v (.int .i64 (-5000))))), (2, 1, (.c (.v (.int .i64 5000)))), (3, 1, (.c (.v (.int .i64 5000))))], none⟩, ⟨(some 179), .call (.c (.fn (.func 57) [] [])) [(.t 178)], none⟩, ⟨(some 180), .dslice 2 1 4 [(.v (.int .i64 0))] [(0, 1, (.c (.v (.int .i64 0)))), (1, 1, (.c (.v (.int .i64 1500)))), (2, 1, (.c (.v (.int .i64 10000)))), (3, 1, (.c (.v (.int .i64 1500))))], none⟩, ⟨(some 181), .call (.c (.fn (.func 57) [] [])) [(.t 180)], none⟩, ⟨(some 15), .alloc 24 [.nilS], none⟩, ⟨(some 16), .alloc 24 [.nilS], none⟩, ⟨(some 17), .alloc 24 [.nilS], none⟩, ⟨none, .store 1 (.t 15) (.t 177), none⟩, ⟨none, .store 1 (.t 16) (.t 179), none⟩, ⟨none, .store 1 (.t 17) (.t 181), none⟩])
  (.seq (.reg [⟨(some 182), .load 1 true (.t 15), none⟩, ⟨(some 183), .load 1 true (.t 16), none⟩, ⟨(some 184), .call (.c (.fn (.func 54) [] [])) [(.t 182), (.c (.v (.int .i64 1000))), (.t 183), (.c (.v (.int .i64 500)))], none⟩, ⟨(some 185), .build [(.v (.int .i64 0)), (.v (.int .i64 0)), (.v (.int .i64 0)), (.v (.int .i64 0))] [(0, 1, (.c (.v (.int .i64 4499)))), (1, 1, (.c (.v (.int .i64 5501)))), (2, 1, (.c (.v (.int .i64 3999)))), (3, 1, (.c (.v (.int .i64 6001))))], none⟩, ⟨(some 186), .dslice 69 4 1 [(.v (.int .i64 0)), (.v (.int .i64 0)), (.v (.int .i64 0)), (.v (.int .i64 0))] [(0, 4, (.t 185))], none⟩, ⟨(some 187), .call (.c (.fn (.func 53) [] [])) [(.t 184), (.t 186)], none⟩, ⟨(some 188), .mv (.t 187), none⟩, ⟨(some 189), .load 1 true (.t 15), (some (188, true))⟩, ⟨(some 190), .load 1 true (.t 17), (some (188, true))⟩, ⟨(some 191), .call (.c (.fn (.func 54) [] [])) [(.t 189), (.c (.v (.int .i64 1000))), (.t 190), (.c (.v (.int .i64 500)))], (some (188, true))⟩, ⟨(some 192), .build [(.v (.int .i64 0)), (.v (.int .i64 0)), (.v (.int .i64 0)), (.v (.int .i64 0))] [(1, 1, (.c (.v (.int .i64 10000)))), (3, 1, (.c (.v (.int .i64 10000))))], (some (188, true))⟩, ⟨(some 193), .dslice 69 4 1 [(.v (.int .i64 0)), (.v (.int .i64 0)), (.v (.int .i64 0)), (.v (.int .i64 0))] [(0, 4, (.t 192))], (some (188, true))⟩, ⟨(some 194), .call (.c (.fn (.func 53) [] [])) [(.t 191), (.t 193)], (some (188, true))⟩, ⟨(some 195), .pick (.t 188) (.t 194) (.c (.v (.bool false))), none⟩, ⟨(some 196), .mv (.t 195), none⟩, ⟨(some 197), .load 1 true (.t 15), (some (196, true))⟩, ⟨(some 198), .load 1 true (.t 17), (some (196, true))⟩, ⟨(some 199), .call (.c (.fn (.func 54) [] [])) [(.t 197), (.c (.v (.int .i64 999))), (.t 198), (.c (.v (.int .i64 500)))], (some (196, true))⟩, ⟨(some 200), .len (.t 199), (some (196, true))⟩, ⟨(some 201), .bin .eql (.t 200) (.c (.v (.int .i64 0))), (some (196, true))⟩, ⟨(some 202), .pick (.t 196) (.t 201) (.c (.v (.bool false))), none⟩, ⟨(some 18), .mv (.t 202), none⟩])
  (.seq (.draw [⟨(some 204), .load 1 true (.t 15), none⟩, ⟨(some 205), .dslice 2 1 4 [(.v (.int .i64 0))] [(0, 1, (.c (.v (.int .i64 10000)))), (1, 1, (.c (.v (.int .i64 0)))), (2, 1, (.c (.v (.int .i64 13000)))), (3, 1, (.c (.v (.int .i64 4000))))], none⟩, ⟨(some 206), .call (.c (.fn (.func 57) [] [])) [(.t 205)], none⟩, ⟨(some 207), .call (.c (.fn (.func 36) [] [])) [(.t 204), (.t 206)], none⟩, ⟨(some 203), .mv (.t 207), none⟩, ⟨(some 208), .ext (.t 203) 0, none⟩, ⟨(some 209), .ext (.t 203) 1, none⟩, ⟨(some 19), .alloc 24 [.nilS], none⟩, ⟨none, .store 1 (.t 19) (.t 208), none⟩, ⟨(some 20), .mv (.t 209), none⟩] [])
  (.seq (.reg [⟨(some 211), .load 1 true (.t 15), none⟩, ⟨(some 212), .load 1 true (.t 16), none⟩, ⟨(some 213), .call (.c (.fn (.func 36) [] [])) [(.t 211), (.t 212)], none⟩, ⟨(some 210), .mv (.t 213), none⟩, ⟨(some 214), .ext (.t 210) 0, none⟩, ⟨(some 215), .ext (.t 210) 1, none⟩, ⟨(some 21), .alloc 24 [.nilS], none⟩, ⟨none, .store 1 (.t 21) (.t 214), none⟩, ⟨(some 22), .mv (.t 215), none⟩])
  (.seq (.draw [⟨(some 216), .mv (.t 8), none⟩, ⟨(some 217), .mv (.t 216), none⟩, ⟨(some 218), .mv (.t 9), (some (217, true))⟩, ⟨(some 219), .pick (.t 217) (.t 218) (.c (.v (.bool false))), none⟩, ⟨(some 220), .mv (.t 219), none⟩, ⟨(some 221), .mv (.t 11), (some (220, true))⟩, ⟨(some 222), .pick (.t 220) (.t 221) (.c (.v (.bool false))), none⟩, ⟨(some 223), .mv (.t 222), none⟩, ⟨(some 224), .mv (.t 12), (some (223, true))⟩, ⟨(some 225), .pick (.t 223) (.t 224) (.c (.v (.bool false))), none⟩, ⟨(some 226), .mv (.t 225), none⟩, ⟨(some 227), .mv (.t 14), (some (226, true))⟩, ⟨(some 228), .pick (.t 226) (.t 227) (.c (.v (.bool false))), none⟩, ⟨(some 229), .mv (.t 228), none⟩, ⟨(some 230), .mv (.t 18), (some (229, true))⟩, ⟨(some 231), .pick (.t 229) (.t 230) (.c (.v (.bool false))), none⟩, ⟨(some 232), .mv (.t 231), none⟩, ⟨(some 233), .mv (.t 20), (some (232, true))⟩, ⟨(some 234), .bin .eql (.t 233) (.c (.v (.int .i64 0))), (some (232, true))⟩, ⟨(some 235), .pick (.t 232) (.t 234) (.c (.v (.bool false))), none⟩, ⟨(some 236), .mv (.t 235), none⟩, ⟨(some 237), .load 1 true (.t 19), (some (236, true))⟩, ⟨(some 238), .dslice 2 1 6 [(.v (.int .i64 0))] [(0, 1, (.c (.v (.int .i64 0)))), (1, 1, (.c (.v (.int .i64 0)))), (2, 1, (.c (.v (.int .i64 10000)))), (3, 1, (.c (.v (.int .i64 0)))), (4, 1, (.c (.v (.int .i64 13000)))), (5, 1, (.c (.v (.int .i64 4000))))], (some (236, true))⟩, ⟨(some 239), .call (.c (.fn (.func 57) [] [])) [(.t 238)], (some (236, true))⟩, ⟨(some 240), .call (.c (.fn (.func 43) [] [])) [(.t 237), (.t 239)], (some (236, true))⟩, ⟨(some 241), .pick (.t 236) (.t 240) (.c (.v (.bool false))), none⟩, ⟨(some 242), .mv (.t 241), none⟩, ⟨(some 243), .mv (.t 22), (some (242, true))⟩, ⟨(some 244), .bin .eql (.t 243) (.c (.v (.int .i64 7))), (some (242, true))⟩, ⟨(some 245), .pick (.t 242) (.t 244) (.c (.v (.bool false))), none⟩, ⟨(some 0), .mv (.t 245), none⟩] [])
  .ret))))))))))))))))))
theorem fn_law01_CurveKnown : FnOK Try.prog 16 246 [.t 0] ac_law01_CurveKnown := ⟨_, _, Try.func16, rfl, Try.ntmps16, by kernel_rfl, ⟨fun r => if r == 2 then [1010, 1015, 1021, 1027] else if r == 13 then [1003, 1009] else if r == 14 then [1000, 1002, 1004] else if r == 15 then [1004, 1011] else if r == 16 then [1001] else if r == 18 then [1022] else [], by kernel_rfl⟩, by kernel_rfl⟩
set_option maxHeartbeats 4000000 in
theorem law01_CurveKnown_ok (r : Bool) (h : law01_CurveKnown = some r) : PCall Try.prog 16 [] (bo r) := by
  refine l_call fn_law01_CurveKnown (Nat.le_of_ble_eq_true rfl) ?_
  unfold law01_CurveKnown at h
  unfold ac_law01_CurveKnown
  refine (l_sub (s0 := ⟨T [], G []⟩) (sb_of trivial trivial) ?_)
  refine l_seq ?_
  refine l_reg fun u1 hu1 => ?_
  refine s_val (.d _) rfl rfl ?_
  refine s_nil ?_
  refine l_seq ?_
  refine l_reg fun u2 hu2 => ?_
  obtain ⟨v1, hv1, h⟩ := bind_some h
  refine s_call rfl rfl all2_refl (law01_bent_ok  _ hv1) (.inl rfl) ?_
  refine s_new (.ptr _ _) (.box _ _) rfl rfl ?_
  refine s_store _ _ _ _ _ rfl rfl rfl G_hit (Nat.le_of_ble_eq_true rfl) [(.d (.list (List.map eSpot v1.Pts)))] rfl ?_
  refine s_nil ?_
  refine l_seq ?_
  refine l_seq ?_
  refine l_reg fun u3 hu3 => ?_
  obtain ⟨v2, hv2, h⟩ := bind_some h
  refine s_call rfl rfl all2_refl (law01_awake_ok  _ hv2) (.inl rfl) ?_
  refine s_val (.d _) rfl rfl ?_
  refine s_val (.d _) rfl rfl ?_
  refine g_val (!(!v2)) (.d _) rfl (gw_f rfl) (fun w1 => (v_loadG rfl G_hit rfl rfl)) ?_
  obtain ⟨v3, hv3, h⟩ := bind_some h
  refine g_call (!(!v2)) (i64 v3) (gw_f rfl) (fun w2 => ⟨_, [(.d (.agg [(.list (List.map eSpot v1.Pts))]))], _, _, (by simp only [gd_pos w2]; rfl), rfl, all2_refl, curve_Check_ok _  _ (cond_t w2 hv3), (.inl rfl)⟩) ?_
  refine g_val (!(!v2)) (.d _) rfl (gw_f rfl) (fun w3 => (v_bin (gd_pos w3) rfl rfl)) ?_
  refine s_val (.d _) rfl (v_or rfl rfl (fun hc => gd_pos (not_t hc))) ?_
  refine s_val (.d _) rfl rfl ?_
  refine g_val (!((!v2) || (v3 != 0))) (.d _) rfl (gw_f rfl) (fun w4 => (v_loadG rfl G_hit rfl rfl)) ?_
  obtain ⟨v4, hv4, h⟩ := bind_some h
  refine g_call (!((!v2) || (v3 != 0))) (.list (List.map eInt_i64 v4)) (gw_f rfl) (fun w5 => ⟨_, [(.d (.agg [(.list (List.map eSpot v1.Pts))]))], _, _, (by simp only [gd_pos w5]; rfl), rfl, all2_refl, curve_Pieces_ok _  _ (cond_t w5 hv4), (.inl rfl)⟩) ?_
  refine g_val (!((!v2) || (v3 != 0))) (.d (.list (List.map eInt_i64 [5000, 5000]))) rfl (gw_f rfl) (fun w6 => rfl) ?_
  obtain ⟨v5, hv5, h⟩ := bind_some h
  refine g_call (!((!v2) || (v3 != 0))) (bo v5) (gw_f rfl) (fun w7 => ⟨_, [(.d (.list (List.map eInt_i64 v4))), (.d (.list (List.map eInt_i64 [5000, 5000])))], _, _, (by simp only [gd_pos w7]; rfl), rfl, all2_refl, kit_SameLongs_ok _ _  _ (cond_t w7 hv5), (.inl rfl)⟩) ?_
  refine g_val (!((!v2) || (v3 != 0))) (.d _) rfl (gw_f rfl) (fun w8 => (by simp only [gd_pos w8]; rfl)) ?_
  refine s_val (.d _) rfl (v_or rfl rfl (fun hc => gd_pos (not_t hc))) ?_
  refine s_val (.d _) rfl rfl ?_
  refine g_val (!(((!v2) || (v3 != 0)) || (!v5))) (.d (.list (List.map eInt_i64 [0, 0]))) rfl (gw_f rfl) (fun w9 => rfl) ?_
  obtain ⟨v6, hv6, h⟩ := bind_some h
  refine g_call (!(((!v2) || (v3 != 0)) || (!v5))) (.agg [(.list (List.map eSpot v6.Pts))]) (gw_f rfl) (fun w10 => ⟨_, [(.d (.list (List.map eInt_i64 [0, 0])))], _, _, (by simp only [gd_pos w10]; rfl), rfl, all2_refl, law01_of_ok _  _ (cond_t w10 hv6), (.inl rfl)⟩) ?_
  obtain ⟨v7, hv7, h⟩ := bind_some h
  refine g_call (!(((!v2) || (v3 != 0)) || (!v5))) (i64 v7) (gw_f rfl) (fun w11 => ⟨_, [(.d (.agg [(.list (List.map eSpot v6.Pts))]))], _, _, (by simp only [gd_pos w11]; rfl), rfl, all2_refl, curve_Check_ok _  _ (cond_t w11 hv7), (.inl rfl)⟩) ?_
  refine g_val (!(((!v2) || (v3 != 0)) || (!v5))) (.d _) rfl (gw_f rfl) (fun w12 => (v_bin (gd_pos w12) rfl rfl)) ?_
  refine s_val (.d _) rfl (v_or rfl rfl (fun hc => gd_pos (not_t hc))) ?_
  refine s_val (.d _) rfl rfl ?_
  refine g_val (!((((!v2) || (v3 != 0)) || (!v5)) || (v7 != 6))) (.d (.list (List.map eInt_i64 [0, 0, 300, 400]))) rfl (gw_f rfl) (fun w13 => rfl) ?_
  obtain ⟨v8, hv8, h⟩ := bind_some h
  refine g_call (!((((!v2) || (v3 != 0)) || (!v5)) || (v7 != 6))) (.agg [(.list (List.map eSpot v8.Pts))]) (gw_f rfl) (fun w14 => ⟨_, [(.d (.list (List.map eInt_i64 [0, 0, 300, 400])))], _, _, (by simp only [gd_pos w14]; rfl), rfl, all2_refl, law01_of_ok _  _ (cond_t w14 hv8), (.inl rfl)⟩) ?_
  obtain ⟨v9, hv9, h⟩ := bind_some h
  refine g_call (!((((!v2) || (v3 != 0)) || (!v5)) || (v7 != 6))) (i64 v9) (gw_f rfl) (fun w15 => ⟨_, [(.d (.agg [(.list (List.map eSpot v8.Pts))]))], _, _, (by simp only [gd_pos w15]; rfl), rfl, all2_refl, curve_Check_ok _  _ (cond_t w15 hv9), (.inl rfl)⟩) ?_
  refine g_val (!((((!v2) || (v3 != 0)) || (!v5)) || (v7 != 6))) (.d _) rfl (gw_f rfl) (fun w16 => (v_bin (gd_pos w16) rfl rfl)) ?_
  refine s_val (.d _) rfl (v_or rfl rfl (fun hc => gd_pos (not_t hc))) ?_
  refine s_val (.d _) rfl rfl ?_
  refine g_val (!(((((!v2) || (v3 != 0)) || (!v5)) || (v7 != 6)) || (v9 != 2))) (.d (.list (List.map eInt_i64 [0, 0, 3000, 0, 3000, 2000]))) rfl (gw_f rfl) (fun w17 => rfl) ?_
  obtain ⟨v10, hv10, h⟩ := bind_some h
  refine g_call (!(((((!v2) || (v3 != 0)) || (!v5)) || (v7 != 6)) || (v9 != 2))) (.agg [(.list (List.map eSpot v10.Pts))]) (gw_f rfl) (fun w18 => ⟨_, [(.d (.list (List.map eInt_i64 [0, 0, 3000, 0, 3000, 2000])))], _, _, (by simp only [gd_pos w18]; rfl), rfl, all2_refl, law01_of_ok _  _ (cond_t w18 hv10), (.inl rfl)⟩) ?_
  obtain ⟨v11, hv11, h⟩ := bind_some h
  refine g_call (!(((((!v2) || (v3 != 0)) || (!v5)) || (v7 != 6)) || (v9 != 2))) (i64 v11) (gw_f rfl) (fun w19 => ⟨_, [(.d (.agg [(.list (List.map eSpot v10.Pts))]))], _, _, (by simp only [gd_pos w19]; rfl), rfl, all2_refl, curve_Check_ok _  _ (cond_t w19 hv11), (.inl rfl)⟩) ?_
  refine g_val (!(((((!v2) || (v3 != 0)) || (!v5)) || (v7 != 6)) || (v9 != 2))) (.d _) rfl (gw_f rfl) (fun w20 => (v_bin (gd_pos w20) rfl rfl)) ?_
  refine s_val (.d _) rfl (v_or rfl rfl (fun hc => gd_pos (not_t hc))) ?_
  refine s_nil ?_
  refine l_cond ((((((!v2) || (v3 != 0)) || (!v5)) || (v7 != 6)) || (v9 != 2)) || (v11 != 12)) rfl (fun c1 => ?_) (fun c1 => ?_)
  · replace h := cond_t c1 h
    refine l_seq ?_
    refine l_sub (s0 := ⟨T [], G []⟩) (sb_of trivial trivial) ?_
    refine l_reg fun u4 hu4 => ?_
    refine s_val (.d _) rfl rfl ?_
    refine s_nil ?_
    refine l_ret ?_
    obtain rfl := Option.some.inj h
    refine fin_ok (.inr rfl) (resD1 (res_t rfl) rf_d) ?_
    exact (.refl _)
  · replace h := cond_f c1 h
    refine l_skip ?_
    refine l_seq ?_
    refine l_sub (s0 := ⟨T [(1, (.ptr (1, u2) 0))], G [((1, u2), some (.box 24 [(.d (.list (List.map eSpot v1.Pts)))]))]⟩) (sb_of ⟨.of rfl, trivial⟩ (sbG_some G_hit (.of rfl) trivial)) ?_
    refine l_reg fun u5 hu5 => ?_
    refine s_val (.d _) rfl (v_loadG rfl G_hit rfl rfl) ?_
    obtain ⟨v12, hv12, h⟩ := bind_some h
    refine s_call rfl rfl all2_refl (curve_Piece_ok _ _  _ hv12) (.inl rfl) ?_
    refine s_val (.d _) rfl rfl ?_
    refine s_val (.d _) rfl rfl ?_
    refine s_val (.d _) rfl rfl ?_
    refine s_val (.d _) rfl rfl ?_
    refine s_val (.d _) rfl rfl ?_
    refine s_nil ?_
    refine l_seq ?_
    refine l_reg fun u6 hu6 => ?_
    refine s_val (.d _) rfl (v_loadG rfl G_hit rfl rfl) ?_
    obtain ⟨v13, hv13, h⟩ := bind_some h
    refine s_call rfl rfl all2_refl (curve_Piece_ok _ _  _ hv13) (.inl rfl) ?_
    refine s_val (.d _) rfl rfl ?_
    refine s_val (.d _) rfl rfl ?_
    refine s_val (.d _) rfl rfl ?_
    refine s_val (.d _) rfl rfl ?_
    refine s_val (.d _) rfl rfl ?_
    refine s_nil ?_
    refine l_seq ?_
    refine l_reg fun u7 hu7 => ?_
    refine s_val (.d _) rfl (v_loadG rfl G_hit rfl rfl) ?_
    obtain ⟨v14, hv14, h⟩ := bind_some h
    refine s_call rfl rfl all2_refl (curve_Piece_ok _ _  _ hv14) (.inl rfl) ?_
    refine s_val (.d _) rfl rfl ?_
    refine s_val (.d _) rfl rfl ?_
    refine s_val (.d _) rfl rfl ?_
    refine s_val (.d _) rfl rfl ?_
    refine s_val (.d _) rfl rfl ?_
    refine s_nil ?_
    refine l_seq ?_
    refine l_sub (s0 := ⟨T [(1, (.ptr (1, u2) 0)), (2, (.d (i64 v12.1))), (3, (.d (i64 v12.2))), (4, (.d (i64 v13.1))), (5, (.d (i64 v13.2))), (6, (.d (i64 v14.1))), (7, (.d (i64 v14.2)))], G [((1, u2), some (.box 24 [(.d (.list (List.map eSpot v1.Pts)))]))]⟩) (sb_of ⟨.of rfl, .of rfl, .of rfl, .of rfl, .of rfl, .of rfl, .of rfl, trivial⟩ (sbG_some G_hit (.of rfl) trivial)) ?_
    refine l_reg fun u8 hu8 => ?_
    refine s_val (.d _) rfl rfl ?_
    refine s_val (.d _) rfl rfl ?_
    refine s_val (.d _) rfl rfl ?_
    refine g_val (v12.1 == 1) (.d _) rfl (gw_t rfl) (fun w21 => rfl) ?_
    refine g_val (v12.1 == 1) (.d _) rfl (gw_t rfl) (fun w22 => (v_bin (gd_pos w22) rfl rfl)) ?_
    refine s_val (.d _) rfl (v_and rfl (fun hc => gd_pos hc) rfl) ?_
    refine s_val (.d _) rfl rfl ?_
    refine g_val ((v12.1 == 1) && (v12.2 == 0)) (.d _) rfl (gw_t rfl) (fun w23 => rfl) ?_
    refine g_val ((v12.1 == 1) && (v12.2 == 0)) (.d _) rfl (gw_t rfl) (fun w24 => (v_bin (gd_pos w24) rfl rfl)) ?_
    refine s_val (.d _) rfl (v_and rfl (fun hc => gd_pos hc) rfl) ?_
    refine s_val (.d _) rfl rfl ?_
    refine g_val (((v12.1 == 1) && (v12.2 == 0)) && (v13.1 == 1)) (.d _) rfl (gw_t rfl) (fun w25 => rfl) ?_
    refine g_val (((v12.1 == 1) && (v12.2 == 0)) && (v13.1 == 1)) (.d _) rfl (gw_t rfl) (fun w26 => (v_bin (gd_pos w26) rfl rfl)) ?_
    refine s_val (.d _) rfl (v_and rfl (fun hc => gd_pos hc) rfl) ?_
    refine s_val (.d _) rfl rfl ?_
    refine g_val ((((v12.1 == 1) && (v12.2 == 0)) && (v13.1 == 1)) && (v13.2 == 5000)) (.d _) rfl (gw_t rfl) (fun w27 => rfl) ?_
    refine g_val ((((v12.1 == 1) && (v12.2 == 0)) && (v13.1 == 1)) && (v13.2 == 5000)) (.d _) rfl (gw_t rfl) (fun w28 => (v_bin (gd_pos w28) rfl rfl)) ?_
    refine s_val (.d _) rfl (v_and rfl (fun hc => gd_pos hc) rfl) ?_
    refine s_val (.d _) rfl rfl ?_
    refine g_val (((((v12.1 == 1) && (v12.2 == 0)) && (v13.1 == 1)) && (v13.2 == 5000)) && (v14.1 == 0)) (.d _) rfl (gw_t rfl) (fun w29 => rfl) ?_
    refine g_val (((((v12.1 == 1) && (v12.2 == 0)) && (v13.1 == 1)) && (v13.2 == 5000)) && (v14.1 == 0)) (.d _) rfl (gw_t rfl) (fun w30 => (v_bin (gd_pos w30) rfl rfl)) ?_
    refine s_val (.d _) rfl (v_and rfl (fun hc => gd_pos hc) rfl) ?_
    refine s_val (.d _) rfl rfl ?_
    refine s_nil ?_
    refine l_seq ?_
    refine l_sub (s0 := ⟨T [(1, (.ptr (1, u2) 0)), (8, (.d (bo ((((((v12.1 == 1) && (v12.2 == 0)) && (v13.1 == 1)) && (v13.2 == 5000)) && (v14.1 == 0)) && (v14.2 == 0)))))], G [((1, u2), some (.box 24 [(.d (.list (List.map eSpot v1.Pts)))]))]⟩) (sb_of ⟨.of rfl, .of rfl, trivial⟩ (sbG_some G_hit (.of rfl) trivial)) ?_
    refine l_reg fun u9 hu9 => ?_
    refine s_val (.d _) rfl (v_loadG rfl G_hit rfl rfl) ?_
    obtain ⟨v15, hv15, h⟩ := bind_some h
    refine s_call rfl rfl all2_refl (curve_At_ok _ _  _ hv15) (.inl rfl) ?_
    refine s_val (.d _) rfl rfl ?_
    refine s_val (.d _) rfl rfl ?_
    refine s_val (.d _) rfl rfl ?_
    refine g_val (v15.X == 0 && (v15.Y == 0 && true)) (.d _) rfl (gw_t rfl) (fun w31 => (v_loadG rfl G_hit rfl rfl)) ?_
    obtain ⟨v16, hv16, h⟩ := bind_some h
    refine g_call (v15.X == 0 && (v15.Y == 0 && true)) (.agg [(i64 v16.X), (i64 v16.Y)]) (gw_t rfl) (fun w32 => ⟨_, [(.d (.agg [(.list (List.map eSpot v1.Pts))])), (.d (i64 5001))], _, _, (by simp only [gd_pos w32]; rfl), rfl, all2_refl, curve_At_ok _ _  _ (cond_t w32 hv16), (.inl rfl)⟩) ?_
    refine g_val (v15.X == 0 && (v15.Y == 0 && true)) (.d _) rfl (gw_t rfl) (fun w33 => rfl) ?_
    refine g_val (v15.X == 0 && (v15.Y == 0 && true)) (.d _) rfl (gw_t rfl) (fun w34 => (by simp only [gd_pos w34]; rfl)) ?_
    refine s_val (.d _) rfl (v_and rfl (fun hc => gd_pos hc) rfl) ?_
    refine s_val (.d _) rfl rfl ?_
    refine g_val ((v15.X == 0 && (v15.Y == 0 && true)) && (v16.X == 3001 && (v16.Y == 4000 && true))) (.d _) rfl (gw_t rfl) (fun w35 => (v_loadG rfl G_hit rfl rfl)) ?_
    obtain ⟨v17, hv17, h⟩ := bind_some h
    refine g_call ((v15.X == 0 && (v15.Y == 0 && true)) && (v16.X == 3001 && (v16.Y == 4000 && true))) (.agg [(i64 v17.X), (i64 v17.Y)]) (gw_t rfl) (fun w36 => ⟨_, [(.d (.agg [(.list (List.map eSpot v1.Pts))])), (.d (i64 99999))], _, _, (by simp only [gd_pos w36]; rfl), rfl, all2_refl, curve_At_ok _ _  _ (cond_t w36 hv17), (.inl rfl)⟩) ?_
    refine g_val ((v15.X == 0 && (v15.Y == 0 && true)) && (v16.X == 3001 && (v16.Y == 4000 && true))) (.d _) rfl (gw_t rfl) (fun w37 => rfl) ?_
    refine g_val ((v15.X == 0 && (v15.Y == 0 && true)) && (v16.X == 3001 && (v16.Y == 4000 && true))) (.d _) rfl (gw_t rfl) (fun w38 => (by simp only [gd_pos w38]; rfl)) ?_
    refine s_val (.d _) rfl (v_and rfl (fun hc => gd_pos hc) rfl) ?_
    refine s_val (.d _) rfl rfl ?_
    refine s_nil ?_
    refine l_seq ?_
    refine l_reg fun u10 hu10 => ?_
    refine s_val (.d _) rfl rfl ?_
    refine s_new (.ptr _ _) (.box _ _) rfl rfl ?_
    refine s_store _ _ _ _ _ rfl rfl rfl G_hit (Nat.le_of_ble_eq_true rfl) [(.d (i64 0)), (.d (i64 0))] rfl ?_
    refine s_nil ?_
    refine l_seq ?_
    refine l_sub (s0 := ⟨T [(1, (.ptr (1, u2) 0)), (8, (.d (bo ((((((v12.1 == 1) && (v12.2 == 0)) && (v13.1 == 1)) && (v13.2 == 5000)) && (v14.1 == 0)) && (v14.2 == 0))))), (9, (.d (bo (((v15.X == 0 && (v15.Y == 0 && true)) && (v16.X == 3001 && (v16.Y == 4000 && true))) && (v17.X == 8000 && (v17.Y == 4000 && true)))))), (10, (.ptr (10, u10) 0))], G [((1, u2), some (.box 24 [(.d (.list (List.map eSpot v1.Pts)))])), ((10, u10), some (.box 43 [(.d (i64 0)), (.d (i64 0))]))]⟩) (sb_of ⟨.of rfl, .of rfl, .of rfl, .of rfl, trivial⟩ (sbG_some (G_skip rfl (G_skip rfl G_hit)) (.of rfl) (sbG_some G_hit (.of rfl) trivial))) ?_
    refine l_reg fun u11 hu11 => ?_
    refine s_val (.d _) rfl (v_loadG rfl (G_skip rfl G_hit) rfl rfl) ?_
    refine s_val (.d _) rfl rfl ?_
    refine s_val (.d _) rfl rfl ?_
    obtain ⟨v18, hv18, h⟩ := bind_some h
    refine s_call rfl rfl all2_refl (curve_Side_ok _ _ _  _ hv18) (.inl rfl) ?_
    refine s_val (.d _) rfl rfl ?_
    refine s_val (.d _) rfl rfl ?_
    refine g_val (v18 == 1) (.d _) rfl (gw_t rfl) (fun w39 => (v_loadG rfl (G_skip rfl G_hit) rfl rfl)) ?_
    refine g_val (v18 == 1) (.d _) rfl (gw_t rfl) (fun w40 => rfl) ?_
    obtain ⟨v19, hv19, h⟩ := bind_some h
    refine g_call (v18 == 1) (i64 v19) (gw_t rfl) (fun w41 => ⟨_, [(.d (.agg [(i64 0), (i64 0)])), (.d (.agg [(i64 3), (i64 4)]))], _, _, (by simp only [gd_pos w41]; rfl), rfl, all2_refl, curve_Dist2_ok _ _  _ (cond_t w41 hv19), (.inl rfl)⟩) ?_
    refine g_val (v18 == 1) (.d _) rfl (gw_t rfl) (fun w42 => (v_bin (gd_pos w42) rfl rfl)) ?_
    refine s_val (.d _) rfl (v_and rfl (fun hc => gd_pos hc) rfl) ?_
    refine s_val (.d _) rfl rfl ?_
    refine g_val ((v18 == 1) && (v19 == 25)) (.d _) rfl (gw_t rfl) (fun w43 => (v_loadG rfl (G_skip rfl G_hit) rfl rfl)) ?_
    refine g_val ((v18 == 1) && (v19 == 25)) (.d _) rfl (gw_t rfl) (fun w44 => rfl) ?_
    refine g_val ((v18 == 1) && (v19 == 25)) (.d _) rfl (gw_t rfl) (fun w45 => rfl) ?_
    refine g_val ((v18 == 1) && (v19 == 25)) (.d _) rfl (gw_t rfl) (fun w46 => rfl) ?_
    obtain ⟨v20, hv20, h⟩ := bind_some h
    refine g_call ((v18 == 1) && (v19 == 25)) (bo v20) (gw_t rfl) (fun w47 => ⟨_, [(.d (.agg [(i64 0), (i64 0)])), (.d (.agg [(i64 10), (i64 0)])), (.d (.agg [(i64 5), (i64 (-5))])), (.d (.agg [(i64 5), (i64 0)]))], _, _, (by simp only [gd_pos w47]; rfl), rfl, all2_refl, curve_Blocks_ok _ _ _ _  _ (cond_t w47 hv20), (.inl rfl)⟩) ?_
    refine s_val (.d _) rfl (v_and rfl (fun hc => gd_pos hc) rfl) ?_
    refine s_val (.d _) rfl rfl ?_
    refine g_val (((v18 == 1) && (v19 == 25)) && v20) (.d _) rfl (gw_t rfl) (fun w48 => (v_loadG rfl (G_skip rfl G_hit) rfl rfl)) ?_
    refine g_val (((v18 == 1) && (v19 == 25)) && v20) (.d _) rfl (gw_t rfl) (fun w49 => rfl) ?_
    refine g_val (((v18 == 1) && (v19 == 25)) && v20) (.d _) rfl (gw_t rfl) (fun w50 => rfl) ?_
    refine g_val (((v18 == 1) && (v19 == 25)) && v20) (.d _) rfl (gw_t rfl) (fun w51 => rfl) ?_
    obtain ⟨v21, hv21, h⟩ := bind_some h
    refine g_call (((v18 == 1) && (v19 == 25)) && v20) (bo v21) (gw_t rfl) (fun w52 => ⟨_, [(.d (.agg [(i64 0), (i64 0)])), (.d (.agg [(i64 10), (i64 0)])), (.d (.agg [(i64 11), (i64 0)])), (.d (.agg [(i64 20), (i64 0)]))], _, _, (by simp only [gd_pos w52]; rfl), rfl, all2_refl, curve_Blocks_ok _ _ _ _  _ (cond_t w52 hv21), (.inl rfl)⟩) ?_
    refine g_val (((v18 == 1) && (v19 == 25)) && v20) (.d _) rfl (gw_t rfl) (fun w53 => (by simp only [gd_pos w53]; rfl)) ?_
    refine s_val (.d _) rfl (v_and rfl (fun hc => gd_pos hc) rfl) ?_
    refine s_val (.d _) rfl rfl ?_
    refine s_nil ?_
    refine l_seq ?_
    refine l_sub (s0 := ⟨T [(1, (.ptr (1, u2) 0)), (8, (.d (bo ((((((v12.1 == 1) && (v12.2 == 0)) && (v13.1 == 1)) && (v13.2 == 5000)) && (v14.1 == 0)) && (v14.2 == 0))))), (9, (.d (bo (((v15.X == 0 && (v15.Y == 0 && true)) && (v16.X == 3001 && (v16.Y == 4000 && true))) && (v17.X == 8000 && (v17.Y == 4000 && true)))))), (10, (.ptr (10, u10) 0)), (11, (.d (bo ((((v18 == 1) && (v19 == 25)) && v20) && (!v21)))))], G [((1, u2), some (.box 24 [(.d (.list (List.map eSpot v1.Pts)))])), ((10, u10), some (.box 43 [(.d (i64 0)), (.d (i64 0))]))]⟩) (sb_of ⟨.of rfl, .of rfl, .of rfl, .of rfl, .of rfl, trivial⟩ (sbG_some G_hit (.of rfl) (sbG_some (G_skip rfl G_hit) (.of rfl) trivial))) ?_
    refine l_reg fun u12 hu12 => ?_
    refine s_val (.d _) rfl (v_loadG rfl (G_skip rfl G_hit) rfl rfl) ?_
    refine s_val (.d _) rfl rfl ?_
    obtain ⟨v22, hv22, h⟩ := bind_some h
    refine s_call rfl rfl all2_refl (curve_Sees_ok _ _ _  _ hv22) (.inl rfl) ?_
    refine s_val (.d _) rfl rfl ?_
    refine g_val v22 (.d _) rfl (gw_t rfl) (fun w54 => (v_loadG rfl (G_skip rfl G_hit) rfl rfl)) ?_
    refine g_val v22 (.d _) rfl (gw_t rfl) (fun w55 => rfl) ?_
    obtain ⟨v23, hv23, h⟩ := bind_some h
    refine g_call v22 (bo v23) (gw_t rfl) (fun w56 => ⟨_, [(.d (.agg [(i64 0), (i64 0)])), (.d (.agg [(i64 3), (i64 4)])), (.d (i64 4))], _, _, (by simp only [gd_pos w56]; rfl), rfl, all2_refl, curve_Sees_ok _ _ _  _ (cond_t w56 hv23), (.inl rfl)⟩) ?_
    refine g_val v22 (.d _) rfl (gw_t rfl) (fun w57 => (by simp only [gd_pos w57]; rfl)) ?_
    refine s_val (.d _) rfl (v_and rfl (fun hc => gd_pos hc) rfl) ?_
    refine s_val (.d _) rfl rfl ?_
    refine s_nil ?_
    refine l_seq ?_
    refine l_reg fun u13 hu13 => ?_
    refine s_val (.d _) rfl rfl ?_
    refine s_new (.ptr _ _) (.box _ _) rfl rfl ?_
    refine s_store _ _ _ _ _ rfl rfl rfl G_hit (Nat.le_of_ble_eq_true rfl) [(.d (i64 4000)), (.d (i64 5000))] rfl ?_
    refine s_nil ?_
    refine l_seq ?_
    refine l_reg fun u14 hu14 => ?_
    refine s_val (.d _) rfl (v_loadG rfl (G_skip rfl (G_skip rfl G_hit)) rfl rfl) ?_
    refine s_val (.d _) rfl (v_loadG rfl G_hit rfl rfl) ?_
    obtain ⟨v24, hv24, h⟩ := bind_some h
    refine s_call rfl rfl all2_refl (curve_Near_ok _ _ _  _ hv24) (.inl rfl) ?_
    refine s_val (.d (.list (List.map eInt_i64 [6000]))) rfl rfl ?_
    obtain ⟨v25, hv25, h⟩ := bind_some h
    refine s_call rfl rfl all2_refl (kit_SameLongs_ok _ _  _ hv25) (.inl rfl) ?_
    refine s_val (.d _) rfl rfl ?_
    refine g_val v25 (.d _) rfl (gw_t rfl) (fun w58 => (v_loadG rfl (G_skip rfl (G_skip rfl G_hit)) rfl rfl)) ?_
    refine g_val v25 (.d _) rfl (gw_t rfl) (fun w59 => rfl) ?_
    obtain ⟨v26, hv26, h⟩ := bind_some h
    refine g_call v25 (.list (List.map eInt_i64 v26)) (gw_t rfl) (fun w60 => ⟨_, [(.d (.agg [(.list (List.map eSpot v1.Pts))])), (.d (.agg [(i64 3000), (i64 4000)])), (.d (i64 0))], _, _, (by simp only [gd_pos w60]; rfl), rfl, all2_refl, curve_Near_ok _ _ _  _ (cond_t w60 hv26), (.inl rfl)⟩) ?_
    refine g_val v25 (.d (.list (List.map eInt_i64 [5000, 5000]))) rfl (gw_t rfl) (fun w61 => rfl) ?_
    obtain ⟨v27, hv27, h⟩ := bind_some h
    refine g_call v25 (bo v27) (gw_t rfl) (fun w62 => ⟨_, [(.d (.list (List.map eInt_i64 v26))), (.d (.list (List.map eInt_i64 [5000, 5000])))], _, _, (by simp only [gd_pos w62]; rfl), rfl, all2_refl, kit_SameLongs_ok _ _  _ (cond_t w62 hv27), (.inl rfl)⟩) ?_
    refine s_val (.d _) rfl (v_and rfl (fun hc => gd_pos hc) rfl) ?_
    refine s_val (.d _) rfl rfl ?_
    refine g_val (v25 && v27) (.d _) rfl (gw_t rfl) (fun w63 => (v_loadG rfl (G_skip rfl (G_skip rfl G_hit)) rfl rfl)) ?_
    refine g_val (v25 && v27) (.d _) rfl (gw_t rfl) (fun w64 => rfl) ?_
    obtain ⟨v28, hv28, h⟩ := bind_some h
    refine g_call (v25 && v27) (.list (List.map eInt_i64 v28)) (gw_t rfl) (fun w65 => ⟨_, [(.d (.agg [(.list (List.map eSpot v1.Pts))])), (.d (.agg [(i64 4000), (i64 5001)])), (.d (i64 1000))], _, _, (by simp only [gd_pos w65]; rfl), rfl, all2_refl, curve_Near_ok _ _ _  _ (cond_t w65 hv28), (.inl rfl)⟩) ?_
    refine g_val (v25 && v27) (.d _) rfl (gw_t rfl) (fun w66 => (v_len (gd_pos w66))) ?_
    refine g_val (v25 && v27) (.d _) rfl (gw_t rfl) (fun w67 => (v_bin (gd_pos w67) rfl rfl)) ?_
    refine s_val (.d _) rfl (v_and rfl (fun hc => gd_pos hc) rfl) ?_
    refine s_val (.d _) rfl rfl ?_
    refine g_val ((v25 && v27) && ((v28.length : Int) == 0)) (.d _) rfl (gw_t rfl) (fun w68 => (v_loadG rfl (G_skip rfl (G_skip rfl G_hit)) rfl rfl)) ?_
    refine g_val ((v25 && v27) && ((v28.length : Int) == 0)) (.d _) rfl (gw_t rfl) (fun w69 => (v_loadG rfl G_hit rfl rfl)) ?_
    obtain ⟨v29, hv29, h⟩ := bind_some h
    refine g_call ((v25 && v27) && ((v28.length : Int) == 0)) (bo v29) (gw_t rfl) (fun w70 => ⟨_, [(.d (.agg [(.list (List.map eSpot v1.Pts))])), (.d (i64 1000)), (.d (.agg [(i64 4000), (i64 5000)]))], _, _, (by simp only [gd_pos w70]; rfl), rfl, all2_refl, curve_Holds_ok _ _ _  _ (cond_t w70 hv29), (.inl rfl)⟩) ?_
    refine s_val (.d _) rfl (v_and rfl (fun hc => gd_pos hc) rfl) ?_
    refine s_val (.d _) rfl rfl ?_
    refine g_val (((v25 && v27) && ((v28.length : Int) == 0)) && v29) (.d _) rfl (gw_t rfl) (fun w71 => (v_loadG rfl (G_skip rfl (G_skip rfl G_hit)) rfl rfl)) ?_
    refine g_val (((v25 && v27) && ((v28.length : Int) == 0)) && v29) (.d _) rfl (gw_t rfl) (fun w72 => (v_loadG rfl G_hit rfl rfl)) ?_
    obtain ⟨v30, hv30, h⟩ := bind_some h
    refine g_call (((v25 && v27) && ((v28.length : Int) == 0)) && v29) (bo v30) (gw_t rfl) (fun w73 => ⟨_, [(.d (.agg [(.list (List.map eSpot v1.Pts))])), (.d (i64 999)), (.d (.agg [(i64 4000), (i64 5000)]))], _, _, (by simp only [gd_pos w73]; rfl), rfl, all2_refl, curve_Holds_ok _ _ _  _ (cond_t w73 hv30), (.inl rfl)⟩) ?_
    refine g_val (((v25 && v27) && ((v28.length : Int) == 0)) && v29) (.d _) rfl (gw_t rfl) (fun w74 => (by simp only [gd_pos w74]; rfl)) ?_
    refine s_val (.d _) rfl (v_and rfl (fun hc => gd_pos hc) rfl) ?_
    refine s_val (.d _) rfl rfl ?_
    refine s_nil ?_
    refine l_seq ?_
    refine l_sub (s0 := ⟨T [(8, (.d (bo ((((((v12.1 == 1) && (v12.2 == 0)) && (v13.1 == 1)) && (v13.2 == 5000)) && (v14.1 == 0)) && (v14.2 == 0))))), (9, (.d (bo (((v15.X == 0 && (v15.Y == 0 && true)) && (v16.X == 3001 && (v16.Y == 4000 && true))) && (v17.X == 8000 && (v17.Y == 4000 && true)))))), (11, (.d (bo ((((v18 == 1) && (v19 == 25)) && v20) && (!v21))))), (12, (.d (bo (v22 && (!v23))))), (14, (.d (bo ((((v25 && v27) && ((v28.length : Int) == 0)) && v29) && (!v30)))))], G []⟩) (sb_of ⟨.of rfl, .of rfl, .of rfl, .of rfl, .of rfl, trivial⟩ trivial) ?_
    refine l_reg fun u15 hu15 => ?_
    refine s_val (.d (.list (List.map eInt_i64 [0, 0, 10000, 0]))) rfl rfl ?_
    obtain ⟨v31, hv31, h⟩ := bind_some h
    refine s_call rfl rfl all2_refl (law01_of_ok _  _ hv31) (.inl rfl) ?_
    refine s_val (.d (.list (List.map eInt_i64 [5000, (-5000), 5000, 5000]))) rfl rfl ?_
    obtain ⟨v32, hv32, h⟩ := bind_some h
    refine s_call rfl rfl all2_refl (law01_of_ok _  _ hv32) (.inl rfl) ?_
    refine s_val (.d (.list (List.map eInt_i64 [0, 1500, 10000, 1500]))) rfl rfl ?_
    obtain ⟨v33, hv33, h⟩ := bind_some h
    refine s_call rfl rfl all2_refl (law01_of_ok _  _ hv33) (.inl rfl) ?_
    refine s_new (.ptr _ _) (.box _ _) rfl rfl ?_
    refine s_new (.ptr _ _) (.box _ _) rfl rfl ?_
    refine s_new (.ptr _ _) (.box _ _) rfl rfl ?_
    refine s_store _ _ _ _ _ rfl rfl rfl (G_skip rfl (G_skip rfl G_hit)) (Nat.le_of_ble_eq_true rfl) [(.d (.list (List.map eSpot v31.Pts)))] rfl ?_
    refine s_store _ _ _ _ _ rfl rfl rfl (G_skip rfl (G_skip rfl G_hit)) (Nat.le_of_ble_eq_true rfl) [(.d (.list (List.map eSpot v32.Pts)))] rfl ?_
    refine s_store _ _ _ _ _ rfl rfl rfl (G_skip rfl (G_skip rfl G_hit)) (Nat.le_of_ble_eq_true rfl) [(.d (.list (List.map eSpot v33.Pts)))] rfl ?_
    refine s_nil ?_
    refine l_seq ?_
    refine l_reg fun u16 hu16 => ?_
    refine s_val (.d _) rfl (v_loadG rfl (G_skip rfl (G_skip rfl G_hit)) rfl rfl) ?_
    refine s_val (.d _) rfl (v_loadG rfl (G_skip rfl G_hit) rfl rfl) ?_
    obtain ⟨v34, hv34, h⟩ := bind_some h
    refine s_call rfl rfl all2_refl (curve_Corridors_ok _ _ _ _  _ hv34) (.inl rfl) ?_
    refine s_val (.d _) rfl rfl ?_
    refine s_val (.d (.list (List.map eCross [(Cross.mk 4499 5501 3999 6001)]))) rfl rfl ?_
    obtain ⟨v35, hv35, h⟩ := bind_some h
    refine s_call rfl rfl all2_refl (kit_SameCrosses_ok _ _  _ hv35) (.inl rfl) ?_
    refine s_val (.d _) rfl rfl ?_
    refine g_val v35 (.d _) rfl (gw_t rfl) (fun w75 => (v_loadG rfl (G_skip rfl (G_skip rfl G_hit)) rfl rfl)) ?_
    refine g_val v35 (.d _) rfl (gw_t rfl) (fun w76 => (v_loadG rfl G_hit rfl rfl)) ?_
    obtain ⟨v36, hv36, h⟩ := bind_some h
    refine g_call v35 (.list (List.map eCross v36)) (gw_t rfl) (fun w77 => ⟨_, [(.d (.agg [(.list (List.map eSpot v31.Pts))])), (.d (i64 1000)), (.d (.agg [(.list (List.map eSpot v33.Pts))])), (.d (i64 500))], _, _, (by simp only [gd_pos w77]; rfl), rfl, all2_refl, curve_Corridors_ok _ _ _ _  _ (cond_t w77 hv36), (.inl rfl)⟩) ?_
    refine g_val v35 (.d _) rfl (gw_t rfl) (fun w78 => rfl) ?_
    refine g_val v35 (.d (.list (List.map eCross [(Cross.mk 0 10000 0 10000)]))) rfl (gw_t rfl) (fun w79 => (by simp only [gd_pos w79]; rfl)) ?_
    obtain ⟨v37, hv37, h⟩ := bind_some h
    refine g_call v35 (bo v37) (gw_t rfl) (fun w80 => ⟨_, [(.d (.list (List.map eCross v36))), (.d (.list (List.map eCross [(Cross.mk 0 10000 0 10000)])))], _, _, (by simp only [gd_pos w80]; rfl), rfl, all2_refl, kit_SameCrosses_ok _ _  _ (cond_t w80 hv37), (.inl rfl)⟩) ?_
    refine s_val (.d _) rfl (v_and rfl (fun hc => gd_pos hc) rfl) ?_
    refine s_val (.d _) rfl rfl ?_
    refine g_val (v35 && v37) (.d _) rfl (gw_t rfl) (fun w81 => (v_loadG rfl (G_skip rfl (G_skip rfl G_hit)) rfl rfl)) ?_
    refine g_val (v35 && v37) (.d _) rfl (gw_t rfl) (fun w82 => (v_loadG rfl G_hit rfl rfl)) ?_
    obtain ⟨v38, hv38, h⟩ := bind_some h
    refine g_call (v35 && v37) (.list (List.map eCross v38)) (gw_t rfl) (fun w83 => ⟨_, [(.d (.agg [(.list (List.map eSpot v31.Pts))])), (.d (i64 999)), (.d (.agg [(.list (List.map eSpot v33.Pts))])), (.d (i64 500))], _, _, (by simp only [gd_pos w83]; rfl), rfl, all2_refl, curve_Corridors_ok _ _ _ _  _ (cond_t w83 hv38), (.inl rfl)⟩) ?_
    refine g_val (v35 && v37) (.d _) rfl (gw_t rfl) (fun w84 => (v_len (gd_pos w84))) ?_
    refine g_val (v35 && v37) (.d _) rfl (gw_t rfl) (fun w85 => (v_bin (gd_pos w85) rfl rfl)) ?_
    refine s_val (.d _) rfl (v_and rfl (fun hc => gd_pos hc) rfl) ?_
    refine s_val (.d _) rfl rfl ?_
    refine s_nil ?_
    refine l_seq ?_
    refine l_sub (s0 := ⟨T [(8, (.d (bo ((((((v12.1 == 1) && (v12.2 == 0)) && (v13.1 == 1)) && (v13.2 == 5000)) && (v14.1 == 0)) && (v14.2 == 0))))), (9, (.d (bo (((v15.X == 0 && (v15.Y == 0 && true)) && (v16.X == 3001 && (v16.Y == 4000 && true))) && (v17.X == 8000 && (v17.Y == 4000 && true)))))), (11, (.d (bo ((((v18 == 1) && (v19 == 25)) && v20) && (!v21))))), (12, (.d (bo (v22 && (!v23))))), (14, (.d (bo ((((v25 && v27) && ((v28.length : Int) == 0)) && v29) && (!v30))))), (15, (.ptr (15, u15) 0)), (16, (.ptr (16, u15) 0)), (18, (.d (bo ((v35 && v37) && ((v38.length : Int) == 0)))))], G [((15, u15), some (.box 24 [(.d (.list (List.map eSpot v31.Pts)))])), ((16, u15), some (.box 24 [(.d (.list (List.map eSpot v32.Pts)))]))]⟩) (sb_of ⟨.of rfl, .of rfl, .of rfl, .of rfl, .of rfl, .of rfl, .of rfl, .of rfl, trivial⟩ (sbG_some (G_skip rfl (G_skip rfl G_hit)) (.of rfl) (sbG_some (G_skip rfl G_hit) (.of rfl) trivial))) ?_
    refine l_draw rfl fun u17 hu17 => ?_
    refine s_val (.d _) rfl (v_loadG rfl G_hit rfl rfl) ?_
    refine s_val (.d (.list (List.map eInt_i64 [10000, 0, 13000, 4000]))) rfl rfl ?_
    obtain ⟨v39, hv39, h⟩ := bind_some h
    refine s_call rfl rfl all2_refl (law01_of_ok _  _ hv39) (.inl rfl) ?_
    obtain ⟨v40, hv40, h⟩ := bind_some h
    refine s_call rfl rfl all2_refl (curve_Join_ok _ _  _ hv40) (.inl rfl) ?_
    refine s_val (.d _) rfl rfl ?_
    refine s_val (.d _) rfl rfl ?_
    refine s_val (.d _) rfl rfl ?_
    refine s_new (.ptr _ _) (.box _ _) rfl rfl ?_
    refine s_store _ _ _ _ _ rfl rfl rfl G_hit (Nat.le_of_ble_eq_true rfl) [(.d (.list (List.map eSpot v40.1.Pts)))] rfl ?_
    refine s_val (.d _) rfl rfl ?_
    refine s_nil ?_
    refine l_seq ?_
    refine l_reg fun u18 hu18 => ?_
    refine s_val (.d _) rfl (v_loadG rfl (G_skip rfl (G_skip rfl G_hit)) rfl rfl) ?_
    refine s_val (.d _) rfl (v_loadG rfl (G_skip rfl (G_skip rfl (G_skip rfl G_hit))) rfl rfl) ?_
    obtain ⟨v41, hv41, h⟩ := bind_some h
    refine s_call rfl rfl all2_refl (curve_Join_ok _ _  _ hv41) (.inl rfl) ?_
    refine s_val (.d _) rfl rfl ?_
    refine s_val (.d _) rfl rfl ?_
    refine s_val (.d _) rfl rfl ?_
    refine s_new (.ptr _ _) (.box _ _) rfl rfl ?_
    refine s_store _ _ _ _ _ rfl rfl rfl G_hit (Nat.le_of_ble_eq_true rfl) [(.d (.list (List.map eSpot v41.1.Pts)))] rfl ?_
    refine s_val (.d _) rfl rfl ?_
    refine s_nil ?_
    refine l_seq ?_
    refine l_sub (s0 := ⟨T [(8, (.d (bo ((((((v12.1 == 1) && (v12.2 == 0)) && (v13.1 == 1)) && (v13.2 == 5000)) && (v14.1 == 0)) && (v14.2 == 0))))), (9, (.d (bo (((v15.X == 0 && (v15.Y == 0 && true)) && (v16.X == 3001 && (v16.Y == 4000 && true))) && (v17.X == 8000 && (v17.Y == 4000 && true)))))), (11, (.d (bo ((((v18 == 1) && (v19 == 25)) && v20) && (!v21))))), (12, (.d (bo (v22 && (!v23))))), (14, (.d (bo ((((v25 && v27) && ((v28.length : Int) == 0)) && v29) && (!v30))))), (18, (.d (bo ((v35 && v37) && ((v38.length : Int) == 0))))), (19, (.ptr (19, u17) 0)), (20, (.d (i64 v40.2))), (22, (.d (i64 v41.2)))], G [((19, u17), some (.box 24 [(.d (.list (List.map eSpot v40.1.Pts)))]))]⟩) (sb_of ⟨.of rfl, .of rfl, .of rfl, .of rfl, .of rfl, .of rfl, .of rfl, .of rfl, .of rfl, trivial⟩ (sbG_some (G_skip rfl (G_skip rfl G_hit)) (.of rfl) trivial)) ?_
    refine l_draw rfl fun u19 hu19 => ?_
    refine s_val (.d _) rfl rfl ?_
    refine s_val (.d _) rfl rfl ?_
    refine g_val ((((((v12.1 == 1) && (v12.2 == 0)) && (v13.1 == 1)) && (v13.2 == 5000)) && (v14.1 == 0)) && (v14.2 == 0)) (.d _) rfl (gw_t rfl) (fun w86 => rfl) ?_
    refine s_val (.d _) rfl (v_and rfl (fun hc => gd_pos hc) rfl) ?_
    refine s_val (.d _) rfl rfl ?_
    refine g_val (((((((v12.1 == 1) && (v12.2 == 0)) && (v13.1 == 1)) && (v13.2 == 5000)) && (v14.1 == 0)) && (v14.2 == 0)) && (((v15.X == 0 && (v15.Y == 0 && true)) && (v16.X == 3001 && (v16.Y == 4000 && true))) && (v17.X == 8000 && (v17.Y == 4000 && true)))) (.d _) rfl (gw_t rfl) (fun w87 => rfl) ?_
    refine s_val (.d _) rfl (v_and rfl (fun hc => gd_pos hc) rfl) ?_
    refine s_val (.d _) rfl rfl ?_
    refine g_val ((((((((v12.1 == 1) && (v12.2 == 0)) && (v13.1 == 1)) && (v13.2 == 5000)) && (v14.1 == 0)) && (v14.2 == 0)) && (((v15.X == 0 && (v15.Y == 0 && true)) && (v16.X == 3001 && (v16.Y == 4000 && true))) && (v17.X == 8000 && (v17.Y == 4000 && true)))) && ((((v18 == 1) && (v19 == 25)) && v20) && (!v21))) (.d _) rfl (gw_t rfl) (fun w88 => rfl) ?_
    refine s_val (.d _) rfl (v_and rfl (fun hc => gd_pos hc) rfl) ?_
    refine s_val (.d _) rfl rfl ?_
    refine g_val (((((((((v12.1 == 1) && (v12.2 == 0)) && (v13.1 == 1)) && (v13.2 == 5000)) && (v14.1 == 0)) && (v14.2 == 0)) && (((v15.X == 0 && (v15.Y == 0 && true)) && (v16.X == 3001 && (v16.Y == 4000 && true))) && (v17.X == 8000 && (v17.Y == 4000 && true)))) && ((((v18 == 1) && (v19 == 25)) && v20) && (!v21))) && (v22 && (!v23))) (.d _) rfl (gw_t rfl) (fun w89 => rfl) ?_
    refine s_val (.d _) rfl (v_and rfl (fun hc => gd_pos hc) rfl) ?_
    refine s_val (.d _) rfl rfl ?_
    refine g_val ((((((((((v12.1 == 1) && (v12.2 == 0)) && (v13.1 == 1)) && (v13.2 == 5000)) && (v14.1 == 0)) && (v14.2 == 0)) && (((v15.X == 0 && (v15.Y == 0 && true)) && (v16.X == 3001 && (v16.Y == 4000 && true))) && (v17.X == 8000 && (v17.Y == 4000 && true)))) && ((((v18 == 1) && (v19 == 25)) && v20) && (!v21))) && (v22 && (!v23))) && ((((v25 && v27) && ((v28.length : Int) == 0)) && v29) && (!v30))) (.d _) rfl (gw_t rfl) (fun w90 => rfl) ?_
    refine s_val (.d _) rfl (v_and rfl (fun hc => gd_pos hc) rfl) ?_
    refine s_val (.d _) rfl rfl ?_
    refine g_val (((((((((((v12.1 == 1) && (v12.2 == 0)) && (v13.1 == 1)) && (v13.2 == 5000)) && (v14.1 == 0)) && (v14.2 == 0)) && (((v15.X == 0 && (v15.Y == 0 && true)) && (v16.X == 3001 && (v16.Y == 4000 && true))) && (v17.X == 8000 && (v17.Y == 4000 && true)))) && ((((v18 == 1) && (v19 == 25)) && v20) && (!v21))) && (v22 && (!v23))) && ((((v25 && v27) && ((v28.length : Int) == 0)) && v29) && (!v30))) && ((v35 && v37) && ((v38.length : Int) == 0))) (.d _) rfl (gw_t rfl) (fun w91 => rfl) ?_
    refine g_val (((((((((((v12.1 == 1) && (v12.2 == 0)) && (v13.1 == 1)) && (v13.2 == 5000)) && (v14.1 == 0)) && (v14.2 == 0)) && (((v15.X == 0 && (v15.Y == 0 && true)) && (v16.X == 3001 && (v16.Y == 4000 && true))) && (v17.X == 8000 && (v17.Y == 4000 && true)))) && ((((v18 == 1) && (v19 == 25)) && v20) && (!v21))) && (v22 && (!v23))) && ((((v25 && v27) && ((v28.length : Int) == 0)) && v29) && (!v30))) && ((v35 && v37) && ((v38.length : Int) == 0))) (.d _) rfl (gw_t rfl) (fun w92 => (v_bin (gd_pos w92) rfl rfl)) ?_
    refine s_val (.d _) rfl (v_and rfl (fun hc => gd_pos hc) rfl) ?_
    refine s_val (.d _) rfl rfl ?_
    refine g_val ((((((((((((v12.1 == 1) && (v12.2 == 0)) && (v13.1 == 1)) && (v13.2 == 5000)) && (v14.1 == 0)) && (v14.2 == 0)) && (((v15.X == 0 && (v15.Y == 0 && true)) && (v16.X == 3001 && (v16.Y == 4000 && true))) && (v17.X == 8000 && (v17.Y == 4000 && true)))) && ((((v18 == 1) && (v19 == 25)) && v20) && (!v21))) && (v22 && (!v23))) && ((((v25 && v27) && ((v28.length : Int) == 0)) && v29) && (!v30))) && ((v35 && v37) && ((v38.length : Int) == 0))) && (v40.2 == 0)) (.d _) rfl (gw_t rfl) (fun w93 => (v_loadG rfl G_hit rfl rfl)) ?_
    refine g_val ((((((((((((v12.1 == 1) && (v12.2 == 0)) && (v13.1 == 1)) && (v13.2 == 5000)) && (v14.1 == 0)) && (v14.2 == 0)) && (((v15.X == 0 && (v15.Y == 0 && true)) && (v16.X == 3001 && (v16.Y == 4000 && true))) && (v17.X == 8000 && (v17.Y == 4000 && true)))) && ((((v18 == 1) && (v19 == 25)) && v20) && (!v21))) && (v22 && (!v23))) && ((((v25 && v27) && ((v28.length : Int) == 0)) && v29) && (!v30))) && ((v35 && v37) && ((v38.length : Int) == 0))) && (v40.2 == 0)) (.d (.list (List.map eInt_i64 [0, 0, 10000, 0, 13000, 4000]))) rfl (gw_t rfl) (fun w94 => rfl) ?_
    obtain ⟨v42, hv42, h⟩ := bind_some h
    refine g_call ((((((((((((v12.1 == 1) && (v12.2 == 0)) && (v13.1 == 1)) && (v13.2 == 5000)) && (v14.1 == 0)) && (v14.2 == 0)) && (((v15.X == 0 && (v15.Y == 0 && true)) && (v16.X == 3001 && (v16.Y == 4000 && true))) && (v17.X == 8000 && (v17.Y == 4000 && true)))) && ((((v18 == 1) && (v19 == 25)) && v20) && (!v21))) && (v22 && (!v23))) && ((((v25 && v27) && ((v28.length : Int) == 0)) && v29) && (!v30))) && ((v35 && v37) && ((v38.length : Int) == 0))) && (v40.2 == 0)) (.agg [(.list (List.map eSpot v42.Pts))]) (gw_t rfl) (fun w95 => ⟨_, [(.d (.list (List.map eInt_i64 [0, 0, 10000, 0, 13000, 4000])))], _, _, (by simp only [gd_pos w95]; rfl), rfl, all2_refl, law01_of_ok _  _ (cond_t w95 hv42), (.inl rfl)⟩) ?_
    obtain ⟨v43, hv43, h⟩ := bind_some h
    refine g_call ((((((((((((v12.1 == 1) && (v12.2 == 0)) && (v13.1 == 1)) && (v13.2 == 5000)) && (v14.1 == 0)) && (v14.2 == 0)) && (((v15.X == 0 && (v15.Y == 0 && true)) && (v16.X == 3001 && (v16.Y == 4000 && true))) && (v17.X == 8000 && (v17.Y == 4000 && true)))) && ((((v18 == 1) && (v19 == 25)) && v20) && (!v21))) && (v22 && (!v23))) && ((((v25 && v27) && ((v28.length : Int) == 0)) && v29) && (!v30))) && ((v35 && v37) && ((v38.length : Int) == 0))) && (v40.2 == 0)) (bo v43) (gw_t rfl) (fun w96 => ⟨_, [(.d (.agg [(.list (List.map eSpot v40.1.Pts))])), (.d (.agg [(.list (List.map eSpot v42.Pts))]))], _, _, (by simp only [gd_pos w96]; rfl), rfl, all2_refl, curve_Same_ok _ _  _ (cond_t w96 hv43), (.inl rfl)⟩) ?_
    refine s_val (.d _) rfl (v_and rfl (fun hc => gd_pos hc) rfl) ?_
    refine s_val (.d _) rfl rfl ?_
    refine g_val (((((((((((((v12.1 == 1) && (v12.2 == 0)) && (v13.1 == 1)) && (v13.2 == 5000)) && (v14.1 == 0)) && (v14.2 == 0)) && (((v15.X == 0 && (v15.Y == 0 && true)) && (v16.X == 3001 && (v16.Y == 4000 && true))) && (v17.X == 8000 && (v17.Y == 4000 && true)))) && ((((v18 == 1) && (v19 == 25)) && v20) && (!v21))) && (v22 && (!v23))) && ((((v25 && v27) && ((v28.length : Int) == 0)) && v29) && (!v30))) && ((v35 && v37) && ((v38.length : Int) == 0))) && (v40.2 == 0)) && v43) (.d _) rfl (gw_t rfl) (fun w97 => rfl) ?_
    refine g_val (((((((((((((v12.1 == 1) && (v12.2 == 0)) && (v13.1 == 1)) && (v13.2 == 5000)) && (v14.1 == 0)) && (v14.2 == 0)) && (((v15.X == 0 && (v15.Y == 0 && true)) && (v16.X == 3001 && (v16.Y == 4000 && true))) && (v17.X == 8000 && (v17.Y == 4000 && true)))) && ((((v18 == 1) && (v19 == 25)) && v20) && (!v21))) && (v22 && (!v23))) && ((((v25 && v27) && ((v28.length : Int) == 0)) && v29) && (!v30))) && ((v35 && v37) && ((v38.length : Int) == 0))) && (v40.2 == 0)) && v43) (.d _) rfl (gw_t rfl) (fun w98 => (v_bin (gd_pos w98) rfl rfl)) ?_
    refine s_val (.d _) rfl (v_and rfl (fun hc => gd_pos hc) rfl) ?_
    refine s_val (.d _) rfl rfl ?_
    refine s_nil ?_
    refine l_ret ?_
    obtain rfl := Option.some.inj h
    refine fin_ok (.inr rfl) (resD1 (res_t rfl) rf_d) ?_
    exact (.refl _)
end Go.Abs.Curve
