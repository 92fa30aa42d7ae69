/-
  The functions, part 2.
-/
import Derived.Test.YtkpmfcpgmhkleaaFns1
set_option maxRecDepth 20000
set_option linter.unusedVariables false
namespace Go.Abs.Curve
open Go Go.Abs Go.Proofs
attribute [local irreducible] regW regT AWL

noncomputable def slices_Equal_Spot_Spot_l1 (p1 : (List Spot)) (p2 : (List Spot)) (x1 : Int) : Option (Stp Int (Sum Unit Bool)) :=
  cond (decide (x1 < (p1.length : Int))) ((geti p1 x1).bind fun v1 => (geti p2 x1).bind fun v2 => cond (!(v1.X == v2.X && (v1.Y == v2.Y && true))) (some (.out (.inr false))) (some (.go (w64 (x1 + 1))))) (some (.out (.inl ())))
noncomputable def slices_Equal_Spot_Spot (p1 : (List Spot)) (p2 : (List Spot)) : Option Bool :=
  cond ((p1.length : Int) != (p2.length : Int)) (some false) (thenS (loop (slices_Equal_Spot_Spot_l1 p1 p2) 0) (fun _ => some true) (fun r => some r))

/-- slices.Equal[[]kerbstone/api.Spot,kerbstone/api.Spot] -/
def ac_slices_Equal_Spot_Spot : AC := (.seq (.reg [oo 4 (.mv (.c zf))]) (.seq (.seq (.reg [oo 6 (.mv (.t 0)), oo 7 (.len (.t 6)), oo 8 (.mv (.t 1)), oo 9 (.len (.t 8)), oo 10 (.bin .neq (.t 7) (.t 9))]) (.cond (.t 10) (.seq (.reg [oo 4 (.mv (.c zf))]) .ret) .skip)) (.seq (.seq (.reg [oo 11 (.mv (.t 0)), oo 12 (.len (.t 11)), oo 13 (.mv (ci 0))]) (.block 0 (.loop (.seq (.reg [oo 14 (.bin .lss (.t 13) (.t 12))]) (.seq (.cond (.t 14) .skip (.exit 0)) (.seq (.block 1 (.seq (.reg [oo 15 (.mv (.t 13)), oo 5 (.mv (.t 15))]) (.seq (.draw [oo 16 (.mv (.t 0)), oo 17 (.mv (.t 5)), oo 18 (.idxS 2 (.t 16) (.t 17)), oo 19 (.load 2 true (.t 18)), oo 20 (.mv (.t 1)), oo 21 (.mv (.t 5)), oo 22 (.idxS 2 (.t 20) (.t 21)), oo 23 (.load 2 true (.t 22)), oo 24 (.eqA true [false, false] (.t 19) (.t 23))] []) (.cond (.t 24) (.seq (.reg [oo 4 (.mv (.c zf))]) .ret) .skip)))) (.reg [oo 25 (.bin .add (.t 13) (ci 1)), oo 13 (.mv (.t 25))]))))))) (.seq (.reg [oo 4 (.mv (.c (.v (.bool true))))]) .ret))))
theorem fn_slices_Equal_Spot_Spot : FnOK Try.prog 77 26 [.t 4] ac_slices_Equal_Spot_Spot := ⟨_, _, Try.func77, rfl, Try.ntmps77, by kernel_rfl, ⟨fun _ => [], by kernel_rfl⟩, by kernel_rfl⟩
set_option maxHeartbeats 4000000 in
theorem slices_Equal_Spot_Spot_ok (p1 : (List Spot)) (p2 : (List Spot)) (r : Bool) (h : slices_Equal_Spot_Spot p1 p2 = some r) : PCall Try.prog 77 [(.list (List.map eSpot p1)), (.list (List.map eSpot p2))] (bo r) := by
  refine l_call fn_slices_Equal_Spot_Spot (nl rfl) ?_
  unfold slices_Equal_Spot_Spot at h
  unfold ac_slices_Equal_Spot_Spot
  refine l_sub (s0 := ⟨T [(0, (.d _)), (1, (.d _))], G []⟩) (sbr rfl rfl) ?_
  refine lr (fun u1 hu1 => sv rfl (s_nil (l_seq (lr (fun u2 hu2 => sv rfl (sd rfl (v_len rfl) (sv rfl (sd rfl (v_len rfl) (sv rfl (s_nil (cc rfl h (fun c1 h => ?_) (fun c1 h => ?_))))))))))))
  · refine lr (fun u3 hu3 => sv rfl (s_nil (l_ret ?_)))
    obtain rfl := Option.some.inj h
    exact fin_ok (.inr rfl) (resD1 (res_t rfl) rf_d) (.refl _)
  · refine l_skip (l_seq (lr (fun u4 hu4 => sv rfl (sd rfl (v_len rfl) (sv rfl (s_nil (js h fun z1 hz1 h => l_join (fun s => ∃ (y1 : Unit) (g1 : Unit), z1 = .inl y1 ∧ Sb ⟨T [], G []⟩ s) ?_ ?_)))))))
    · refine l_block (l_loop (slices_Equal_Spot_Spot_l1 p1 p2) (fun (x1 : Int) (g2 : Unit) => ⟨T [(0, (dl eSpot p1)), (1, (dl eSpot p2)), (12, (di (p1.length : Int))), (13, (di x1))], G []⟩) 0 () _ hz1 (sbr rfl rfl) ?_)
      intro x1 g2 z2 hz2 ez2
      unfold slices_Equal_Spot_Spot_l1 at hz2
      refine lr (fun u5 hu5 => sv rfl (s_nil (l_seq (cc rfl hz2 (fun c2 hz2 => ?_) (fun c2 hz2 => ?_)))))
      · refine l_skip (l_seq (l_block (lr (fun u6 hu6 => sv rfl (sv rfl (s_nil (l_seq (l_draw rfl fun u7 hu7 => sv rfl (sv rfl (bs hz2 fun v1 hv1 hz2 => sd rfl (v_idx rfl rfl hv1 rfl) (sd rfl (v_loadLG rfl hv1 rfl rfl) (sv rfl (sv rfl (bs hz2 fun v2 hv2 hz2 => sd rfl (v_idx rfl rfl hv2 rfl) (sd rfl (v_loadLG rfl hv2 rfl rfl) (s_val (.d (bo (!(v1.X == v2.X && (v1.Y == v2.Y && true))))) rfl rfl (s_nil (cc rfl hz2 (fun c3 hz2 => ?_) (fun c3 hz2 => ?_)))))))))))))))))))
        · refine lr (fun u8 hu8 => sv rfl (s_nil (l_ret ?_)))
          obtain rfl := Option.some.inj hz2
          obtain rfl := ez2 _ rfl
          refine ⟨nofun, awl_ret ?_⟩
          rw [Sum.elim_inr] at h
          obtain rfl := Option.some.inj h
          exact fin_ok (.inr rfl) (resD1 (res_t rfl) rf_d) (.refl _)
        · refine l_skip (l_end (l_reg fun u9 hu9 => sv rfl (sv rfl (s_nil (l_nil ?_)))))
          obtain rfl := Option.some.inj hz2
          exact ⟨rfl, (), (sbr rfl rfl)⟩
      · refine l_exitN rfl ?_
        obtain rfl := Option.some.inj hz2
        obtain rfl := ez2 _ rfl
        refine ⟨nofun, awl_pop rfl (l_j ?_)⟩
        exact ⟨_, (), rfl, (sbr rfl rfl)⟩
    · rintro _ ⟨y1, g1, rfl, q1⟩
      rw [Sum.elim_inl] at h
      refine l_sub q1 (lr (fun u10 hu10 => sv rfl (s_nil (l_ret ?_))))
      obtain rfl := Option.some.inj h
      exact fin_ok (.inr rfl) (resD1 (res_t rfl) rf_d) (.refl _)

noncomputable def curve_Same (p1 : Curve) (p2 : Curve) : Option Bool :=
  (slices_Equal_Spot_Spot p1.Pts p2.Pts).bind fun v1 => some v1

/-- kerbstone/curve.Same -/
def ac_curve_Same : AC := (.seq (.reg [oo 2 (.box 24 true (.t 0)), oo 3 (.box 24 true (.t 1)), oo 4 (.mv (.c zf))]) (.seq (.reg [oo 5 (.fieldA 0 (.t 2)), oo 6 (.load 1 false (.t 5)), oo 7 (.fieldA 0 (.t 3)), oo 8 (.load 1 false (.t 7)), oo 9 (.call (cf 77) [(.t 6), (.t 8)]), oo 4 (.mv (.t 9))]) .ret))
theorem fn_curve_Same : FnOK Try.prog 43 10 [.t 4] ac_curve_Same := ⟨_, _, Try.func43, rfl, Try.ntmps43, by kernel_rfl, ⟨fun _ => [], by kernel_rfl⟩, by kernel_rfl⟩
theorem curve_Same_ok (p1 : Curve) (p2 : Curve) (r : Bool) (h : curve_Same p1 p2 = some r) : PCall Try.prog 43 [(.agg [(.list (List.map eSpot p1.Pts))]), (.agg [(.list (List.map eSpot p2.Pts))])] (bo r) := by
  refine l_call fn_curve_Same (nl rfl) ?_
  unfold curve_Same at h
  unfold ac_curve_Same
  refine l_sub (s0 := ⟨T [(0, (.d _)), (1, (.d _))], G []⟩) (sbr rfl rfl) ?_
  refine lr (fun u1 hu1 => sn rfl rfl (sn rfl rfl (sv rfl (s_nil (lr (fun u2 hu2 => sp rfl rfl (sl rfl (gq rfl) rfl (sp rfl rfl (sl rfl G_hit rfl (bs h fun v1 hv1 h => s_call rfl rfl all2_refl (slices_Equal_Spot_Spot_ok _ _  _ hv1) (.inl rfl) (sv rfl (s_nil (l_ret ?_)))))))))))))
  obtain rfl := Option.some.inj h
  exact fin_ok (.inr rfl) (resD1 (res_t rfl) rf_d) (.refl _)

noncomputable def curve_Copy (p1 : Curve) : Option Curve :=
  (curve_through p1.Pts).bind fun v1 => some v1

/-- kerbstone/curve.Copy -/
def ac_curve_Copy : AC := (.seq (.reg [oo 1 (.box 24 true (.t 0)), oo 2 (.alloc 24 [.nilS])]) (.seq (.reg [oo 3 (.fieldA 0 (.t 1)), oo 4 (.load 1 false (.t 3)), oo 5 (.call (cf 74) [(.t 4)]), oe (.store 1 (.t 2) (.t 5))]) .ret))
theorem fn_curve_Copy : FnOK Try.prog 44 6 [.cell 2 1 true] ac_curve_Copy := ⟨_, _, Try.func44, rfl, Try.ntmps44, by kernel_rfl, ⟨fun _ => [], by kernel_rfl⟩, by kernel_rfl⟩
theorem curve_Copy_ok (p1 : Curve) (r : Curve) (h : curve_Copy p1 = some r) : PCall Try.prog 44 [(.agg [(.list (List.map eSpot p1.Pts))])] (.agg [(.list (List.map eSpot r.Pts))]) := by
  refine l_call fn_curve_Copy (nl rfl) ?_
  unfold curve_Copy at h
  unfold ac_curve_Copy
  refine l_sub (s0 := ⟨T [(0, (.d _))], G []⟩) (sbr rfl rfl) ?_
  refine lr (fun u1 hu1 => sn rfl rfl (sn rfl rfl (s_nil (lr (fun u2 hu2 => sp rfl rfl (sl rfl (gq rfl) rfl (bs h fun v1 hv1 h => s_call rfl rfl all2_refl (curve_through_ok _  _ hv1) (.inl rfl) (sst rfl G_hit [(dl eSpot v1.Pts)] rfl (s_nil (l_ret ?_))))))))))
  obtain rfl := Option.some.inj h
  exact fin_ok (.inr rfl) (resD1 (res_cellG rfl G_hit (nl rfl) rfl) rf_d) (.refl _)


theorem slices_Clone_Spot_Spotk_ok (p1 : List Spot) (r : List Spot) (h : slices_Clone_Spot_Spot p1 = some r) : MCall Try.prog 75 [.d (.list (List.map eSpot p1))] [] (oE r (800000, 0)) [] [oB 43 2 eSpot r] := by
  cases p1 with
  | nil =>
    have hr : r = [] := by obtain ⟨_, rfl⟩ := appc_some h; rfl
    subst hr
    exact MCall.ofP (slices_Clone_Spot_Spot_ok [] [] h)
  | cons x xs =>
  have hr : appc ([] : List Spot) (x :: xs) = some r := h
  have e := (appc_some hr).2
  rw [List.nil_append] at e
  rw [oE_ne (appc_ne hr), oB_ne (appc_ne hr)]
  refine m_callT fn_slices_Clone_Spot_Spot rfl (Nat.le_of_ble_eq_true rfl) ?_
  unfold ac_slices_Clone_Spot_Spot
  refine (l_sub (s0 := ⟨T [(0, .d (.list (List.map eSpot (x :: xs))))], G []⟩) (sb_of ⟨.of rfl, trivial⟩ trivial) ?_)
  refine l_seq ?_
  refine l_reg fun u1 hu1 => ?_
  refine s_val (.d .nilS) rfl rfl ?_
  refine s_nil ?_
  refine l_seq ?_
  refine l_seq ?_
  refine l_reg fun u2 hu2 => ?_
  refine s_val (.d (.list (List.map eSpot (x :: xs)))) rfl rfl ?_
  refine s_val (.d (bo false)) rfl rfl ?_
  refine s_nil ?_
  refine l_condF rfl ?_
  refine l_skip ?_
  refine l_seq ?_
  refine l_reg fun u3 hu3 => ?_
  refine s_new (.sl _) (.arr 43 2 (List.map eSpot ([] : List Spot))) rfl rfl ?_
  refine s_val (.d (.list (List.map eSpot (x :: xs)))) rfl rfl ?_
  refine s_append eSpot _ [] (x :: xs) _ (elems_list (fun _ => rfl)) rfl G_hit hr ?_
  refine s_val (.sl _) rfl rfl ?_
  refine s_nil ?_
  refine l_ret ?_
  exact fin_m (v1 := .sl (7, u3)) (.inr rfl) (resA1 (res_t rfl)) (.of rfl) [((7, u3), some (.arr 43 2 (List.map eSpot r)))] (sbG_some G_hit (.of rfl) trivial) (mpost_of [(7, u3)] rfl trivial ⟨G_hit, trivial⟩ rfl (by simp only [List.mem_cons, List.not_mem_nil, or_false, forall_eq]; exact fun i => old_ne rfl i) nd1)

noncomputable def curve_through_mk (p1 : (List Spot)) : Option Curve :=
  (slices_Clone_Spot_Spot p1).bind fun v1 => some (Curve.mk v1)

/-- kerbstone/curve.through -/
def ac_curve_through_mk : AC := (.seq (.reg [oo 2 (.alloc 24 [.nilS])]) (.seq (.reg [oo 3 (.mv (.t 0)), oo 4 (.ocall 10010010 (cf 75) [(.t 3)]), oo 5 (.build [.nilS] [(0, 1, (.t 4))]), oe (.store 1 (.t 2) (.t 5))]) .ret))
theorem fn_curve_through_mk : FnOK Try.prog 74 6 [.cell 2 1 true] ac_curve_through_mk := ⟨_, _, Try.func74, rfl, Try.ntmps74, by kernel_rfl, ⟨fun r => if r == 1 then [1001001] else [], by kernel_rfl⟩, by kernel_rfl⟩
theorem curve_through_mk_ok (p1 : (List Spot)) (r : Curve) (h : curve_through_mk p1 = some r) : MCall Try.prog 74 [(dl eSpot p1)] [] (mkAgg [(oE r.Pts (800000, 0))]) [] [oB 43 2 eSpot r.Pts] := by
  refine m_callT fn_curve_through_mk (by generalize r.Pts = x1; cases x1 <;> rfl) (nl rfl) ?_
  unfold curve_through_mk at h
  unfold ac_curve_through_mk
  refine l_sub (s0 := ⟨T [(0, (.d _))], G []⟩) (sbr rfl rfl) ?_
  refine lr (fun u1 hu1 => sn rfl rfl (s_nil (lr (fun u2 hu2 => sv rfl (bs h fun v1 hv1 h => s_oc (v := oE v1 (10010010, u2)) (us := [(10010010, u2)]) (oc_mo (slices_Clone_Spot_Spotk_ok _ _ hv1) [] [] _ (((10010010, u2), oB 43 2 eSpot v1) :: _) rfl all2_av rfl live_nil trivial (fun _ h => h) List.nodup_nil (by generalize v1 = x1; cases x1 <;> rfl) rfl (upsN_o (rfl)) rfl) ?_)))))
  refine s_val (mkAgg [(oE v1 (10010010, u2))]) rfl (by generalize v1 = x1; cases x1 <;> rfl) ?_
  refine s_store _ _ _ _ _ (cellsV_mkAgg _) rfl rfl (gq rfl) (nl rfl) [(oE v1 (10010010, u2))] rfl (s_nil (l_ret ?_))
  obtain rfl := Option.some.inj h
  exact fin_m (v1 := (mkAgg [(oE v1 (10010010, u2))])) (.inr rfl) (resA1 (res_cellG rfl G_hit (Nat.le_of_ble_eq_true rfl) rfl)) (.of rfl) [((10010010, u2), oB 43 2 eSpot v1)] (sbG_oB (gq rfl) trivial) (mpost_o [(10010010, u2)] (by generalize v1 = x1; cases x1 <;> rfl) trivial ⟨(G_hit).trans oB_ren.symm, trivial⟩ rfl (List.forall_mem_cons.2 ⟨fun i hi => old_far rfl hi, (fun _ h => nomatch h)⟩) nd1)

noncomputable def curve_Copy_mk (p1 : Curve) : Option Curve :=
  (curve_through_mk p1.Pts).bind fun v1 => some v1

/-- kerbstone/curve.Copy -/
def ac_curve_Copy_mk : AC := (.seq (.reg [oo 1 (.box 24 true (.t 0)), oo 2 (.alloc 24 [.nilS])]) (.seq (.reg [oo 3 (.fieldA 0 (.t 1)), oo 4 (.load 1 false (.t 3)), oo 5 (.ocall 10010020 (cf 74) [(.t 4)]), oe (.store 1 (.t 2) (.t 5))]) .ret))
theorem fn_curve_Copy_mk : FnOK Try.prog 44 6 [.cell 2 1 true] ac_curve_Copy_mk := ⟨_, _, Try.func44, rfl, Try.ntmps44, by kernel_rfl, ⟨fun r => if r == 1 then [1001002] else [], by kernel_rfl⟩, by kernel_rfl⟩
theorem curve_Copy_mk_ok (p1 : Curve) (r : Curve) (h : curve_Copy_mk p1 = some r) : MCall Try.prog 44 [(.d (.agg [(.list (List.map eSpot p1.Pts))]))] [] (mkAgg [(oE r.Pts (800000, 0))]) [] [oB 43 2 eSpot r.Pts] := by
  refine m_callT fn_curve_Copy_mk (by generalize r.Pts = x1; cases x1 <;> rfl) (nl rfl) ?_
  unfold curve_Copy_mk at h
  unfold ac_curve_Copy_mk
  refine l_sub (s0 := ⟨T [(0, (.d _))], G []⟩) (sbr rfl rfl) ?_
  refine lr (fun u1 hu1 => sn rfl rfl (sn rfl rfl (s_nil (lr (fun u2 hu2 => sp rfl rfl (sl rfl (gq rfl) rfl (bs h fun v1 hv1 h => s_oc (v := mkAgg [(oE v1.Pts (10010020, u2))]) (us := [(10010020, u2)]) (oc_mo (curve_through_mk_ok _ _ hv1) [] [] _ (((10010020, u2), oB 43 2 eSpot v1.Pts) :: _) rfl all2_av rfl live_nil trivial (fun _ h => h) List.nodup_nil (by generalize v1.Pts = x1; cases x1 <;> rfl) rfl (upsN_o (rfl)) rfl) ?_)))))))
  refine s_store _ _ _ _ _ (cellsV_mkAgg _) rfl rfl (gq rfl) (nl rfl) [(oE v1.Pts (10010020, u2))] rfl (s_nil (l_ret ?_))
  obtain rfl := Option.some.inj h
  exact fin_m (v1 := (mkAgg [(oE v1.Pts (10010020, u2))])) (.inr rfl) (resA1 (res_cellG rfl G_hit (Nat.le_of_ble_eq_true rfl) rfl)) (.of rfl) [((10010020, u2), oB 43 2 eSpot v1.Pts)] (sbG_oB (gq rfl) trivial) (mpost_o [(10010020, u2)] (by generalize v1.Pts = x1; cases x1 <;> rfl) trivial ⟨(G_hit).trans oB_ren.symm, trivial⟩ rfl (List.forall_mem_cons.2 ⟨fun i hi => old_far rfl hi, (fun _ h => nomatch h)⟩) nd1)

noncomputable def curve_Join_mk (p1 : Curve) (p2 : Curve) : Option (Curve × Int) :=
  thenS ((curve_Check p1).bind fun v1 => cond (v1 != 0) (some (.inr ((Curve.mk []), v1))) ((curve_Check p2).bind fun v2 => cond (v2 != 0) (some (.inr ((Curve.mk []), v2))) (some (.inl ())))) (fun _ => (geti p1.Pts (w64 ((p1.Pts.length : Int) - 1))).bind fun v3 => (geti p2.Pts 0).bind fun v4 => cond (!(v3.X == v4.X && (v3.Y == v4.Y && true))) (some ((Curve.mk []), 7)) ((slices_Clone_Spot_Spoto p1.Pts).bind fun v5 => (subl p2.Pts 1 (p2.Pts.length : Int)).bind fun v6 => (appc v5 v6).bind fun v7 => (curve_through_mk v7).bind fun v8 => (curve_Check v8).bind fun v9 => cond (v9 != 0) (some ((Curve.mk []), v9)) (some (v8, 0)))) (fun r => some r)

/-- kerbstone/curve.Join -/
def ac_curve_Join_mk : AC := (.seq (.reg [oo 2 (.box 24 true (.t 0)), oo 3 (.box 24 true (.t 1)), oo 4 (.alloc 24 [.nilS]), oo 5 (.mv (ci 0))]) (.seq (.seq (.reg [oo 11 (.load 1 true (.t 2)), oo 12 (.load 1 true (.t 3)), oo 13 (.build [.nilS, .nilS] [(0, 1, (.t 11)), (1, 1, (.t 12))]), oo 14 (.mv (ci 0))]) (.block 0 (.loop (.seq (.reg [oo 15 (.bin .lss (.t 14) (ci 2))]) (.seq (.cond (.t 15) .skip (.exit 0)) (.seq (.block 1 (.seq (.reg [oo 16 (.idxA 2 1 true (.t 13) (.t 14)), oo 7 (.alloc 24 [.nilS]), oe (.store 1 (.t 7) (.t 16))]) (.seq (.reg [oo 17 (.load 1 true (.t 7)), oo 18 (.call (cf 20) [(.t 17)]), oo 8 (.mv (.t 18))]) (.seq (.reg [oo 19 (.mv (.t 8)), oo 20 (.bin .neq (.t 19) (ci 0))]) (.cond (.t 20) (.seq (.reg [oo 21 (.build [.nilS] []), oo 22 (.mv (.t 8)), oe (.store 1 (.t 4) (.t 21)), oo 5 (.mv (.t 22))]) .ret) .skip))))) (.reg [oo 23 (.bin .add (.t 14) (ci 1)), oo 14 (.mv (.t 23))]))))))) (.seq (.seq (.draw [oo 24 (.fieldA 0 (.t 2)), oo 25 (.load 1 false (.t 24)), oo 26 (.fieldA 0 (.t 2)), oo 27 (.load 1 false (.t 26)), oo 28 (.len (.t 27)), oo 29 (.bin .sub (.t 28) (ci 1)), oo 30 (.idxS 2 (.t 25) (.t 29)), oo 31 (.load 2 true (.t 30)), oo 32 (.fieldA 0 (.t 3)), oo 33 (.load 1 false (.t 32)), oo 34 (.idxS 2 (.t 33) (ci 0)), oo 35 (.load 2 true (.t 34)), oo 36 (.eqA true [false, false] (.t 31) (.t 35))] []) (.cond (.t 36) (.seq (.reg [oo 37 (.build [.nilS] []), oe (.store 1 (.t 4) (.t 37)), oo 5 (.mv (ci 7))]) .ret) .skip)) (.seq (.draw [oo 38 (.fieldA 0 (.t 2)), oo 39 (.load 1 false (.t 38)), oo 40 (.ocall 10100020 (cf 75) [(.t 39)]), oo 41 (.fieldA 0 (.t 3)), oo 42 (.load 1 false (.t 41)), oo 43 (.slice 2 (.t 42) (some (ci 1)) none none), oo 44 (.append 22 43 2 (.t 40) (.t 43)), oo 45 (.ocall 10100070 (cf 74) [(.t 44)]), oo 9 (.alloc 24 [.nilS]), oe (.store 1 (.t 9) (.t 45))] [(2, 4), (2, 8), (6, 8), (7, 8)]) (.seq (.seq (.reg [oo 46 (.load 1 true (.t 9)), oo 47 (.call (cf 20) [(.t 46)]), oo 10 (.mv (.t 47))]) (.seq (.reg [oo 48 (.mv (.t 10)), oo 49 (.bin .neq (.t 48) (ci 0))]) (.cond (.t 49) (.seq (.reg [oo 50 (.build [.nilS] []), oo 51 (.mv (.t 10)), oe (.store 1 (.t 4) (.t 50)), oo 5 (.mv (.t 51))]) .ret) .skip))) (.seq (.reg [oo 52 (.load 1 true (.t 9)), oe (.store 1 (.t 4) (.t 52)), oo 5 (.mv (ci 0))]) .ret))))))
theorem fn_curve_Join_mk : FnOK Try.prog 36 53 [.cell 4 1 true, .t 5] ac_curve_Join_mk := ⟨_, _, Try.func36, rfl, Try.ntmps36, by kernel_rfl, ⟨fun r => if r == 10 then [1010002, 1010007] else [], by kernel_rfl⟩, by kernel_rfl⟩
set_option maxHeartbeats 4000000 in
theorem curve_Join_mk_ok (p1 : Curve) (p2 : Curve) (r : (Curve × Int)) (h : curve_Join_mk p1 p2 = some r) : MCall Try.prog 36 [(.d (.agg [(.list (List.map eSpot p1.Pts))])), (.d (.agg [(.list (List.map eSpot p2.Pts))]))] [] (.tup [(mkAgg [(oE r.1.Pts (800000, 0))]), (di r.2)]) [] [oB 43 2 eSpot r.1.Pts] := by
  refine m_callT fn_curve_Join_mk (by generalize r.1.Pts = x1; cases x1 <;> rfl) (nl rfl) ?_
  unfold curve_Join_mk at h
  unfold ac_curve_Join_mk
  refine l_sub (s0 := ⟨T [(0, (.d _)), (1, (.d _))], G []⟩) (sbr rfl rfl) ?_
  refine lr (fun u1 hu1 => sn rfl rfl (sn rfl rfl (sn rfl rfl (sv rfl (s_nil (l_seq (lr (fun u2 hu2 => sd rfl (v_loadG rfl (gq rfl) rfl rfl) (sd rfl (v_loadG rfl (gq rfl) rfl rfl) (sv rfl (sv rfl (s_nil (js h fun z1 hz1 h => l_join (fun s => ∃ (y1 : Unit) (g1 : Unit), z1 = .inl y1 ∧ Sb ⟨T [(2, (.ptr (2, u1) 0)), (3, (.ptr (3, u1) 0)), (4, (.ptr (4, u1) 0))], G [((2, u1), some (.box 24 [(dl eSpot p1.Pts)])), ((3, u1), some (.box 24 [(dl eSpot p2.Pts)])), ((4, u1), some (.box 24 [(.d .nilS)]))]⟩ s) ?_ ?_)))))))))))))
  · refine l_block (l_unroll (lr (fun u3 hu3 => sv rfl (s_nil (l_seq (l_condT rfl (l_skip (l_seq (l_block (lr (fun u4 hu4 => sv rfl (sn rfl rfl (sst rfl G_hit [(dl eSpot p1.Pts)] rfl (s_nil (lr (fun u5 hu5 => sd rfl (v_loadG rfl G_hit rfl rfl) (bs hz1 fun v1 hv1 hz1 => s_call rfl rfl all2_refl (curve_Check_ok _  _ hv1) (.inl rfl) (sv rfl (s_nil (lr (fun u6 hu6 => sv rfl (sv rfl (s_nil (cc rfl hz1 (fun c1 hz1 => ?_) (fun c1 hz1 => ?_)))))))))))))))))))))))))
    · refine l_seq (l_sub (s0 := ⟨T [(4, (.ptr _ _)), (8, (.d _))], G [((4, u1), some (.box 24 _))]⟩) (sbr rfl rfl) ?_)
      refine l_reg fun u7 hu7 => sv rfl (sv rfl (sst rfl G_hit [(.d .nilS)] rfl (sv rfl (s_nil (l_ret ?_)))))
      obtain rfl := Option.some.inj hz1
      rw [Sum.elim_inr] at h
      obtain rfl := Option.some.inj h
      exact fin_m (v1 := (.tup [(mkAgg [(oE ([] : List Spot) (700000, 0))]), (di v1)])) (.inr rfl) (resA2 (res_cellG rfl G_hit (Nat.le_of_ble_eq_true rfl) rfl) (res_t rfl)) (AVle.tup (.cons (AVle.dagg (.cons ⟨DLe.nil, rfl⟩ .nil)) (.cons (.of rfl) .nil))) [((700000, 0), oB 43 2 eSpot ([] : List Spot))] (sbG_nil trivial) (mpost_o [(700000, 0)] rfl trivial ⟨(G_hit).trans oB_ren.symm, trivial⟩ rfl (List.forall_mem_cons.2 ⟨fun i hi => old_far rfl hi, (fun _ h => nomatch h)⟩) nd1)
    · refine l_skip (l_end (l_sub (s0 := ⟨T [(2, (.ptr _ _)), (3, (.ptr _ _)), (4, (.ptr _ _)), (13, (.d _)), (14, (.d _))], G [((2, u1), some (.box 24 _)), ((3, u1), some (.box 24 _)), ((4, u1), some (.box 24 _))]⟩) (sbr rfl rfl) ?_))
      refine l_reg fun u8 hu8 => sv rfl (sv rfl (s_nil (l_unroll (lr (fun u9 hu9 => sv rfl (s_nil (l_seq (l_condT rfl (l_skip (l_seq (l_block (lr (fun u10 hu10 => sv rfl (sn rfl rfl (sst rfl G_hit [(dl eSpot p2.Pts)] rfl (s_nil (lr (fun u11 hu11 => sd rfl (v_loadG rfl G_hit rfl rfl) (bs hz1 fun v2 hv2 hz1 => s_call rfl rfl all2_refl (curve_Check_ok _  _ hv2) (.inl rfl) (sv rfl (s_nil (lr (fun u12 hu12 => sv rfl (sv rfl (s_nil (cc rfl hz1 (fun c2 hz1 => ?_) (fun c2 hz1 => ?_)))))))))))))))))))))))))))
      · refine lr (fun u13 hu13 => sv rfl (sv rfl (sst rfl (gq rfl) [(.d .nilS)] rfl (sv rfl (s_nil (l_ret ?_))))))
        obtain rfl := Option.some.inj hz1
        rw [Sum.elim_inr] at h
        obtain rfl := Option.some.inj h
        exact fin_m (v1 := (.tup [(mkAgg [(oE ([] : List Spot) (700000, 0))]), (di v2)])) (.inr rfl) (resA2 (res_cellG rfl G_hit (Nat.le_of_ble_eq_true rfl) rfl) (res_t rfl)) (AVle.tup (.cons (AVle.dagg (.cons ⟨DLe.nil, rfl⟩ .nil)) (.cons (.of rfl) .nil))) [((700000, 0), oB 43 2 eSpot ([] : List Spot))] (sbG_nil trivial) (mpost_o [(700000, 0)] rfl trivial ⟨(G_hit).trans oB_ren.symm, trivial⟩ rfl (List.forall_mem_cons.2 ⟨fun i hi => old_far rfl hi, (fun _ h => nomatch h)⟩) nd1)
      · refine l_skip (l_end (l_reg fun u14 hu14 => sv rfl (sv rfl (s_nil (l_unroll (lr (fun u15 hu15 => sv rfl (s_nil (l_seq (l_condF rfl (l_exit rfl ?_)))))))))))
        obtain rfl := Option.some.inj hz1
        exact l_j ⟨_, (), rfl, (sbr rfl rfl)⟩
  · rintro _ ⟨y1, g1, rfl, q1⟩
    rw [Sum.elim_inl] at h
    refine l_sub q1 (l_seq (l_seq (l_draw rfl fun u16 hu16 => sp rfl rfl (sl rfl G_hit rfl (sp rfl rfl (sl rfl G_hit rfl (sd rfl (v_len rfl) (sv rfl (bs h fun v3 hv3 h => sd rfl (v_idx rfl rfl hv3 rfl) (sd rfl (v_loadLG rfl hv3 rfl rfl) (sp rfl rfl (sl rfl (gq rfl) rfl (bs h fun v4 hv4 h => sd rfl (v_idx rfl rfl hv4 rfl) (sd rfl (v_loadLG rfl hv4 rfl rfl) (s_val (.d (bo (!(v3.X == v4.X && (v3.Y == v4.Y && true))))) rfl rfl (s_nil (cc rfl h (fun c3 h => ?_) (fun c3 h => ?_))))))))))))))))))
    · refine lr (fun u17 hu17 => sv rfl (sst rfl (gq rfl) [(.d .nilS)] rfl (sv rfl (s_nil (l_ret ?_)))))
      obtain rfl := Option.some.inj h
      exact fin_m (v1 := (.tup [(mkAgg [(oE ([] : List Spot) (700000, 0))]), (di 7)])) (.inr rfl) (resA2 (res_cellG rfl G_hit (Nat.le_of_ble_eq_true rfl) rfl) (res_t rfl)) (AVle.tup (.cons (AVle.dagg (.cons ⟨DLe.nil, rfl⟩ .nil)) (.cons (.of rfl) .nil))) [((700000, 0), oB 43 2 eSpot ([] : List Spot))] (sbG_nil trivial) (mpost_o [(700000, 0)] rfl trivial ⟨(G_hit).trans oB_ren.symm, trivial⟩ rfl (List.forall_mem_cons.2 ⟨fun i hi => old_far rfl hi, (fun _ h => nomatch h)⟩) nd1)
    · refine l_skip (l_seq (l_drawT fun u18 hu18 => t_val (.ptr _ _) rfl rfl (t_val (.d _) rfl (v_load rfl G_hit rfl) (bs h fun v5 hv5 h => t_oc (v := .sl (10100020, u18)) (us := [(10100020, u18)]) (oc_m (slices_Clone_Spot_Spoto_ok _ _ hv5) [] [] _ (((10100020, u18), some (.arr 43 2 (List.map eSpot v5))) :: _) rfl all2_av rfl live_nil trivial (fun _ h => h) List.nodup_nil rfl rfl rfl) (t_val (.ptr _ _) rfl rfl (t_val (.d _) rfl (v_load rfl (gq rfl) rfl) (bs h fun v6 hv6 h => t_val (.d _) rfl (v_sub rfl (fun _ => rfl) (bd_x rfl) bd_end hv6) (bs h fun v7 hv7 h => t_append eSpot _ _ _ _ (elems_list (fun _ => rfl)) rfl G_hit hv7 (bs h fun v8 hv8 h => t_oc (v := mkAgg [(oE v8.Pts (10100070, u18))]) (us := [(44, u18), (10100070, u18)]) (oc_fm [(44, u18)] _ (((10100070, u18), oB 43 2 eSpot v8.Pts) :: (((44, u18), none) :: _)) rfl (rfL_cons (rf_sl G_hit) rfL_nil) all2_refl (curve_through_mk_ok _ _ hv8) (kl_cons kr_sl kl_nil) (by generalize v8.Pts = x1; cases x1 <;> rfl) rfl (upsN_o (rfl)) rfl) ?_)))))))))
      refine t_new (.ptr _ _) (.box _ _) rfl rfl (t_store _ _ _ _ _ (cellsV_mkAgg _) rfl rfl G_hit (nl rfl) [(oE v8.Pts (10100070, u18))] rfl (t_nil ⟨rfl, ?_⟩))
      refine l_seq (l_seq (l_sub (s0 := ⟨T [(4, (.ptr (4, u1) 0)), (9, (.ptr (9, u18) 0))], G [((4, u1), some (.box 24 [(.d .nilS)])), ((9, u18), some (.box 24 [(oE v8.Pts (10100070, u18))])), ((10100070, u18), oB 43 2 eSpot v8.Pts)]⟩) (sb_of ⟨.of rfl, .of rfl, trivial⟩ (sbG_some (gq rfl) (.of rfl) (sbG_some G_hit (.of rfl) (sbG_oB (gq rfl) trivial)))) ?_))
      refine l_reg fun u19 hu19 => s_val (mkAgg [(oE v8.Pts (10100070, u18))]) rfl (v_loadG rfl (gq rfl) rfl rfl) (bs h fun v9 hv9 h => s_call rfl (rfL_cons (rf_mkAgg (rfL_cons (rf_oE (gq rfl)) rfL_nil)) rfL_nil) all2_refl (curve_Check_ok _  _ hv9) (.inr rfl) (sv rfl (s_nil (lr (fun u20 hu20 => sv rfl (sv rfl (s_nil (cc rfl h (fun c4 h => ?_) (fun c4 h => ?_)))))))))
      · refine lr (fun u21 hu21 => sv rfl (sv rfl (sst rfl G_hit [(.d .nilS)] rfl (sv rfl (s_nil (l_ret ?_))))))
        obtain rfl := Option.some.inj h
        exact fin_m (v1 := (.tup [(mkAgg [(oE ([] : List Spot) (700000, 0))]), (di v9)])) (.inr rfl) (resA2 (res_cellG rfl G_hit (Nat.le_of_ble_eq_true rfl) rfl) (res_t rfl)) (AVle.tup (.cons (AVle.dagg (.cons ⟨DLe.nil, rfl⟩ .nil)) (.cons (.of rfl) .nil))) [((700000, 0), oB 43 2 eSpot ([] : List Spot))] (sbG_nil trivial) (mpost_o [(700000, 0)] rfl trivial ⟨(G_hit).trans oB_ren.symm, trivial⟩ rfl (List.forall_mem_cons.2 ⟨fun i hi => old_far rfl hi, (fun _ h => nomatch h)⟩) nd1)
      · refine l_skip (lr (fun u22 hu22 => s_val (mkAgg [(oE v8.Pts (10100070, u18))]) rfl (v_loadG rfl (gq rfl) rfl rfl) (s_store _ _ _ _ _ (cellsV_mkAgg _) rfl rfl G_hit (nl rfl) [(oE v8.Pts (10100070, u18))] rfl (sv rfl (s_nil (l_ret ?_))))))
        obtain rfl := Option.some.inj h
        exact fin_m (v1 := (.tup [(mkAgg [(oE v8.Pts (10100070, u18))]), (di 0)])) (.inr rfl) (resA2 (res_cellG rfl G_hit (Nat.le_of_ble_eq_true rfl) rfl) (res_t rfl)) (.of rfl) [((10100070, u18), oB 43 2 eSpot v8.Pts)] (sbG_oB (gq rfl) trivial) (mpost_o [(10100070, u18)] (by generalize v8.Pts = x1; cases x1 <;> rfl) trivial ⟨(G_hit).trans oB_ren.symm, trivial⟩ rfl (List.forall_mem_cons.2 ⟨fun i hi => old_far rfl hi, (fun _ h => nomatch h)⟩) nd1)

noncomputable def law01_CurveJoins_l4 (x4 : (Int × Curve)) : Option (Stp (Int × Curve) Unit) :=
  cond (decide (x4.1 < (x4.2.Pts.length : Int))) ((geti x4.2.Pts x4.1).bind fun v28 => (geti x4.2.Pts x4.1).bind fun v29 => some (.go ((w64 (x4.1 + 1)), (Curve.mk (seti x4.2.Pts x4.1 (Spot.mk (w64 (v28.X + 1)) v29.Y)))))) (some (.out ()))
noncomputable def law01_CurveJoins_l3 (x3 : (Int × Curve)) : Option (Stp (Int × Curve) Unit) :=
  cond (decide (x3.1 < (x3.2.Pts.length : Int))) ((geti x3.2.Pts x3.1).bind fun v26 => (geti x3.2.Pts x3.1).bind fun v27 => some (.go ((w64 (x3.1 + 1)), (Curve.mk (seti x3.2.Pts x3.1 (Spot.mk (w64 (v26.X + 1)) v27.Y)))))) (some (.out ()))
noncomputable def law01_CurveJoins_l2 (p1 : Curve) (p2 : Curve) (v4 : Curve) (y1 : Curve) (x2 : Int) : Option (Stp Int (Sum Unit Bool)) :=
  cond (decide ((w64 (x2 + 1)) < ([p1, p2, v4, y1, p1].length : Int))) ((geti [p1, p2, v4, y1, p1] x2).bind fun v12 => (law01_own v12).bind fun v13 => (geti [p1, p2, v4, y1, p1] (w64 (x2 + 1))).bind fun v14 => (law01_own v14).bind fun v15 => (curve_Join_mk v13 v15).bind fun v16 => (geti [p1, p2, v4, y1, p1] x2).bind fun v17 => (geti [p1, p2, v4, y1, p1] (w64 (x2 + 1))).bind fun v18 => (ref01_Join v17 v18).bind fun v19 => ((cond (!(v16.2 != v19.2)) (ref01_Same v16.1 v19.1) (some default))).bind fun v20 => ((cond (!((v16.2 != v19.2) || (!v20))) (curve_Same v13 v15) (some default))).bind fun v21 => ((cond (!((v16.2 != v19.2) || (!v20))) (ref01_Same v13 v15) (some default))).bind fun v22 => ((cond (!(((v16.2 != v19.2) || (!v20)) || (!(v21 == v22)))) (curve_Same v13 v13) (some default))).bind fun v23 => cond ((((v16.2 != v19.2) || (!v20)) || (!(v21 == v22))) || (!v23)) (some (.out (.inr false))) ((curve_Copy_mk v13).bind fun v24 => (ref01_Same v24 v13).bind fun v25 => cond (!v25) (some (.out (.inr false))) ((loop (law01_CurveJoins_l3) (0, v24)).bind fun _ => (loop (law01_CurveJoins_l4) (0, v16.1)).bind fun _ => (geti [p1, p2, v4, y1, p1] x2).bind fun v30 => (ref01_Same v13 v30).bind fun v31 => ((cond (!(!v31)) (geti [p1, p2, v4, y1, p1] (w64 (x2 + 1))) (some default))).bind fun v32 => ((cond (!(!v31)) (ref01_Same v15 v32) (some default))).bind fun v33 => cond ((!v31) || (!v33)) (some (.out (.inr false))) (some (.go (w64 (x2 + 1))))))) (some (.out (.inl ())))
noncomputable def law01_CurveJoins_l1 (v8 : Spot) (x1 : (Int × Curve)) : Option (Stp (Int × Curve) Curve) :=
  cond (decide (x1.1 < (x1.2.Pts.length : Int))) ((geti x1.2.Pts x1.1).bind fun v9 => (geti x1.2.Pts x1.1).bind fun v10 => (geti x1.2.Pts x1.1).bind fun v11 => some (.go ((w64 (x1.1 + 1)), (Curve.mk (seti x1.2.Pts x1.1 (Spot.mk (w64 (v9.X + v8.X)) (w64 (v10.Y + v8.Y)))))))) (some (.out x1.2))
noncomputable def law01_CurveJoins (p1 : Curve) (p2 : Curve) (p3 : KitChain) (p4 : KitChain) : Option Bool :=
  (law01_long p1).bind fun v1 => ((cond (!v1) (law01_long p2) (some default))).bind fun v2 => cond (v1 || v2) ((law01_awake).bind fun v3 => some v3) ((kit_Curve p3).bind fun v4 => (kit_Curve_mk p4).bind fun v5 => (geti v4.Pts (w64 ((v4.Pts.length : Int) - 1))).bind fun v6 => (geti v5.Pts 0).bind fun v7 => (ref01_Minus v6 v7).bind fun v8 => (loop (law01_CurveJoins_l1 v8) (0, v5)).bind fun y1 => thenS (loop (law01_CurveJoins_l2 p1 p2 v4 y1) 0) (fun _ => (law01_awake).bind fun v34 => some v34) (fun r => some r))

/-- kerbstone/kerbstonelaw01.CurveJoins -/
def ac_law01_CurveJoins : AC := (.seq (.reg [oo 4 (.box 24 true (.t 0)), oo 5 (.box 24 true (.t 1)), oo 6 (.box 37 true (.t 2)), oo 7 (.box 37 true (.t 3)), oo 8 (.mv (.c zf))]) (.seq (.seq (.reg [oo 24 (.load 1 true (.t 4)), oo 25 (.call (cf 17) [(.t 24)]), oo 26 (.mv (.t 25)), oh 27 (.load 1 true (.t 5)) 26, oh 28 (.call (cf 17) [(.t 27)]) 26, oo 29 (.pick (.t 26) (.c (.v (.bool true))) (.t 28))]) (.cond (.t 29) (.seq (.reg [oo 30 (.call (cf 18) []), oo 8 (.mv (.t 30))]) .ret) .skip)) (.seq (.draw [oo 31 (.load 3 true (.t 6)), oo 32 (.call (cf 28) [(.t 31)]), oo 33 (.load 3 true (.t 7)), oo 34 (.ocall 10030030 (cf 28) [(.t 33)]), oo 9 (.alloc 24 [.nilS]), oo 10 (.alloc 24 [.nilS]), oe (.store 1 (.t 9) (.t 32)), oe (.store 1 (.t 10) (.t 34))] [(3, 4), (3, 5)]) (.seq (.draw [oo 35 (.fieldA 0 (.t 9)), oo 36 (.load 1 false (.t 35)), oo 37 (.fieldA 0 (.t 9)), oo 38 (.load 1 false (.t 37)), oo 39 (.len (.t 38)), oo 40 (.bin .sub (.t 39) (ci 1)), oo 41 (.idxS 2 (.t 36) (.t 40)), oo 42 (.load 2 true (.t 41)), oo 43 (.fieldA 0 (.t 10)), oo 44 (.load 1 false (.t 43)), oo 45 (.idxS 2 (.t 44) (ci 0)), oo 46 (.load 2 true (.t 45)), oo 47 (.call (cf 40) [(.t 42), (.t 46)]), oo 11 (.alloc 43 [z0, z0]), oe (.store 2 (.t 11) (.t 47))] []) (.seq (.seq (.reg [oo 12 (.mv (ci 0))]) (.block 0 (.loop (.seq (.seq (.reg [oo 48 (.mv (.t 12)), oo 49 (.fieldA 0 (.t 10)), oo 50 (.load 1 false (.t 49)), oo 51 (.len (.t 50)), oo 52 (.bin .lss (.t 48) (.t 51))]) (.cond (.t 52) .skip (.exit 0))) (.seq (.block 1 (.draw [oo 55 (.fieldA 0 (.t 10)), oo 56 (.load 1 false (.t 55)), oo 57 (.mv (.t 12)), oo 58 (.fieldA 0 (.t 10)), oo 59 (.load 1 false (.t 58)), oo 60 (.mv (.t 12)), oo 61 (.idxS 2 (.t 59) (.t 60)), oo 62 (.fieldA 0 (.t 61)), oo 63 (.load 1 false (.t 62)), oo 64 (.fieldA 0 (.t 11)), oo 65 (.load 1 false (.t 64)), oo 66 (.bin .add (.t 63) (.t 65)), oo 67 (.fieldA 0 (.t 10)), oo 68 (.load 1 false (.t 67)), oo 69 (.mv (.t 12)), oo 70 (.idxS 2 (.t 68) (.t 69)), oo 71 (.fieldA 1 (.t 70)), oo 72 (.load 1 false (.t 71)), oo 73 (.fieldA 1 (.t 11)), oo 74 (.load 1 false (.t 73)), oo 75 (.bin .add (.t 72) (.t 74)), oo 76 (.build [z0, z0] [(0, 1, (.t 66)), (1, 1, (.t 75))]), oo 77 (.idxS 2 (.t 56) (.t 57)), oe (.store 2 (.t 77) (.t 76))] [])) (.reg [oo 53 (.mv (.t 12)), oo 54 (.bin .add (.t 53) (ci 1)), oo 12 (.mv (.t 54))])))))) (.seq (.reg [oo 78 (.load 1 true (.t 4)), oo 79 (.load 1 true (.t 5)), oo 80 (.load 1 true (.t 9)), oo 81 (.load 1 true (.t 10)), oo 82 (.load 1 true (.t 4)), oo 83 (.dslice 24 1 5 [.nilS] [(0, 1, (.t 78)), (1, 1, (.t 79)), (2, 1, (.t 80)), (3, 1, (.t 81)), (4, 1, (.t 82))]), oo 13 (.mv (.t 83))]) (.seq (.seq (.reg [oo 14 (.mv (ci 0))]) (.block 2 (.loop (.seq (.seq (.reg [oo 84 (.mv (.t 14)), oo 85 (.bin .add (.t 84) (ci 1)), oo 86 (.mv (.t 13)), oo 87 (.len (.t 86)), oo 88 (.bin .lss (.t 85) (.t 87))]) (.cond (.t 88) .skip (.exit 2))) (.seq (.block 3 (.seq (.draw [oo 91 (.mv (.t 13)), oo 92 (.mv (.t 14)), oo 93 (.idxS 1 (.t 91) (.t 92)), oo 94 (.load 1 true (.t 93)), oo 95 (.call (cf 19) [(.t 94)]), oo 96 (.mv (.t 13)), oo 97 (.mv (.t 14)), oo 98 (.bin .add (.t 97) (ci 1)), oo 99 (.idxS 1 (.t 96) (.t 98)), oo 100 (.load 1 true (.t 99)), oo 101 (.call (cf 19) [(.t 100)]), oo 15 (.alloc 24 [.nilS]), oo 16 (.alloc 24 [.nilS]), oe (.store 1 (.t 15) (.t 95)), oe (.store 1 (.t 16) (.t 101))] []) (.seq (.reg [oo 103 (.load 1 true (.t 15)), oo 104 (.load 1 true (.t 16)), oo 105 (.ocall 10140020 (cf 36) [(.t 103), (.t 104)]), oo 102 (.mv (.t 105)), oo 106 (.ext (.t 102) 0), oo 107 (.ext (.t 102) 1), oo 17 (.alloc 24 [.nilS]), oe (.store 1 (.t 17) (.t 106)), oo 18 (.mv (.t 107))]) (.seq (.draw [oo 109 (.mv (.t 13)), oo 110 (.mv (.t 14)), oo 111 (.idxS 1 (.t 109) (.t 110)), oo 112 (.load 1 true (.t 111)), oo 113 (.mv (.t 13)), oo 114 (.mv (.t 14)), oo 115 (.bin .add (.t 114) (ci 1)), oo 116 (.idxS 1 (.t 113) (.t 115)), oo 117 (.load 1 true (.t 116)), oo 118 (.call (cf 41) [(.t 112), (.t 117)]), oo 108 (.mv (.t 118)), oo 119 (.ext (.t 108) 0), oo 120 (.ext (.t 108) 1), oo 19 (.alloc 24 [.nilS]), oe (.store 1 (.t 19) (.t 119)), oo 20 (.mv (.t 120))] []) (.seq (.seq (.draw [oo 121 (.mv (.t 18)), oo 122 (.mv (.t 20)), oo 123 (.bin .neq (.t 121) (.t 122)), oo 124 (.mv (.t 123)), oh 125 (.load 1 true (.t 17)) 124, oh 126 (.load 1 true (.t 19)) 124, oh 127 (.call (cf 42) [(.t 125), (.t 126)]) 124, oh 128 (.un .not (.t 127)) 124, oo 129 (.pick (.t 124) (.c (.v (.bool true))) (.t 128)), oo 130 (.mv (.t 129)), oh 131 (.load 1 true (.t 15)) 130, oh 132 (.load 1 true (.t 16)) 130, oh 133 (.call (cf 43) [(.t 131), (.t 132)]) 130, oh 134 (.load 1 true (.t 15)) 130, oh 135 (.load 1 true (.t 16)) 130, oh 136 (.call (cf 42) [(.t 134), (.t 135)]) 130, oh 137 (.eqB true (.t 133) (.t 136)) 130, oo 138 (.pick (.t 130) (.c (.v (.bool true))) (.t 137)), oo 139 (.mv (.t 138)), oh 140 (.load 1 true (.t 15)) 139, oh 141 (.load 1 true (.t 15)) 139, oh 142 (.call (cf 43) [(.t 140), (.t 141)]) 139, oh 143 (.un .not (.t 142)) 139, oo 144 (.pick (.t 139) (.c (.v (.bool true))) (.t 143))] []) (.cond (.t 144) (.seq (.reg [oo 8 (.mv (.c zf))]) .ret) .skip)) (.seq (.reg [oo 145 (.load 1 true (.t 15)), oo 146 (.ocall 10180010 (cf 44) [(.t 145)]), oo 21 (.alloc 24 [.nilS]), oe (.store 1 (.t 21) (.t 146))]) (.seq (.seq (.reg [oo 147 (.load 1 true (.t 21)), oo 148 (.load 1 true (.t 15)), oo 149 (.call (cf 42) [(.t 147), (.t 148)]), oo 150 (.un .not (.t 149))]) (.cond (.t 150) (.seq (.reg [oo 8 (.mv (.c zf))]) .ret) .skip)) (.seq (.seq (.reg [oo 22 (.mv (ci 0))]) (.block 4 (.loop (.seq (.seq (.reg [oo 151 (.mv (.t 22)), oo 152 (.fieldA 0 (.t 21)), oo 153 (.load 1 false (.t 152)), oo 154 (.len (.t 153)), oo 155 (.bin .lss (.t 151) (.t 154))]) (.cond (.t 155) .skip (.exit 4))) (.seq (.block 5 (.reg [oo 158 (.fieldA 0 (.t 21)), oo 159 (.load 1 false (.t 158)), oo 160 (.mv (.t 22)), oo 161 (.idxS 2 (.t 159) (.t 160)), oo 162 (.fieldA 0 (.t 161)), oo 163 (.load 1 false (.t 162)), oo 164 (.bin .add (.t 163) (ci 1)), oo 165 (.idxS 2 (.t 159) (.t 160)), oo 166 (.fieldA 0 (.t 165)), oe (.store 1 (.t 166) (.t 164))])) (.reg [oo 156 (.mv (.t 22)), oo 157 (.bin .add (.t 156) (ci 1)), oo 22 (.mv (.t 157))])))))) (.seq (.seq (.reg [oo 23 (.mv (ci 0))]) (.block 6 (.loop (.seq (.seq (.reg [oo 167 (.mv (.t 23)), oo 168 (.fieldA 0 (.t 17)), oo 169 (.load 1 false (.t 168)), oo 170 (.len (.t 169)), oo 171 (.bin .lss (.t 167) (.t 170))]) (.cond (.t 171) .skip (.exit 6))) (.seq (.block 7 (.reg [oo 174 (.fieldA 0 (.t 17)), oo 175 (.load 1 false (.t 174)), oo 176 (.mv (.t 23)), oo 177 (.idxS 2 (.t 175) (.t 176)), oo 178 (.fieldA 0 (.t 177)), oo 179 (.load 1 false (.t 178)), oo 180 (.bin .add (.t 179) (ci 1)), oo 181 (.idxS 2 (.t 175) (.t 176)), oo 182 (.fieldA 0 (.t 181)), oe (.store 1 (.t 182) (.t 180))])) (.reg [oo 172 (.mv (.t 23)), oo 173 (.bin .add (.t 172) (ci 1)), oo 23 (.mv (.t 173))])))))) (.seq (.draw [oo 183 (.load 1 true (.t 15)), oo 184 (.mv (.t 13)), oo 185 (.mv (.t 14)), oo 186 (.idxS 1 (.t 184) (.t 185)), oo 187 (.load 1 true (.t 186)), oo 188 (.call (cf 42) [(.t 183), (.t 187)]), oo 189 (.un .not (.t 188)), oo 190 (.mv (.t 189)), oh 191 (.load 1 true (.t 16)) 190, oh 192 (.mv (.t 13)) 190, oh 193 (.mv (.t 14)) 190, oh 194 (.bin .add (.t 193) (ci 1)) 190, oh 195 (.idxS 1 (.t 192) (.t 194)) 190, oh 196 (.load 1 true (.t 195)) 190, oh 197 (.call (cf 42) [(.t 191), (.t 196)]) 190, oh 198 (.un .not (.t 197)) 190, oo 199 (.pick (.t 190) (.c (.v (.bool true))) (.t 198))] []) (.cond (.t 199) (.seq (.reg [oo 8 (.mv (.c zf))]) .ret) .skip))))))))))) (.reg [oo 89 (.mv (.t 14)), oo 90 (.bin .add (.t 89) (ci 1)), oo 14 (.mv (.t 90))])))))) (.seq (.reg [oo 200 (.call (cf 18) []), oo 8 (.mv (.t 200))]) .ret))))))))
theorem fn_law01_CurveJoins : FnOK Try.prog 9 201 [.t 8] ac_law01_CurveJoins := ⟨_, _, Try.func9, rfl, Try.ntmps9, by kernel_rfl, ⟨fun r => if r == 3 then [1003003] else if r == 9 then [1005] else if r == 14 then [1014002] else if r == 18 then [1018001] else [], by kernel_rfl⟩, by kernel_rfl⟩
set_option maxHeartbeats 4000000 in
theorem law01_CurveJoins_ok (p1 : Curve) (p2 : Curve) (p3 : KitChain) (p4 : KitChain) (r : Bool) (h : law01_CurveJoins p1 p2 p3 p4 = some r) : PCall Try.prog 9 [(.agg [(.list (List.map eSpot p1.Pts))]), (.agg [(.list (List.map eSpot p2.Pts))]), (.agg (eKitChain p3)), (.agg (eKitChain p4))] (bo r) := by
  refine l_call fn_law01_CurveJoins (nl rfl) ?_
  unfold law01_CurveJoins at h
  unfold ac_law01_CurveJoins
  refine l_sub (s0 := ⟨T [(0, (.d _)), (1, (.d _)), (2, (.d _)), (3, (.d _))], G []⟩) (sbr rfl rfl) ?_
  refine lr (fun u1 hu1 => sn rfl rfl (sn rfl rfl (sn rfl rfl (sn rfl rfl (sv rfl (s_nil (l_seq (lr (fun u2 hu2 => sd rfl (v_loadG rfl (gq rfl) rfl rfl) (bs h fun v1 hv1 h => s_call rfl rfl all2_refl (law01_long_ok _  _ hv1) (.inl rfl) (sv rfl (gf rfl (fun w1 => (v_loadG rfl (gq rfl) rfl rfl)) (bs h fun v2 hv2 h => g_call _ (bo v2) (gw_f rfl) (fun w2 => ⟨_, [(.d (.agg [(.list (List.map eSpot p2.Pts))]))], _, _, (by simp only [gd_pos w2]; rfl), rfl, all2_refl, law01_long_ok _  _ (cond_t w2 hv2), (.inl rfl)⟩) ?_)))))))))))))
  refine sd rfl (v_or rfl rfl (fun hc => gd_pos (not_t hc))) (s_nil (cc rfl h (fun c1 h => ?_) (fun c1 h => ?_)))
  · refine lr (fun u3 hu3 => bs h fun v3 hv3 h => s_call rfl rfl all2_refl (law01_awake_ok  _ hv3) (.inl rfl) (sv rfl (s_nil (l_ret ?_))))
    obtain rfl := Option.some.inj h
    exact fin_ok (.inr rfl) (resD1 (res_t rfl) rf_d) (.refl _)
  · refine l_skip (l_seq (l_drawT fun u4 hu4 => t_val (.d _) rfl (v_loadG rfl (gq rfl) rfl rfl) (bs h fun v4 hv4 h => t_call rfl rfl all2_refl (kit_Curve_ok _  _ hv4) (.inl rfl) (t_val (.d _) rfl (v_loadG rfl G_hit rfl rfl) (bs h fun v5 hv5 h => t_oc (v := mkAgg [(oS v5.Pts (10030030, u4))]) (us := [(10030030, u4)]) (oc_mo (kit_Curve_mk_ok _ _ hv5) [] [] _ (((10030030, u4), oB 43 2 eSpot v5.Pts) :: _) rfl all2_av rfl live_nil trivial (fun _ h => h) List.nodup_nil (by generalize v5.Pts = x1; cases x1 <;> rfl) rfl (upsN_o (rfl)) rfl) ?_)))))
    refine t_new (.ptr _ _) (.box _ _) rfl rfl (t_new (.ptr _ _) (.box _ _) rfl rfl (t_store _ _ _ _ _ rfl rfl rfl (gq rfl) (nl rfl) [(dl eSpot v4.Pts)] rfl (t_store _ _ _ _ _ (cellsV_mkAgg _) rfl rfl (gq rfl) (nl rfl) [(oS v5.Pts (10030030, u4))] rfl (t_nil ⟨rfl, ?_⟩))))
    refine l_seq (l_sub (s0 := ⟨T [(4, (.ptr (4, u1) 0)), (5, (.ptr (5, u1) 0)), (9, (.ptr (9, u4) 0)), (10, (.ptr (10, u4) 0))], G [((4, u1), some (.box 24 [(dl eSpot p1.Pts)])), ((5, u1), some (.box 24 [(dl eSpot p2.Pts)])), ((9, u4), some (.box 24 [(dl eSpot v4.Pts)])), ((10, u4), some (.box 24 [(oS v5.Pts (10030030, u4))])), ((10030030, u4), oB 43 2 eSpot v5.Pts)]⟩) (sb_of ⟨.of rfl, .of rfl, .of rfl, .of rfl, trivial⟩ (sbG_some (gq rfl) (.of rfl) (sbG_some (gq rfl) (.of rfl) (sbG_some (gq rfl) (.of rfl) (sbG_some G_hit (.of rfl) (sbG_oB (gq rfl) trivial)))))) ?_)
    refine l_draw rfl fun u5 hu5 => sp rfl rfl (sl rfl (gq rfl) rfl (sp rfl rfl (sl rfl (gq rfl) rfl (sd rfl (v_len rfl) (sv rfl (bs h fun v6 hv6 h => sd rfl (v_idx rfl rfl hv6 rfl) (sd rfl (v_loadLG rfl hv6 rfl rfl) (sp rfl rfl (s_val (oS v5.Pts (10030030, u4)) rfl (v_load rfl (gq rfl) rfl) (bs h fun v7 hv7 h => s_val (.aptr _ _ _ _) rfl (v_idxO rfl rfl (gq rfl) hv7) (sd rfl (v_loadAG rfl (look_oB (gq rfl) (geti_ne hv7)) hv7 rfl rfl) (bs h fun v8 hv8 h => s_call rfl rfl all2_refl (ref01_Minus_ok _ _  _ hv8) (.inl rfl) (sn rfl rfl (sst rfl G_hit [(di v8.X), (di v8.Y)] rfl (s_nil (l_seq (l_seq (l_sub (s0 := ⟨T [(4, (.ptr (4, u1) 0)), (5, (.ptr (5, u1) 0)), (9, (.ptr (9, u4) 0)), (10, (.ptr (10, u4) 0)), (11, (.ptr (11, u5) 0))], G [((4, u1), some (.box 24 [(dl eSpot p1.Pts)])), ((5, u1), some (.box 24 [(dl eSpot p2.Pts)])), ((9, u4), some (.box 24 [(dl eSpot v4.Pts)])), ((10, u4), some (.box 24 [(oS v5.Pts (10030030, u4))])), ((10030030, u4), oB 43 2 eSpot v5.Pts), ((11, u5), some (.box 43 [(di v8.X), (di v8.Y)]))]⟩) (sb_of ⟨.of rfl, .of rfl, .of rfl, .of rfl, .of rfl, trivial⟩ (sbG_some (gq rfl) (.of rfl) (sbG_some (gq rfl) (.of rfl) (sbG_some (gq rfl) (.of rfl) (sbG_some (gq rfl) (.of rfl) (sbG_oB (gq rfl) (sbG_some G_hit (.of rfl) trivial))))))) ?_))))))))))))))))))
    refine l_reg fun u6 hu6 => sv rfl (s_nil (bs h fun y1 hy1 h => l_join (fun s => ∃ g1 : Nat, Sb ⟨T [(4, (.ptr (4, u1) 0)), (5, (.ptr (5, u1) 0)), (9, (.ptr (9, u4) 0)), (10, (.ptr (10, u4) 0))], G [((4, u1), some (.box 24 [(dl eSpot p1.Pts)])), ((5, u1), some (.box 24 [(dl eSpot p2.Pts)])), ((9, u4), some (.box 24 [(dl eSpot v4.Pts)])), ((10, u4), some (.box 24 [(oS y1.Pts (10030030, g1))])), ((10030030, g1), oB 43 2 eSpot y1.Pts)]⟩ s) ?_ ?_))
    · refine l_block (l_loop (law01_CurveJoins_l1 v8) (fun (x1 : (Int × Curve)) (g2 : Nat) => ⟨T [(4, (.ptr (4, u1) 0)), (5, (.ptr (5, u1) 0)), (9, (.ptr (9, u4) 0)), (10, (.ptr (10, u4) 0)), (11, (.ptr (11, u5) 0)), (12, (di x1.1))], G [((4, u1), some (.box 24 [(dl eSpot p1.Pts)])), ((5, u1), some (.box 24 [(dl eSpot p2.Pts)])), ((9, u4), some (.box 24 [(dl eSpot v4.Pts)])), ((10, u4), some (.box 24 [(oS x1.2.Pts (10030030, g2))])), ((11, u5), some (.box 43 [(di v8.X), (di v8.Y)])), ((10030030, g2), oB 43 2 eSpot x1.2.Pts)]⟩) (0, v5) u4 _ hy1 (sb_of ⟨.of rfl, .of rfl, .of rfl, .of rfl, .of rfl, .of rfl, trivial⟩ (sbG_some G_hit (.of rfl) (sbG_some (gq rfl) (.of rfl) (sbG_some (gq rfl) (.of rfl) (sbG_some (gq rfl) (.of rfl) (sbG_some (gq rfl) (.of rfl) (sbG_oB (gq rfl) trivial))))))) ?_)
      intro x1 g2 z1 hz1 ez1
      unfold law01_CurveJoins_l1 at hz1
      refine l_seq (lr (fun u7 hu7 => sv rfl (sp rfl rfl (s_val (oS x1.2.Pts (10030030, g2)) rfl (v_load rfl (gq rfl) rfl) (sd rfl (v_lenO (f := eSpot) rfl (gq rfl)) (sv rfl (s_nil (cc rfl hz1 (fun c2 hz1 => ?_) (fun c2 hz1 => ?_)))))))))
      · refine l_skip (l_seq (l_block (l_draw rfl fun u8 hu8 => sp rfl rfl (s_val (oS x1.2.Pts (10030030, g2)) rfl (v_load rfl (gq rfl) rfl) (sv rfl (sp rfl rfl (s_val (oS x1.2.Pts (10030030, g2)) rfl (v_load rfl (gq rfl) rfl) (sv rfl (bs hz1 fun v9 hv9 hz1 => s_val (.aptr _ _ _ _) rfl (v_idxO rfl rfl (gq rfl) hv9) (s_val (.aptr _ _ _ _) rfl rfl (sd rfl (v_loadA rfl (look_oB (gq rfl) (geti_ne hv9)) hv9 rfl) (sp rfl rfl (sl rfl (gq rfl) rfl (sv rfl (sp rfl rfl (s_val (oS x1.2.Pts (10030030, g2)) rfl (v_load rfl (gq rfl) rfl) (sv rfl (bs hz1 fun v10 hv10 hz1 => s_val (.aptr _ _ _ _) rfl (v_idxO rfl rfl (gq rfl) hv10) (s_val (.aptr _ _ _ _) rfl rfl (sd rfl (v_loadA rfl (look_oB (gq rfl) (geti_ne hv10)) hv10 rfl) (sp rfl rfl (sl rfl (gq rfl) rfl (sv rfl (sv rfl (bs hz1 fun v11 hv11 hz1 => s_val (.aptr _ _ _ _) rfl (v_idxO rfl rfl (gq rfl) hv11) ?_)))))))))))))))))))))))))
        rw [oS_ne (geti_ne hv11)]
        refine s_storeA eSpot _ _ _ (x1.1) _ (Spot.mk (w64 (v9.X + v8.X)) (w64 (v10.Y + v8.Y))) [(i64 (w64 (v9.X + v8.X))), (i64 (w64 (v10.Y + v8.Y)))] rfl rfl rfl (look_oB (gq rfl) (geti_ne hv11)) hv11 (nl rfl) rfl (s_nil (l_end (l_sub (s0 := ⟨T [(4, (.ptr _ _)), (5, (.ptr _ _)), (9, (.ptr _ _)), (10, (.ptr _ _)), (11, (.ptr _ _)), (12, (.d _))], G [((4, u1), some (.box 24 _)), ((5, u1), some (.box 24 _)), ((9, u4), some (.box 24 _)), ((10, u4), some (.box 24 _)), ((10030030, g2), some _), ((11, u5), some (.box 43 _))]⟩) (sbr rfl rfl) ?_)))
        refine l_reg fun u9 hu9 => sv rfl (sv rfl (sv rfl (s_nil (l_nil ?_))))
        obtain rfl := Option.some.inj hz1
        exact ⟨rfl, g2, (sb_of ⟨.of rfl, .of rfl, .of rfl, .of rfl, .of rfl, .of rfl, trivial⟩ (sbG_some G_hit (.of rfl) (sbG_some (gq rfl) (.of rfl) (sbG_some (gq rfl) (.of rfl) (sbG_some (gq rfl) (.box (.cons (.of (oS_ne (seti_ne (geti_ne hv11))).symm) .nil)) (sbG_some (gq rfl) (.of rfl) (sbG_own (gq rfl) trivial)))))))⟩
      · refine l_exitN rfl ?_
        obtain rfl := Option.some.inj hz1
        obtain rfl := ez1 _ rfl
        refine ⟨nofun, awl_pop rfl (l_j ?_)⟩
        exact ⟨g2, (sb_of ⟨.of rfl, .of rfl, .of rfl, .of rfl, trivial⟩ (sbG_some G_hit (.of rfl) (sbG_some (gq rfl) (.of rfl) (sbG_some (gq rfl) (.of rfl) (sbG_some (gq rfl) (.of rfl) (sbG_oB (gq rfl) trivial))))))⟩
    · rintro _ ⟨g1, q1⟩
      refine l_sub q1 (l_seq (l_fr [(10030030, g1)] [(4, (.ptr (4, u1) 0)), (5, (.ptr (5, u1) 0)), (9, (.ptr (9, u4) 0)), (10, (.ptr (10, u4) 0))] [((4, u1), some (.box 24 [(dl eSpot p1.Pts)])), ((5, u1), some (.box 24 [(dl eSpot p2.Pts)])), ((9, u4), some (.box 24 [(dl eSpot v4.Pts)])), ((10, u4), some (.box 24 [(dl eSpot y1.Pts)]))] ⟨fr_eq rfl, fr_eq rfl, fr_eq rfl, fr_eq rfl, trivial⟩ (frG_eq G_hit (kn_cons (key_ne rfl) kn_nil) (frG_eq (gq rfl) (kn_cons (key_ne rfl) kn_nil) (frG_eq (gq rfl) (kn_cons (key_ne rfl) kn_nil) (frG_box (gq rfl) (kn_cons (key_ne rfl) kn_nil) (.cons (fr_d (rf_oS (rs_in (.head _) (gq rfl))) oD_le) .nil) trivial)))) (l_reg fun u10 hu10 => sd rfl (v_loadG rfl G_hit rfl rfl) (sd rfl (v_loadG rfl (gq rfl) rfl rfl) (sd rfl (v_loadG rfl (gq rfl) rfl rfl) (sd rfl (v_loadG rfl (gq rfl) rfl rfl) (sd rfl (v_loadG rfl G_hit rfl rfl) (s_val (dl eCurve [p1, p2, v4, y1, p1]) rfl rfl (s_val (dl eCurve [p1, p2, v4, y1, p1]) rfl rfl (s_nil (l_seq (lr (fun u11 hu11 => sv rfl (s_nil (js h fun z2 hz2 h => l_join (fun s => ∃ (y2 : Unit) (g3 : Unit), z2 = .inl y2 ∧ Sb ⟨T [], G []⟩ s) ?_ ?_)))))))))))))))
      · refine l_block (l_loop (law01_CurveJoins_l2 p1 p2 v4 y1) (fun (x2 : Int) (g4 : Unit) => ⟨T [(13, (dl eCurve [p1, p2, v4, y1, p1])), (14, (di x2))], G []⟩) 0 () _ hz2 (sbr rfl rfl) ?_)
        intro x2 g4 z3 hz3 ez3
        unfold law01_CurveJoins_l2 at hz3
        refine l_seq (lr (fun u12 hu12 => sv rfl (sv rfl (s_val (dl eCurve [p1, p2, v4, y1, p1]) rfl rfl (sd rfl (v_len rfl) (sv rfl (s_nil (cc rfl hz3 (fun c3 hz3 => ?_) (fun c3 hz3 => ?_)))))))))
        · refine l_skip (l_seq (l_block (l_seq (l_draw rfl fun u13 hu13 => s_val (dl eCurve [p1, p2, v4, y1, p1]) rfl rfl (sv rfl (bs hz3 fun v12 hv12 hz3 => sd rfl (v_idx rfl rfl hv12 rfl) (sd rfl (v_loadLG rfl hv12 rfl rfl) (bs hz3 fun v13 hv13 hz3 => s_call rfl rfl all2_refl (law01_own_ok _  _ hv13) (.inl rfl) (s_val (dl eCurve [p1, p2, v4, y1, p1]) rfl rfl (sv rfl (sv rfl (bs hz3 fun v14 hv14 hz3 => sd rfl (v_idx rfl rfl hv14 rfl) (sd rfl (v_loadLG rfl hv14 rfl rfl) (bs hz3 fun v15 hv15 hz3 => s_call rfl rfl all2_refl (law01_own_ok _  _ hv15) (.inl rfl) (sn rfl rfl (sn rfl rfl (sst rfl (gq rfl) [(dl eSpot v13.Pts)] rfl (sst rfl (gq rfl) [(dl eSpot v15.Pts)] rfl (s_nil (l_seq (l_sub (s0 := ⟨T [(13, (.d _)), (14, (.d _)), (15, (.ptr _ _)), (16, (.ptr _ _))], G [((15, u13), some (.box 24 _)), ((16, u13), some (.box 24 _))]⟩) (sbr rfl rfl) ?_)))))))))))))))))))))
          refine l_reg fun u14 hu14 => sd rfl (v_loadG rfl G_hit rfl rfl) (sd rfl (v_loadG rfl (gq rfl) rfl rfl) (bs hz3 fun v16 hv16 hz3 => s_oc (v := .tup [(mkAgg [(oE v16.1.Pts (10140020, u14))]), (di v16.2)]) (us := [(10140020, u14)]) (oc_mo (curve_Join_mk_ok _ _ _ hv16) [] [] _ (((10140020, u14), oB 43 2 eSpot v16.1.Pts) :: _) rfl all2_av rfl live_nil trivial (fun _ h => h) List.nodup_nil (by generalize v16.1.Pts = x1; cases x1 <;> rfl) rfl (upsN_o (rfl)) rfl) ?_))
          refine s_val (.tup _) rfl rfl (s_val (mkAgg [(oE v16.1.Pts (10140020, u14))]) rfl rfl (sv rfl (sn rfl rfl (s_store _ _ _ _ _ (cellsV_mkAgg _) rfl rfl G_hit (nl rfl) [(oE v16.1.Pts (10140020, u14))] rfl (sv rfl (s_nil (l_seq (l_draw rfl fun u15 hu15 => s_val (dl eCurve [p1, p2, v4, y1, p1]) rfl rfl (sv rfl (bs hz3 fun v17 hv17 hz3 => sd rfl (v_idx rfl rfl hv17 rfl) (sd rfl (v_loadLG rfl hv17 rfl rfl) (s_val (dl eCurve [p1, p2, v4, y1, p1]) rfl rfl (sv rfl (sv rfl (bs hz3 fun v18 hv18 hz3 => sd rfl (v_idx rfl rfl hv18 rfl) (sd rfl (v_loadLG rfl hv18 rfl rfl) (bs hz3 fun v19 hv19 hz3 => s_call rfl rfl all2_refl (ref01_Join_ok _ _  _ hv19) (.inl rfl) (sv rfl (sv rfl (sv rfl (sn rfl rfl (sst rfl G_hit [(dl eSpot v19.1.Pts)] rfl (sv rfl (s_nil (l_seq (l_seq (l_sub (s0 := ⟨T [(13, (dl eCurve [p1, p2, v4, y1, p1])), (14, (di x2)), (15, (.ptr (15, u13) 0)), (16, (.ptr (16, u13) 0)), (17, (.ptr (17, u14) 0)), (18, (di v16.2)), (19, (.ptr (19, u15) 0)), (20, (di v19.2))], G [((15, u13), some (.box 24 [(dl eSpot v13.Pts)])), ((16, u13), some (.box 24 [(dl eSpot v15.Pts)])), ((17, u14), some (.box 24 [(oE v16.1.Pts (10140020, u14))])), ((10140020, u14), oB 43 2 eSpot v16.1.Pts), ((19, u15), some (.box 24 [(dl eSpot v19.1.Pts)]))]⟩) (sb_of ⟨.of rfl, .of rfl, .of rfl, .of rfl, .of rfl, .of rfl, .of rfl, .of rfl, trivial⟩ (sbG_some (gq rfl) (.of rfl) (sbG_some (gq rfl) (.of rfl) (sbG_some (gq rfl) (.of rfl) (sbG_oB (gq rfl) (sbG_some G_hit (.of rfl) trivial)))))) ?_)))))))))))))))))))))))))))
          refine l_draw rfl fun u16 hu16 => sv rfl (sv rfl (sv rfl (sv rfl (g_val _ (mkAgg [(oE v16.1.Pts (10140020, u14))]) rfl (gw_f rfl) (fun w3 => (v_loadG rfl (gq rfl) rfl rfl)) (gf rfl (fun w4 => (v_loadG rfl (gq rfl) rfl rfl)) (bs hz3 fun v20 hv20 hz3 => g_call _ (bo v20) (gw_f rfl) (fun w5 => ⟨_, [(mkAgg [(oE v16.1.Pts (10140020, u14))]), (.d (.agg [(.list (List.map eSpot v19.1.Pts))]))], _, _, (by simp only [gd_pos w5]; rfl), (rfL_cons (rf_mkAgg (rfL_cons (rf_oE (gq rfl)) rfL_nil)) (rfL_cons rf_d rfL_nil)), all2_refl, ref01_Same_ok _ _  _ (cond_t w5 hv20), (.inr rfl)⟩) ?_))))))
          refine g_val _ (.d (bo (!v20))) rfl (gw_f rfl) (fun w6 => (by simp only [gd_pos w6]; rfl)) ?_
          refine sd rfl (v_or rfl rfl (fun hc => gd_pos (not_t hc))) (sv rfl (gf rfl (fun w7 => (v_loadG rfl G_hit rfl rfl)) (gf rfl (fun w8 => (v_loadG rfl (gq rfl) rfl rfl)) (bs hz3 fun v21 hv21 hz3 => g_call _ (bo v21) (gw_f rfl) (fun w9 => ⟨_, [(.d (.agg [(.list (List.map eSpot v13.Pts))])), (.d (.agg [(.list (List.map eSpot v15.Pts))]))], _, _, (by simp only [gd_pos w9]; rfl), rfl, all2_refl, curve_Same_ok _ _  _ (cond_t w9 hv21), (.inl rfl)⟩) ?_))))
          refine gf rfl (fun w10 => (v_loadG rfl G_hit rfl rfl)) (gf rfl (fun w11 => (v_loadG rfl (gq rfl) rfl rfl)) (bs hz3 fun v22 hv22 hz3 => g_call _ (bo v22) (gw_f rfl) (fun w12 => ⟨_, [(.d (.agg [(.list (List.map eSpot v13.Pts))])), (.d (.agg [(.list (List.map eSpot v15.Pts))]))], _, _, (by simp only [gd_pos w12]; rfl), rfl, all2_refl, ref01_Same_ok _ _  _ (cond_t w12 hv22), (.inl rfl)⟩) ?_))
          refine g_val _ (.d (bo (!(v21 == v22)))) rfl (gw_f rfl) (fun w13 => (by simp only [gd_pos w13]; rfl)) ?_
          refine sd rfl (v_or rfl rfl (fun hc => gd_pos (not_t hc))) (sv rfl (gf rfl (fun w14 => (v_loadG rfl G_hit rfl rfl)) (gf rfl (fun w15 => (v_loadG rfl G_hit rfl rfl)) (bs hz3 fun v23 hv23 hz3 => g_call _ (bo v23) (gw_f rfl) (fun w16 => ⟨_, [(.d (.agg [(.list (List.map eSpot v13.Pts))])), (.d (.agg [(.list (List.map eSpot v13.Pts))]))], _, _, (by simp only [gd_pos w16]; rfl), rfl, all2_refl, curve_Same_ok _ _  _ (cond_t w16 hv23), (.inl rfl)⟩) ?_))))
          refine g_val _ (.d (bo (!v23))) rfl (gw_f rfl) (fun w17 => (by simp only [gd_pos w17]; rfl)) ?_
          refine sd rfl (v_or rfl rfl (fun hc => gd_pos (not_t hc))) (s_nil (cc rfl hz3 (fun c4 hz3 => ?_) (fun c4 hz3 => ?_)))
          · refine l_seq (l_sub (s0 := ⟨T [], G []⟩) (sbr rfl rfl) ?_)
            refine l_reg fun u17 hu17 => sv rfl (s_nil (l_ret ?_))
            obtain rfl := Option.some.inj hz3
            obtain rfl := ez3 _ rfl
            refine ⟨nofun, awl_ret ?_⟩
            rw [Sum.elim_inr] at h
            obtain rfl := Option.some.inj h
            exact fin_ok (.inr rfl) (resD1 (res_t rfl) rf_d) (.refl _)
          · refine l_skip (l_seq (l_sub (s0 := ⟨T [(13, (dl eCurve [p1, p2, v4, y1, p1])), (14, (di x2)), (15, (.ptr (15, u13) 0)), (16, (.ptr (16, u13) 0)), (17, (.ptr (17, u14) 0))], G [((15, u13), some (.box 24 [(dl eSpot v13.Pts)])), ((16, u13), some (.box 24 [(dl eSpot v15.Pts)])), ((17, u14), some (.box 24 [(oE v16.1.Pts (10140020, u14))])), ((10140020, u14), oB 43 2 eSpot v16.1.Pts)]⟩) (sb_of ⟨.of rfl, .of rfl, .of rfl, .of rfl, .of rfl, trivial⟩ (sbG_some G_hit (.of rfl) (sbG_some (gq rfl) (.of rfl) (sbG_some (gq rfl) (.of rfl) (sbG_oB (gq rfl) trivial))))) ?_))
            refine l_reg fun u18 hu18 => sd rfl (v_loadG rfl G_hit rfl rfl) (bs hz3 fun v24 hv24 hz3 => s_oc (v := mkAgg [(oE v24.Pts (10180010, u18))]) (us := [(10180010, u18)]) (oc_mo (curve_Copy_mk_ok _ _ hv24) [] [] _ (((10180010, u18), oB 43 2 eSpot v24.Pts) :: _) rfl all2_av rfl live_nil trivial (fun _ h => h) List.nodup_nil (by generalize v24.Pts = x1; cases x1 <;> rfl) rfl (upsN_o (rfl)) rfl) ?_)
            refine sn rfl rfl (s_store _ _ _ _ _ (cellsV_mkAgg _) rfl rfl G_hit (nl rfl) [(oE v24.Pts (10180010, u18))] rfl (s_nil (l_seq (lr (fun u19 hu19 => s_val (mkAgg [(oE v24.Pts (10180010, u18))]) rfl (v_loadG rfl G_hit rfl rfl) (sd rfl (v_loadG rfl (gq rfl) rfl rfl) (bs hz3 fun v25 hv25 hz3 => s_call rfl (rfL_cons (rf_mkAgg (rfL_cons (rf_oE (gq rfl)) rfL_nil)) (rfL_cons rf_d rfL_nil)) all2_refl (ref01_Same_ok _ _  _ hv25) (.inr rfl) (s_val (.d (bo (!v25))) rfl rfl (s_nil (cc rfl hz3 (fun c5 hz3 => ?_) (fun c5 hz3 => ?_)))))))))))
            · refine lr (fun u20 hu20 => sv rfl (s_nil (l_ret ?_)))
              obtain rfl := Option.some.inj hz3
              obtain rfl := ez3 _ rfl
              refine ⟨nofun, awl_ret ?_⟩
              rw [Sum.elim_inr] at h
              obtain rfl := Option.some.inj h
              exact fin_ok (.inr rfl) (resD1 (res_t rfl) rf_d) (.refl _)
            · refine l_skip (l_seq (lr (fun u21 hu21 => sv rfl (s_nil (bs hz3 fun y3 hy3 hz3 => l_join (fun s => ∃ g5 : Unit, Sb ⟨T [(13, (dl eCurve [p1, p2, v4, y1, p1])), (14, (di x2)), (15, (.ptr (15, u13) 0)), (16, (.ptr (16, u13) 0)), (17, (.ptr (17, u14) 0))], G [((15, u13), some (.box 24 [(dl eSpot v13.Pts)])), ((16, u13), some (.box 24 [(dl eSpot v15.Pts)])), ((17, u14), some (.box 24 [(oE v16.1.Pts (10140020, u14))])), ((10140020, u14), oB 43 2 eSpot v16.1.Pts)]⟩ s) ?_ ?_)))))
              · refine l_block (l_loop (law01_CurveJoins_l3) (fun (x3 : (Int × Curve)) (g6 : Nat) => ⟨T [(13, (dl eCurve [p1, p2, v4, y1, p1])), (14, (di x2)), (15, (.ptr (15, u13) 0)), (16, (.ptr (16, u13) 0)), (17, (.ptr (17, u14) 0)), (21, (.ptr (21, u18) 0)), (22, (di x3.1))], G [((15, u13), some (.box 24 [(dl eSpot v13.Pts)])), ((16, u13), some (.box 24 [(dl eSpot v15.Pts)])), ((17, u14), some (.box 24 [(oE v16.1.Pts (10140020, u14))])), ((21, u18), some (.box 24 [(oE x3.2.Pts (10180010, g6))])), ((10140020, u14), oB 43 2 eSpot v16.1.Pts), ((10180010, g6), oB 43 2 eSpot x3.2.Pts)]⟩) (0, v24) u18 _ hy3 (sb_of ⟨.of rfl, .of rfl, .of rfl, .of rfl, .of rfl, .of rfl, .of rfl, trivial⟩ (sbG_some (gq rfl) (.of rfl) (sbG_some (gq rfl) (.of rfl) (sbG_some (gq rfl) (.of rfl) (sbG_some G_hit (.of rfl) (sbG_oB (gq rfl) (sbG_oB (gq rfl) trivial))))))) ?_)
                intro x3 g6 z4 hz4 ez4
                unfold law01_CurveJoins_l3 at hz4
                refine l_seq (lr (fun u22 hu22 => sv rfl (sp rfl rfl (s_val (oE x3.2.Pts (10180010, g6)) rfl (v_load rfl (gq rfl) rfl) (sd rfl (v_lenE (f := eSpot) rfl (gq rfl)) (sv rfl (s_nil (cc rfl hz4 (fun c6 hz4 => ?_) (fun c6 hz4 => ?_)))))))))
                · refine l_skip (l_seq (l_block (l_reg fun u23 hu23 => sp rfl rfl (s_val (oE x3.2.Pts (10180010, g6)) rfl (v_load rfl (gq rfl) rfl) (sv rfl (bs hz4 fun v26 hv26 hz4 => s_val (.aptr _ _ _ _) rfl (v_idxE rfl rfl (gq rfl) hv26) (s_val (.aptr _ _ _ _) rfl rfl (sd rfl (v_loadA rfl (look_oB (gq rfl) (geti_ne hv26)) hv26 rfl) (sv rfl (bs hz4 fun v27 hv27 hz4 => s_val (.aptr _ _ _ _) rfl (v_idxE rfl rfl (gq rfl) hv27) (s_val (.aptr _ _ _ _) rfl rfl ?_)))))))))))
                  rw [oE_ne (geti_ne hv27)]
                  refine s_storeA eSpot _ _ _ (x3.1) _ (Spot.mk (w64 (v26.X + 1)) v27.Y) [(i64 (w64 (v26.X + 1)))] rfl rfl rfl (look_oB (gq rfl) (geti_ne hv27)) hv27 (nl rfl) rfl (s_nil (l_end (l_sub (s0 := ⟨T [(13, (dl eCurve [p1, p2, v4, y1, p1])), (14, (di x2)), (15, (.ptr (15, u13) 0)), (16, (.ptr (16, u13) 0)), (17, (.ptr (17, u14) 0)), (21, (.ptr (21, u18) 0)), (22, (di x3.1))], G [((15, u13), some (.box 24 [(dl eSpot v13.Pts)])), ((16, u13), some (.box 24 [(dl eSpot v15.Pts)])), ((17, u14), some (.box 24 [(oE v16.1.Pts (10140020, u14))])), ((10140020, u14), oB 43 2 eSpot v16.1.Pts), ((21, u18), some (.box 24 [(.sl (10180010, g6))])), ((10180010, g6), some (.arr 43 2 (List.map eSpot (seti x3.2.Pts x3.1 (Spot.mk (w64 (v26.X + 1)) v27.Y)))))]⟩) (sb_of ⟨.of rfl, .of rfl, .of rfl, .of rfl, .of rfl, .of rfl, .of rfl, trivial⟩ (sbG_some (gq rfl) (.of rfl) (sbG_some (gq rfl) (.of rfl) (sbG_some (gq rfl) (.of rfl) (sbG_oB (gq rfl) (sbG_some (gq rfl) (.of rfl) (sbG_some G_hit (.of rfl) trivial))))))) ?_)))
                  refine l_reg fun u24 hu24 => sv rfl (sv rfl (sv rfl (s_nil (l_nil ?_))))
                  obtain rfl := Option.some.inj hz4
                  exact ⟨rfl, g6, (sb_of ⟨.of rfl, .of rfl, .of rfl, .of rfl, .of rfl, .of rfl, .of rfl, trivial⟩ (sbG_some G_hit (.of rfl) (sbG_some (gq rfl) (.of rfl) (sbG_some (gq rfl) (.of rfl) (sbG_some (gq rfl) (.box (.cons (.of (oE_ne (seti_ne (geti_ne hv27))).symm) .nil)) (sbG_oB (gq rfl) (sbG_own (gq rfl) trivial)))))))⟩
                · refine l_exitN rfl ?_
                  obtain rfl := Option.some.inj hz4
                  obtain rfl := ez4 _ rfl
                  refine ⟨nofun, awl_pop rfl (l_j ?_)⟩
                  exact ⟨(), (sb_of ⟨.of rfl, .of rfl, .of rfl, .of rfl, .of rfl, trivial⟩ (sbG_some G_hit (.of rfl) (sbG_some (gq rfl) (.of rfl) (sbG_some (gq rfl) (.of rfl) (sbG_oB (gq rfl) trivial)))))⟩
              · rintro _ ⟨g5, q2⟩
                refine l_sub q2 (l_seq (lr (fun u25 hu25 => sv rfl (s_nil (bs hz3 fun y4 hy4 hz3 => l_join (fun s => ∃ g7 : Unit, Sb ⟨T [(13, (dl eCurve [p1, p2, v4, y1, p1])), (14, (di x2)), (15, (.ptr (15, u13) 0)), (16, (.ptr (16, u13) 0))], G [((15, u13), some (.box 24 [(dl eSpot v13.Pts)])), ((16, u13), some (.box 24 [(dl eSpot v15.Pts)]))]⟩ s) ?_ ?_)))))
                · refine l_block (l_loop (law01_CurveJoins_l4) (fun (x4 : (Int × Curve)) (g8 : Nat) => ⟨T [(13, (dl eCurve [p1, p2, v4, y1, p1])), (14, (di x2)), (15, (.ptr (15, u13) 0)), (16, (.ptr (16, u13) 0)), (17, (.ptr (17, u14) 0)), (23, (di x4.1))], G [((15, u13), some (.box 24 [(dl eSpot v13.Pts)])), ((16, u13), some (.box 24 [(dl eSpot v15.Pts)])), ((17, u14), some (.box 24 [(oE x4.2.Pts (10140020, g8))])), ((10140020, g8), oB 43 2 eSpot x4.2.Pts)]⟩) (0, v16.1) u14 _ hy4 (sb_of ⟨.of rfl, .of rfl, .of rfl, .of rfl, .of rfl, .of rfl, trivial⟩ (sbG_some G_hit (.of rfl) (sbG_some (gq rfl) (.of rfl) (sbG_some (gq rfl) (.of rfl) (sbG_oB (gq rfl) trivial))))) ?_)
                  intro x4 g8 z5 hz5 ez5
                  unfold law01_CurveJoins_l4 at hz5
                  refine l_seq (lr (fun u26 hu26 => sv rfl (sp rfl rfl (s_val (oE x4.2.Pts (10140020, g8)) rfl (v_load rfl (gq rfl) rfl) (sd rfl (v_lenE (f := eSpot) rfl (gq rfl)) (sv rfl (s_nil (cc rfl hz5 (fun c7 hz5 => ?_) (fun c7 hz5 => ?_)))))))))
                  · refine l_skip (l_seq (l_block (l_reg fun u27 hu27 => sp rfl rfl (s_val (oE x4.2.Pts (10140020, g8)) rfl (v_load rfl (gq rfl) rfl) (sv rfl (bs hz5 fun v28 hv28 hz5 => s_val (.aptr _ _ _ _) rfl (v_idxE rfl rfl (gq rfl) hv28) (s_val (.aptr _ _ _ _) rfl rfl (sd rfl (v_loadA rfl (look_oB (gq rfl) (geti_ne hv28)) hv28 rfl) (sv rfl (bs hz5 fun v29 hv29 hz5 => s_val (.aptr _ _ _ _) rfl (v_idxE rfl rfl (gq rfl) hv29) (s_val (.aptr _ _ _ _) rfl rfl ?_)))))))))))
                    rw [oE_ne (geti_ne hv29)]
                    refine s_storeA eSpot _ _ _ (x4.1) _ (Spot.mk (w64 (v28.X + 1)) v29.Y) [(i64 (w64 (v28.X + 1)))] rfl rfl rfl (look_oB (gq rfl) (geti_ne hv29)) hv29 (nl rfl) rfl (s_nil (l_end (l_sub (s0 := ⟨T [(13, (.d _)), (14, (.d _)), (15, (.ptr _ _)), (16, (.ptr _ _)), (17, (.ptr _ _)), (23, (.d _))], G [((15, u13), some (.box 24 _)), ((16, u13), some (.box 24 _)), ((17, u14), some (.box 24 _)), ((10140020, g8), some _)]⟩) (sbr rfl rfl) ?_)))
                    refine l_reg fun u28 hu28 => sv rfl (sv rfl (sv rfl (s_nil (l_nil ?_))))
                    obtain rfl := Option.some.inj hz5
                    exact ⟨rfl, g8, (sb_of ⟨.of rfl, .of rfl, .of rfl, .of rfl, .of rfl, .of rfl, trivial⟩ (sbG_some G_hit (.of rfl) (sbG_some (gq rfl) (.of rfl) (sbG_some (gq rfl) (.box (.cons (.of (oE_ne (seti_ne (geti_ne hv29))).symm) .nil)) (sbG_own (gq rfl) trivial)))))⟩
                  · refine l_exitN rfl ?_
                    obtain rfl := Option.some.inj hz5
                    obtain rfl := ez5 _ rfl
                    refine ⟨nofun, awl_pop rfl (l_j ?_)⟩
                    exact ⟨(), (sbr rfl rfl)⟩
                · rintro _ ⟨g7, q3⟩
                  refine l_sub q3 (l_seq (l_draw rfl fun u29 hu29 => sd rfl (v_loadG rfl G_hit rfl rfl) (s_val (dl eCurve [p1, p2, v4, y1, p1]) rfl rfl (sv rfl (bs hz3 fun v30 hv30 hz3 => sd rfl (v_idx rfl rfl hv30 rfl) (sd rfl (v_loadLG rfl hv30 rfl rfl) (bs hz3 fun v31 hv31 hz3 => s_call rfl rfl all2_refl (ref01_Same_ok _ _  _ hv31) (.inl rfl) (s_val (.d (bo (!v31))) rfl rfl (sv rfl (gf rfl (fun w18 => (v_loadG rfl (gq rfl) rfl rfl)) (g_val _ (dl eCurve [p1, p2, v4, y1, p1]) rfl (gw_f rfl) (fun _ => rfl) (gf rfl (fun _ => rfl) (gf rfl (vb rfl rfl rfl) (bs hz3 fun v32 hv32 hz3 => gf rfl (fun w22 => (v_idx (gd_pos w22) (gd_pos w22) (cond_t w22 hv32) rfl)) (gf rfl (fun w23 => (v_loadLG (gd_pos w23) (cond_t w23 hv32) rfl rfl)) (bs hz3 fun v33 hv33 hz3 => g_call _ (bo v33) (gw_f rfl) (fun w24 => ⟨_, [(.d (.agg [(.list (List.map eSpot v15.Pts))])), (.d (.agg [(.list (List.map eSpot v32.Pts))]))], _, _, (by simp only [gd_pos w24]; rfl), rfl, all2_refl, ref01_Same_ok _ _  _ (cond_t w24 hv33), (.inl rfl)⟩) ?_))))))))))))))))
                  refine g_val _ (.d (bo (!v33))) rfl (gw_f rfl) (fun w25 => (by simp only [gd_pos w25]; rfl)) ?_
                  refine sd rfl (v_or rfl rfl (fun hc => gd_pos (not_t hc))) (s_nil (cc rfl hz3 (fun c8 hz3 => ?_) (fun c8 hz3 => ?_)))
                  · refine l_seq (l_sub (s0 := ⟨T [], G []⟩) (sbr rfl rfl) ?_)
                    refine l_reg fun u30 hu30 => sv rfl (s_nil (l_ret ?_))
                    obtain rfl := Option.some.inj hz3
                    obtain rfl := ez3 _ rfl
                    refine ⟨nofun, awl_ret ?_⟩
                    rw [Sum.elim_inr] at h
                    obtain rfl := Option.some.inj h
                    exact fin_ok (.inr rfl) (resD1 (res_t rfl) rf_d) (.refl _)
                  · refine l_skip (l_end (l_sub (s0 := ⟨T [(13, (.d _)), (14, (.d _))], G []⟩) (sbr rfl rfl) ?_))
                    refine l_reg fun u31 hu31 => sv rfl (sv rfl (sv rfl (s_nil (l_nil ?_))))
                    obtain rfl := Option.some.inj hz3
                    exact ⟨rfl, (), (sbr rfl rfl)⟩
        · refine l_exitN rfl ?_
          obtain rfl := Option.some.inj hz3
          obtain rfl := ez3 _ rfl
          refine ⟨nofun, awl_pop rfl (l_j ?_)⟩
          exact ⟨_, (), rfl, (sbr rfl rfl)⟩
      · rintro _ ⟨y2, g3, rfl, q4⟩
        rw [Sum.elim_inl] at h
        refine l_sub q4 (lr (fun u32 hu32 => bs h fun v34 hv34 h => s_call rfl rfl all2_refl (law01_awake_ok  _ hv34) (.inl rfl) (sv rfl (s_nil (l_ret ?_)))))
        obtain rfl := Option.some.inj h
        exact fin_ok (.inr rfl) (resD1 (res_t rfl) rf_d) (.refl _)
end Go.Abs.Curve
