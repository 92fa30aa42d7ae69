/-
  The Go functions that ConvoyChecks reaches, as plain Lean functions, and the proofs that the program computes them.
-/
import Derived.Test.YtdkgjoilcfoclaaCoreD
import Derived.Test.YtdkgjoilcfoclaaProg
import Derived.KernelRfl
import Derived.IntWalk
set_option maxRecDepth 20000
set_option linter.unusedVariables false
namespace Go.Abs.Convoy
open Go Go.Abs Go.Proofs
attribute [local irreducible] regW regT AWL
structure Guess where
  R : Int
  V : Int
  deriving Inhabited
structure Mate where
  ID : Int
  S : Int
  V : Int
  Len : Int
  Ahead : Int
  Guess_ : Guess
  Trust : Bool
  Ward : Int
  WardGuess : Guess
  Until : Int
  deriving Inhabited
abbrev eMate : Mate → List D := fun x => [(i64 x.ID), (i64 x.S), (i64 x.V), (i64 x.Len), (i64 x.Ahead), (i64 x.Guess_.R), (i64 x.Guess_.V), (bo x.Trust), (i64 x.Ward), (i64 x.WardGuess.R), (i64 x.WardGuess.V), (i64 x.Until)]
structure Guest where
  ID : Int
  S : Int
  V : Int
  Len : Int
  End : Int
  Ahead : Int
  Guess_ : Guess
  From : Int
  Until : Int
  deriving Inhabited
structure Convoy where
  Tick : Int
  Gap : Int
  Mates : (List Mate)
  Guest_ : Guest
  deriving Inhabited
abbrev eConvoy : Convoy → List D := fun x => [(i64 x.Tick), (i64 x.Gap), (.list (List.map eMate x.Mates)), (i64 x.Guest_.ID), (i64 x.Guest_.S), (i64 x.Guest_.V), (i64 x.Guest_.Len), (i64 x.Guest_.End), (i64 x.Guest_.Ahead), (i64 x.Guest_.Guess_.R), (i64 x.Guest_.Guess_.V), (i64 x.Guest_.From), (i64 x.Guest_.Until)]
abbrev eInt_i64 : Int → List D := fun x => [.v (.int .i64 x)]
abbrev eL_Mate : (List Mate) → List D := fun x => [.list (List.map eMate x)]
abbrev eGuess : Guess → List D := fun x => [(i64 x.R), (i64 x.V)]
abbrev eBool : Bool → List D := fun x => [bo x]
abbrev eGuest : Guest → List D := fun x => [(i64 x.ID), (i64 x.S), (i64 x.V), (i64 x.Len), (i64 x.End), (i64 x.Ahead), (i64 x.Guess_.R), (i64 x.Guess_.V), (i64 x.From), (i64 x.Until)]
abbrev eL_Int_i64 : (List Int) → List D := fun x => [.list (List.map eInt_i64 x)]
structure KitRing where
  l : (List Int)
  at_ : Int
  deriving Inhabited
structure Note where
  Kind : Int
  From : Int
  To : Int
  Stamp : Int
  R : Int
  V : Int
  Until : Int
  deriving Inhabited
abbrev eNote : Note → List D := fun x => [(i64 x.Kind), (i64 x.From), (i64 x.To), (i64 x.Stamp), (i64 x.R), (i64 x.V), (i64 x.Until)]


noncomputable def convoy_within (p1 : Int) (p2 : Int) (p3 : Int) : Option Bool :=
  some ((decide (p2 ≤ p1)) && (decide (p1 ≤ p3)))

/-- kerbstone/convoy.within -/
def ac_convoy_within : AC :=
  (.seq (.reg [⟨(some 6), .mv (.c (.v (.bool false))), none⟩])
  (.seq (.reg [⟨(some 7), .mv (.t 1), none⟩, ⟨(some 8), .mv (.t 0), none⟩, ⟨(some 9), .bin .leq (.t 7) (.t 8), none⟩, ⟨(some 10), .mv (.t 9), none⟩, ⟨(some 11), .mv (.t 0), (some (10, true))⟩, ⟨(some 12), .mv (.t 2), (some (10, true))⟩, ⟨(some 13), .bin .leq (.t 11) (.t 12), (some (10, true))⟩, ⟨(some 14), .pick (.t 10) (.t 13) (.c (.v (.bool false))), none⟩, ⟨(some 6), .mv (.t 14), none⟩])
  .ret))
theorem fn_convoy_within : FnOK Try.prog 95 15 [.t 6] ac_convoy_within := ⟨_, _, Try.func95, rfl, Try.ntmps95, by kernel_rfl, ⟨fun _ => [], by kernel_rfl⟩, by kernel_rfl⟩
theorem convoy_within_ok (p1 : Int) (p2 : Int) (p3 : Int) (r : Bool) (h : convoy_within p1 p2 p3 = some r) : PCall Try.prog 95 [(i64 p1), (i64 p2), (i64 p3)] (bo r) := by
  refine l_call fn_convoy_within (Nat.le_of_ble_eq_true rfl) ?_
  unfold convoy_within at h
  unfold ac_convoy_within
  refine (l_sub (s0 := ⟨T [(0, (.d (i64 p1))), (1, (.d (i64 p2))), (2, (.d (i64 p3)))], G []⟩) (sb_of ⟨.of rfl, .of rfl, .of rfl, trivial⟩ trivial) ?_)
  refine l_seq ?_
  refine l_reg fun u1 hu1 => ?_
  refine s_val (.d _) rfl rfl ?_
  refine s_nil ?_
  refine l_seq ?_
  refine l_reg fun u2 hu2 => ?_
  refine s_val (.d _) rfl rfl ?_
  refine s_val (.d _) rfl rfl ?_
  refine s_val (.d _) rfl rfl ?_
  refine s_val (.d _) rfl rfl ?_
  refine g_val (decide (p2 ≤ p1)) (.d _) rfl (gw_t rfl) (fun w1 => rfl) ?_
  refine g_val (decide (p2 ≤ p1)) (.d _) rfl (gw_t rfl) (fun w2 => rfl) ?_
  refine g_val (decide (p2 ≤ p1)) (.d _) rfl (gw_t rfl) (fun w3 => (v_bin (gd_pos w3) (gd_pos w3) rfl)) ?_
  refine s_val (.d _) rfl (v_and rfl (fun hc => gd_pos hc) rfl) ?_
  refine s_val (.d _) rfl rfl ?_
  refine s_nil ?_
  refine l_ret ?_
  obtain rfl := Option.some.inj h
  refine fin_ok (.inr rfl) (resD1 (res_t rfl) rf_d) ?_
  exact (.refl _)

noncomputable def convoy_fairBody (p1 : Int) (p2 : Int) (p3 : Int) (p4 : Int) : Option Bool :=
  ((cond ((decide (p1 ≥ 1)) && (decide (p1 ≤ 99))) (convoy_within p2 0 1099511627776) (some default))).bind fun v1 => ((cond (((decide (p1 ≥ 1)) && (decide (p1 ≤ 99))) && v1) (convoy_within p3 0 2000) (some default))).bind fun v2 => ((cond ((((decide (p1 ≥ 1)) && (decide (p1 ≤ 99))) && v1) && v2) (convoy_within p4 300 20000) (some default))).bind fun v3 => some (((((decide (p1 ≥ 1)) && (decide (p1 ≤ 99))) && v1) && v2) && v3)

/-- kerbstone/convoy.fairBody -/
def ac_convoy_fairBody : AC :=
  (.seq (.reg [⟨(some 8), .mv (.c (.v (.bool false))), none⟩])
  (.seq (.reg [⟨(some 9), .mv (.t 0), none⟩, ⟨(some 10), .bin .geq (.t 9) (.c (.v (.int .i64 1))), none⟩, ⟨(some 11), .mv (.t 10), none⟩, ⟨(some 12), .mv (.t 0), (some (11, true))⟩, ⟨(some 13), .bin .leq (.t 12) (.c (.v (.int .i64 99))), (some (11, true))⟩, ⟨(some 14), .pick (.t 11) (.t 13) (.c (.v (.bool false))), none⟩, ⟨(some 15), .mv (.t 14), none⟩, ⟨(some 16), .mv (.t 1), (some (15, true))⟩, ⟨(some 17), .call (.c (.fn (.func 95) [] [])) [(.t 16), (.c (.v (.int .i64 0))), (.c (.v (.int .i64 1099511627776)))], (some (15, true))⟩, ⟨(some 18), .pick (.t 15) (.t 17) (.c (.v (.bool false))), none⟩, ⟨(some 19), .mv (.t 18), none⟩, ⟨(some 20), .mv (.t 2), (some (19, true))⟩, ⟨(some 21), .call (.c (.fn (.func 95) [] [])) [(.t 20), (.c (.v (.int .i64 0))), (.c (.v (.int .i64 2000)))], (some (19, true))⟩, ⟨(some 22), .pick (.t 19) (.t 21) (.c (.v (.bool false))), none⟩, ⟨(some 23), .mv (.t 22), none⟩, ⟨(some 24), .mv (.t 3), (some (23, true))⟩, ⟨(some 25), .call (.c (.fn (.func 95) [] [])) [(.t 24), (.c (.v (.int .i64 300))), (.c (.v (.int .i64 20000)))], (some (23, true))⟩, ⟨(some 26), .pick (.t 23) (.t 25) (.c (.v (.bool false))), none⟩, ⟨(some 8), .mv (.t 26), none⟩])
  .ret))
theorem fn_convoy_fairBody : FnOK Try.prog 122 27 [.t 8] ac_convoy_fairBody := ⟨_, _, Try.func122, rfl, Try.ntmps122, by kernel_rfl, ⟨fun _ => [], by kernel_rfl⟩, by kernel_rfl⟩
theorem convoy_fairBody_ok (p1 : Int) (p2 : Int) (p3 : Int) (p4 : Int) (r : Bool) (h : convoy_fairBody p1 p2 p3 p4 = some r) : PCall Try.prog 122 [(i64 p1), (i64 p2), (i64 p3), (i64 p4)] (bo r) := by
  refine l_call fn_convoy_fairBody (Nat.le_of_ble_eq_true rfl) ?_
  unfold convoy_fairBody at h
  unfold ac_convoy_fairBody
  refine (l_sub (s0 := ⟨T [(0, (.d (i64 p1))), (1, (.d (i64 p2))), (2, (.d (i64 p3))), (3, (.d (i64 p4)))], G []⟩) (sb_of ⟨.of rfl, .of rfl, .of rfl, .of rfl, trivial⟩ trivial) ?_)
  refine l_seq ?_
  refine l_reg fun u1 hu1 => ?_
  refine s_val (.d _) rfl rfl ?_
  refine s_nil ?_
  refine l_seq ?_
  refine l_reg fun u2 hu2 => ?_
  refine s_val (.d _) rfl rfl ?_
  refine s_val (.d _) rfl rfl ?_
  refine s_val (.d _) rfl rfl ?_
  refine g_val (decide (p1 ≥ 1)) (.d _) rfl (gw_t rfl) (fun w1 => rfl) ?_
  refine g_val (decide (p1 ≥ 1)) (.d _) rfl (gw_t rfl) (fun w2 => (v_bin (gd_pos w2) rfl rfl)) ?_
  refine s_val (.d _) rfl (v_and rfl (fun hc => gd_pos hc) rfl) ?_
  refine s_val (.d _) rfl rfl ?_
  refine g_val ((decide (p1 ≥ 1)) && (decide (p1 ≤ 99))) (.d _) rfl (gw_t rfl) (fun w3 => rfl) ?_
  obtain ⟨v1, hv1, h⟩ := bind_some h
  refine g_call ((decide (p1 ≥ 1)) && (decide (p1 ≤ 99))) (bo v1) (gw_t rfl) (fun w4 => ⟨_, [(.d (i64 p2)), (.d (i64 0)), (.d (i64 1099511627776))], _, _, (by simp only [gd_pos w4]; rfl), rfl, all2_refl, convoy_within_ok _ _ _  _ (cond_t w4 hv1), (.inl rfl)⟩) ?_
  refine s_val (.d _) rfl (v_and rfl (fun hc => gd_pos hc) rfl) ?_
  refine s_val (.d _) rfl rfl ?_
  refine g_val (((decide (p1 ≥ 1)) && (decide (p1 ≤ 99))) && v1) (.d _) rfl (gw_t rfl) (fun w5 => rfl) ?_
  obtain ⟨v2, hv2, h⟩ := bind_some h
  refine g_call (((decide (p1 ≥ 1)) && (decide (p1 ≤ 99))) && v1) (bo v2) (gw_t rfl) (fun w6 => ⟨_, [(.d (i64 p3)), (.d (i64 0)), (.d (i64 2000))], _, _, (by simp only [gd_pos w6]; rfl), rfl, all2_refl, convoy_within_ok _ _ _  _ (cond_t w6 hv2), (.inl rfl)⟩) ?_
  refine s_val (.d _) rfl (v_and rfl (fun hc => gd_pos hc) rfl) ?_
  refine s_val (.d _) rfl rfl ?_
  refine g_val ((((decide (p1 ≥ 1)) && (decide (p1 ≤ 99))) && v1) && v2) (.d _) rfl (gw_t rfl) (fun w7 => rfl) ?_
  obtain ⟨v3, hv3, h⟩ := bind_some h
  refine g_call ((((decide (p1 ≥ 1)) && (decide (p1 ≤ 99))) && v1) && v2) (bo v3) (gw_t rfl) (fun w8 => ⟨_, [(.d (i64 p4)), (.d (i64 300)), (.d (i64 20000))], _, _, (by simp only [gd_pos w8]; rfl), rfl, all2_refl, convoy_within_ok _ _ _  _ (cond_t w8 hv3), (.inl rfl)⟩) ?_
  refine s_val (.d _) rfl (v_and rfl (fun hc => gd_pos hc) rfl) ?_
  refine s_val (.d _) rfl rfl ?_
  refine s_nil ?_
  refine l_ret ?_
  obtain rfl := Option.some.inj h
  refine fin_ok (.inr rfl) (resD1 (res_t rfl) rf_d) ?_
  exact (.refl _)

noncomputable def convoy_fairID (p1 : Int) : Option Bool :=
  some ((decide (p1 ≥ 0)) && (decide (p1 ≤ 99)))

/-- kerbstone/convoy.fairID -/
def ac_convoy_fairID : AC :=
  (.seq (.reg [⟨(some 2), .mv (.c (.v (.bool false))), none⟩])
  (.seq (.reg [⟨(some 3), .mv (.t 0), none⟩, ⟨(some 4), .bin .geq (.t 3) (.c (.v (.int .i64 0))), none⟩, ⟨(some 5), .mv (.t 4), none⟩, ⟨(some 6), .mv (.t 0), (some (5, true))⟩, ⟨(some 7), .bin .leq (.t 6) (.c (.v (.int .i64 99))), (some (5, true))⟩, ⟨(some 8), .pick (.t 5) (.t 7) (.c (.v (.bool false))), none⟩, ⟨(some 2), .mv (.t 8), none⟩])
  .ret))
theorem fn_convoy_fairID : FnOK Try.prog 123 9 [.t 2] ac_convoy_fairID := ⟨_, _, Try.func123, rfl, Try.ntmps123, by kernel_rfl, ⟨fun _ => [], by kernel_rfl⟩, by kernel_rfl⟩
theorem convoy_fairID_ok (p1 : Int) (r : Bool) (h : convoy_fairID p1 = some r) : PCall Try.prog 123 [(i64 p1)] (bo r) := by
  refine l_call fn_convoy_fairID (Nat.le_of_ble_eq_true rfl) ?_
  unfold convoy_fairID at h
  unfold ac_convoy_fairID
  refine (l_sub (s0 := ⟨T [(0, (.d (i64 p1)))], G []⟩) (sb_of ⟨.of rfl, trivial⟩ trivial) ?_)
  refine l_seq ?_
  refine l_reg fun u1 hu1 => ?_
  refine s_val (.d _) rfl rfl ?_
  refine s_nil ?_
  refine l_seq ?_
  refine l_reg fun u2 hu2 => ?_
  refine s_val (.d _) rfl rfl ?_
  refine s_val (.d _) rfl rfl ?_
  refine s_val (.d _) rfl rfl ?_
  refine g_val (decide (p1 ≥ 0)) (.d _) rfl (gw_t rfl) (fun w1 => rfl) ?_
  refine g_val (decide (p1 ≥ 0)) (.d _) rfl (gw_t rfl) (fun w2 => (v_bin (gd_pos w2) rfl rfl)) ?_
  refine s_val (.d _) rfl (v_and rfl (fun hc => gd_pos hc) rfl) ?_
  refine s_val (.d _) rfl rfl ?_
  refine s_nil ?_
  refine l_ret ?_
  obtain rfl := Option.some.inj h
  refine fin_ok (.inr rfl) (resD1 (res_t rfl) rf_d) ?_
  exact (.refl _)

noncomputable def convoy_fairGuess (p1 : Guess) : Option Bool :=
  (convoy_within p1.R (-20000) 2199023255552).bind fun v1 => ((cond v1 (convoy_within p1.V 0 2000) (some default))).bind fun v2 => some (v1 && v2)

/-- kerbstone/convoy.fairGuess -/
def ac_convoy_fairGuess : AC :=
  (.seq (.reg [⟨(some 1), .box 23 true (.t 0), none⟩, ⟨(some 2), .mv (.c (.v (.bool false))), none⟩])
  (.seq (.reg [⟨(some 3), .fieldA 0 (.t 1), none⟩, ⟨(some 4), .load 1 false (.t 3), none⟩, ⟨(some 5), .call (.c (.fn (.func 95) [] [])) [(.t 4), (.c (.v (.int .i64 (-20000)))), (.c (.v (.int .i64 2199023255552)))], none⟩, ⟨(some 6), .mv (.t 5), none⟩, ⟨(some 7), .fieldA 1 (.t 1), (some (6, true))⟩, ⟨(some 8), .load 1 false (.t 7), (some (6, true))⟩, ⟨(some 9), .call (.c (.fn (.func 95) [] [])) [(.t 8), (.c (.v (.int .i64 0))), (.c (.v (.int .i64 2000)))], (some (6, true))⟩, ⟨(some 10), .pick (.t 6) (.t 9) (.c (.v (.bool false))), none⟩, ⟨(some 2), .mv (.t 10), none⟩])
  .ret))
theorem fn_convoy_fairGuess : FnOK Try.prog 124 11 [.t 2] ac_convoy_fairGuess := ⟨_, _, Try.func124, rfl, Try.ntmps124, by kernel_rfl, ⟨fun _ => [], by kernel_rfl⟩, by kernel_rfl⟩
theorem convoy_fairGuess_ok (p1 : Guess) (r : Bool) (h : convoy_fairGuess p1 = some r) : PCall Try.prog 124 [(.agg [(i64 p1.R), (i64 p1.V)])] (bo r) := by
  refine l_call fn_convoy_fairGuess (Nat.le_of_ble_eq_true rfl) ?_
  unfold convoy_fairGuess at h
  unfold ac_convoy_fairGuess
  refine (l_sub (s0 := ⟨T [(0, (.d (.agg [(i64 p1.R), (i64 p1.V)])))], G []⟩) (sb_of ⟨.of rfl, trivial⟩ trivial) ?_)
  refine l_seq ?_
  refine l_reg fun u1 hu1 => ?_
  refine s_new (.ptr _ _) (.box _ _) rfl rfl ?_
  refine s_val (.d _) rfl rfl ?_
  refine s_nil ?_
  refine l_seq ?_
  refine l_reg fun u2 hu2 => ?_
  refine s_val (.ptr _ _) rfl rfl ?_
  refine s_val (.d _) rfl (v_load rfl G_hit rfl) ?_
  obtain ⟨v1, hv1, h⟩ := bind_some h
  refine s_call rfl rfl all2_refl (convoy_within_ok _ _ _  _ hv1) (.inl rfl) ?_
  refine s_val (.d _) rfl rfl ?_
  refine g_val v1 (.ptr _ _) rfl (gw_t rfl) (fun w1 => rfl) ?_
  refine g_val v1 (.d _) rfl (gw_t rfl) (fun w2 => (v_load (gd_pos w2) G_hit rfl)) ?_
  obtain ⟨v2, hv2, h⟩ := bind_some h
  refine g_call v1 (bo v2) (gw_t rfl) (fun w3 => ⟨_, [(.d (i64 p1.V)), (.d (i64 0)), (.d (i64 2000))], _, _, (by simp only [gd_pos w3]; rfl), rfl, all2_refl, convoy_within_ok _ _ _  _ (cond_t w3 hv2), (.inl rfl)⟩) ?_
  refine s_val (.d _) rfl (v_and rfl (fun hc => gd_pos hc) rfl) ?_
  refine s_val (.d _) rfl rfl ?_
  refine s_nil ?_
  refine l_ret ?_
  obtain rfl := Option.some.inj h
  refine fin_ok (.inr rfl) (resD1 (res_t rfl) rf_d) ?_
  exact (.refl _)

noncomputable def convoy_fairMate (p1 : Mate) : Option Bool :=
  (convoy_fairBody p1.ID p1.S p1.V p1.Len).bind fun v1 => ((cond v1 (convoy_fairID p1.Ahead) (some default))).bind fun v2 => ((cond (v1 && v2) (convoy_fairID p1.Ward) (some default))).bind fun v3 => ((cond ((v1 && v2) && v3) (convoy_within p1.Until 0 2199023255552) (some default))).bind fun v4 => ((cond (((v1 && v2) && v3) && v4) (convoy_fairGuess p1.Guess_) (some default))).bind fun v5 => ((cond ((((v1 && v2) && v3) && v4) && v5) (convoy_fairGuess p1.WardGuess) (some default))).bind fun v6 => some (((((v1 && v2) && v3) && v4) && v5) && v6)

/-- kerbstone/convoy.fairMate -/
def ac_convoy_fairMate : AC :=
  (.seq (.reg [⟨(some 1), .box 65 true (.t 0), none⟩, ⟨(some 2), .mv (.c (.v (.bool false))), none⟩])
  (.seq (.reg [⟨(some 3), .fieldA 0 (.t 1), none⟩, ⟨(some 4), .load 1 false (.t 3), none⟩, ⟨(some 5), .fieldA 1 (.t 1), none⟩, ⟨(some 6), .load 1 false (.t 5), none⟩, ⟨(some 7), .fieldA 2 (.t 1), none⟩, ⟨(some 8), .load 1 false (.t 7), none⟩, ⟨(some 9), .fieldA 3 (.t 1), none⟩, ⟨(some 10), .load 1 false (.t 9), none⟩, ⟨(some 11), .call (.c (.fn (.func 122) [] [])) [(.t 4), (.t 6), (.t 8), (.t 10)], none⟩, ⟨(some 12), .mv (.t 11), none⟩, ⟨(some 13), .fieldA 4 (.t 1), (some (12, true))⟩, ⟨(some 14), .load 1 false (.t 13), (some (12, true))⟩, ⟨(some 15), .call (.c (.fn (.func 123) [] [])) [(.t 14)], (some (12, true))⟩, ⟨(some 16), .pick (.t 12) (.t 15) (.c (.v (.bool false))), none⟩, ⟨(some 17), .mv (.t 16), none⟩, ⟨(some 18), .fieldA 8 (.t 1), (some (17, true))⟩, ⟨(some 19), .load 1 false (.t 18), (some (17, true))⟩, ⟨(some 20), .call (.c (.fn (.func 123) [] [])) [(.t 19)], (some (17, true))⟩, ⟨(some 21), .pick (.t 17) (.t 20) (.c (.v (.bool false))), none⟩, ⟨(some 22), .mv (.t 21), none⟩, ⟨(some 23), .fieldA 11 (.t 1), (some (22, true))⟩, ⟨(some 24), .load 1 false (.t 23), (some (22, true))⟩, ⟨(some 25), .call (.c (.fn (.func 95) [] [])) [(.t 24), (.c (.v (.int .i64 0))), (.c (.v (.int .i64 2199023255552)))], (some (22, true))⟩, ⟨(some 26), .pick (.t 22) (.t 25) (.c (.v (.bool false))), none⟩, ⟨(some 27), .mv (.t 26), none⟩, ⟨(some 28), .fieldA 5 (.t 1), (some (27, true))⟩, ⟨(some 29), .load 2 true (.t 28), (some (27, true))⟩, ⟨(some 30), .call (.c (.fn (.func 124) [] [])) [(.t 29)], (some (27, true))⟩, ⟨(some 31), .pick (.t 27) (.t 30) (.c (.v (.bool false))), none⟩, ⟨(some 32), .mv (.t 31), none⟩, ⟨(some 33), .fieldA 9 (.t 1), (some (32, true))⟩, ⟨(some 34), .load 2 true (.t 33), (some (32, true))⟩, ⟨(some 35), .call (.c (.fn (.func 124) [] [])) [(.t 34)], (some (32, true))⟩, ⟨(some 36), .pick (.t 32) (.t 35) (.c (.v (.bool false))), none⟩, ⟨(some 2), .mv (.t 36), none⟩])
  .ret))
theorem fn_convoy_fairMate : FnOK Try.prog 102 37 [.t 2] ac_convoy_fairMate := ⟨_, _, Try.func102, rfl, Try.ntmps102, by kernel_rfl, ⟨fun _ => [], by kernel_rfl⟩, by kernel_rfl⟩
theorem convoy_fairMate_ok (p1 : Mate) (r : Bool) (h : convoy_fairMate p1 = some r) : PCall Try.prog 102 [(.agg [(i64 p1.ID), (i64 p1.S), (i64 p1.V), (i64 p1.Len), (i64 p1.Ahead), (i64 p1.Guess_.R), (i64 p1.Guess_.V), (bo p1.Trust), (i64 p1.Ward), (i64 p1.WardGuess.R), (i64 p1.WardGuess.V), (i64 p1.Until)])] (bo r) := by
  refine l_call fn_convoy_fairMate (Nat.le_of_ble_eq_true rfl) ?_
  unfold convoy_fairMate at h
  unfold ac_convoy_fairMate
  refine (l_sub (s0 := ⟨T [(0, (.d (.agg [(i64 p1.ID), (i64 p1.S), (i64 p1.V), (i64 p1.Len), (i64 p1.Ahead), (i64 p1.Guess_.R), (i64 p1.Guess_.V), (bo p1.Trust), (i64 p1.Ward), (i64 p1.WardGuess.R), (i64 p1.WardGuess.V), (i64 p1.Until)])))], G []⟩) (sb_of ⟨.of rfl, trivial⟩ trivial) ?_)
  refine l_seq ?_
  refine l_reg fun u1 hu1 => ?_
  refine s_new (.ptr _ _) (.box _ _) rfl rfl ?_
  refine s_val (.d _) rfl rfl ?_
  refine s_nil ?_
  refine l_seq ?_
  refine l_reg fun u2 hu2 => ?_
  refine s_val (.ptr _ _) rfl rfl ?_
  refine s_val (.d _) rfl (v_load rfl G_hit rfl) ?_
  refine s_val (.ptr _ _) rfl rfl ?_
  refine s_val (.d _) rfl (v_load rfl G_hit rfl) ?_
  refine s_val (.ptr _ _) rfl rfl ?_
  refine s_val (.d _) rfl (v_load rfl G_hit rfl) ?_
  refine s_val (.ptr _ _) rfl rfl ?_
  refine s_val (.d _) rfl (v_load rfl G_hit rfl) ?_
  obtain ⟨v1, hv1, h⟩ := bind_some h
  refine s_call rfl rfl all2_refl (convoy_fairBody_ok _ _ _ _  _ hv1) (.inl rfl) ?_
  refine s_val (.d _) rfl rfl ?_
  refine g_val v1 (.ptr _ _) rfl (gw_t rfl) (fun w1 => rfl) ?_
  refine g_val v1 (.d _) rfl (gw_t rfl) (fun w2 => (v_load (gd_pos w2) G_hit rfl)) ?_
  obtain ⟨v2, hv2, h⟩ := bind_some h
  refine g_call v1 (bo v2) (gw_t rfl) (fun w3 => ⟨_, [(.d (i64 p1.Ahead))], _, _, (by simp only [gd_pos w3]; rfl), rfl, all2_refl, convoy_fairID_ok _  _ (cond_t w3 hv2), (.inl rfl)⟩) ?_
  refine s_val (.d _) rfl (v_and rfl (fun hc => gd_pos hc) rfl) ?_
  refine s_val (.d _) rfl rfl ?_
  refine g_val (v1 && v2) (.ptr _ _) rfl (gw_t rfl) (fun w4 => rfl) ?_
  refine g_val (v1 && v2) (.d _) rfl (gw_t rfl) (fun w5 => (v_load (gd_pos w5) G_hit rfl)) ?_
  obtain ⟨v3, hv3, h⟩ := bind_some h
  refine g_call (v1 && v2) (bo v3) (gw_t rfl) (fun w6 => ⟨_, [(.d (i64 p1.Ward))], _, _, (by simp only [gd_pos w6]; rfl), rfl, all2_refl, convoy_fairID_ok _  _ (cond_t w6 hv3), (.inl rfl)⟩) ?_
  refine s_val (.d _) rfl (v_and rfl (fun hc => gd_pos hc) rfl) ?_
  refine s_val (.d _) rfl rfl ?_
  refine g_val ((v1 && v2) && v3) (.ptr _ _) rfl (gw_t rfl) (fun w7 => rfl) ?_
  refine g_val ((v1 && v2) && v3) (.d _) rfl (gw_t rfl) (fun w8 => (v_load (gd_pos w8) G_hit rfl)) ?_
  obtain ⟨v4, hv4, h⟩ := bind_some h
  refine g_call ((v1 && v2) && v3) (bo v4) (gw_t rfl) (fun w9 => ⟨_, [(.d (i64 p1.Until)), (.d (i64 0)), (.d (i64 2199023255552))], _, _, (by simp only [gd_pos w9]; rfl), rfl, all2_refl, convoy_within_ok _ _ _  _ (cond_t w9 hv4), (.inl rfl)⟩) ?_
  refine s_val (.d _) rfl (v_and rfl (fun hc => gd_pos hc) rfl) ?_
  refine s_val (.d _) rfl rfl ?_
  refine g_val (((v1 && v2) && v3) && v4) (.ptr _ _) rfl (gw_t rfl) (fun w10 => rfl) ?_
  refine g_val (((v1 && v2) && v3) && v4) (.d _) rfl (gw_t rfl) (fun w11 => (v_loadG (gd_pos w11) G_hit rfl rfl)) ?_
  obtain ⟨v5, hv5, h⟩ := bind_some h
  refine g_call (((v1 && v2) && v3) && v4) (bo v5) (gw_t rfl) (fun w12 => ⟨_, [(.d (.agg [(i64 p1.Guess_.R), (i64 p1.Guess_.V)]))], _, _, (by simp only [gd_pos w12]; rfl), rfl, all2_refl, convoy_fairGuess_ok _  _ (cond_t w12 hv5), (.inl rfl)⟩) ?_
  refine s_val (.d _) rfl (v_and rfl (fun hc => gd_pos hc) rfl) ?_
  refine s_val (.d _) rfl rfl ?_
  refine g_val ((((v1 && v2) && v3) && v4) && v5) (.ptr _ _) rfl (gw_t rfl) (fun w13 => rfl) ?_
  refine g_val ((((v1 && v2) && v3) && v4) && v5) (.d _) rfl (gw_t rfl) (fun w14 => (v_loadG (gd_pos w14) G_hit rfl rfl)) ?_
  obtain ⟨v6, hv6, h⟩ := bind_some h
  refine g_call ((((v1 && v2) && v3) && v4) && v5) (bo v6) (gw_t rfl) (fun w15 => ⟨_, [(.d (.agg [(i64 p1.WardGuess.R), (i64 p1.WardGuess.V)]))], _, _, (by simp only [gd_pos w15]; rfl), rfl, all2_refl, convoy_fairGuess_ok _  _ (cond_t w15 hv6), (.inl rfl)⟩) ?_
  refine s_val (.d _) rfl (v_and rfl (fun hc => gd_pos hc) rfl) ?_
  refine s_val (.d _) rfl rfl ?_
  refine s_nil ?_
  refine l_ret ?_
  obtain rfl := Option.some.inj h
  refine fin_ok (.inr rfl) (resD1 (res_t rfl) rf_d) ?_
  exact (.refl _)

noncomputable def convoy_numbers_1 (p1 : Mate) : Option Bool :=
  (convoy_fairMate p1).bind fun v1 => some (!v1)

/-- kerbstone/convoy.numbers$1 -/
def ac_convoy_numbers_1 : AC :=
  (.seq (.reg [⟨(some 1), .box 65 true (.t 0), none⟩, ⟨(some 2), .mv (.c (.v (.bool false))), none⟩])
  (.seq (.reg [⟨(some 3), .load 12 true (.t 1), none⟩, ⟨(some 4), .call (.c (.fn (.func 102) [] [])) [(.t 3)], none⟩, ⟨(some 5), .un .not (.t 4), none⟩, ⟨(some 2), .mv (.t 5), none⟩])
  .ret))
theorem fn_convoy_numbers_1 : FnOK Try.prog 101 6 [.t 2] ac_convoy_numbers_1 := ⟨_, _, Try.func101, rfl, Try.ntmps101, by kernel_rfl, ⟨fun _ => [], by kernel_rfl⟩, by kernel_rfl⟩
theorem convoy_numbers_1_ok (p1 : Mate) (r : Bool) (h : convoy_numbers_1 p1 = some r) : PCall Try.prog 101 [(.agg [(i64 p1.ID), (i64 p1.S), (i64 p1.V), (i64 p1.Len), (i64 p1.Ahead), (i64 p1.Guess_.R), (i64 p1.Guess_.V), (bo p1.Trust), (i64 p1.Ward), (i64 p1.WardGuess.R), (i64 p1.WardGuess.V), (i64 p1.Until)])] (bo r) := by
  refine l_call fn_convoy_numbers_1 (Nat.le_of_ble_eq_true rfl) ?_
  unfold convoy_numbers_1 at h
  unfold ac_convoy_numbers_1
  refine (l_sub (s0 := ⟨T [(0, (.d (.agg [(i64 p1.ID), (i64 p1.S), (i64 p1.V), (i64 p1.Len), (i64 p1.Ahead), (i64 p1.Guess_.R), (i64 p1.Guess_.V), (bo p1.Trust), (i64 p1.Ward), (i64 p1.WardGuess.R), (i64 p1.WardGuess.V), (i64 p1.Until)])))], G []⟩) (sb_of ⟨.of rfl, trivial⟩ trivial) ?_)
  refine l_seq ?_
  refine l_reg fun u1 hu1 => ?_
  refine s_new (.ptr _ _) (.box _ _) rfl rfl ?_
  refine s_val (.d _) rfl rfl ?_
  refine s_nil ?_
  refine l_seq ?_
  refine l_reg fun u2 hu2 => ?_
  refine s_val (.d _) rfl (v_loadG rfl G_hit rfl rfl) ?_
  obtain ⟨v1, hv1, h⟩ := bind_some h
  refine s_call rfl rfl all2_refl (convoy_fairMate_ok _  _ hv1) (.inl rfl) ?_
  refine s_val (.d _) rfl rfl ?_
  refine s_val (.d _) rfl rfl ?_
  refine s_nil ?_
  refine l_ret ?_
  obtain rfl := Option.some.inj h
  refine fin_ok (.inr rfl) (resD1 (res_t rfl) rf_d) ?_
  exact (.refl _)

noncomputable def slices_IndexFunc_Mate_Mate_convoy_numbers_1_l1 (p1 : (List Mate)) (x1 : Int) : Option (Stp Int (Sum Unit Int)) :=
  cond (decide (x1 < (p1.length : Int))) ((geti p1 x1).bind fun v1 => (convoy_numbers_1 v1).bind fun v2 => cond v2 (some (.out (.inr x1))) (some (.go (w64 (x1 + 1))))) (some (.out (.inl ())))
noncomputable def slices_IndexFunc_Mate_Mate_convoy_numbers_1 (p1 : (List Mate)) : Option Int :=
  thenS (loop (slices_IndexFunc_Mate_Mate_convoy_numbers_1_l1 p1) 0) (fun _ => some (-1)) (fun r => some r)

/-- slices.IndexFunc[[]kerbstone/api.Mate,kerbstone/api.Mate] -/
def ac_slices_IndexFunc_Mate_Mate_convoy_numbers_1 : AC :=
  (.seq (.reg [⟨(some 4), .mv (.c (.v (.int .i64 0))), none⟩])
  (.seq (.seq (.reg [⟨(some 6), .mv (.t 0), none⟩, ⟨(some 7), .len (.t 6), none⟩, ⟨(some 8), .mv (.c (.v (.int .i64 0))), none⟩])
  (.block 0
    (.loop
      (.seq (.reg [⟨(some 9), .bin .lss (.t 8) (.t 7), none⟩])
      (.seq (.cond (.t 9)
        .skip
        (.exit 0))
      (.seq (.block 1
        (.seq (.reg [⟨(some 10), .mv (.t 8), none⟩, ⟨(some 5), .mv (.t 10), none⟩])
        (.seq (.reg [⟨(some 11), .mv (.t 1), none⟩, ⟨(some 12), .mv (.t 0), none⟩, ⟨(some 13), .mv (.t 5), none⟩, ⟨(some 14), .idxS 12 (.t 12) (.t 13), none⟩, ⟨(some 15), .load 12 true (.t 14), none⟩, ⟨(some 16), .call (.t 11) [(.t 15)], none⟩])
        (.cond (.t 16)
          (.seq (.reg [⟨(some 17), .mv (.t 5), none⟩, ⟨(some 4), .mv (.t 17), none⟩])
          .ret)
          .skip))))
      (.reg [⟨(some 18), .bin .add (.t 8) (.c (.v (.int .i64 1))), none⟩, ⟨(some 8), .mv (.t 18), none⟩])))))))
  (.seq (.reg [⟨(some 4), .mv (.c (.v (.int .i64 (-1)))), none⟩])
  .ret)))
theorem fn_slices_IndexFunc_Mate_Mate_convoy_numbers_1 : FnOK Try.prog 98 19 [.t 4] ac_slices_IndexFunc_Mate_Mate_convoy_numbers_1 := ⟨_, _, Try.func98, rfl, Try.ntmps98, by kernel_rfl, ⟨fun _ => [], by kernel_rfl⟩, by kernel_rfl⟩
set_option maxHeartbeats 4000000 in
theorem slices_IndexFunc_Mate_Mate_convoy_numbers_1_ok (p1 : (List Mate)) (r : Int) (h : slices_IndexFunc_Mate_Mate_convoy_numbers_1 p1 = some r) : PCall Try.prog 98 [(.list (List.map eMate p1)), (.fn (.func 101) [] [])] (i64 r) := by
  refine l_call fn_slices_IndexFunc_Mate_Mate_convoy_numbers_1 (Nat.le_of_ble_eq_true rfl) ?_
  unfold slices_IndexFunc_Mate_Mate_convoy_numbers_1 at h
  unfold ac_slices_IndexFunc_Mate_Mate_convoy_numbers_1
  refine (l_sub (s0 := ⟨T [(0, (.d (.list (List.map eMate p1)))), (1, (.d (.fn (.func 101) [] [])))], G []⟩) (sb_of ⟨.of rfl, .of rfl, trivial⟩ trivial) ?_)
  refine l_seq ?_
  refine l_reg fun u1 hu1 => ?_
  refine s_val (.d _) rfl rfl ?_
  refine s_nil ?_
  refine l_seq ?_
  refine l_seq ?_
  refine l_reg fun u2 hu2 => ?_
  refine s_val (.d _) rfl rfl ?_
  refine s_val (.d _) rfl (v_len rfl) ?_
  refine s_val (.d _) rfl rfl ?_
  refine s_nil ?_
  obtain ⟨z1, hz1, h⟩ := thenS_some h
  refine l_join (fun s => ∃ (y1 : Unit) (g1 : Unit), z1 = .inl y1 ∧ Sb ⟨T [], G []⟩ s) ?_ ?_
  · skip
    refine l_block ?_
    refine l_loop (slices_IndexFunc_Mate_Mate_convoy_numbers_1_l1 p1) (fun (x1 : Int) (g2 : Unit) => ⟨T [(0, (.d (.list (List.map eMate p1)))), (1, (.d (.fn (.func 101) [] []))), (7, (.d (i64 (p1.length : Int)))), (8, (.d (i64 x1)))], G []⟩) 0 () _ hz1 (sb_of ⟨.of rfl, .of rfl, .of rfl, .of rfl, trivial⟩ trivial) ?_
    intro x1 g2 z2 hz2 ez2
    unfold slices_IndexFunc_Mate_Mate_convoy_numbers_1_l1 at hz2
    refine l_seq ?_
    refine l_reg fun u3 hu3 => ?_
    refine s_val (.d _) rfl rfl ?_
    refine s_nil ?_
    refine l_seq ?_
    refine l_cond (decide (x1 < (p1.length : Int))) rfl (fun c1 => ?_) (fun c1 => ?_)
    · replace hz2 := cond_t c1 hz2
      refine l_skip ?_
      refine l_seq ?_
      refine l_block ?_
      refine l_seq ?_
      refine l_reg fun u4 hu4 => ?_
      refine s_val (.d _) rfl rfl ?_
      refine s_val (.d _) rfl rfl ?_
      refine s_nil ?_
      refine l_seq ?_
      refine l_reg fun u5 hu5 => ?_
      refine s_val (.d _) rfl rfl ?_
      refine s_val (.d _) rfl rfl ?_
      refine s_val (.d _) rfl rfl ?_
      obtain ⟨v1, hv1, hz2⟩ := bind_some hz2
      refine s_val (.d _) rfl (v_idx rfl rfl hv1 rfl) ?_
      refine s_val (.d _) rfl (v_loadLG rfl hv1 rfl rfl) ?_
      obtain ⟨v2, hv2, hz2⟩ := bind_some hz2
      refine s_call rfl rfl all2_refl (convoy_numbers_1_ok _  _ hv2) (.inl rfl) ?_
      refine s_nil ?_
      refine l_cond v2 rfl (fun c2 => ?_) (fun c2 => ?_)
      · replace hz2 := cond_t c2 hz2
        refine l_seq ?_
        refine l_reg fun u6 hu6 => ?_
        refine s_val (.d _) rfl rfl ?_
        refine s_val (.d _) rfl rfl ?_
        refine s_nil ?_
        refine l_ret ?_
        obtain rfl := Option.some.inj hz2
        obtain rfl := ez2 _ rfl
        refine ⟨nofun, awl_ret ?_⟩
        rw [Sum.elim_inr] at h
        obtain rfl := Option.some.inj h
        refine fin_ok (.inr rfl) (resD1 (res_t rfl) rf_d) ?_
        exact (.refl _)
      · replace hz2 := cond_f c2 hz2
        refine l_skip ?_
        refine l_end ?_
        refine l_reg fun u7 hu7 => ?_
        refine s_val (.d _) rfl rfl ?_
        refine s_val (.d _) rfl rfl ?_
        refine s_nil ?_
        refine l_nil ?_
        obtain rfl := Option.some.inj hz2
        exact ⟨rfl, (), (sb_of ⟨.of rfl, .of rfl, .of rfl, .of rfl, trivial⟩ trivial)⟩
    · replace hz2 := cond_f c1 hz2
      refine l_exitN rfl ?_
      obtain rfl := Option.some.inj hz2
      obtain rfl := ez2 _ rfl
      refine ⟨nofun, awl_pop rfl (l_j ?_)⟩
      exact ⟨_, (), rfl, (sb_of trivial trivial)⟩
  · rintro _ ⟨y1, g1, rfl, q1⟩
    rw [Sum.elim_inl] at h
    refine l_sub q1 ?_
    refine l_seq ?_
    refine l_reg fun u8 hu8 => ?_
    refine s_val (.d _) rfl rfl ?_
    refine s_nil ?_
    refine l_ret ?_
    obtain rfl := Option.some.inj h
    refine fin_ok (.inr rfl) (resD1 (res_t rfl) rf_d) ?_
    exact (.refl _)

noncomputable def slices_ContainsFunc_Mate_Mate_convoy_numbers_1 (p1 : (List Mate)) : Option Bool :=
  (slices_IndexFunc_Mate_Mate_convoy_numbers_1 p1).bind fun v1 => some (decide (v1 ≥ 0))

/-- slices.ContainsFunc[[]kerbstone/api.Mate,kerbstone/api.Mate] -/
def ac_slices_ContainsFunc_Mate_Mate_convoy_numbers_1 : AC :=
  (.seq (.reg [⟨(some 4), .mv (.c (.v (.bool false))), none⟩])
  (.seq (.reg [⟨(some 5), .mv (.t 0), none⟩, ⟨(some 6), .mv (.t 1), none⟩, ⟨(some 7), .call (.c (.fn (.func 98) [] [])) [(.t 5), (.t 6)], none⟩, ⟨(some 8), .bin .geq (.t 7) (.c (.v (.int .i64 0))), none⟩, ⟨(some 4), .mv (.t 8), none⟩])
  .ret))
theorem fn_slices_ContainsFunc_Mate_Mate_convoy_numbers_1 : FnOK Try.prog 77 9 [.t 4] ac_slices_ContainsFunc_Mate_Mate_convoy_numbers_1 := ⟨_, _, Try.func77, rfl, Try.ntmps77, by kernel_rfl, ⟨fun _ => [], by kernel_rfl⟩, by kernel_rfl⟩
theorem slices_ContainsFunc_Mate_Mate_convoy_numbers_1_ok (p1 : (List Mate)) (r : Bool) (h : slices_ContainsFunc_Mate_Mate_convoy_numbers_1 p1 = some r) : PCall Try.prog 77 [(.list (List.map eMate p1)), (.fn (.func 101) [] [])] (bo r) := by
  refine l_call fn_slices_ContainsFunc_Mate_Mate_convoy_numbers_1 (Nat.le_of_ble_eq_true rfl) ?_
  unfold slices_ContainsFunc_Mate_Mate_convoy_numbers_1 at h
  unfold ac_slices_ContainsFunc_Mate_Mate_convoy_numbers_1
  refine (l_sub (s0 := ⟨T [(0, (.d (.list (List.map eMate p1)))), (1, (.d (.fn (.func 101) [] [])))], G []⟩) (sb_of ⟨.of rfl, .of rfl, trivial⟩ trivial) ?_)
  refine l_seq ?_
  refine l_reg fun u1 hu1 => ?_
  refine s_val (.d _) rfl rfl ?_
  refine s_nil ?_
  refine l_seq ?_
  refine l_reg fun u2 hu2 => ?_
  refine s_val (.d _) rfl rfl ?_
  refine s_val (.d _) rfl rfl ?_
  obtain ⟨v1, hv1, h⟩ := bind_some h
  refine s_call rfl rfl all2_refl (slices_IndexFunc_Mate_Mate_convoy_numbers_1_ok _  _ hv1) (.inl rfl) ?_
  refine s_val (.d _) rfl rfl ?_
  refine s_val (.d _) rfl rfl ?_
  refine s_nil ?_
  refine l_ret ?_
  obtain rfl := Option.some.inj h
  refine fin_ok (.inr rfl) (resD1 (res_t rfl) rf_d) ?_
  exact (.refl _)

noncomputable def convoy_fairGuest (p1 : Guest) : Option Bool :=
  cond (p1.ID == 0) (some (p1.ID == 0 && (p1.S == 0 && (p1.V == 0 && (p1.Len == 0 && (p1.End == 0 && (p1.Ahead == 0 && (p1.Guess_.R == 0 && (p1.Guess_.V == 0 && (p1.From == 0 && (p1.Until == 0 && true))))))))))) ((convoy_fairBody p1.ID p1.S p1.V p1.Len).bind fun v1 => ((cond v1 (convoy_fairID p1.Ahead) (some default))).bind fun v2 => ((cond (v1 && v2) (convoy_fairID p1.From) (some default))).bind fun v3 => ((cond ((v1 && v2) && v3) (convoy_within p1.Until 0 2199023255552) (some default))).bind fun v4 => ((cond (((v1 && v2) && v3) && v4) (convoy_within p1.End 0 1099511627776) (some default))).bind fun v5 => ((cond ((((v1 && v2) && v3) && v4) && v5) (convoy_fairGuess p1.Guess_) (some default))).bind fun v6 => some (((((v1 && v2) && v3) && v4) && v5) && v6))

/-- kerbstone/convoy.fairGuest -/
def ac_convoy_fairGuest : AC :=
  (.seq (.reg [⟨(some 1), .box 36 true (.t 0), none⟩, ⟨(some 2), .mv (.c (.v (.bool false))), none⟩])
  (.seq (.seq (.reg [⟨(some 3), .fieldA 0 (.t 1), none⟩, ⟨(some 4), .load 1 false (.t 3), none⟩, ⟨(some 5), .bin .eql (.t 4) (.c (.v (.int .i64 0))), none⟩])
  (.cond (.t 5)
    (.seq (.reg [⟨(some 6), .load 10 true (.t 1), none⟩, ⟨(some 7), .build [(.v (.int .i64 0)), (.v (.int .i64 0)), (.v (.int .i64 0)), (.v (.int .i64 0)), (.v (.int .i64 0)), (.v (.int .i64 0)), (.v (.int .i64 0)), (.v (.int .i64 0)), (.v (.int .i64 0)), (.v (.int .i64 0))] [], none⟩, ⟨(some 8), .eqA false [false, false, false, false, false, false, false, false, false, false] (.t 6) (.t 7), none⟩, ⟨(some 2), .mv (.t 8), none⟩])
    .ret)
    .skip))
  (.seq (.reg [⟨(some 9), .fieldA 0 (.t 1), none⟩, ⟨(some 10), .load 1 false (.t 9), none⟩, ⟨(some 11), .fieldA 1 (.t 1), none⟩, ⟨(some 12), .load 1 false (.t 11), none⟩, ⟨(some 13), .fieldA 2 (.t 1), none⟩, ⟨(some 14), .load 1 false (.t 13), none⟩, ⟨(some 15), .fieldA 3 (.t 1), none⟩, ⟨(some 16), .load 1 false (.t 15), none⟩, ⟨(some 17), .call (.c (.fn (.func 122) [] [])) [(.t 10), (.t 12), (.t 14), (.t 16)], none⟩, ⟨(some 18), .mv (.t 17), none⟩, ⟨(some 19), .fieldA 5 (.t 1), (some (18, true))⟩, ⟨(some 20), .load 1 false (.t 19), (some (18, true))⟩, ⟨(some 21), .call (.c (.fn (.func 123) [] [])) [(.t 20)], (some (18, true))⟩, ⟨(some 22), .pick (.t 18) (.t 21) (.c (.v (.bool false))), none⟩, ⟨(some 23), .mv (.t 22), none⟩, ⟨(some 24), .fieldA 8 (.t 1), (some (23, true))⟩, ⟨(some 25), .load 1 false (.t 24), (some (23, true))⟩, ⟨(some 26), .call (.c (.fn (.func 123) [] [])) [(.t 25)], (some (23, true))⟩, ⟨(some 27), .pick (.t 23) (.t 26) (.c (.v (.bool false))), none⟩, ⟨(some 28), .mv (.t 27), none⟩, ⟨(some 29), .fieldA 9 (.t 1), (some (28, true))⟩, ⟨(some 30), .load 1 false (.t 29), (some (28, true))⟩, ⟨(some 31), .call (.c (.fn (.func 95) [] [])) [(.t 30), (.c (.v (.int .i64 0))), (.c (.v (.int .i64 2199023255552)))], (some (28, true))⟩, ⟨(some 32), .pick (.t 28) (.t 31) (.c (.v (.bool false))), none⟩, ⟨(some 33), .mv (.t 32), none⟩, ⟨(some 34), .fieldA 4 (.t 1), (some (33, true))⟩, ⟨(some 35), .load 1 false (.t 34), (some (33, true))⟩, ⟨(some 36), .call (.c (.fn (.func 95) [] [])) [(.t 35), (.c (.v (.int .i64 0))), (.c (.v (.int .i64 1099511627776)))], (some (33, true))⟩, ⟨(some 37), .pick (.t 33) (.t 36) (.c (.v (.bool false))), none⟩, ⟨(some 38), .mv (.t 37), none⟩, ⟨(some 39), .fieldA 6 (.t 1), (some (38, true))⟩, ⟨(some 40), .load 2 true (.t 39), (some (38, true))⟩, ⟨(some 41), .call (.c (.fn (.func 124) [] [])) [(.t 40)], (some (38, true))⟩, ⟨(some 42), .pick (.t 38) (.t 41) (.c (.v (.bool false))), none⟩, ⟨(some 2), .mv (.t 42), none⟩])
  .ret)))
theorem fn_convoy_fairGuest : FnOK Try.prog 103 43 [.t 2] ac_convoy_fairGuest := ⟨_, _, Try.func103, rfl, Try.ntmps103, by kernel_rfl, ⟨fun _ => [], by kernel_rfl⟩, by kernel_rfl⟩
set_option maxHeartbeats 4000000 in
theorem convoy_fairGuest_ok (p1 : Guest) (r : Bool) (h : convoy_fairGuest p1 = some r) : PCall Try.prog 103 [(.agg [(i64 p1.ID), (i64 p1.S), (i64 p1.V), (i64 p1.Len), (i64 p1.End), (i64 p1.Ahead), (i64 p1.Guess_.R), (i64 p1.Guess_.V), (i64 p1.From), (i64 p1.Until)])] (bo r) := by
  refine l_call fn_convoy_fairGuest (Nat.le_of_ble_eq_true rfl) ?_
  unfold convoy_fairGuest at h
  unfold ac_convoy_fairGuest
  refine (l_sub (s0 := ⟨T [(0, (.d (.agg [(i64 p1.ID), (i64 p1.S), (i64 p1.V), (i64 p1.Len), (i64 p1.End), (i64 p1.Ahead), (i64 p1.Guess_.R), (i64 p1.Guess_.V), (i64 p1.From), (i64 p1.Until)])))], G []⟩) (sb_of ⟨.of rfl, trivial⟩ trivial) ?_)
  refine l_seq ?_
  refine l_reg fun u1 hu1 => ?_
  refine s_new (.ptr _ _) (.box _ _) rfl rfl ?_
  refine s_val (.d _) rfl rfl ?_
  refine s_nil ?_
  refine l_seq ?_
  refine l_seq ?_
  refine l_reg fun u2 hu2 => ?_
  refine s_val (.ptr _ _) rfl rfl ?_
  refine s_val (.d _) rfl (v_load rfl G_hit rfl) ?_
  refine s_val (.d _) rfl rfl ?_
  refine s_nil ?_
  refine l_cond (p1.ID == 0) rfl (fun c1 => ?_) (fun c1 => ?_)
  · replace h := cond_t c1 h
    refine l_seq ?_
    refine l_reg fun u3 hu3 => ?_
    refine s_val (.d _) rfl (v_loadG rfl G_hit rfl rfl) ?_
    refine s_val (.d _) rfl rfl ?_
    refine s_val (.d _) rfl rfl ?_
    refine s_val (.d _) rfl rfl ?_
    refine s_nil ?_
    refine l_ret ?_
    obtain rfl := Option.some.inj h
    refine fin_ok (.inr rfl) (resD1 (res_t rfl) rf_d) ?_
    exact (.refl _)
  · replace h := cond_f c1 h
    refine l_skip ?_
    refine l_seq ?_
    refine l_reg fun u4 hu4 => ?_
    refine s_val (.ptr _ _) rfl rfl ?_
    refine s_val (.d _) rfl (v_load rfl G_hit rfl) ?_
    refine s_val (.ptr _ _) rfl rfl ?_
    refine s_val (.d _) rfl (v_load rfl G_hit rfl) ?_
    refine s_val (.ptr _ _) rfl rfl ?_
    refine s_val (.d _) rfl (v_load rfl G_hit rfl) ?_
    refine s_val (.ptr _ _) rfl rfl ?_
    refine s_val (.d _) rfl (v_load rfl G_hit rfl) ?_
    obtain ⟨v1, hv1, h⟩ := bind_some h
    refine s_call rfl rfl all2_refl (convoy_fairBody_ok _ _ _ _  _ hv1) (.inl rfl) ?_
    refine s_val (.d _) rfl rfl ?_
    refine g_val v1 (.ptr _ _) rfl (gw_t rfl) (fun w1 => rfl) ?_
    refine g_val v1 (.d _) rfl (gw_t rfl) (fun w2 => (v_load (gd_pos w2) G_hit rfl)) ?_
    obtain ⟨v2, hv2, h⟩ := bind_some h
    refine g_call v1 (bo v2) (gw_t rfl) (fun w3 => ⟨_, [(.d (i64 p1.Ahead))], _, _, (by simp only [gd_pos w3]; rfl), rfl, all2_refl, convoy_fairID_ok _  _ (cond_t w3 hv2), (.inl rfl)⟩) ?_
    refine s_val (.d _) rfl (v_and rfl (fun hc => gd_pos hc) rfl) ?_
    refine s_val (.d _) rfl rfl ?_
    refine g_val (v1 && v2) (.ptr _ _) rfl (gw_t rfl) (fun w4 => rfl) ?_
    refine g_val (v1 && v2) (.d _) rfl (gw_t rfl) (fun w5 => (v_load (gd_pos w5) G_hit rfl)) ?_
    obtain ⟨v3, hv3, h⟩ := bind_some h
    refine g_call (v1 && v2) (bo v3) (gw_t rfl) (fun w6 => ⟨_, [(.d (i64 p1.From))], _, _, (by simp only [gd_pos w6]; rfl), rfl, all2_refl, convoy_fairID_ok _  _ (cond_t w6 hv3), (.inl rfl)⟩) ?_
    refine s_val (.d _) rfl (v_and rfl (fun hc => gd_pos hc) rfl) ?_
    refine s_val (.d _) rfl rfl ?_
    refine g_val ((v1 && v2) && v3) (.ptr _ _) rfl (gw_t rfl) (fun w7 => rfl) ?_
    refine g_val ((v1 && v2) && v3) (.d _) rfl (gw_t rfl) (fun w8 => (v_load (gd_pos w8) G_hit rfl)) ?_
    obtain ⟨v4, hv4, h⟩ := bind_some h
    refine g_call ((v1 && v2) && v3) (bo v4) (gw_t rfl) (fun w9 => ⟨_, [(.d (i64 p1.Until)), (.d (i64 0)), (.d (i64 2199023255552))], _, _, (by simp only [gd_pos w9]; rfl), rfl, all2_refl, convoy_within_ok _ _ _  _ (cond_t w9 hv4), (.inl rfl)⟩) ?_
    refine s_val (.d _) rfl (v_and rfl (fun hc => gd_pos hc) rfl) ?_
    refine s_val (.d _) rfl rfl ?_
    refine g_val (((v1 && v2) && v3) && v4) (.ptr _ _) rfl (gw_t rfl) (fun w10 => rfl) ?_
    refine g_val (((v1 && v2) && v3) && v4) (.d _) rfl (gw_t rfl) (fun w11 => (v_load (gd_pos w11) G_hit rfl)) ?_
    obtain ⟨v5, hv5, h⟩ := bind_some h
    refine g_call (((v1 && v2) && v3) && v4) (bo v5) (gw_t rfl) (fun w12 => ⟨_, [(.d (i64 p1.End)), (.d (i64 0)), (.d (i64 1099511627776))], _, _, (by simp only [gd_pos w12]; rfl), rfl, all2_refl, convoy_within_ok _ _ _  _ (cond_t w12 hv5), (.inl rfl)⟩) ?_
    refine s_val (.d _) rfl (v_and rfl (fun hc => gd_pos hc) rfl) ?_
    refine s_val (.d _) rfl rfl ?_
    refine g_val ((((v1 && v2) && v3) && v4) && v5) (.ptr _ _) rfl (gw_t rfl) (fun w13 => rfl) ?_
    refine g_val ((((v1 && v2) && v3) && v4) && v5) (.d _) rfl (gw_t rfl) (fun w14 => (v_loadG (gd_pos w14) G_hit rfl rfl)) ?_
    obtain ⟨v6, hv6, h⟩ := bind_some h
    refine g_call ((((v1 && v2) && v3) && v4) && v5) (bo v6) (gw_t rfl) (fun w15 => ⟨_, [(.d (.agg [(i64 p1.Guess_.R), (i64 p1.Guess_.V)]))], _, _, (by simp only [gd_pos w15]; rfl), rfl, all2_refl, convoy_fairGuess_ok _  _ (cond_t w15 hv6), (.inl rfl)⟩) ?_
    refine s_val (.d _) rfl (v_and rfl (fun hc => gd_pos hc) rfl) ?_
    refine s_val (.d _) rfl rfl ?_
    refine s_nil ?_
    refine l_ret ?_
    obtain rfl := Option.some.inj h
    refine fin_ok (.inr rfl) (resD1 (res_t rfl) rf_d) ?_
    exact (.refl _)

noncomputable def convoy_numbers (p1 : Convoy) : Option Int :=
  (cond (!(p1.Guest_.ID == 0 && (p1.Guest_.S == 0 && (p1.Guest_.V == 0 && (p1.Guest_.Len == 0 && (p1.Guest_.End == 0 && (p1.Guest_.Ahead == 0 && (p1.Guest_.Guess_.R == 0 && (p1.Guest_.Guess_.V == 0 && (p1.Guest_.From == 0 && (p1.Guest_.Until == 0 && true))))))))))) (some (w64 ((p1.Mates.length : Int) + 1))) (some (p1.Mates.length : Int))).bind fun y1 => (convoy_within p1.Tick 0 1099511627776).bind fun v1 => ((cond (!(!v1)) (convoy_within p1.Gap 1 20000) (some default))).bind fun v2 => cond ((!v1) || (!v2)) (some 2) (cond ((p1.Mates.length : Int) == 0) (some 6) (cond (decide (y1 > 8)) (some 8) ((slices_ContainsFunc_Mate_Mate_convoy_numbers_1 p1.Mates).bind fun v3 => ((cond (!v3) (convoy_fairGuest p1.Guest_) (some default))).bind fun v4 => cond (v3 || (!v4)) (some 2) (some 0))))

/-- kerbstone/convoy.numbers -/
def ac_convoy_numbers : AC :=
  (.seq (.reg [⟨(some 1), .box 38 true (.t 0), none⟩, ⟨(some 2), .mv (.c (.v (.int .i64 0))), none⟩])
  (.seq (.reg [⟨(some 4), .fieldA 2 (.t 1), none⟩, ⟨(some 5), .load 1 false (.t 4), none⟩, ⟨(some 6), .len (.t 5), none⟩, ⟨(some 3), .mv (.t 6), none⟩])
  (.seq (.seq (.reg [⟨(some 7), .fieldA 3 (.t 1), none⟩, ⟨(some 8), .load 10 true (.t 7), none⟩, ⟨(some 9), .build [(.v (.int .i64 0)), (.v (.int .i64 0)), (.v (.int .i64 0)), (.v (.int .i64 0)), (.v (.int .i64 0)), (.v (.int .i64 0)), (.v (.int .i64 0)), (.v (.int .i64 0)), (.v (.int .i64 0)), (.v (.int .i64 0))] [], none⟩, ⟨(some 10), .eqA true [false, false, false, false, false, false, false, false, false, false] (.t 8) (.t 9), none⟩])
  (.cond (.t 10)
    (.reg [⟨(some 11), .mv (.t 3), none⟩, ⟨(some 12), .bin .add (.t 11) (.c (.v (.int .i64 1))), none⟩, ⟨(some 3), .mv (.t 12), none⟩])
    .skip))
  (.seq (.block 0
    (.seq (.reg [⟨(some 14), .fieldA 0 (.t 1), none⟩, ⟨(some 15), .load 1 false (.t 14), none⟩, ⟨(some 16), .call (.c (.fn (.func 95) [] [])) [(.t 15), (.c (.v (.int .i64 0))), (.c (.v (.int .i64 1099511627776)))], none⟩, ⟨(some 17), .un .not (.t 16), none⟩, ⟨(some 18), .mv (.t 17), none⟩, ⟨(some 19), .fieldA 1 (.t 1), (some (18, false))⟩, ⟨(some 20), .load 1 false (.t 19), (some (18, false))⟩, ⟨(some 21), .call (.c (.fn (.func 95) [] [])) [(.t 20), (.c (.v (.int .i64 1))), (.c (.v (.int .i64 20000)))], (some (18, false))⟩, ⟨(some 22), .un .not (.t 21), (some (18, false))⟩, ⟨(some 23), .pick (.t 18) (.c (.v (.bool true))) (.t 22), none⟩, ⟨(some 13), .mv (.t 23), none⟩])
    (.cond (.t 13)
      (.seq (.reg [⟨(some 2), .mv (.c (.v (.int .i64 2))), none⟩])
      .ret)
      (.seq (.reg [⟨(some 25), .fieldA 2 (.t 1), none⟩, ⟨(some 26), .load 1 false (.t 25), none⟩, ⟨(some 27), .len (.t 26), none⟩, ⟨(some 28), .bin .eql (.t 27) (.c (.v (.int .i64 0))), none⟩, ⟨(some 24), .mv (.t 28), none⟩])
      (.cond (.t 24)
        (.seq (.reg [⟨(some 2), .mv (.c (.v (.int .i64 6))), none⟩])
        .ret)
        (.seq (.reg [⟨(some 30), .mv (.t 3), none⟩, ⟨(some 31), .bin .gtr (.t 30) (.c (.v (.int .i64 8))), none⟩, ⟨(some 29), .mv (.t 31), none⟩])
        (.cond (.t 29)
          (.seq (.reg [⟨(some 2), .mv (.c (.v (.int .i64 8))), none⟩])
          .ret)
          (.seq (.reg [⟨(some 33), .fieldA 2 (.t 1), none⟩, ⟨(some 34), .load 1 false (.t 33), none⟩, ⟨(some 35), .call (.c (.fn (.func 77) [] [])) [(.t 34), (.c (.fn (.func 101) [] []))], none⟩, ⟨(some 36), .mv (.t 35), none⟩, ⟨(some 37), .fieldA 3 (.t 1), (some (36, false))⟩, ⟨(some 38), .load 10 true (.t 37), (some (36, false))⟩, ⟨(some 39), .call (.c (.fn (.func 103) [] [])) [(.t 38)], (some (36, false))⟩, ⟨(some 40), .un .not (.t 39), (some (36, false))⟩, ⟨(some 41), .pick (.t 36) (.c (.v (.bool true))) (.t 40), none⟩, ⟨(some 32), .mv (.t 41), none⟩])
          (.cond (.t 32)
            (.seq (.reg [⟨(some 2), .mv (.c (.v (.int .i64 2))), none⟩])
            .ret)
            .skip)))))))))
  (.seq (.reg [⟨(some 2), .mv (.c (.v (.int .i64 0))), none⟩])
  .ret)))))
theorem fn_convoy_numbers : FnOK Try.prog 73 42 [.t 2] ac_convoy_numbers := ⟨_, _, Try.func73, rfl, Try.ntmps73, by kernel_rfl, ⟨fun _ => [], by kernel_rfl⟩, by kernel_rfl⟩
set_option maxHeartbeats 4000000 in
theorem convoy_numbers_ok (p1 : Convoy) (r : Int) (h : convoy_numbers p1 = some r) : PCall Try.prog 73 [(.agg [(i64 p1.Tick), (i64 p1.Gap), (.list (List.map eMate p1.Mates)), (i64 p1.Guest_.ID), (i64 p1.Guest_.S), (i64 p1.Guest_.V), (i64 p1.Guest_.Len), (i64 p1.Guest_.End), (i64 p1.Guest_.Ahead), (i64 p1.Guest_.Guess_.R), (i64 p1.Guest_.Guess_.V), (i64 p1.Guest_.From), (i64 p1.Guest_.Until)])] (i64 r) := by
  refine l_call fn_convoy_numbers (Nat.le_of_ble_eq_true rfl) ?_
  unfold convoy_numbers at h
  unfold ac_convoy_numbers
  refine (l_sub (s0 := ⟨T [(0, (.d (.agg [(i64 p1.Tick), (i64 p1.Gap), (.list (List.map eMate p1.Mates)), (i64 p1.Guest_.ID), (i64 p1.Guest_.S), (i64 p1.Guest_.V), (i64 p1.Guest_.Len), (i64 p1.Guest_.End), (i64 p1.Guest_.Ahead), (i64 p1.Guest_.Guess_.R), (i64 p1.Guest_.Guess_.V), (i64 p1.Guest_.From), (i64 p1.Guest_.Until)])))], G []⟩) (sb_of ⟨.of rfl, trivial⟩ trivial) ?_)
  refine l_seq ?_
  refine l_reg fun u1 hu1 => ?_
  refine s_new (.ptr _ _) (.box _ _) rfl rfl ?_
  refine s_val (.d _) rfl rfl ?_
  refine s_nil ?_
  refine l_seq ?_
  refine l_reg fun u2 hu2 => ?_
  refine s_val (.ptr _ _) rfl rfl ?_
  refine s_val (.d _) rfl (v_load rfl G_hit rfl) ?_
  refine s_val (.d _) rfl (v_len rfl) ?_
  refine s_val (.d _) rfl rfl ?_
  refine s_nil ?_
  refine l_seq ?_
  refine l_seq ?_
  refine l_reg fun u3 hu3 => ?_
  refine s_val (.ptr _ _) rfl rfl ?_
  refine s_val (.d _) rfl (v_loadG rfl G_hit rfl rfl) ?_
  refine s_val (.d _) rfl rfl ?_
  refine s_val (.d _) rfl rfl ?_
  refine s_nil ?_
  obtain ⟨y1, hy1, h⟩ := bind_some h
  refine l_join (fun s => ∃ g1 : Unit, Sb ⟨T [(1, (.ptr (1, u1) 0)), (3, (.d (i64 y1)))], G [((1, u1), some (.box 38 [(.d (i64 p1.Tick)), (.d (i64 p1.Gap)), (.d (.list (List.map eMate p1.Mates))), (.d (i64 p1.Guest_.ID)), (.d (i64 p1.Guest_.S)), (.d (i64 p1.Guest_.V)), (.d (i64 p1.Guest_.Len)), (.d (i64 p1.Guest_.End)), (.d (i64 p1.Guest_.Ahead)), (.d (i64 p1.Guest_.Guess_.R)), (.d (i64 p1.Guest_.Guess_.V)), (.d (i64 p1.Guest_.From)), (.d (i64 p1.Guest_.Until))]))]⟩ s) ?_ ?_
  · skip
    refine l_cond (!(p1.Guest_.ID == 0 && (p1.Guest_.S == 0 && (p1.Guest_.V == 0 && (p1.Guest_.Len == 0 && (p1.Guest_.End == 0 && (p1.Guest_.Ahead == 0 && (p1.Guest_.Guess_.R == 0 && (p1.Guest_.Guess_.V == 0 && (p1.Guest_.From == 0 && (p1.Guest_.Until == 0 && true))))))))))) rfl (fun c1 => ?_) (fun c1 => ?_)
    · replace hy1 := cond_t c1 hy1
      refine l_reg fun u4 hu4 => ?_
      refine s_val (.d _) rfl rfl ?_
      refine s_val (.d _) rfl rfl ?_
      refine s_val (.d _) rfl rfl ?_
      refine s_nil ?_
      obtain rfl := Option.some.inj hy1
      exact l_j ⟨(), (sb_of ⟨.of rfl, .of rfl, trivial⟩ (sbG_some G_hit (.of rfl) trivial))⟩
    · replace hy1 := cond_f c1 hy1
      refine l_skip ?_
      obtain rfl := Option.some.inj hy1
      exact l_j ⟨(), (sb_of ⟨.of rfl, .of rfl, trivial⟩ (sbG_some G_hit (.of rfl) trivial))⟩
  · rintro _ ⟨g1, q1⟩
    refine l_sub q1 ?_
    refine l_seq ?_
    refine l_block ?_
    refine l_seq ?_
    refine l_reg fun u5 hu5 => ?_
    refine s_val (.ptr _ _) rfl rfl ?_
    refine s_val (.d _) rfl (v_load rfl G_hit rfl) ?_
    obtain ⟨v1, hv1, h⟩ := bind_some h
    refine s_call rfl rfl all2_refl (convoy_within_ok _ _ _  _ hv1) (.inl rfl) ?_
    refine s_val (.d _) rfl rfl ?_
    refine s_val (.d _) rfl rfl ?_
    refine g_val (!(!v1)) (.ptr _ _) rfl (gw_f rfl) (fun w1 => rfl) ?_
    refine g_val (!(!v1)) (.d _) rfl (gw_f rfl) (fun w2 => (v_load (gd_pos w2) G_hit rfl)) ?_
    obtain ⟨v2, hv2, h⟩ := bind_some h
    refine g_call (!(!v1)) (bo v2) (gw_f rfl) (fun w3 => ⟨_, [(.d (i64 p1.Gap)), (.d (i64 1)), (.d (i64 20000))], _, _, (by simp only [gd_pos w3]; rfl), rfl, all2_refl, convoy_within_ok _ _ _  _ (cond_t w3 hv2), (.inl rfl)⟩) ?_
    refine g_val (!(!v1)) (.d _) rfl (gw_f rfl) (fun w4 => (by simp only [gd_pos w4]; rfl)) ?_
    refine s_val (.d _) rfl (v_or rfl rfl (fun hc => gd_pos (not_t hc))) ?_
    refine s_val (.d _) rfl rfl ?_
    refine s_nil ?_
    refine l_cond ((!v1) || (!v2)) rfl (fun c2 => ?_) (fun c2 => ?_)
    · replace h := cond_t c2 h
      refine l_seq ?_
      refine l_reg fun u6 hu6 => ?_
      refine s_val (.d _) rfl rfl ?_
      refine s_nil ?_
      refine l_ret ?_
      obtain rfl := Option.some.inj h
      refine fin_ok (.inr rfl) (resD1 (res_t rfl) rf_d) ?_
      exact (.refl _)
    · replace h := cond_f c2 h
      refine l_seq ?_
      refine l_reg fun u7 hu7 => ?_
      refine s_val (.ptr _ _) rfl rfl ?_
      refine s_val (.d _) rfl (v_load rfl G_hit rfl) ?_
      refine s_val (.d _) rfl (v_len rfl) ?_
      refine s_val (.d _) rfl rfl ?_
      refine s_val (.d _) rfl rfl ?_
      refine s_nil ?_
      refine l_cond ((p1.Mates.length : Int) == 0) rfl (fun c3 => ?_) (fun c3 => ?_)
      · replace h := cond_t c3 h
        refine l_seq ?_
        refine l_reg fun u8 hu8 => ?_
        refine s_val (.d _) rfl rfl ?_
        refine s_nil ?_
        refine l_ret ?_
        obtain rfl := Option.some.inj h
        refine fin_ok (.inr rfl) (resD1 (res_t rfl) rf_d) ?_
        exact (.refl _)
      · replace h := cond_f c3 h
        refine l_seq ?_
        refine l_reg fun u9 hu9 => ?_
        refine s_val (.d _) rfl rfl ?_
        refine s_val (.d _) rfl rfl ?_
        refine s_val (.d _) rfl rfl ?_
        refine s_nil ?_
        refine l_cond (decide (y1 > 8)) rfl (fun c4 => ?_) (fun c4 => ?_)
        · replace h := cond_t c4 h
          refine l_seq ?_
          refine l_reg fun u10 hu10 => ?_
          refine s_val (.d _) rfl rfl ?_
          refine s_nil ?_
          refine l_ret ?_
          obtain rfl := Option.some.inj h
          refine fin_ok (.inr rfl) (resD1 (res_t rfl) rf_d) ?_
          exact (.refl _)
        · replace h := cond_f c4 h
          refine l_seq ?_
          refine l_reg fun u11 hu11 => ?_
          refine s_val (.ptr _ _) rfl rfl ?_
          refine s_val (.d _) rfl (v_load rfl G_hit rfl) ?_
          obtain ⟨v3, hv3, h⟩ := bind_some h
          refine s_call rfl rfl all2_refl (slices_ContainsFunc_Mate_Mate_convoy_numbers_1_ok _  _ hv3) (.inl rfl) ?_
          refine s_val (.d _) rfl rfl ?_
          refine g_val (!v3) (.ptr _ _) rfl (gw_f rfl) (fun w5 => rfl) ?_
          refine g_val (!v3) (.d _) rfl (gw_f rfl) (fun w6 => (v_loadG (gd_pos w6) G_hit rfl rfl)) ?_
          obtain ⟨v4, hv4, h⟩ := bind_some h
          refine g_call (!v3) (bo v4) (gw_f rfl) (fun w7 => ⟨_, [(.d (.agg [(i64 p1.Guest_.ID), (i64 p1.Guest_.S), (i64 p1.Guest_.V), (i64 p1.Guest_.Len), (i64 p1.Guest_.End), (i64 p1.Guest_.Ahead), (i64 p1.Guest_.Guess_.R), (i64 p1.Guest_.Guess_.V), (i64 p1.Guest_.From), (i64 p1.Guest_.Until)]))], _, _, (by simp only [gd_pos w7]; rfl), rfl, all2_refl, convoy_fairGuest_ok _  _ (cond_t w7 hv4), (.inl rfl)⟩) ?_
          refine g_val (!v3) (.d _) rfl (gw_f rfl) (fun w8 => (by simp only [gd_pos w8]; rfl)) ?_
          refine s_val (.d _) rfl (v_or rfl rfl (fun hc => gd_pos (not_t hc))) ?_
          refine s_val (.d _) rfl rfl ?_
          refine s_nil ?_
          refine l_cond (v3 || (!v4)) rfl (fun c5 => ?_) (fun c5 => ?_)
          · replace h := cond_t c5 h
            refine l_seq ?_
            refine l_sub (s0 := ⟨T [], G []⟩) (sb_of trivial trivial) ?_
            refine l_reg fun u12 hu12 => ?_
            refine s_val (.d _) rfl rfl ?_
            refine s_nil ?_
            refine l_ret ?_
            obtain rfl := Option.some.inj h
            refine fin_ok (.inr rfl) (resD1 (res_t rfl) rf_d) ?_
            exact (.refl _)
          · replace h := cond_f c5 h
            refine l_skip ?_
            refine l_end ?_
            refine l_seq ?_
            refine l_sub (s0 := ⟨T [], G []⟩) (sb_of trivial trivial) ?_
            refine l_reg fun u13 hu13 => ?_
            refine s_val (.d _) rfl rfl ?_
            refine s_nil ?_
            refine l_ret ?_
            obtain rfl := Option.some.inj h
            refine fin_ok (.inr rfl) (resD1 (res_t rfl) rf_d) ?_
            exact (.refl _)

noncomputable def convoy_rear (p1 : Mate) : Option Int :=
  some (w64 (p1.S - p1.Len))

/-- kerbstone/convoy.rear -/
def ac_convoy_rear : AC :=
  (.seq (.reg [⟨(some 1), .box 65 true (.t 0), none⟩, ⟨(some 2), .mv (.c (.v (.int .i64 0))), none⟩])
  (.seq (.reg [⟨(some 3), .fieldA 1 (.t 1), none⟩, ⟨(some 4), .load 1 false (.t 3), none⟩, ⟨(some 5), .fieldA 3 (.t 1), none⟩, ⟨(some 6), .load 1 false (.t 5), none⟩, ⟨(some 7), .bin .sub (.t 4) (.t 6), none⟩, ⟨(some 2), .mv (.t 7), none⟩])
  .ret))
theorem fn_convoy_rear : FnOK Try.prog 67 8 [.t 2] ac_convoy_rear := ⟨_, _, Try.func67, rfl, Try.ntmps67, by kernel_rfl, ⟨fun _ => [], by kernel_rfl⟩, by kernel_rfl⟩
theorem convoy_rear_ok (p1 : Mate) (r : Int) (h : convoy_rear p1 = some r) : PCall Try.prog 67 [(.agg [(i64 p1.ID), (i64 p1.S), (i64 p1.V), (i64 p1.Len), (i64 p1.Ahead), (i64 p1.Guess_.R), (i64 p1.Guess_.V), (bo p1.Trust), (i64 p1.Ward), (i64 p1.WardGuess.R), (i64 p1.WardGuess.V), (i64 p1.Until)])] (i64 r) := by
  refine l_call fn_convoy_rear (Nat.le_of_ble_eq_true rfl) ?_
  unfold convoy_rear at h
  unfold ac_convoy_rear
  refine (l_sub (s0 := ⟨T [(0, (.d (.agg [(i64 p1.ID), (i64 p1.S), (i64 p1.V), (i64 p1.Len), (i64 p1.Ahead), (i64 p1.Guess_.R), (i64 p1.Guess_.V), (bo p1.Trust), (i64 p1.Ward), (i64 p1.WardGuess.R), (i64 p1.WardGuess.V), (i64 p1.Until)])))], G []⟩) (sb_of ⟨.of rfl, trivial⟩ trivial) ?_)
  refine l_seq ?_
  refine l_reg fun u1 hu1 => ?_
  refine s_new (.ptr _ _) (.box _ _) rfl rfl ?_
  refine s_val (.d _) rfl rfl ?_
  refine s_nil ?_
  refine l_seq ?_
  refine l_reg fun u2 hu2 => ?_
  refine s_val (.ptr _ _) rfl rfl ?_
  refine s_val (.d _) rfl (v_load rfl G_hit rfl) ?_
  refine s_val (.ptr _ _) rfl rfl ?_
  refine s_val (.d _) rfl (v_load rfl G_hit rfl) ?_
  refine s_val (.d _) rfl rfl ?_
  refine s_val (.d _) rfl rfl ?_
  refine s_nil ?_
  refine l_ret ?_
  obtain rfl := Option.some.inj h
  refine fin_ok (.inr rfl) (resD1 (res_t rfl) rf_d) ?_
  exact (.refl _)

noncomputable def convoy_orders_l2 (p1 : Convoy) (x2 : Int) : Option (Stp Int (Sum Unit Int)) :=
  cond (decide (x2 < (p1.Mates.length : Int))) ((geti p1.Mates x2).bind fun v2 => ((cond (decide (x2 > 0)) (geti p1.Mates (w64 (x2 - 1))) (some default))).bind fun v3 => ((cond (decide (x2 > 0)) (convoy_rear v3) (some default))).bind fun v4 => cond ((decide (x2 > 0)) && (decide (v2.S ≥ v4))) (some (.out (.inr 11))) (some (.go (w64 (x2 + 1))))) (some (.out (.inl ())))
noncomputable def convoy_orders_l1 (p1 : Convoy) (x1 : (Int × (List Int))) : Option (Stp (Int × (List Int)) (Sum Unit Int)) :=
  cond (decide (x1.1 < (p1.Mates.length : Int))) ((geti p1.Mates x1.1).bind fun v1 => cond (x1.2.contains v1.ID) (some (.out (.inr 9))) (some (.go ((w64 (x1.1 + 1)), (insm x1.2 v1.ID))))) (some (.out (.inl ())))
noncomputable def convoy_orders (p1 : Convoy) : Option Int :=
  thenS (loop (convoy_orders_l1 p1) (0, (insm ([] : List Int) p1.Guest_.ID))) (fun _ => thenS (loop (convoy_orders_l2 p1) 0) (fun _ => some 0) (fun r => some r)) (fun r => some r)

/-- kerbstone/convoy.orders -/
def ac_convoy_orders : AC :=
  (.seq (.reg [⟨(some 1), .box 38 true (.t 0), none⟩, ⟨(some 2), .mv (.c (.v (.int .i64 0))), none⟩])
  (.seq (.reg [⟨(some 8), .mkmap, none⟩, ⟨(some 9), .fieldA 3 (.t 1), none⟩, ⟨(some 10), .fieldA 0 (.t 9), none⟩, ⟨(some 11), .load 1 false (.t 10), none⟩, ⟨none, .mins (.t 8) (.t 11), none⟩, ⟨(some 12), .mv (.t 8), none⟩, ⟨(some 3), .mv (.t 12), none⟩])
  (.seq (.seq (.reg [⟨(some 13), .fieldA 2 (.t 1), none⟩, ⟨(some 14), .load 1 false (.t 13), none⟩, ⟨(some 15), .len (.t 14), none⟩, ⟨(some 16), .mv (.c (.v (.int .i64 0))), none⟩])
  (.block 0
    (.loop
      (.seq (.reg [⟨(some 17), .bin .lss (.t 16) (.t 15), none⟩])
      (.seq (.cond (.t 17)
        .skip
        (.exit 0))
      (.seq (.block 1
        (.seq (.reg [⟨(some 18), .idxS 12 (.t 14) (.t 16), none⟩, ⟨(some 19), .load 12 true (.t 18), none⟩, ⟨(some 5), .alloc 65 [(.v (.int .i64 0)), (.v (.int .i64 0)), (.v (.int .i64 0)), (.v (.int .i64 0)), (.v (.int .i64 0)), (.v (.int .i64 0)), (.v (.int .i64 0)), (.v (.bool false)), (.v (.int .i64 0)), (.v (.int .i64 0)), (.v (.int .i64 0)), (.v (.int .i64 0))], none⟩, ⟨none, .store 12 (.t 5) (.t 19), none⟩])
        (.seq (.seq (.reg [⟨(some 20), .mv (.t 3), none⟩, ⟨(some 21), .fieldA 0 (.t 5), none⟩, ⟨(some 22), .load 1 false (.t 21), none⟩, ⟨(some 23), .mlook (.t 20) (.t 22), none⟩])
        (.cond (.t 23)
          (.seq (.reg [⟨(some 2), .mv (.c (.v (.int .i64 9))), none⟩])
          .ret)
          .skip))
        (.reg [⟨(some 24), .mv (.t 3), none⟩, ⟨(some 25), .fieldA 0 (.t 5), none⟩, ⟨(some 26), .load 1 false (.t 25), none⟩, ⟨none, .mins (.t 24) (.t 26), none⟩]))))
      (.reg [⟨(some 27), .bin .add (.t 16) (.c (.v (.int .i64 1))), none⟩, ⟨(some 16), .mv (.t 27), none⟩])))))))
  (.seq (.seq (.reg [⟨(some 28), .fieldA 2 (.t 1), none⟩, ⟨(some 29), .load 1 false (.t 28), none⟩, ⟨(some 30), .len (.t 29), none⟩, ⟨(some 31), .mv (.c (.v (.int .i64 0))), none⟩])
  (.block 2
    (.loop
      (.seq (.reg [⟨(some 32), .bin .lss (.t 31) (.t 30), none⟩])
      (.seq (.cond (.t 32)
        .skip
        (.exit 2))
      (.seq (.block 3
        (.seq (.reg [⟨(some 33), .mv (.t 31), none⟩, ⟨(some 34), .idxS 12 (.t 29) (.t 31), none⟩, ⟨(some 35), .load 12 true (.t 34), none⟩, ⟨(some 7), .alloc 65 [(.v (.int .i64 0)), (.v (.int .i64 0)), (.v (.int .i64 0)), (.v (.int .i64 0)), (.v (.int .i64 0)), (.v (.int .i64 0)), (.v (.int .i64 0)), (.v (.bool false)), (.v (.int .i64 0)), (.v (.int .i64 0)), (.v (.int .i64 0)), (.v (.int .i64 0))], none⟩, ⟨(some 6), .mv (.t 33), none⟩, ⟨none, .store 12 (.t 7) (.t 35), none⟩])
        (.seq (.draw [⟨(some 36), .mv (.t 6), none⟩, ⟨(some 37), .bin .gtr (.t 36) (.c (.v (.int .i64 0))), none⟩, ⟨(some 38), .mv (.t 37), none⟩, ⟨(some 39), .fieldA 1 (.t 7), (some (38, true))⟩, ⟨(some 40), .load 1 false (.t 39), (some (38, true))⟩, ⟨(some 41), .fieldA 2 (.t 1), (some (38, true))⟩, ⟨(some 42), .load 1 false (.t 41), (some (38, true))⟩, ⟨(some 43), .mv (.t 6), (some (38, true))⟩, ⟨(some 44), .bin .sub (.t 43) (.c (.v (.int .i64 1))), (some (38, true))⟩, ⟨(some 45), .idxS 12 (.t 42) (.t 44), (some (38, true))⟩, ⟨(some 46), .load 12 true (.t 45), (some (38, true))⟩, ⟨(some 47), .call (.c (.fn (.func 67) [] [])) [(.t 46)], (some (38, true))⟩, ⟨(some 48), .bin .geq (.t 40) (.t 47), (some (38, true))⟩, ⟨(some 49), .pick (.t 38) (.t 48) (.c (.v (.bool false))), none⟩] [])
        (.cond (.t 49)
          (.seq (.reg [⟨(some 2), .mv (.c (.v (.int .i64 11))), none⟩])
          .ret)
          .skip))))
      (.reg [⟨(some 50), .bin .add (.t 31) (.c (.v (.int .i64 1))), none⟩, ⟨(some 31), .mv (.t 50), none⟩])))))))
  (.seq (.reg [⟨(some 2), .mv (.c (.v (.int .i64 0))), none⟩])
  .ret)))))
theorem fn_convoy_orders : FnOK Try.prog 74 51 [.t 2] ac_convoy_orders := ⟨_, _, Try.func74, rfl, Try.ntmps74, by kernel_rfl, ⟨fun _ => [], by kernel_rfl⟩, by kernel_rfl⟩
set_option maxHeartbeats 4000000 in
theorem convoy_orders_ok (p1 : Convoy) (r : Int) (h : convoy_orders p1 = some r) : PCall Try.prog 74 [(.agg [(i64 p1.Tick), (i64 p1.Gap), (.list (List.map eMate p1.Mates)), (i64 p1.Guest_.ID), (i64 p1.Guest_.S), (i64 p1.Guest_.V), (i64 p1.Guest_.Len), (i64 p1.Guest_.End), (i64 p1.Guest_.Ahead), (i64 p1.Guest_.Guess_.R), (i64 p1.Guest_.Guess_.V), (i64 p1.Guest_.From), (i64 p1.Guest_.Until)])] (i64 r) := by
  refine l_call fn_convoy_orders (Nat.le_of_ble_eq_true rfl) ?_
  unfold convoy_orders at h
  unfold ac_convoy_orders
  refine (l_sub (s0 := ⟨T [(0, (.d (.agg [(i64 p1.Tick), (i64 p1.Gap), (.list (List.map eMate p1.Mates)), (i64 p1.Guest_.ID), (i64 p1.Guest_.S), (i64 p1.Guest_.V), (i64 p1.Guest_.Len), (i64 p1.Guest_.End), (i64 p1.Guest_.Ahead), (i64 p1.Guest_.Guess_.R), (i64 p1.Guest_.Guess_.V), (i64 p1.Guest_.From), (i64 p1.Guest_.Until)])))], G []⟩) (sb_of ⟨.of rfl, trivial⟩ trivial) ?_)
  refine l_seq ?_
  refine l_reg fun u1 hu1 => ?_
  refine s_new (.ptr _ _) (.box _ _) rfl rfl ?_
  refine s_val (.d _) rfl rfl ?_
  refine s_nil ?_
  refine l_seq ?_
  refine l_reg fun u2 hu2 => ?_
  refine s_new (.sl _) (.mp _) rfl rfl ?_
  refine s_val (.ptr _ _) rfl rfl ?_
  refine s_val (.ptr _ _) rfl rfl ?_
  refine s_val (.d _) rfl (v_load rfl (G_skip rfl G_hit) rfl) ?_
  refine s_mins rfl rfl G_hit ?_
  refine s_val (.sl _) rfl rfl ?_
  refine s_val (.sl _) rfl rfl ?_
  refine s_nil ?_
  refine l_seq ?_
  refine l_seq ?_
  refine l_reg fun u3 hu3 => ?_
  refine s_val (.ptr _ _) rfl rfl ?_
  refine s_val (.d _) rfl (v_load rfl (G_skip rfl (G_skip rfl G_hit)) rfl) ?_
  refine s_val (.d _) rfl (v_len rfl) ?_
  refine s_val (.d _) rfl rfl ?_
  refine s_nil ?_
  obtain ⟨z1, hz1, h⟩ := thenS_some h
  refine l_join (fun s => ∃ (y1 : Unit) (g1 : Unit), z1 = .inl y1 ∧ Sb ⟨T [(1, (.ptr (1, u1) 0))], G [((1, u1), some (.box 38 [(.d (i64 p1.Tick)), (.d (i64 p1.Gap)), (.d (.list (List.map eMate p1.Mates))), (.d (i64 p1.Guest_.ID)), (.d (i64 p1.Guest_.S)), (.d (i64 p1.Guest_.V)), (.d (i64 p1.Guest_.Len)), (.d (i64 p1.Guest_.End)), (.d (i64 p1.Guest_.Ahead)), (.d (i64 p1.Guest_.Guess_.R)), (.d (i64 p1.Guest_.Guess_.V)), (.d (i64 p1.Guest_.From)), (.d (i64 p1.Guest_.Until))]))]⟩ s) ?_ ?_
  · skip
    refine l_block ?_
    refine l_loop (convoy_orders_l1 p1) (fun (x1 : (Int × (List Int))) (g2 : Unit) => ⟨T [(1, (.ptr (1, u1) 0)), (3, (.sl (8, u2))), (14, (.d (.list (List.map eMate p1.Mates)))), (15, (.d (i64 (p1.Mates.length : Int)))), (16, (.d (i64 x1.1)))], G [((1, u1), some (.box 38 [(.d (i64 p1.Tick)), (.d (i64 p1.Gap)), (.d (.list (List.map eMate p1.Mates))), (.d (i64 p1.Guest_.ID)), (.d (i64 p1.Guest_.S)), (.d (i64 p1.Guest_.V)), (.d (i64 p1.Guest_.Len)), (.d (i64 p1.Guest_.End)), (.d (i64 p1.Guest_.Ahead)), (.d (i64 p1.Guest_.Guess_.R)), (.d (i64 p1.Guest_.Guess_.V)), (.d (i64 p1.Guest_.From)), (.d (i64 p1.Guest_.Until))])), ((8, u2), some (.mp x1.2))]⟩) (0, (insm ([] : List Int) p1.Guest_.ID)) () _ hz1 (sb_of ⟨.of rfl, .of rfl, .of rfl, .of rfl, .of rfl, trivial⟩ (sbG_some (G_skip rfl (G_skip rfl G_hit)) (.of rfl) (sbG_some G_hit (.of rfl) trivial))) ?_
    intro x1 g2 z2 hz2 ez2
    unfold convoy_orders_l1 at hz2
    refine l_seq ?_
    refine l_reg fun u4 hu4 => ?_
    refine s_val (.d _) rfl rfl ?_
    refine s_nil ?_
    refine l_seq ?_
    refine l_cond (decide (x1.1 < (p1.Mates.length : Int))) rfl (fun c1 => ?_) (fun c1 => ?_)
    · replace hz2 := cond_t c1 hz2
      refine l_skip ?_
      refine l_seq ?_
      refine l_block ?_
      refine l_seq ?_
      refine l_reg fun u5 hu5 => ?_
      obtain ⟨v1, hv1, hz2⟩ := bind_some hz2
      refine s_val (.d _) rfl (v_idx rfl rfl hv1 rfl) ?_
      refine s_val (.d _) rfl (v_loadLG rfl hv1 rfl rfl) ?_
      refine s_new (.ptr _ _) (.box _ _) rfl rfl ?_
      refine s_store _ _ _ _ _ rfl rfl rfl G_hit (Nat.le_of_ble_eq_true rfl) [(.d (i64 v1.ID)), (.d (i64 v1.S)), (.d (i64 v1.V)), (.d (i64 v1.Len)), (.d (i64 v1.Ahead)), (.d (i64 v1.Guess_.R)), (.d (i64 v1.Guess_.V)), (.d (bo v1.Trust)), (.d (i64 v1.Ward)), (.d (i64 v1.WardGuess.R)), (.d (i64 v1.WardGuess.V)), (.d (i64 v1.Until))] rfl ?_
      refine s_nil ?_
      refine l_seq ?_
      refine l_seq ?_
      refine l_reg fun u6 hu6 => ?_
      refine s_val (.sl _) rfl rfl ?_
      refine s_val (.ptr _ _) rfl rfl ?_
      refine s_val (.d _) rfl (v_load rfl G_hit rfl) ?_
      refine s_val (.d _) rfl (v_mlook rfl rfl (G_skip rfl (G_skip rfl (G_skip rfl G_hit)))) ?_
      refine s_nil ?_
      refine l_cond (x1.2.contains v1.ID) rfl (fun c2 => ?_) (fun c2 => ?_)
      · replace hz2 := cond_t c2 hz2
        refine l_seq ?_
        refine l_reg fun u7 hu7 => ?_
        refine s_val (.d _) rfl rfl ?_
        refine s_nil ?_
        refine l_ret ?_
        obtain rfl := Option.some.inj hz2
        obtain rfl := ez2 _ rfl
        refine ⟨nofun, awl_ret ?_⟩
        rw [Sum.elim_inr] at h
        obtain rfl := Option.some.inj h
        refine fin_ok (.inr rfl) (resD1 (res_t rfl) rf_d) ?_
        exact (.refl _)
      · replace hz2 := cond_f c2 hz2
        refine l_skip ?_
        refine l_reg fun u8 hu8 => ?_
        refine s_val (.sl _) rfl rfl ?_
        refine s_val (.ptr _ _) rfl rfl ?_
        refine s_val (.d _) rfl (v_load rfl G_hit rfl) ?_
        refine s_mins rfl rfl (G_skip rfl (G_skip rfl (G_skip rfl G_hit))) ?_
        refine s_nil ?_
        refine l_end ?_
        refine l_reg fun u9 hu9 => ?_
        refine s_val (.d _) rfl rfl ?_
        refine s_val (.d _) rfl rfl ?_
        refine s_nil ?_
        refine l_nil ?_
        obtain rfl := Option.some.inj hz2
        exact ⟨rfl, (), (sb_of ⟨.of rfl, .of rfl, .of rfl, .of rfl, .of rfl, trivial⟩ (sbG_some (G_skip rfl (G_skip rfl (G_skip rfl G_hit))) (.of rfl) (sbG_some G_hit (.of rfl) trivial)))⟩
    · replace hz2 := cond_f c1 hz2
      refine l_exitN rfl ?_
      obtain rfl := Option.some.inj hz2
      obtain rfl := ez2 _ rfl
      refine ⟨nofun, awl_pop rfl (l_j ?_)⟩
      exact ⟨_, (), rfl, (sb_of ⟨.of rfl, trivial⟩ (sbG_some G_hit (.of rfl) trivial))⟩
  · rintro _ ⟨y1, g1, rfl, q1⟩
    rw [Sum.elim_inl] at h
    refine l_sub q1 ?_
    refine l_seq ?_
    refine l_seq ?_
    refine l_reg fun u10 hu10 => ?_
    refine s_val (.ptr _ _) rfl rfl ?_
    refine s_val (.d _) rfl (v_load rfl G_hit rfl) ?_
    refine s_val (.d _) rfl (v_len rfl) ?_
    refine s_val (.d _) rfl rfl ?_
    refine s_nil ?_
    obtain ⟨z3, hz3, h⟩ := thenS_some h
    refine l_join (fun s => ∃ (y2 : Unit) (g3 : Unit), z3 = .inl y2 ∧ Sb ⟨T [], G []⟩ s) ?_ ?_
    · skip
      refine l_block ?_
      refine l_loop (convoy_orders_l2 p1) (fun (x2 : Int) (g4 : Unit) => ⟨T [(1, (.ptr (1, u1) 0)), (29, (.d (.list (List.map eMate p1.Mates)))), (30, (.d (i64 (p1.Mates.length : Int)))), (31, (.d (i64 x2)))], G [((1, u1), some (.box 38 [(.d (i64 p1.Tick)), (.d (i64 p1.Gap)), (.d (.list (List.map eMate p1.Mates))), (.d (i64 p1.Guest_.ID)), (.d (i64 p1.Guest_.S)), (.d (i64 p1.Guest_.V)), (.d (i64 p1.Guest_.Len)), (.d (i64 p1.Guest_.End)), (.d (i64 p1.Guest_.Ahead)), (.d (i64 p1.Guest_.Guess_.R)), (.d (i64 p1.Guest_.Guess_.V)), (.d (i64 p1.Guest_.From)), (.d (i64 p1.Guest_.Until))]))]⟩) 0 () _ hz3 (sb_of ⟨.of rfl, .of rfl, .of rfl, .of rfl, trivial⟩ (sbG_some G_hit (.of rfl) trivial)) ?_
      intro x2 g4 z4 hz4 ez4
      unfold convoy_orders_l2 at hz4
      refine l_seq ?_
      refine l_reg fun u11 hu11 => ?_
      refine s_val (.d _) rfl rfl ?_
      refine s_nil ?_
      refine l_seq ?_
      refine l_cond (decide (x2 < (p1.Mates.length : Int))) rfl (fun c3 => ?_) (fun c3 => ?_)
      · replace hz4 := cond_t c3 hz4
        refine l_skip ?_
        refine l_seq ?_
        refine l_block ?_
        refine l_seq ?_
        refine l_reg fun u12 hu12 => ?_
        refine s_val (.d _) rfl rfl ?_
        obtain ⟨v2, hv2, hz4⟩ := bind_some hz4
        refine s_val (.d _) rfl (v_idx rfl rfl hv2 rfl) ?_
        refine s_val (.d _) rfl (v_loadLG rfl hv2 rfl rfl) ?_
        refine s_new (.ptr _ _) (.box _ _) rfl rfl ?_
        refine s_val (.d _) rfl rfl ?_
        refine s_store _ _ _ _ _ rfl rfl rfl G_hit (Nat.le_of_ble_eq_true rfl) [(.d (i64 v2.ID)), (.d (i64 v2.S)), (.d (i64 v2.V)), (.d (i64 v2.Len)), (.d (i64 v2.Ahead)), (.d (i64 v2.Guess_.R)), (.d (i64 v2.Guess_.V)), (.d (bo v2.Trust)), (.d (i64 v2.Ward)), (.d (i64 v2.WardGuess.R)), (.d (i64 v2.WardGuess.V)), (.d (i64 v2.Until))] rfl ?_
        refine s_nil ?_
        refine l_seq ?_
        refine l_draw rfl fun u13 hu13 => ?_
        refine s_val (.d _) rfl rfl ?_
        refine s_val (.d _) rfl rfl ?_
        refine s_val (.d _) rfl rfl ?_
        refine g_val (decide (x2 > 0)) (.ptr _ _) rfl (gw_t rfl) (fun w1 => rfl) ?_
        refine g_val (decide (x2 > 0)) (.d _) rfl (gw_t rfl) (fun w2 => (v_load (gd_pos w2) G_hit rfl)) ?_
        refine g_val (decide (x2 > 0)) (.ptr _ _) rfl (gw_t rfl) (fun w3 => rfl) ?_
        refine g_val (decide (x2 > 0)) (.d _) rfl (gw_t rfl) (fun w4 => (v_load (gd_pos w4) (G_skip rfl (G_skip rfl G_hit)) rfl)) ?_
        refine g_val (decide (x2 > 0)) (.d _) rfl (gw_t rfl) (fun w5 => rfl) ?_
        refine g_val (decide (x2 > 0)) (.d _) rfl (gw_t rfl) (fun w6 => (v_bin (gd_pos w6) rfl rfl)) ?_
        obtain ⟨v3, hv3, hz4⟩ := bind_some hz4
        refine g_val (decide (x2 > 0)) (.d _) rfl (gw_t rfl) (fun w7 => (v_idx (gd_pos w7) (gd_pos w7) (cond_t w7 hv3) rfl)) ?_
        refine g_val (decide (x2 > 0)) (.d _) rfl (gw_t rfl) (fun w8 => (v_loadLG (gd_pos w8) (cond_t w8 hv3) rfl rfl)) ?_
        obtain ⟨v4, hv4, hz4⟩ := bind_some hz4
        refine g_call (decide (x2 > 0)) (i64 v4) (gw_t rfl) (fun w9 => ⟨_, [(.d (.agg [(i64 v3.ID), (i64 v3.S), (i64 v3.V), (i64 v3.Len), (i64 v3.Ahead), (i64 v3.Guess_.R), (i64 v3.Guess_.V), (bo v3.Trust), (i64 v3.Ward), (i64 v3.WardGuess.R), (i64 v3.WardGuess.V), (i64 v3.Until)]))], _, _, (by simp only [gd_pos w9]; rfl), rfl, all2_refl, convoy_rear_ok _  _ (cond_t w9 hv4), (.inl rfl)⟩) ?_
        refine g_val (decide (x2 > 0)) (.d _) rfl (gw_t rfl) (fun w10 => (v_bin (gd_pos w10) (gd_pos w10) rfl)) ?_
        refine s_val (.d _) rfl (v_and rfl (fun hc => gd_pos hc) rfl) ?_
        refine s_nil ?_
        refine l_cond ((decide (x2 > 0)) && (decide (v2.S ≥ v4))) rfl (fun c4 => ?_) (fun c4 => ?_)
        · replace hz4 := cond_t c4 hz4
          refine l_seq ?_
          refine l_sub (s0 := ⟨T [], G []⟩) (sb_of trivial trivial) ?_
          refine l_reg fun u14 hu14 => ?_
          refine s_val (.d _) rfl rfl ?_
          refine s_nil ?_
          refine l_ret ?_
          obtain rfl := Option.some.inj hz4
          obtain rfl := ez4 _ rfl
          refine ⟨nofun, awl_ret ?_⟩
          rw [Sum.elim_inr] at h
          obtain rfl := Option.some.inj h
          refine fin_ok (.inr rfl) (resD1 (res_t rfl) rf_d) ?_
          exact (.refl _)
        · replace hz4 := cond_f c4 hz4
          refine l_skip ?_
          refine l_end ?_
          refine l_sub (s0 := ⟨T [(1, (.ptr (1, u1) 0)), (29, (.d (.list (List.map eMate p1.Mates)))), (30, (.d (i64 (p1.Mates.length : Int)))), (31, (.d (i64 x2))), (39, (gd (decide (x2 > 0)) true (.ptr (7, u12) 1))), (40, (gd (decide (x2 > 0)) true (.d (i64 v2.S)))), (41, (gd (decide (x2 > 0)) true (.ptr (1, u1) 2))), (42, (gd (decide (x2 > 0)) true (.d (.list (List.map eMate p1.Mates))))), (43, (gd (decide (x2 > 0)) true (.d (i64 x2)))), (44, (gd (decide (x2 > 0)) true (.d (i64 (w64 (x2 - 1)))))), (45, (gd (decide (x2 > 0)) true (.d (.lp (List.map eMate p1.Mates) ((w64 (x2 - 1))).toNat 0)))), (46, (gd (decide (x2 > 0)) true (.d (.agg [(i64 v3.ID), (i64 v3.S), (i64 v3.V), (i64 v3.Len), (i64 v3.Ahead), (i64 v3.Guess_.R), (i64 v3.Guess_.V), (bo v3.Trust), (i64 v3.Ward), (i64 v3.WardGuess.R), (i64 v3.WardGuess.V), (i64 v3.Until)])))), (47, (gd (decide (x2 > 0)) true (.d (i64 v4)))), (48, (gd (decide (x2 > 0)) true (.d (bo (decide (v2.S ≥ v4))))))], G [((1, u1), some (.box 38 [(.d (i64 p1.Tick)), (.d (i64 p1.Gap)), (.d (.list (List.map eMate p1.Mates))), (.d (i64 p1.Guest_.ID)), (.d (i64 p1.Guest_.S)), (.d (i64 p1.Guest_.V)), (.d (i64 p1.Guest_.Len)), (.d (i64 p1.Guest_.End)), (.d (i64 p1.Guest_.Ahead)), (.d (i64 p1.Guest_.Guess_.R)), (.d (i64 p1.Guest_.Guess_.V)), (.d (i64 p1.Guest_.From)), (.d (i64 p1.Guest_.Until))])), ((7, u12), some (.box 65 [(.d (i64 v2.ID)), (.d (i64 v2.S)), (.d (i64 v2.V)), (.d (i64 v2.Len)), (.d (i64 v2.Ahead)), (.d (i64 v2.Guess_.R)), (.d (i64 v2.Guess_.V)), (.d (bo v2.Trust)), (.d (i64 v2.Ward)), (.d (i64 v2.WardGuess.R)), (.d (i64 v2.WardGuess.V)), (.d (i64 v2.Until))]))]⟩) (sb_of ⟨.of rfl, .of rfl, .of rfl, .of rfl, .of rfl, .of rfl, .of rfl, .of rfl, .of rfl, .of rfl, .of rfl, .of rfl, .of rfl, .of rfl, trivial⟩ (sbG_some (G_skip rfl (G_skip rfl G_hit)) (.of rfl) (sbG_some G_hit (.of rfl) trivial))) ?_
          refine l_reg fun u15 hu15 => ?_
          refine s_val (.d _) rfl rfl ?_
          refine s_val (.d _) rfl rfl ?_
          refine s_nil ?_
          refine l_nil ?_
          obtain rfl := Option.some.inj hz4
          exact ⟨rfl, (), (sb_of ⟨.of rfl, .of rfl, .of rfl, .of rfl, trivial⟩ (sbG_some G_hit (.of rfl) trivial))⟩
      · replace hz4 := cond_f c3 hz4
        refine l_exitN rfl ?_
        obtain rfl := Option.some.inj hz4
        obtain rfl := ez4 _ rfl
        refine ⟨nofun, awl_pop rfl (l_j ?_)⟩
        exact ⟨_, (), rfl, (sb_of trivial trivial)⟩
    · rintro _ ⟨y2, g3, rfl, q2⟩
      rw [Sum.elim_inl] at h
      refine l_sub q2 ?_
      refine l_seq ?_
      refine l_reg fun u16 hu16 => ?_
      refine s_val (.d _) rfl rfl ?_
      refine s_nil ?_
      refine l_ret ?_
      obtain rfl := Option.some.inj h
      refine fin_ok (.inr rfl) (resD1 (res_t rfl) rf_d) ?_
      exact (.refl _)

noncomputable def convoy_sane_1 (p1 : Int) : Option Bool :=
  (convoy_within p1 (-4398046511104) 4398046511104).bind fun v1 => some (!v1)

/-- kerbstone/convoy.sane$1 -/
def ac_convoy_sane_1 : AC :=
  (.seq (.reg [⟨(some 2), .mv (.c (.v (.bool false))), none⟩])
  (.seq (.reg [⟨(some 3), .mv (.t 0), none⟩, ⟨(some 4), .call (.c (.fn (.func 95) [] [])) [(.t 3), (.c (.v (.int .i64 (-4398046511104)))), (.c (.v (.int .i64 4398046511104)))], none⟩, ⟨(some 5), .un .not (.t 4), none⟩, ⟨(some 2), .mv (.t 5), none⟩])
  .ret))
theorem fn_convoy_sane_1 : FnOK Try.prog 94 6 [.t 2] ac_convoy_sane_1 := ⟨_, _, Try.func94, rfl, Try.ntmps94, by kernel_rfl, ⟨fun _ => [], by kernel_rfl⟩, by kernel_rfl⟩
theorem convoy_sane_1_ok (p1 : Int) (r : Bool) (h : convoy_sane_1 p1 = some r) : PCall Try.prog 94 [(i64 p1)] (bo r) := by
  refine l_call fn_convoy_sane_1 (Nat.le_of_ble_eq_true rfl) ?_
  unfold convoy_sane_1 at h
  unfold ac_convoy_sane_1
  refine (l_sub (s0 := ⟨T [(0, (.d (i64 p1)))], G []⟩) (sb_of ⟨.of rfl, trivial⟩ trivial) ?_)
  refine l_seq ?_
  refine l_reg fun u1 hu1 => ?_
  refine s_val (.d _) rfl rfl ?_
  refine s_nil ?_
  refine l_seq ?_
  refine l_reg fun u2 hu2 => ?_
  refine s_val (.d _) rfl rfl ?_
  obtain ⟨v1, hv1, h⟩ := bind_some h
  refine s_call rfl rfl all2_refl (convoy_within_ok _ _ _  _ hv1) (.inl rfl) ?_
  refine s_val (.d _) rfl rfl ?_
  refine s_val (.d _) rfl rfl ?_
  refine s_nil ?_
  refine l_ret ?_
  obtain rfl := Option.some.inj h
  refine fin_ok (.inr rfl) (resD1 (res_t rfl) rf_d) ?_
  exact (.refl _)

noncomputable def slices_IndexFunc_int64_int64_convoy_sane_1_l1 (p1 : (List Int)) (x1 : Int) : Option (Stp Int (Sum Unit Int)) :=
  cond (decide (x1 < (p1.length : Int))) ((geti p1 x1).bind fun v1 => (convoy_sane_1 v1).bind fun v2 => cond v2 (some (.out (.inr x1))) (some (.go (w64 (x1 + 1))))) (some (.out (.inl ())))
noncomputable def slices_IndexFunc_int64_int64_convoy_sane_1 (p1 : (List Int)) : Option Int :=
  thenS (loop (slices_IndexFunc_int64_int64_convoy_sane_1_l1 p1) 0) (fun _ => some (-1)) (fun r => some r)

/-- slices.IndexFunc[[]int64,int64] -/
def ac_slices_IndexFunc_int64_int64_convoy_sane_1 : AC :=
  (.seq (.reg [⟨(some 4), .mv (.c (.v (.int .i64 0))), none⟩])
  (.seq (.seq (.reg [⟨(some 6), .mv (.t 0), none⟩, ⟨(some 7), .len (.t 6), none⟩, ⟨(some 8), .mv (.c (.v (.int .i64 0))), none⟩])
  (.block 0
    (.loop
      (.seq (.reg [⟨(some 9), .bin .lss (.t 8) (.t 7), none⟩])
      (.seq (.cond (.t 9)
        .skip
        (.exit 0))
      (.seq (.block 1
        (.seq (.reg [⟨(some 10), .mv (.t 8), none⟩, ⟨(some 5), .mv (.t 10), none⟩])
        (.seq (.reg [⟨(some 11), .mv (.t 1), none⟩, ⟨(some 12), .mv (.t 0), none⟩, ⟨(some 13), .mv (.t 5), none⟩, ⟨(some 14), .idxS 1 (.t 12) (.t 13), none⟩, ⟨(some 15), .load 1 false (.t 14), none⟩, ⟨(some 16), .call (.t 11) [(.t 15)], none⟩])
        (.cond (.t 16)
          (.seq (.reg [⟨(some 17), .mv (.t 5), none⟩, ⟨(some 4), .mv (.t 17), none⟩])
          .ret)
          .skip))))
      (.reg [⟨(some 18), .bin .add (.t 8) (.c (.v (.int .i64 1))), none⟩, ⟨(some 8), .mv (.t 18), none⟩])))))))
  (.seq (.reg [⟨(some 4), .mv (.c (.v (.int .i64 (-1)))), none⟩])
  .ret)))
theorem fn_slices_IndexFunc_int64_int64_convoy_sane_1 : FnOK Try.prog 121 19 [.t 4] ac_slices_IndexFunc_int64_int64_convoy_sane_1 := ⟨_, _, Try.func121, rfl, Try.ntmps121, by kernel_rfl, ⟨fun _ => [], by kernel_rfl⟩, by kernel_rfl⟩
set_option maxHeartbeats 4000000 in
theorem slices_IndexFunc_int64_int64_convoy_sane_1_ok (p1 : (List Int)) (r : Int) (h : slices_IndexFunc_int64_int64_convoy_sane_1 p1 = some r) : PCall Try.prog 121 [(.list (List.map eInt_i64 p1)), (.fn (.func 94) [] [])] (i64 r) := by
  refine l_call fn_slices_IndexFunc_int64_int64_convoy_sane_1 (Nat.le_of_ble_eq_true rfl) ?_
  unfold slices_IndexFunc_int64_int64_convoy_sane_1 at h
  unfold ac_slices_IndexFunc_int64_int64_convoy_sane_1
  refine (l_sub (s0 := ⟨T [(0, (.d (.list (List.map eInt_i64 p1)))), (1, (.d (.fn (.func 94) [] [])))], G []⟩) (sb_of ⟨.of rfl, .of rfl, trivial⟩ trivial) ?_)
  refine l_seq ?_
  refine l_reg fun u1 hu1 => ?_
  refine s_val (.d _) rfl rfl ?_
  refine s_nil ?_
  refine l_seq ?_
  refine l_seq ?_
  refine l_reg fun u2 hu2 => ?_
  refine s_val (.d _) rfl rfl ?_
  refine s_val (.d _) rfl (v_len rfl) ?_
  refine s_val (.d _) rfl rfl ?_
  refine s_nil ?_
  obtain ⟨z1, hz1, h⟩ := thenS_some h
  refine l_join (fun s => ∃ (y1 : Unit) (g1 : Unit), z1 = .inl y1 ∧ Sb ⟨T [], G []⟩ s) ?_ ?_
  · skip
    refine l_block ?_
    refine l_loop (slices_IndexFunc_int64_int64_convoy_sane_1_l1 p1) (fun (x1 : Int) (g2 : Unit) => ⟨T [(0, (.d (.list (List.map eInt_i64 p1)))), (1, (.d (.fn (.func 94) [] []))), (7, (.d (i64 (p1.length : Int)))), (8, (.d (i64 x1)))], G []⟩) 0 () _ hz1 (sb_of ⟨.of rfl, .of rfl, .of rfl, .of rfl, trivial⟩ trivial) ?_
    intro x1 g2 z2 hz2 ez2
    unfold slices_IndexFunc_int64_int64_convoy_sane_1_l1 at hz2
    refine l_seq ?_
    refine l_reg fun u3 hu3 => ?_
    refine s_val (.d _) rfl rfl ?_
    refine s_nil ?_
    refine l_seq ?_
    refine l_cond (decide (x1 < (p1.length : Int))) rfl (fun c1 => ?_) (fun c1 => ?_)
    · replace hz2 := cond_t c1 hz2
      refine l_skip ?_
      refine l_seq ?_
      refine l_block ?_
      refine l_seq ?_
      refine l_reg fun u4 hu4 => ?_
      refine s_val (.d _) rfl rfl ?_
      refine s_val (.d _) rfl rfl ?_
      refine s_nil ?_
      refine l_seq ?_
      refine l_reg fun u5 hu5 => ?_
      refine s_val (.d _) rfl rfl ?_
      refine s_val (.d _) rfl rfl ?_
      refine s_val (.d _) rfl rfl ?_
      obtain ⟨v1, hv1, hz2⟩ := bind_some hz2
      refine s_val (.d _) rfl (v_idx rfl rfl hv1 rfl) ?_
      refine s_val (.d _) rfl (v_loadL rfl hv1 rfl) ?_
      obtain ⟨v2, hv2, hz2⟩ := bind_some hz2
      refine s_call rfl rfl all2_refl (convoy_sane_1_ok _  _ hv2) (.inl rfl) ?_
      refine s_nil ?_
      refine l_cond v2 rfl (fun c2 => ?_) (fun c2 => ?_)
      · replace hz2 := cond_t c2 hz2
        refine l_seq ?_
        refine l_reg fun u6 hu6 => ?_
        refine s_val (.d _) rfl rfl ?_
        refine s_val (.d _) rfl rfl ?_
        refine s_nil ?_
        refine l_ret ?_
        obtain rfl := Option.some.inj hz2
        obtain rfl := ez2 _ rfl
        refine ⟨nofun, awl_ret ?_⟩
        rw [Sum.elim_inr] at h
        obtain rfl := Option.some.inj h
        refine fin_ok (.inr rfl) (resD1 (res_t rfl) rf_d) ?_
        exact (.refl _)
      · replace hz2 := cond_f c2 hz2
        refine l_skip ?_
        refine l_end ?_
        refine l_reg fun u7 hu7 => ?_
        refine s_val (.d _) rfl rfl ?_
        refine s_val (.d _) rfl rfl ?_
        refine s_nil ?_
        refine l_nil ?_
        obtain rfl := Option.some.inj hz2
        exact ⟨rfl, (), (sb_of ⟨.of rfl, .of rfl, .of rfl, .of rfl, trivial⟩ trivial)⟩
    · replace hz2 := cond_f c1 hz2
      refine l_exitN rfl ?_
      obtain rfl := Option.some.inj hz2
      obtain rfl := ez2 _ rfl
      refine ⟨nofun, awl_pop rfl (l_j ?_)⟩
      exact ⟨_, (), rfl, (sb_of trivial trivial)⟩
  · rintro _ ⟨y1, g1, rfl, q1⟩
    rw [Sum.elim_inl] at h
    refine l_sub q1 ?_
    refine l_seq ?_
    refine l_reg fun u8 hu8 => ?_
    refine s_val (.d _) rfl rfl ?_
    refine s_nil ?_
    refine l_ret ?_
    obtain rfl := Option.some.inj h
    refine fin_ok (.inr rfl) (resD1 (res_t rfl) rf_d) ?_
    exact (.refl _)

noncomputable def slices_ContainsFunc_int64_int64_convoy_sane_1 (p1 : (List Int)) : Option Bool :=
  (slices_IndexFunc_int64_int64_convoy_sane_1 p1).bind fun v1 => some (decide (v1 ≥ 0))

/-- slices.ContainsFunc[[]int64,int64] -/
def ac_slices_ContainsFunc_int64_int64_convoy_sane_1 : AC :=
  (.seq (.reg [⟨(some 4), .mv (.c (.v (.bool false))), none⟩])
  (.seq (.reg [⟨(some 5), .mv (.t 0), none⟩, ⟨(some 6), .mv (.t 1), none⟩, ⟨(some 7), .call (.c (.fn (.func 121) [] [])) [(.t 5), (.t 6)], none⟩, ⟨(some 8), .bin .geq (.t 7) (.c (.v (.int .i64 0))), none⟩, ⟨(some 4), .mv (.t 8), none⟩])
  .ret))
theorem fn_slices_ContainsFunc_int64_int64_convoy_sane_1 : FnOK Try.prog 93 9 [.t 4] ac_slices_ContainsFunc_int64_int64_convoy_sane_1 := ⟨_, _, Try.func93, rfl, Try.ntmps93, by kernel_rfl, ⟨fun _ => [], by kernel_rfl⟩, by kernel_rfl⟩
theorem slices_ContainsFunc_int64_int64_convoy_sane_1_ok (p1 : (List Int)) (r : Bool) (h : slices_ContainsFunc_int64_int64_convoy_sane_1 p1 = some r) : PCall Try.prog 93 [(.list (List.map eInt_i64 p1)), (.fn (.func 94) [] [])] (bo r) := by
  refine l_call fn_slices_ContainsFunc_int64_int64_convoy_sane_1 (Nat.le_of_ble_eq_true rfl) ?_
  unfold slices_ContainsFunc_int64_int64_convoy_sane_1 at h
  unfold ac_slices_ContainsFunc_int64_int64_convoy_sane_1
  refine (l_sub (s0 := ⟨T [(0, (.d (.list (List.map eInt_i64 p1)))), (1, (.d (.fn (.func 94) [] [])))], G []⟩) (sb_of ⟨.of rfl, .of rfl, trivial⟩ trivial) ?_)
  refine l_seq ?_
  refine l_reg fun u1 hu1 => ?_
  refine s_val (.d _) rfl rfl ?_
  refine s_nil ?_
  refine l_seq ?_
  refine l_reg fun u2 hu2 => ?_
  refine s_val (.d _) rfl rfl ?_
  refine s_val (.d _) rfl rfl ?_
  obtain ⟨v1, hv1, h⟩ := bind_some h
  refine s_call rfl rfl all2_refl (slices_IndexFunc_int64_int64_convoy_sane_1_ok _  _ hv1) (.inl rfl) ?_
  refine s_val (.d _) rfl rfl ?_
  refine s_val (.d _) rfl rfl ?_
  refine s_nil ?_
  refine l_ret ?_
  obtain rfl := Option.some.inj h
  refine fin_ok (.inr rfl) (resD1 (res_t rfl) rf_d) ?_
  exact (.refl _)

noncomputable def convoy_sane (p1 : (List Int)) : Option Bool :=
  (slices_ContainsFunc_int64_int64_convoy_sane_1 p1).bind fun v1 => some (!v1)

/-- kerbstone/convoy.sane -/
def ac_convoy_sane : AC :=
  (.seq (.reg [⟨(some 2), .mv (.c (.v (.bool false))), none⟩])
  (.seq (.reg [⟨(some 3), .mv (.t 0), none⟩, ⟨(some 4), .call (.c (.fn (.func 93) [] [])) [(.t 3), (.c (.fn (.func 94) [] []))], none⟩, ⟨(some 5), .un .not (.t 4), none⟩, ⟨(some 2), .mv (.t 5), none⟩])
  .ret))
theorem fn_convoy_sane : FnOK Try.prog 59 6 [.t 2] ac_convoy_sane := ⟨_, _, Try.func59, rfl, Try.ntmps59, by kernel_rfl, ⟨fun _ => [], by kernel_rfl⟩, by kernel_rfl⟩
theorem convoy_sane_ok (p1 : (List Int)) (r : Bool) (h : convoy_sane p1 = some r) : PCall Try.prog 59 [(.list (List.map eInt_i64 p1))] (bo r) := by
  refine l_call fn_convoy_sane (Nat.le_of_ble_eq_true rfl) ?_
  unfold convoy_sane at h
  unfold ac_convoy_sane
  refine (l_sub (s0 := ⟨T [(0, (.d (.list (List.map eInt_i64 p1))))], G []⟩) (sb_of ⟨.of rfl, trivial⟩ trivial) ?_)
  refine l_seq ?_
  refine l_reg fun u1 hu1 => ?_
  refine s_val (.d _) rfl rfl ?_
  refine s_nil ?_
  refine l_seq ?_
  refine l_reg fun u2 hu2 => ?_
  refine s_val (.d _) rfl rfl ?_
  obtain ⟨v1, hv1, h⟩ := bind_some h
  refine s_call rfl rfl all2_refl (slices_ContainsFunc_int64_int64_convoy_sane_1_ok _  _ hv1) (.inl rfl) ?_
  refine s_val (.d _) rfl rfl ?_
  refine s_val (.d _) rfl rfl ?_
  refine s_nil ?_
  refine l_ret ?_
  obtain rfl := Option.some.inj h
  refine fin_ok (.inr rfl) (resD1 (res_t rfl) rf_d) ?_
  exact (.refl _)

noncomputable def world_Stop (p1 : Int) (p2 : Int) : Option Int :=
  cond ((decide (p1 < 1)) || (decide (p2 < 1))) (some 0) ((quoc .i64 (w64 ((mm2 false p1 1000000) - 1)) (mm2 false p2 1000000)).bind fun v1 => some (w64 ((w64 (v1 * (mm2 false p1 1000000))) - (w64 ((mm2 false p2 1000000) * (w64 ((w64 (v1 * (w64 (v1 + 1)))).tdiv 2)))))))

/-- kerbstone/world.Stop -/
def ac_world_Stop : AC :=
  (.seq (.reg [⟨(some 4), .mv (.c (.v (.int .i64 0))), none⟩])
  (.seq (.seq (.reg [⟨(some 6), .mv (.t 0), none⟩, ⟨(some 7), .bin .lss (.t 6) (.c (.v (.int .i64 1))), none⟩, ⟨(some 8), .mv (.t 7), none⟩, ⟨(some 9), .mv (.t 1), (some (8, false))⟩, ⟨(some 10), .bin .lss (.t 9) (.c (.v (.int .i64 1))), (some (8, false))⟩, ⟨(some 11), .pick (.t 8) (.c (.v (.bool true))) (.t 10), none⟩])
  (.cond (.t 11)
    (.seq (.reg [⟨(some 4), .mv (.c (.v (.int .i64 0))), none⟩])
    .ret)
    .skip))
  (.seq (.reg [⟨(some 12), .mv (.t 0), none⟩, ⟨(some 13), .mm false (.t 12) [(.c (.v (.int .i64 1000000)))], none⟩, ⟨(some 14), .mv (.t 1), none⟩, ⟨(some 15), .mm false (.t 14) [(.c (.v (.int .i64 1000000)))], none⟩, ⟨(some 0), .mv (.t 13), none⟩, ⟨(some 1), .mv (.t 15), none⟩])
  (.seq (.reg [⟨(some 16), .mv (.t 0), none⟩, ⟨(some 17), .bin .sub (.t 16) (.c (.v (.int .i64 1))), none⟩, ⟨(some 18), .mv (.t 1), none⟩, ⟨(some 19), .bin .quo (.t 17) (.t 18), none⟩, ⟨(some 5), .mv (.t 19), none⟩])
  (.seq (.reg [⟨(some 20), .mv (.t 5), none⟩, ⟨(some 21), .mv (.t 0), none⟩, ⟨(some 22), .bin .mul (.t 20) (.t 21), none⟩, ⟨(some 23), .mv (.t 1), none⟩, ⟨(some 24), .mv (.t 5), none⟩, ⟨(some 25), .mv (.t 5), none⟩, ⟨(some 26), .bin .add (.t 25) (.c (.v (.int .i64 1))), none⟩, ⟨(some 27), .bin .mul (.t 24) (.t 26), none⟩, ⟨(some 28), .bin .quo (.t 27) (.c (.v (.int .i64 2))), none⟩, ⟨(some 29), .bin .mul (.t 23) (.t 28), none⟩, ⟨(some 30), .bin .sub (.t 22) (.t 29), none⟩, ⟨(some 4), .mv (.t 30), none⟩])
  .ret)))))
theorem fn_world_Stop : FnOK Try.prog 96 31 [.t 4] ac_world_Stop := ⟨_, _, Try.func96, rfl, Try.ntmps96, by kernel_rfl, ⟨fun _ => [], by kernel_rfl⟩, by kernel_rfl⟩
set_option maxHeartbeats 4000000 in
theorem world_Stop_ok (p1 : Int) (p2 : Int) (r : Int) (h : world_Stop p1 p2 = some r) : PCall Try.prog 96 [(i64 p1), (i64 p2)] (i64 r) := by
  refine l_call fn_world_Stop (Nat.le_of_ble_eq_true rfl) ?_
  unfold world_Stop at h
  unfold ac_world_Stop
  refine (l_sub (s0 := ⟨T [(0, (.d (i64 p1))), (1, (.d (i64 p2)))], G []⟩) (sb_of ⟨.of rfl, .of rfl, trivial⟩ trivial) ?_)
  refine l_seq ?_
  refine l_reg fun u1 hu1 => ?_
  refine s_val (.d _) rfl rfl ?_
  refine s_nil ?_
  refine l_seq ?_
  refine l_seq ?_
  refine l_reg fun u2 hu2 => ?_
  refine s_val (.d _) rfl rfl ?_
  refine s_val (.d _) rfl rfl ?_
  refine s_val (.d _) rfl rfl ?_
  refine g_val (!(decide (p1 < 1))) (.d _) rfl (gw_f rfl) (fun w1 => rfl) ?_
  refine g_val (!(decide (p1 < 1))) (.d _) rfl (gw_f rfl) (fun w2 => (v_bin (gd_pos w2) rfl rfl)) ?_
  refine s_val (.d _) rfl (v_or rfl rfl (fun hc => gd_pos (not_t hc))) ?_
  refine s_nil ?_
  refine l_cond ((decide (p1 < 1)) || (decide (p2 < 1))) rfl (fun c1 => ?_) (fun c1 => ?_)
  · replace h := cond_t c1 h
    refine l_seq ?_
    refine l_reg fun u3 hu3 => ?_
    refine s_val (.d _) rfl rfl ?_
    refine s_nil ?_
    refine l_ret ?_
    obtain rfl := Option.some.inj h
    refine fin_ok (.inr rfl) (resD1 (res_t rfl) rf_d) ?_
    exact (.refl _)
  · replace h := cond_f c1 h
    refine l_skip ?_
    refine l_seq ?_
    refine l_reg fun u4 hu4 => ?_
    refine s_val (.d _) rfl rfl ?_
    refine s_val (.d _) rfl rfl ?_
    refine s_val (.d _) rfl rfl ?_
    refine s_val (.d _) rfl rfl ?_
    refine s_val (.d _) rfl rfl ?_
    refine s_val (.d _) rfl rfl ?_
    refine s_nil ?_
    refine l_seq ?_
    refine l_reg fun u5 hu5 => ?_
    refine s_val (.d _) rfl rfl ?_
    refine s_val (.d _) rfl rfl ?_
    refine s_val (.d _) rfl rfl ?_
    obtain ⟨v1, hv1, h⟩ := bind_some h
    refine s_val (.d _) rfl (v_quo rfl rfl hv1) ?_
    refine s_val (.d _) rfl rfl ?_
    refine s_nil ?_
    refine l_seq ?_
    refine l_reg fun u6 hu6 => ?_
    refine s_val (.d _) rfl rfl ?_
    refine s_val (.d _) rfl rfl ?_
    refine s_val (.d _) rfl rfl ?_
    refine s_val (.d _) rfl rfl ?_
    refine s_val (.d _) rfl rfl ?_
    refine s_val (.d _) rfl rfl ?_
    refine s_val (.d _) rfl rfl ?_
    refine s_val (.d _) rfl rfl ?_
    refine s_val (.d _) rfl rfl ?_
    refine s_val (.d _) rfl rfl ?_
    refine s_val (.d _) rfl rfl ?_
    refine s_val (.d _) rfl rfl ?_
    refine s_nil ?_
    refine l_ret ?_
    obtain rfl := Option.some.inj h
    refine fin_ok (.inr rfl) (resD1 (res_t rfl) rf_d) ?_
    exact (.refl _)

noncomputable def convoy_stop (p1 : Int) : Option Int :=
  (world_Stop p1 90).bind fun v1 => some v1

/-- kerbstone/convoy.stop -/
def ac_convoy_stop : AC :=
  (.seq (.reg [⟨(some 2), .mv (.c (.v (.int .i64 0))), none⟩])
  (.seq (.reg [⟨(some 3), .mv (.t 0), none⟩, ⟨(some 4), .call (.c (.fn (.func 96) [] [])) [(.t 3), (.c (.v (.int .i64 90)))], none⟩, ⟨(some 2), .mv (.t 4), none⟩])
  .ret))
theorem fn_convoy_stop : FnOK Try.prog 62 5 [.t 2] ac_convoy_stop := ⟨_, _, Try.func62, rfl, Try.ntmps62, by kernel_rfl, ⟨fun _ => [], by kernel_rfl⟩, by kernel_rfl⟩
theorem convoy_stop_ok (p1 : Int) (r : Int) (h : convoy_stop p1 = some r) : PCall Try.prog 62 [(i64 p1)] (i64 r) := by
  refine l_call fn_convoy_stop (Nat.le_of_ble_eq_true rfl) ?_
  unfold convoy_stop at h
  unfold ac_convoy_stop
  refine (l_sub (s0 := ⟨T [(0, (.d (i64 p1)))], G []⟩) (sb_of ⟨.of rfl, trivial⟩ trivial) ?_)
  refine l_seq ?_
  refine l_reg fun u1 hu1 => ?_
  refine s_val (.d _) rfl rfl ?_
  refine s_nil ?_
  refine l_seq ?_
  refine l_reg fun u2 hu2 => ?_
  refine s_val (.d _) rfl rfl ?_
  obtain ⟨v1, hv1, h⟩ := bind_some h
  refine s_call rfl rfl all2_refl (world_Stop_ok _ _  _ hv1) (.inl rfl) ?_
  refine s_val (.d _) rfl rfl ?_
  refine s_nil ?_
  refine l_ret ?_
  obtain rfl := Option.some.inj h
  refine fin_ok (.inr rfl) (resD1 (res_t rfl) rf_d) ?_
  exact (.refl _)

noncomputable def convoy_end (p1 : Guess) : Option Int :=
  (convoy_stop p1.V).bind fun v1 => some (w64 (p1.R + v1))

/-- kerbstone/convoy.end -/
def ac_convoy_end : AC :=
  (.seq (.reg [⟨(some 1), .box 23 true (.t 0), none⟩, ⟨(some 2), .mv (.c (.v (.int .i64 0))), none⟩])
  (.seq (.draw [⟨(some 3), .fieldA 0 (.t 1), none⟩, ⟨(some 4), .load 1 false (.t 3), none⟩, ⟨(some 5), .fieldA 1 (.t 1), none⟩, ⟨(some 6), .load 1 false (.t 5), none⟩, ⟨(some 7), .call (.c (.fn (.func 62) [] [])) [(.t 6)], none⟩, ⟨(some 8), .bin .add (.t 4) (.t 7), none⟩, ⟨(some 2), .mv (.t 8), none⟩] [])
  .ret))
theorem fn_convoy_end : FnOK Try.prog 61 9 [.t 2] ac_convoy_end := ⟨_, _, Try.func61, rfl, Try.ntmps61, by kernel_rfl, ⟨fun _ => [], by kernel_rfl⟩, by kernel_rfl⟩
theorem convoy_end_ok (p1 : Guess) (r : Int) (h : convoy_end p1 = some r) : PCall Try.prog 61 [(.agg [(i64 p1.R), (i64 p1.V)])] (i64 r) := by
  refine l_call fn_convoy_end (Nat.le_of_ble_eq_true rfl) ?_
  unfold convoy_end at h
  unfold ac_convoy_end
  refine (l_sub (s0 := ⟨T [(0, (.d (.agg [(i64 p1.R), (i64 p1.V)])))], G []⟩) (sb_of ⟨.of rfl, trivial⟩ trivial) ?_)
  refine l_seq ?_
  refine l_reg fun u1 hu1 => ?_
  refine s_new (.ptr _ _) (.box _ _) rfl rfl ?_
  refine s_val (.d _) rfl rfl ?_
  refine s_nil ?_
  refine l_seq ?_
  refine l_draw rfl fun u2 hu2 => ?_
  refine s_val (.ptr _ _) rfl rfl ?_
  refine s_val (.d _) rfl (v_load rfl G_hit rfl) ?_
  refine s_val (.ptr _ _) rfl rfl ?_
  refine s_val (.d _) rfl (v_load rfl G_hit rfl) ?_
  obtain ⟨v1, hv1, h⟩ := bind_some h
  refine s_call rfl rfl all2_refl (convoy_stop_ok _  _ hv1) (.inl rfl) ?_
  refine s_val (.d _) rfl rfl ?_
  refine s_val (.d _) rfl rfl ?_
  refine s_nil ?_
  refine l_ret ?_
  obtain rfl := Option.some.inj h
  refine fin_ok (.inr rfl) (resD1 (res_t rfl) rf_d) ?_
  exact (.refl _)

noncomputable def convoy_Safe (p1 : Int) (p2 : Int) (p3 : Int) (p4 : Guess) : Option Bool :=
  (convoy_sane [p1, p2, p3, p4.R, p4.V]).bind fun v1 => ((cond (v1 && (decide (p1 ≤ (w64 (p4.R - p3))))) (convoy_stop p2) (some default))).bind fun v2 => ((cond (v1 && (decide (p1 ≤ (w64 (p4.R - p3))))) (convoy_end p4) (some default))).bind fun v3 => some ((v1 && (decide (p1 ≤ (w64 (p4.R - p3))))) && (decide ((w64 (p1 + v2)) ≤ (w64 (v3 - p3)))))

/-- kerbstone/convoy.Safe -/
def ac_convoy_Safe : AC :=
  (.seq (.reg [⟨(some 7), .box 23 true (.t 3), none⟩, ⟨(some 8), .mv (.c (.v (.bool false))), none⟩])
  (.seq (.draw [⟨(some 9), .mv (.t 0), none⟩, ⟨(some 10), .mv (.t 1), none⟩, ⟨(some 11), .mv (.t 2), none⟩, ⟨(some 12), .fieldA 0 (.t 7), none⟩, ⟨(some 13), .load 1 false (.t 12), none⟩, ⟨(some 14), .fieldA 1 (.t 7), none⟩, ⟨(some 15), .load 1 false (.t 14), none⟩, ⟨(some 16), .dslice 2 1 5 [(.v (.int .i64 0))] [(0, 1, (.t 9)), (1, 1, (.t 10)), (2, 1, (.t 11)), (3, 1, (.t 13)), (4, 1, (.t 15))], none⟩, ⟨(some 17), .call (.c (.fn (.func 59) [] [])) [(.t 16)], none⟩, ⟨(some 18), .mv (.t 17), none⟩, ⟨(some 19), .mv (.t 0), (some (18, true))⟩, ⟨(some 20), .fieldA 0 (.t 7), (some (18, true))⟩, ⟨(some 21), .load 1 false (.t 20), (some (18, true))⟩, ⟨(some 22), .mv (.t 2), (some (18, true))⟩, ⟨(some 23), .bin .sub (.t 21) (.t 22), (some (18, true))⟩, ⟨(some 24), .bin .leq (.t 19) (.t 23), (some (18, true))⟩, ⟨(some 25), .pick (.t 18) (.t 24) (.c (.v (.bool false))), none⟩, ⟨(some 26), .mv (.t 25), none⟩, ⟨(some 27), .mv (.t 0), (some (26, true))⟩, ⟨(some 28), .mv (.t 1), (some (26, true))⟩, ⟨(some 29), .call (.c (.fn (.func 62) [] [])) [(.t 28)], (some (26, true))⟩, ⟨(some 30), .bin .add (.t 27) (.t 29), (some (26, true))⟩, ⟨(some 31), .load 2 true (.t 7), (some (26, true))⟩, ⟨(some 32), .call (.c (.fn (.func 61) [] [])) [(.t 31)], (some (26, true))⟩, ⟨(some 33), .mv (.t 2), (some (26, true))⟩, ⟨(some 34), .bin .sub (.t 32) (.t 33), (some (26, true))⟩, ⟨(some 35), .bin .leq (.t 30) (.t 34), (some (26, true))⟩, ⟨(some 36), .pick (.t 26) (.t 35) (.c (.v (.bool false))), none⟩, ⟨(some 8), .mv (.t 36), none⟩] [])
  .ret))
theorem fn_convoy_Safe : FnOK Try.prog 21 37 [.t 8] ac_convoy_Safe := ⟨_, _, Try.func21, rfl, Try.ntmps21, by kernel_rfl, ⟨fun r => if r == 1 then [1007] else [], by kernel_rfl⟩, by kernel_rfl⟩
theorem convoy_Safe_ok (p1 : Int) (p2 : Int) (p3 : Int) (p4 : Guess) (r : Bool) (h : convoy_Safe p1 p2 p3 p4 = some r) : PCall Try.prog 21 [(i64 p1), (i64 p2), (i64 p3), (.agg [(i64 p4.R), (i64 p4.V)])] (bo r) := by
  refine l_call fn_convoy_Safe (Nat.le_of_ble_eq_true rfl) ?_
  unfold convoy_Safe at h
  unfold ac_convoy_Safe
  refine (l_sub (s0 := ⟨T [(0, (.d (i64 p1))), (1, (.d (i64 p2))), (2, (.d (i64 p3))), (3, (.d (.agg [(i64 p4.R), (i64 p4.V)])))], G []⟩) (sb_of ⟨.of rfl, .of rfl, .of rfl, .of rfl, trivial⟩ trivial) ?_)
  refine l_seq ?_
  refine l_reg fun u1 hu1 => ?_
  refine s_new (.ptr _ _) (.box _ _) rfl rfl ?_
  refine s_val (.d _) rfl rfl ?_
  refine s_nil ?_
  refine l_seq ?_
  refine l_draw rfl fun u2 hu2 => ?_
  refine s_val (.d _) rfl rfl ?_
  refine s_val (.d _) rfl rfl ?_
  refine s_val (.d _) rfl rfl ?_
  refine s_val (.ptr _ _) rfl rfl ?_
  refine s_val (.d _) rfl (v_load rfl G_hit rfl) ?_
  refine s_val (.ptr _ _) rfl rfl ?_
  refine s_val (.d _) rfl (v_load rfl G_hit rfl) ?_
  refine s_val (.d (.list (List.map eInt_i64 [p1, p2, p3, p4.R, p4.V]))) rfl rfl ?_
  obtain ⟨v1, hv1, h⟩ := bind_some h
  refine s_call rfl rfl all2_refl (convoy_sane_ok _  _ hv1) (.inl rfl) ?_
  refine s_val (.d _) rfl rfl ?_
  refine g_val v1 (.d _) rfl (gw_t rfl) (fun w1 => rfl) ?_
  refine g_val v1 (.ptr _ _) rfl (gw_t rfl) (fun w2 => rfl) ?_
  refine g_val v1 (.d _) rfl (gw_t rfl) (fun w3 => (v_load (gd_pos w3) G_hit rfl)) ?_
  refine g_val v1 (.d _) rfl (gw_t rfl) (fun w4 => rfl) ?_
  refine g_val v1 (.d _) rfl (gw_t rfl) (fun w5 => (v_bin (gd_pos w5) (gd_pos w5) rfl)) ?_
  refine g_val v1 (.d _) rfl (gw_t rfl) (fun w6 => (v_bin (gd_pos w6) (gd_pos w6) rfl)) ?_
  refine s_val (.d _) rfl (v_and rfl (fun hc => gd_pos hc) rfl) ?_
  refine s_val (.d _) rfl rfl ?_
  refine g_val (v1 && (decide (p1 ≤ (w64 (p4.R - p3))))) (.d _) rfl (gw_t rfl) (fun w7 => rfl) ?_
  refine g_val (v1 && (decide (p1 ≤ (w64 (p4.R - p3))))) (.d _) rfl (gw_t rfl) (fun w8 => rfl) ?_
  obtain ⟨v2, hv2, h⟩ := bind_some h
  refine g_call (v1 && (decide (p1 ≤ (w64 (p4.R - p3))))) (i64 v2) (gw_t rfl) (fun w9 => ⟨_, [(.d (i64 p2))], _, _, (by simp only [gd_pos w9]; rfl), rfl, all2_refl, convoy_stop_ok _  _ (cond_t w9 hv2), (.inl rfl)⟩) ?_
  refine g_val (v1 && (decide (p1 ≤ (w64 (p4.R - p3))))) (.d _) rfl (gw_t rfl) (fun w10 => (v_bin (gd_pos w10) (gd_pos w10) rfl)) ?_
  refine g_val (v1 && (decide (p1 ≤ (w64 (p4.R - p3))))) (.d _) rfl (gw_t rfl) (fun w11 => (v_loadG rfl G_hit rfl rfl)) ?_
  obtain ⟨v3, hv3, h⟩ := bind_some h
  refine g_call (v1 && (decide (p1 ≤ (w64 (p4.R - p3))))) (i64 v3) (gw_t rfl) (fun w12 => ⟨_, [(.d (.agg [(i64 p4.R), (i64 p4.V)]))], _, _, (by simp only [gd_pos w12]; rfl), rfl, all2_refl, convoy_end_ok _  _ (cond_t w12 hv3), (.inl rfl)⟩) ?_
  refine g_val (v1 && (decide (p1 ≤ (w64 (p4.R - p3))))) (.d _) rfl (gw_t rfl) (fun w13 => rfl) ?_
  refine g_val (v1 && (decide (p1 ≤ (w64 (p4.R - p3))))) (.d _) rfl (gw_t rfl) (fun w14 => (v_bin (gd_pos w14) (gd_pos w14) rfl)) ?_
  refine g_val (v1 && (decide (p1 ≤ (w64 (p4.R - p3))))) (.d _) rfl (gw_t rfl) (fun w15 => (v_bin (gd_pos w15) (gd_pos w15) rfl)) ?_
  refine s_val (.d _) rfl (v_and rfl (fun hc => gd_pos hc) rfl) ?_
  refine s_val (.d _) rfl rfl ?_
  refine s_nil ?_
  refine l_ret ?_
  obtain rfl := Option.some.inj h
  refine fin_ok (.inr rfl) (resD1 (res_t rfl) rf_d) ?_
  exact (.refl _)

noncomputable def convoy_keeps (p1 : Int) (p2 : Mate) (p3 : Int) (p4 : Int) (p5 : Guess) (p6 : Guess) : Option Bool :=
  ((cond (!(p2.Ahead == 0)) (convoy_Safe p3 p4 p1 p5) (some default))).bind fun v1 => ((cond (((p2.Ahead == 0) || v1) && (!(p2.Until == 0))) (convoy_Safe p3 p4 p1 p6) (some default))).bind fun v2 => some (((p2.Ahead == 0) || v1) && ((p2.Until == 0) || v2))

/-- kerbstone/convoy.keeps -/
def ac_convoy_keeps : AC :=
  (.seq (.reg [⟨(some 7), .box 65 true (.t 1), none⟩, ⟨(some 10), .box 23 true (.t 4), none⟩, ⟨(some 11), .box 23 true (.t 5), none⟩, ⟨(some 12), .mv (.c (.v (.bool false))), none⟩])
  (.seq (.reg [⟨(some 13), .fieldA 4 (.t 7), none⟩, ⟨(some 14), .load 1 false (.t 13), none⟩, ⟨(some 15), .bin .eql (.t 14) (.c (.v (.int .i64 0))), none⟩, ⟨(some 16), .mv (.t 15), none⟩, ⟨(some 17), .mv (.t 2), (some (16, false))⟩, ⟨(some 18), .mv (.t 3), (some (16, false))⟩, ⟨(some 19), .mv (.t 0), (some (16, false))⟩, ⟨(some 20), .load 2 true (.t 10), (some (16, false))⟩, ⟨(some 21), .call (.c (.fn (.func 21) [] [])) [(.t 17), (.t 18), (.t 19), (.t 20)], (some (16, false))⟩, ⟨(some 22), .pick (.t 16) (.c (.v (.bool true))) (.t 21), none⟩, ⟨(some 23), .mv (.t 22), none⟩, ⟨(some 24), .fieldA 11 (.t 7), (some (23, true))⟩, ⟨(some 25), .load 1 false (.t 24), (some (23, true))⟩, ⟨(some 26), .bin .eql (.t 25) (.c (.v (.int .i64 0))), (some (23, true))⟩, ⟨(some 27), .mv (.t 26), (some (23, true))⟩, ⟨(some 28), .mv (.t 2), (some (27, false))⟩, ⟨(some 29), .mv (.t 3), (some (27, false))⟩, ⟨(some 30), .mv (.t 0), (some (27, false))⟩, ⟨(some 31), .load 2 true (.t 11), (some (27, false))⟩, ⟨(some 32), .call (.c (.fn (.func 21) [] [])) [(.t 28), (.t 29), (.t 30), (.t 31)], (some (27, false))⟩, ⟨(some 33), .pick (.t 27) (.c (.v (.bool true))) (.t 32), (some (23, true))⟩, ⟨(some 34), .pick (.t 23) (.t 33) (.c (.v (.bool false))), none⟩, ⟨(some 12), .mv (.t 34), none⟩])
  .ret))
theorem fn_convoy_keeps : FnOK Try.prog 76 35 [.t 12] ac_convoy_keeps := ⟨_, _, Try.func76, rfl, Try.ntmps76, by kernel_rfl, ⟨fun _ => [], by kernel_rfl⟩, by kernel_rfl⟩
theorem convoy_keeps_ok (p1 : Int) (p2 : Mate) (p3 : Int) (p4 : Int) (p5 : Guess) (p6 : Guess) (r : Bool) (h : convoy_keeps p1 p2 p3 p4 p5 p6 = some r) : PCall Try.prog 76 [(i64 p1), (.agg [(i64 p2.ID), (i64 p2.S), (i64 p2.V), (i64 p2.Len), (i64 p2.Ahead), (i64 p2.Guess_.R), (i64 p2.Guess_.V), (bo p2.Trust), (i64 p2.Ward), (i64 p2.WardGuess.R), (i64 p2.WardGuess.V), (i64 p2.Until)]), (i64 p3), (i64 p4), (.agg [(i64 p5.R), (i64 p5.V)]), (.agg [(i64 p6.R), (i64 p6.V)])] (bo r) := by
  refine l_call fn_convoy_keeps (Nat.le_of_ble_eq_true rfl) ?_
  unfold convoy_keeps at h
  unfold ac_convoy_keeps
  refine (l_sub (s0 := ⟨T [(0, (.d (i64 p1))), (1, (.d (.agg [(i64 p2.ID), (i64 p2.S), (i64 p2.V), (i64 p2.Len), (i64 p2.Ahead), (i64 p2.Guess_.R), (i64 p2.Guess_.V), (bo p2.Trust), (i64 p2.Ward), (i64 p2.WardGuess.R), (i64 p2.WardGuess.V), (i64 p2.Until)]))), (2, (.d (i64 p3))), (3, (.d (i64 p4))), (4, (.d (.agg [(i64 p5.R), (i64 p5.V)]))), (5, (.d (.agg [(i64 p6.R), (i64 p6.V)])))], G []⟩) (sb_of ⟨.of rfl, .of rfl, .of rfl, .of rfl, .of rfl, .of rfl, trivial⟩ trivial) ?_)
  refine l_seq ?_
  refine l_reg fun u1 hu1 => ?_
  refine s_new (.ptr _ _) (.box _ _) rfl rfl ?_
  refine s_new (.ptr _ _) (.box _ _) rfl rfl ?_
  refine s_new (.ptr _ _) (.box _ _) rfl rfl ?_
  refine s_val (.d _) rfl rfl ?_
  refine s_nil ?_
  refine l_seq ?_
  refine l_reg fun u2 hu2 => ?_
  refine s_val (.ptr _ _) rfl rfl ?_
  refine s_val (.d _) rfl (v_load rfl (G_skip rfl (G_skip rfl G_hit)) rfl) ?_
  refine s_val (.d _) rfl rfl ?_
  refine s_val (.d _) rfl rfl ?_
  refine g_val (!(p2.Ahead == 0)) (.d _) rfl (gw_f rfl) (fun w1 => rfl) ?_
  refine g_val (!(p2.Ahead == 0)) (.d _) rfl (gw_f rfl) (fun w2 => rfl) ?_
  refine g_val (!(p2.Ahead == 0)) (.d _) rfl (gw_f rfl) (fun w3 => rfl) ?_
  refine g_val (!(p2.Ahead == 0)) (.d _) rfl (gw_f rfl) (fun w4 => (v_loadG rfl (G_skip rfl G_hit) rfl rfl)) ?_
  obtain ⟨v1, hv1, h⟩ := bind_some h
  refine g_call (!(p2.Ahead == 0)) (bo v1) (gw_f rfl) (fun w5 => ⟨_, [(.d (i64 p3)), (.d (i64 p4)), (.d (i64 p1)), (.d (.agg [(i64 p5.R), (i64 p5.V)]))], _, _, (by simp only [gd_pos w5]; rfl), rfl, all2_refl, convoy_Safe_ok _ _ _ _  _ (cond_t w5 hv1), (.inl rfl)⟩) ?_
  refine s_val (.d _) rfl (v_or rfl rfl (fun hc => gd_pos (not_t hc))) ?_
  refine s_val (.d _) rfl rfl ?_
  refine g_val ((p2.Ahead == 0) || v1) (.ptr _ _) rfl (gw_t rfl) (fun w6 => rfl) ?_
  refine g_val ((p2.Ahead == 0) || v1) (.d _) rfl (gw_t rfl) (fun w7 => (v_load (gd_pos w7) (G_skip rfl (G_skip rfl G_hit)) rfl)) ?_
  refine g_val ((p2.Ahead == 0) || v1) (.d _) rfl (gw_t rfl) (fun w8 => (v_bin (gd_pos w8) rfl rfl)) ?_
  refine g_val ((p2.Ahead == 0) || v1) (.d _) rfl (gw_t rfl) (fun w9 => (v_mv (gd_pos w9))) ?_
  refine g_val (((p2.Ahead == 0) || v1) && (!(p2.Until == 0))) (.d _) rfl (gw_gf rfl) (fun w10 => rfl) ?_
  refine g_val (((p2.Ahead == 0) || v1) && (!(p2.Until == 0))) (.d _) rfl (gw_gf rfl) (fun w11 => rfl) ?_
  refine g_val (((p2.Ahead == 0) || v1) && (!(p2.Until == 0))) (.d _) rfl (gw_gf rfl) (fun w12 => rfl) ?_
  refine g_val (((p2.Ahead == 0) || v1) && (!(p2.Until == 0))) (.d _) rfl (gw_gf rfl) (fun w13 => (v_loadG rfl G_hit rfl rfl)) ?_
  obtain ⟨v2, hv2, h⟩ := bind_some h
  refine g_call (((p2.Ahead == 0) || v1) && (!(p2.Until == 0))) (bo v2) (gw_gf rfl) (fun w14 => ⟨_, [(.d (i64 p3)), (.d (i64 p4)), (.d (i64 p1)), (.d (.agg [(i64 p6.R), (i64 p6.V)]))], _, _, (by simp only [gd_pos w14]; rfl), rfl, all2_refl, convoy_Safe_ok _ _ _ _  _ (cond_t w14 hv2), (.inl rfl)⟩) ?_
  refine g_val ((p2.Ahead == 0) || v1) (.d _) rfl (gw_t rfl) (fun w15 => (v_or (gd_pos w15) rfl (fun hc => gd_pos (and_i w15 (not_t hc))))) ?_
  refine s_val (.d _) rfl (v_and rfl (fun hc => gd_pos hc) rfl) ?_
  refine s_val (.d _) rfl rfl ?_
  refine s_nil ?_
  refine l_ret ?_
  obtain rfl := Option.some.inj h
  refine fin_ok (.inr rfl) (resD1 (res_t rfl) rf_d) ?_
  exact (.refl _)

noncomputable def convoy_Check_1_b (p1 : Mate) (p2 : Convoy) : Option Bool :=
  (convoy_keeps p2.Gap p1 p1.S p1.V p1.Guess_ p1.WardGuess).bind fun v1 => some (!v1)

/-- kerbstone/convoy.Check$1 -/
def ac_convoy_Check_1_b : AC :=
  (.seq (.reg [⟨(some 2), .box 65 true (.t 0), none⟩, ⟨(some 3), .mv (.c (.v (.bool false))), none⟩])
  (.seq (.reg [⟨(some 4), .fieldA 1 (.t 1), none⟩, ⟨(some 5), .load 1 false (.t 4), none⟩, ⟨(some 6), .load 12 true (.t 2), none⟩, ⟨(some 7), .fieldA 1 (.t 2), none⟩, ⟨(some 8), .load 1 false (.t 7), none⟩, ⟨(some 9), .fieldA 2 (.t 2), none⟩, ⟨(some 10), .load 1 false (.t 9), none⟩, ⟨(some 11), .fieldA 5 (.t 2), none⟩, ⟨(some 12), .load 2 true (.t 11), none⟩, ⟨(some 13), .fieldA 9 (.t 2), none⟩, ⟨(some 14), .load 2 true (.t 13), none⟩, ⟨(some 15), .call (.c (.fn (.func 76) [] [])) [(.t 5), (.t 6), (.t 8), (.t 10), (.t 12), (.t 14)], none⟩, ⟨(some 16), .un .not (.t 15), none⟩, ⟨(some 3), .mv (.t 16), none⟩])
  .ret))
theorem fn_convoy_Check_1_b : FnOK Try.prog 75 17 [.t 3] ac_convoy_Check_1_b := ⟨_, _, Try.func75, rfl, Try.ntmps75, by kernel_rfl, ⟨fun _ => [], by kernel_rfl⟩, by kernel_rfl⟩
theorem convoy_Check_1_b_ok (p1 : Mate) (p2 : Convoy) (r : Bool) (h : convoy_Check_1_b p1 p2 = some r) : PCall Try.prog 75 [(.agg [(i64 p1.ID), (i64 p1.S), (i64 p1.V), (i64 p1.Len), (i64 p1.Ahead), (i64 p1.Guess_.R), (i64 p1.Guess_.V), (bo p1.Trust), (i64 p1.Ward), (i64 p1.WardGuess.R), (i64 p1.WardGuess.V), (i64 p1.Until)]), (.bp [(i64 p2.Tick), (i64 p2.Gap), (.list (List.map eMate p2.Mates)), (i64 p2.Guest_.ID), (i64 p2.Guest_.S), (i64 p2.Guest_.V), (i64 p2.Guest_.Len), (i64 p2.Guest_.End), (i64 p2.Guest_.Ahead), (i64 p2.Guest_.Guess_.R), (i64 p2.Guest_.Guess_.V), (i64 p2.Guest_.From), (i64 p2.Guest_.Until)] 0)] (bo r) := by
  refine l_call fn_convoy_Check_1_b (Nat.le_of_ble_eq_true rfl) ?_
  unfold convoy_Check_1_b at h
  unfold ac_convoy_Check_1_b
  refine (l_sub (s0 := ⟨T [(0, (.d (.agg [(i64 p1.ID), (i64 p1.S), (i64 p1.V), (i64 p1.Len), (i64 p1.Ahead), (i64 p1.Guess_.R), (i64 p1.Guess_.V), (bo p1.Trust), (i64 p1.Ward), (i64 p1.WardGuess.R), (i64 p1.WardGuess.V), (i64 p1.Until)]))), (1, (.d (.bp [(i64 p2.Tick), (i64 p2.Gap), (.list (List.map eMate p2.Mates)), (i64 p2.Guest_.ID), (i64 p2.Guest_.S), (i64 p2.Guest_.V), (i64 p2.Guest_.Len), (i64 p2.Guest_.End), (i64 p2.Guest_.Ahead), (i64 p2.Guest_.Guess_.R), (i64 p2.Guest_.Guess_.V), (i64 p2.Guest_.From), (i64 p2.Guest_.Until)] 0)))], G []⟩) (sb_of ⟨.of rfl, .of rfl, trivial⟩ trivial) ?_)
  refine l_seq ?_
  refine l_reg fun u1 hu1 => ?_
  refine s_new (.ptr _ _) (.box _ _) rfl rfl ?_
  refine s_val (.d _) rfl rfl ?_
  refine s_nil ?_
  refine l_seq ?_
  refine l_reg fun u2 hu2 => ?_
  refine s_val (.d _) rfl rfl ?_
  refine s_val (.d _) rfl rfl ?_
  refine s_val (.d _) rfl (v_loadG rfl G_hit rfl rfl) ?_
  refine s_val (.ptr _ _) rfl rfl ?_
  refine s_val (.d _) rfl (v_load rfl G_hit rfl) ?_
  refine s_val (.ptr _ _) rfl rfl ?_
  refine s_val (.d _) rfl (v_load rfl G_hit rfl) ?_
  refine s_val (.ptr _ _) rfl rfl ?_
  refine s_val (.d _) rfl (v_loadG rfl G_hit rfl rfl) ?_
  refine s_val (.ptr _ _) rfl rfl ?_
  refine s_val (.d _) rfl (v_loadG rfl G_hit rfl rfl) ?_
  obtain ⟨v1, hv1, h⟩ := bind_some h
  refine s_call rfl rfl all2_refl (convoy_keeps_ok _ _ _ _ _ _  _ hv1) (.inl rfl) ?_
  refine s_val (.d _) rfl rfl ?_
  refine s_val (.d _) rfl rfl ?_
  refine s_nil ?_
  refine l_ret ?_
  obtain rfl := Option.some.inj h
  refine fin_ok (.inr rfl) (resD1 (res_t rfl) rf_d) ?_
  exact (.refl _)

noncomputable def slices_IndexFunc_Mate_Mate_convoy_Check_1b_l1 (p1 : (List Mate)) (p2 : Convoy) (x1 : Int) : Option (Stp Int (Sum Unit Int)) :=
  cond (decide (x1 < (p1.length : Int))) ((geti p1 x1).bind fun v1 => (convoy_Check_1_b v1 p2).bind fun v2 => cond v2 (some (.out (.inr x1))) (some (.go (w64 (x1 + 1))))) (some (.out (.inl ())))
noncomputable def slices_IndexFunc_Mate_Mate_convoy_Check_1b (p1 : (List Mate)) (p2 : Convoy) : Option Int :=
  thenS (loop (slices_IndexFunc_Mate_Mate_convoy_Check_1b_l1 p1 p2) 0) (fun _ => some (-1)) (fun r => some r)

/-- slices.IndexFunc[[]kerbstone/api.Mate,kerbstone/api.Mate] -/
def ac_slices_IndexFunc_Mate_Mate_convoy_Check_1b : AC :=
  (.seq (.reg [⟨(some 4), .mv (.c (.v (.int .i64 0))), none⟩])
  (.seq (.seq (.reg [⟨(some 6), .mv (.t 0), none⟩, ⟨(some 7), .len (.t 6), none⟩, ⟨(some 8), .mv (.c (.v (.int .i64 0))), none⟩])
  (.block 0
    (.loop
      (.seq (.reg [⟨(some 9), .bin .lss (.t 8) (.t 7), none⟩])
      (.seq (.cond (.t 9)
        .skip
        (.exit 0))
      (.seq (.block 1
        (.seq (.reg [⟨(some 10), .mv (.t 8), none⟩, ⟨(some 5), .mv (.t 10), none⟩])
        (.seq (.reg [⟨(some 11), .mv (.t 1), none⟩, ⟨(some 12), .mv (.t 0), none⟩, ⟨(some 13), .mv (.t 5), none⟩, ⟨(some 14), .idxS 12 (.t 12) (.t 13), none⟩, ⟨(some 15), .load 12 true (.t 14), none⟩, ⟨(some 16), .call (.t 11) [(.t 15)], none⟩])
        (.cond (.t 16)
          (.seq (.reg [⟨(some 17), .mv (.t 5), none⟩, ⟨(some 4), .mv (.t 17), none⟩])
          .ret)
          .skip))))
      (.reg [⟨(some 18), .bin .add (.t 8) (.c (.v (.int .i64 1))), none⟩, ⟨(some 8), .mv (.t 18), none⟩])))))))
  (.seq (.reg [⟨(some 4), .mv (.c (.v (.int .i64 (-1)))), none⟩])
  .ret)))
theorem fn_slices_IndexFunc_Mate_Mate_convoy_Check_1b : FnOK Try.prog 98 19 [.t 4] ac_slices_IndexFunc_Mate_Mate_convoy_Check_1b := ⟨_, _, Try.func98, rfl, Try.ntmps98, by kernel_rfl, ⟨fun _ => [], by kernel_rfl⟩, by kernel_rfl⟩
set_option maxHeartbeats 4000000 in
theorem slices_IndexFunc_Mate_Mate_convoy_Check_1b_ok (p1 : (List Mate)) (p2 : Convoy) (r : Int) (h : slices_IndexFunc_Mate_Mate_convoy_Check_1b p1 p2 = some r) : PCall Try.prog 98 [(.list (List.map eMate p1)), (.fn (.func 75) [] [(.bp [(i64 p2.Tick), (i64 p2.Gap), (.list (List.map eMate p2.Mates)), (i64 p2.Guest_.ID), (i64 p2.Guest_.S), (i64 p2.Guest_.V), (i64 p2.Guest_.Len), (i64 p2.Guest_.End), (i64 p2.Guest_.Ahead), (i64 p2.Guest_.Guess_.R), (i64 p2.Guest_.Guess_.V), (i64 p2.Guest_.From), (i64 p2.Guest_.Until)] 0)])] (i64 r) := by
  refine l_call fn_slices_IndexFunc_Mate_Mate_convoy_Check_1b (Nat.le_of_ble_eq_true rfl) ?_
  unfold slices_IndexFunc_Mate_Mate_convoy_Check_1b at h
  unfold ac_slices_IndexFunc_Mate_Mate_convoy_Check_1b
  refine (l_sub (s0 := ⟨T [(0, (.d (.list (List.map eMate p1)))), (1, (.d (.fn (.func 75) [] [(.bp [(i64 p2.Tick), (i64 p2.Gap), (.list (List.map eMate p2.Mates)), (i64 p2.Guest_.ID), (i64 p2.Guest_.S), (i64 p2.Guest_.V), (i64 p2.Guest_.Len), (i64 p2.Guest_.End), (i64 p2.Guest_.Ahead), (i64 p2.Guest_.Guess_.R), (i64 p2.Guest_.Guess_.V), (i64 p2.Guest_.From), (i64 p2.Guest_.Until)] 0)])))], G []⟩) (sb_of ⟨.of rfl, .of rfl, trivial⟩ trivial) ?_)
  refine l_seq ?_
  refine l_reg fun u1 hu1 => ?_
  refine s_val (.d _) rfl rfl ?_
  refine s_nil ?_
  refine l_seq ?_
  refine l_seq ?_
  refine l_reg fun u2 hu2 => ?_
  refine s_val (.d _) rfl rfl ?_
  refine s_val (.d _) rfl (v_len rfl) ?_
  refine s_val (.d _) rfl rfl ?_
  refine s_nil ?_
  obtain ⟨z1, hz1, h⟩ := thenS_some h
  refine l_join (fun s => ∃ (y1 : Unit) (g1 : Unit), z1 = .inl y1 ∧ Sb ⟨T [], G []⟩ s) ?_ ?_
  · skip
    refine l_block ?_
    refine l_loop (slices_IndexFunc_Mate_Mate_convoy_Check_1b_l1 p1 p2) (fun (x1 : Int) (g2 : Unit) => ⟨T [(0, (.d (.list (List.map eMate p1)))), (1, (.d (.fn (.func 75) [] [(.bp [(i64 p2.Tick), (i64 p2.Gap), (.list (List.map eMate p2.Mates)), (i64 p2.Guest_.ID), (i64 p2.Guest_.S), (i64 p2.Guest_.V), (i64 p2.Guest_.Len), (i64 p2.Guest_.End), (i64 p2.Guest_.Ahead), (i64 p2.Guest_.Guess_.R), (i64 p2.Guest_.Guess_.V), (i64 p2.Guest_.From), (i64 p2.Guest_.Until)] 0)]))), (7, (.d (i64 (p1.length : Int)))), (8, (.d (i64 x1)))], G []⟩) 0 () _ hz1 (sb_of ⟨.of rfl, .of rfl, .of rfl, .of rfl, trivial⟩ trivial) ?_
    intro x1 g2 z2 hz2 ez2
    unfold slices_IndexFunc_Mate_Mate_convoy_Check_1b_l1 at hz2
    refine l_seq ?_
    refine l_reg fun u3 hu3 => ?_
    refine s_val (.d _) rfl rfl ?_
    refine s_nil ?_
    refine l_seq ?_
    refine l_cond (decide (x1 < (p1.length : Int))) rfl (fun c1 => ?_) (fun c1 => ?_)
    · replace hz2 := cond_t c1 hz2
      refine l_skip ?_
      refine l_seq ?_
      refine l_block ?_
      refine l_seq ?_
      refine l_reg fun u4 hu4 => ?_
      refine s_val (.d _) rfl rfl ?_
      refine s_val (.d _) rfl rfl ?_
      refine s_nil ?_
      refine l_seq ?_
      refine l_reg fun u5 hu5 => ?_
      refine s_val (.d _) rfl rfl ?_
      refine s_val (.d _) rfl rfl ?_
      refine s_val (.d _) rfl rfl ?_
      obtain ⟨v1, hv1, hz2⟩ := bind_some hz2
      refine s_val (.d _) rfl (v_idx rfl rfl hv1 rfl) ?_
      refine s_val (.d _) rfl (v_loadLG rfl hv1 rfl rfl) ?_
      obtain ⟨v2, hv2, hz2⟩ := bind_some hz2
      refine s_call rfl rfl all2_refl (convoy_Check_1_b_ok _ _  _ hv2) (.inl rfl) ?_
      refine s_nil ?_
      refine l_cond v2 rfl (fun c2 => ?_) (fun c2 => ?_)
      · replace hz2 := cond_t c2 hz2
        refine l_seq ?_
        refine l_reg fun u6 hu6 => ?_
        refine s_val (.d _) rfl rfl ?_
        refine s_val (.d _) rfl rfl ?_
        refine s_nil ?_
        refine l_ret ?_
        obtain rfl := Option.some.inj hz2
        obtain rfl := ez2 _ rfl
        refine ⟨nofun, awl_ret ?_⟩
        rw [Sum.elim_inr] at h
        obtain rfl := Option.some.inj h
        refine fin_ok (.inr rfl) (resD1 (res_t rfl) rf_d) ?_
        exact (.refl _)
      · replace hz2 := cond_f c2 hz2
        refine l_skip ?_
        refine l_end ?_
        refine l_reg fun u7 hu7 => ?_
        refine s_val (.d _) rfl rfl ?_
        refine s_val (.d _) rfl rfl ?_
        refine s_nil ?_
        refine l_nil ?_
        obtain rfl := Option.some.inj hz2
        exact ⟨rfl, (), (sb_of ⟨.of rfl, .of rfl, .of rfl, .of rfl, trivial⟩ trivial)⟩
    · replace hz2 := cond_f c1 hz2
      refine l_exitN rfl ?_
      obtain rfl := Option.some.inj hz2
      obtain rfl := ez2 _ rfl
      refine ⟨nofun, awl_pop rfl (l_j ?_)⟩
      exact ⟨_, (), rfl, (sb_of trivial trivial)⟩
  · rintro _ ⟨y1, g1, rfl, q1⟩
    rw [Sum.elim_inl] at h
    refine l_sub q1 ?_
    refine l_seq ?_
    refine l_reg fun u8 hu8 => ?_
    refine s_val (.d _) rfl rfl ?_
    refine s_nil ?_
    refine l_ret ?_
    obtain rfl := Option.some.inj h
    refine fin_ok (.inr rfl) (resD1 (res_t rfl) rf_d) ?_
    exact (.refl _)

noncomputable def slices_ContainsFunc_Mate_Mate_convoy_Check_1b (p1 : (List Mate)) (p2 : Convoy) : Option Bool :=
  (slices_IndexFunc_Mate_Mate_convoy_Check_1b p1 p2).bind fun v1 => some (decide (v1 ≥ 0))

/-- slices.ContainsFunc[[]kerbstone/api.Mate,kerbstone/api.Mate] -/
def ac_slices_ContainsFunc_Mate_Mate_convoy_Check_1b : AC :=
  (.seq (.reg [⟨(some 4), .mv (.c (.v (.bool false))), none⟩])
  (.seq (.reg [⟨(some 5), .mv (.t 0), none⟩, ⟨(some 6), .mv (.t 1), none⟩, ⟨(some 7), .call (.c (.fn (.func 98) [] [])) [(.t 5), (.t 6)], none⟩, ⟨(some 8), .bin .geq (.t 7) (.c (.v (.int .i64 0))), none⟩, ⟨(some 4), .mv (.t 8), none⟩])
  .ret))
theorem fn_slices_ContainsFunc_Mate_Mate_convoy_Check_1b : FnOK Try.prog 77 9 [.t 4] ac_slices_ContainsFunc_Mate_Mate_convoy_Check_1b := ⟨_, _, Try.func77, rfl, Try.ntmps77, by kernel_rfl, ⟨fun _ => [], by kernel_rfl⟩, by kernel_rfl⟩
theorem slices_ContainsFunc_Mate_Mate_convoy_Check_1b_ok (p1 : (List Mate)) (p2 : Convoy) (r : Bool) (h : slices_ContainsFunc_Mate_Mate_convoy_Check_1b p1 p2 = some r) : PCall Try.prog 77 [(.list (List.map eMate p1)), (.fn (.func 75) [] [(.bp [(i64 p2.Tick), (i64 p2.Gap), (.list (List.map eMate p2.Mates)), (i64 p2.Guest_.ID), (i64 p2.Guest_.S), (i64 p2.Guest_.V), (i64 p2.Guest_.Len), (i64 p2.Guest_.End), (i64 p2.Guest_.Ahead), (i64 p2.Guest_.Guess_.R), (i64 p2.Guest_.Guess_.V), (i64 p2.Guest_.From), (i64 p2.Guest_.Until)] 0)])] (bo r) := by
  refine l_call fn_slices_ContainsFunc_Mate_Mate_convoy_Check_1b (Nat.le_of_ble_eq_true rfl) ?_
  unfold slices_ContainsFunc_Mate_Mate_convoy_Check_1b at h
  unfold ac_slices_ContainsFunc_Mate_Mate_convoy_Check_1b
  refine (l_sub (s0 := ⟨T [(0, (.d (.list (List.map eMate p1)))), (1, (.d (.fn (.func 75) [] [(.bp [(i64 p2.Tick), (i64 p2.Gap), (.list (List.map eMate p2.Mates)), (i64 p2.Guest_.ID), (i64 p2.Guest_.S), (i64 p2.Guest_.V), (i64 p2.Guest_.Len), (i64 p2.Guest_.End), (i64 p2.Guest_.Ahead), (i64 p2.Guest_.Guess_.R), (i64 p2.Guest_.Guess_.V), (i64 p2.Guest_.From), (i64 p2.Guest_.Until)] 0)])))], G []⟩) (sb_of ⟨.of rfl, .of rfl, trivial⟩ trivial) ?_)
  refine l_seq ?_
  refine l_reg fun u1 hu1 => ?_
  refine s_val (.d _) rfl rfl ?_
  refine s_nil ?_
  refine l_seq ?_
  refine l_reg fun u2 hu2 => ?_
  refine s_val (.d _) rfl rfl ?_
  refine s_val (.d _) rfl rfl ?_
  obtain ⟨v1, hv1, h⟩ := bind_some h
  refine s_call rfl rfl all2_refl (slices_IndexFunc_Mate_Mate_convoy_Check_1b_ok _ _  _ hv1) (.inl rfl) ?_
  refine s_val (.d _) rfl rfl ?_
  refine s_val (.d _) rfl rfl ?_
  refine s_nil ?_
  refine l_ret ?_
  obtain rfl := Option.some.inj h
  refine fin_ok (.inr rfl) (resD1 (res_t rfl) rf_d) ?_
  exact (.refl _)

noncomputable def convoy_Check_l1 (p1 : Convoy) (x1 : Int) : Option (Stp Int (Sum Unit Int)) :=
  cond (decide (x1 < (p1.Mates.length : Int))) ((geti p1.Mates x1).bind fun v3 => cond ((((x1 == 0) && (v3.Ahead != 0)) || (((decide (x1 > 0)) && (v3.Until == 0)) && (v3.Ahead == 0))) || ((v3.Ward == 0) && (v3.Until != 0))) (some (.out (.inr 10))) (some (.go (w64 (x1 + 1))))) (some (.out (.inl ())))
noncomputable def convoy_Check (p1 : Convoy) : Option Int :=
  (convoy_numbers p1).bind fun v1 => cond (v1 != 0) (some v1) ((convoy_orders p1).bind fun v2 => cond (v2 != 0) (some v2) (thenS (loop (convoy_Check_l1 p1) 0) (fun _ => (slices_ContainsFunc_Mate_Mate_convoy_Check_1b p1.Mates p1).bind fun v4 => ((cond ((!v4) && (p1.Guest_.ID != 0)) (convoy_stop p1.Guest_.V) (some default))).bind fun v5 => cond (v4 || ((p1.Guest_.ID != 0) && (decide ((w64 (p1.Guest_.S + v5)) ≥ p1.Guest_.End)))) (some 12) (some 0)) (fun r => some r)))

/-- kerbstone/convoy.Check -/
def ac_convoy_Check : AC :=
  (.seq (.reg [⟨(some 1), .box 38 true (.t 0), none⟩, ⟨(some 2), .mv (.c (.v (.int .i64 0))), none⟩])
  (.seq (.seq (.reg [⟨(some 9), .load 13 true (.t 1), none⟩, ⟨(some 10), .call (.c (.fn (.func 73) [] [])) [(.t 9)], none⟩, ⟨(some 3), .mv (.t 10), none⟩])
  (.seq (.reg [⟨(some 11), .mv (.t 3), none⟩, ⟨(some 12), .bin .neq (.t 11) (.c (.v (.int .i64 0))), none⟩])
  (.cond (.t 12)
    (.seq (.reg [⟨(some 13), .mv (.t 3), none⟩, ⟨(some 2), .mv (.t 13), none⟩])
    .ret)
    .skip)))
  (.seq (.seq (.reg [⟨(some 14), .load 13 true (.t 1), none⟩, ⟨(some 15), .call (.c (.fn (.func 74) [] [])) [(.t 14)], none⟩, ⟨(some 4), .mv (.t 15), none⟩])
  (.seq (.reg [⟨(some 16), .mv (.t 4), none⟩, ⟨(some 17), .bin .neq (.t 16) (.c (.v (.int .i64 0))), none⟩])
  (.cond (.t 17)
    (.seq (.reg [⟨(some 18), .mv (.t 4), none⟩, ⟨(some 2), .mv (.t 18), none⟩])
    .ret)
    .skip)))
  (.seq (.seq (.reg [⟨(some 19), .fieldA 2 (.t 1), none⟩, ⟨(some 20), .load 1 false (.t 19), none⟩, ⟨(some 21), .len (.t 20), none⟩, ⟨(some 22), .mv (.c (.v (.int .i64 0))), none⟩])
  (.block 0
    (.loop
      (.seq (.reg [⟨(some 23), .bin .lss (.t 22) (.t 21), none⟩])
      (.seq (.cond (.t 23)
        .skip
        (.exit 0))
      (.seq (.block 1
        (.seq (.reg [⟨(some 24), .mv (.t 22), none⟩, ⟨(some 25), .idxS 12 (.t 20) (.t 22), none⟩, ⟨(some 26), .load 12 true (.t 25), none⟩, ⟨(some 6), .alloc 65 [(.v (.int .i64 0)), (.v (.int .i64 0)), (.v (.int .i64 0)), (.v (.int .i64 0)), (.v (.int .i64 0)), (.v (.int .i64 0)), (.v (.int .i64 0)), (.v (.bool false)), (.v (.int .i64 0)), (.v (.int .i64 0)), (.v (.int .i64 0)), (.v (.int .i64 0))], none⟩, ⟨(some 5), .mv (.t 24), none⟩, ⟨none, .store 12 (.t 6) (.t 26), none⟩])
        (.seq (.reg [⟨(some 27), .mv (.t 5), none⟩, ⟨(some 28), .bin .gtr (.t 27) (.c (.v (.int .i64 0))), none⟩, ⟨(some 29), .mv (.t 28), none⟩, ⟨(some 30), .fieldA 11 (.t 6), (some (29, true))⟩, ⟨(some 31), .load 1 false (.t 30), (some (29, true))⟩, ⟨(some 32), .bin .eql (.t 31) (.c (.v (.int .i64 0))), (some (29, true))⟩, ⟨(some 33), .pick (.t 29) (.t 32) (.c (.v (.bool false))), none⟩, ⟨(some 34), .mv (.t 33), none⟩, ⟨(some 35), .fieldA 4 (.t 6), (some (34, true))⟩, ⟨(some 36), .load 1 false (.t 35), (some (34, true))⟩, ⟨(some 37), .bin .eql (.t 36) (.c (.v (.int .i64 0))), (some (34, true))⟩, ⟨(some 38), .pick (.t 34) (.t 37) (.c (.v (.bool false))), none⟩, ⟨(some 7), .mv (.t 38), none⟩])
        (.seq (.reg [⟨(some 39), .mv (.t 5), none⟩, ⟨(some 40), .bin .eql (.t 39) (.c (.v (.int .i64 0))), none⟩, ⟨(some 41), .mv (.t 40), none⟩, ⟨(some 42), .fieldA 4 (.t 6), (some (41, true))⟩, ⟨(some 43), .load 1 false (.t 42), (some (41, true))⟩, ⟨(some 44), .bin .neq (.t 43) (.c (.v (.int .i64 0))), (some (41, true))⟩, ⟨(some 45), .pick (.t 41) (.t 44) (.c (.v (.bool false))), none⟩, ⟨(some 46), .mv (.t 45), none⟩, ⟨(some 47), .mv (.t 7), (some (46, false))⟩, ⟨(some 48), .pick (.t 46) (.c (.v (.bool true))) (.t 47), none⟩, ⟨(some 49), .mv (.t 48), none⟩, ⟨(some 50), .fieldA 8 (.t 6), (some (49, false))⟩, ⟨(some 51), .load 1 false (.t 50), (some (49, false))⟩, ⟨(some 52), .bin .eql (.t 51) (.c (.v (.int .i64 0))), (some (49, false))⟩, ⟨(some 53), .mv (.t 52), (some (49, false))⟩, ⟨(some 54), .fieldA 11 (.t 6), (some (53, true))⟩, ⟨(some 55), .load 1 false (.t 54), (some (53, true))⟩, ⟨(some 56), .bin .neq (.t 55) (.c (.v (.int .i64 0))), (some (53, true))⟩, ⟨(some 57), .pick (.t 53) (.t 56) (.c (.v (.bool false))), (some (49, false))⟩, ⟨(some 58), .pick (.t 49) (.c (.v (.bool true))) (.t 57), none⟩])
        (.cond (.t 58)
          (.seq (.reg [⟨(some 2), .mv (.c (.v (.int .i64 10))), none⟩])
          .ret)
          .skip)))))
      (.reg [⟨(some 59), .bin .add (.t 22) (.c (.v (.int .i64 1))), none⟩, ⟨(some 22), .mv (.t 59), none⟩])))))))
  (.seq (.reg [⟨(some 60), .mkfn (.func 75) [] [(.t 1)], none⟩, ⟨(some 8), .mv (.t 60), none⟩])
  (.seq (.seq (.draw [⟨(some 61), .fieldA 2 (.t 1), none⟩, ⟨(some 62), .load 1 false (.t 61), none⟩, ⟨(some 63), .mv (.t 8), none⟩, ⟨(some 64), .call (.c (.fn (.func 77) [] [])) [(.t 62), (.t 63)], none⟩, ⟨(some 65), .mv (.t 64), none⟩, ⟨(some 66), .fieldA 3 (.t 1), (some (65, false))⟩, ⟨(some 67), .fieldA 0 (.t 66), (some (65, false))⟩, ⟨(some 68), .load 1 false (.t 67), (some (65, false))⟩, ⟨(some 69), .bin .neq (.t 68) (.c (.v (.int .i64 0))), (some (65, false))⟩, ⟨(some 70), .mv (.t 69), (some (65, false))⟩, ⟨(some 71), .fieldA 3 (.t 1), (some (70, true))⟩, ⟨(some 72), .fieldA 1 (.t 71), (some (70, true))⟩, ⟨(some 73), .load 1 false (.t 72), (some (70, true))⟩, ⟨(some 74), .fieldA 3 (.t 1), (some (70, true))⟩, ⟨(some 75), .fieldA 2 (.t 74), (some (70, true))⟩, ⟨(some 76), .load 1 false (.t 75), (some (70, true))⟩, ⟨(some 77), .call (.c (.fn (.func 62) [] [])) [(.t 76)], (some (70, true))⟩, ⟨(some 78), .bin .add (.t 73) (.t 77), (some (70, true))⟩, ⟨(some 79), .fieldA 3 (.t 1), (some (70, true))⟩, ⟨(some 80), .fieldA 4 (.t 79), (some (70, true))⟩, ⟨(some 81), .load 1 false (.t 80), (some (70, true))⟩, ⟨(some 82), .bin .geq (.t 78) (.t 81), (some (70, true))⟩, ⟨(some 83), .pick (.t 70) (.t 82) (.c (.v (.bool false))), (some (65, false))⟩, ⟨(some 84), .pick (.t 65) (.c (.v (.bool true))) (.t 83), none⟩] [])
  (.cond (.t 84)
    (.seq (.reg [⟨(some 2), .mv (.c (.v (.int .i64 12))), none⟩])
    .ret)
    .skip))
  (.seq (.reg [⟨(some 2), .mv (.c (.v (.int .i64 0))), none⟩])
  .ret)))))))
theorem fn_convoy_Check : FnOK Try.prog 32 85 [.t 2] ac_convoy_Check := ⟨_, _, Try.func32, rfl, Try.ntmps32, by kernel_rfl, ⟨fun _ => [], by kernel_rfl⟩, by kernel_rfl⟩
set_option maxHeartbeats 4000000 in
theorem convoy_Check_ok (p1 : Convoy) (r : Int) (h : convoy_Check p1 = some r) : PCall Try.prog 32 [(.agg [(i64 p1.Tick), (i64 p1.Gap), (.list (List.map eMate p1.Mates)), (i64 p1.Guest_.ID), (i64 p1.Guest_.S), (i64 p1.Guest_.V), (i64 p1.Guest_.Len), (i64 p1.Guest_.End), (i64 p1.Guest_.Ahead), (i64 p1.Guest_.Guess_.R), (i64 p1.Guest_.Guess_.V), (i64 p1.Guest_.From), (i64 p1.Guest_.Until)])] (i64 r) := by
  refine l_call fn_convoy_Check (Nat.le_of_ble_eq_true rfl) ?_
  unfold convoy_Check at h
  unfold ac_convoy_Check
  refine (l_sub (s0 := ⟨T [(0, (.d (.agg [(i64 p1.Tick), (i64 p1.Gap), (.list (List.map eMate p1.Mates)), (i64 p1.Guest_.ID), (i64 p1.Guest_.S), (i64 p1.Guest_.V), (i64 p1.Guest_.Len), (i64 p1.Guest_.End), (i64 p1.Guest_.Ahead), (i64 p1.Guest_.Guess_.R), (i64 p1.Guest_.Guess_.V), (i64 p1.Guest_.From), (i64 p1.Guest_.Until)])))], G []⟩) (sb_of ⟨.of rfl, trivial⟩ trivial) ?_)
  refine l_seq ?_
  refine l_reg fun u1 hu1 => ?_
  refine s_new (.ptr _ _) (.box _ _) rfl rfl ?_
  refine s_val (.d _) rfl rfl ?_
  refine s_nil ?_
  refine l_seq ?_
  refine l_seq ?_
  refine l_reg fun u2 hu2 => ?_
  refine s_val (.d _) rfl (v_loadG rfl G_hit rfl rfl) ?_
  obtain ⟨v1, hv1, h⟩ := bind_some h
  refine s_call rfl rfl all2_refl (convoy_numbers_ok _  _ hv1) (.inl rfl) ?_
  refine s_val (.d _) rfl rfl ?_
  refine s_nil ?_
  refine l_seq ?_
  refine l_reg fun u3 hu3 => ?_
  refine s_val (.d _) rfl rfl ?_
  refine s_val (.d _) rfl rfl ?_
  refine s_nil ?_
  refine l_cond (v1 != 0) rfl (fun c1 => ?_) (fun c1 => ?_)
  · replace h := cond_t c1 h
    refine l_seq ?_
    refine l_reg fun u4 hu4 => ?_
    refine s_val (.d _) rfl rfl ?_
    refine s_val (.d _) rfl rfl ?_
    refine s_nil ?_
    refine l_ret ?_
    obtain rfl := Option.some.inj h
    refine fin_ok (.inr rfl) (resD1 (res_t rfl) rf_d) ?_
    exact (.refl _)
  · replace h := cond_f c1 h
    refine l_skip ?_
    refine l_seq ?_
    refine l_seq ?_
    refine l_reg fun u5 hu5 => ?_
    refine s_val (.d _) rfl (v_loadG rfl G_hit rfl rfl) ?_
    obtain ⟨v2, hv2, h⟩ := bind_some h
    refine s_call rfl rfl all2_refl (convoy_orders_ok _  _ hv2) (.inl rfl) ?_
    refine s_val (.d _) rfl rfl ?_
    refine s_nil ?_
    refine l_seq ?_
    refine l_reg fun u6 hu6 => ?_
    refine s_val (.d _) rfl rfl ?_
    refine s_val (.d _) rfl rfl ?_
    refine s_nil ?_
    refine l_cond (v2 != 0) rfl (fun c2 => ?_) (fun c2 => ?_)
    · replace h := cond_t c2 h
      refine l_seq ?_
      refine l_reg fun u7 hu7 => ?_
      refine s_val (.d _) rfl rfl ?_
      refine s_val (.d _) rfl rfl ?_
      refine s_nil ?_
      refine l_ret ?_
      obtain rfl := Option.some.inj h
      refine fin_ok (.inr rfl) (resD1 (res_t rfl) rf_d) ?_
      exact (.refl _)
    · replace h := cond_f c2 h
      refine l_skip ?_
      refine l_seq ?_
      refine l_seq ?_
      refine l_reg fun u8 hu8 => ?_
      refine s_val (.ptr _ _) rfl rfl ?_
      refine s_val (.d _) rfl (v_load rfl G_hit rfl) ?_
      refine s_val (.d _) rfl (v_len rfl) ?_
      refine s_val (.d _) rfl rfl ?_
      refine s_nil ?_
      obtain ⟨z1, hz1, h⟩ := thenS_some h
      refine l_join (fun s => ∃ (y1 : Unit) (g1 : Unit), z1 = .inl y1 ∧ Sb ⟨T [(1, (.ptr (1, u1) 0))], G [((1, u1), some (.box 38 [(.d (i64 p1.Tick)), (.d (i64 p1.Gap)), (.d (.list (List.map eMate p1.Mates))), (.d (i64 p1.Guest_.ID)), (.d (i64 p1.Guest_.S)), (.d (i64 p1.Guest_.V)), (.d (i64 p1.Guest_.Len)), (.d (i64 p1.Guest_.End)), (.d (i64 p1.Guest_.Ahead)), (.d (i64 p1.Guest_.Guess_.R)), (.d (i64 p1.Guest_.Guess_.V)), (.d (i64 p1.Guest_.From)), (.d (i64 p1.Guest_.Until))]))]⟩ s) ?_ ?_
      · skip
        refine l_block ?_
        refine l_loop (convoy_Check_l1 p1) (fun (x1 : Int) (g2 : Unit) => ⟨T [(1, (.ptr (1, u1) 0)), (20, (.d (.list (List.map eMate p1.Mates)))), (21, (.d (i64 (p1.Mates.length : Int)))), (22, (.d (i64 x1)))], G [((1, u1), some (.box 38 [(.d (i64 p1.Tick)), (.d (i64 p1.Gap)), (.d (.list (List.map eMate p1.Mates))), (.d (i64 p1.Guest_.ID)), (.d (i64 p1.Guest_.S)), (.d (i64 p1.Guest_.V)), (.d (i64 p1.Guest_.Len)), (.d (i64 p1.Guest_.End)), (.d (i64 p1.Guest_.Ahead)), (.d (i64 p1.Guest_.Guess_.R)), (.d (i64 p1.Guest_.Guess_.V)), (.d (i64 p1.Guest_.From)), (.d (i64 p1.Guest_.Until))]))]⟩) 0 () _ hz1 (sb_of ⟨.of rfl, .of rfl, .of rfl, .of rfl, trivial⟩ (sbG_some G_hit (.of rfl) trivial)) ?_
        intro x1 g2 z2 hz2 ez2
        unfold convoy_Check_l1 at hz2
        refine l_seq ?_
        refine l_reg fun u9 hu9 => ?_
        refine s_val (.d _) rfl rfl ?_
        refine s_nil ?_
        refine l_seq ?_
        refine l_cond (decide (x1 < (p1.Mates.length : Int))) rfl (fun c3 => ?_) (fun c3 => ?_)
        · replace hz2 := cond_t c3 hz2
          refine l_skip ?_
          refine l_seq ?_
          refine l_block ?_
          refine l_seq ?_
          refine l_reg fun u10 hu10 => ?_
          refine s_val (.d _) rfl rfl ?_
          obtain ⟨v3, hv3, hz2⟩ := bind_some hz2
          refine s_val (.d _) rfl (v_idx rfl rfl hv3 rfl) ?_
          refine s_val (.d _) rfl (v_loadLG rfl hv3 rfl rfl) ?_
          refine s_new (.ptr _ _) (.box _ _) rfl rfl ?_
          refine s_val (.d _) rfl rfl ?_
          refine s_store _ _ _ _ _ rfl rfl rfl G_hit (Nat.le_of_ble_eq_true rfl) [(.d (i64 v3.ID)), (.d (i64 v3.S)), (.d (i64 v3.V)), (.d (i64 v3.Len)), (.d (i64 v3.Ahead)), (.d (i64 v3.Guess_.R)), (.d (i64 v3.Guess_.V)), (.d (bo v3.Trust)), (.d (i64 v3.Ward)), (.d (i64 v3.WardGuess.R)), (.d (i64 v3.WardGuess.V)), (.d (i64 v3.Until))] rfl ?_
          refine s_nil ?_
          refine l_seq ?_
          refine l_reg fun u11 hu11 => ?_
          refine s_val (.d _) rfl rfl ?_
          refine s_val (.d _) rfl rfl ?_
          refine s_val (.d _) rfl rfl ?_
          refine g_val (decide (x1 > 0)) (.ptr _ _) rfl (gw_t rfl) (fun w1 => rfl) ?_
          refine g_val (decide (x1 > 0)) (.d _) rfl (gw_t rfl) (fun w2 => (v_load (gd_pos w2) G_hit rfl)) ?_
          refine g_val (decide (x1 > 0)) (.d _) rfl (gw_t rfl) (fun w3 => (v_bin (gd_pos w3) rfl rfl)) ?_
          refine s_val (.d _) rfl (v_and rfl (fun hc => gd_pos hc) rfl) ?_
          refine s_val (.d _) rfl rfl ?_
          refine g_val ((decide (x1 > 0)) && (v3.Until == 0)) (.ptr _ _) rfl (gw_t rfl) (fun w4 => rfl) ?_
          refine g_val ((decide (x1 > 0)) && (v3.Until == 0)) (.d _) rfl (gw_t rfl) (fun w5 => (v_load (gd_pos w5) G_hit rfl)) ?_
          refine g_val ((decide (x1 > 0)) && (v3.Until == 0)) (.d _) rfl (gw_t rfl) (fun w6 => (v_bin (gd_pos w6) rfl rfl)) ?_
          refine s_val (.d _) rfl (v_and rfl (fun hc => gd_pos hc) rfl) ?_
          refine s_val (.d _) rfl rfl ?_
          refine s_nil ?_
          refine l_seq ?_
          refine l_sub (s0 := ⟨T [(1, (.ptr (1, u1) 0)), (5, (.d (i64 x1))), (6, (.ptr (6, u10) 0)), (7, (.d (bo (((decide (x1 > 0)) && (v3.Until == 0)) && (v3.Ahead == 0))))), (20, (.d (.list (List.map eMate p1.Mates)))), (21, (.d (i64 (p1.Mates.length : Int)))), (22, (.d (i64 x1))), (30, (gd (decide (x1 > 0)) true (.ptr (6, u10) 11))), (31, (gd (decide (x1 > 0)) true (.d (i64 v3.Until)))), (32, (gd (decide (x1 > 0)) true (.d (bo (v3.Until == 0))))), (35, (gd ((decide (x1 > 0)) && (v3.Until == 0)) true (.ptr (6, u10) 4))), (36, (gd ((decide (x1 > 0)) && (v3.Until == 0)) true (.d (i64 v3.Ahead)))), (37, (gd ((decide (x1 > 0)) && (v3.Until == 0)) true (.d (bo (v3.Ahead == 0)))))], G [((1, u1), some (.box 38 [(.d (i64 p1.Tick)), (.d (i64 p1.Gap)), (.d (.list (List.map eMate p1.Mates))), (.d (i64 p1.Guest_.ID)), (.d (i64 p1.Guest_.S)), (.d (i64 p1.Guest_.V)), (.d (i64 p1.Guest_.Len)), (.d (i64 p1.Guest_.End)), (.d (i64 p1.Guest_.Ahead)), (.d (i64 p1.Guest_.Guess_.R)), (.d (i64 p1.Guest_.Guess_.V)), (.d (i64 p1.Guest_.From)), (.d (i64 p1.Guest_.Until))])), ((6, u10), some (.box 65 [(.d (i64 v3.ID)), (.d (i64 v3.S)), (.d (i64 v3.V)), (.d (i64 v3.Len)), (.d (i64 v3.Ahead)), (.d (i64 v3.Guess_.R)), (.d (i64 v3.Guess_.V)), (.d (bo v3.Trust)), (.d (i64 v3.Ward)), (.d (i64 v3.WardGuess.R)), (.d (i64 v3.WardGuess.V)), (.d (i64 v3.Until))]))]⟩) (sb_of ⟨.of rfl, .of rfl, .of rfl, .of rfl, .of rfl, .of rfl, .of rfl, .of rfl, .of rfl, .of rfl, .of rfl, .of rfl, .of rfl, trivial⟩ (sbG_some (G_skip rfl (G_skip rfl G_hit)) (.of rfl) (sbG_some G_hit (.of rfl) trivial))) ?_
          refine l_reg fun u12 hu12 => ?_
          refine s_val (.d _) rfl rfl ?_
          refine s_val (.d _) rfl rfl ?_
          refine s_val (.d _) rfl rfl ?_
          refine g_val (x1 == 0) (.ptr _ _) rfl (gw_t rfl) (fun w7 => rfl) ?_
          refine g_val (x1 == 0) (.d _) rfl (gw_t rfl) (fun w8 => (v_load (gd_pos w8) (G_skip rfl G_hit) rfl)) ?_
          refine g_val (x1 == 0) (.d _) rfl (gw_t rfl) (fun w9 => (v_bin (gd_pos w9) rfl rfl)) ?_
          refine s_val (.d _) rfl (v_and rfl (fun hc => gd_pos hc) rfl) ?_
          refine s_val (.d _) rfl rfl ?_
          refine g_val (!((x1 == 0) && (v3.Ahead != 0))) (.d _) rfl (gw_f rfl) (fun w10 => rfl) ?_
          refine s_val (.d _) rfl (v_or rfl rfl (fun hc => gd_pos (not_t hc))) ?_
          refine s_val (.d _) rfl rfl ?_
          refine g_val (!(((x1 == 0) && (v3.Ahead != 0)) || (((decide (x1 > 0)) && (v3.Until == 0)) && (v3.Ahead == 0)))) (.ptr _ _) rfl (gw_f rfl) (fun w11 => rfl) ?_
          refine g_val (!(((x1 == 0) && (v3.Ahead != 0)) || (((decide (x1 > 0)) && (v3.Until == 0)) && (v3.Ahead == 0)))) (.d _) rfl (gw_f rfl) (fun w12 => (v_load (gd_pos w12) (G_skip rfl G_hit) rfl)) ?_
          refine g_val (!(((x1 == 0) && (v3.Ahead != 0)) || (((decide (x1 > 0)) && (v3.Until == 0)) && (v3.Ahead == 0)))) (.d _) rfl (gw_f rfl) (fun w13 => (v_bin (gd_pos w13) rfl rfl)) ?_
          refine g_val (!(((x1 == 0) && (v3.Ahead != 0)) || (((decide (x1 > 0)) && (v3.Until == 0)) && (v3.Ahead == 0)))) (.d _) rfl (gw_f rfl) (fun w14 => (v_mv (gd_pos w14))) ?_
          refine g_val ((!(((x1 == 0) && (v3.Ahead != 0)) || (((decide (x1 > 0)) && (v3.Until == 0)) && (v3.Ahead == 0)))) && (v3.Ward == 0)) (.ptr _ _) rfl (gw_gt rfl) (fun w15 => rfl) ?_
          refine g_val ((!(((x1 == 0) && (v3.Ahead != 0)) || (((decide (x1 > 0)) && (v3.Until == 0)) && (v3.Ahead == 0)))) && (v3.Ward == 0)) (.d _) rfl (gw_gt rfl) (fun w16 => (v_load (gd_pos w16) (G_skip rfl G_hit) rfl)) ?_
          refine g_val ((!(((x1 == 0) && (v3.Ahead != 0)) || (((decide (x1 > 0)) && (v3.Until == 0)) && (v3.Ahead == 0)))) && (v3.Ward == 0)) (.d _) rfl (gw_gt rfl) (fun w17 => (v_bin (gd_pos w17) rfl rfl)) ?_
          refine g_val (!(((x1 == 0) && (v3.Ahead != 0)) || (((decide (x1 > 0)) && (v3.Until == 0)) && (v3.Ahead == 0)))) (.d _) rfl (gw_f rfl) (fun w18 => (v_and (gd_pos w18) (fun hc => gd_pos (and_i w18 hc)) rfl)) ?_
          refine s_val (.d _) rfl (v_or rfl rfl (fun hc => gd_pos (not_t hc))) ?_
          refine s_nil ?_
          refine l_cond ((((x1 == 0) && (v3.Ahead != 0)) || (((decide (x1 > 0)) && (v3.Until == 0)) && (v3.Ahead == 0))) || ((v3.Ward == 0) && (v3.Until != 0))) rfl (fun c4 => ?_) (fun c4 => ?_)
          · replace hz2 := cond_t c4 hz2
            refine l_seq ?_
            refine l_sub (s0 := ⟨T [], G []⟩) (sb_of trivial trivial) ?_
            refine l_reg fun u13 hu13 => ?_
            refine s_val (.d _) rfl rfl ?_
            refine s_nil ?_
            refine l_ret ?_
            obtain rfl := Option.some.inj hz2
            obtain rfl := ez2 _ rfl
            refine ⟨nofun, awl_ret ?_⟩
            rw [Sum.elim_inr] at h
            obtain rfl := Option.some.inj h
            refine fin_ok (.inr rfl) (resD1 (res_t rfl) rf_d) ?_
            exact (.refl _)
          · replace hz2 := cond_f c4 hz2
            refine l_skip ?_
            refine l_end ?_
            refine l_sub (s0 := ⟨T [(1, (.ptr (1, u1) 0)), (20, (.d (.list (List.map eMate p1.Mates)))), (21, (.d (i64 (p1.Mates.length : Int)))), (22, (.d (i64 x1))), (30, (gd (decide (x1 > 0)) true (.ptr (6, u10) 11))), (31, (gd (decide (x1 > 0)) true (.d (i64 v3.Until)))), (32, (gd (decide (x1 > 0)) true (.d (bo (v3.Until == 0))))), (35, (gd ((decide (x1 > 0)) && (v3.Until == 0)) true (.ptr (6, u10) 4))), (36, (gd ((decide (x1 > 0)) && (v3.Until == 0)) true (.d (i64 v3.Ahead)))), (37, (gd ((decide (x1 > 0)) && (v3.Until == 0)) true (.d (bo (v3.Ahead == 0))))), (42, (gd (x1 == 0) true (.ptr (6, u10) 4))), (43, (gd (x1 == 0) true (.d (i64 v3.Ahead)))), (44, (gd (x1 == 0) true (.d (bo (v3.Ahead != 0))))), (47, (gd (!((x1 == 0) && (v3.Ahead != 0))) true (.d (bo (((decide (x1 > 0)) && (v3.Until == 0)) && (v3.Ahead == 0)))))), (50, (gd (!(((x1 == 0) && (v3.Ahead != 0)) || (((decide (x1 > 0)) && (v3.Until == 0)) && (v3.Ahead == 0)))) true (.ptr (6, u10) 8))), (51, (gd (!(((x1 == 0) && (v3.Ahead != 0)) || (((decide (x1 > 0)) && (v3.Until == 0)) && (v3.Ahead == 0)))) true (.d (i64 v3.Ward)))), (52, (gd (!(((x1 == 0) && (v3.Ahead != 0)) || (((decide (x1 > 0)) && (v3.Until == 0)) && (v3.Ahead == 0)))) true (.d (bo (v3.Ward == 0))))), (53, (gd (!(((x1 == 0) && (v3.Ahead != 0)) || (((decide (x1 > 0)) && (v3.Until == 0)) && (v3.Ahead == 0)))) true (.d (bo (v3.Ward == 0))))), (54, (gd ((!(((x1 == 0) && (v3.Ahead != 0)) || (((decide (x1 > 0)) && (v3.Until == 0)) && (v3.Ahead == 0)))) && (v3.Ward == 0)) true (.ptr (6, u10) 11))), (55, (gd ((!(((x1 == 0) && (v3.Ahead != 0)) || (((decide (x1 > 0)) && (v3.Until == 0)) && (v3.Ahead == 0)))) && (v3.Ward == 0)) true (.d (i64 v3.Until)))), (56, (gd ((!(((x1 == 0) && (v3.Ahead != 0)) || (((decide (x1 > 0)) && (v3.Until == 0)) && (v3.Ahead == 0)))) && (v3.Ward == 0)) true (.d (bo (v3.Until != 0))))), (57, (gd (!(((x1 == 0) && (v3.Ahead != 0)) || (((decide (x1 > 0)) && (v3.Until == 0)) && (v3.Ahead == 0)))) true (.d (bo ((v3.Ward == 0) && (v3.Until != 0))))))], G [((1, u1), some (.box 38 [(.d (i64 p1.Tick)), (.d (i64 p1.Gap)), (.d (.list (List.map eMate p1.Mates))), (.d (i64 p1.Guest_.ID)), (.d (i64 p1.Guest_.S)), (.d (i64 p1.Guest_.V)), (.d (i64 p1.Guest_.Len)), (.d (i64 p1.Guest_.End)), (.d (i64 p1.Guest_.Ahead)), (.d (i64 p1.Guest_.Guess_.R)), (.d (i64 p1.Guest_.Guess_.V)), (.d (i64 p1.Guest_.From)), (.d (i64 p1.Guest_.Until))])), ((6, u10), some (.box 65 [(.d (i64 v3.ID)), (.d (i64 v3.S)), (.d (i64 v3.V)), (.d (i64 v3.Len)), (.d (i64 v3.Ahead)), (.d (i64 v3.Guess_.R)), (.d (i64 v3.Guess_.V)), (.d (bo v3.Trust)), (.d (i64 v3.Ward)), (.d (i64 v3.WardGuess.R)), (.d (i64 v3.WardGuess.V)), (.d (i64 v3.Until))]))]⟩) (sb_of ⟨.of rfl, .of rfl, .of rfl, .of rfl, .of rfl, .of rfl, .of rfl, .of rfl, .of rfl, .of rfl, .of rfl, .of rfl, .of rfl, .of rfl, .of rfl, .of rfl, .of rfl, .of rfl, .of rfl, .of rfl, .of rfl, .of rfl, trivial⟩ (sbG_some G_hit (.of rfl) (sbG_some (G_skip rfl G_hit) (.of rfl) trivial))) ?_
            refine l_reg fun u14 hu14 => ?_
            refine s_val (.d _) rfl rfl ?_
            refine s_val (.d _) rfl rfl ?_
            refine s_nil ?_
            refine l_nil ?_
            obtain rfl := Option.some.inj hz2
            exact ⟨rfl, (), (sb_of ⟨.of rfl, .of rfl, .of rfl, .of rfl, trivial⟩ (sbG_some G_hit (.of rfl) trivial))⟩
        · replace hz2 := cond_f c3 hz2
          refine l_exitN rfl ?_
          obtain rfl := Option.some.inj hz2
          obtain rfl := ez2 _ rfl
          refine ⟨nofun, awl_pop rfl (l_j ?_)⟩
          exact ⟨_, (), rfl, (sb_of ⟨.of rfl, trivial⟩ (sbG_some G_hit (.of rfl) trivial))⟩
      · rintro _ ⟨y1, g1, rfl, q1⟩
        rw [Sum.elim_inl] at h
        refine l_sub q1 ?_
        refine l_seq ?_
        refine l_reg fun u15 hu15 => ?_
        refine s_val (.fn _ _ _) rfl rfl ?_
        refine s_val (.fn _ _ _) rfl rfl ?_
        refine s_nil ?_
        refine l_seq ?_
        refine l_seq ?_
        refine l_draw rfl fun u16 hu16 => ?_
        refine s_val (.ptr _ _) rfl rfl ?_
        refine s_val (.d _) rfl (v_load rfl G_hit rfl) ?_
        refine s_val (.fn _ _ _) rfl rfl ?_
        obtain ⟨v4, hv4, h⟩ := bind_some h
        refine s_call rfl (rfL_cons rf_d (rfL_cons (rf_fn rfL_nil (rfL_cons (rf_ptr G_hit (rfL_cons rf_d (rfL_cons rf_d (rfL_cons rf_d (rfL_cons rf_d (rfL_cons rf_d (rfL_cons rf_d (rfL_cons rf_d (rfL_cons rf_d (rfL_cons rf_d (rfL_cons rf_d (rfL_cons rf_d (rfL_cons rf_d (rfL_cons rf_d rfL_nil)))))))))))))) rfL_nil)) rfL_nil)) all2_refl (slices_ContainsFunc_Mate_Mate_convoy_Check_1b_ok _ _  _ hv4) (.inr rfl) ?_
        refine s_val (.d _) rfl rfl ?_
        refine g_val (!v4) (.ptr _ _) rfl (gw_f rfl) (fun w19 => rfl) ?_
        refine g_val (!v4) (.ptr _ _) rfl (gw_f rfl) (fun w20 => (by simp only [gd_pos w20]; rfl)) ?_
        refine g_val (!v4) (.d _) rfl (gw_f rfl) (fun w21 => (v_load (gd_pos w21) G_hit rfl)) ?_
        refine g_val (!v4) (.d _) rfl (gw_f rfl) (fun w22 => (v_bin (gd_pos w22) rfl rfl)) ?_
        refine g_val (!v4) (.d _) rfl (gw_f rfl) (fun w23 => (v_mv (gd_pos w23))) ?_
        refine g_val ((!v4) && (p1.Guest_.ID != 0)) (.ptr _ _) rfl (gw_gt rfl) (fun w24 => rfl) ?_
        refine g_val ((!v4) && (p1.Guest_.ID != 0)) (.ptr _ _) rfl (gw_gt rfl) (fun w25 => (by simp only [gd_pos w25]; rfl)) ?_
        refine g_val ((!v4) && (p1.Guest_.ID != 0)) (.d _) rfl (gw_gt rfl) (fun w26 => (v_load (gd_pos w26) G_hit rfl)) ?_
        refine g_val ((!v4) && (p1.Guest_.ID != 0)) (.ptr _ _) rfl (gw_gt rfl) (fun w27 => rfl) ?_
        refine g_val ((!v4) && (p1.Guest_.ID != 0)) (.ptr _ _) rfl (gw_gt rfl) (fun w28 => (by simp only [gd_pos w28]; rfl)) ?_
        refine g_val ((!v4) && (p1.Guest_.ID != 0)) (.d _) rfl (gw_gt rfl) (fun w29 => (v_load (gd_pos w29) G_hit rfl)) ?_
        obtain ⟨v5, hv5, h⟩ := bind_some h
        refine g_call ((!v4) && (p1.Guest_.ID != 0)) (i64 v5) (gw_gt rfl) (fun w30 => ⟨_, [(.d (i64 p1.Guest_.V))], _, _, (by simp only [gd_pos w30]; rfl), rfl, all2_refl, convoy_stop_ok _  _ (cond_t w30 hv5), (.inl rfl)⟩) ?_
        refine g_val ((!v4) && (p1.Guest_.ID != 0)) (.d _) rfl (gw_gt rfl) (fun w31 => (v_bin (gd_pos w31) (gd_pos w31) rfl)) ?_
        refine g_val ((!v4) && (p1.Guest_.ID != 0)) (.ptr _ _) rfl (gw_gt rfl) (fun w32 => rfl) ?_
        refine g_val ((!v4) && (p1.Guest_.ID != 0)) (.ptr _ _) rfl (gw_gt rfl) (fun w33 => (by simp only [gd_pos w33]; rfl)) ?_
        refine g_val ((!v4) && (p1.Guest_.ID != 0)) (.d _) rfl (gw_gt rfl) (fun w34 => (v_load (gd_pos w34) G_hit rfl)) ?_
        refine g_val ((!v4) && (p1.Guest_.ID != 0)) (.d _) rfl (gw_gt rfl) (fun w35 => (v_bin (gd_pos w35) (gd_pos w35) rfl)) ?_
        refine g_val (!v4) (.d _) rfl (gw_f rfl) (fun w36 => (v_and (gd_pos w36) (fun hc => gd_pos (and_i w36 hc)) rfl)) ?_
        refine s_val (.d _) rfl (v_or rfl rfl (fun hc => gd_pos (not_t hc))) ?_
        refine s_nil ?_
        refine l_cond (v4 || ((p1.Guest_.ID != 0) && (decide ((w64 (p1.Guest_.S + v5)) ≥ p1.Guest_.End)))) rfl (fun c5 => ?_) (fun c5 => ?_)
        · replace h := cond_t c5 h
          refine l_seq ?_
          refine l_sub (s0 := ⟨T [], G []⟩) (sb_of trivial trivial) ?_
          refine l_reg fun u17 hu17 => ?_
          refine s_val (.d _) rfl rfl ?_
          refine s_nil ?_
          refine l_ret ?_
          obtain rfl := Option.some.inj h
          refine fin_ok (.inr rfl) (resD1 (res_t rfl) rf_d) ?_
          exact (.refl _)
        · replace h := cond_f c5 h
          refine l_skip ?_
          refine l_seq ?_
          refine l_sub (s0 := ⟨T [], G []⟩) (sb_of trivial trivial) ?_
          refine l_reg fun u18 hu18 => ?_
          refine s_val (.d _) rfl rfl ?_
          refine s_nil ?_
          refine l_ret ?_
          obtain rfl := Option.some.inj h
          refine fin_ok (.inr rfl) (resD1 (res_t rfl) rf_d) ?_
          exact (.refl _)

noncomputable def convoy_New_l1 (p2 : (List Mate)) (x1 : (Int × Convoy)) : Option (Stp (Int × Convoy) Convoy) :=
  cond (decide (x1.1 < (p2.length : Int))) ((geti p2 x1.1).bind fun v1 => (cond (decide (x1.1 > 0)) ((geti p2 (w64 (x1.1 - 1))).bind fun v2 => (geti p2 (w64 (x1.1 - 1))).bind fun v3 => (geti p2 (w64 (x1.1 - 1))).bind fun v4 => some (Mate.mk (w64 (x1.1 + 1)) v1.S v1.V v1.Len x1.1 (Guess.mk (w64 (v2.S - v3.Len)) v4.V) true 0 (Guess.mk 0 0) 0)) (some (Mate.mk (w64 (x1.1 + 1)) v1.S v1.V v1.Len 0 (Guess.mk 0 0) true 0 (Guess.mk 0 0) 0))).bind fun y2 => (appc x1.2.Mates [y2]).bind fun v5 => some (.go ((w64 (x1.1 + 1)), (Convoy.mk x1.2.Tick x1.2.Gap v5 x1.2.Guest_)))) (some (.out x1.2))
noncomputable def convoy_New (p1 : Int) (p2 : (List Mate)) : Option (Convoy × Int) :=
  (loop (convoy_New_l1 p2) (0, (Convoy.mk 0 p1 [] (Guest.mk 0 0 0 0 0 0 (Guess.mk 0 0) 0 0)))).bind fun y1 => (convoy_Check y1).bind fun v6 => cond (v6 != 0) (some ((Convoy.mk 0 0 [] (Guest.mk 0 0 0 0 0 0 (Guess.mk 0 0) 0 0)), v6)) (some (y1, 0))

/-- kerbstone/convoy.New -/
def ac_convoy_New : AC :=
  (.seq (.reg [⟨(some 4), .alloc 38 [(.v (.int .i64 0)), (.v (.int .i64 0)), .nilS, (.v (.int .i64 0)), (.v (.int .i64 0)), (.v (.int .i64 0)), (.v (.int .i64 0)), (.v (.int .i64 0)), (.v (.int .i64 0)), (.v (.int .i64 0)), (.v (.int .i64 0)), (.v (.int .i64 0)), (.v (.int .i64 0))], none⟩, ⟨(some 5), .mv (.c (.v (.int .i64 0))), none⟩])
  (.seq (.reg [⟨(some 11), .mv (.t 0), none⟩, ⟨(some 12), .build [(.v (.int .i64 0)), (.v (.int .i64 0)), .nilS, (.v (.int .i64 0)), (.v (.int .i64 0)), (.v (.int .i64 0)), (.v (.int .i64 0)), (.v (.int .i64 0)), (.v (.int .i64 0)), (.v (.int .i64 0)), (.v (.int .i64 0)), (.v (.int .i64 0)), (.v (.int .i64 0))] [(1, 1, (.t 11))], none⟩, ⟨(some 6), .alloc 38 [(.v (.int .i64 0)), (.v (.int .i64 0)), .nilS, (.v (.int .i64 0)), (.v (.int .i64 0)), (.v (.int .i64 0)), (.v (.int .i64 0)), (.v (.int .i64 0)), (.v (.int .i64 0)), (.v (.int .i64 0)), (.v (.int .i64 0)), (.v (.int .i64 0)), (.v (.int .i64 0))], none⟩, ⟨none, .store 13 (.t 6) (.t 12), none⟩])
  (.seq (.seq (.reg [⟨(some 13), .mv (.t 1), none⟩, ⟨(some 14), .len (.t 13), none⟩, ⟨(some 15), .mv (.c (.v (.int .i64 0))), none⟩])
  (.block 0
    (.loop
      (.seq (.reg [⟨(some 16), .bin .lss (.t 15) (.t 14), none⟩])
      (.seq (.cond (.t 16)
        .skip
        (.exit 0))
      (.seq (.block 1
        (.seq (.reg [⟨(some 17), .mv (.t 15), none⟩, ⟨(some 18), .idxS 12 (.t 13) (.t 15), none⟩, ⟨(some 19), .load 12 true (.t 18), none⟩, ⟨(some 8), .alloc 65 [(.v (.int .i64 0)), (.v (.int .i64 0)), (.v (.int .i64 0)), (.v (.int .i64 0)), (.v (.int .i64 0)), (.v (.int .i64 0)), (.v (.int .i64 0)), (.v (.bool false)), (.v (.int .i64 0)), (.v (.int .i64 0)), (.v (.int .i64 0)), (.v (.int .i64 0))], none⟩, ⟨(some 7), .mv (.t 17), none⟩, ⟨none, .store 12 (.t 8) (.t 19), none⟩])
        (.seq (.reg [⟨(some 20), .mv (.t 7), none⟩, ⟨(some 21), .bin .add (.t 20) (.c (.v (.int .i64 1))), none⟩, ⟨(some 22), .fieldA 1 (.t 8), none⟩, ⟨(some 23), .load 1 false (.t 22), none⟩, ⟨(some 24), .fieldA 2 (.t 8), none⟩, ⟨(some 25), .load 1 false (.t 24), none⟩, ⟨(some 26), .fieldA 3 (.t 8), none⟩, ⟨(some 27), .load 1 false (.t 26), none⟩, ⟨(some 28), .build [(.v (.int .i64 0)), (.v (.int .i64 0)), (.v (.int .i64 0)), (.v (.int .i64 0)), (.v (.int .i64 0)), (.v (.int .i64 0)), (.v (.int .i64 0)), (.v (.bool false)), (.v (.int .i64 0)), (.v (.int .i64 0)), (.v (.int .i64 0)), (.v (.int .i64 0))] [(0, 1, (.t 21)), (1, 1, (.t 23)), (2, 1, (.t 25)), (3, 1, (.t 27)), (7, 1, (.c (.v (.bool true))))], none⟩, ⟨(some 9), .alloc 65 [(.v (.int .i64 0)), (.v (.int .i64 0)), (.v (.int .i64 0)), (.v (.int .i64 0)), (.v (.int .i64 0)), (.v (.int .i64 0)), (.v (.int .i64 0)), (.v (.bool false)), (.v (.int .i64 0)), (.v (.int .i64 0)), (.v (.int .i64 0)), (.v (.int .i64 0))], none⟩, ⟨none, .store 12 (.t 9) (.t 28), none⟩])
        (.seq (.seq (.reg [⟨(some 29), .mv (.t 7), none⟩, ⟨(some 30), .bin .gtr (.t 29) (.c (.v (.int .i64 0))), none⟩])
        (.cond (.t 30)
          (.draw [⟨(some 31), .mv (.t 7), none⟩, ⟨(some 32), .mv (.t 1), none⟩, ⟨(some 33), .mv (.t 7), none⟩, ⟨(some 34), .bin .sub (.t 33) (.c (.v (.int .i64 1))), none⟩, ⟨(some 35), .idxS 12 (.t 32) (.t 34), none⟩, ⟨(some 36), .fieldA 1 (.t 35), none⟩, ⟨(some 37), .load 1 false (.t 36), none⟩, ⟨(some 38), .mv (.t 1), none⟩, ⟨(some 39), .mv (.t 7), none⟩, ⟨(some 40), .bin .sub (.t 39) (.c (.v (.int .i64 1))), none⟩, ⟨(some 41), .idxS 12 (.t 38) (.t 40), none⟩, ⟨(some 42), .fieldA 3 (.t 41), none⟩, ⟨(some 43), .load 1 false (.t 42), none⟩, ⟨(some 44), .bin .sub (.t 37) (.t 43), none⟩, ⟨(some 45), .mv (.t 1), none⟩, ⟨(some 46), .mv (.t 7), none⟩, ⟨(some 47), .bin .sub (.t 46) (.c (.v (.int .i64 1))), none⟩, ⟨(some 48), .idxS 12 (.t 45) (.t 47), none⟩, ⟨(some 49), .fieldA 2 (.t 48), none⟩, ⟨(some 50), .load 1 false (.t 49), none⟩, ⟨(some 51), .build [(.v (.int .i64 0)), (.v (.int .i64 0))] [(0, 1, (.t 44)), (1, 1, (.t 50))], none⟩, ⟨(some 52), .fieldA 4 (.t 9), none⟩, ⟨none, .store 1 (.t 52) (.t 31), none⟩, ⟨(some 53), .fieldA 5 (.t 9), none⟩, ⟨none, .store 2 (.t 53) (.t 51), none⟩] [(4, 22), (6, 22), (10, 22), (12, 22), (17, 22), (19, 22)])
          .skip))
        (.reg [⟨(some 54), .fieldA 2 (.t 6), none⟩, ⟨(some 55), .load 1 false (.t 54), none⟩, ⟨(some 56), .load 12 true (.t 9), none⟩, ⟨(some 57), .dslice 65 12 1 [(.v (.int .i64 0)), (.v (.int .i64 0)), (.v (.int .i64 0)), (.v (.int .i64 0)), (.v (.int .i64 0)), (.v (.int .i64 0)), (.v (.int .i64 0)), (.v (.bool false)), (.v (.int .i64 0)), (.v (.int .i64 0)), (.v (.int .i64 0)), (.v (.int .i64 0))] [(0, 12, (.t 56))], none⟩, ⟨(some 58), .append 34 65 12 (.t 55) (.t 57), none⟩, ⟨(some 59), .fieldA 2 (.t 6), none⟩, ⟨none, .store 1 (.t 59) (.t 58), none⟩])))))
      (.reg [⟨(some 60), .bin .add (.t 15) (.c (.v (.int .i64 1))), none⟩, ⟨(some 15), .mv (.t 60), none⟩])))))))
  (.seq (.seq (.reg [⟨(some 61), .load 13 true (.t 6), none⟩, ⟨(some 62), .call (.c (.fn (.func 32) [] [])) [(.t 61)], none⟩, ⟨(some 10), .mv (.t 62), none⟩])
  (.seq (.reg [⟨(some 63), .mv (.t 10), none⟩, ⟨(some 64), .bin .neq (.t 63) (.c (.v (.int .i64 0))), none⟩])
  (.cond (.t 64)
    (.seq (.reg [⟨(some 65), .build [(.v (.int .i64 0)), (.v (.int .i64 0)), .nilS, (.v (.int .i64 0)), (.v (.int .i64 0)), (.v (.int .i64 0)), (.v (.int .i64 0)), (.v (.int .i64 0)), (.v (.int .i64 0)), (.v (.int .i64 0)), (.v (.int .i64 0)), (.v (.int .i64 0)), (.v (.int .i64 0))] [], none⟩, ⟨(some 66), .mv (.t 10), none⟩, ⟨none, .store 13 (.t 4) (.t 65), none⟩, ⟨(some 5), .mv (.t 66), none⟩])
    .ret)
    .skip)))
  (.seq (.reg [⟨(some 67), .load 13 true (.t 6), none⟩, ⟨none, .store 13 (.t 4) (.t 67), none⟩, ⟨(some 5), .mv (.c (.v (.int .i64 0))), none⟩])
  .ret)))))
theorem fn_convoy_New : FnOK Try.prog 43 68 [.cell 4 13 true, .t 5] ac_convoy_New := ⟨_, _, Try.func43, rfl, Try.ntmps43, by kernel_rfl, ⟨fun r => if r == 8 then [1003] else [], by kernel_rfl⟩, by kernel_rfl⟩
set_option maxHeartbeats 4000000 in
theorem convoy_New_ok (p1 : Int) (p2 : (List Mate)) (r : (Convoy × Int)) (h : convoy_New p1 p2 = some r) : PCall Try.prog 43 [(i64 p1), (.list (List.map eMate p2))] (.tup [(.agg [(i64 r.1.Tick), (i64 r.1.Gap), (.list (List.map eMate r.1.Mates)), (i64 r.1.Guest_.ID), (i64 r.1.Guest_.S), (i64 r.1.Guest_.V), (i64 r.1.Guest_.Len), (i64 r.1.Guest_.End), (i64 r.1.Guest_.Ahead), (i64 r.1.Guest_.Guess_.R), (i64 r.1.Guest_.Guess_.V), (i64 r.1.Guest_.From), (i64 r.1.Guest_.Until)]), (i64 r.2)]) := by
  refine l_call fn_convoy_New (Nat.le_of_ble_eq_true rfl) ?_
  unfold convoy_New at h
  unfold ac_convoy_New
  refine (l_sub (s0 := ⟨T [(0, (.d (i64 p1))), (1, (.d (.list (List.map eMate p2))))], G []⟩) (sb_of ⟨.of rfl, .of rfl, trivial⟩ trivial) ?_)
  refine l_seq ?_
  refine l_reg fun u1 hu1 => ?_
  refine s_new (.ptr _ _) (.box _ _) rfl rfl ?_
  refine s_val (.d _) rfl rfl ?_
  refine s_nil ?_
  refine l_seq ?_
  refine l_reg fun u2 hu2 => ?_
  refine s_val (.d _) rfl rfl ?_
  refine s_val (.d _) rfl rfl ?_
  refine s_new (.ptr _ _) (.box _ _) rfl rfl ?_
  refine s_store _ _ _ _ _ rfl rfl rfl G_hit (Nat.le_of_ble_eq_true rfl) [(.d (i64 0)), (.d (i64 p1)), (.d .nilS), (.d (i64 0)), (.d (i64 0)), (.d (i64 0)), (.d (i64 0)), (.d (i64 0)), (.d (i64 0)), (.d (i64 0)), (.d (i64 0)), (.d (i64 0)), (.d (i64 0))] rfl ?_
  refine s_nil ?_
  refine l_seq ?_
  refine l_seq ?_
  refine l_reg fun u3 hu3 => ?_
  refine s_val (.d _) rfl rfl ?_
  refine s_val (.d _) rfl (v_len rfl) ?_
  refine s_val (.d _) rfl rfl ?_
  refine s_nil ?_
  obtain ⟨y1, hy1, h⟩ := bind_some h
  refine l_join (fun s => ∃ g1 : Nat, Sb ⟨T [(4, (.ptr (4, u1) 0)), (6, (.ptr (6, u2) 0))], G [((4, u1), some (.box 38 [(.d (i64 0)), (.d (i64 0)), (.d .nilS), (.d (i64 0)), (.d (i64 0)), (.d (i64 0)), (.d (i64 0)), (.d (i64 0)), (.d (i64 0)), (.d (i64 0)), (.d (i64 0)), (.d (i64 0)), (.d (i64 0))])), ((6, u2), some (.box 38 [(.d (i64 y1.Tick)), (.d (i64 y1.Gap)), (oS y1.Mates (58, g1)), (.d (i64 y1.Guest_.ID)), (.d (i64 y1.Guest_.S)), (.d (i64 y1.Guest_.V)), (.d (i64 y1.Guest_.Len)), (.d (i64 y1.Guest_.End)), (.d (i64 y1.Guest_.Ahead)), (.d (i64 y1.Guest_.Guess_.R)), (.d (i64 y1.Guest_.Guess_.V)), (.d (i64 y1.Guest_.From)), (.d (i64 y1.Guest_.Until))])), ((58, g1), oB 65 12 eMate y1.Mates)]⟩ s) ?_ ?_
  · skip
    refine l_block ?_
    refine l_loop (convoy_New_l1 p2) (fun (x1 : (Int × Convoy)) (g2 : Nat) => ⟨T [(1, (.d (.list (List.map eMate p2)))), (4, (.ptr (4, u1) 0)), (6, (.ptr (6, u2) 0)), (13, (.d (.list (List.map eMate p2)))), (14, (.d (i64 (p2.length : Int)))), (15, (.d (i64 x1.1)))], G [((4, u1), some (.box 38 [(.d (i64 0)), (.d (i64 0)), (.d .nilS), (.d (i64 0)), (.d (i64 0)), (.d (i64 0)), (.d (i64 0)), (.d (i64 0)), (.d (i64 0)), (.d (i64 0)), (.d (i64 0)), (.d (i64 0)), (.d (i64 0))])), ((6, u2), some (.box 38 [(.d (i64 x1.2.Tick)), (.d (i64 x1.2.Gap)), (oS x1.2.Mates (58, g2)), (.d (i64 x1.2.Guest_.ID)), (.d (i64 x1.2.Guest_.S)), (.d (i64 x1.2.Guest_.V)), (.d (i64 x1.2.Guest_.Len)), (.d (i64 x1.2.Guest_.End)), (.d (i64 x1.2.Guest_.Ahead)), (.d (i64 x1.2.Guest_.Guess_.R)), (.d (i64 x1.2.Guest_.Guess_.V)), (.d (i64 x1.2.Guest_.From)), (.d (i64 x1.2.Guest_.Until))])), ((58, g2), oB 65 12 eMate x1.2.Mates)]⟩) (0, (Convoy.mk 0 p1 [] (Guest.mk 0 0 0 0 0 0 (Guess.mk 0 0) 0 0))) 0 _ hy1 (sb_of ⟨.of rfl, .of rfl, .of rfl, .of rfl, .of rfl, .of rfl, trivial⟩ (sbG_some (G_skip rfl (G_skip rfl G_hit)) (.of rfl) (sbG_some G_hit (.of rfl) (sbG_nil trivial)))) ?_
    intro x1 g2 z1 hz1 ez1
    unfold convoy_New_l1 at hz1
    refine l_seq ?_
    refine l_reg fun u4 hu4 => ?_
    refine s_val (.d _) rfl rfl ?_
    refine s_nil ?_
    refine l_seq ?_
    refine l_cond (decide (x1.1 < (p2.length : Int))) rfl (fun c1 => ?_) (fun c1 => ?_)
    · replace hz1 := cond_t c1 hz1
      refine l_skip ?_
      refine l_seq ?_
      refine l_block ?_
      refine l_seq ?_
      refine l_reg fun u5 hu5 => ?_
      refine s_val (.d _) rfl rfl ?_
      obtain ⟨v1, hv1, hz1⟩ := bind_some hz1
      refine s_val (.d _) rfl (v_idx rfl rfl hv1 rfl) ?_
      refine s_val (.d _) rfl (v_loadLG rfl hv1 rfl rfl) ?_
      refine s_new (.ptr _ _) (.box _ _) rfl rfl ?_
      refine s_val (.d _) rfl rfl ?_
      refine s_store _ _ _ _ _ rfl rfl rfl G_hit (Nat.le_of_ble_eq_true rfl) [(.d (i64 v1.ID)), (.d (i64 v1.S)), (.d (i64 v1.V)), (.d (i64 v1.Len)), (.d (i64 v1.Ahead)), (.d (i64 v1.Guess_.R)), (.d (i64 v1.Guess_.V)), (.d (bo v1.Trust)), (.d (i64 v1.Ward)), (.d (i64 v1.WardGuess.R)), (.d (i64 v1.WardGuess.V)), (.d (i64 v1.Until))] rfl ?_
      refine s_nil ?_
      refine l_seq ?_
      refine l_reg fun u6 hu6 => ?_
      refine s_val (.d _) rfl rfl ?_
      refine s_val (.d _) rfl rfl ?_
      refine s_val (.ptr _ _) rfl rfl ?_
      refine s_val (.d _) rfl (v_load rfl G_hit rfl) ?_
      refine s_val (.ptr _ _) rfl rfl ?_
      refine s_val (.d _) rfl (v_load rfl G_hit rfl) ?_
      refine s_val (.ptr _ _) rfl rfl ?_
      refine s_val (.d _) rfl (v_load rfl G_hit rfl) ?_
      refine s_val (.d _) rfl rfl ?_
      refine s_new (.ptr _ _) (.box _ _) rfl rfl ?_
      refine s_store _ _ _ _ _ rfl rfl rfl G_hit (Nat.le_of_ble_eq_true rfl) [(.d (i64 (w64 (x1.1 + 1)))), (.d (i64 v1.S)), (.d (i64 v1.V)), (.d (i64 v1.Len)), (.d (i64 0)), (.d (i64 0)), (.d (i64 0)), (.d (bo true)), (.d (i64 0)), (.d (i64 0)), (.d (i64 0)), (.d (i64 0))] rfl ?_
      refine s_nil ?_
      refine l_seq ?_
      refine l_seq ?_
      refine l_sub (s0 := ⟨T [(1, (.d (.list (List.map eMate p2)))), (4, (.ptr (4, u1) 0)), (6, (.ptr (6, u2) 0)), (7, (.d (i64 x1.1))), (9, (.ptr (9, u6) 0)), (13, (.d (.list (List.map eMate p2)))), (14, (.d (i64 (p2.length : Int)))), (15, (.d (i64 x1.1)))], G [((4, u1), some (.box 38 [(.d (i64 0)), (.d (i64 0)), (.d .nilS), (.d (i64 0)), (.d (i64 0)), (.d (i64 0)), (.d (i64 0)), (.d (i64 0)), (.d (i64 0)), (.d (i64 0)), (.d (i64 0)), (.d (i64 0)), (.d (i64 0))])), ((6, u2), some (.box 38 [(.d (i64 x1.2.Tick)), (.d (i64 x1.2.Gap)), (oS x1.2.Mates (58, g2)), (.d (i64 x1.2.Guest_.ID)), (.d (i64 x1.2.Guest_.S)), (.d (i64 x1.2.Guest_.V)), (.d (i64 x1.2.Guest_.Len)), (.d (i64 x1.2.Guest_.End)), (.d (i64 x1.2.Guest_.Ahead)), (.d (i64 x1.2.Guest_.Guess_.R)), (.d (i64 x1.2.Guest_.Guess_.V)), (.d (i64 x1.2.Guest_.From)), (.d (i64 x1.2.Guest_.Until))])), ((58, g2), oB 65 12 eMate x1.2.Mates), ((9, u6), some (.box 65 [(.d (i64 (w64 (x1.1 + 1)))), (.d (i64 v1.S)), (.d (i64 v1.V)), (.d (i64 v1.Len)), (.d (i64 0)), (.d (i64 0)), (.d (i64 0)), (.d (bo true)), (.d (i64 0)), (.d (i64 0)), (.d (i64 0)), (.d (i64 0))]))]⟩) (sb_of ⟨.of rfl, .of rfl, .of rfl, .of rfl, .of rfl, .of rfl, .of rfl, .of rfl, trivial⟩ (sbG_some (G_skip rfl (G_skip rfl (G_skip rfl (G_skip rfl G_hit)))) (.of rfl) (sbG_some (G_skip rfl (G_skip rfl (G_skip rfl (G_skip rfl (G_skip rfl G_hit))))) (.of rfl) (sbG_oB (G_skip rfl (G_skip rfl (G_skip rfl (G_skip rfl (G_skip rfl (G_skip rfl G_hit)))))) (sbG_some G_hit (.of rfl) trivial))))) ?_
      refine l_reg fun u7 hu7 => ?_
      refine s_val (.d _) rfl rfl ?_
      refine s_val (.d _) rfl rfl ?_
      refine s_nil ?_
      obtain ⟨y2, hy2, hz1⟩ := bind_some hz1
      refine l_join (fun s => ∃ g3 : Unit, Sb ⟨T [(1, (.d (.list (List.map eMate p2)))), (4, (.ptr (4, u1) 0)), (6, (.ptr (6, u2) 0)), (9, (.ptr (9, u6) 0)), (13, (.d (.list (List.map eMate p2)))), (14, (.d (i64 (p2.length : Int)))), (15, (.d (i64 x1.1)))], G [((4, u1), some (.box 38 [(.d (i64 0)), (.d (i64 0)), (.d .nilS), (.d (i64 0)), (.d (i64 0)), (.d (i64 0)), (.d (i64 0)), (.d (i64 0)), (.d (i64 0)), (.d (i64 0)), (.d (i64 0)), (.d (i64 0)), (.d (i64 0))])), ((6, u2), some (.box 38 [(.d (i64 x1.2.Tick)), (.d (i64 x1.2.Gap)), (oS x1.2.Mates (58, g2)), (.d (i64 x1.2.Guest_.ID)), (.d (i64 x1.2.Guest_.S)), (.d (i64 x1.2.Guest_.V)), (.d (i64 x1.2.Guest_.Len)), (.d (i64 x1.2.Guest_.End)), (.d (i64 x1.2.Guest_.Ahead)), (.d (i64 x1.2.Guest_.Guess_.R)), (.d (i64 x1.2.Guest_.Guess_.V)), (.d (i64 x1.2.Guest_.From)), (.d (i64 x1.2.Guest_.Until))])), ((9, u6), some (.box 65 [(.d (i64 y2.ID)), (.d (i64 y2.S)), (.d (i64 y2.V)), (.d (i64 y2.Len)), (.d (i64 y2.Ahead)), (.d (i64 y2.Guess_.R)), (.d (i64 y2.Guess_.V)), (.d (bo y2.Trust)), (.d (i64 y2.Ward)), (.d (i64 y2.WardGuess.R)), (.d (i64 y2.WardGuess.V)), (.d (i64 y2.Until))])), ((58, g2), oB 65 12 eMate x1.2.Mates)]⟩ s) ?_ ?_
      · skip
        refine l_cond (decide (x1.1 > 0)) rfl (fun c2 => ?_) (fun c2 => ?_)
        · replace hy2 := cond_t c2 hy2
          refine l_drawT fun u8 hu8 => ?_
          refine t_val (.d _) rfl rfl ?_
          refine t_val (.d _) rfl rfl ?_
          refine t_val (.d _) rfl rfl ?_
          refine t_val (.d _) rfl rfl ?_
          obtain ⟨v2, hv2, hy2⟩ := bind_some hy2
          refine t_val (.d _) rfl (v_idx rfl rfl hv2 rfl) ?_
          refine t_val (.d _) rfl rfl ?_
          refine t_val (.d _) rfl (v_loadL rfl hv2 rfl) ?_
          refine t_val (.d _) rfl rfl ?_
          refine t_val (.d _) rfl rfl ?_
          refine t_val (.d _) rfl rfl ?_
          obtain ⟨v3, hv3, hy2⟩ := bind_some hy2
          refine t_val (.d _) rfl (v_idx rfl rfl hv3 rfl) ?_
          refine t_val (.d _) rfl rfl ?_
          refine t_val (.d _) rfl (v_loadL rfl hv3 rfl) ?_
          refine t_val (.d _) rfl rfl ?_
          refine t_val (.d _) rfl rfl ?_
          refine t_val (.d _) rfl rfl ?_
          refine t_val (.d _) rfl rfl ?_
          obtain ⟨v4, hv4, hy2⟩ := bind_some hy2
          refine t_val (.d _) rfl (v_idx rfl rfl hv4 rfl) ?_
          refine t_val (.d _) rfl rfl ?_
          refine t_val (.d _) rfl (v_loadL rfl hv4 rfl) ?_
          refine t_val (.d _) rfl rfl ?_
          refine t_val (.ptr _ _) rfl rfl ?_
          refine t_store _ _ _ _ _ rfl rfl rfl (G_skip rfl (G_skip rfl (G_skip rfl G_hit))) (Nat.le_of_ble_eq_true rfl) [(.d (i64 (w64 (x1.1 + 1)))), (.d (i64 v1.S)), (.d (i64 v1.V)), (.d (i64 v1.Len)), (.d (i64 x1.1)), (.d (i64 0)), (.d (i64 0)), (.d (bo true)), (.d (i64 0)), (.d (i64 0)), (.d (i64 0)), (.d (i64 0))] rfl ?_
          refine t_val (.ptr _ _) rfl rfl ?_
          refine t_store _ _ _ _ _ rfl rfl rfl G_hit (Nat.le_of_ble_eq_true rfl) [(.d (i64 (w64 (x1.1 + 1)))), (.d (i64 v1.S)), (.d (i64 v1.V)), (.d (i64 v1.Len)), (.d (i64 x1.1)), (.d (i64 (w64 (v2.S - v3.Len)))), (.d (i64 v4.V)), (.d (bo true)), (.d (i64 0)), (.d (i64 0)), (.d (i64 0)), (.d (i64 0))] rfl ?_
          refine t_nil ⟨rfl, ?_⟩
          obtain rfl := Option.some.inj hy2
          exact l_j ⟨(), (sb_of ⟨.of rfl, .of rfl, .of rfl, .of rfl, .of rfl, .of rfl, .of rfl, trivial⟩ (sbG_some (G_skip rfl (G_skip rfl G_hit)) (.of rfl) (sbG_some (G_skip rfl (G_skip rfl (G_skip rfl G_hit))) (.of rfl) (sbG_some G_hit (.of rfl) (sbG_oB (G_skip rfl (G_skip rfl (G_skip rfl (G_skip rfl G_hit)))) trivial)))))⟩
        · replace hy2 := cond_f c2 hy2
          refine l_skip ?_
          obtain rfl := Option.some.inj hy2
          exact l_j ⟨(), (sb_of ⟨.of rfl, .of rfl, .of rfl, .of rfl, .of rfl, .of rfl, .of rfl, trivial⟩ (sbG_some G_hit (.of rfl) (sbG_some (G_skip rfl G_hit) (.of rfl) (sbG_some (G_skip rfl (G_skip rfl (G_skip rfl G_hit))) (.of rfl) (sbG_oB (G_skip rfl (G_skip rfl G_hit)) trivial)))))⟩
      · rintro _ ⟨g3, q1⟩
        refine l_sub q1 ?_
        refine l_reg fun u9 hu9 => ?_
        refine s_val (.ptr _ _) rfl rfl ?_
        refine s_val (oS x1.2.Mates (58, g2)) rfl (v_load rfl (G_skip rfl G_hit) rfl) ?_
        refine s_val (.d _) rfl (v_loadG rfl (G_skip rfl (G_skip rfl G_hit)) rfl rfl) ?_
        refine s_val (.d (.list (List.map eMate [y2]))) rfl (v_dsliceN eMate ([y2] : List Mate) (fun _ => rfl) rfl rfl ⟨rfl, rfl, rfl, trivial⟩) ?_
        obtain ⟨v5, hv5, hz1⟩ := bind_some hz1
        refine s_appendO eMate (58, g2) x1.2.Mates y2 [] _ (elems_list (fun _ => rfl)) rfl (G_skip rfl (G_skip rfl (G_skip rfl G_hit))) hv5 ?_
        refine s_val (.ptr _ _) rfl rfl ?_
        refine s_store _ _ _ _ _ rfl rfl rfl (G_skip rfl (G_skip rfl (G_skip rfl G_hit))) (Nat.le_of_ble_eq_true rfl) [(.d (i64 x1.2.Tick)), (.d (i64 x1.2.Gap)), (.sl (58, u9)), (.d (i64 x1.2.Guest_.ID)), (.d (i64 x1.2.Guest_.S)), (.d (i64 x1.2.Guest_.V)), (.d (i64 x1.2.Guest_.Len)), (.d (i64 x1.2.Guest_.End)), (.d (i64 x1.2.Guest_.Ahead)), (.d (i64 x1.2.Guest_.Guess_.R)), (.d (i64 x1.2.Guest_.Guess_.V)), (.d (i64 x1.2.Guest_.From)), (.d (i64 x1.2.Guest_.Until))] rfl ?_
        refine s_nil ?_
        refine l_end ?_
        refine l_reg fun u10 hu10 => ?_
        refine s_val (.d _) rfl rfl ?_
        refine s_val (.d _) rfl rfl ?_
        refine s_nil ?_
        refine l_nil ?_
        obtain rfl := Option.some.inj hz1
        exact ⟨rfl, u9, (sb_of ⟨.of rfl, .of rfl, .of rfl, .of rfl, .of rfl, .of rfl, trivial⟩ (sbG_some (G_skip rfl (G_skip rfl (G_skip rfl G_hit))) (.of rfl) (sbG_some G_hit (.box (.cons (.of rfl) (.cons (.of rfl) (.cons (.of (oS_ne (appc_ne hv5)).symm) (.cons (.of rfl) (.cons (.of rfl) (.cons (.of rfl) (.cons (.of rfl) (.cons (.of rfl) (.cons (.of rfl) (.cons (.of rfl) (.cons (.of rfl) (.cons (.of rfl) (.cons (.of rfl) .nil)))))))))))))) (sbG_own (G_skip rfl G_hit) trivial))))⟩
    · replace hz1 := cond_f c1 hz1
      refine l_exitN rfl ?_
      obtain rfl := Option.some.inj hz1
      obtain rfl := ez1 _ rfl
      refine ⟨nofun, awl_pop rfl (l_j ?_)⟩
      exact ⟨g2, (sb_of ⟨.of rfl, .of rfl, trivial⟩ (sbG_some G_hit (.of rfl) (sbG_some (G_skip rfl G_hit) (.of rfl) (sbG_oB (G_skip rfl (G_skip rfl G_hit)) trivial))))⟩
  · rintro _ ⟨g1, q2⟩
    refine l_sub q2 ?_
    refine l_seq ?_
    refine l_seq ?_
    refine l_reg fun u11 hu11 => ?_
    refine s_val (mkAgg [(.d (i64 y1.Tick)), (.d (i64 y1.Gap)), (oS y1.Mates (58, g1)), (.d (i64 y1.Guest_.ID)), (.d (i64 y1.Guest_.S)), (.d (i64 y1.Guest_.V)), (.d (i64 y1.Guest_.Len)), (.d (i64 y1.Guest_.End)), (.d (i64 y1.Guest_.Ahead)), (.d (i64 y1.Guest_.Guess_.R)), (.d (i64 y1.Guest_.Guess_.V)), (.d (i64 y1.Guest_.From)), (.d (i64 y1.Guest_.Until))]) rfl (v_loadG rfl (G_skip rfl G_hit) rfl rfl) ?_
    obtain ⟨v6, hv6, h⟩ := bind_some h
    refine s_call rfl (rfL_cons (rf_mkAgg (rfL_cons rf_d (rfL_cons rf_d (rfL_cons (rf_oS (G_skip rfl (G_skip rfl G_hit))) (rfL_cons rf_d (rfL_cons rf_d (rfL_cons rf_d (rfL_cons rf_d (rfL_cons rf_d (rfL_cons rf_d (rfL_cons rf_d (rfL_cons rf_d (rfL_cons rf_d (rfL_cons rf_d rfL_nil)))))))))))))) rfL_nil) (.cons (.agg (.cons ⟨(.refl _), rfl⟩ (.cons ⟨(.refl _), rfl⟩ (.cons ⟨oD_le, rfl⟩ (.cons ⟨(.refl _), rfl⟩ (.cons ⟨(.refl _), rfl⟩ (.cons ⟨(.refl _), rfl⟩ (.cons ⟨(.refl _), rfl⟩ (.cons ⟨(.refl _), rfl⟩ (.cons ⟨(.refl _), rfl⟩ (.cons ⟨(.refl _), rfl⟩ (.cons ⟨(.refl _), rfl⟩ (.cons ⟨(.refl _), rfl⟩ (.cons ⟨(.refl _), rfl⟩ .nil)))))))))))))) .nil) (convoy_Check_ok _  _ hv6) (.inr rfl) ?_
    refine s_val (.d _) rfl rfl ?_
    refine s_nil ?_
    refine l_seq ?_
    refine l_reg fun u12 hu12 => ?_
    refine s_val (.d _) rfl rfl ?_
    refine s_val (.d _) rfl rfl ?_
    refine s_nil ?_
    refine l_cond (v6 != 0) rfl (fun c3 => ?_) (fun c3 => ?_)
    · replace h := cond_t c3 h
      refine l_seq ?_
      refine l_reg fun u13 hu13 => ?_
      refine s_val (.d _) rfl rfl ?_
      refine s_val (.d _) rfl rfl ?_
      refine s_store _ _ _ _ _ rfl rfl rfl G_hit (Nat.le_of_ble_eq_true rfl) [(.d (i64 0)), (.d (i64 0)), (.d .nilS), (.d (i64 0)), (.d (i64 0)), (.d (i64 0)), (.d (i64 0)), (.d (i64 0)), (.d (i64 0)), (.d (i64 0)), (.d (i64 0)), (.d (i64 0)), (.d (i64 0))] rfl ?_
      refine s_val (.d _) rfl rfl ?_
      refine s_nil ?_
      refine l_ret ?_
      obtain rfl := Option.some.inj h
      refine fin_ok (.inr rfl) (resD2 (res_cellG rfl G_hit (Nat.le_of_ble_eq_true rfl) rfl) (res_t rfl) rf_d rf_d) ?_
      exact .tup (.cons (.agg (.cons ⟨(.refl _), rfl⟩ (.cons ⟨(.refl _), rfl⟩ (.cons ⟨DLe.nil, rfl⟩ (.cons ⟨(.refl _), rfl⟩ (.cons ⟨(.refl _), rfl⟩ (.cons ⟨(.refl _), rfl⟩ (.cons ⟨(.refl _), rfl⟩ (.cons ⟨(.refl _), rfl⟩ (.cons ⟨(.refl _), rfl⟩ (.cons ⟨(.refl _), rfl⟩ (.cons ⟨(.refl _), rfl⟩ (.cons ⟨(.refl _), rfl⟩ (.cons ⟨(.refl _), rfl⟩ .nil)))))))))))))) (.cons (.refl _) .nil))
    · replace h := cond_f c3 h
      refine l_skip ?_
      refine l_seq ?_
      refine l_reg fun u14 hu14 => ?_
      refine s_val (mkAgg [(.d (i64 y1.Tick)), (.d (i64 y1.Gap)), (oS y1.Mates (58, g1)), (.d (i64 y1.Guest_.ID)), (.d (i64 y1.Guest_.S)), (.d (i64 y1.Guest_.V)), (.d (i64 y1.Guest_.Len)), (.d (i64 y1.Guest_.End)), (.d (i64 y1.Guest_.Ahead)), (.d (i64 y1.Guest_.Guess_.R)), (.d (i64 y1.Guest_.Guess_.V)), (.d (i64 y1.Guest_.From)), (.d (i64 y1.Guest_.Until))]) rfl (v_loadG rfl (G_skip rfl G_hit) rfl rfl) ?_
      refine s_store _ _ _ _ _ (cellsV_mkAgg _) rfl rfl G_hit (Nat.le_of_ble_eq_true rfl) [(.d (i64 y1.Tick)), (.d (i64 y1.Gap)), (oS y1.Mates (58, g1)), (.d (i64 y1.Guest_.ID)), (.d (i64 y1.Guest_.S)), (.d (i64 y1.Guest_.V)), (.d (i64 y1.Guest_.Len)), (.d (i64 y1.Guest_.End)), (.d (i64 y1.Guest_.Ahead)), (.d (i64 y1.Guest_.Guess_.R)), (.d (i64 y1.Guest_.Guess_.V)), (.d (i64 y1.Guest_.From)), (.d (i64 y1.Guest_.Until))] rfl ?_
      refine s_val (.d _) rfl rfl ?_
      refine s_nil ?_
      refine l_ret ?_
      obtain rfl := Option.some.inj h
      refine fin_ok (.inr rfl) (resD2 (res_cellG rfl G_hit (Nat.le_of_ble_eq_true rfl) rfl) (res_t rfl) (rf_mkAgg (rfL_cons rf_d (rfL_cons rf_d (rfL_cons (rf_oS (G_skip rfl (G_skip rfl (G_skip rfl G_hit)))) (rfL_cons rf_d (rfL_cons rf_d (rfL_cons rf_d (rfL_cons rf_d (rfL_cons rf_d (rfL_cons rf_d (rfL_cons rf_d (rfL_cons rf_d (rfL_cons rf_d (rfL_cons rf_d rfL_nil)))))))))))))) rf_d) ?_
      exact .tup (.cons (.agg (.cons ⟨(.refl _), rfl⟩ (.cons ⟨(.refl _), rfl⟩ (.cons ⟨oD_le, rfl⟩ (.cons ⟨(.refl _), rfl⟩ (.cons ⟨(.refl _), rfl⟩ (.cons ⟨(.refl _), rfl⟩ (.cons ⟨(.refl _), rfl⟩ (.cons ⟨(.refl _), rfl⟩ (.cons ⟨(.refl _), rfl⟩ (.cons ⟨(.refl _), rfl⟩ (.cons ⟨(.refl _), rfl⟩ (.cons ⟨(.refl _), rfl⟩ (.cons ⟨(.refl _), rfl⟩ .nil)))))))))))))) (.cons (.refl _) .nil))

noncomputable def law09_shown : Option Convoy :=
  (convoy_New 1000 [(Mate.mk 0 50000 1000 4000 0 (Guess.mk 0 0) false 0 (Guess.mk 0 0) 0), (Mate.mk 0 40000 1000 4000 0 (Guess.mk 0 0) false 0 (Guess.mk 0 0) 0)]).bind fun v1 => cond ((v1.2 != 0) || ((v1.1.Mates.length : Int) != 2)) (some (Convoy.mk 0 0 [] (Guest.mk 0 0 0 0 0 0 (Guess.mk 0 0) 0 0))) (some v1.1)

/-- kerbstone/kerbstonelaw09.shown -/
def ac_law09_shown : AC :=
  (.seq (.reg [⟨(some 0), .alloc 38 [(.v (.int .i64 0)), (.v (.int .i64 0)), .nilS, (.v (.int .i64 0)), (.v (.int .i64 0)), (.v (.int .i64 0)), (.v (.int .i64 0)), (.v (.int .i64 0)), (.v (.int .i64 0)), (.v (.int .i64 0)), (.v (.int .i64 0)), (.v (.int .i64 0)), (.v (.int .i64 0))], none⟩])
  (.seq (.reg [⟨(some 4), .build [(.v (.int .i64 0)), (.v (.int .i64 0)), (.v (.int .i64 0)), (.v (.int .i64 0)), (.v (.int .i64 0)), (.v (.int .i64 0)), (.v (.int .i64 0)), (.v (.bool false)), (.v (.int .i64 0)), (.v (.int .i64 0)), (.v (.int .i64 0)), (.v (.int .i64 0))] [(1, 1, (.c (.v (.int .i64 50000)))), (2, 1, (.c (.v (.int .i64 1000)))), (3, 1, (.c (.v (.int .i64 4000))))], none⟩, ⟨(some 5), .build [(.v (.int .i64 0)), (.v (.int .i64 0)), (.v (.int .i64 0)), (.v (.int .i64 0)), (.v (.int .i64 0)), (.v (.int .i64 0)), (.v (.int .i64 0)), (.v (.bool false)), (.v (.int .i64 0)), (.v (.int .i64 0)), (.v (.int .i64 0)), (.v (.int .i64 0))] [(1, 1, (.c (.v (.int .i64 40000)))), (2, 1, (.c (.v (.int .i64 1000)))), (3, 1, (.c (.v (.int .i64 4000))))], none⟩, ⟨(some 6), .dslice 65 12 2 [(.v (.int .i64 0)), (.v (.int .i64 0)), (.v (.int .i64 0)), (.v (.int .i64 0)), (.v (.int .i64 0)), (.v (.int .i64 0)), (.v (.int .i64 0)), (.v (.bool false)), (.v (.int .i64 0)), (.v (.int .i64 0)), (.v (.int .i64 0)), (.v (.int .i64 0))] [(0, 12, (.t 4)), (12, 12, (.t 5))], none⟩, ⟨(some 7), .call (.c (.fn (.func 43) [] [])) [(.c (.v (.int .i64 1000))), (.t 6)], none⟩, ⟨(some 3), .mv (.t 7), none⟩, ⟨(some 8), .ext (.t 3) 0, none⟩, ⟨(some 9), .ext (.t 3) 1, none⟩, ⟨(some 1), .alloc 38 [(.v (.int .i64 0)), (.v (.int .i64 0)), .nilS, (.v (.int .i64 0)), (.v (.int .i64 0)), (.v (.int .i64 0)), (.v (.int .i64 0)), (.v (.int .i64 0)), (.v (.int .i64 0)), (.v (.int .i64 0)), (.v (.int .i64 0)), (.v (.int .i64 0)), (.v (.int .i64 0))], none⟩, ⟨none, .store 13 (.t 1) (.t 8), none⟩, ⟨(some 2), .mv (.t 9), none⟩])
  (.seq (.seq (.reg [⟨(some 10), .mv (.t 2), none⟩, ⟨(some 11), .bin .neq (.t 10) (.c (.v (.int .i64 0))), none⟩, ⟨(some 12), .mv (.t 11), none⟩, ⟨(some 13), .fieldA 2 (.t 1), (some (12, false))⟩, ⟨(some 14), .load 1 false (.t 13), (some (12, false))⟩, ⟨(some 15), .len (.t 14), (some (12, false))⟩, ⟨(some 16), .bin .neq (.t 15) (.c (.v (.int .i64 2))), (some (12, false))⟩, ⟨(some 17), .pick (.t 12) (.c (.v (.bool true))) (.t 16), none⟩])
  (.cond (.t 17)
    (.seq (.reg [⟨(some 18), .build [(.v (.int .i64 0)), (.v (.int .i64 0)), .nilS, (.v (.int .i64 0)), (.v (.int .i64 0)), (.v (.int .i64 0)), (.v (.int .i64 0)), (.v (.int .i64 0)), (.v (.int .i64 0)), (.v (.int .i64 0)), (.v (.int .i64 0)), (.v (.int .i64 0)), (.v (.int .i64 0))] [], none⟩, ⟨none, .store 13 (.t 0) (.t 18), none⟩])
    .ret)
    .skip))
  (.seq (.reg [⟨(some 19), .load 13 true (.t 1), none⟩, ⟨none, .store 13 (.t 0) (.t 19), none⟩])
  .ret))))
theorem fn_law09_shown : FnOK Try.prog 57 20 [.cell 0 13 true] ac_law09_shown := ⟨_, _, Try.func57, rfl, Try.ntmps57, by kernel_rfl, ⟨fun r => if r == 1 then [1002] else [], by kernel_rfl⟩, by kernel_rfl⟩
theorem law09_shown_ok (r : Convoy) (h : law09_shown = some r) : PCall Try.prog 57 [] (.agg [(i64 r.Tick), (i64 r.Gap), (.list (List.map eMate r.Mates)), (i64 r.Guest_.ID), (i64 r.Guest_.S), (i64 r.Guest_.V), (i64 r.Guest_.Len), (i64 r.Guest_.End), (i64 r.Guest_.Ahead), (i64 r.Guest_.Guess_.R), (i64 r.Guest_.Guess_.V), (i64 r.Guest_.From), (i64 r.Guest_.Until)]) := by
  refine l_call fn_law09_shown (Nat.le_of_ble_eq_true rfl) ?_
  unfold law09_shown at h
  unfold ac_law09_shown
  refine (l_sub (s0 := ⟨T [], G []⟩) (sb_of trivial trivial) ?_)
  refine l_seq ?_
  refine l_reg fun u1 hu1 => ?_
  refine s_new (.ptr _ _) (.box _ _) rfl rfl ?_
  refine s_nil ?_
  refine l_seq ?_
  refine l_reg fun u2 hu2 => ?_
  refine s_val (.d _) rfl rfl ?_
  refine s_val (.d _) rfl rfl ?_
  refine s_val (.d (.list (List.map eMate [(Mate.mk 0 50000 1000 4000 0 (Guess.mk 0 0) false 0 (Guess.mk 0 0) 0), (Mate.mk 0 40000 1000 4000 0 (Guess.mk 0 0) false 0 (Guess.mk 0 0) 0)]))) rfl (v_dsliceN eMate ([(Mate.mk 0 50000 1000 4000 0 (Guess.mk 0 0) false 0 (Guess.mk 0 0) 0), (Mate.mk 0 40000 1000 4000 0 (Guess.mk 0 0) false 0 (Guess.mk 0 0) 0)] : List Mate) (fun _ => rfl) rfl rfl ⟨rfl, rfl, rfl, rfl, rfl, rfl, trivial⟩) ?_
  obtain ⟨v1, hv1, h⟩ := bind_some h
  refine s_call rfl rfl all2_refl (convoy_New_ok _ _  _ hv1) (.inl rfl) ?_
  refine s_val (.d _) rfl rfl ?_
  refine s_val (.d _) rfl rfl ?_
  refine s_val (.d _) rfl rfl ?_
  refine s_new (.ptr _ _) (.box _ _) rfl rfl ?_
  refine s_store _ _ _ _ _ rfl rfl rfl G_hit (Nat.le_of_ble_eq_true rfl) [(.d (i64 v1.1.Tick)), (.d (i64 v1.1.Gap)), (.d (.list (List.map eMate v1.1.Mates))), (.d (i64 v1.1.Guest_.ID)), (.d (i64 v1.1.Guest_.S)), (.d (i64 v1.1.Guest_.V)), (.d (i64 v1.1.Guest_.Len)), (.d (i64 v1.1.Guest_.End)), (.d (i64 v1.1.Guest_.Ahead)), (.d (i64 v1.1.Guest_.Guess_.R)), (.d (i64 v1.1.Guest_.Guess_.V)), (.d (i64 v1.1.Guest_.From)), (.d (i64 v1.1.Guest_.Until))] rfl ?_
  refine s_val (.d _) rfl rfl ?_
  refine s_nil ?_
  refine l_seq ?_
  refine l_seq ?_
  refine l_reg fun u3 hu3 => ?_
  refine s_val (.d _) rfl rfl ?_
  refine s_val (.d _) rfl rfl ?_
  refine s_val (.d _) rfl rfl ?_
  refine g_val (!(v1.2 != 0)) (.ptr _ _) rfl (gw_f rfl) (fun w1 => rfl) ?_
  refine g_val (!(v1.2 != 0)) (.d _) rfl (gw_f rfl) (fun w2 => (v_load (gd_pos w2) G_hit rfl)) ?_
  refine g_val (!(v1.2 != 0)) (.d _) rfl (gw_f rfl) (fun w3 => (v_len (gd_pos w3))) ?_
  refine g_val (!(v1.2 != 0)) (.d _) rfl (gw_f rfl) (fun w4 => (v_bin (gd_pos w4) rfl rfl)) ?_
  refine s_val (.d _) rfl (v_or rfl rfl (fun hc => gd_pos (not_t hc))) ?_
  refine s_nil ?_
  refine l_cond ((v1.2 != 0) || ((v1.1.Mates.length : Int) != 2)) rfl (fun c1 => ?_) (fun c1 => ?_)
  · replace h := cond_t c1 h
    refine l_seq ?_
    refine l_reg fun u4 hu4 => ?_
    refine s_val (.d _) rfl rfl ?_
    refine s_store _ _ _ _ _ rfl rfl rfl (G_skip rfl (G_skip rfl G_hit)) (Nat.le_of_ble_eq_true rfl) [(.d (i64 0)), (.d (i64 0)), (.d .nilS), (.d (i64 0)), (.d (i64 0)), (.d (i64 0)), (.d (i64 0)), (.d (i64 0)), (.d (i64 0)), (.d (i64 0)), (.d (i64 0)), (.d (i64 0)), (.d (i64 0))] rfl ?_
    refine s_nil ?_
    refine l_ret ?_
    obtain rfl := Option.some.inj h
    refine fin_ok (.inr rfl) (resD1 (res_cellG rfl G_hit (Nat.le_of_ble_eq_true rfl) rfl) rf_d) ?_
    exact (.agg (.cons ⟨(.refl _), rfl⟩ (.cons ⟨(.refl _), rfl⟩ (.cons ⟨DLe.nil, rfl⟩ (.cons ⟨(.refl _), rfl⟩ (.cons ⟨(.refl _), rfl⟩ (.cons ⟨(.refl _), rfl⟩ (.cons ⟨(.refl _), rfl⟩ (.cons ⟨(.refl _), rfl⟩ (.cons ⟨(.refl _), rfl⟩ (.cons ⟨(.refl _), rfl⟩ (.cons ⟨(.refl _), rfl⟩ (.cons ⟨(.refl _), rfl⟩ (.cons ⟨(.refl _), rfl⟩ .nil))))))))))))))
  · replace h := cond_f c1 h
    refine l_skip ?_
    refine l_seq ?_
    refine l_reg fun u5 hu5 => ?_
    refine s_val (.d _) rfl (v_loadG rfl G_hit rfl rfl) ?_
    refine s_store _ _ _ _ _ rfl rfl rfl (G_skip rfl (G_skip rfl G_hit)) (Nat.le_of_ble_eq_true rfl) [(.d (i64 v1.1.Tick)), (.d (i64 v1.1.Gap)), (.d (.list (List.map eMate v1.1.Mates))), (.d (i64 v1.1.Guest_.ID)), (.d (i64 v1.1.Guest_.S)), (.d (i64 v1.1.Guest_.V)), (.d (i64 v1.1.Guest_.Len)), (.d (i64 v1.1.Guest_.End)), (.d (i64 v1.1.Guest_.Ahead)), (.d (i64 v1.1.Guest_.Guess_.R)), (.d (i64 v1.1.Guest_.Guess_.V)), (.d (i64 v1.1.Guest_.From)), (.d (i64 v1.1.Guest_.Until))] rfl ?_
    refine s_nil ?_
    refine l_ret ?_
    obtain rfl := Option.some.inj h
    refine fin_ok (.inr rfl) (resD1 (res_cellG rfl G_hit (Nat.le_of_ble_eq_true rfl) rfl) rf_d) ?_
    exact (.refl _)
end Go.Abs.Convoy
