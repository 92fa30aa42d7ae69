/-
  The Go functions that ConvoyLies reaches, as plain Lean functions, and the proofs that the program computes them.
-/
import Derived.Test.YtdkgjoilcfoclaaCoreD
import Derived.Test.YtdkgjoilcfoclaaProg
import Derived.KernelRfl
import Derived.IntWalk
import Derived.Shelf.RegionOpenPlain
import Derived.WalkKit
import Derived.Lib.Walk
import Derived.Lib.JoinLaws
import Derived.Laws.Externs
import Derived.Laws.IdiomCopy
import Derived.Shelf.Spec.SlicesInsert
set_option maxRecDepth 20000
set_option linter.unusedVariables false
namespace Go.Abs.Convoy
open Go Go.Abs Go.Proofs
attribute [local irreducible] regW regT AWL
structure Guess where
  R : Int
  V : Int
  deriving Inhabited
structure Mate where
  ID : Int
  S : Int
  V : Int
  Len : Int
  Ahead : Int
  Guess_ : Guess
  Trust : Bool
  Ward : Int
  WardGuess : Guess
  Until : Int
  deriving Inhabited
abbrev eMate : Mate → List D := fun x => [(i64 x.ID), (i64 x.S), (i64 x.V), (i64 x.Len), (i64 x.Ahead), (i64 x.Guess_.R), (i64 x.Guess_.V), (bo x.Trust), (i64 x.Ward), (i64 x.WardGuess.R), (i64 x.WardGuess.V), (i64 x.Until)]
abbrev eInt_i64 : Int → List D := fun x => [.v (.int .i64 x)]
abbrev eL_Int_i64 : (List Int) → List D := fun x => [.list (List.map eInt_i64 x)]
structure Note where
  Kind : Int
  From : Int
  To : Int
  Stamp : Int
  R : Int
  V : Int
  Until : Int
  deriving Inhabited
abbrev eNote : Note → List D := fun x => [(i64 x.Kind), (i64 x.From), (i64 x.To), (i64 x.Stamp), (i64 x.R), (i64 x.V), (i64 x.Until)]
abbrev eL_Note : (List Note) → List D := fun x => [.list (List.map eNote x)]
structure Guest where
  ID : Int
  S : Int
  V : Int
  Len : Int
  End : Int
  Ahead : Int
  Guess_ : Guess
  From : Int
  Until : Int
  deriving Inhabited
structure Convoy where
  Tick : Int
  Gap : Int
  Mates : (List Mate)
  Guest_ : Guest
  deriving Inhabited
structure KitRing where
  l : (List Int)
  at_ : Int
  deriving Inhabited
structure Sight where
  By : Int
  Lo : Int
  Hi : Int
  VLo : Int
  VHi : Int
  deriving Inhabited
abbrev eSight : Sight → List D := fun x => [(i64 x.By), (i64 x.Lo), (i64 x.Hi), (i64 x.VLo), (i64 x.VHi)]
structure ConvoyLetter where
  Note_ : Note
  guess : Guess
  deriving Inhabited
abbrev eConvoyLetter : ConvoyLetter → List D := fun x => [(i64 x.Note_.Kind), (i64 x.Note_.From), (i64 x.Note_.To), (i64 x.Note_.Stamp), (i64 x.Note_.R), (i64 x.Note_.V), (i64 x.Note_.Until), (i64 x.guess.R), (i64 x.guess.V)]
structure ConvoyMind where
  Mate_ : Mate
  tick : Int
  gap : Int
  sight : Sight
  sees : Bool
  deriving Inhabited
structure Anon7 where
  x : Int
  y : Int
  signed : Bool
  code : Int
  deriving Inhabited
structure RuntimeBoundsError where
  x : Int
  y : Int
  signed : Bool
  code : Int
  deriving Inhabited
structure Anon13 where
  msg : ByteArray
  addr : Int
  deriving Inhabited
structure RuntimeErrorAddressString where
  msg : ByteArray
  addr : Int
  deriving Inhabited
structure Anon22 where
  R : Int
  V : Int
  deriving Inhabited
structure Anon35 where
  ID : Int
  S : Int
  V : Int
  Len : Int
  End : Int
  Ahead : Int
  Guess_ : Guess
  From : Int
  Until : Int
  deriving Inhabited
structure Anon37 where
  Tick : Int
  Gap : Int
  Mates : (List Mate)
  Guest_ : Guest
  deriving Inhabited
structure Anon41 where
  By : Int
  Lo : Int
  Hi : Int
  VLo : Int
  VHi : Int
  deriving Inhabited
structure Anon64 where
  ID : Int
  S : Int
  V : Int
  Len : Int
  Ahead : Int
  Guess_ : Guess
  Trust : Bool
  Ward : Int
  WardGuess : Guess
  Until : Int
  deriving Inhabited
structure Anon67 where
  Kind : Int
  From : Int
  To : Int
  Stamp : Int
  R : Int
  V : Int
  Until : Int
  deriving Inhabited
structure Anon75 where
  sent : (List Note)
  deriving Inhabited
structure KitPost where
  sent : (List Note)
  deriving Inhabited
structure Anon93 where
  l : (List Int)
  at_ : Int
  deriving Inhabited
structure Anon106 where
  Mate_ : Mate
  tick : Int
  gap : Int
  sight : Sight
  sees : Bool
  deriving Inhabited
structure Anon124 where
  Note_ : Note
  guess : Guess
  deriving Inhabited
abbrev eConvoyMind : ConvoyMind → List D := fun x => [(i64 x.Mate_.ID), (i64 x.Mate_.S), (i64 x.Mate_.V), (i64 x.Mate_.Len), (i64 x.Mate_.Ahead), (i64 x.Mate_.Guess_.R), (i64 x.Mate_.Guess_.V), (bo x.Mate_.Trust), (i64 x.Mate_.Ward), (i64 x.Mate_.WardGuess.R), (i64 x.Mate_.WardGuess.V), (i64 x.Mate_.Until), (i64 x.tick), (i64 x.gap), (i64 x.sight.By), (i64 x.sight.Lo), (i64 x.sight.Hi), (i64 x.sight.VLo), (i64 x.sight.VHi), (bo x.sees)]
abbrev dConvoyMind : ConvoyMind → List AV := fun x => [(.d (i64 x.Mate_.ID)), (.d (i64 x.Mate_.S)), (.d (i64 x.Mate_.V)), (.d (i64 x.Mate_.Len)), (.d (i64 x.Mate_.Ahead)), (.d (i64 x.Mate_.Guess_.R)), (.d (i64 x.Mate_.Guess_.V)), (.d (bo x.Mate_.Trust)), (.d (i64 x.Mate_.Ward)), (.d (i64 x.Mate_.WardGuess.R)), (.d (i64 x.Mate_.WardGuess.V)), (.d (i64 x.Mate_.Until)), (.d (i64 x.tick)), (.d (i64 x.gap)), (.d (i64 x.sight.By)), (.d (i64 x.sight.Lo)), (.d (i64 x.sight.Hi)), (.d (i64 x.sight.VLo)), (.d (i64 x.sight.VHi)), (.d (bo x.sees))]
abbrev eConvoy : Convoy → List D := fun x => [(i64 x.Tick), (i64 x.Gap), (.list (List.map eMate x.Mates)), (i64 x.Guest_.ID), (i64 x.Guest_.S), (i64 x.Guest_.V), (i64 x.Guest_.Len), (i64 x.Guest_.End), (i64 x.Guest_.Ahead), (i64 x.Guest_.Guess_.R), (i64 x.Guest_.Guess_.V), (i64 x.Guest_.From), (i64 x.Guest_.Until)]
abbrev dConvoy : Convoy → List AV := fun x => [(.d (i64 x.Tick)), (.d (i64 x.Gap)), (.d (.list (List.map eMate x.Mates))), (.d (i64 x.Guest_.ID)), (.d (i64 x.Guest_.S)), (.d (i64 x.Guest_.V)), (.d (i64 x.Guest_.Len)), (.d (i64 x.Guest_.End)), (.d (i64 x.Guest_.Ahead)), (.d (i64 x.Guest_.Guess_.R)), (.d (i64 x.Guest_.Guess_.V)), (.d (i64 x.Guest_.From)), (.d (i64 x.Guest_.Until))]
abbrev dMate : Mate → List AV := fun x => [(.d (i64 x.ID)), (.d (i64 x.S)), (.d (i64 x.V)), (.d (i64 x.Len)), (.d (i64 x.Ahead)), (.d (i64 x.Guess_.R)), (.d (i64 x.Guess_.V)), (.d (bo x.Trust)), (.d (i64 x.Ward)), (.d (i64 x.WardGuess.R)), (.d (i64 x.WardGuess.V)), (.d (i64 x.Until))]
abbrev eGuest : Guest → List D := fun x => [(i64 x.ID), (i64 x.S), (i64 x.V), (i64 x.Len), (i64 x.End), (i64 x.Ahead), (i64 x.Guess_.R), (i64 x.Guess_.V), (i64 x.From), (i64 x.Until)]
abbrev dGuest : Guest → List AV := fun x => [(.d (i64 x.ID)), (.d (i64 x.S)), (.d (i64 x.V)), (.d (i64 x.Len)), (.d (i64 x.End)), (.d (i64 x.Ahead)), (.d (i64 x.Guess_.R)), (.d (i64 x.Guess_.V)), (.d (i64 x.From)), (.d (i64 x.Until))]
abbrev dConvoyLetter : ConvoyLetter → List AV := fun x => [(.d (i64 x.Note_.Kind)), (.d (i64 x.Note_.From)), (.d (i64 x.Note_.To)), (.d (i64 x.Note_.Stamp)), (.d (i64 x.Note_.R)), (.d (i64 x.Note_.V)), (.d (i64 x.Note_.Until)), (.d (i64 x.guess.R)), (.d (i64 x.guess.V))]
abbrev dNote : Note → List AV := fun x => [(.d (i64 x.Kind)), (.d (i64 x.From)), (.d (i64 x.To)), (.d (i64 x.Stamp)), (.d (i64 x.R)), (.d (i64 x.V)), (.d (i64 x.Until))]
abbrev dSight : Sight → List AV := fun x => [(.d (i64 x.By)), (.d (i64 x.Lo)), (.d (i64 x.Hi)), (.d (i64 x.VLo)), (.d (i64 x.VHi))]


noncomputable def convoy_within (p1 : Int) (p2 : Int) (p3 : Int) : Option Bool :=
  some ((decide (p2 ≤ p1)) && (decide (p1 ≤ p3)))

/-- kerbstone/convoy.within -/
def ac_convoy_within : AC := (.seq (.reg [oo 6 (.mv (.c zf))]) (.seq (.reg [oo 7 (.mv (.t 1)), oo 8 (.mv (.t 0)), oo 9 (.bin .leq (.t 7) (.t 8)), oo 10 (.mv (.t 9)), og 11 (.mv (.t 0)) 10, og 12 (.mv (.t 2)) 10, og 13 (.bin .leq (.t 11) (.t 12)) 10, oo 14 (.pick (.t 10) (.t 13) (.c zf)), oo 6 (.mv (.t 14))]) .ret))
theorem fn_convoy_within : FnOK Try.prog 95 15 [.t 6] ac_convoy_within := ⟨_, _, Try.func95, rfl, Try.ntmps95, by kernel_rfl, ⟨fun _ => [], by kernel_rfl⟩, by kernel_rfl⟩
theorem convoy_within_ok (p1 : Int) (p2 : Int) (p3 : Int) (r : Bool) (h : convoy_within p1 p2 p3 = some r) : PCall Try.prog 95 [(i64 p1), (i64 p2), (i64 p3)] (bo r) := by
  refine l_call fn_convoy_within (nl rfl) ?_
  unfold convoy_within at h
  unfold ac_convoy_within
  refine l_sub (s0 := ⟨T [(0, (.d _)), (1, (.d _)), (2, (.d _))], G []⟩) (sbr rfl rfl) ?_
  refine lr (fun u1 hu1 => sv rfl (s_nil (lr (fun u2 hu2 => sv rfl (sv rfl (sv rfl (sv rfl (gt rfl (fun _ => rfl) (gt rfl (fun _ => rfl) (gt rfl (fun w3 => (v_bin (gd_pos w3) (gd_pos w3) rfl)) (sa rfl rfl rfl (sv rfl (s_nil (l_ret ?_))))))))))))))
  obtain rfl := Option.some.inj h
  exact fin_ok (.inr rfl) (resD1 (res_t rfl) rf_d) (.refl _)

noncomputable def convoy_fairBody (p1 : Int) (p2 : Int) (p3 : Int) (p4 : Int) : Option Bool :=
  ((cond ((decide (p1 ≥ 1)) && (decide (p1 ≤ 99))) (convoy_within p2 0 1099511627776) (some default))).bind fun v1 => ((cond (((decide (p1 ≥ 1)) && (decide (p1 ≤ 99))) && v1) (convoy_within p3 0 2000) (some default))).bind fun v2 => ((cond ((((decide (p1 ≥ 1)) && (decide (p1 ≤ 99))) && v1) && v2) (convoy_within p4 300 20000) (some default))).bind fun v3 => some (((((decide (p1 ≥ 1)) && (decide (p1 ≤ 99))) && v1) && v2) && v3)

/-- kerbstone/convoy.fairBody -/
def ac_convoy_fairBody : AC := (.seq (.reg [oo 8 (.mv (.c zf))]) (.seq (.reg [oo 9 (.mv (.t 0)), oo 10 (.bin .geq (.t 9) (ci 1)), oo 11 (.mv (.t 10)), og 12 (.mv (.t 0)) 11, og 13 (.bin .leq (.t 12) (ci 99)) 11, oo 14 (.pick (.t 11) (.t 13) (.c zf)), oo 15 (.mv (.t 14)), og 16 (.mv (.t 1)) 15, og 17 (.call (cf 95) [(.t 16), (ci 0), (ci 1099511627776)]) 15, oo 18 (.pick (.t 15) (.t 17) (.c zf)), oo 19 (.mv (.t 18)), og 20 (.mv (.t 2)) 19, og 21 (.call (cf 95) [(.t 20), (ci 0), (ci 2000)]) 19, oo 22 (.pick (.t 19) (.t 21) (.c zf)), oo 23 (.mv (.t 22)), og 24 (.mv (.t 3)) 23, og 25 (.call (cf 95) [(.t 24), (ci 300), (ci 20000)]) 23, oo 26 (.pick (.t 23) (.t 25) (.c zf)), oo 8 (.mv (.t 26))]) .ret))
theorem fn_convoy_fairBody : FnOK Try.prog 122 27 [.t 8] ac_convoy_fairBody := ⟨_, _, Try.func122, rfl, Try.ntmps122, by kernel_rfl, ⟨fun _ => [], by kernel_rfl⟩, by kernel_rfl⟩
theorem convoy_fairBody_ok (p1 : Int) (p2 : Int) (p3 : Int) (p4 : Int) (r : Bool) (h : convoy_fairBody p1 p2 p3 p4 = some r) : PCall Try.prog 122 [(i64 p1), (i64 p2), (i64 p3), (i64 p4)] (bo r) := by
  refine l_call fn_convoy_fairBody (nl rfl) ?_
  unfold convoy_fairBody at h
  unfold ac_convoy_fairBody
  refine l_sub (s0 := ⟨T [(0, (.d _)), (1, (.d _)), (2, (.d _)), (3, (.d _))], G []⟩) (sbr rfl rfl) ?_
  refine lr (fun u1 hu1 => sv rfl (s_nil (lr (fun u2 hu2 => sv rfl (sv rfl (sv rfl (gt rfl (fun _ => rfl) (gt rfl (vb rfl rfl rfl) (sa rfl rfl rfl (sv rfl (gt rfl (fun _ => rfl) (bs h fun v1 hv1 h => ?_))))))))))))
  refine g_call _ (bo v1) (gw_t rfl) (fun w4 => ⟨_, [(di p2), (di 0), (di 1099511627776)], _, _, (by simp only [gd_pos w4]; rfl), rfl, all2_refl, convoy_within_ok _ _ _  _ (cond_t w4 hv1), (.inl rfl)⟩) ?_
  refine sa rfl rfl rfl (sv rfl (gt rfl (fun _ => rfl) (bs h fun v2 hv2 h => ?_)))
  refine g_call _ (bo v2) (gw_t rfl) (fun w6 => ⟨_, [(di p3), (di 0), (di 2000)], _, _, (by simp only [gd_pos w6]; rfl), rfl, all2_refl, convoy_within_ok _ _ _  _ (cond_t w6 hv2), (.inl rfl)⟩) ?_
  refine sa rfl rfl rfl (sv rfl (gt rfl (fun _ => rfl) (bs h fun v3 hv3 h => ?_)))
  refine g_call _ (bo v3) (gw_t rfl) (fun w8 => ⟨_, [(di p4), (di 300), (di 20000)], _, _, (by simp only [gd_pos w8]; rfl), rfl, all2_refl, convoy_within_ok _ _ _  _ (cond_t w8 hv3), (.inl rfl)⟩) ?_
  refine sa rfl rfl rfl (sv rfl (s_nil (l_ret ?_)))
  obtain rfl := Option.some.inj h
  exact fin_ok (.inr rfl) (resD1 (res_t rfl) rf_d) (.refl _)

noncomputable def convoy_fairID (p1 : Int) : Option Bool :=
  some ((decide (p1 ≥ 0)) && (decide (p1 ≤ 99)))

/-- kerbstone/convoy.fairID -/
def ac_convoy_fairID : AC := (.seq (.reg [oo 2 (.mv (.c zf))]) (.seq (.reg [oo 3 (.mv (.t 0)), oo 4 (.bin .geq (.t 3) (ci 0)), oo 5 (.mv (.t 4)), og 6 (.mv (.t 0)) 5, og 7 (.bin .leq (.t 6) (ci 99)) 5, oo 8 (.pick (.t 5) (.t 7) (.c zf)), oo 2 (.mv (.t 8))]) .ret))
theorem fn_convoy_fairID : FnOK Try.prog 123 9 [.t 2] ac_convoy_fairID := ⟨_, _, Try.func123, rfl, Try.ntmps123, by kernel_rfl, ⟨fun _ => [], by kernel_rfl⟩, by kernel_rfl⟩
theorem convoy_fairID_ok (p1 : Int) (r : Bool) (h : convoy_fairID p1 = some r) : PCall Try.prog 123 [(i64 p1)] (bo r) := by
  refine l_call fn_convoy_fairID (nl rfl) ?_
  unfold convoy_fairID at h
  unfold ac_convoy_fairID
  refine l_sub (s0 := ⟨T [(0, (.d _))], G []⟩) (sbr rfl rfl) ?_
  refine lr (fun u1 hu1 => sv rfl (s_nil (lr (fun u2 hu2 => sv rfl (sv rfl (sv rfl (gt rfl (fun _ => rfl) (gt rfl (vb rfl rfl rfl) (sa rfl rfl rfl (sv rfl (s_nil (l_ret ?_))))))))))))
  obtain rfl := Option.some.inj h
  exact fin_ok (.inr rfl) (resD1 (res_t rfl) rf_d) (.refl _)

noncomputable def convoy_fairGuess (p1 : Guess) : Option Bool :=
  (convoy_within p1.R (-20000) 2199023255552).bind fun v1 => ((cond v1 (convoy_within p1.V 0 2000) (some default))).bind fun v2 => some (v1 && v2)

/-- kerbstone/convoy.fairGuess -/
def ac_convoy_fairGuess : AC := (.seq (.reg [oo 1 (.box 23 true (.t 0)), oo 2 (.mv (.c zf))]) (.seq (.reg [oo 3 (.fieldA 0 (.t 1)), oo 4 (.load 1 false (.t 3)), oo 5 (.call (cf 95) [(.t 4), (ci (-20000)), (ci 2199023255552)]), oo 6 (.mv (.t 5)), og 7 (.fieldA 1 (.t 1)) 6, og 8 (.load 1 false (.t 7)) 6, og 9 (.call (cf 95) [(.t 8), (ci 0), (ci 2000)]) 6, oo 10 (.pick (.t 6) (.t 9) (.c zf)), oo 2 (.mv (.t 10))]) .ret))
theorem fn_convoy_fairGuess : FnOK Try.prog 124 11 [.t 2] ac_convoy_fairGuess := ⟨_, _, Try.func124, rfl, Try.ntmps124, by kernel_rfl, ⟨fun _ => [], by kernel_rfl⟩, by kernel_rfl⟩
theorem convoy_fairGuess_ok (p1 : Guess) (r : Bool) (h : convoy_fairGuess p1 = some r) : PCall Try.prog 124 [(.agg [(i64 p1.R), (i64 p1.V)])] (bo r) := by
  refine l_call fn_convoy_fairGuess (nl rfl) ?_
  unfold convoy_fairGuess at h
  unfold ac_convoy_fairGuess
  refine l_sub (s0 := ⟨T [(0, (.d _))], G []⟩) (sbr rfl rfl) ?_
  refine lr (fun u1 hu1 => sn rfl rfl (sv rfl (s_nil (lr (fun u2 hu2 => sp rfl rfl (sl rfl G_hit rfl (bs h fun v1 hv1 h => s_call rfl rfl all2_refl (convoy_within_ok _ _ _  _ hv1) (.inl rfl) (sv rfl (gp rfl (gw_t rfl) (fun _ => rfl) (gt rfl (vl rfl G_hit rfl) (bs h fun v2 hv2 h => ?_)))))))))))
  refine g_call v1 (bo v2) (gw_t rfl) (fun w3 => ⟨_, [(di p1.V), (di 0), (di 2000)], _, _, (by simp only [gd_pos w3]; rfl), rfl, all2_refl, convoy_within_ok _ _ _  _ (cond_t w3 hv2), (.inl rfl)⟩) ?_
  refine sa rfl rfl rfl (sv rfl (s_nil (l_ret ?_)))
  obtain rfl := Option.some.inj h
  exact fin_ok (.inr rfl) (resD1 (res_t rfl) rf_d) (.refl _)

noncomputable def convoy_fairMate (p1 : Mate) : Option Bool :=
  (convoy_fairBody p1.ID p1.S p1.V p1.Len).bind fun v1 => ((cond v1 (convoy_fairID p1.Ahead) (some default))).bind fun v2 => ((cond (v1 && v2) (convoy_fairID p1.Ward) (some default))).bind fun v3 => ((cond ((v1 && v2) && v3) (convoy_within p1.Until 0 2199023255552) (some default))).bind fun v4 => ((cond (((v1 && v2) && v3) && v4) (convoy_fairGuess p1.Guess_) (some default))).bind fun v5 => ((cond ((((v1 && v2) && v3) && v4) && v5) (convoy_fairGuess p1.WardGuess) (some default))).bind fun v6 => some (((((v1 && v2) && v3) && v4) && v5) && v6)

/-- kerbstone/convoy.fairMate -/
def ac_convoy_fairMate : AC := (.seq (.reg [oo 1 (.box 65 true (.t 0)), oo 2 (.mv (.c zf))]) (.seq (.reg [oo 3 (.fieldA 0 (.t 1)), oo 4 (.load 1 false (.t 3)), oo 5 (.fieldA 1 (.t 1)), oo 6 (.load 1 false (.t 5)), oo 7 (.fieldA 2 (.t 1)), oo 8 (.load 1 false (.t 7)), oo 9 (.fieldA 3 (.t 1)), oo 10 (.load 1 false (.t 9)), oo 11 (.call (cf 122) [(.t 4), (.t 6), (.t 8), (.t 10)]), oo 12 (.mv (.t 11)), og 13 (.fieldA 4 (.t 1)) 12, og 14 (.load 1 false (.t 13)) 12, og 15 (.call (cf 123) [(.t 14)]) 12, oo 16 (.pick (.t 12) (.t 15) (.c zf)), oo 17 (.mv (.t 16)), og 18 (.fieldA 8 (.t 1)) 17, og 19 (.load 1 false (.t 18)) 17, og 20 (.call (cf 123) [(.t 19)]) 17, oo 21 (.pick (.t 17) (.t 20) (.c zf)), oo 22 (.mv (.t 21)), og 23 (.fieldA 11 (.t 1)) 22, og 24 (.load 1 false (.t 23)) 22, og 25 (.call (cf 95) [(.t 24), (ci 0), (ci 2199023255552)]) 22, oo 26 (.pick (.t 22) (.t 25) (.c zf)), oo 27 (.mv (.t 26)), og 28 (.fieldA 5 (.t 1)) 27, og 29 (.load 2 true (.t 28)) 27, og 30 (.call (cf 124) [(.t 29)]) 27, oo 31 (.pick (.t 27) (.t 30) (.c zf)), oo 32 (.mv (.t 31)), og 33 (.fieldA 9 (.t 1)) 32, og 34 (.load 2 true (.t 33)) 32, og 35 (.call (cf 124) [(.t 34)]) 32, oo 36 (.pick (.t 32) (.t 35) (.c zf)), oo 2 (.mv (.t 36))]) .ret))
theorem fn_convoy_fairMate : FnOK Try.prog 102 37 [.t 2] ac_convoy_fairMate := ⟨_, _, Try.func102, rfl, Try.ntmps102, by kernel_rfl, ⟨fun _ => [], by kernel_rfl⟩, by kernel_rfl⟩
theorem convoy_fairMate_ok (p1 : Mate) (r : Bool) (h : convoy_fairMate p1 = some r) : PCall Try.prog 102 [(.agg (eMate p1))] (bo r) := by
  refine l_call fn_convoy_fairMate (nl rfl) ?_
  unfold convoy_fairMate at h
  unfold ac_convoy_fairMate
  refine l_sub (s0 := ⟨T [(0, (.d _))], G []⟩) (sbr rfl rfl) ?_
  refine lr (fun u1 hu1 => sn rfl rfl (sv rfl (s_nil (lr (fun u2 hu2 => sp rfl rfl (sl rfl G_hit rfl (sp rfl rfl (sl rfl G_hit rfl (sp rfl rfl (sl rfl G_hit rfl (sp rfl rfl (sl rfl G_hit rfl (bs h fun v1 hv1 h => s_call rfl rfl all2_refl (convoy_fairBody_ok _ _ _ _  _ hv1) (.inl rfl) (sv rfl (gp rfl (gw_t rfl) (fun _ => rfl) (gt rfl (vl rfl G_hit rfl) (bs h fun v2 hv2 h => ?_)))))))))))))))))
  refine g_call v1 (bo v2) (gw_t rfl) (fun w3 => ⟨_, [(di p1.Ahead)], _, _, (by simp only [gd_pos w3]; rfl), rfl, all2_refl, convoy_fairID_ok _  _ (cond_t w3 hv2), (.inl rfl)⟩) ?_
  refine sa rfl rfl rfl (sv rfl (gp rfl (gw_t rfl) (fun _ => rfl) (gt rfl (vl rfl G_hit rfl) (bs h fun v3 hv3 h => ?_))))
  refine g_call _ (bo v3) (gw_t rfl) (fun w6 => ⟨_, [(di p1.Ward)], _, _, (by simp only [gd_pos w6]; rfl), rfl, all2_refl, convoy_fairID_ok _  _ (cond_t w6 hv3), (.inl rfl)⟩) ?_
  refine sa rfl rfl rfl (sv rfl (gp rfl (gw_t rfl) (fun _ => rfl) (gt rfl (vl rfl G_hit rfl) (bs h fun v4 hv4 h => ?_))))
  refine g_call _ (bo v4) (gw_t rfl) (fun w9 => ⟨_, [(di p1.Until), (di 0), (di 2199023255552)], _, _, (by simp only [gd_pos w9]; rfl), rfl, all2_refl, convoy_within_ok _ _ _  _ (cond_t w9 hv4), (.inl rfl)⟩) ?_
  refine sa rfl rfl rfl (sv rfl (gp rfl (gw_t rfl) (fun _ => rfl) (gt rfl (fun w11 => (v_loadG (gd_pos w11) G_hit rfl rfl)) (bs h fun v5 hv5 h => ?_))))
  refine g_call _ (bo v5) (gw_t rfl) (fun w12 => ⟨_, [(.d (.agg [(i64 p1.Guess_.R), (i64 p1.Guess_.V)]))], _, _, (by simp only [gd_pos w12]; rfl), rfl, all2_refl, convoy_fairGuess_ok _  _ (cond_t w12 hv5), (.inl rfl)⟩) ?_
  refine sa rfl rfl rfl (sv rfl (gp rfl (gw_t rfl) (fun _ => rfl) (gt rfl (fun w14 => (v_loadG (gd_pos w14) G_hit rfl rfl)) (bs h fun v6 hv6 h => ?_))))
  refine g_call _ (bo v6) (gw_t rfl) (fun w15 => ⟨_, [(.d (.agg [(i64 p1.WardGuess.R), (i64 p1.WardGuess.V)]))], _, _, (by simp only [gd_pos w15]; rfl), rfl, all2_refl, convoy_fairGuess_ok _  _ (cond_t w15 hv6), (.inl rfl)⟩) ?_
  refine sa rfl rfl rfl (sv rfl (s_nil (l_ret ?_)))
  obtain rfl := Option.some.inj h
  exact fin_ok (.inr rfl) (resD1 (res_t rfl) rf_d) (.refl _)

noncomputable def convoy_numbers_1 (p1 : Mate) : Option Bool :=
  (convoy_fairMate p1).bind fun v1 => some (!v1)

/-- kerbstone/convoy.numbers$1 -/
def ac_convoy_numbers_1 : AC := (.seq (.reg [oo 1 (.box 65 true (.t 0)), oo 2 (.mv (.c zf))]) (.seq (.reg [oo 3 (.load 12 true (.t 1)), oo 4 (.call (cf 102) [(.t 3)]), oo 5 (.un .not (.t 4)), oo 2 (.mv (.t 5))]) .ret))
theorem fn_convoy_numbers_1 : FnOK Try.prog 101 6 [.t 2] ac_convoy_numbers_1 := ⟨_, _, Try.func101, rfl, Try.ntmps101, by kernel_rfl, ⟨fun _ => [], by kernel_rfl⟩, by kernel_rfl⟩
theorem convoy_numbers_1_ok (p1 : Mate) (r : Bool) (h : convoy_numbers_1 p1 = some r) : PCall Try.prog 101 [(.agg (eMate p1))] (bo r) := by
  refine l_call fn_convoy_numbers_1 (nl rfl) ?_
  unfold convoy_numbers_1 at h
  unfold ac_convoy_numbers_1
  refine l_sub (s0 := ⟨T [(0, (.d _))], G []⟩) (sbr rfl rfl) ?_
  refine lr (fun u1 hu1 => sn rfl rfl (sv rfl (s_nil (lr (fun u2 hu2 => sd rfl (v_loadG rfl G_hit rfl rfl) (bs h fun v1 hv1 h => s_call rfl rfl all2_refl (convoy_fairMate_ok _  _ hv1) (.inl rfl) (s_val (.d (bo (!v1))) rfl rfl (sv rfl (s_nil (l_ret ?_))))))))))
  obtain rfl := Option.some.inj h
  exact fin_ok (.inr rfl) (resD1 (res_t rfl) rf_d) (.refl _)

noncomputable def slices_IndexFunc_Mate_Mate_convoy_numbers_1_l1 (p1 : (List Mate)) (x1 : Int) : Option (Stp Int (Sum Unit Int)) :=
  cond (decide (x1 < (p1.length : Int))) ((geti p1 x1).bind fun v1 => (convoy_numbers_1 v1).bind fun v2 => cond v2 (some (.out (.inr x1))) (some (.go (w64 (x1 + 1))))) (some (.out (.inl ())))
noncomputable def slices_IndexFunc_Mate_Mate_convoy_numbers_1 (p1 : (List Mate)) : Option Int :=
  thenS (loop (slices_IndexFunc_Mate_Mate_convoy_numbers_1_l1 p1) 0) (fun _ => some (-1)) (fun r => some r)

/-- slices.IndexFunc[[]kerbstone/api.Mate,kerbstone/api.Mate] -/
def ac_slices_IndexFunc_Mate_Mate_convoy_numbers_1 : AC := (.seq (.reg [oo 4 (.mv (ci 0))]) (.seq (.seq (.reg [oo 6 (.mv (.t 0)), oo 7 (.len (.t 6)), oo 8 (.mv (ci 0))]) (.block 0 (.loop (.seq (.reg [oo 9 (.bin .lss (.t 8) (.t 7))]) (.seq (.cond (.t 9) .skip (.exit 0)) (.seq (.block 1 (.seq (.reg [oo 10 (.mv (.t 8)), oo 5 (.mv (.t 10))]) (.seq (.reg [oo 11 (.mv (.t 1)), oo 12 (.mv (.t 0)), oo 13 (.mv (.t 5)), oo 14 (.idxS 12 (.t 12) (.t 13)), oo 15 (.load 12 true (.t 14)), oo 16 (.call (.t 11) [(.t 15)])]) (.cond (.t 16) (.seq (.reg [oo 17 (.mv (.t 5)), oo 4 (.mv (.t 17))]) .ret) .skip)))) (.reg [oo 18 (.bin .add (.t 8) (ci 1)), oo 8 (.mv (.t 18))]))))))) (.seq (.reg [oo 4 (.mv (ci (-1)))]) .ret)))
theorem fn_slices_IndexFunc_Mate_Mate_convoy_numbers_1 : FnOK Try.prog 98 19 [.t 4] ac_slices_IndexFunc_Mate_Mate_convoy_numbers_1 := ⟨_, _, Try.func98, rfl, Try.ntmps98, by kernel_rfl, ⟨fun _ => [], by kernel_rfl⟩, by kernel_rfl⟩
set_option maxHeartbeats 4000000 in
theorem slices_IndexFunc_Mate_Mate_convoy_numbers_1_ok (p1 : (List Mate)) (r : Int) (h : slices_IndexFunc_Mate_Mate_convoy_numbers_1 p1 = some r) : PCall Try.prog 98 [(.list (List.map eMate p1)), (.fn (.func 101) [] [])] (i64 r) := by
  refine l_call fn_slices_IndexFunc_Mate_Mate_convoy_numbers_1 (nl rfl) ?_
  unfold slices_IndexFunc_Mate_Mate_convoy_numbers_1 at h
  unfold ac_slices_IndexFunc_Mate_Mate_convoy_numbers_1
  refine l_sub (s0 := ⟨T [(0, (.d _)), (1, (.d _))], G []⟩) (sbr rfl rfl) ?_
  refine lr (fun u1 hu1 => sv rfl (s_nil (l_seq (lr (fun u2 hu2 => sv rfl (sd rfl (v_len rfl) (sv rfl (s_nil (js h fun z1 hz1 h => l_join (fun s => ∃ (y1 : Unit) (g1 : Unit), z1 = .inl y1 ∧ Sb ⟨T [], G []⟩ s) ?_ ?_)))))))))
  · refine l_block (l_loop (slices_IndexFunc_Mate_Mate_convoy_numbers_1_l1 p1) (fun (x1 : Int) (g2 : Unit) => ⟨T [(0, (dl eMate p1)), (1, (.d (.fn (.func 101) [] []))), (7, (di (p1.length : Int))), (8, (di x1))], G []⟩) 0 () _ hz1 (sbr rfl rfl) ?_)
    intro x1 g2 z2 hz2 ez2
    unfold slices_IndexFunc_Mate_Mate_convoy_numbers_1_l1 at hz2
    refine lr (fun u3 hu3 => sv rfl (s_nil (l_seq (cc rfl hz2 (fun c1 hz2 => ?_) (fun c1 hz2 => ?_)))))
    · refine l_skip (l_seq (l_block (lr (fun u4 hu4 => sv rfl (sv rfl (s_nil (lr (fun u5 hu5 => sv rfl (sv rfl (sv rfl (bs hz2 fun v1 hv1 hz2 => sd rfl (v_idx rfl rfl hv1 rfl) (sd rfl (v_loadLG rfl hv1 rfl rfl) (bs hz2 fun v2 hv2 hz2 => s_call rfl rfl all2_refl (convoy_numbers_1_ok _  _ hv2) (.inl rfl) (s_nil (cc rfl hz2 (fun c2 hz2 => ?_) (fun c2 hz2 => ?_))))))))))))))))
      · refine lr (fun u6 hu6 => sv rfl (sv rfl (s_nil (l_ret ?_))))
        obtain rfl := Option.some.inj hz2
        obtain rfl := ez2 _ rfl
        refine ⟨nofun, awl_ret ?_⟩
        rw [Sum.elim_inr] at h
        obtain rfl := Option.some.inj h
        exact fin_ok (.inr rfl) (resD1 (res_t rfl) rf_d) (.refl _)
      · refine l_skip (l_end (l_reg fun u7 hu7 => sv rfl (sv rfl (s_nil (l_nil ?_)))))
        obtain rfl := Option.some.inj hz2
        exact ⟨rfl, (), (sbr rfl rfl)⟩
    · refine l_exitN rfl ?_
      obtain rfl := Option.some.inj hz2
      obtain rfl := ez2 _ rfl
      refine ⟨nofun, awl_pop rfl (l_j ?_)⟩
      exact ⟨_, (), rfl, (sbr rfl rfl)⟩
  · rintro _ ⟨y1, g1, rfl, q1⟩
    rw [Sum.elim_inl] at h
    refine l_sub q1 (lr (fun u8 hu8 => sv rfl (s_nil (l_ret ?_))))
    obtain rfl := Option.some.inj h
    exact fin_ok (.inr rfl) (resD1 (res_t rfl) rf_d) (.refl _)

noncomputable def slices_ContainsFunc_Mate_Mate_convoy_numbers_1 (p1 : (List Mate)) : Option Bool :=
  (slices_IndexFunc_Mate_Mate_convoy_numbers_1 p1).bind fun v1 => some (decide (v1 ≥ 0))

/-- slices.ContainsFunc[[]kerbstone/api.Mate,kerbstone/api.Mate] -/
def ac_slices_ContainsFunc_Mate_Mate_convoy_numbers_1 : AC := (.seq (.reg [oo 4 (.mv (.c zf))]) (.seq (.reg [oo 5 (.mv (.t 0)), oo 6 (.mv (.t 1)), oo 7 (.call (cf 98) [(.t 5), (.t 6)]), oo 8 (.bin .geq (.t 7) (ci 0)), oo 4 (.mv (.t 8))]) .ret))
theorem fn_slices_ContainsFunc_Mate_Mate_convoy_numbers_1 : FnOK Try.prog 77 9 [.t 4] ac_slices_ContainsFunc_Mate_Mate_convoy_numbers_1 := ⟨_, _, Try.func77, rfl, Try.ntmps77, by kernel_rfl, ⟨fun _ => [], by kernel_rfl⟩, by kernel_rfl⟩
theorem slices_ContainsFunc_Mate_Mate_convoy_numbers_1_ok (p1 : (List Mate)) (r : Bool) (h : slices_ContainsFunc_Mate_Mate_convoy_numbers_1 p1 = some r) : PCall Try.prog 77 [(.list (List.map eMate p1)), (.fn (.func 101) [] [])] (bo r) := by
  refine l_call fn_slices_ContainsFunc_Mate_Mate_convoy_numbers_1 (nl rfl) ?_
  unfold slices_ContainsFunc_Mate_Mate_convoy_numbers_1 at h
  unfold ac_slices_ContainsFunc_Mate_Mate_convoy_numbers_1
  refine l_sub (s0 := ⟨T [(0, (.d _)), (1, (.d _))], G []⟩) (sbr rfl rfl) ?_
  refine lr (fun u1 hu1 => sv rfl (s_nil (lr (fun u2 hu2 => sv rfl (sv rfl (bs h fun v1 hv1 h => s_call rfl rfl all2_refl (slices_IndexFunc_Mate_Mate_convoy_numbers_1_ok _  _ hv1) (.inl rfl) (sv rfl (sv rfl (s_nil (l_ret ?_))))))))))
  obtain rfl := Option.some.inj h
  exact fin_ok (.inr rfl) (resD1 (res_t rfl) rf_d) (.refl _)

noncomputable def convoy_fairGuest (p1 : Guest) : Option Bool :=
  cond (p1.ID == 0) (some (p1.ID == 0 && (p1.S == 0 && (p1.V == 0 && (p1.Len == 0 && (p1.End == 0 && (p1.Ahead == 0 && (p1.Guess_.R == 0 && (p1.Guess_.V == 0 && (p1.From == 0 && (p1.Until == 0 && true))))))))))) ((convoy_fairBody p1.ID p1.S p1.V p1.Len).bind fun v1 => ((cond v1 (convoy_fairID p1.Ahead) (some default))).bind fun v2 => ((cond (v1 && v2) (convoy_fairID p1.From) (some default))).bind fun v3 => ((cond ((v1 && v2) && v3) (convoy_within p1.Until 0 2199023255552) (some default))).bind fun v4 => ((cond (((v1 && v2) && v3) && v4) (convoy_within p1.End 0 1099511627776) (some default))).bind fun v5 => ((cond ((((v1 && v2) && v3) && v4) && v5) (convoy_fairGuess p1.Guess_) (some default))).bind fun v6 => some (((((v1 && v2) && v3) && v4) && v5) && v6))

/-- kerbstone/convoy.fairGuest -/
def ac_convoy_fairGuest : AC := (.seq (.reg [oo 1 (.box 36 true (.t 0)), oo 2 (.mv (.c zf))]) (.seq (.seq (.reg [oo 3 (.fieldA 0 (.t 1)), oo 4 (.load 1 false (.t 3)), oo 5 (.bin .eql (.t 4) (ci 0))]) (.cond (.t 5) (.seq (.reg [oo 6 (.load 10 true (.t 1)), oo 7 (.build [z0, z0, z0, z0, z0, z0, z0, z0, z0, z0] []), oo 8 (.eqA false [false, false, false, false, false, false, false, false, false, false] (.t 6) (.t 7)), oo 2 (.mv (.t 8))]) .ret) .skip)) (.seq (.reg [oo 9 (.fieldA 0 (.t 1)), oo 10 (.load 1 false (.t 9)), oo 11 (.fieldA 1 (.t 1)), oo 12 (.load 1 false (.t 11)), oo 13 (.fieldA 2 (.t 1)), oo 14 (.load 1 false (.t 13)), oo 15 (.fieldA 3 (.t 1)), oo 16 (.load 1 false (.t 15)), oo 17 (.call (cf 122) [(.t 10), (.t 12), (.t 14), (.t 16)]), oo 18 (.mv (.t 17)), og 19 (.fieldA 5 (.t 1)) 18, og 20 (.load 1 false (.t 19)) 18, og 21 (.call (cf 123) [(.t 20)]) 18, oo 22 (.pick (.t 18) (.t 21) (.c zf)), oo 23 (.mv (.t 22)), og 24 (.fieldA 8 (.t 1)) 23, og 25 (.load 1 false (.t 24)) 23, og 26 (.call (cf 123) [(.t 25)]) 23, oo 27 (.pick (.t 23) (.t 26) (.c zf)), oo 28 (.mv (.t 27)), og 29 (.fieldA 9 (.t 1)) 28, og 30 (.load 1 false (.t 29)) 28, og 31 (.call (cf 95) [(.t 30), (ci 0), (ci 2199023255552)]) 28, oo 32 (.pick (.t 28) (.t 31) (.c zf)), oo 33 (.mv (.t 32)), og 34 (.fieldA 4 (.t 1)) 33, og 35 (.load 1 false (.t 34)) 33, og 36 (.call (cf 95) [(.t 35), (ci 0), (ci 1099511627776)]) 33, oo 37 (.pick (.t 33) (.t 36) (.c zf)), oo 38 (.mv (.t 37)), og 39 (.fieldA 6 (.t 1)) 38, og 40 (.load 2 true (.t 39)) 38, og 41 (.call (cf 124) [(.t 40)]) 38, oo 42 (.pick (.t 38) (.t 41) (.c zf)), oo 2 (.mv (.t 42))]) .ret)))
theorem fn_convoy_fairGuest : FnOK Try.prog 103 43 [.t 2] ac_convoy_fairGuest := ⟨_, _, Try.func103, rfl, Try.ntmps103, by kernel_rfl, ⟨fun _ => [], by kernel_rfl⟩, by kernel_rfl⟩
set_option maxHeartbeats 4000000 in
theorem convoy_fairGuest_ok (p1 : Guest) (r : Bool) (h : convoy_fairGuest p1 = some r) : PCall Try.prog 103 [(.agg (eGuest p1))] (bo r) := by
  refine l_call fn_convoy_fairGuest (nl rfl) ?_
  unfold convoy_fairGuest at h
  unfold ac_convoy_fairGuest
  refine l_sub (s0 := ⟨T [(0, (.d _))], G []⟩) (sbr rfl rfl) ?_
  refine lr (fun u1 hu1 => sn rfl rfl (sv rfl (s_nil (l_seq (lr (fun u2 hu2 => sp rfl rfl (sl rfl G_hit rfl (sv rfl (s_nil (cc rfl h (fun c1 h => ?_) (fun c1 h => ?_)))))))))))
  · refine lr (fun u3 hu3 => sd rfl (v_loadG rfl G_hit rfl rfl) (sv rfl (s_val (.d (bo (p1.ID == 0 && (p1.S == 0 && (p1.V == 0 && (p1.Len == 0 && (p1.End == 0 && (p1.Ahead == 0 && (p1.Guess_.R == 0 && (p1.Guess_.V == 0 && (p1.From == 0 && (p1.Until == 0 && true)))))))))))) rfl rfl (sv rfl (s_nil (l_ret ?_))))))
    obtain rfl := Option.some.inj h
    exact fin_ok (.inr rfl) (resD1 (res_t rfl) rf_d) (.refl _)
  · refine l_skip (lr (fun u4 hu4 => sp rfl rfl (sl rfl G_hit rfl (sp rfl rfl (sl rfl G_hit rfl (sp rfl rfl (sl rfl G_hit rfl (sp rfl rfl (sl rfl G_hit rfl (bs h fun v1 hv1 h => s_call rfl rfl all2_refl (convoy_fairBody_ok _ _ _ _  _ hv1) (.inl rfl) (sv rfl (gp rfl (gw_t rfl) (fun _ => rfl) (gt rfl (vl rfl G_hit rfl) (bs h fun v2 hv2 h => ?_))))))))))))))
    refine g_call v1 (bo v2) (gw_t rfl) (fun w3 => ⟨_, [(di p1.Ahead)], _, _, (by simp only [gd_pos w3]; rfl), rfl, all2_refl, convoy_fairID_ok _  _ (cond_t w3 hv2), (.inl rfl)⟩) ?_
    refine sa rfl rfl rfl (sv rfl (gp rfl (gw_t rfl) (fun _ => rfl) (gt rfl (vl rfl G_hit rfl) (bs h fun v3 hv3 h => ?_))))
    refine g_call _ (bo v3) (gw_t rfl) (fun w6 => ⟨_, [(di p1.From)], _, _, (by simp only [gd_pos w6]; rfl), rfl, all2_refl, convoy_fairID_ok _  _ (cond_t w6 hv3), (.inl rfl)⟩) ?_
    refine sa rfl rfl rfl (sv rfl (gp rfl (gw_t rfl) (fun _ => rfl) (gt rfl (vl rfl G_hit rfl) (bs h fun v4 hv4 h => ?_))))
    refine g_call _ (bo v4) (gw_t rfl) (fun w9 => ⟨_, [(di p1.Until), (di 0), (di 2199023255552)], _, _, (by simp only [gd_pos w9]; rfl), rfl, all2_refl, convoy_within_ok _ _ _  _ (cond_t w9 hv4), (.inl rfl)⟩) ?_
    refine sa rfl rfl rfl (sv rfl (gp rfl (gw_t rfl) (fun _ => rfl) (gt rfl (vl rfl G_hit rfl) (bs h fun v5 hv5 h => ?_))))
    refine g_call _ (bo v5) (gw_t rfl) (fun w12 => ⟨_, [(di p1.End), (di 0), (di 1099511627776)], _, _, (by simp only [gd_pos w12]; rfl), rfl, all2_refl, convoy_within_ok _ _ _  _ (cond_t w12 hv5), (.inl rfl)⟩) ?_
    refine sa rfl rfl rfl (sv rfl (gp rfl (gw_t rfl) (fun _ => rfl) (gt rfl (fun w14 => (v_loadG (gd_pos w14) G_hit rfl rfl)) (bs h fun v6 hv6 h => ?_))))
    refine g_call _ (bo v6) (gw_t rfl) (fun w15 => ⟨_, [(.d (.agg [(i64 p1.Guess_.R), (i64 p1.Guess_.V)]))], _, _, (by simp only [gd_pos w15]; rfl), rfl, all2_refl, convoy_fairGuess_ok _  _ (cond_t w15 hv6), (.inl rfl)⟩) ?_
    refine sa rfl rfl rfl (sv rfl (s_nil (l_ret ?_)))
    obtain rfl := Option.some.inj h
    exact fin_ok (.inr rfl) (resD1 (res_t rfl) rf_d) (.refl _)

noncomputable def convoy_numbers (p1 : Convoy) : Option Int :=
  (cond (!(p1.Guest_.ID == 0 && (p1.Guest_.S == 0 && (p1.Guest_.V == 0 && (p1.Guest_.Len == 0 && (p1.Guest_.End == 0 && (p1.Guest_.Ahead == 0 && (p1.Guest_.Guess_.R == 0 && (p1.Guest_.Guess_.V == 0 && (p1.Guest_.From == 0 && (p1.Guest_.Until == 0 && true))))))))))) (some (w64 ((p1.Mates.length : Int) + 1))) (some (p1.Mates.length : Int))).bind fun y1 => (convoy_within p1.Tick 0 1099511627776).bind fun v1 => ((cond (!(!v1)) (convoy_within p1.Gap 1 20000) (some default))).bind fun v2 => cond ((!v1) || (!v2)) (some 2) (cond ((p1.Mates.length : Int) == 0) (some 6) (cond (decide (y1 > 8)) (some 8) ((slices_ContainsFunc_Mate_Mate_convoy_numbers_1 p1.Mates).bind fun v3 => ((cond (!v3) (convoy_fairGuest p1.Guest_) (some default))).bind fun v4 => cond (v3 || (!v4)) (some 2) (some 0))))

/-- kerbstone/convoy.numbers -/
def ac_convoy_numbers : AC := (.seq (.reg [oo 1 (.box 38 true (.t 0)), oo 2 (.mv (ci 0))]) (.seq (.reg [oo 4 (.fieldA 2 (.t 1)), oo 5 (.load 1 false (.t 4)), oo 6 (.len (.t 5)), oo 3 (.mv (.t 6))]) (.seq (.seq (.reg [oo 7 (.fieldA 3 (.t 1)), oo 8 (.load 10 true (.t 7)), oo 9 (.build [z0, z0, z0, z0, z0, z0, z0, z0, z0, z0] []), oo 10 (.eqA true [false, false, false, false, false, false, false, false, false, false] (.t 8) (.t 9))]) (.cond (.t 10) (.reg [oo 11 (.mv (.t 3)), oo 12 (.bin .add (.t 11) (ci 1)), oo 3 (.mv (.t 12))]) .skip)) (.seq (.block 0 (.seq (.reg [oo 14 (.fieldA 0 (.t 1)), oo 15 (.load 1 false (.t 14)), oo 16 (.call (cf 95) [(.t 15), (ci 0), (ci 1099511627776)]), oo 17 (.un .not (.t 16)), oo 18 (.mv (.t 17)), oh 19 (.fieldA 1 (.t 1)) 18, oh 20 (.load 1 false (.t 19)) 18, oh 21 (.call (cf 95) [(.t 20), (ci 1), (ci 20000)]) 18, oh 22 (.un .not (.t 21)) 18, oo 23 (.pick (.t 18) (.c (.v (.bool true))) (.t 22)), oo 13 (.mv (.t 23))]) (.cond (.t 13) (.seq (.reg [oo 2 (.mv (ci 2))]) .ret) (.seq (.reg [oo 25 (.fieldA 2 (.t 1)), oo 26 (.load 1 false (.t 25)), oo 27 (.len (.t 26)), oo 28 (.bin .eql (.t 27) (ci 0)), oo 24 (.mv (.t 28))]) (.cond (.t 24) (.seq (.reg [oo 2 (.mv (ci 6))]) .ret) (.seq (.reg [oo 30 (.mv (.t 3)), oo 31 (.bin .gtr (.t 30) (ci 8)), oo 29 (.mv (.t 31))]) (.cond (.t 29) (.seq (.reg [oo 2 (.mv (ci 8))]) .ret) (.seq (.reg [oo 33 (.fieldA 2 (.t 1)), oo 34 (.load 1 false (.t 33)), oo 35 (.call (cf 77) [(.t 34), (cf 101)]), oo 36 (.mv (.t 35)), oh 37 (.fieldA 3 (.t 1)) 36, oh 38 (.load 10 true (.t 37)) 36, oh 39 (.call (cf 103) [(.t 38)]) 36, oh 40 (.un .not (.t 39)) 36, oo 41 (.pick (.t 36) (.c (.v (.bool true))) (.t 40)), oo 32 (.mv (.t 41))]) (.cond (.t 32) (.seq (.reg [oo 2 (.mv (ci 2))]) .ret) .skip))))))))) (.seq (.reg [oo 2 (.mv (ci 0))]) .ret)))))
theorem fn_convoy_numbers : FnOK Try.prog 73 42 [.t 2] ac_convoy_numbers := ⟨_, _, Try.func73, rfl, Try.ntmps73, by kernel_rfl, ⟨fun _ => [], by kernel_rfl⟩, by kernel_rfl⟩
set_option maxHeartbeats 4000000 in
theorem convoy_numbers_ok (p1 : Convoy) (r : Int) (h : convoy_numbers p1 = some r) : PCall Try.prog 73 [(.agg (eConvoy p1))] (i64 r) := by
  refine l_call fn_convoy_numbers (nl rfl) ?_
  unfold convoy_numbers at h
  unfold ac_convoy_numbers
  refine l_sub (s0 := ⟨T [(0, (.d _))], G []⟩) (sbr rfl rfl) ?_
  refine lr (fun u1 hu1 => sn rfl rfl (sv rfl (s_nil (lr (fun u2 hu2 => sp rfl rfl (sl rfl G_hit rfl (sd rfl (v_len rfl) (sv rfl (s_nil (l_seq (lr (fun u3 hu3 => sp rfl rfl (sd rfl (v_loadG rfl G_hit rfl rfl) (sv rfl (s_val (.d (bo (!(p1.Guest_.ID == 0 && (p1.Guest_.S == 0 && (p1.Guest_.V == 0 && (p1.Guest_.Len == 0 && (p1.Guest_.End == 0 && (p1.Guest_.Ahead == 0 && (p1.Guest_.Guess_.R == 0 && (p1.Guest_.Guess_.V == 0 && (p1.Guest_.From == 0 && (p1.Guest_.Until == 0 && true))))))))))))) rfl rfl (s_nil (bs h fun y1 hy1 h => l_join (fun s => ∃ g1 : Unit, Sb ⟨T [(1, (.ptr (1, u1) 0)), (3, (di y1))], G [((1, u1), some (.box 38 (dConvoy p1)))]⟩ s) ?_ ?_)))))))))))))))))
  · refine cc rfl hy1 (fun c1 hy1 => ?_) (fun c1 hy1 => ?_)
    · refine l_reg fun u4 hu4 => sv rfl (sv rfl (sv rfl (s_nil ?_)))
      obtain rfl := Option.some.inj hy1
      exact l_j ⟨(), (sbr rfl rfl)⟩
    · refine l_skip ?_
      obtain rfl := Option.some.inj hy1
      exact l_j ⟨(), (sbr rfl rfl)⟩
  · rintro _ ⟨g1, q1⟩
    refine l_sub q1 (l_seq (l_block (lr (fun u5 hu5 => sp rfl rfl (sl rfl G_hit rfl (bs h fun v1 hv1 h => s_call rfl rfl all2_refl (convoy_within_ok _ _ _  _ hv1) (.inl rfl) (s_val (.d (bo (!v1))) rfl rfl (sv rfl (gp rfl (gw_f rfl) (fun _ => rfl) (gf rfl (vl rfl G_hit rfl) (bs h fun v2 hv2 h => ?_)))))))))))
    refine g_call _ (bo v2) (gw_f rfl) (fun w3 => ⟨_, [(di p1.Gap), (di 1), (di 20000)], _, _, (by simp only [gd_pos w3]; rfl), rfl, all2_refl, convoy_within_ok _ _ _  _ (cond_t w3 hv2), (.inl rfl)⟩) ?_
    refine g_val _ (.d (bo (!v2))) rfl (gw_f rfl) (fun w4 => (by simp only [gd_pos w4]; rfl)) ?_
    refine sd rfl (v_or rfl rfl (fun hc => gd_pos (not_t hc))) (sv rfl (s_nil (cc rfl h (fun c2 h => ?_) (fun c2 h => ?_))))
    · refine lr (fun u6 hu6 => sv rfl (s_nil (l_ret ?_)))
      obtain rfl := Option.some.inj h
      exact fin_ok (.inr rfl) (resD1 (res_t rfl) rf_d) (.refl _)
    · refine lr (fun u7 hu7 => sp rfl rfl (sl rfl G_hit rfl (sd rfl (v_len rfl) (sv rfl (sv rfl (s_nil (cc rfl h (fun c3 h => ?_) (fun c3 h => ?_))))))))
      · refine lr (fun u8 hu8 => sv rfl (s_nil (l_ret ?_)))
        obtain rfl := Option.some.inj h
        exact fin_ok (.inr rfl) (resD1 (res_t rfl) rf_d) (.refl _)
      · refine lr (fun u9 hu9 => sv rfl (sv rfl (sv rfl (s_nil (cc rfl h (fun c4 h => ?_) (fun c4 h => ?_))))))
        · refine lr (fun u10 hu10 => sv rfl (s_nil (l_ret ?_)))
          obtain rfl := Option.some.inj h
          exact fin_ok (.inr rfl) (resD1 (res_t rfl) rf_d) (.refl _)
        · refine lr (fun u11 hu11 => sp rfl rfl (sl rfl G_hit rfl (bs h fun v3 hv3 h => s_call rfl rfl all2_refl (slices_ContainsFunc_Mate_Mate_convoy_numbers_1_ok _  _ hv3) (.inl rfl) (sv rfl (gp rfl (gw_f rfl) (fun _ => rfl) (gf rfl (fun w6 => (v_loadG (gd_pos w6) G_hit rfl rfl)) (bs h fun v4 hv4 h => ?_)))))))
          refine g_call _ (bo v4) (gw_f rfl) (fun w7 => ⟨_, [(.d (.agg (eGuest p1.Guest_)))], _, _, (by simp only [gd_pos w7]; rfl), rfl, all2_refl, convoy_fairGuest_ok _  _ (cond_t w7 hv4), (.inl rfl)⟩) ?_
          refine g_val _ (.d (bo (!v4))) rfl (gw_f rfl) (fun w8 => (by simp only [gd_pos w8]; rfl)) ?_
          refine sd rfl (v_or rfl rfl (fun hc => gd_pos (not_t hc))) (sv rfl (s_nil (cc rfl h (fun c5 h => ?_) (fun c5 h => ?_))))
          · refine l_seq (l_sub (s0 := ⟨T [], G []⟩) (sbr rfl rfl) ?_)
            refine l_reg fun u12 hu12 => sv rfl (s_nil (l_ret ?_))
            obtain rfl := Option.some.inj h
            exact fin_ok (.inr rfl) (resD1 (res_t rfl) rf_d) (.refl _)
          · refine l_skip (l_end (l_seq (l_sub (s0 := ⟨T [], G []⟩) (sbr rfl rfl) ?_)))
            refine l_reg fun u13 hu13 => sv rfl (s_nil (l_ret ?_))
            obtain rfl := Option.some.inj h
            exact fin_ok (.inr rfl) (resD1 (res_t rfl) rf_d) (.refl _)

noncomputable def convoy_rear (p1 : Mate) : Option Int :=
  some (w64 (p1.S - p1.Len))

/-- kerbstone/convoy.rear -/
def ac_convoy_rear : AC := (.seq (.reg [oo 1 (.box 65 true (.t 0)), oo 2 (.mv (ci 0))]) (.seq (.reg [oo 3 (.fieldA 1 (.t 1)), oo 4 (.load 1 false (.t 3)), oo 5 (.fieldA 3 (.t 1)), oo 6 (.load 1 false (.t 5)), oo 7 (.bin .sub (.t 4) (.t 6)), oo 2 (.mv (.t 7))]) .ret))
theorem fn_convoy_rear : FnOK Try.prog 67 8 [.t 2] ac_convoy_rear := ⟨_, _, Try.func67, rfl, Try.ntmps67, by kernel_rfl, ⟨fun _ => [], by kernel_rfl⟩, by kernel_rfl⟩
theorem convoy_rear_ok (p1 : Mate) (r : Int) (h : convoy_rear p1 = some r) : PCall Try.prog 67 [(.agg (eMate p1))] (i64 r) := by
  refine l_call fn_convoy_rear (nl rfl) ?_
  unfold convoy_rear at h
  unfold ac_convoy_rear
  refine l_sub (s0 := ⟨T [(0, (.d _))], G []⟩) (sbr rfl rfl) ?_
  refine lr (fun u1 hu1 => sn rfl rfl (sv rfl (s_nil (lr (fun u2 hu2 => sp rfl rfl (sl rfl G_hit rfl (sp rfl rfl (sl rfl G_hit rfl (sv rfl (sv rfl (s_nil (l_ret ?_))))))))))))
  obtain rfl := Option.some.inj h
  exact fin_ok (.inr rfl) (resD1 (res_t rfl) rf_d) (.refl _)

noncomputable def convoy_orders_l2 (p1 : Convoy) (x2 : Int) : Option (Stp Int (Sum Unit Int)) :=
  cond (decide (x2 < (p1.Mates.length : Int))) ((geti p1.Mates x2).bind fun v2 => ((cond (decide (x2 > 0)) (geti p1.Mates (w64 (x2 - 1))) (some default))).bind fun v3 => ((cond (decide (x2 > 0)) (convoy_rear v3) (some default))).bind fun v4 => cond ((decide (x2 > 0)) && (decide (v2.S ≥ v4))) (some (.out (.inr 11))) (some (.go (w64 (x2 + 1))))) (some (.out (.inl ())))
noncomputable def convoy_orders_l1 (p1 : Convoy) (x1 : (Int × (List Int))) : Option (Stp (Int × (List Int)) (Sum Unit Int)) :=
  cond (decide (x1.1 < (p1.Mates.length : Int))) ((geti p1.Mates x1.1).bind fun v1 => cond (x1.2.contains v1.ID) (some (.out (.inr 9))) (some (.go ((w64 (x1.1 + 1)), (insm x1.2 v1.ID))))) (some (.out (.inl ())))
noncomputable def convoy_orders (p1 : Convoy) : Option Int :=
  thenS (loop (convoy_orders_l1 p1) (0, (insm ([] : List Int) p1.Guest_.ID))) (fun _ => thenS (loop (convoy_orders_l2 p1) 0) (fun _ => some 0) (fun r => some r)) (fun r => some r)

/-- kerbstone/convoy.orders -/
def ac_convoy_orders : AC := (.seq (.reg [oo 1 (.box 38 true (.t 0)), oo 2 (.mv (ci 0))]) (.seq (.reg [oo 8 (.mkmap), oo 9 (.fieldA 3 (.t 1)), oo 10 (.fieldA 0 (.t 9)), oo 11 (.load 1 false (.t 10)), oe (.mins (.t 8) (.t 11)), oo 12 (.mv (.t 8)), oo 3 (.mv (.t 12))]) (.seq (.seq (.reg [oo 13 (.fieldA 2 (.t 1)), oo 14 (.load 1 false (.t 13)), oo 15 (.len (.t 14)), oo 16 (.mv (ci 0))]) (.block 0 (.loop (.seq (.reg [oo 17 (.bin .lss (.t 16) (.t 15))]) (.seq (.cond (.t 17) .skip (.exit 0)) (.seq (.block 1 (.seq (.reg [oo 18 (.idxS 12 (.t 14) (.t 16)), oo 19 (.load 12 true (.t 18)), oo 5 (.alloc 65 [z0, z0, z0, z0, z0, z0, z0, zf, z0, z0, z0, z0]), oe (.store 12 (.t 5) (.t 19))]) (.seq (.seq (.reg [oo 20 (.mv (.t 3)), oo 21 (.fieldA 0 (.t 5)), oo 22 (.load 1 false (.t 21)), oo 23 (.mlook (.t 20) (.t 22))]) (.cond (.t 23) (.seq (.reg [oo 2 (.mv (ci 9))]) .ret) .skip)) (.reg [oo 24 (.mv (.t 3)), oo 25 (.fieldA 0 (.t 5)), oo 26 (.load 1 false (.t 25)), oe (.mins (.t 24) (.t 26))])))) (.reg [oo 27 (.bin .add (.t 16) (ci 1)), oo 16 (.mv (.t 27))]))))))) (.seq (.seq (.reg [oo 28 (.fieldA 2 (.t 1)), oo 29 (.load 1 false (.t 28)), oo 30 (.len (.t 29)), oo 31 (.mv (ci 0))]) (.block 2 (.loop (.seq (.reg [oo 32 (.bin .lss (.t 31) (.t 30))]) (.seq (.cond (.t 32) .skip (.exit 2)) (.seq (.block 3 (.seq (.reg [oo 33 (.mv (.t 31)), oo 34 (.idxS 12 (.t 29) (.t 31)), oo 35 (.load 12 true (.t 34)), oo 7 (.alloc 65 [z0, z0, z0, z0, z0, z0, z0, zf, z0, z0, z0, z0]), oo 6 (.mv (.t 33)), oe (.store 12 (.t 7) (.t 35))]) (.seq (.draw [oo 36 (.mv (.t 6)), oo 37 (.bin .gtr (.t 36) (ci 0)), oo 38 (.mv (.t 37)), og 39 (.fieldA 1 (.t 7)) 38, og 40 (.load 1 false (.t 39)) 38, og 41 (.fieldA 2 (.t 1)) 38, og 42 (.load 1 false (.t 41)) 38, og 43 (.mv (.t 6)) 38, og 44 (.bin .sub (.t 43) (ci 1)) 38, og 45 (.idxS 12 (.t 42) (.t 44)) 38, og 46 (.load 12 true (.t 45)) 38, og 47 (.call (cf 67) [(.t 46)]) 38, og 48 (.bin .geq (.t 40) (.t 47)) 38, oo 49 (.pick (.t 38) (.t 48) (.c zf))] []) (.cond (.t 49) (.seq (.reg [oo 2 (.mv (ci 11))]) .ret) .skip)))) (.reg [oo 50 (.bin .add (.t 31) (ci 1)), oo 31 (.mv (.t 50))]))))))) (.seq (.reg [oo 2 (.mv (ci 0))]) .ret)))))
theorem fn_convoy_orders : FnOK Try.prog 74 51 [.t 2] ac_convoy_orders := ⟨_, _, Try.func74, rfl, Try.ntmps74, by kernel_rfl, ⟨fun _ => [], by kernel_rfl⟩, by kernel_rfl⟩
set_option maxHeartbeats 4000000 in
theorem convoy_orders_ok (p1 : Convoy) (r : Int) (h : convoy_orders p1 = some r) : PCall Try.prog 74 [(.agg (eConvoy p1))] (i64 r) := by
  refine l_call fn_convoy_orders (nl rfl) ?_
  unfold convoy_orders at h
  unfold ac_convoy_orders
  refine l_sub (s0 := ⟨T [(0, (.d _))], G []⟩) (sbr rfl rfl) ?_
  refine lr (fun u1 hu1 => sn rfl rfl (sv rfl (s_nil (lr (fun u2 hu2 => s_new (.sl _) (.mp _) rfl rfl (sp rfl rfl (sp rfl rfl (sl rfl (gq rfl) rfl (s_mins rfl rfl G_hit (ss rfl (ss rfl (s_nil (l_seq (lr (fun u3 hu3 => sp rfl rfl (sl rfl (gq rfl) rfl (sd rfl (v_len rfl) (sv rfl (s_nil (js h fun z1 hz1 h => l_join (fun s => ∃ (y1 : Unit) (g1 : Unit), z1 = .inl y1 ∧ Sb ⟨T [(1, (.ptr (1, u1) 0))], G [((1, u1), some (.box 38 (dConvoy p1)))]⟩ s) ?_ ?_))))))))))))))))))))
  · refine l_block (l_loop (convoy_orders_l1 p1) (fun (x1 : (Int × (List Int))) (g2 : Unit) => ⟨T [(1, (.ptr (1, u1) 0)), (3, (.sl (8, u2))), (14, (dl eMate p1.Mates)), (15, (di (p1.Mates.length : Int))), (16, (di x1.1))], G [((1, u1), some (.box 38 (dConvoy p1))), ((8, u2), some (.mp x1.2))]⟩) (0, (insm ([] : List Int) p1.Guest_.ID)) () _ hz1 (sbr rfl rfl) ?_)
    intro x1 g2 z2 hz2 ez2
    unfold convoy_orders_l1 at hz2
    refine lr (fun u4 hu4 => sv rfl (s_nil (l_seq (cc rfl hz2 (fun c1 hz2 => ?_) (fun c1 hz2 => ?_)))))
    · refine l_skip (l_seq (l_block (lr (fun u5 hu5 => bs hz2 fun v1 hv1 hz2 => sd rfl (v_idx rfl rfl hv1 rfl) (sd rfl (v_loadLG rfl hv1 rfl rfl) (sn rfl rfl (sst rfl G_hit (dMate v1) rfl (s_nil (l_seq (lr (fun u6 hu6 => ss rfl (sp rfl rfl (sl rfl G_hit rfl (sd rfl (v_mlook rfl rfl (gq rfl)) (s_nil (cc rfl hz2 (fun c2 hz2 => ?_) (fun c2 hz2 => ?_)))))))))))))))))
      · refine lr (fun u7 hu7 => sv rfl (s_nil (l_ret ?_)))
        obtain rfl := Option.some.inj hz2
        obtain rfl := ez2 _ rfl
        refine ⟨nofun, awl_ret ?_⟩
        rw [Sum.elim_inr] at h
        obtain rfl := Option.some.inj h
        exact fin_ok (.inr rfl) (resD1 (res_t rfl) rf_d) (.refl _)
      · refine l_skip (l_reg fun u8 hu8 => ss rfl (sp rfl rfl (sl rfl G_hit rfl (s_mins rfl rfl (gq rfl) (s_nil (l_end (l_reg fun u9 hu9 => sv rfl (sv rfl (s_nil (l_nil ?_))))))))))
        obtain rfl := Option.some.inj hz2
        exact ⟨rfl, (), (sbr rfl rfl)⟩
    · refine l_exitN rfl ?_
      obtain rfl := Option.some.inj hz2
      obtain rfl := ez2 _ rfl
      refine ⟨nofun, awl_pop rfl (l_j ?_)⟩
      exact ⟨_, (), rfl, (sbr rfl rfl)⟩
  · rintro _ ⟨y1, g1, rfl, q1⟩
    rw [Sum.elim_inl] at h
    refine l_sub q1 (l_seq (lr (fun u10 hu10 => sp rfl rfl (sl rfl G_hit rfl (sd rfl (v_len rfl) (sv rfl (s_nil (js h fun z3 hz3 h => l_join (fun s => ∃ (y2 : Unit) (g3 : Unit), z3 = .inl y2 ∧ Sb ⟨T [], G []⟩ s) ?_ ?_))))))))
    · refine l_block (l_loop (convoy_orders_l2 p1) (fun (x2 : Int) (g4 : Unit) => ⟨T [(1, (.ptr (1, u1) 0)), (29, (dl eMate p1.Mates)), (30, (di (p1.Mates.length : Int))), (31, (di x2))], G [((1, u1), some (.box 38 (dConvoy p1)))]⟩) 0 () _ hz3 (sbr rfl rfl) ?_)
      intro x2 g4 z4 hz4 ez4
      unfold convoy_orders_l2 at hz4
      refine lr (fun u11 hu11 => sv rfl (s_nil (l_seq (cc rfl hz4 (fun c3 hz4 => ?_) (fun c3 hz4 => ?_)))))
      · refine l_skip (l_seq (l_block (lr (fun u12 hu12 => sv rfl (bs hz4 fun v2 hv2 hz4 => sd rfl (v_idx rfl rfl hv2 rfl) (sd rfl (v_loadLG rfl hv2 rfl rfl) (sn rfl rfl (sv rfl (sst rfl G_hit (dMate v2) rfl (s_nil (l_seq (l_draw rfl fun u13 hu13 => sv rfl (sv rfl (sv rfl (gp rfl (gw_t rfl) (fun _ => rfl) (gt rfl (vl rfl G_hit rfl) (gp rfl (gw_t rfl) (fun _ => rfl) (gt rfl (vl rfl (gq rfl) rfl) (gt rfl (fun _ => rfl) (gt rfl (vb rfl rfl rfl) (bs hz4 fun v3 hv3 hz4 => gt rfl (fun w7 => (v_idx (gd_pos w7) (gd_pos w7) (cond_t w7 hv3) rfl)) (gt rfl (fun w8 => (v_loadLG (gd_pos w8) (cond_t w8 hv3) rfl rfl)) (bs hz4 fun v4 hv4 hz4 => ?_)))))))))))))))))))))))
        refine g_call _ (i64 v4) (gw_t rfl) (fun w9 => ⟨_, [(.d (.agg (eMate v3)))], _, _, (by simp only [gd_pos w9]; rfl), rfl, all2_refl, convoy_rear_ok _  _ (cond_t w9 hv4), (.inl rfl)⟩) ?_
        refine gt rfl (fun w10 => (v_bin (gd_pos w10) (gd_pos w10) rfl)) (sa rfl rfl rfl (s_nil (cc rfl hz4 (fun c4 hz4 => ?_) (fun c4 hz4 => ?_))))
        · refine l_seq (l_sub (s0 := ⟨T [], G []⟩) (sbr rfl rfl) ?_)
          refine l_reg fun u14 hu14 => sv rfl (s_nil (l_ret ?_))
          obtain rfl := Option.some.inj hz4
          obtain rfl := ez4 _ rfl
          refine ⟨nofun, awl_ret ?_⟩
          rw [Sum.elim_inr] at h
          obtain rfl := Option.some.inj h
          exact fin_ok (.inr rfl) (resD1 (res_t rfl) rf_d) (.refl _)
        · refine l_skip (l_end (l_sub (s0 := ⟨T [(1, (.ptr _ _)), (29, (.d _)), (30, (.d _)), (31, (.d _))], G [((1, u1), some (.box 38 _))]⟩) (sbr rfl rfl) ?_))
          refine l_reg fun u15 hu15 => sv rfl (sv rfl (s_nil (l_nil ?_)))
          obtain rfl := Option.some.inj hz4
          exact ⟨rfl, (), (sbr rfl rfl)⟩
      · refine l_exitN rfl ?_
        obtain rfl := Option.some.inj hz4
        obtain rfl := ez4 _ rfl
        refine ⟨nofun, awl_pop rfl (l_j ?_)⟩
        exact ⟨_, (), rfl, (sbr rfl rfl)⟩
    · rintro _ ⟨y2, g3, rfl, q2⟩
      rw [Sum.elim_inl] at h
      refine l_sub q2 (lr (fun u16 hu16 => sv rfl (s_nil (l_ret ?_))))
      obtain rfl := Option.some.inj h
      exact fin_ok (.inr rfl) (resD1 (res_t rfl) rf_d) (.refl _)

noncomputable def convoy_sane_1 (p1 : Int) : Option Bool :=
  (convoy_within p1 (-4398046511104) 4398046511104).bind fun v1 => some (!v1)

/-- kerbstone/convoy.sane$1 -/
def ac_convoy_sane_1 : AC := (.seq (.reg [oo 2 (.mv (.c zf))]) (.seq (.reg [oo 3 (.mv (.t 0)), oo 4 (.call (cf 95) [(.t 3), (ci (-4398046511104)), (ci 4398046511104)]), oo 5 (.un .not (.t 4)), oo 2 (.mv (.t 5))]) .ret))
theorem fn_convoy_sane_1 : FnOK Try.prog 94 6 [.t 2] ac_convoy_sane_1 := ⟨_, _, Try.func94, rfl, Try.ntmps94, by kernel_rfl, ⟨fun _ => [], by kernel_rfl⟩, by kernel_rfl⟩
theorem convoy_sane_1_ok (p1 : Int) (r : Bool) (h : convoy_sane_1 p1 = some r) : PCall Try.prog 94 [(i64 p1)] (bo r) := by
  refine l_call fn_convoy_sane_1 (nl rfl) ?_
  unfold convoy_sane_1 at h
  unfold ac_convoy_sane_1
  refine l_sub (s0 := ⟨T [(0, (.d _))], G []⟩) (sbr rfl rfl) ?_
  refine lr (fun u1 hu1 => sv rfl (s_nil (lr (fun u2 hu2 => sv rfl (bs h fun v1 hv1 h => s_call rfl rfl all2_refl (convoy_within_ok _ _ _  _ hv1) (.inl rfl) (s_val (.d (bo (!v1))) rfl rfl (sv rfl (s_nil (l_ret ?_)))))))))
  obtain rfl := Option.some.inj h
  exact fin_ok (.inr rfl) (resD1 (res_t rfl) rf_d) (.refl _)

noncomputable def slices_IndexFunc_int64_int64_convoy_sane_1_l1 (p1 : (List Int)) (x1 : Int) : Option (Stp Int (Sum Unit Int)) :=
  cond (decide (x1 < (p1.length : Int))) ((geti p1 x1).bind fun v1 => (convoy_sane_1 v1).bind fun v2 => cond v2 (some (.out (.inr x1))) (some (.go (w64 (x1 + 1))))) (some (.out (.inl ())))
noncomputable def slices_IndexFunc_int64_int64_convoy_sane_1 (p1 : (List Int)) : Option Int :=
  thenS (loop (slices_IndexFunc_int64_int64_convoy_sane_1_l1 p1) 0) (fun _ => some (-1)) (fun r => some r)

/-- slices.IndexFunc[[]int64,int64] -/
def ac_slices_IndexFunc_int64_int64_convoy_sane_1 : AC := (.seq (.reg [oo 4 (.mv (ci 0))]) (.seq (.seq (.reg [oo 6 (.mv (.t 0)), oo 7 (.len (.t 6)), oo 8 (.mv (ci 0))]) (.block 0 (.loop (.seq (.reg [oo 9 (.bin .lss (.t 8) (.t 7))]) (.seq (.cond (.t 9) .skip (.exit 0)) (.seq (.block 1 (.seq (.reg [oo 10 (.mv (.t 8)), oo 5 (.mv (.t 10))]) (.seq (.reg [oo 11 (.mv (.t 1)), oo 12 (.mv (.t 0)), oo 13 (.mv (.t 5)), oo 14 (.idxS 1 (.t 12) (.t 13)), oo 15 (.load 1 false (.t 14)), oo 16 (.call (.t 11) [(.t 15)])]) (.cond (.t 16) (.seq (.reg [oo 17 (.mv (.t 5)), oo 4 (.mv (.t 17))]) .ret) .skip)))) (.reg [oo 18 (.bin .add (.t 8) (ci 1)), oo 8 (.mv (.t 18))]))))))) (.seq (.reg [oo 4 (.mv (ci (-1)))]) .ret)))
theorem fn_slices_IndexFunc_int64_int64_convoy_sane_1 : FnOK Try.prog 121 19 [.t 4] ac_slices_IndexFunc_int64_int64_convoy_sane_1 := ⟨_, _, Try.func121, rfl, Try.ntmps121, by kernel_rfl, ⟨fun _ => [], by kernel_rfl⟩, by kernel_rfl⟩
set_option maxHeartbeats 4000000 in
theorem slices_IndexFunc_int64_int64_convoy_sane_1_ok (p1 : (List Int)) (r : Int) (h : slices_IndexFunc_int64_int64_convoy_sane_1 p1 = some r) : PCall Try.prog 121 [(.list (List.map eInt_i64 p1)), (.fn (.func 94) [] [])] (i64 r) := by
  refine l_call fn_slices_IndexFunc_int64_int64_convoy_sane_1 (nl rfl) ?_
  unfold slices_IndexFunc_int64_int64_convoy_sane_1 at h
  unfold ac_slices_IndexFunc_int64_int64_convoy_sane_1
  refine l_sub (s0 := ⟨T [(0, (.d _)), (1, (.d _))], G []⟩) (sbr rfl rfl) ?_
  refine lr (fun u1 hu1 => sv rfl (s_nil (l_seq (lr (fun u2 hu2 => sv rfl (sd rfl (v_len rfl) (sv rfl (s_nil (js h fun z1 hz1 h => l_join (fun s => ∃ (y1 : Unit) (g1 : Unit), z1 = .inl y1 ∧ Sb ⟨T [], G []⟩ s) ?_ ?_)))))))))
  · refine l_block (l_loop (slices_IndexFunc_int64_int64_convoy_sane_1_l1 p1) (fun (x1 : Int) (g2 : Unit) => ⟨T [(0, (dl eInt_i64 p1)), (1, (.d (.fn (.func 94) [] []))), (7, (di (p1.length : Int))), (8, (di x1))], G []⟩) 0 () _ hz1 (sbr rfl rfl) ?_)
    intro x1 g2 z2 hz2 ez2
    unfold slices_IndexFunc_int64_int64_convoy_sane_1_l1 at hz2
    refine lr (fun u3 hu3 => sv rfl (s_nil (l_seq (cc rfl hz2 (fun c1 hz2 => ?_) (fun c1 hz2 => ?_)))))
    · refine l_skip (l_seq (l_block (lr (fun u4 hu4 => sv rfl (sv rfl (s_nil (lr (fun u5 hu5 => sv rfl (sv rfl (sv rfl (bs hz2 fun v1 hv1 hz2 => sd rfl (v_idx rfl rfl hv1 rfl) (sd rfl (v_loadL rfl hv1 rfl) (bs hz2 fun v2 hv2 hz2 => s_call rfl rfl all2_refl (convoy_sane_1_ok _  _ hv2) (.inl rfl) (s_nil (cc rfl hz2 (fun c2 hz2 => ?_) (fun c2 hz2 => ?_))))))))))))))))
      · refine lr (fun u6 hu6 => sv rfl (sv rfl (s_nil (l_ret ?_))))
        obtain rfl := Option.some.inj hz2
        obtain rfl := ez2 _ rfl
        refine ⟨nofun, awl_ret ?_⟩
        rw [Sum.elim_inr] at h
        obtain rfl := Option.some.inj h
        exact fin_ok (.inr rfl) (resD1 (res_t rfl) rf_d) (.refl _)
      · refine l_skip (l_end (l_reg fun u7 hu7 => sv rfl (sv rfl (s_nil (l_nil ?_)))))
        obtain rfl := Option.some.inj hz2
        exact ⟨rfl, (), (sbr rfl rfl)⟩
    · refine l_exitN rfl ?_
      obtain rfl := Option.some.inj hz2
      obtain rfl := ez2 _ rfl
      refine ⟨nofun, awl_pop rfl (l_j ?_)⟩
      exact ⟨_, (), rfl, (sbr rfl rfl)⟩
  · rintro _ ⟨y1, g1, rfl, q1⟩
    rw [Sum.elim_inl] at h
    refine l_sub q1 (lr (fun u8 hu8 => sv rfl (s_nil (l_ret ?_))))
    obtain rfl := Option.some.inj h
    exact fin_ok (.inr rfl) (resD1 (res_t rfl) rf_d) (.refl _)

noncomputable def slices_ContainsFunc_int64_int64_convoy_sane_1 (p1 : (List Int)) : Option Bool :=
  (slices_IndexFunc_int64_int64_convoy_sane_1 p1).bind fun v1 => some (decide (v1 ≥ 0))

/-- slices.ContainsFunc[[]int64,int64] -/
def ac_slices_ContainsFunc_int64_int64_convoy_sane_1 : AC := (.seq (.reg [oo 4 (.mv (.c zf))]) (.seq (.reg [oo 5 (.mv (.t 0)), oo 6 (.mv (.t 1)), oo 7 (.call (cf 121) [(.t 5), (.t 6)]), oo 8 (.bin .geq (.t 7) (ci 0)), oo 4 (.mv (.t 8))]) .ret))
theorem fn_slices_ContainsFunc_int64_int64_convoy_sane_1 : FnOK Try.prog 93 9 [.t 4] ac_slices_ContainsFunc_int64_int64_convoy_sane_1 := ⟨_, _, Try.func93, rfl, Try.ntmps93, by kernel_rfl, ⟨fun _ => [], by kernel_rfl⟩, by kernel_rfl⟩
theorem slices_ContainsFunc_int64_int64_convoy_sane_1_ok (p1 : (List Int)) (r : Bool) (h : slices_ContainsFunc_int64_int64_convoy_sane_1 p1 = some r) : PCall Try.prog 93 [(.list (List.map eInt_i64 p1)), (.fn (.func 94) [] [])] (bo r) := by
  refine l_call fn_slices_ContainsFunc_int64_int64_convoy_sane_1 (nl rfl) ?_
  unfold slices_ContainsFunc_int64_int64_convoy_sane_1 at h
  unfold ac_slices_ContainsFunc_int64_int64_convoy_sane_1
  refine l_sub (s0 := ⟨T [(0, (.d _)), (1, (.d _))], G []⟩) (sbr rfl rfl) ?_
  refine lr (fun u1 hu1 => sv rfl (s_nil (lr (fun u2 hu2 => sv rfl (sv rfl (bs h fun v1 hv1 h => s_call rfl rfl all2_refl (slices_IndexFunc_int64_int64_convoy_sane_1_ok _  _ hv1) (.inl rfl) (sv rfl (sv rfl (s_nil (l_ret ?_))))))))))
  obtain rfl := Option.some.inj h
  exact fin_ok (.inr rfl) (resD1 (res_t rfl) rf_d) (.refl _)

noncomputable def convoy_sane (p1 : (List Int)) : Option Bool :=
  (slices_ContainsFunc_int64_int64_convoy_sane_1 p1).bind fun v1 => some (!v1)

/-- kerbstone/convoy.sane -/
def ac_convoy_sane : AC := (.seq (.reg [oo 2 (.mv (.c zf))]) (.seq (.reg [oo 3 (.mv (.t 0)), oo 4 (.call (cf 93) [(.t 3), (cf 94)]), oo 5 (.un .not (.t 4)), oo 2 (.mv (.t 5))]) .ret))
theorem fn_convoy_sane : FnOK Try.prog 59 6 [.t 2] ac_convoy_sane := ⟨_, _, Try.func59, rfl, Try.ntmps59, by kernel_rfl, ⟨fun _ => [], by kernel_rfl⟩, by kernel_rfl⟩
theorem convoy_sane_ok (p1 : (List Int)) (r : Bool) (h : convoy_sane p1 = some r) : PCall Try.prog 59 [(.list (List.map eInt_i64 p1))] (bo r) := by
  refine l_call fn_convoy_sane (nl rfl) ?_
  unfold convoy_sane at h
  unfold ac_convoy_sane
  refine l_sub (s0 := ⟨T [(0, (.d _))], G []⟩) (sbr rfl rfl) ?_
  refine lr (fun u1 hu1 => sv rfl (s_nil (lr (fun u2 hu2 => sv rfl (bs h fun v1 hv1 h => s_call rfl rfl all2_refl (slices_ContainsFunc_int64_int64_convoy_sane_1_ok _  _ hv1) (.inl rfl) (s_val (.d (bo (!v1))) rfl rfl (sv rfl (s_nil (l_ret ?_)))))))))
  obtain rfl := Option.some.inj h
  exact fin_ok (.inr rfl) (resD1 (res_t rfl) rf_d) (.refl _)

noncomputable def world_Stop (p1 : Int) (p2 : Int) : Option Int :=
  cond ((decide (p1 < 1)) || (decide (p2 < 1))) (some 0) ((quoc .i64 (w64 ((mm2 false p1 1000000) - 1)) (mm2 false p2 1000000)).bind fun v1 => some (w64 ((w64 (v1 * (mm2 false p1 1000000))) - (w64 ((mm2 false p2 1000000) * (w64 ((w64 (v1 * (w64 (v1 + 1)))).tdiv 2)))))))

/-- kerbstone/world.Stop -/
def ac_world_Stop : AC := (.seq (.reg [oo 4 (.mv (ci 0))]) (.seq (.seq (.reg [oo 6 (.mv (.t 0)), oo 7 (.bin .lss (.t 6) (ci 1)), oo 8 (.mv (.t 7)), oh 9 (.mv (.t 1)) 8, oh 10 (.bin .lss (.t 9) (ci 1)) 8, oo 11 (.pick (.t 8) (.c (.v (.bool true))) (.t 10))]) (.cond (.t 11) (.seq (.reg [oo 4 (.mv (ci 0))]) .ret) .skip)) (.seq (.reg [oo 12 (.mv (.t 0)), oo 13 (.mm false (.t 12) [(ci 1000000)]), oo 14 (.mv (.t 1)), oo 15 (.mm false (.t 14) [(ci 1000000)]), oo 0 (.mv (.t 13)), oo 1 (.mv (.t 15))]) (.seq (.reg [oo 16 (.mv (.t 0)), oo 17 (.bin .sub (.t 16) (ci 1)), oo 18 (.mv (.t 1)), oo 19 (.bin .quo (.t 17) (.t 18)), oo 5 (.mv (.t 19))]) (.seq (.reg [oo 20 (.mv (.t 5)), oo 21 (.mv (.t 0)), oo 22 (.bin .mul (.t 20) (.t 21)), oo 23 (.mv (.t 1)), oo 24 (.mv (.t 5)), oo 25 (.mv (.t 5)), oo 26 (.bin .add (.t 25) (ci 1)), oo 27 (.bin .mul (.t 24) (.t 26)), oo 28 (.bin .quo (.t 27) (ci 2)), oo 29 (.bin .mul (.t 23) (.t 28)), oo 30 (.bin .sub (.t 22) (.t 29)), oo 4 (.mv (.t 30))]) .ret)))))
theorem fn_world_Stop : FnOK Try.prog 96 31 [.t 4] ac_world_Stop := ⟨_, _, Try.func96, rfl, Try.ntmps96, by kernel_rfl, ⟨fun _ => [], by kernel_rfl⟩, by kernel_rfl⟩
set_option maxHeartbeats 4000000 in
theorem world_Stop_ok (p1 : Int) (p2 : Int) (r : Int) (h : world_Stop p1 p2 = some r) : PCall Try.prog 96 [(i64 p1), (i64 p2)] (i64 r) := by
  refine l_call fn_world_Stop (nl rfl) ?_
  unfold world_Stop at h
  unfold ac_world_Stop
  refine l_sub (s0 := ⟨T [(0, (.d _)), (1, (.d _))], G []⟩) (sbr rfl rfl) ?_
  refine lr (fun u1 hu1 => sv rfl (s_nil (l_seq (lr (fun u2 hu2 => sv rfl (sv rfl (sv rfl (gf rfl (fun _ => rfl) (gf rfl (vb rfl rfl rfl) (sd rfl (v_or rfl rfl (fun hc => gd_pos (not_t hc))) (s_nil (cc rfl h (fun c1 h => ?_) (fun c1 h => ?_)))))))))))))
  · refine lr (fun u3 hu3 => sv rfl (s_nil (l_ret ?_)))
    obtain rfl := Option.some.inj h
    exact fin_ok (.inr rfl) (resD1 (res_t rfl) rf_d) (.refl _)
  · refine l_skip (lr (fun u4 hu4 => sv rfl (sv rfl (sv rfl (sv rfl (sv rfl (sv rfl (s_nil (lr (fun u5 hu5 => sv rfl (sv rfl (sv rfl (bs h fun v1 hv1 h => sd rfl (v_quo rfl rfl hv1) (sv rfl (s_nil (lr (fun u6 hu6 => sv rfl (sv rfl (sv rfl (sv rfl (sv rfl (sv rfl (sv rfl (sv rfl (sv rfl (sv rfl (sv rfl (sv rfl (s_nil (l_ret ?_))))))))))))))))))))))))))))))
    obtain rfl := Option.some.inj h
    exact fin_ok (.inr rfl) (resD1 (res_t rfl) rf_d) (.refl _)

noncomputable def convoy_stop (p1 : Int) : Option Int :=
  (world_Stop p1 90).bind fun v1 => some v1

/-- kerbstone/convoy.stop -/
def ac_convoy_stop : AC := (.seq (.reg [oo 2 (.mv (ci 0))]) (.seq (.reg [oo 3 (.mv (.t 0)), oo 4 (.call (cf 96) [(.t 3), (ci 90)]), oo 2 (.mv (.t 4))]) .ret))
theorem fn_convoy_stop : FnOK Try.prog 62 5 [.t 2] ac_convoy_stop := ⟨_, _, Try.func62, rfl, Try.ntmps62, by kernel_rfl, ⟨fun _ => [], by kernel_rfl⟩, by kernel_rfl⟩
theorem convoy_stop_ok (p1 : Int) (r : Int) (h : convoy_stop p1 = some r) : PCall Try.prog 62 [(i64 p1)] (i64 r) := by
  refine l_call fn_convoy_stop (nl rfl) ?_
  unfold convoy_stop at h
  unfold ac_convoy_stop
  refine l_sub (s0 := ⟨T [(0, (.d _))], G []⟩) (sbr rfl rfl) ?_
  refine lr (fun u1 hu1 => sv rfl (s_nil (lr (fun u2 hu2 => sv rfl (bs h fun v1 hv1 h => s_call rfl rfl all2_refl (world_Stop_ok _ _  _ hv1) (.inl rfl) (sv rfl (s_nil (l_ret ?_))))))))
  obtain rfl := Option.some.inj h
  exact fin_ok (.inr rfl) (resD1 (res_t rfl) rf_d) (.refl _)

noncomputable def convoy_end (p1 : Guess) : Option Int :=
  (convoy_stop p1.V).bind fun v1 => some (w64 (p1.R + v1))

/-- kerbstone/convoy.end -/
def ac_convoy_end : AC := (.seq (.reg [oo 1 (.box 23 true (.t 0)), oo 2 (.mv (ci 0))]) (.seq (.draw [oo 3 (.fieldA 0 (.t 1)), oo 4 (.load 1 false (.t 3)), oo 5 (.fieldA 1 (.t 1)), oo 6 (.load 1 false (.t 5)), oo 7 (.call (cf 62) [(.t 6)]), oo 8 (.bin .add (.t 4) (.t 7)), oo 2 (.mv (.t 8))] []) .ret))
theorem fn_convoy_end : FnOK Try.prog 61 9 [.t 2] ac_convoy_end := ⟨_, _, Try.func61, rfl, Try.ntmps61, by kernel_rfl, ⟨fun _ => [], by kernel_rfl⟩, by kernel_rfl⟩
theorem convoy_end_ok (p1 : Guess) (r : Int) (h : convoy_end p1 = some r) : PCall Try.prog 61 [(.agg [(i64 p1.R), (i64 p1.V)])] (i64 r) := by
  refine l_call fn_convoy_end (nl rfl) ?_
  unfold convoy_end at h
  unfold ac_convoy_end
  refine l_sub (s0 := ⟨T [(0, (.d _))], G []⟩) (sbr rfl rfl) ?_
  refine lr (fun u1 hu1 => sn rfl rfl (sv rfl (s_nil (l_seq (l_draw rfl fun u2 hu2 => sp rfl rfl (sl rfl G_hit rfl (sp rfl rfl (sl rfl G_hit rfl (bs h fun v1 hv1 h => s_call rfl rfl all2_refl (convoy_stop_ok _  _ hv1) (.inl rfl) (sv rfl (sv rfl (s_nil (l_ret ?_)))))))))))))
  obtain rfl := Option.some.inj h
  exact fin_ok (.inr rfl) (resD1 (res_t rfl) rf_d) (.refl _)

noncomputable def convoy_Safe (p1 : Int) (p2 : Int) (p3 : Int) (p4 : Guess) : Option Bool :=
  (convoy_sane [p1, p2, p3, p4.R, p4.V]).bind fun v1 => ((cond (v1 && (decide (p1 ≤ (w64 (p4.R - p3))))) (convoy_stop p2) (some default))).bind fun v2 => ((cond (v1 && (decide (p1 ≤ (w64 (p4.R - p3))))) (convoy_end p4) (some default))).bind fun v3 => some ((v1 && (decide (p1 ≤ (w64 (p4.R - p3))))) && (decide ((w64 (p1 + v2)) ≤ (w64 (v3 - p3)))))

/-- kerbstone/convoy.Safe -/
def ac_convoy_Safe : AC := (.seq (.reg [oo 7 (.box 23 true (.t 3)), oo 8 (.mv (.c zf))]) (.seq (.draw [oo 9 (.mv (.t 0)), oo 10 (.mv (.t 1)), oo 11 (.mv (.t 2)), oo 12 (.fieldA 0 (.t 7)), oo 13 (.load 1 false (.t 12)), oo 14 (.fieldA 1 (.t 7)), oo 15 (.load 1 false (.t 14)), oo 16 (.dslice 2 1 5 [z0] [(0, 1, (.t 9)), (1, 1, (.t 10)), (2, 1, (.t 11)), (3, 1, (.t 13)), (4, 1, (.t 15))]), oo 17 (.call (cf 59) [(.t 16)]), oo 18 (.mv (.t 17)), og 19 (.mv (.t 0)) 18, og 20 (.fieldA 0 (.t 7)) 18, og 21 (.load 1 false (.t 20)) 18, og 22 (.mv (.t 2)) 18, og 23 (.bin .sub (.t 21) (.t 22)) 18, og 24 (.bin .leq (.t 19) (.t 23)) 18, oo 25 (.pick (.t 18) (.t 24) (.c zf)), oo 26 (.mv (.t 25)), og 27 (.mv (.t 0)) 26, og 28 (.mv (.t 1)) 26, og 29 (.call (cf 62) [(.t 28)]) 26, og 30 (.bin .add (.t 27) (.t 29)) 26, og 31 (.load 2 true (.t 7)) 26, og 32 (.call (cf 61) [(.t 31)]) 26, og 33 (.mv (.t 2)) 26, og 34 (.bin .sub (.t 32) (.t 33)) 26, og 35 (.bin .leq (.t 30) (.t 34)) 26, oo 36 (.pick (.t 26) (.t 35) (.c zf)), oo 8 (.mv (.t 36))] []) .ret))
theorem fn_convoy_Safe : FnOK Try.prog 21 37 [.t 8] ac_convoy_Safe := ⟨_, _, Try.func21, rfl, Try.ntmps21, by kernel_rfl, ⟨fun r => if r == 1 then [1007] else [], by kernel_rfl⟩, by kernel_rfl⟩
theorem convoy_Safe_ok (p1 : Int) (p2 : Int) (p3 : Int) (p4 : Guess) (r : Bool) (h : convoy_Safe p1 p2 p3 p4 = some r) : PCall Try.prog 21 [(i64 p1), (i64 p2), (i64 p3), (.agg [(i64 p4.R), (i64 p4.V)])] (bo r) := by
  refine l_call fn_convoy_Safe (nl rfl) ?_
  unfold convoy_Safe at h
  unfold ac_convoy_Safe
  refine l_sub (s0 := ⟨T [(0, (.d _)), (1, (.d _)), (2, (.d _)), (3, (.d _))], G []⟩) (sbr rfl rfl) ?_
  refine lr (fun u1 hu1 => sn rfl rfl (sv rfl (s_nil (l_seq (l_draw rfl fun u2 hu2 => sv rfl (sv rfl (sv rfl (sp rfl rfl (sl rfl G_hit rfl (sp rfl rfl (sl rfl G_hit rfl (s_val (dl eInt_i64 [p1, p2, p3, p4.R, p4.V]) rfl rfl (bs h fun v1 hv1 h => s_call rfl rfl all2_refl (convoy_sane_ok _  _ hv1) (.inl rfl) (sv rfl (gt rfl (fun _ => rfl) (gp rfl (gw_t rfl) (fun _ => rfl) (gt rfl (vl rfl G_hit rfl) (gt rfl (fun _ => rfl) (gt rfl (fun w5 => (v_bin (gd_pos w5) (gd_pos w5) rfl)) (gt rfl (fun w6 => (v_bin (gd_pos w6) (gd_pos w6) rfl)) (sa rfl rfl rfl (sv rfl (gt rfl (fun _ => rfl) (gt rfl (fun _ => rfl) (bs h fun v2 hv2 h => ?_)))))))))))))))))))))))))
  refine g_call _ (i64 v2) (gw_t rfl) (fun w9 => ⟨_, [(di p2)], _, _, (by simp only [gd_pos w9]; rfl), rfl, all2_refl, convoy_stop_ok _  _ (cond_t w9 hv2), (.inl rfl)⟩) ?_
  refine gt rfl (fun w10 => (v_bin (gd_pos w10) (gd_pos w10) rfl)) (gt rfl (fun w11 => (v_loadG rfl G_hit rfl rfl)) (bs h fun v3 hv3 h => ?_))
  refine g_call _ (i64 v3) (gw_t rfl) (fun w12 => ⟨_, [(.d (.agg [(i64 p4.R), (i64 p4.V)]))], _, _, (by simp only [gd_pos w12]; rfl), rfl, all2_refl, convoy_end_ok _  _ (cond_t w12 hv3), (.inl rfl)⟩) ?_
  refine gt rfl (fun _ => rfl) (gt rfl (fun w14 => (v_bin (gd_pos w14) (gd_pos w14) rfl)) (gt rfl (fun w15 => (v_bin (gd_pos w15) (gd_pos w15) rfl)) (sa rfl rfl rfl (sv rfl (s_nil (l_ret ?_))))))
  obtain rfl := Option.some.inj h
  exact fin_ok (.inr rfl) (resD1 (res_t rfl) rf_d) (.refl _)

noncomputable def convoy_keeps (p1 : Int) (p2 : Mate) (p3 : Int) (p4 : Int) (p5 : Guess) (p6 : Guess) : Option Bool :=
  ((cond (!(p2.Ahead == 0)) (convoy_Safe p3 p4 p1 p5) (some default))).bind fun v1 => ((cond (((p2.Ahead == 0) || v1) && (!(p2.Until == 0))) (convoy_Safe p3 p4 p1 p6) (some default))).bind fun v2 => some (((p2.Ahead == 0) || v1) && ((p2.Until == 0) || v2))

/-- kerbstone/convoy.keeps -/
def ac_convoy_keeps : AC := (.seq (.reg [oo 7 (.box 65 true (.t 1)), oo 10 (.box 23 true (.t 4)), oo 11 (.box 23 true (.t 5)), oo 12 (.mv (.c zf))]) (.seq (.reg [oo 13 (.fieldA 4 (.t 7)), oo 14 (.load 1 false (.t 13)), oo 15 (.bin .eql (.t 14) (ci 0)), oo 16 (.mv (.t 15)), oh 17 (.mv (.t 2)) 16, oh 18 (.mv (.t 3)) 16, oh 19 (.mv (.t 0)) 16, oh 20 (.load 2 true (.t 10)) 16, oh 21 (.call (cf 21) [(.t 17), (.t 18), (.t 19), (.t 20)]) 16, oo 22 (.pick (.t 16) (.c (.v (.bool true))) (.t 21)), oo 23 (.mv (.t 22)), og 24 (.fieldA 11 (.t 7)) 23, og 25 (.load 1 false (.t 24)) 23, og 26 (.bin .eql (.t 25) (ci 0)) 23, og 27 (.mv (.t 26)) 23, oh 28 (.mv (.t 2)) 27, oh 29 (.mv (.t 3)) 27, oh 30 (.mv (.t 0)) 27, oh 31 (.load 2 true (.t 11)) 27, oh 32 (.call (cf 21) [(.t 28), (.t 29), (.t 30), (.t 31)]) 27, og 33 (.pick (.t 27) (.c (.v (.bool true))) (.t 32)) 23, oo 34 (.pick (.t 23) (.t 33) (.c zf)), oo 12 (.mv (.t 34))]) .ret))
theorem fn_convoy_keeps : FnOK Try.prog 76 35 [.t 12] ac_convoy_keeps := ⟨_, _, Try.func76, rfl, Try.ntmps76, by kernel_rfl, ⟨fun _ => [], by kernel_rfl⟩, by kernel_rfl⟩
theorem convoy_keeps_ok (p1 : Int) (p2 : Mate) (p3 : Int) (p4 : Int) (p5 : Guess) (p6 : Guess) (r : Bool) (h : convoy_keeps p1 p2 p3 p4 p5 p6 = some r) : PCall Try.prog 76 [(i64 p1), (.agg (eMate p2)), (i64 p3), (i64 p4), (.agg [(i64 p5.R), (i64 p5.V)]), (.agg [(i64 p6.R), (i64 p6.V)])] (bo r) := by
  refine l_call fn_convoy_keeps (nl rfl) ?_
  unfold convoy_keeps at h
  unfold ac_convoy_keeps
  refine l_sub (s0 := ⟨T [(0, (.d _)), (1, (.d _)), (2, (.d _)), (3, (.d _)), (4, (.d _)), (5, (.d _))], G []⟩) (sbr rfl rfl) ?_
  refine lr (fun u1 hu1 => sn rfl rfl (sn rfl rfl (sn rfl rfl (sv rfl (s_nil (lr (fun u2 hu2 => sp rfl rfl (sl rfl (gq rfl) rfl (sv rfl (sv rfl (gf rfl (fun _ => rfl) (gf rfl (fun _ => rfl) (gf rfl (fun _ => rfl) (gf rfl (fun w4 => (v_loadG rfl (gq rfl) rfl rfl)) (bs h fun v1 hv1 h => ?_)))))))))))))))
  refine g_call _ (bo v1) (gw_f rfl) (fun w5 => ⟨_, [(di p3), (di p4), (di p1), (.d (.agg [(i64 p5.R), (i64 p5.V)]))], _, _, (by simp only [gd_pos w5]; rfl), rfl, all2_refl, convoy_Safe_ok _ _ _ _  _ (cond_t w5 hv1), (.inl rfl)⟩) ?_
  refine sd rfl (v_or rfl rfl (fun hc => gd_pos (not_t hc))) (sv rfl (gp rfl (gw_t rfl) (fun _ => rfl) (gt rfl (vl rfl (gq rfl) rfl) (gt rfl (vb rfl rfl rfl) (gt rfl (fun w9 => (v_mv (gd_pos w9))) (gv rfl (gw_gf rfl) (fun _ => rfl) (gv rfl (gw_gf rfl) (fun _ => rfl) (gv rfl (gw_gf rfl) (fun _ => rfl) (gv rfl (gw_gf rfl) (fun w13 => (v_loadG rfl G_hit rfl rfl)) (bs h fun v2 hv2 h => ?_))))))))))
  refine g_call _ (bo v2) (gw_gf rfl) (fun w14 => ⟨_, [(di p3), (di p4), (di p1), (.d (.agg [(i64 p6.R), (i64 p6.V)]))], _, _, (by simp only [gd_pos w14]; rfl), rfl, all2_refl, convoy_Safe_ok _ _ _ _  _ (cond_t w14 hv2), (.inl rfl)⟩) ?_
  refine gt rfl (fun w15 => (v_or (gd_pos w15) rfl (fun hc => gd_pos (and_i w15 (not_t hc))))) (sa rfl rfl rfl (sv rfl (s_nil (l_ret ?_))))
  obtain rfl := Option.some.inj h
  exact fin_ok (.inr rfl) (resD1 (res_t rfl) rf_d) (.refl _)

noncomputable def convoy_Check_1_b (p1 : Mate) (p2 : Convoy) : Option Bool :=
  (convoy_keeps p2.Gap p1 p1.S p1.V p1.Guess_ p1.WardGuess).bind fun v1 => some (!v1)

/-- kerbstone/convoy.Check$1 -/
def ac_convoy_Check_1_b : AC := (.seq (.reg [oo 2 (.box 65 true (.t 0)), oo 3 (.mv (.c zf))]) (.seq (.reg [oo 4 (.fieldA 1 (.t 1)), oo 5 (.load 1 false (.t 4)), oo 6 (.load 12 true (.t 2)), oo 7 (.fieldA 1 (.t 2)), oo 8 (.load 1 false (.t 7)), oo 9 (.fieldA 2 (.t 2)), oo 10 (.load 1 false (.t 9)), oo 11 (.fieldA 5 (.t 2)), oo 12 (.load 2 true (.t 11)), oo 13 (.fieldA 9 (.t 2)), oo 14 (.load 2 true (.t 13)), oo 15 (.call (cf 76) [(.t 5), (.t 6), (.t 8), (.t 10), (.t 12), (.t 14)]), oo 16 (.un .not (.t 15)), oo 3 (.mv (.t 16))]) .ret))
theorem fn_convoy_Check_1_b : FnOK Try.prog 75 17 [.t 3] ac_convoy_Check_1_b := ⟨_, _, Try.func75, rfl, Try.ntmps75, by kernel_rfl, ⟨fun _ => [], by kernel_rfl⟩, by kernel_rfl⟩
theorem convoy_Check_1_b_ok (p1 : Mate) (p2 : Convoy) (r : Bool) (h : convoy_Check_1_b p1 p2 = some r) : PCall Try.prog 75 [(.agg (eMate p1)), (.bp (eConvoy p2) 0)] (bo r) := by
  refine l_call fn_convoy_Check_1_b (nl rfl) ?_
  unfold convoy_Check_1_b at h
  unfold ac_convoy_Check_1_b
  refine l_sub (s0 := ⟨T [(0, (.d _)), (1, (.d _))], G []⟩) (sbr rfl rfl) ?_
  refine lr (fun u1 hu1 => sn rfl rfl (sv rfl (s_nil (lr (fun u2 hu2 => sv rfl (sv rfl (sd rfl (v_loadG rfl G_hit rfl rfl) (sp rfl rfl (sl rfl G_hit rfl (sp rfl rfl (sl rfl G_hit rfl (sp rfl rfl (sd rfl (v_loadG rfl G_hit rfl rfl) (sp rfl rfl (sd rfl (v_loadG rfl G_hit rfl rfl) (bs h fun v1 hv1 h => s_call rfl rfl all2_refl (convoy_keeps_ok _ _ _ _ _ _  _ hv1) (.inl rfl) (s_val (.d (bo (!v1))) rfl rfl (sv rfl (s_nil (l_ret ?_))))))))))))))))))))
  obtain rfl := Option.some.inj h
  exact fin_ok (.inr rfl) (resD1 (res_t rfl) rf_d) (.refl _)

noncomputable def slices_IndexFunc_Mate_Mate_convoy_Check_1b_l1 (p1 : (List Mate)) (p2 : Convoy) (x1 : Int) : Option (Stp Int (Sum Unit Int)) :=
  cond (decide (x1 < (p1.length : Int))) ((geti p1 x1).bind fun v1 => (convoy_Check_1_b v1 p2).bind fun v2 => cond v2 (some (.out (.inr x1))) (some (.go (w64 (x1 + 1))))) (some (.out (.inl ())))
noncomputable def slices_IndexFunc_Mate_Mate_convoy_Check_1b (p1 : (List Mate)) (p2 : Convoy) : Option Int :=
  thenS (loop (slices_IndexFunc_Mate_Mate_convoy_Check_1b_l1 p1 p2) 0) (fun _ => some (-1)) (fun r => some r)

/-- slices.IndexFunc[[]kerbstone/api.Mate,kerbstone/api.Mate] -/
def ac_slices_IndexFunc_Mate_Mate_convoy_Check_1b : AC := (.seq (.reg [oo 4 (.mv (ci 0))]) (.seq (.seq (.reg [oo 6 (.mv (.t 0)), oo 7 (.len (.t 6)), oo 8 (.mv (ci 0))]) (.block 0 (.loop (.seq (.reg [oo 9 (.bin .lss (.t 8) (.t 7))]) (.seq (.cond (.t 9) .skip (.exit 0)) (.seq (.block 1 (.seq (.reg [oo 10 (.mv (.t 8)), oo 5 (.mv (.t 10))]) (.seq (.reg [oo 11 (.mv (.t 1)), oo 12 (.mv (.t 0)), oo 13 (.mv (.t 5)), oo 14 (.idxS 12 (.t 12) (.t 13)), oo 15 (.load 12 true (.t 14)), oo 16 (.call (.t 11) [(.t 15)])]) (.cond (.t 16) (.seq (.reg [oo 17 (.mv (.t 5)), oo 4 (.mv (.t 17))]) .ret) .skip)))) (.reg [oo 18 (.bin .add (.t 8) (ci 1)), oo 8 (.mv (.t 18))]))))))) (.seq (.reg [oo 4 (.mv (ci (-1)))]) .ret)))
theorem fn_slices_IndexFunc_Mate_Mate_convoy_Check_1b : FnOK Try.prog 98 19 [.t 4] ac_slices_IndexFunc_Mate_Mate_convoy_Check_1b := ⟨_, _, Try.func98, rfl, Try.ntmps98, by kernel_rfl, ⟨fun _ => [], by kernel_rfl⟩, by kernel_rfl⟩
set_option maxHeartbeats 4000000 in
theorem slices_IndexFunc_Mate_Mate_convoy_Check_1b_ok (p1 : (List Mate)) (p2 : Convoy) (r : Int) (h : slices_IndexFunc_Mate_Mate_convoy_Check_1b p1 p2 = some r) : PCall Try.prog 98 [(.list (List.map eMate p1)), (.fn (.func 75) [] [(.bp (eConvoy p2) 0)])] (i64 r) := by
  refine l_call fn_slices_IndexFunc_Mate_Mate_convoy_Check_1b (nl rfl) ?_
  unfold slices_IndexFunc_Mate_Mate_convoy_Check_1b at h
  unfold ac_slices_IndexFunc_Mate_Mate_convoy_Check_1b
  refine l_sub (s0 := ⟨T [(0, (.d _)), (1, (.d _))], G []⟩) (sbr rfl rfl) ?_
  refine lr (fun u1 hu1 => sv rfl (s_nil (l_seq (lr (fun u2 hu2 => sv rfl (sd rfl (v_len rfl) (sv rfl (s_nil (js h fun z1 hz1 h => l_join (fun s => ∃ (y1 : Unit) (g1 : Unit), z1 = .inl y1 ∧ Sb ⟨T [], G []⟩ s) ?_ ?_)))))))))
  · refine l_block (l_loop (slices_IndexFunc_Mate_Mate_convoy_Check_1b_l1 p1 p2) (fun (x1 : Int) (g2 : Unit) => ⟨T [(0, (dl eMate p1)), (1, (.d (.fn (.func 75) [] [(.bp (eConvoy p2) 0)]))), (7, (di (p1.length : Int))), (8, (di x1))], G []⟩) 0 () _ hz1 (sbr rfl rfl) ?_)
    intro x1 g2 z2 hz2 ez2
    unfold slices_IndexFunc_Mate_Mate_convoy_Check_1b_l1 at hz2
    refine lr (fun u3 hu3 => sv rfl (s_nil (l_seq (cc rfl hz2 (fun c1 hz2 => ?_) (fun c1 hz2 => ?_)))))
    · refine l_skip (l_seq (l_block (lr (fun u4 hu4 => sv rfl (sv rfl (s_nil (lr (fun u5 hu5 => sv rfl (sv rfl (sv rfl (bs hz2 fun v1 hv1 hz2 => sd rfl (v_idx rfl rfl hv1 rfl) (sd rfl (v_loadLG rfl hv1 rfl rfl) (bs hz2 fun v2 hv2 hz2 => s_call rfl rfl all2_refl (convoy_Check_1_b_ok _ _  _ hv2) (.inl rfl) (s_nil (cc rfl hz2 (fun c2 hz2 => ?_) (fun c2 hz2 => ?_))))))))))))))))
      · refine lr (fun u6 hu6 => sv rfl (sv rfl (s_nil (l_ret ?_))))
        obtain rfl := Option.some.inj hz2
        obtain rfl := ez2 _ rfl
        refine ⟨nofun, awl_ret ?_⟩
        rw [Sum.elim_inr] at h
        obtain rfl := Option.some.inj h
        exact fin_ok (.inr rfl) (resD1 (res_t rfl) rf_d) (.refl _)
      · refine l_skip (l_end (l_reg fun u7 hu7 => sv rfl (sv rfl (s_nil (l_nil ?_)))))
        obtain rfl := Option.some.inj hz2
        exact ⟨rfl, (), (sbr rfl rfl)⟩
    · refine l_exitN rfl ?_
      obtain rfl := Option.some.inj hz2
      obtain rfl := ez2 _ rfl
      refine ⟨nofun, awl_pop rfl (l_j ?_)⟩
      exact ⟨_, (), rfl, (sbr rfl rfl)⟩
  · rintro _ ⟨y1, g1, rfl, q1⟩
    rw [Sum.elim_inl] at h
    refine l_sub q1 (lr (fun u8 hu8 => sv rfl (s_nil (l_ret ?_))))
    obtain rfl := Option.some.inj h
    exact fin_ok (.inr rfl) (resD1 (res_t rfl) rf_d) (.refl _)

noncomputable def slices_ContainsFunc_Mate_Mate_convoy_Check_1b (p1 : (List Mate)) (p2 : Convoy) : Option Bool :=
  (slices_IndexFunc_Mate_Mate_convoy_Check_1b p1 p2).bind fun v1 => some (decide (v1 ≥ 0))

/-- slices.ContainsFunc[[]kerbstone/api.Mate,kerbstone/api.Mate] -/
def ac_slices_ContainsFunc_Mate_Mate_convoy_Check_1b : AC := (.seq (.reg [oo 4 (.mv (.c zf))]) (.seq (.reg [oo 5 (.mv (.t 0)), oo 6 (.mv (.t 1)), oo 7 (.call (cf 98) [(.t 5), (.t 6)]), oo 8 (.bin .geq (.t 7) (ci 0)), oo 4 (.mv (.t 8))]) .ret))
theorem fn_slices_ContainsFunc_Mate_Mate_convoy_Check_1b : FnOK Try.prog 77 9 [.t 4] ac_slices_ContainsFunc_Mate_Mate_convoy_Check_1b := ⟨_, _, Try.func77, rfl, Try.ntmps77, by kernel_rfl, ⟨fun _ => [], by kernel_rfl⟩, by kernel_rfl⟩
theorem slices_ContainsFunc_Mate_Mate_convoy_Check_1b_ok (p1 : (List Mate)) (p2 : Convoy) (r : Bool) (h : slices_ContainsFunc_Mate_Mate_convoy_Check_1b p1 p2 = some r) : PCall Try.prog 77 [(.list (List.map eMate p1)), (.fn (.func 75) [] [(.bp (eConvoy p2) 0)])] (bo r) := by
  refine l_call fn_slices_ContainsFunc_Mate_Mate_convoy_Check_1b (nl rfl) ?_
  unfold slices_ContainsFunc_Mate_Mate_convoy_Check_1b at h
  unfold ac_slices_ContainsFunc_Mate_Mate_convoy_Check_1b
  refine l_sub (s0 := ⟨T [(0, (.d _)), (1, (.d _))], G []⟩) (sbr rfl rfl) ?_
  refine lr (fun u1 hu1 => sv rfl (s_nil (lr (fun u2 hu2 => sv rfl (sv rfl (bs h fun v1 hv1 h => s_call rfl rfl all2_refl (slices_IndexFunc_Mate_Mate_convoy_Check_1b_ok _ _  _ hv1) (.inl rfl) (sv rfl (sv rfl (s_nil (l_ret ?_))))))))))
  obtain rfl := Option.some.inj h
  exact fin_ok (.inr rfl) (resD1 (res_t rfl) rf_d) (.refl _)

noncomputable def convoy_Check_l1 (p1 : Convoy) (x1 : Int) : Option (Stp Int (Sum Unit Int)) :=
  cond (decide (x1 < (p1.Mates.length : Int))) ((geti p1.Mates x1).bind fun v3 => cond ((((x1 == 0) && (v3.Ahead != 0)) || (((decide (x1 > 0)) && (v3.Until == 0)) && (v3.Ahead == 0))) || ((v3.Ward == 0) && (v3.Until != 0))) (some (.out (.inr 10))) (some (.go (w64 (x1 + 1))))) (some (.out (.inl ())))
noncomputable def convoy_Check (p1 : Convoy) : Option Int :=
  (convoy_numbers p1).bind fun v1 => cond (v1 != 0) (some v1) ((convoy_orders p1).bind fun v2 => cond (v2 != 0) (some v2) (thenS (loop (convoy_Check_l1 p1) 0) (fun _ => (slices_ContainsFunc_Mate_Mate_convoy_Check_1b p1.Mates p1).bind fun v4 => ((cond ((!v4) && (p1.Guest_.ID != 0)) (convoy_stop p1.Guest_.V) (some default))).bind fun v5 => cond (v4 || ((p1.Guest_.ID != 0) && (decide ((w64 (p1.Guest_.S + v5)) ≥ p1.Guest_.End)))) (some 12) (some 0)) (fun r => some r)))

/-- kerbstone/convoy.Check -/
def ac_convoy_Check : AC := (.seq (.reg [oo 1 (.box 38 true (.t 0)), oo 2 (.mv (ci 0))]) (.seq (.seq (.reg [oo 9 (.load 13 true (.t 1)), oo 10 (.call (cf 73) [(.t 9)]), oo 3 (.mv (.t 10))]) (.seq (.reg [oo 11 (.mv (.t 3)), oo 12 (.bin .neq (.t 11) (ci 0))]) (.cond (.t 12) (.seq (.reg [oo 13 (.mv (.t 3)), oo 2 (.mv (.t 13))]) .ret) .skip))) (.seq (.seq (.reg [oo 14 (.load 13 true (.t 1)), oo 15 (.call (cf 74) [(.t 14)]), oo 4 (.mv (.t 15))]) (.seq (.reg [oo 16 (.mv (.t 4)), oo 17 (.bin .neq (.t 16) (ci 0))]) (.cond (.t 17) (.seq (.reg [oo 18 (.mv (.t 4)), oo 2 (.mv (.t 18))]) .ret) .skip))) (.seq (.seq (.reg [oo 19 (.fieldA 2 (.t 1)), oo 20 (.load 1 false (.t 19)), oo 21 (.len (.t 20)), oo 22 (.mv (ci 0))]) (.block 0 (.loop (.seq (.reg [oo 23 (.bin .lss (.t 22) (.t 21))]) (.seq (.cond (.t 23) .skip (.exit 0)) (.seq (.block 1 (.seq (.reg [oo 24 (.mv (.t 22)), oo 25 (.idxS 12 (.t 20) (.t 22)), oo 26 (.load 12 true (.t 25)), oo 6 (.alloc 65 [z0, z0, z0, z0, z0, z0, z0, zf, z0, z0, z0, z0]), oo 5 (.mv (.t 24)), oe (.store 12 (.t 6) (.t 26))]) (.seq (.reg [oo 27 (.mv (.t 5)), oo 28 (.bin .gtr (.t 27) (ci 0)), oo 29 (.mv (.t 28)), og 30 (.fieldA 11 (.t 6)) 29, og 31 (.load 1 false (.t 30)) 29, og 32 (.bin .eql (.t 31) (ci 0)) 29, oo 33 (.pick (.t 29) (.t 32) (.c zf)), oo 34 (.mv (.t 33)), og 35 (.fieldA 4 (.t 6)) 34, og 36 (.load 1 false (.t 35)) 34, og 37 (.bin .eql (.t 36) (ci 0)) 34, oo 38 (.pick (.t 34) (.t 37) (.c zf)), oo 7 (.mv (.t 38))]) (.seq (.reg [oo 39 (.mv (.t 5)), oo 40 (.bin .eql (.t 39) (ci 0)), oo 41 (.mv (.t 40)), og 42 (.fieldA 4 (.t 6)) 41, og 43 (.load 1 false (.t 42)) 41, og 44 (.bin .neq (.t 43) (ci 0)) 41, oo 45 (.pick (.t 41) (.t 44) (.c zf)), oo 46 (.mv (.t 45)), oh 47 (.mv (.t 7)) 46, oo 48 (.pick (.t 46) (.c (.v (.bool true))) (.t 47)), oo 49 (.mv (.t 48)), oh 50 (.fieldA 8 (.t 6)) 49, oh 51 (.load 1 false (.t 50)) 49, oh 52 (.bin .eql (.t 51) (ci 0)) 49, oh 53 (.mv (.t 52)) 49, og 54 (.fieldA 11 (.t 6)) 53, og 55 (.load 1 false (.t 54)) 53, og 56 (.bin .neq (.t 55) (ci 0)) 53, oh 57 (.pick (.t 53) (.t 56) (.c zf)) 49, oo 58 (.pick (.t 49) (.c (.v (.bool true))) (.t 57))]) (.cond (.t 58) (.seq (.reg [oo 2 (.mv (ci 10))]) .ret) .skip))))) (.reg [oo 59 (.bin .add (.t 22) (ci 1)), oo 22 (.mv (.t 59))]))))))) (.seq (.reg [oo 60 (.mkfn (.func 75) [] [(.t 1)]), oo 8 (.mv (.t 60))]) (.seq (.seq (.draw [oo 61 (.fieldA 2 (.t 1)), oo 62 (.load 1 false (.t 61)), oo 63 (.mv (.t 8)), oo 64 (.call (cf 77) [(.t 62), (.t 63)]), oo 65 (.mv (.t 64)), oh 66 (.fieldA 3 (.t 1)) 65, oh 67 (.fieldA 0 (.t 66)) 65, oh 68 (.load 1 false (.t 67)) 65, oh 69 (.bin .neq (.t 68) (ci 0)) 65, oh 70 (.mv (.t 69)) 65, og 71 (.fieldA 3 (.t 1)) 70, og 72 (.fieldA 1 (.t 71)) 70, og 73 (.load 1 false (.t 72)) 70, og 74 (.fieldA 3 (.t 1)) 70, og 75 (.fieldA 2 (.t 74)) 70, og 76 (.load 1 false (.t 75)) 70, og 77 (.call (cf 62) [(.t 76)]) 70, og 78 (.bin .add (.t 73) (.t 77)) 70, og 79 (.fieldA 3 (.t 1)) 70, og 80 (.fieldA 4 (.t 79)) 70, og 81 (.load 1 false (.t 80)) 70, og 82 (.bin .geq (.t 78) (.t 81)) 70, oh 83 (.pick (.t 70) (.t 82) (.c zf)) 65, oo 84 (.pick (.t 65) (.c (.v (.bool true))) (.t 83))] []) (.cond (.t 84) (.seq (.reg [oo 2 (.mv (ci 12))]) .ret) .skip)) (.seq (.reg [oo 2 (.mv (ci 0))]) .ret)))))))
theorem fn_convoy_Check : FnOK Try.prog 32 85 [.t 2] ac_convoy_Check := ⟨_, _, Try.func32, rfl, Try.ntmps32, by kernel_rfl, ⟨fun _ => [], by kernel_rfl⟩, by kernel_rfl⟩
set_option maxHeartbeats 4000000 in
theorem convoy_Check_ok (p1 : Convoy) (r : Int) (h : convoy_Check p1 = some r) : PCall Try.prog 32 [(.agg (eConvoy p1))] (i64 r) := by
  refine l_call fn_convoy_Check (nl rfl) ?_
  unfold convoy_Check at h
  unfold ac_convoy_Check
  refine l_sub (s0 := ⟨T [(0, (.d _))], G []⟩) (sbr rfl rfl) ?_
  refine lr (fun u1 hu1 => sn rfl rfl (sv rfl (s_nil (l_seq (lr (fun u2 hu2 => sd rfl (v_loadG rfl G_hit rfl rfl) (bs h fun v1 hv1 h => s_call rfl rfl all2_refl (convoy_numbers_ok _  _ hv1) (.inl rfl) (sv rfl (s_nil (lr (fun u3 hu3 => sv rfl (sv rfl (s_nil (cc rfl h (fun c1 h => ?_) (fun c1 h => ?_)))))))))))))))
  · refine lr (fun u4 hu4 => sv rfl (sv rfl (s_nil (l_ret ?_))))
    obtain rfl := Option.some.inj h
    exact fin_ok (.inr rfl) (resD1 (res_t rfl) rf_d) (.refl _)
  · refine l_skip (l_seq (lr (fun u5 hu5 => sd rfl (v_loadG rfl G_hit rfl rfl) (bs h fun v2 hv2 h => s_call rfl rfl all2_refl (convoy_orders_ok _  _ hv2) (.inl rfl) (sv rfl (s_nil (lr (fun u6 hu6 => sv rfl (sv rfl (s_nil (cc rfl h (fun c2 h => ?_) (fun c2 h => ?_))))))))))))
    · refine lr (fun u7 hu7 => sv rfl (sv rfl (s_nil (l_ret ?_))))
      obtain rfl := Option.some.inj h
      exact fin_ok (.inr rfl) (resD1 (res_t rfl) rf_d) (.refl _)
    · refine l_skip (l_seq (lr (fun u8 hu8 => sp rfl rfl (sl rfl G_hit rfl (sd rfl (v_len rfl) (sv rfl (s_nil (js h fun z1 hz1 h => l_join (fun s => ∃ (y1 : Unit) (g1 : Unit), z1 = .inl y1 ∧ Sb ⟨T [(1, (.ptr (1, u1) 0))], G [((1, u1), some (.box 38 (dConvoy p1)))]⟩ s) ?_ ?_))))))))
      · refine l_block (l_loop (convoy_Check_l1 p1) (fun (x1 : Int) (g2 : Unit) => ⟨T [(1, (.ptr (1, u1) 0)), (20, (dl eMate p1.Mates)), (21, (di (p1.Mates.length : Int))), (22, (di x1))], G [((1, u1), some (.box 38 (dConvoy p1)))]⟩) 0 () _ hz1 (sbr rfl rfl) ?_)
        intro x1 g2 z2 hz2 ez2
        unfold convoy_Check_l1 at hz2
        refine lr (fun u9 hu9 => sv rfl (s_nil (l_seq (cc rfl hz2 (fun c3 hz2 => ?_) (fun c3 hz2 => ?_)))))
        · refine l_skip (l_seq (l_block (lr (fun u10 hu10 => sv rfl (bs hz2 fun v3 hv3 hz2 => sd rfl (v_idx rfl rfl hv3 rfl) (sd rfl (v_loadLG rfl hv3 rfl rfl) (sn rfl rfl (sv rfl (sst rfl G_hit (dMate v3) rfl (s_nil (lr (fun u11 hu11 => sv rfl (sv rfl (sv rfl (gp rfl (gw_t rfl) (fun _ => rfl) (gt rfl (vl rfl G_hit rfl) (gt rfl (vb rfl rfl rfl) (sa rfl rfl rfl (sv rfl (gp rfl (gw_t rfl) (fun _ => rfl) (gt rfl (vl rfl G_hit rfl) (gt rfl (vb rfl rfl rfl) (sa rfl rfl rfl (sv rfl (s_nil (l_seq (l_sub (s0 := ⟨T [(1, (.ptr _ _)), (5, (.d _)), (6, (.ptr _ _)), (7, (.d _)), (20, (.d _)), (21, (.d _)), (22, (.d _))], G [((1, u1), some (.box 38 _)), ((6, u10), some (.box 65 _))]⟩) (sbr rfl rfl) ?_)))))))))))))))))))))))))))
          refine l_reg fun u12 hu12 => sv rfl (sv rfl (sv rfl (gp rfl (gw_t rfl) (fun _ => rfl) (gt rfl (vl rfl (gq rfl) rfl) (gt rfl (vb rfl rfl rfl) (sa rfl rfl rfl (sv rfl (gf rfl (fun _ => rfl) (sd rfl (v_or rfl rfl (fun hc => gd_pos (not_t hc))) (sv rfl (gp rfl (gw_f rfl) (fun _ => rfl) (gf rfl (vl rfl (gq rfl) rfl) (gf rfl (vb rfl rfl rfl) (gf rfl (fun w14 => (v_mv (gd_pos w14))) (g_val _ (.ptr _ _) rfl (gw_gt rfl) (fun _ => rfl) (gv rfl (gw_gt rfl) (vl rfl (gq rfl) rfl) (gv rfl (gw_gt rfl) (vb rfl rfl rfl) (gf rfl (fun w18 => (v_and (gd_pos w18) (fun hc => gd_pos (and_i w18 hc)) rfl)) (sd rfl (v_or rfl rfl (fun hc => gd_pos (not_t hc))) (s_nil (cc rfl hz2 (fun c4 hz2 => ?_) (fun c4 hz2 => ?_))))))))))))))))))))))
          · refine l_seq (l_sub (s0 := ⟨T [], G []⟩) (sbr rfl rfl) ?_)
            refine l_reg fun u13 hu13 => sv rfl (s_nil (l_ret ?_))
            obtain rfl := Option.some.inj hz2
            obtain rfl := ez2 _ rfl
            refine ⟨nofun, awl_ret ?_⟩
            rw [Sum.elim_inr] at h
            obtain rfl := Option.some.inj h
            exact fin_ok (.inr rfl) (resD1 (res_t rfl) rf_d) (.refl _)
          · refine l_skip (l_end (l_sub (s0 := ⟨T [(1, (.ptr _ _)), (20, (.d _)), (21, (.d _)), (22, (.d _))], G [((1, u1), some (.box 38 _))]⟩) (sbr rfl rfl) ?_))
            refine l_reg fun u14 hu14 => sv rfl (sv rfl (s_nil (l_nil ?_)))
            obtain rfl := Option.some.inj hz2
            exact ⟨rfl, (), (sbr rfl rfl)⟩
        · refine l_exitN rfl ?_
          obtain rfl := Option.some.inj hz2
          obtain rfl := ez2 _ rfl
          refine ⟨nofun, awl_pop rfl (l_j ?_)⟩
          exact ⟨_, (), rfl, (sbr rfl rfl)⟩
      · rintro _ ⟨y1, g1, rfl, q1⟩
        rw [Sum.elim_inl] at h
        refine l_sub q1 (lr (fun u15 hu15 => s_val (.fn _ _ _) rfl rfl (s_val (.fn _ _ _) rfl rfl (s_nil (l_seq (l_seq (l_draw rfl fun u16 hu16 => sp rfl rfl (sl rfl G_hit rfl (s_val (.fn _ _ _) rfl rfl (bs h fun v4 hv4 h => s_call rfl (rfL_cons rf_d (rfL_cons (rf_fn rfL_nil (rfL_cons (rf_ptr G_hit (rfL_cons rf_d (rfL_cons rf_d (rfL_cons rf_d (rfL_cons rf_d (rfL_cons rf_d (rfL_cons rf_d (rfL_cons rf_d (rfL_cons rf_d (rfL_cons rf_d (rfL_cons rf_d (rfL_cons rf_d (rfL_cons rf_d (rfL_cons rf_d rfL_nil)))))))))))))) rfL_nil)) rfL_nil)) all2_refl (slices_ContainsFunc_Mate_Mate_convoy_Check_1b_ok _ _  _ hv4) (.inr rfl) (sv rfl (gp rfl (gw_f rfl) (fun _ => rfl) ?_))))))))))))
        refine g_val _ (.ptr _ _) rfl (gw_f rfl) (fun w20 => (by simp only [gd_pos w20]; rfl)) ?_
        refine gf rfl (vl rfl G_hit rfl) (gf rfl (vb rfl rfl rfl) (gf rfl (fun w23 => (v_mv (gd_pos w23))) (g_val _ (.ptr _ _) rfl (gw_gt rfl) (fun _ => rfl) ?_)))
        refine g_val _ (.ptr _ _) rfl (gw_gt rfl) (fun w25 => (by simp only [gd_pos w25]; rfl)) ?_
        refine gv rfl (gw_gt rfl) (vl rfl G_hit rfl) (g_val _ (.ptr _ _) rfl (gw_gt rfl) (fun _ => rfl) ?_)
        refine g_val _ (.ptr _ _) rfl (gw_gt rfl) (fun w28 => (by simp only [gd_pos w28]; rfl)) ?_
        refine gv rfl (gw_gt rfl) (vl rfl G_hit rfl) (bs h fun v5 hv5 h => ?_)
        refine g_call _ (i64 v5) (gw_gt rfl) (fun w30 => ⟨_, [(di p1.Guest_.V)], _, _, (by simp only [gd_pos w30]; rfl), rfl, all2_refl, convoy_stop_ok _  _ (cond_t w30 hv5), (.inl rfl)⟩) ?_
        refine gv rfl (gw_gt rfl) (fun w31 => (v_bin (gd_pos w31) (gd_pos w31) rfl)) (g_val _ (.ptr _ _) rfl (gw_gt rfl) (fun _ => rfl) ?_)
        refine g_val _ (.ptr _ _) rfl (gw_gt rfl) (fun w33 => (by simp only [gd_pos w33]; rfl)) ?_
        refine gv rfl (gw_gt rfl) (vl rfl G_hit rfl) (gv rfl (gw_gt rfl) (fun w35 => (v_bin (gd_pos w35) (gd_pos w35) rfl)) (gf rfl (fun w36 => (v_and (gd_pos w36) (fun hc => gd_pos (and_i w36 hc)) rfl)) (sd rfl (v_or rfl rfl (fun hc => gd_pos (not_t hc))) (s_nil (cc rfl h (fun c5 h => ?_) (fun c5 h => ?_))))))
        · refine l_seq (l_sub (s0 := ⟨T [], G []⟩) (sbr rfl rfl) ?_)
          refine l_reg fun u17 hu17 => sv rfl (s_nil (l_ret ?_))
          obtain rfl := Option.some.inj h
          exact fin_ok (.inr rfl) (resD1 (res_t rfl) rf_d) (.refl _)
        · refine l_skip (l_seq (l_sub (s0 := ⟨T [], G []⟩) (sbr rfl rfl) ?_))
          refine l_reg fun u18 hu18 => sv rfl (s_nil (l_ret ?_))
          obtain rfl := Option.some.inj h
          exact fin_ok (.inr rfl) (resD1 (res_t rfl) rf_d) (.refl _)

noncomputable def convoy_New_l1 (p2 : (List Mate)) (x1 : (Int × Convoy)) : Option (Stp (Int × Convoy) Convoy) :=
  cond (decide (x1.1 < (p2.length : Int))) ((geti p2 x1.1).bind fun v1 => (cond (decide (x1.1 > 0)) ((geti p2 (w64 (x1.1 - 1))).bind fun v2 => (geti p2 (w64 (x1.1 - 1))).bind fun v3 => (geti p2 (w64 (x1.1 - 1))).bind fun v4 => some (Mate.mk (w64 (x1.1 + 1)) v1.S v1.V v1.Len x1.1 (Guess.mk (w64 (v2.S - v3.Len)) v4.V) true 0 (Guess.mk 0 0) 0)) (some (Mate.mk (w64 (x1.1 + 1)) v1.S v1.V v1.Len 0 (Guess.mk 0 0) true 0 (Guess.mk 0 0) 0))).bind fun y2 => (appc x1.2.Mates [y2]).bind fun v5 => some (.go ((w64 (x1.1 + 1)), (Convoy.mk x1.2.Tick x1.2.Gap v5 x1.2.Guest_)))) (some (.out x1.2))
noncomputable def convoy_New (p1 : Int) (p2 : (List Mate)) : Option (Convoy × Int) :=
  (loop (convoy_New_l1 p2) (0, (Convoy.mk 0 p1 [] (Guest.mk 0 0 0 0 0 0 (Guess.mk 0 0) 0 0)))).bind fun y1 => (convoy_Check y1).bind fun v6 => cond (v6 != 0) (some ((Convoy.mk 0 0 [] (Guest.mk 0 0 0 0 0 0 (Guess.mk 0 0) 0 0)), v6)) (some (y1, 0))

/-- kerbstone/convoy.New -/
def ac_convoy_New : AC := (.seq (.reg [oo 4 (.alloc 38 [z0, z0, .nilS, z0, z0, z0, z0, z0, z0, z0, z0, z0, z0]), oo 5 (.mv (ci 0))]) (.seq (.reg [oo 11 (.mv (.t 0)), oo 12 (.build [z0, z0, .nilS, z0, z0, z0, z0, z0, z0, z0, z0, z0, z0] [(1, 1, (.t 11))]), oo 6 (.alloc 38 [z0, z0, .nilS, z0, z0, z0, z0, z0, z0, z0, z0, z0, z0]), oe (.store 13 (.t 6) (.t 12))]) (.seq (.seq (.reg [oo 13 (.mv (.t 1)), oo 14 (.len (.t 13)), oo 15 (.mv (ci 0))]) (.block 0 (.loop (.seq (.reg [oo 16 (.bin .lss (.t 15) (.t 14))]) (.seq (.cond (.t 16) .skip (.exit 0)) (.seq (.block 1 (.seq (.reg [oo 17 (.mv (.t 15)), oo 18 (.idxS 12 (.t 13) (.t 15)), oo 19 (.load 12 true (.t 18)), oo 8 (.alloc 65 [z0, z0, z0, z0, z0, z0, z0, zf, z0, z0, z0, z0]), oo 7 (.mv (.t 17)), oe (.store 12 (.t 8) (.t 19))]) (.seq (.reg [oo 20 (.mv (.t 7)), oo 21 (.bin .add (.t 20) (ci 1)), oo 22 (.fieldA 1 (.t 8)), oo 23 (.load 1 false (.t 22)), oo 24 (.fieldA 2 (.t 8)), oo 25 (.load 1 false (.t 24)), oo 26 (.fieldA 3 (.t 8)), oo 27 (.load 1 false (.t 26)), oo 28 (.build [z0, z0, z0, z0, z0, z0, z0, zf, z0, z0, z0, z0] [(0, 1, (.t 21)), (1, 1, (.t 23)), (2, 1, (.t 25)), (3, 1, (.t 27)), (7, 1, (.c (.v (.bool true))))]), oo 9 (.alloc 65 [z0, z0, z0, z0, z0, z0, z0, zf, z0, z0, z0, z0]), oe (.store 12 (.t 9) (.t 28))]) (.seq (.seq (.reg [oo 29 (.mv (.t 7)), oo 30 (.bin .gtr (.t 29) (ci 0))]) (.cond (.t 30) (.draw [oo 31 (.mv (.t 7)), oo 32 (.mv (.t 1)), oo 33 (.mv (.t 7)), oo 34 (.bin .sub (.t 33) (ci 1)), oo 35 (.idxS 12 (.t 32) (.t 34)), oo 36 (.fieldA 1 (.t 35)), oo 37 (.load 1 false (.t 36)), oo 38 (.mv (.t 1)), oo 39 (.mv (.t 7)), oo 40 (.bin .sub (.t 39) (ci 1)), oo 41 (.idxS 12 (.t 38) (.t 40)), oo 42 (.fieldA 3 (.t 41)), oo 43 (.load 1 false (.t 42)), oo 44 (.bin .sub (.t 37) (.t 43)), oo 45 (.mv (.t 1)), oo 46 (.mv (.t 7)), oo 47 (.bin .sub (.t 46) (ci 1)), oo 48 (.idxS 12 (.t 45) (.t 47)), oo 49 (.fieldA 2 (.t 48)), oo 50 (.load 1 false (.t 49)), oo 51 (.build [z0, z0] [(0, 1, (.t 44)), (1, 1, (.t 50))]), oo 52 (.fieldA 4 (.t 9)), oe (.store 1 (.t 52) (.t 31)), oo 53 (.fieldA 5 (.t 9)), oe (.store 2 (.t 53) (.t 51))] [(4, 22), (6, 22), (10, 22), (12, 22), (17, 22), (19, 22)]) .skip)) (.reg [oo 54 (.fieldA 2 (.t 6)), oo 55 (.load 1 false (.t 54)), oo 56 (.load 12 true (.t 9)), oo 57 (.dslice 65 12 1 [z0, z0, z0, z0, z0, z0, z0, zf, z0, z0, z0, z0] [(0, 12, (.t 56))]), oo 58 (.append 34 65 12 (.t 55) (.t 57)), oo 59 (.fieldA 2 (.t 6)), oe (.store 1 (.t 59) (.t 58))]))))) (.reg [oo 60 (.bin .add (.t 15) (ci 1)), oo 15 (.mv (.t 60))]))))))) (.seq (.seq (.reg [oo 61 (.load 13 true (.t 6)), oo 62 (.call (cf 32) [(.t 61)]), oo 10 (.mv (.t 62))]) (.seq (.reg [oo 63 (.mv (.t 10)), oo 64 (.bin .neq (.t 63) (ci 0))]) (.cond (.t 64) (.seq (.reg [oo 65 (.build [z0, z0, .nilS, z0, z0, z0, z0, z0, z0, z0, z0, z0, z0] []), oo 66 (.mv (.t 10)), oe (.store 13 (.t 4) (.t 65)), oo 5 (.mv (.t 66))]) .ret) .skip))) (.seq (.reg [oo 67 (.load 13 true (.t 6)), oe (.store 13 (.t 4) (.t 67)), oo 5 (.mv (ci 0))]) .ret)))))
theorem fn_convoy_New : FnOK Try.prog 43 68 [.cell 4 13 true, .t 5] ac_convoy_New := ⟨_, _, Try.func43, rfl, Try.ntmps43, by kernel_rfl, ⟨fun r => if r == 8 then [1003] else [], by kernel_rfl⟩, by kernel_rfl⟩
set_option maxHeartbeats 4000000 in
theorem convoy_New_ok (p1 : Int) (p2 : (List Mate)) (r : (Convoy × Int)) (h : convoy_New p1 p2 = some r) : PCall Try.prog 43 [(i64 p1), (.list (List.map eMate p2))] (.tup [(.agg (eConvoy r.1)), (i64 r.2)]) := by
  refine l_call fn_convoy_New (nl rfl) ?_
  unfold convoy_New at h
  unfold ac_convoy_New
  refine l_sub (s0 := ⟨T [(0, (.d _)), (1, (.d _))], G []⟩) (sbr rfl rfl) ?_
  refine lr (fun u1 hu1 => sn rfl rfl (sv rfl (s_nil (lr (fun u2 hu2 => sv rfl (sv rfl (sn rfl rfl (sst rfl G_hit [(di 0), (di p1), (.d .nilS), (di 0), (di 0), (di 0), (di 0), (di 0), (di 0), (di 0), (di 0), (di 0), (di 0)] rfl (s_nil (l_seq (lr (fun u3 hu3 => sv rfl (sd rfl (v_len rfl) (sv rfl (s_nil (bs h fun y1 hy1 h => l_join (fun s => ∃ g1 : Nat, Sb ⟨T [(4, (.ptr (4, u1) 0)), (6, (.ptr (6, u2) 0))], G [((4, u1), some (.box 38 [(di 0), (di 0), (.d .nilS), (di 0), (di 0), (di 0), (di 0), (di 0), (di 0), (di 0), (di 0), (di 0), (di 0)])), ((6, u2), some (.box 38 [(di y1.Tick), (di y1.Gap), (oS y1.Mates (58, g1)), (di y1.Guest_.ID), (di y1.Guest_.S), (di y1.Guest_.V), (di y1.Guest_.Len), (di y1.Guest_.End), (di y1.Guest_.Ahead), (di y1.Guest_.Guess_.R), (di y1.Guest_.Guess_.V), (di y1.Guest_.From), (di y1.Guest_.Until)])), ((58, g1), oB 65 12 eMate y1.Mates)]⟩ s) ?_ ?_))))))))))))))))
  · refine l_block (l_loop (convoy_New_l1 p2) (fun (x1 : (Int × Convoy)) (g2 : Nat) => ⟨T [(1, (dl eMate p2)), (4, (.ptr (4, u1) 0)), (6, (.ptr (6, u2) 0)), (13, (dl eMate p2)), (14, (di (p2.length : Int))), (15, (di x1.1))], G [((4, u1), some (.box 38 [(di 0), (di 0), (.d .nilS), (di 0), (di 0), (di 0), (di 0), (di 0), (di 0), (di 0), (di 0), (di 0), (di 0)])), ((6, u2), some (.box 38 [(di x1.2.Tick), (di x1.2.Gap), (oS x1.2.Mates (58, g2)), (di x1.2.Guest_.ID), (di x1.2.Guest_.S), (di x1.2.Guest_.V), (di x1.2.Guest_.Len), (di x1.2.Guest_.End), (di x1.2.Guest_.Ahead), (di x1.2.Guest_.Guess_.R), (di x1.2.Guest_.Guess_.V), (di x1.2.Guest_.From), (di x1.2.Guest_.Until)])), ((58, g2), oB 65 12 eMate x1.2.Mates)]⟩) (0, (Convoy.mk 0 p1 [] (Guest.mk 0 0 0 0 0 0 (Guess.mk 0 0) 0 0))) 0 _ hy1 (sb_of ⟨.of rfl, .of rfl, .of rfl, .of rfl, .of rfl, .of rfl, trivial⟩ (sbG_some (gq rfl) (.of rfl) (sbG_some G_hit (.of rfl) (sbG_nil trivial)))) ?_)
    intro x1 g2 z1 hz1 ez1
    unfold convoy_New_l1 at hz1
    refine lr (fun u4 hu4 => sv rfl (s_nil (l_seq (cc rfl hz1 (fun c1 hz1 => ?_) (fun c1 hz1 => ?_)))))
    · refine l_skip (l_seq (l_block (lr (fun u5 hu5 => sv rfl (bs hz1 fun v1 hv1 hz1 => sd rfl (v_idx rfl rfl hv1 rfl) (sd rfl (v_loadLG rfl hv1 rfl rfl) (sn rfl rfl (sv rfl (sst rfl G_hit (dMate v1) rfl (s_nil (lr (fun u6 hu6 => sv rfl (sv rfl (sp rfl rfl (sl rfl G_hit rfl (sp rfl rfl (sl rfl G_hit rfl (sp rfl rfl (sl rfl G_hit rfl (sv rfl (sn rfl rfl (sst rfl G_hit [(di (w64 (x1.1 + 1))), (di v1.S), (di v1.V), (di v1.Len), (di 0), (di 0), (di 0), (.d (bo true)), (di 0), (di 0), (di 0), (di 0)] rfl (s_nil (l_seq (l_seq (l_sub (s0 := ⟨T [(1, (dl eMate p2)), (4, (.ptr (4, u1) 0)), (6, (.ptr (6, u2) 0)), (7, (di x1.1)), (9, (.ptr (9, u6) 0)), (13, (dl eMate p2)), (14, (di (p2.length : Int))), (15, (di x1.1))], G [((4, u1), some (.box 38 [(di 0), (di 0), (.d .nilS), (di 0), (di 0), (di 0), (di 0), (di 0), (di 0), (di 0), (di 0), (di 0), (di 0)])), ((6, u2), some (.box 38 [(di x1.2.Tick), (di x1.2.Gap), (oS x1.2.Mates (58, g2)), (di x1.2.Guest_.ID), (di x1.2.Guest_.S), (di x1.2.Guest_.V), (di x1.2.Guest_.Len), (di x1.2.Guest_.End), (di x1.2.Guest_.Ahead), (di x1.2.Guest_.Guess_.R), (di x1.2.Guest_.Guess_.V), (di x1.2.Guest_.From), (di x1.2.Guest_.Until)])), ((58, g2), oB 65 12 eMate x1.2.Mates), ((9, u6), some (.box 65 [(di (w64 (x1.1 + 1))), (di v1.S), (di v1.V), (di v1.Len), (di 0), (di 0), (di 0), (.d (bo true)), (di 0), (di 0), (di 0), (di 0)]))]⟩) (sb_of ⟨.of rfl, .of rfl, .of rfl, .of rfl, .of rfl, .of rfl, .of rfl, .of rfl, trivial⟩ (sbG_some (gq rfl) (.of rfl) (sbG_some (gq rfl) (.of rfl) (sbG_oB (gq rfl) (sbG_some G_hit (.of rfl) trivial))))) ?_))))))))))))))))))))))))))
      refine l_reg fun u7 hu7 => sv rfl (sv rfl (s_nil (bs hz1 fun y2 hy2 hz1 => l_join (fun s => ∃ g3 : Unit, Sb ⟨T [(1, (dl eMate p2)), (4, (.ptr (4, u1) 0)), (6, (.ptr (6, u2) 0)), (9, (.ptr (9, u6) 0)), (13, (dl eMate p2)), (14, (di (p2.length : Int))), (15, (di x1.1))], G [((4, u1), some (.box 38 [(di 0), (di 0), (.d .nilS), (di 0), (di 0), (di 0), (di 0), (di 0), (di 0), (di 0), (di 0), (di 0), (di 0)])), ((6, u2), some (.box 38 [(di x1.2.Tick), (di x1.2.Gap), (oS x1.2.Mates (58, g2)), (di x1.2.Guest_.ID), (di x1.2.Guest_.S), (di x1.2.Guest_.V), (di x1.2.Guest_.Len), (di x1.2.Guest_.End), (di x1.2.Guest_.Ahead), (di x1.2.Guest_.Guess_.R), (di x1.2.Guest_.Guess_.V), (di x1.2.Guest_.From), (di x1.2.Guest_.Until)])), ((9, u6), some (.box 65 (dMate y2))), ((58, g2), oB 65 12 eMate x1.2.Mates)]⟩ s) ?_ ?_)))
      · refine cc rfl hy2 (fun c2 hy2 => ?_) (fun c2 hy2 => ?_)
        · refine l_drawT fun u8 hu8 => t_val (.d _) rfl rfl (t_val (.d _) rfl rfl (t_val (.d _) rfl rfl (t_val (.d _) rfl rfl (bs hy2 fun v2 hv2 hy2 => t_val (.d _) rfl (v_idx rfl rfl hv2 rfl) (t_val (.d _) rfl rfl (t_val (.d _) rfl (v_loadL rfl hv2 rfl) (t_val (.d _) rfl rfl (t_val (.d _) rfl rfl (t_val (.d _) rfl rfl (bs hy2 fun v3 hv3 hy2 => t_val (.d _) rfl (v_idx rfl rfl hv3 rfl) (t_val (.d _) rfl rfl (t_val (.d _) rfl (v_loadL rfl hv3 rfl) (t_val (.d _) rfl rfl (t_val (.d _) rfl rfl (t_val (.d _) rfl rfl (t_val (.d _) rfl rfl (bs hy2 fun v4 hv4 hy2 => t_val (.d _) rfl (v_idx rfl rfl hv4 rfl) (t_val (.d _) rfl rfl (t_val (.d _) rfl (v_loadL rfl hv4 rfl) (t_val (.d _) rfl rfl (t_val (.ptr _ _) rfl rfl (t_store _ _ _ _ _ rfl rfl rfl (gq rfl) (nl rfl) [(di (w64 (x1.1 + 1))), (di v1.S), (di v1.V), (di v1.Len), (di x1.1), (di 0), (di 0), (.d (bo true)), (di 0), (di 0), (di 0), (di 0)] rfl (t_val (.ptr _ _) rfl rfl (t_store _ _ _ _ _ rfl rfl rfl G_hit (nl rfl) [(di (w64 (x1.1 + 1))), (di v1.S), (di v1.V), (di v1.Len), (di x1.1), (di (w64 (v2.S - v3.Len))), (di v4.V), (.d (bo true)), (di 0), (di 0), (di 0), (di 0)] rfl (t_nil ⟨rfl, ?_⟩)))))))))))))))))))))))))
          obtain rfl := Option.some.inj hy2
          exact l_j ⟨(), (sb_of ⟨.of rfl, .of rfl, .of rfl, .of rfl, .of rfl, .of rfl, .of rfl, trivial⟩ (sbG_some (gq rfl) (.of rfl) (sbG_some (gq rfl) (.of rfl) (sbG_some G_hit (.of rfl) (sbG_oB (gq rfl) trivial)))))⟩
        · refine l_skip ?_
          obtain rfl := Option.some.inj hy2
          exact l_j ⟨(), (sb_of ⟨.of rfl, .of rfl, .of rfl, .of rfl, .of rfl, .of rfl, .of rfl, trivial⟩ (sbG_some G_hit (.of rfl) (sbG_some (gq rfl) (.of rfl) (sbG_some (gq rfl) (.of rfl) (sbG_oB (gq rfl) trivial)))))⟩
      · rintro _ ⟨g3, q1⟩
        refine l_sub q1 (l_reg fun u9 hu9 => sp rfl rfl (s_val (oS x1.2.Mates (58, g2)) rfl (v_load rfl (gq rfl) rfl) (sd rfl (v_loadG rfl (gq rfl) rfl rfl) (s_val (dl eMate [y2]) rfl (v_dsliceN eMate ([y2] : List Mate) (fun _ => rfl) rfl rfl ⟨rfl, rfl, rfl, trivial⟩) (bs hz1 fun v5 hv5 hz1 => s_appendO eMate (58, g2) x1.2.Mates y2 [] _ (elems_list (fun _ => rfl)) rfl (gq rfl) hv5 (sp rfl rfl (sst rfl (gq rfl) [(di x1.2.Tick), (di x1.2.Gap), (.sl (58, u9)), (di x1.2.Guest_.ID), (di x1.2.Guest_.S), (di x1.2.Guest_.V), (di x1.2.Guest_.Len), (di x1.2.Guest_.End), (di x1.2.Guest_.Ahead), (di x1.2.Guest_.Guess_.R), (di x1.2.Guest_.Guess_.V), (di x1.2.Guest_.From), (di x1.2.Guest_.Until)] rfl (s_nil (l_end (l_reg fun u10 hu10 => sv rfl (sv rfl (s_nil (l_nil ?_)))))))))))))
        obtain rfl := Option.some.inj hz1
        exact ⟨rfl, u9, (sb_of ⟨.of rfl, .of rfl, .of rfl, .of rfl, .of rfl, .of rfl, trivial⟩ (sbG_some (gq rfl) (.of rfl) (sbG_some G_hit (.box (.cons (.of rfl) (.cons (.of rfl) (.cons (.of (oS_ne (appc_ne hv5)).symm) (.cons (.of rfl) (.cons (.of rfl) (.cons (.of rfl) (.cons (.of rfl) (.cons (.of rfl) (.cons (.of rfl) (.cons (.of rfl) (.cons (.of rfl) (.cons (.of rfl) (.cons (.of rfl) .nil)))))))))))))) (sbG_own (gq rfl) trivial))))⟩
    · refine l_exitN rfl ?_
      obtain rfl := Option.some.inj hz1
      obtain rfl := ez1 _ rfl
      refine ⟨nofun, awl_pop rfl (l_j ?_)⟩
      exact ⟨g2, (sb_of ⟨.of rfl, .of rfl, trivial⟩ (sbG_some G_hit (.of rfl) (sbG_some (gq rfl) (.of rfl) (sbG_oB (gq rfl) trivial))))⟩
  · rintro _ ⟨g1, q2⟩
    refine l_sub q2 (l_seq (lr (fun u11 hu11 => s_val (mkAgg [(di y1.Tick), (di y1.Gap), (oS y1.Mates (58, g1)), (di y1.Guest_.ID), (di y1.Guest_.S), (di y1.Guest_.V), (di y1.Guest_.Len), (di y1.Guest_.End), (di y1.Guest_.Ahead), (di y1.Guest_.Guess_.R), (di y1.Guest_.Guess_.V), (di y1.Guest_.From), (di y1.Guest_.Until)]) rfl (v_loadG rfl (gq rfl) rfl rfl) (bs h fun v6 hv6 h => s_call rfl (rfL_cons (rf_mkAgg (rfL_cons rf_d (rfL_cons rf_d (rfL_cons (rf_oS (gq rfl)) (rfL_cons rf_d (rfL_cons rf_d (rfL_cons rf_d (rfL_cons rf_d (rfL_cons rf_d (rfL_cons rf_d (rfL_cons rf_d (rfL_cons rf_d (rfL_cons rf_d (rfL_cons rf_d rfL_nil)))))))))))))) rfL_nil) (.cons (.agg (.cons ⟨(.refl _), rfl⟩ (.cons ⟨(.refl _), rfl⟩ (.cons ⟨oD_le, rfl⟩ (.cons ⟨(.refl _), rfl⟩ (.cons ⟨(.refl _), rfl⟩ (.cons ⟨(.refl _), rfl⟩ (.cons ⟨(.refl _), rfl⟩ (.cons ⟨(.refl _), rfl⟩ (.cons ⟨(.refl _), rfl⟩ (.cons ⟨(.refl _), rfl⟩ (.cons ⟨(.refl _), rfl⟩ (.cons ⟨(.refl _), rfl⟩ (.cons ⟨(.refl _), rfl⟩ .nil)))))))))))))) .nil) (convoy_Check_ok _  _ hv6) (.inr rfl) (sv rfl (s_nil (lr (fun u12 hu12 => sv rfl (sv rfl (s_nil (cc rfl h (fun c3 h => ?_) (fun c3 h => ?_))))))))))))
    · refine lr (fun u13 hu13 => sv rfl (sv rfl (sst rfl G_hit [(di 0), (di 0), (.d .nilS), (di 0), (di 0), (di 0), (di 0), (di 0), (di 0), (di 0), (di 0), (di 0), (di 0)] rfl (sv rfl (s_nil (l_ret ?_))))))
      obtain rfl := Option.some.inj h
      exact fin_ok (.inr rfl) (resD2 (res_cellG rfl G_hit (nl rfl) rfl) (res_t rfl) rf_d rf_d) (.tup (.cons (.agg (.cons ⟨(.refl _), rfl⟩ (.cons ⟨(.refl _), rfl⟩ (.cons ⟨DLe.nil, rfl⟩ (.cons ⟨(.refl _), rfl⟩ (.cons ⟨(.refl _), rfl⟩ (.cons ⟨(.refl _), rfl⟩ (.cons ⟨(.refl _), rfl⟩ (.cons ⟨(.refl _), rfl⟩ (.cons ⟨(.refl _), rfl⟩ (.cons ⟨(.refl _), rfl⟩ (.cons ⟨(.refl _), rfl⟩ (.cons ⟨(.refl _), rfl⟩ (.cons ⟨(.refl _), rfl⟩ .nil)))))))))))))) (.cons (.refl _) .nil)))
    · refine l_skip (lr (fun u14 hu14 => s_val (mkAgg [(di y1.Tick), (di y1.Gap), (oS y1.Mates (58, g1)), (di y1.Guest_.ID), (di y1.Guest_.S), (di y1.Guest_.V), (di y1.Guest_.Len), (di y1.Guest_.End), (di y1.Guest_.Ahead), (di y1.Guest_.Guess_.R), (di y1.Guest_.Guess_.V), (di y1.Guest_.From), (di y1.Guest_.Until)]) rfl (v_loadG rfl (gq rfl) rfl rfl) (s_store _ _ _ _ _ (cellsV_mkAgg _) rfl rfl G_hit (nl rfl) [(di y1.Tick), (di y1.Gap), (oS y1.Mates (58, g1)), (di y1.Guest_.ID), (di y1.Guest_.S), (di y1.Guest_.V), (di y1.Guest_.Len), (di y1.Guest_.End), (di y1.Guest_.Ahead), (di y1.Guest_.Guess_.R), (di y1.Guest_.Guess_.V), (di y1.Guest_.From), (di y1.Guest_.Until)] rfl (sv rfl (s_nil (l_ret ?_))))))
      obtain rfl := Option.some.inj h
      exact fin_ok (.inr rfl) (resD2 (res_cellG rfl G_hit (nl rfl) rfl) (res_t rfl) (rf_mkAgg (rfL_cons rf_d (rfL_cons rf_d (rfL_cons (rf_oS (gq rfl)) (rfL_cons rf_d (rfL_cons rf_d (rfL_cons rf_d (rfL_cons rf_d (rfL_cons rf_d (rfL_cons rf_d (rfL_cons rf_d (rfL_cons rf_d (rfL_cons rf_d (rfL_cons rf_d rfL_nil)))))))))))))) rf_d) (.tup (.cons (.agg (.cons ⟨(.refl _), rfl⟩ (.cons ⟨(.refl _), rfl⟩ (.cons ⟨oD_le, rfl⟩ (.cons ⟨(.refl _), rfl⟩ (.cons ⟨(.refl _), rfl⟩ (.cons ⟨(.refl _), rfl⟩ (.cons ⟨(.refl _), rfl⟩ (.cons ⟨(.refl _), rfl⟩ (.cons ⟨(.refl _), rfl⟩ (.cons ⟨(.refl _), rfl⟩ (.cons ⟨(.refl _), rfl⟩ (.cons ⟨(.refl _), rfl⟩ (.cons ⟨(.refl _), rfl⟩ .nil)))))))))))))) (.cons (.refl _) .nil)))

noncomputable def law09_shown : Option Convoy :=
  (convoy_New 1000 [(Mate.mk 0 50000 1000 4000 0 (Guess.mk 0 0) false 0 (Guess.mk 0 0) 0), (Mate.mk 0 40000 1000 4000 0 (Guess.mk 0 0) false 0 (Guess.mk 0 0) 0)]).bind fun v1 => cond ((v1.2 != 0) || ((v1.1.Mates.length : Int) != 2)) (some (Convoy.mk 0 0 [] (Guest.mk 0 0 0 0 0 0 (Guess.mk 0 0) 0 0))) (some v1.1)

/-- kerbstone/kerbstonelaw09.shown -/
def ac_law09_shown : AC := (.seq (.reg [oo 0 (.alloc 38 [z0, z0, .nilS, z0, z0, z0, z0, z0, z0, z0, z0, z0, z0])]) (.seq (.reg [oo 4 (.build [z0, z0, z0, z0, z0, z0, z0, zf, z0, z0, z0, z0] [(1, 1, (ci 50000)), (2, 1, (ci 1000)), (3, 1, (ci 4000))]), oo 5 (.build [z0, z0, z0, z0, z0, z0, z0, zf, z0, z0, z0, z0] [(1, 1, (ci 40000)), (2, 1, (ci 1000)), (3, 1, (ci 4000))]), oo 6 (.dslice 65 12 2 [z0, z0, z0, z0, z0, z0, z0, zf, z0, z0, z0, z0] [(0, 12, (.t 4)), (12, 12, (.t 5))]), oo 7 (.call (cf 43) [(ci 1000), (.t 6)]), oo 3 (.mv (.t 7)), oo 8 (.ext (.t 3) 0), oo 9 (.ext (.t 3) 1), oo 1 (.alloc 38 [z0, z0, .nilS, z0, z0, z0, z0, z0, z0, z0, z0, z0, z0]), oe (.store 13 (.t 1) (.t 8)), oo 2 (.mv (.t 9))]) (.seq (.seq (.reg [oo 10 (.mv (.t 2)), oo 11 (.bin .neq (.t 10) (ci 0)), oo 12 (.mv (.t 11)), oh 13 (.fieldA 2 (.t 1)) 12, oh 14 (.load 1 false (.t 13)) 12, oh 15 (.len (.t 14)) 12, oh 16 (.bin .neq (.t 15) (ci 2)) 12, oo 17 (.pick (.t 12) (.c (.v (.bool true))) (.t 16))]) (.cond (.t 17) (.seq (.reg [oo 18 (.build [z0, z0, .nilS, z0, z0, z0, z0, z0, z0, z0, z0, z0, z0] []), oe (.store 13 (.t 0) (.t 18))]) .ret) .skip)) (.seq (.reg [oo 19 (.load 13 true (.t 1)), oe (.store 13 (.t 0) (.t 19))]) .ret))))
theorem fn_law09_shown : FnOK Try.prog 57 20 [.cell 0 13 true] ac_law09_shown := ⟨_, _, Try.func57, rfl, Try.ntmps57, by kernel_rfl, ⟨fun r => if r == 1 then [1002] else [], by kernel_rfl⟩, by kernel_rfl⟩
theorem law09_shown_ok (r : Convoy) (h : law09_shown = some r) : PCall Try.prog 57 [] (.agg (eConvoy r)) := by
  refine l_call fn_law09_shown (nl rfl) ?_
  unfold law09_shown at h
  unfold ac_law09_shown
  refine l_sub (s0 := ⟨T [], G []⟩) (sbr rfl rfl) ?_
  refine lr (fun u1 hu1 => sn rfl rfl (s_nil (lr (fun u2 hu2 => sv rfl (sv rfl (s_val (dl eMate [(Mate.mk 0 50000 1000 4000 0 (Guess.mk 0 0) false 0 (Guess.mk 0 0) 0), (Mate.mk 0 40000 1000 4000 0 (Guess.mk 0 0) false 0 (Guess.mk 0 0) 0)]) rfl (v_dsliceN eMate ([(Mate.mk 0 50000 1000 4000 0 (Guess.mk 0 0) false 0 (Guess.mk 0 0) 0), (Mate.mk 0 40000 1000 4000 0 (Guess.mk 0 0) false 0 (Guess.mk 0 0) 0)] : List Mate) (fun _ => rfl) rfl rfl ⟨rfl, rfl, rfl, rfl, rfl, rfl, trivial⟩) (bs h fun v1 hv1 h => s_call rfl rfl all2_refl (convoy_New_ok _ _  _ hv1) (.inl rfl) (sv rfl (sv rfl (sv rfl (sn rfl rfl (sst rfl G_hit (dConvoy v1.1) rfl (sv rfl (s_nil (l_seq (lr (fun u3 hu3 => sv rfl (sv rfl (sv rfl (gp rfl (gw_f rfl) (fun _ => rfl) (gf rfl (vl rfl G_hit rfl) (gf rfl (fun w3 => (v_len (gd_pos w3))) (gf rfl (vb rfl rfl rfl) (sd rfl (v_or rfl rfl (fun hc => gd_pos (not_t hc))) (s_nil (cc rfl h (fun c1 h => ?_) (fun c1 h => ?_)))))))))))))))))))))))))))
  · refine lr (fun u4 hu4 => sv rfl (sst rfl (gq rfl) [(di 0), (di 0), (.d .nilS), (di 0), (di 0), (di 0), (di 0), (di 0), (di 0), (di 0), (di 0), (di 0), (di 0)] rfl (s_nil (l_ret ?_))))
    obtain rfl := Option.some.inj h
    exact fin_ok (.inr rfl) (resD1 (res_cellG rfl G_hit (nl rfl) rfl) rf_d) (.agg (.cons ⟨(.refl _), rfl⟩ (.cons ⟨(.refl _), rfl⟩ (.cons ⟨DLe.nil, rfl⟩ (.cons ⟨(.refl _), rfl⟩ (.cons ⟨(.refl _), rfl⟩ (.cons ⟨(.refl _), rfl⟩ (.cons ⟨(.refl _), rfl⟩ (.cons ⟨(.refl _), rfl⟩ (.cons ⟨(.refl _), rfl⟩ (.cons ⟨(.refl _), rfl⟩ (.cons ⟨(.refl _), rfl⟩ (.cons ⟨(.refl _), rfl⟩ (.cons ⟨(.refl _), rfl⟩ .nil))))))))))))))
  · refine l_skip (lr (fun u5 hu5 => sd rfl (v_loadG rfl G_hit rfl rfl) (sst rfl (gq rfl) (dConvoy v1.1) rfl (s_nil (l_ret ?_)))))
    obtain rfl := Option.some.inj h
    exact fin_ok (.inr rfl) (resD1 (res_cellG rfl G_hit (nl rfl) rfl) rf_d) (.refl _)

noncomputable def convoy_Age_l1 (p2 : Int) (x1 : (Int × Guess)) : Option (Stp (Int × Guess) Guess) :=
  cond (decide (x1.1 < (mm2 true 0 (mm2 false p2 30)))) (some (.go ((w64 (x1.1 + 1)), (Guess.mk (w64 (x1.2.R + (mm2 true 0 (w64 (x1.2.V - 90))))) (mm2 true 0 (w64 (x1.2.V - 90))))))) (some (.out x1.2))
noncomputable def convoy_Age (p1 : Guess) (p2 : Int) : Option Guess :=
  (convoy_sane [p1.R, p1.V]).bind fun v1 => cond (!v1) (some (Guess.mk 0 0)) ((loop (convoy_Age_l1 p2) (0, p1)).bind fun y1 => some y1)

/-- kerbstone/convoy.Age -/
def ac_convoy_Age : AC := (.seq (.reg [oo 2 (.box 23 true (.t 0)), oo 4 (.alloc 23 [z0, z0])]) (.seq (.seq (.reg [oo 5 (.fieldA 0 (.t 2)), oo 6 (.load 1 false (.t 5)), oo 7 (.fieldA 1 (.t 2)), oo 8 (.load 1 false (.t 7)), oo 9 (.dslice 2 1 2 [z0] [(0, 1, (.t 6)), (1, 1, (.t 8))]), oo 10 (.call (cf 59) [(.t 9)]), oo 11 (.un .not (.t 10))]) (.cond (.t 11) (.seq (.reg [oo 12 (.build [z0, z0] []), oe (.store 2 (.t 4) (.t 12))]) .ret) .skip)) (.seq (.seq (.reg [oo 13 (.mv (.t 1)), oo 14 (.mm false (.t 13) [(ci 30)]), oo 15 (.mm true (ci 0) [(.t 14)]), oo 16 (.mv (ci 0))]) (.block 0 (.loop (.seq (.reg [oo 17 (.bin .lss (.t 16) (.t 15))]) (.seq (.cond (.t 17) .skip (.exit 0)) (.seq (.block 1 (.seq (.reg [oo 18 (.fieldA 1 (.t 2)), oo 19 (.load 1 false (.t 18)), oo 20 (.bin .sub (.t 19) (ci 90)), oo 21 (.mm true (ci 0) [(.t 20)]), oo 22 (.fieldA 1 (.t 2)), oe (.store 1 (.t 22) (.t 21))]) (.reg [oo 23 (.fieldA 0 (.t 2)), oo 24 (.load 1 false (.t 23)), oo 25 (.fieldA 1 (.t 2)), oo 26 (.load 1 false (.t 25)), oo 27 (.bin .add (.t 24) (.t 26)), oo 28 (.fieldA 0 (.t 2)), oe (.store 1 (.t 28) (.t 27))]))) (.reg [oo 29 (.bin .add (.t 16) (ci 1)), oo 16 (.mv (.t 29))]))))))) (.seq (.reg [oo 30 (.load 2 true (.t 2)), oe (.store 2 (.t 4) (.t 30))]) .ret))))
theorem fn_convoy_Age : FnOK Try.prog 15 31 [.cell 4 2 true] ac_convoy_Age := ⟨_, _, Try.func15, rfl, Try.ntmps15, by kernel_rfl, ⟨fun r => if r == 1 then [1004] else [], by kernel_rfl⟩, by kernel_rfl⟩
set_option maxHeartbeats 4000000 in
theorem convoy_Age_ok (p1 : Guess) (p2 : Int) (r : Guess) (h : convoy_Age p1 p2 = some r) : PCall Try.prog 15 [(.agg [(i64 p1.R), (i64 p1.V)]), (i64 p2)] (.agg [(i64 r.R), (i64 r.V)]) := by
  refine l_call fn_convoy_Age (nl rfl) ?_
  unfold convoy_Age at h
  unfold ac_convoy_Age
  refine l_sub (s0 := ⟨T [(0, (.d _)), (1, (.d _))], G []⟩) (sbr rfl rfl) ?_
  refine lr (fun u1 hu1 => sn rfl rfl (sn rfl rfl (s_nil (l_seq (lr (fun u2 hu2 => sp rfl rfl (sl rfl (gq rfl) rfl (sp rfl rfl (sl rfl (gq rfl) rfl (s_val (dl eInt_i64 [p1.R, p1.V]) rfl rfl (bs h fun v1 hv1 h => s_call rfl rfl all2_refl (convoy_sane_ok _  _ hv1) (.inl rfl) (s_val (.d (bo (!v1))) rfl rfl (s_nil (cc rfl h (fun c1 h => ?_) (fun c1 h => ?_)))))))))))))))
  · refine lr (fun u3 hu3 => sv rfl (sst rfl G_hit [(di 0), (di 0)] rfl (s_nil (l_ret ?_))))
    obtain rfl := Option.some.inj h
    exact fin_ok (.inr rfl) (resD1 (res_cellG rfl G_hit (nl rfl) rfl) rf_d) (.refl _)
  · refine l_skip (l_seq (lr (fun u4 hu4 => sv rfl (sv rfl (sv rfl (sv rfl (s_nil (bs h fun y1 hy1 h => l_join (fun s => ∃ g1 : Unit, Sb ⟨T [(2, (.ptr (2, u1) 0)), (4, (.ptr (4, u1) 0))], G [((2, u1), some (.box 23 [(di y1.R), (di y1.V)])), ((4, u1), some (.box 23 [(di 0), (di 0)]))]⟩ s) ?_ ?_))))))))
    · refine l_block (l_loop (convoy_Age_l1 p2) (fun (x1 : (Int × Guess)) (g2 : Unit) => ⟨T [(2, (.ptr (2, u1) 0)), (4, (.ptr (4, u1) 0)), (15, (di (mm2 true 0 (mm2 false p2 30)))), (16, (di x1.1))], G [((2, u1), some (.box 23 [(di x1.2.R), (di x1.2.V)])), ((4, u1), some (.box 23 [(di 0), (di 0)]))]⟩) (0, p1) () _ hy1 (sbr rfl rfl) ?_)
      intro x1 g2 z1 hz1 ez1
      unfold convoy_Age_l1 at hz1
      refine lr (fun u5 hu5 => sv rfl (s_nil (l_seq (cc rfl hz1 (fun c2 hz1 => ?_) (fun c2 hz1 => ?_)))))
      · refine l_skip (l_seq (l_block (lr (fun u6 hu6 => sp rfl rfl (sl rfl G_hit rfl (sv rfl (sv rfl (sp rfl rfl (sst rfl G_hit [(di x1.2.R), (di (mm2 true 0 (w64 (x1.2.V - 90))))] rfl (s_nil (l_reg fun u7 hu7 => sp rfl rfl (sl rfl G_hit rfl (sp rfl rfl (sl rfl G_hit rfl (sv rfl (sp rfl rfl (sst rfl G_hit [(di (w64 (x1.2.R + (mm2 true 0 (w64 (x1.2.V - 90)))))), (di (mm2 true 0 (w64 (x1.2.V - 90))))] rfl (s_nil (l_end (l_reg fun u8 hu8 => sv rfl (sv rfl (s_nil (l_nil ?_)))))))))))))))))))))))
        obtain rfl := Option.some.inj hz1
        exact ⟨rfl, (), (sbr rfl rfl)⟩
      · refine l_exitN rfl ?_
        obtain rfl := Option.some.inj hz1
        obtain rfl := ez1 _ rfl
        refine ⟨nofun, awl_pop rfl (l_j ?_)⟩
        exact ⟨(), (sbr rfl rfl)⟩
    · rintro _ ⟨g1, q1⟩
      refine l_sub q1 (lr (fun u9 hu9 => sd rfl (v_loadG rfl G_hit rfl rfl) (sst rfl (gq rfl) [(di y1.R), (di y1.V)] rfl (s_nil (l_ret ?_)))))
      obtain rfl := Option.some.inj h
      exact fin_ok (.inr rfl) (resD1 (res_cellG rfl G_hit (nl rfl) rfl) rf_d) (.refl _)

noncomputable def convoy_find_1_b (p1 : Mate) (p2 : Int) : Option Bool :=
  some (p1.ID == p2)

/-- kerbstone/convoy.find$1 -/
def ac_convoy_find_1_b : AC := (.seq (.reg [oo 2 (.box 65 true (.t 0)), oo 3 (.mv (.c zf))]) (.seq (.reg [oo 4 (.fieldA 0 (.t 2)), oo 5 (.load 1 false (.t 4)), oo 6 (.load 1 false (.t 1)), oo 7 (.bin .eql (.t 5) (.t 6)), oo 3 (.mv (.t 7))]) .ret))
theorem fn_convoy_find_1_b : FnOK Try.prog 99 8 [.t 3] ac_convoy_find_1_b := ⟨_, _, Try.func99, rfl, Try.ntmps99, by kernel_rfl, ⟨fun _ => [], by kernel_rfl⟩, by kernel_rfl⟩
theorem convoy_find_1_b_ok (p1 : Mate) (p2 : Int) (r : Bool) (h : convoy_find_1_b p1 p2 = some r) : PCall Try.prog 99 [(.agg (eMate p1)), (.bp [(i64 p2)] 0)] (bo r) := by
  refine l_call fn_convoy_find_1_b (nl rfl) ?_
  unfold convoy_find_1_b at h
  unfold ac_convoy_find_1_b
  refine l_sub (s0 := ⟨T [(0, (.d _)), (1, (.d _))], G []⟩) (sbr rfl rfl) ?_
  refine lr (fun u1 hu1 => sn rfl rfl (sv rfl (s_nil (lr (fun u2 hu2 => sp rfl rfl (sl rfl G_hit rfl (sv rfl (sv rfl (sv rfl (s_nil (l_ret ?_)))))))))))
  obtain rfl := Option.some.inj h
  exact fin_ok (.inr rfl) (resD1 (res_t rfl) rf_d) (.refl _)

noncomputable def slices_IndexFunc_Mate_Mate_convoy_find_1b_l1 (p1 : (List Mate)) (p2 : Int) (x1 : Int) : Option (Stp Int (Sum Unit Int)) :=
  cond (decide (x1 < (p1.length : Int))) ((geti p1 x1).bind fun v1 => (convoy_find_1_b v1 p2).bind fun v2 => cond v2 (some (.out (.inr x1))) (some (.go (w64 (x1 + 1))))) (some (.out (.inl ())))
noncomputable def slices_IndexFunc_Mate_Mate_convoy_find_1b (p1 : (List Mate)) (p2 : Int) : Option Int :=
  thenS (loop (slices_IndexFunc_Mate_Mate_convoy_find_1b_l1 p1 p2) 0) (fun _ => some (-1)) (fun r => some r)

/-- slices.IndexFunc[[]kerbstone/api.Mate,kerbstone/api.Mate] -/
def ac_slices_IndexFunc_Mate_Mate_convoy_find_1b : AC := (.seq (.reg [oo 4 (.mv (ci 0))]) (.seq (.seq (.reg [oo 6 (.mv (.t 0)), oo 7 (.len (.t 6)), oo 8 (.mv (ci 0))]) (.block 0 (.loop (.seq (.reg [oo 9 (.bin .lss (.t 8) (.t 7))]) (.seq (.cond (.t 9) .skip (.exit 0)) (.seq (.block 1 (.seq (.reg [oo 10 (.mv (.t 8)), oo 5 (.mv (.t 10))]) (.seq (.reg [oo 11 (.mv (.t 1)), oo 12 (.mv (.t 0)), oo 13 (.mv (.t 5)), oo 14 (.idxS 12 (.t 12) (.t 13)), oo 15 (.load 12 true (.t 14)), oo 16 (.call (.t 11) [(.t 15)])]) (.cond (.t 16) (.seq (.reg [oo 17 (.mv (.t 5)), oo 4 (.mv (.t 17))]) .ret) .skip)))) (.reg [oo 18 (.bin .add (.t 8) (ci 1)), oo 8 (.mv (.t 18))]))))))) (.seq (.reg [oo 4 (.mv (ci (-1)))]) .ret)))
theorem fn_slices_IndexFunc_Mate_Mate_convoy_find_1b : FnOK Try.prog 98 19 [.t 4] ac_slices_IndexFunc_Mate_Mate_convoy_find_1b := ⟨_, _, Try.func98, rfl, Try.ntmps98, by kernel_rfl, ⟨fun _ => [], by kernel_rfl⟩, by kernel_rfl⟩
set_option maxHeartbeats 4000000 in
theorem slices_IndexFunc_Mate_Mate_convoy_find_1b_ok (p1 : (List Mate)) (p2 : Int) (r : Int) (h : slices_IndexFunc_Mate_Mate_convoy_find_1b p1 p2 = some r) : PCall Try.prog 98 [(.list (List.map eMate p1)), (.fn (.func 99) [] [(.bp [(i64 p2)] 0)])] (i64 r) := by
  refine l_call fn_slices_IndexFunc_Mate_Mate_convoy_find_1b (nl rfl) ?_
  unfold slices_IndexFunc_Mate_Mate_convoy_find_1b at h
  unfold ac_slices_IndexFunc_Mate_Mate_convoy_find_1b
  refine l_sub (s0 := ⟨T [(0, (.d _)), (1, (.d _))], G []⟩) (sbr rfl rfl) ?_
  refine lr (fun u1 hu1 => sv rfl (s_nil (l_seq (lr (fun u2 hu2 => sv rfl (sd rfl (v_len rfl) (sv rfl (s_nil (js h fun z1 hz1 h => l_join (fun s => ∃ (y1 : Unit) (g1 : Unit), z1 = .inl y1 ∧ Sb ⟨T [], G []⟩ s) ?_ ?_)))))))))
  · refine l_block (l_loop (slices_IndexFunc_Mate_Mate_convoy_find_1b_l1 p1 p2) (fun (x1 : Int) (g2 : Unit) => ⟨T [(0, (dl eMate p1)), (1, (.d (.fn (.func 99) [] [(.bp [(i64 p2)] 0)]))), (7, (di (p1.length : Int))), (8, (di x1))], G []⟩) 0 () _ hz1 (sbr rfl rfl) ?_)
    intro x1 g2 z2 hz2 ez2
    unfold slices_IndexFunc_Mate_Mate_convoy_find_1b_l1 at hz2
    refine lr (fun u3 hu3 => sv rfl (s_nil (l_seq (cc rfl hz2 (fun c1 hz2 => ?_) (fun c1 hz2 => ?_)))))
    · refine l_skip (l_seq (l_block (lr (fun u4 hu4 => sv rfl (sv rfl (s_nil (lr (fun u5 hu5 => sv rfl (sv rfl (sv rfl (bs hz2 fun v1 hv1 hz2 => sd rfl (v_idx rfl rfl hv1 rfl) (sd rfl (v_loadLG rfl hv1 rfl rfl) (bs hz2 fun v2 hv2 hz2 => s_call rfl rfl all2_refl (convoy_find_1_b_ok _ _  _ hv2) (.inl rfl) (s_nil (cc rfl hz2 (fun c2 hz2 => ?_) (fun c2 hz2 => ?_))))))))))))))))
      · refine lr (fun u6 hu6 => sv rfl (sv rfl (s_nil (l_ret ?_))))
        obtain rfl := Option.some.inj hz2
        obtain rfl := ez2 _ rfl
        refine ⟨nofun, awl_ret ?_⟩
        rw [Sum.elim_inr] at h
        obtain rfl := Option.some.inj h
        exact fin_ok (.inr rfl) (resD1 (res_t rfl) rf_d) (.refl _)
      · refine l_skip (l_end (l_reg fun u7 hu7 => sv rfl (sv rfl (s_nil (l_nil ?_)))))
        obtain rfl := Option.some.inj hz2
        exact ⟨rfl, (), (sbr rfl rfl)⟩
    · refine l_exitN rfl ?_
      obtain rfl := Option.some.inj hz2
      obtain rfl := ez2 _ rfl
      refine ⟨nofun, awl_pop rfl (l_j ?_)⟩
      exact ⟨_, (), rfl, (sbr rfl rfl)⟩
  · rintro _ ⟨y1, g1, rfl, q1⟩
    rw [Sum.elim_inl] at h
    refine l_sub q1 (lr (fun u8 hu8 => sv rfl (s_nil (l_ret ?_))))
    obtain rfl := Option.some.inj h
    exact fin_ok (.inr rfl) (resD1 (res_t rfl) rf_d) (.refl _)

noncomputable def convoy_find (p1 : (List Mate)) (p2 : Int) : Option Int :=
  (slices_IndexFunc_Mate_Mate_convoy_find_1b p1 p2).bind fun v1 => some v1

/-- kerbstone/convoy.find -/
def ac_convoy_find : AC := (.seq (.reg [oo 3 (.box 3 false (.t 1)), oo 4 (.mv (ci 0))]) (.seq (.reg [oo 5 (.mv (.t 0)), oo 6 (.mkfn (.func 99) [] [(.t 3)]), oo 7 (.call (cf 98) [(.t 5), (.t 6)]), oo 4 (.mv (.t 7))]) .ret))
theorem fn_convoy_find : FnOK Try.prog 64 8 [.t 4] ac_convoy_find := ⟨_, _, Try.func64, rfl, Try.ntmps64, by kernel_rfl, ⟨fun _ => [], by kernel_rfl⟩, by kernel_rfl⟩
theorem convoy_find_ok (p1 : (List Mate)) (p2 : Int) (r : Int) (h : convoy_find p1 p2 = some r) : PCall Try.prog 64 [(.list (List.map eMate p1)), (i64 p2)] (i64 r) := by
  refine l_call fn_convoy_find (nl rfl) ?_
  unfold convoy_find at h
  unfold ac_convoy_find
  refine l_sub (s0 := ⟨T [(0, (.d _)), (1, (.d _))], G []⟩) (sbr rfl rfl) ?_
  refine lr (fun u1 hu1 => sn rfl rfl (sv rfl (s_nil (lr (fun u2 hu2 => sv rfl (s_val (.fn _ _ _) rfl rfl (bs h fun v1 hv1 h => s_call rfl (rfL_cons rf_d (rfL_cons (rf_fn rfL_nil (rfL_cons (rf_ptr G_hit (rfL_cons rf_d rfL_nil)) rfL_nil)) rfL_nil)) all2_refl (slices_IndexFunc_Mate_Mate_convoy_find_1b_ok _ _  _ hv1) (.inr rfl) (sv rfl (s_nil (l_ret ?_))))))))))
  obtain rfl := Option.some.inj h
  exact fin_ok (.inr rfl) (resD1 (res_t rfl) rf_d) (.refl _)

noncomputable def convoy_Below (p1 : Guess) (p2 : Int) (p3 : Int) : Option Bool :=
  (convoy_sane [p1.R, p1.V, p2, p3]).bind fun v1 => ((cond (v1 && (decide (p1.R ≤ p2))) (convoy_end p1) (some default))).bind fun v2 => ((cond (v1 && (decide (p1.R ≤ p2))) (convoy_stop p3) (some default))).bind fun v3 => some ((v1 && (decide (p1.R ≤ p2))) && (decide (v2 ≤ (w64 (p2 + v3)))))

/-- kerbstone/convoy.Below -/
def ac_convoy_Below : AC := (.seq (.reg [oo 3 (.box 23 true (.t 0)), oo 6 (.mv (.c zf))]) (.seq (.reg [oo 7 (.fieldA 0 (.t 3)), oo 8 (.load 1 false (.t 7)), oo 9 (.fieldA 1 (.t 3)), oo 10 (.load 1 false (.t 9)), oo 11 (.mv (.t 1)), oo 12 (.mv (.t 2)), oo 13 (.dslice 2 1 4 [z0] [(0, 1, (.t 8)), (1, 1, (.t 10)), (2, 1, (.t 11)), (3, 1, (.t 12))]), oo 14 (.call (cf 59) [(.t 13)]), oo 15 (.mv (.t 14)), og 16 (.fieldA 0 (.t 3)) 15, og 17 (.load 1 false (.t 16)) 15, og 18 (.mv (.t 1)) 15, og 19 (.bin .leq (.t 17) (.t 18)) 15, oo 20 (.pick (.t 15) (.t 19) (.c zf)), oo 21 (.mv (.t 20)), og 22 (.load 2 true (.t 3)) 21, og 23 (.call (cf 61) [(.t 22)]) 21, og 24 (.mv (.t 1)) 21, og 25 (.mv (.t 2)) 21, og 26 (.call (cf 62) [(.t 25)]) 21, og 27 (.bin .add (.t 24) (.t 26)) 21, og 28 (.bin .leq (.t 23) (.t 27)) 21, oo 29 (.pick (.t 21) (.t 28) (.c zf)), oo 6 (.mv (.t 29))]) .ret))
theorem fn_convoy_Below : FnOK Try.prog 17 30 [.t 6] ac_convoy_Below := ⟨_, _, Try.func17, rfl, Try.ntmps17, by kernel_rfl, ⟨fun r => if r == 1 then [1006] else [], by kernel_rfl⟩, by kernel_rfl⟩
theorem convoy_Below_ok (p1 : Guess) (p2 : Int) (p3 : Int) (r : Bool) (h : convoy_Below p1 p2 p3 = some r) : PCall Try.prog 17 [(.agg [(i64 p1.R), (i64 p1.V)]), (i64 p2), (i64 p3)] (bo r) := by
  refine l_call fn_convoy_Below (nl rfl) ?_
  unfold convoy_Below at h
  unfold ac_convoy_Below
  refine l_sub (s0 := ⟨T [(0, (.d _)), (1, (.d _)), (2, (.d _))], G []⟩) (sbr rfl rfl) ?_
  refine lr (fun u1 hu1 => sn rfl rfl (sv rfl (s_nil (lr (fun u2 hu2 => sp rfl rfl (sl rfl G_hit rfl (sp rfl rfl (sl rfl G_hit rfl (sv rfl (sv rfl (s_val (dl eInt_i64 [p1.R, p1.V, p2, p3]) rfl rfl (bs h fun v1 hv1 h => s_call rfl rfl all2_refl (convoy_sane_ok _  _ hv1) (.inl rfl) (sv rfl (gp rfl (gw_t rfl) (fun _ => rfl) (gt rfl (vl rfl G_hit rfl) (gt rfl (fun _ => rfl) (gt rfl (fun w4 => (v_bin (gd_pos w4) (gd_pos w4) rfl)) (sa rfl rfl rfl (sv rfl (gt rfl (fun w5 => (v_loadG rfl G_hit rfl rfl)) (bs h fun v2 hv2 h => ?_)))))))))))))))))))))
  refine g_call _ (i64 v2) (gw_t rfl) (fun w6 => ⟨_, [(.d (.agg [(i64 p1.R), (i64 p1.V)]))], _, _, (by simp only [gd_pos w6]; rfl), rfl, all2_refl, convoy_end_ok _  _ (cond_t w6 hv2), (.inl rfl)⟩) ?_
  refine gt rfl (fun _ => rfl) (gt rfl (fun _ => rfl) (bs h fun v3 hv3 h => ?_))
  refine g_call _ (i64 v3) (gw_t rfl) (fun w9 => ⟨_, [(di p3)], _, _, (by simp only [gd_pos w9]; rfl), rfl, all2_refl, convoy_stop_ok _  _ (cond_t w9 hv3), (.inl rfl)⟩) ?_
  refine gt rfl (fun w10 => (v_bin (gd_pos w10) (gd_pos w10) rfl)) (gt rfl (fun w11 => (v_bin (gd_pos w11) (gd_pos w11) rfl)) (sa rfl rfl rfl (sv rfl (s_nil (l_ret ?_)))))
  obtain rfl := Option.some.inj h
  exact fin_ok (.inr rfl) (resD1 (res_t rfl) rf_d) (.refl _)

noncomputable def convoy_holds (p1 : (List Mate)) (p2 : Int) (p3 : Guess) : Option Bool :=
  (convoy_find p1 p2).bind fun v1 => ((cond (decide (v1 ≥ 0)) (geti p1 v1) (some default))).bind fun v2 => ((cond (decide (v1 ≥ 0)) (convoy_rear v2) (some default))).bind fun v3 => ((cond (decide (v1 ≥ 0)) (geti p1 v1) (some default))).bind fun v4 => ((cond (decide (v1 ≥ 0)) (convoy_Below p3 v3 v4.V) (some default))).bind fun v5 => some ((decide (v1 ≥ 0)) && v5)

/-- kerbstone/convoy.holds -/
def ac_convoy_holds : AC := (.seq (.reg [oo 5 (.box 23 true (.t 2)), oo 6 (.mv (.c zf))]) (.seq (.reg [oo 8 (.mv (.t 0)), oo 9 (.mv (.t 1)), oo 10 (.call (cf 64) [(.t 8), (.t 9)]), oo 7 (.mv (.t 10))]) (.seq (.draw [oo 11 (.mv (.t 7)), oo 12 (.bin .geq (.t 11) (ci 0)), oo 13 (.mv (.t 12)), og 14 (.load 2 true (.t 5)) 13, og 15 (.mv (.t 0)) 13, og 16 (.mv (.t 7)) 13, og 17 (.idxS 12 (.t 15) (.t 16)) 13, og 18 (.load 12 true (.t 17)) 13, og 19 (.call (cf 67) [(.t 18)]) 13, og 20 (.mv (.t 0)) 13, og 21 (.mv (.t 7)) 13, og 22 (.idxS 12 (.t 20) (.t 21)) 13, og 23 (.fieldA 2 (.t 22)) 13, og 24 (.load 1 false (.t 23)) 13, og 25 (.call (cf 17) [(.t 14), (.t 19), (.t 24)]) 13, oo 26 (.pick (.t 13) (.t 25) (.c zf)), oo 6 (.mv (.t 26))] []) .ret)))
theorem fn_convoy_holds : FnOK Try.prog 79 27 [.t 6] ac_convoy_holds := ⟨_, _, Try.func79, rfl, Try.ntmps79, by kernel_rfl, ⟨fun _ => [], by kernel_rfl⟩, by kernel_rfl⟩
theorem convoy_holds_ok (p1 : (List Mate)) (p2 : Int) (p3 : Guess) (r : Bool) (h : convoy_holds p1 p2 p3 = some r) : PCall Try.prog 79 [(.list (List.map eMate p1)), (i64 p2), (.agg [(i64 p3.R), (i64 p3.V)])] (bo r) := by
  refine l_call fn_convoy_holds (nl rfl) ?_
  unfold convoy_holds at h
  unfold ac_convoy_holds
  refine l_sub (s0 := ⟨T [(0, (.d _)), (1, (.d _)), (2, (.d _))], G []⟩) (sbr rfl rfl) ?_
  refine lr (fun u1 hu1 => sn rfl rfl (sv rfl (s_nil (lr (fun u2 hu2 => sv rfl (sv rfl (bs h fun v1 hv1 h => s_call rfl rfl all2_refl (convoy_find_ok _ _  _ hv1) (.inl rfl) (sv rfl (s_nil (l_seq (l_draw rfl fun u3 hu3 => sv rfl (sv rfl (sv rfl (gt rfl (fun w1 => (v_loadG rfl G_hit rfl rfl)) (gt rfl (fun _ => rfl) (gt rfl (fun _ => rfl) (bs h fun v2 hv2 h => gt rfl (fun w4 => (v_idx (gd_pos w4) (gd_pos w4) (cond_t w4 hv2) rfl)) (gt rfl (fun w5 => (v_loadLG (gd_pos w5) (cond_t w5 hv2) rfl rfl)) (bs h fun v3 hv3 h => ?_)))))))))))))))))))
  refine g_call _ (i64 v3) (gw_t rfl) (fun w6 => ⟨_, [(.d (.agg (eMate v2)))], _, _, (by simp only [gd_pos w6]; rfl), rfl, all2_refl, convoy_rear_ok _  _ (cond_t w6 hv3), (.inl rfl)⟩) ?_
  refine gt rfl (fun _ => rfl) (gt rfl (fun _ => rfl) (bs h fun v4 hv4 h => gt rfl (fun w9 => (v_idx (gd_pos w9) (gd_pos w9) (cond_t w9 hv4) rfl)) ?_))
  refine gt rfl (fun w10 => (by simp only [gd_pos w10]; rfl)) ?_
  refine gt rfl (fun w11 => (v_loadL (gd_pos w11) (cond_t w11 hv4) rfl)) (bs h fun v5 hv5 h => ?_)
  refine g_call _ (bo v5) (gw_t rfl) (fun w12 => ⟨_, [(.d (.agg [(i64 p3.R), (i64 p3.V)])), (di v3), (di v4.V)], _, _, (by simp only [gd_pos w12]; rfl), rfl, all2_refl, convoy_Below_ok _ _ _  _ (cond_t w12 hv5), (.inl rfl)⟩) ?_
  refine sa rfl rfl rfl (sv rfl (s_nil (l_ret ?_)))
  obtain rfl := Option.some.inj h
  exact fin_ok (.inr rfl) (resD1 (res_t rfl) rf_d) (.refl _)

noncomputable def convoy_Sound_l1 (p1 : Convoy) (x1 : Int) : Option (Stp Int (Sum Unit Bool)) :=
  cond (decide (x1 < (p1.Mates.length : Int))) ((geti p1.Mates x1).bind fun v2 => ((cond (v2.Ahead != 0) (subl p1.Mates 0 x1) (some default))).bind fun v3 => ((cond (v2.Ahead != 0) (convoy_holds v3 v2.Ahead v2.Guess_) (some default))).bind fun v4 => cond ((v2.Ahead != 0) && (!v4)) (some (.out (.inr false))) (((cond (v2.Until != 0) (subl p1.Mates 0 x1) (some default))).bind fun v5 => ((cond (v2.Until != 0) (convoy_find v5 v2.Ward) (some default))).bind fun v6 => ((cond ((v2.Until != 0) && (decide (v6 ≥ 0))) (subl p1.Mates 0 x1) (some default))).bind fun v7 => ((cond ((v2.Until != 0) && (decide (v6 ≥ 0))) (convoy_holds v7 v2.Ward v2.WardGuess) (some default))).bind fun v8 => cond (((v2.Until != 0) && (decide (v6 ≥ 0))) && (!v8)) (some (.out (.inr false))) (((cond ((v2.Until != 0) && (v2.Ward == p1.Guest_.ID)) (convoy_Below v2.WardGuess (w64 (p1.Guest_.S - p1.Guest_.Len)) p1.Guest_.V) (some default))).bind fun v9 => cond (((v2.Until != 0) && (v2.Ward == p1.Guest_.ID)) && (!v9)) (some (.out (.inr false))) (((cond (decide (x1 > 0)) (geti p1.Mates (w64 (x1 - 1))) (some default))).bind fun v10 => ((cond (((decide (x1 > 0)) && (v10.ID != v2.Ahead)) && (!(v2.Until == 0))) (geti p1.Mates (w64 (x1 - 1))) (some default))).bind fun v11 => cond (((decide (x1 > 0)) && (v10.ID != v2.Ahead)) && ((v2.Until == 0) || (v11.ID != v2.Ward))) (some (.out (.inr false))) (some (.go (w64 (x1 + 1)))))))) (some (.out (.inl ())))
noncomputable def convoy_Sound (p1 : Convoy) : Option Bool :=
  (convoy_Check p1).bind fun v1 => cond (v1 != 0) (some false) (thenS (loop (convoy_Sound_l1 p1) 0) (fun _ => ((cond (!(p1.Guest_.Ahead == 0)) (convoy_holds p1.Mates p1.Guest_.Ahead p1.Guest_.Guess_) (some default))).bind fun v12 => some ((p1.Guest_.Ahead == 0) || v12)) (fun r => some r))

/-- kerbstone/convoy.Sound -/
def ac_convoy_Sound : AC := (.seq (.reg [oo 1 (.box 38 true (.t 0)), oo 2 (.mv (.c zf))]) (.seq (.seq (.reg [oo 5 (.load 13 true (.t 1)), oo 6 (.call (cf 32) [(.t 5)]), oo 7 (.bin .neq (.t 6) (ci 0))]) (.cond (.t 7) (.seq (.reg [oo 2 (.mv (.c zf))]) .ret) .skip)) (.seq (.seq (.reg [oo 8 (.fieldA 2 (.t 1)), oo 9 (.load 1 false (.t 8)), oo 10 (.len (.t 9)), oo 11 (.mv (ci 0))]) (.block 0 (.loop (.seq (.reg [oo 12 (.bin .lss (.t 11) (.t 10))]) (.seq (.cond (.t 12) .skip (.exit 0)) (.seq (.block 1 (.seq (.reg [oo 13 (.mv (.t 11)), oo 14 (.idxS 12 (.t 9) (.t 11)), oo 15 (.load 12 true (.t 14)), oo 4 (.alloc 65 [z0, z0, z0, z0, z0, z0, z0, zf, z0, z0, z0, z0]), oo 3 (.mv (.t 13)), oe (.store 12 (.t 4) (.t 15))]) (.seq (.seq (.draw [oo 16 (.fieldA 4 (.t 4)), oo 17 (.load 1 false (.t 16)), oo 18 (.bin .neq (.t 17) (ci 0)), oo 19 (.mv (.t 18)), og 20 (.fieldA 2 (.t 1)) 19, og 21 (.load 1 false (.t 20)) 19, og 22 (.mv (.t 3)) 19, og 23 (.slice 12 (.t 21) none (some (.t 22)) none) 19, og 24 (.fieldA 4 (.t 4)) 19, og 25 (.load 1 false (.t 24)) 19, og 26 (.fieldA 5 (.t 4)) 19, og 27 (.load 2 true (.t 26)) 19, og 28 (.call (cf 79) [(.t 23), (.t 25), (.t 27)]) 19, og 29 (.un .not (.t 28)) 19, oo 30 (.pick (.t 19) (.t 29) (.c zf))] []) (.cond (.t 30) (.seq (.reg [oo 2 (.mv (.c zf))]) .ret) .skip)) (.seq (.seq (.draw [oo 31 (.fieldA 11 (.t 4)), oo 32 (.load 1 false (.t 31)), oo 33 (.bin .neq (.t 32) (ci 0)), oo 34 (.mv (.t 33)), og 35 (.fieldA 2 (.t 1)) 34, og 36 (.load 1 false (.t 35)) 34, og 37 (.mv (.t 3)) 34, og 38 (.slice 12 (.t 36) none (some (.t 37)) none) 34, og 39 (.fieldA 8 (.t 4)) 34, og 40 (.load 1 false (.t 39)) 34, og 41 (.call (cf 64) [(.t 38), (.t 40)]) 34, og 42 (.bin .geq (.t 41) (ci 0)) 34, oo 43 (.pick (.t 34) (.t 42) (.c zf)), oo 44 (.mv (.t 43)), og 45 (.fieldA 2 (.t 1)) 44, og 46 (.load 1 false (.t 45)) 44, og 47 (.mv (.t 3)) 44, og 48 (.slice 12 (.t 46) none (some (.t 47)) none) 44, og 49 (.fieldA 8 (.t 4)) 44, og 50 (.load 1 false (.t 49)) 44, og 51 (.fieldA 9 (.t 4)) 44, og 52 (.load 2 true (.t 51)) 44, og 53 (.call (cf 79) [(.t 48), (.t 50), (.t 52)]) 44, og 54 (.un .not (.t 53)) 44, oo 55 (.pick (.t 44) (.t 54) (.c zf))] []) (.cond (.t 55) (.seq (.reg [oo 2 (.mv (.c zf))]) .ret) .skip)) (.seq (.seq (.reg [oo 56 (.fieldA 11 (.t 4)), oo 57 (.load 1 false (.t 56)), oo 58 (.bin .neq (.t 57) (ci 0)), oo 59 (.mv (.t 58)), og 60 (.fieldA 8 (.t 4)) 59, og 61 (.load 1 false (.t 60)) 59, og 62 (.fieldA 3 (.t 1)) 59, og 63 (.fieldA 0 (.t 62)) 59, og 64 (.load 1 false (.t 63)) 59, og 65 (.bin .eql (.t 61) (.t 64)) 59, oo 66 (.pick (.t 59) (.t 65) (.c zf)), oo 67 (.mv (.t 66)), og 68 (.fieldA 9 (.t 4)) 67, og 69 (.load 2 true (.t 68)) 67, og 70 (.fieldA 3 (.t 1)) 67, og 71 (.fieldA 1 (.t 70)) 67, og 72 (.load 1 false (.t 71)) 67, og 73 (.fieldA 3 (.t 1)) 67, og 74 (.fieldA 3 (.t 73)) 67, og 75 (.load 1 false (.t 74)) 67, og 76 (.bin .sub (.t 72) (.t 75)) 67, og 77 (.fieldA 3 (.t 1)) 67, og 78 (.fieldA 2 (.t 77)) 67, og 79 (.load 1 false (.t 78)) 67, og 80 (.call (cf 17) [(.t 69), (.t 76), (.t 79)]) 67, og 81 (.un .not (.t 80)) 67, oo 82 (.pick (.t 67) (.t 81) (.c zf))]) (.cond (.t 82) (.seq (.reg [oo 2 (.mv (.c zf))]) .ret) .skip)) (.seq (.draw [oo 83 (.mv (.t 3)), oo 84 (.bin .gtr (.t 83) (ci 0)), oo 85 (.mv (.t 84)), og 86 (.fieldA 2 (.t 1)) 85, og 87 (.load 1 false (.t 86)) 85, og 88 (.mv (.t 3)) 85, og 89 (.bin .sub (.t 88) (ci 1)) 85, og 90 (.idxS 12 (.t 87) (.t 89)) 85, og 91 (.fieldA 0 (.t 90)) 85, og 92 (.load 1 false (.t 91)) 85, og 93 (.fieldA 4 (.t 4)) 85, og 94 (.load 1 false (.t 93)) 85, og 95 (.bin .neq (.t 92) (.t 94)) 85, oo 96 (.pick (.t 85) (.t 95) (.c zf)), oo 97 (.mv (.t 96)), og 98 (.fieldA 11 (.t 4)) 97, og 99 (.load 1 false (.t 98)) 97, og 100 (.bin .eql (.t 99) (ci 0)) 97, og 101 (.mv (.t 100)) 97, oh 102 (.fieldA 2 (.t 1)) 101, oh 103 (.load 1 false (.t 102)) 101, oh 104 (.mv (.t 3)) 101, oh 105 (.bin .sub (.t 104) (ci 1)) 101, oh 106 (.idxS 12 (.t 103) (.t 105)) 101, oh 107 (.fieldA 0 (.t 106)) 101, oh 108 (.load 1 false (.t 107)) 101, oh 109 (.fieldA 8 (.t 4)) 101, oh 110 (.load 1 false (.t 109)) 101, oh 111 (.bin .neq (.t 108) (.t 110)) 101, og 112 (.pick (.t 101) (.c (.v (.bool true))) (.t 111)) 97, oo 113 (.pick (.t 97) (.t 112) (.c zf))] []) (.cond (.t 113) (.seq (.reg [oo 2 (.mv (.c zf))]) .ret) .skip))))))) (.reg [oo 114 (.bin .add (.t 11) (ci 1)), oo 11 (.mv (.t 114))]))))))) (.seq (.reg [oo 115 (.fieldA 3 (.t 1)), oo 116 (.fieldA 5 (.t 115)), oo 117 (.load 1 false (.t 116)), oo 118 (.bin .eql (.t 117) (ci 0)), oo 119 (.mv (.t 118)), oh 120 (.fieldA 2 (.t 1)) 119, oh 121 (.load 1 false (.t 120)) 119, oh 122 (.fieldA 3 (.t 1)) 119, oh 123 (.fieldA 5 (.t 122)) 119, oh 124 (.load 1 false (.t 123)) 119, oh 125 (.fieldA 3 (.t 1)) 119, oh 126 (.fieldA 6 (.t 125)) 119, oh 127 (.load 2 true (.t 126)) 119, oh 128 (.call (cf 79) [(.t 121), (.t 124), (.t 127)]) 119, oo 129 (.pick (.t 119) (.c (.v (.bool true))) (.t 128)), oo 2 (.mv (.t 129))]) .ret))))
theorem fn_convoy_Sound : FnOK Try.prog 34 130 [.t 2] ac_convoy_Sound := ⟨_, _, Try.func34, rfl, Try.ntmps34, by kernel_rfl, ⟨fun _ => [], by kernel_rfl⟩, by kernel_rfl⟩
set_option maxHeartbeats 4000000 in
theorem convoy_Sound_ok (p1 : Convoy) (r : Bool) (h : convoy_Sound p1 = some r) : PCall Try.prog 34 [(.agg (eConvoy p1))] (bo r) := by
  refine l_call fn_convoy_Sound (nl rfl) ?_
  unfold convoy_Sound at h
  unfold ac_convoy_Sound
  refine l_sub (s0 := ⟨T [(0, (.d _))], G []⟩) (sbr rfl rfl) ?_
  refine lr (fun u1 hu1 => sn rfl rfl (sv rfl (s_nil (l_seq (lr (fun u2 hu2 => sd rfl (v_loadG rfl G_hit rfl rfl) (bs h fun v1 hv1 h => s_call rfl rfl all2_refl (convoy_Check_ok _  _ hv1) (.inl rfl) (sv rfl (s_nil (cc rfl h (fun c1 h => ?_) (fun c1 h => ?_)))))))))))
  · refine lr (fun u3 hu3 => sv rfl (s_nil (l_ret ?_)))
    obtain rfl := Option.some.inj h
    exact fin_ok (.inr rfl) (resD1 (res_t rfl) rf_d) (.refl _)
  · refine l_skip (l_seq (lr (fun u4 hu4 => sp rfl rfl (sl rfl G_hit rfl (sd rfl (v_len rfl) (sv rfl (s_nil (js h fun z1 hz1 h => l_join (fun s => ∃ (y1 : Unit) (g1 : Unit), z1 = .inl y1 ∧ Sb ⟨T [(1, (.ptr (1, u1) 0))], G [((1, u1), some (.box 38 (dConvoy p1)))]⟩ s) ?_ ?_))))))))
    · refine l_block (l_loop (convoy_Sound_l1 p1) (fun (x1 : Int) (g2 : Unit) => ⟨T [(1, (.ptr (1, u1) 0)), (9, (dl eMate p1.Mates)), (10, (di (p1.Mates.length : Int))), (11, (di x1))], G [((1, u1), some (.box 38 (dConvoy p1)))]⟩) 0 () _ hz1 (sbr rfl rfl) ?_)
      intro x1 g2 z2 hz2 ez2
      unfold convoy_Sound_l1 at hz2
      refine lr (fun u5 hu5 => sv rfl (s_nil (l_seq (cc rfl hz2 (fun c2 hz2 => ?_) (fun c2 hz2 => ?_)))))
      · refine l_skip (l_seq (l_block (lr (fun u6 hu6 => sv rfl (bs hz2 fun v2 hv2 hz2 => sd rfl (v_idx rfl rfl hv2 rfl) (sd rfl (v_loadLG rfl hv2 rfl rfl) (sn rfl rfl (sv rfl (sst rfl G_hit (dMate v2) rfl (s_nil (l_seq (l_seq (l_draw rfl fun u7 hu7 => sp rfl rfl (sl rfl G_hit rfl (sv rfl (sv rfl (gp rfl (gw_t rfl) (fun _ => rfl) (gt rfl (vl rfl (gq rfl) rfl) (gt rfl (fun _ => rfl) (bs hz2 fun v3 hv3 hz2 => gt rfl (fun w4 => (v_sub (gd_pos w4) (fun _ => rfl) bd_beg (bd_x (gd_pos w4)) (cond_t w4 hv3))) (gp rfl (gw_t rfl) (fun _ => rfl) (gt rfl (vl rfl G_hit rfl) (gp rfl (gw_t rfl) (fun _ => rfl) (gt rfl (fun w8 => (v_loadG (gd_pos w8) G_hit rfl rfl)) (bs hz2 fun v4 hv4 hz2 => ?_)))))))))))))))))))))))))
        refine g_call _ (bo v4) (gw_t rfl) (fun w9 => ⟨_, [(dl eMate v3), (di v2.Ahead), (.d (.agg [(i64 v2.Guess_.R), (i64 v2.Guess_.V)]))], _, _, (by simp only [gd_pos w9]; rfl), rfl, all2_refl, convoy_holds_ok _ _ _  _ (cond_t w9 hv4), (.inl rfl)⟩) ?_
        refine g_val _ (.d (bo (!v4))) rfl (gw_t rfl) (fun w10 => (by simp only [gd_pos w10]; rfl)) ?_
        refine sa rfl rfl rfl (s_nil (cc rfl hz2 (fun c3 hz2 => ?_) (fun c3 hz2 => ?_)))
        · refine l_seq (l_sub (s0 := ⟨T [], G []⟩) (sbr rfl rfl) ?_)
          refine l_reg fun u8 hu8 => sv rfl (s_nil (l_ret ?_))
          obtain rfl := Option.some.inj hz2
          obtain rfl := ez2 _ rfl
          refine ⟨nofun, awl_ret ?_⟩
          rw [Sum.elim_inr] at h
          obtain rfl := Option.some.inj h
          exact fin_ok (.inr rfl) (resD1 (res_t rfl) rf_d) (.refl _)
        · refine l_skip (l_seq (l_seq (l_sub (s0 := ⟨T [(1, (.ptr _ _)), (3, (.d _)), (4, (.ptr _ _)), (9, (.d _)), (10, (.d _)), (11, (.d _))], G [((1, u1), some (.box 38 _)), ((4, u6), some (.box 65 _))]⟩) (sbr rfl rfl) ?_)))
          refine l_draw rfl fun u9 hu9 => sp rfl rfl (sl rfl (gq rfl) rfl (sv rfl (sv rfl (gp rfl (gw_t rfl) (fun _ => rfl) (gt rfl (vl rfl G_hit rfl) (gt rfl (fun _ => rfl) (bs hz2 fun v5 hv5 hz2 => gt rfl (fun w14 => (v_sub (gd_pos w14) (fun _ => rfl) bd_beg (bd_x (gd_pos w14)) (cond_t w14 hv5))) (gp rfl (gw_t rfl) (fun _ => rfl) (gt rfl (vl rfl (gq rfl) rfl) (bs hz2 fun v6 hv6 hz2 => ?_))))))))))
          refine g_call _ (i64 v6) (gw_t rfl) (fun w17 => ⟨_, [(dl eMate v5), (di v2.Ward)], _, _, (by simp only [gd_pos w17]; rfl), rfl, all2_refl, convoy_find_ok _ _  _ (cond_t w17 hv6), (.inl rfl)⟩) ?_
          refine gt rfl (vb rfl rfl rfl) (sa rfl rfl rfl (sv rfl (gp rfl (gw_t rfl) (fun _ => rfl) (gt rfl (vl rfl G_hit rfl) (gt rfl (fun _ => rfl) (bs hz2 fun v7 hv7 hz2 => gt rfl (fun w22 => (v_sub (gd_pos w22) (fun _ => rfl) bd_beg (bd_x (gd_pos w22)) (cond_t w22 hv7))) (gp rfl (gw_t rfl) (fun _ => rfl) (gt rfl (vl rfl (gq rfl) rfl) (gp rfl (gw_t rfl) (fun _ => rfl) (gt rfl (fun w26 => (v_loadG (gd_pos w26) (gq rfl) rfl rfl)) (bs hz2 fun v8 hv8 hz2 => ?_)))))))))))
          refine g_call _ (bo v8) (gw_t rfl) (fun w27 => ⟨_, [(dl eMate v7), (di v2.Ward), (.d (.agg [(i64 v2.WardGuess.R), (i64 v2.WardGuess.V)]))], _, _, (by simp only [gd_pos w27]; rfl), rfl, all2_refl, convoy_holds_ok _ _ _  _ (cond_t w27 hv8), (.inl rfl)⟩) ?_
          refine g_val _ (.d (bo (!v8))) rfl (gw_t rfl) (fun w28 => (by simp only [gd_pos w28]; rfl)) ?_
          refine sa rfl rfl rfl (s_nil (cc rfl hz2 (fun c4 hz2 => ?_) (fun c4 hz2 => ?_)))
          · refine l_seq (l_sub (s0 := ⟨T [], G []⟩) (sbr rfl rfl) ?_)
            refine l_reg fun u10 hu10 => sv rfl (s_nil (l_ret ?_))
            obtain rfl := Option.some.inj hz2
            obtain rfl := ez2 _ rfl
            refine ⟨nofun, awl_ret ?_⟩
            rw [Sum.elim_inr] at h
            obtain rfl := Option.some.inj h
            exact fin_ok (.inr rfl) (resD1 (res_t rfl) rf_d) (.refl _)
          · refine l_skip (l_seq (l_seq (l_sub (s0 := ⟨T [(1, (.ptr _ _)), (3, (.d _)), (4, (.ptr _ _)), (9, (.d _)), (10, (.d _)), (11, (.d _))], G [((1, u1), some (.box 38 _)), ((4, u6), some (.box 65 _))]⟩) (sbr rfl rfl) ?_)))
            refine l_reg fun u11 hu11 => sp rfl rfl (sl rfl (gq rfl) rfl (sv rfl (sv rfl (gp rfl (gw_t rfl) (fun _ => rfl) (gt rfl (vl rfl (gq rfl) rfl) (gp rfl (gw_t rfl) (fun _ => rfl) ?_))))))
            refine g_val _ (.ptr _ _) rfl (gw_t rfl) (fun w32 => (by simp only [gd_pos w32]; rfl)) ?_
            refine gt rfl (vl rfl G_hit rfl) (gt rfl (fun w34 => (v_bin (gd_pos w34) (gd_pos w34) rfl)) (sa rfl rfl rfl (sv rfl (gp rfl (gw_t rfl) (fun _ => rfl) (gt rfl (fun w36 => (v_loadG (gd_pos w36) (gq rfl) rfl rfl)) (gp rfl (gw_t rfl) (fun _ => rfl) ?_))))))
            refine g_val _ (.ptr _ _) rfl (gw_t rfl) (fun w38 => (by simp only [gd_pos w38]; rfl)) ?_
            refine gt rfl (vl rfl G_hit rfl) (gp rfl (gw_t rfl) (fun _ => rfl) ?_)
            refine g_val _ (.ptr _ _) rfl (gw_t rfl) (fun w41 => (by simp only [gd_pos w41]; rfl)) ?_
            refine gt rfl (vl rfl G_hit rfl) (gt rfl (fun w43 => (v_bin (gd_pos w43) (gd_pos w43) rfl)) (gp rfl (gw_t rfl) (fun _ => rfl) ?_))
            refine g_val _ (.ptr _ _) rfl (gw_t rfl) (fun w45 => (by simp only [gd_pos w45]; rfl)) ?_
            refine gt rfl (vl rfl G_hit rfl) (bs hz2 fun v9 hv9 hz2 => ?_)
            refine g_call _ (bo v9) (gw_t rfl) (fun w47 => ⟨_, [(.d (.agg [(i64 v2.WardGuess.R), (i64 v2.WardGuess.V)])), (di (w64 (p1.Guest_.S - p1.Guest_.Len))), (di p1.Guest_.V)], _, _, (by simp only [gd_pos w47]; rfl), rfl, all2_refl, convoy_Below_ok _ _ _  _ (cond_t w47 hv9), (.inl rfl)⟩) ?_
            refine g_val _ (.d (bo (!v9))) rfl (gw_t rfl) (fun w48 => (by simp only [gd_pos w48]; rfl)) ?_
            refine sa rfl rfl rfl (s_nil (cc rfl hz2 (fun c5 hz2 => ?_) (fun c5 hz2 => ?_)))
            · refine l_seq (l_sub (s0 := ⟨T [], G []⟩) (sbr rfl rfl) ?_)
              refine l_reg fun u12 hu12 => sv rfl (s_nil (l_ret ?_))
              obtain rfl := Option.some.inj hz2
              obtain rfl := ez2 _ rfl
              refine ⟨nofun, awl_ret ?_⟩
              rw [Sum.elim_inr] at h
              obtain rfl := Option.some.inj h
              exact fin_ok (.inr rfl) (resD1 (res_t rfl) rf_d) (.refl _)
            · refine l_skip (l_seq (l_sub (s0 := ⟨T [(1, (.ptr _ _)), (3, (.d _)), (4, (.ptr _ _)), (9, (.d _)), (10, (.d _)), (11, (.d _))], G [((1, u1), some (.box 38 _)), ((4, u6), some (.box 65 _))]⟩) (sbr rfl rfl) ?_))
              refine l_draw rfl fun u13 hu13 => sv rfl (sv rfl (sv rfl (gp rfl (gw_t rfl) (fun _ => rfl) (gt rfl (vl rfl G_hit rfl) (gt rfl (fun _ => rfl) (gt rfl (vb rfl rfl rfl) (bs hz2 fun v10 hv10 hz2 => gt rfl (fun w53 => (v_idx (gd_pos w53) (gd_pos w53) (cond_t w53 hv10) rfl)) ?_)))))))
              refine gt rfl (fun w54 => (by simp only [gd_pos w54]; rfl)) ?_
              refine gt rfl (fun w55 => (v_loadL (gd_pos w55) (cond_t w55 hv10) rfl)) (gp rfl (gw_t rfl) (fun _ => rfl) (gt rfl (vl rfl (gq rfl) rfl) (gt rfl (fun w58 => (v_bin (gd_pos w58) (gd_pos w58) rfl)) (sa rfl rfl rfl (sv rfl (gp rfl (gw_t rfl) (fun _ => rfl) (gt rfl (vl rfl (gq rfl) rfl) (gt rfl (vb rfl rfl rfl) (gt rfl (fun w62 => (v_mv (gd_pos w62))) (g_val _ (.ptr _ _) rfl (gw_gf rfl) (fun _ => rfl) (gv rfl (gw_gf rfl) (vl rfl G_hit rfl) (gv rfl (gw_gf rfl) (fun _ => rfl) (gv rfl (gw_gf rfl) (vb rfl rfl rfl) (bs hz2 fun v11 hv11 hz2 => gv rfl (gw_gf rfl) (fun w67 => (v_idx (gd_pos w67) (gd_pos w67) (cond_t w67 hv11) rfl)) ?_))))))))))))))
              refine gv rfl (gw_gf rfl) (fun w68 => (by simp only [gd_pos w68]; rfl)) ?_
              refine gv rfl (gw_gf rfl) (fun w69 => (v_loadL (gd_pos w69) (cond_t w69 hv11) rfl)) (g_val _ (.ptr _ _) rfl (gw_gf rfl) (fun _ => rfl) (gv rfl (gw_gf rfl) (vl rfl (gq rfl) rfl) (gv rfl (gw_gf rfl) (fun w72 => (v_bin (gd_pos w72) (gd_pos w72) rfl)) (gt rfl (fun w73 => (v_or (gd_pos w73) rfl (fun hc => gd_pos (and_i w73 (not_t hc))))) (sa rfl rfl rfl (s_nil (cc rfl hz2 (fun c6 hz2 => ?_) (fun c6 hz2 => ?_))))))))
              · refine l_seq (l_sub (s0 := ⟨T [], G []⟩) (sbr rfl rfl) ?_)
                refine l_reg fun u14 hu14 => sv rfl (s_nil (l_ret ?_))
                obtain rfl := Option.some.inj hz2
                obtain rfl := ez2 _ rfl
                refine ⟨nofun, awl_ret ?_⟩
                rw [Sum.elim_inr] at h
                obtain rfl := Option.some.inj h
                exact fin_ok (.inr rfl) (resD1 (res_t rfl) rf_d) (.refl _)
              · refine l_skip (l_end (l_sub (s0 := ⟨T [(1, (.ptr _ _)), (9, (.d _)), (10, (.d _)), (11, (.d _))], G [((1, u1), some (.box 38 _))]⟩) (sbr rfl rfl) ?_))
                refine l_reg fun u15 hu15 => sv rfl (sv rfl (s_nil (l_nil ?_)))
                obtain rfl := Option.some.inj hz2
                exact ⟨rfl, (), (sbr rfl rfl)⟩
      · refine l_exitN rfl ?_
        obtain rfl := Option.some.inj hz2
        obtain rfl := ez2 _ rfl
        refine ⟨nofun, awl_pop rfl (l_j ?_)⟩
        exact ⟨_, (), rfl, (sbr rfl rfl)⟩
    · rintro _ ⟨y1, g1, rfl, q1⟩
      rw [Sum.elim_inl] at h
      refine l_sub q1 (lr (fun u16 hu16 => sp rfl rfl (sp rfl rfl (sl rfl G_hit rfl (sv rfl (sv rfl (gp rfl (gw_f rfl) (fun _ => rfl) (gf rfl (vl rfl G_hit rfl) (gp rfl (gw_f rfl) (fun _ => rfl) ?_)))))))))
      refine g_val _ (.ptr _ _) rfl (gw_f rfl) (fun w77 => (by simp only [gd_pos w77]; rfl)) ?_
      refine gf rfl (vl rfl G_hit rfl) (gp rfl (gw_f rfl) (fun _ => rfl) ?_)
      refine g_val _ (.ptr _ _) rfl (gw_f rfl) (fun w80 => (by simp only [gd_pos w80]; rfl)) ?_
      refine gf rfl (fun w81 => (v_loadG (gd_pos w81) G_hit rfl rfl)) (bs h fun v12 hv12 h => ?_)
      refine g_call _ (bo v12) (gw_f rfl) (fun w82 => ⟨_, [(dl eMate p1.Mates), (di p1.Guest_.Ahead), (.d (.agg [(i64 p1.Guest_.Guess_.R), (i64 p1.Guest_.Guess_.V)]))], _, _, (by simp only [gd_pos w82]; rfl), rfl, all2_refl, convoy_holds_ok _ _ _  _ (cond_t w82 hv12), (.inl rfl)⟩) ?_
      refine sd rfl (v_or rfl rfl (fun hc => gd_pos (not_t hc))) (sv rfl (s_nil (l_ret ?_)))
      obtain rfl := Option.some.inj h
      exact fin_ok (.inr rfl) (resD1 (res_t rfl) rf_d) (.refl _)

noncomputable def convoy_Gaps_l1 (p1 : Convoy) (x1 : ((List Int) × Int)) : Option (Stp ((List Int) × Int) (List Int)) :=
  cond (decide (x1.2 < (p1.Mates.length : Int))) ((geti p1.Mates (w64 (x1.2 - 1))).bind fun v2 => (convoy_rear v2).bind fun v3 => (geti p1.Mates x1.2).bind fun v4 => (appc x1.1 [(w64 (v3 - v4.S))]).bind fun v5 => some (.go (v5, (w64 (x1.2 + 1))))) (some (.out x1.1))
noncomputable def convoy_Gaps (p1 : Convoy) : Option (List Int) :=
  (convoy_Check p1).bind fun v1 => cond (v1 != 0) (some []) ((loop (convoy_Gaps_l1 p1) ([], 1)).bind fun y1 => some y1)

/-- kerbstone/convoy.Gaps -/
def ac_convoy_Gaps : AC := (.seq (.reg [oo 1 (.box 38 true (.t 0)), oo 2 (.mv (.c .nilS))]) (.seq (.seq (.reg [oo 5 (.load 13 true (.t 1)), oo 6 (.call (cf 32) [(.t 5)]), oo 7 (.bin .neq (.t 6) (ci 0))]) (.cond (.t 7) (.seq (.reg [oo 2 (.mv (.c .nilS))]) .ret) .skip)) (.seq (.reg [oo 3 (.mv (.c .nilS))]) (.seq (.seq (.reg [oo 4 (.mv (ci 1))]) (.block 0 (.loop (.seq (.seq (.reg [oo 8 (.mv (.t 4)), oo 9 (.fieldA 2 (.t 1)), oo 10 (.load 1 false (.t 9)), oo 11 (.len (.t 10)), oo 12 (.bin .lss (.t 8) (.t 11))]) (.cond (.t 12) .skip (.exit 0))) (.seq (.block 1 (.draw [oo 15 (.mv (.t 3)), oo 16 (.fieldA 2 (.t 1)), oo 17 (.load 1 false (.t 16)), oo 18 (.mv (.t 4)), oo 19 (.bin .sub (.t 18) (ci 1)), oo 20 (.idxS 12 (.t 17) (.t 19)), oo 21 (.load 12 true (.t 20)), oo 22 (.call (cf 67) [(.t 21)]), oo 23 (.fieldA 2 (.t 1)), oo 24 (.load 1 false (.t 23)), oo 25 (.mv (.t 4)), oo 26 (.idxS 12 (.t 24) (.t 25)), oo 27 (.fieldA 1 (.t 26)), oo 28 (.load 1 false (.t 27)), oo 29 (.bin .sub (.t 22) (.t 28)), oo 30 (.dslice 2 1 1 [z0] [(0, 1, (.t 29))]), oo 31 (.append 39 2 1 (.t 15) (.t 30)), oo 3 (.mv (.t 31))] [])) (.reg [oo 13 (.mv (.t 4)), oo 14 (.bin .add (.t 13) (ci 1)), oo 4 (.mv (.t 14))])))))) (.seq (.reg [oo 32 (.mv (.t 3)), oo 2 (.mv (.t 32))]) .ret)))))
theorem fn_convoy_Gaps : FnOK Try.prog 37 33 [.t 2] ac_convoy_Gaps := ⟨_, _, Try.func37, rfl, Try.ntmps37, by kernel_rfl, ⟨fun r => if r == 7 then [1015] else [], by kernel_rfl⟩, by kernel_rfl⟩
set_option maxHeartbeats 4000000 in
theorem convoy_Gaps_ok (p1 : Convoy) (r : (List Int)) (h : convoy_Gaps p1 = some r) : PCall Try.prog 37 [(.agg (eConvoy p1))] (.list (List.map eInt_i64 r)) := by
  refine l_call fn_convoy_Gaps (nl rfl) ?_
  unfold convoy_Gaps at h
  unfold ac_convoy_Gaps
  refine l_sub (s0 := ⟨T [(0, (.d _))], G []⟩) (sbr rfl rfl) ?_
  refine lr (fun u1 hu1 => sn rfl rfl (sv rfl (s_nil (l_seq (lr (fun u2 hu2 => sd rfl (v_loadG rfl G_hit rfl rfl) (bs h fun v1 hv1 h => s_call rfl rfl all2_refl (convoy_Check_ok _  _ hv1) (.inl rfl) (sv rfl (s_nil (cc rfl h (fun c1 h => ?_) (fun c1 h => ?_)))))))))))
  · refine lr (fun u3 hu3 => sv rfl (s_nil (l_ret ?_)))
    obtain rfl := Option.some.inj h
    exact fin_ok (.inr rfl) (resD1 (res_t rfl) rf_d) DLe.nil
  · refine l_skip (lr (fun u4 hu4 => sv rfl (s_nil (l_seq (lr (fun u5 hu5 => sv rfl (s_nil (bs h fun y1 hy1 h => l_join (fun s => ∃ g1 : Nat, Sb ⟨T [(3, (oS y1 (31, g1)))], G [((31, g1), oB 2 1 eInt_i64 y1)]⟩ s) ?_ ?_))))))))
    · refine l_block (l_loop (convoy_Gaps_l1 p1) (fun (x1 : ((List Int) × Int)) (g2 : Nat) => ⟨T [(1, (.ptr (1, u1) 0)), (3, (oS x1.1 (31, g2))), (4, (di x1.2))], G [((1, u1), some (.box 38 (dConvoy p1))), ((31, g2), oB 2 1 eInt_i64 x1.1)]⟩) ([], 1) 0 _ hy1 (sb_of ⟨.of rfl, .of rfl, .of rfl, trivial⟩ (sbG_some G_hit (.of rfl) (sbG_nil trivial))) ?_)
      intro x1 g2 z1 hz1 ez1
      unfold convoy_Gaps_l1 at hz1
      refine l_seq (lr (fun u6 hu6 => sv rfl (sp rfl rfl (sl rfl G_hit rfl (sd rfl (v_len rfl) (sv rfl (s_nil (cc rfl hz1 (fun c2 hz1 => ?_) (fun c2 hz1 => ?_)))))))))
      · refine l_skip (l_seq (l_block (l_draw rfl fun u7 hu7 => s_val (oS x1.1 (31, g2)) rfl rfl (sp rfl rfl (sl rfl G_hit rfl (sv rfl (sv rfl (bs hz1 fun v2 hv2 hz1 => sd rfl (v_idx rfl rfl hv2 rfl) (sd rfl (v_loadLG rfl hv2 rfl rfl) (bs hz1 fun v3 hv3 hz1 => s_call rfl rfl all2_refl (convoy_rear_ok _  _ hv3) (.inl rfl) (sp rfl rfl (sl rfl G_hit rfl (sv rfl (bs hz1 fun v4 hv4 hz1 => sd rfl (v_idx rfl rfl hv4 rfl) (sv rfl (sd rfl (v_loadL rfl hv4 rfl) (sv rfl (s_val (dl eInt_i64 [(w64 (v3 - v4.S))]) rfl rfl (bs hz1 fun v5 hv5 hz1 => s_appendO eInt_i64 (31, g2) x1.1 (w64 (v3 - v4.S)) [] _ (elems_list (fun _ => rfl)) rfl (gq rfl) hv5 (ss rfl (s_nil (l_end (l_sub (s0 := ⟨T [(1, (.ptr _ _)), (3, (.sl _)), (4, (.d _))], G [((1, u1), some (.box 38 _)), ((31, u7), some _)]⟩) (sbr rfl rfl) ?_)))))))))))))))))))))))
        refine l_reg fun u8 hu8 => sv rfl (sv rfl (sv rfl (s_nil (l_nil ?_))))
        obtain rfl := Option.some.inj hz1
        exact ⟨rfl, u7, (sb_of ⟨.of rfl, (.of (oS_ne (appc_ne hv5)).symm), .of rfl, trivial⟩ (sbG_some G_hit (.of rfl) (sbG_own (gq rfl) trivial)))⟩
      · refine l_exitN rfl ?_
        obtain rfl := Option.some.inj hz1
        obtain rfl := ez1 _ rfl
        refine ⟨nofun, awl_pop rfl (l_j ?_)⟩
        exact ⟨g2, (sb_of ⟨.of rfl, trivial⟩ (sbG_oB (gq rfl) trivial))⟩
    · rintro _ ⟨g1, q1⟩
      refine l_sub q1 (lr (fun u9 hu9 => s_val (oS y1 (31, g1)) rfl rfl (s_val (oS y1 (31, g1)) rfl rfl (s_nil (l_ret ?_)))))
      obtain rfl := Option.some.inj h
      exact fin_ok (.inr rfl) (resD1 (res_t rfl) (rf_oS G_hit)) oD_le

noncomputable def kit_SameLongs_l1 (p1 : (List Int)) (p2 : (List Int)) (x1 : Int) : Option (Stp Int (Sum Unit Bool)) :=
  cond ((decide (x1 < (p1.length : Int))) && (decide (x1 < (p2.length : Int)))) ((geti p1 x1).bind fun v1 => (geti p2 x1).bind fun v2 => cond (v1 != v2) (some (.out (.inr false))) (some (.go (w64 (x1 + 1))))) (some (.out (.inl ())))
noncomputable def kit_SameLongs (p1 : (List Int)) (p2 : (List Int)) : Option Bool :=
  thenS (loop (kit_SameLongs_l1 p1 p2) 0) (fun _ => some ((p1.length : Int) == (p2.length : Int))) (fun r => some r)

/-- kerbstone/kerbstonekit.SameLongs -/
def ac_kit_SameLongs : AC := (.seq (.reg [oo 4 (.mv (.c zf))]) (.seq (.seq (.reg [oo 5 (.mv (ci 0))]) (.block 0 (.loop (.seq (.seq (.reg [oo 6 (.mv (.t 5)), oo 7 (.mv (.t 0)), oo 8 (.len (.t 7)), oo 9 (.bin .lss (.t 6) (.t 8)), oo 10 (.mv (.t 9)), og 11 (.mv (.t 5)) 10, og 12 (.mv (.t 1)) 10, og 13 (.len (.t 12)) 10, og 14 (.bin .lss (.t 11) (.t 13)) 10, oo 15 (.pick (.t 10) (.t 14) (.c zf))]) (.cond (.t 15) .skip (.exit 0))) (.seq (.block 1 (.seq (.draw [oo 18 (.mv (.t 0)), oo 19 (.mv (.t 5)), oo 20 (.idxS 1 (.t 18) (.t 19)), oo 21 (.load 1 false (.t 20)), oo 22 (.mv (.t 1)), oo 23 (.mv (.t 5)), oo 24 (.idxS 1 (.t 22) (.t 23)), oo 25 (.load 1 false (.t 24)), oo 26 (.bin .neq (.t 21) (.t 25))] []) (.cond (.t 26) (.seq (.reg [oo 4 (.mv (.c zf))]) .ret) .skip))) (.reg [oo 16 (.mv (.t 5)), oo 17 (.bin .add (.t 16) (ci 1)), oo 5 (.mv (.t 17))])))))) (.seq (.reg [oo 27 (.mv (.t 0)), oo 28 (.len (.t 27)), oo 29 (.mv (.t 1)), oo 30 (.len (.t 29)), oo 31 (.bin .eql (.t 28) (.t 30)), oo 4 (.mv (.t 31))]) .ret)))
theorem fn_kit_SameLongs : FnOK Try.prog 36 32 [.t 4] ac_kit_SameLongs := ⟨_, _, Try.func36, rfl, Try.ntmps36, by kernel_rfl, ⟨fun _ => [], by kernel_rfl⟩, by kernel_rfl⟩
set_option maxHeartbeats 4000000 in
theorem kit_SameLongs_ok (p1 : (List Int)) (p2 : (List Int)) (r : Bool) (h : kit_SameLongs p1 p2 = some r) : PCall Try.prog 36 [(.list (List.map eInt_i64 p1)), (.list (List.map eInt_i64 p2))] (bo r) := by
  refine l_call fn_kit_SameLongs (nl rfl) ?_
  unfold kit_SameLongs at h
  unfold ac_kit_SameLongs
  refine l_sub (s0 := ⟨T [(0, (.d _)), (1, (.d _))], G []⟩) (sbr rfl rfl) ?_
  refine lr (fun u1 hu1 => sv rfl (s_nil (l_seq (lr (fun u2 hu2 => sv rfl (s_nil (js h fun z1 hz1 h => l_join (fun s => ∃ (y1 : Unit) (g1 : Unit), z1 = .inl y1 ∧ Sb ⟨T [(0, (dl eInt_i64 p1)), (1, (dl eInt_i64 p2))], G []⟩ s) ?_ ?_)))))))
  · refine l_block (l_loop (kit_SameLongs_l1 p1 p2) (fun (x1 : Int) (g2 : Unit) => ⟨T [(0, (dl eInt_i64 p1)), (1, (dl eInt_i64 p2)), (5, (di x1))], G []⟩) 0 () _ hz1 (sbr rfl rfl) ?_)
    intro x1 g2 z2 hz2 ez2
    unfold kit_SameLongs_l1 at hz2
    refine l_seq (lr (fun u3 hu3 => sv rfl (sv rfl (sd rfl (v_len rfl) (sv rfl (sv rfl (gt rfl (fun _ => rfl) (gt rfl (fun _ => rfl) (gt rfl (fun w3 => (v_len (gd_pos w3))) (gt rfl (fun w4 => (v_bin (gd_pos w4) (gd_pos w4) rfl)) (sa rfl rfl rfl (s_nil (cc rfl hz2 (fun c1 hz2 => ?_) (fun c1 hz2 => ?_))))))))))))))
    · refine l_skip (l_seq (l_block (l_seq (l_draw rfl fun u4 hu4 => sv rfl (sv rfl (bs hz2 fun v1 hv1 hz2 => sd rfl (v_idx rfl rfl hv1 rfl) (sd rfl (v_loadL rfl hv1 rfl) (sv rfl (sv rfl (bs hz2 fun v2 hv2 hz2 => sd rfl (v_idx rfl rfl hv2 rfl) (sd rfl (v_loadL rfl hv2 rfl) (sv rfl (s_nil (cc rfl hz2 (fun c2 hz2 => ?_) (fun c2 hz2 => ?_)))))))))))))))
      · refine lr (fun u5 hu5 => sv rfl (s_nil (l_ret ?_)))
        obtain rfl := Option.some.inj hz2
        obtain rfl := ez2 _ rfl
        refine ⟨nofun, awl_ret ?_⟩
        rw [Sum.elim_inr] at h
        obtain rfl := Option.some.inj h
        exact fin_ok (.inr rfl) (resD1 (res_t rfl) rf_d) (.refl _)
      · refine l_skip (l_end (l_reg fun u6 hu6 => sv rfl (sv rfl (sv rfl (s_nil (l_nil ?_))))))
        obtain rfl := Option.some.inj hz2
        exact ⟨rfl, (), (sbr rfl rfl)⟩
    · refine l_exitN rfl ?_
      obtain rfl := Option.some.inj hz2
      obtain rfl := ez2 _ rfl
      refine ⟨nofun, awl_pop rfl (l_j ?_)⟩
      exact ⟨_, (), rfl, (sbr rfl rfl)⟩
  · rintro _ ⟨y1, g1, rfl, q1⟩
    rw [Sum.elim_inl] at h
    refine l_sub q1 (lr (fun u7 hu7 => sv rfl (sd rfl (v_len rfl) (sv rfl (sd rfl (v_len rfl) (sv rfl (sv rfl (s_nil (l_ret ?_)))))))))
    obtain rfl := Option.some.inj h
    exact fin_ok (.inr rfl) (resD1 (res_t rfl) rf_d) (.refl _)

noncomputable def law09_awake : Option Bool :=
  (law09_shown).bind fun v1 => ((cond ((v1.Mates.length : Int) == 2) (convoy_Age (Guess.mk 0 200) 2) (some default))).bind fun v2 => ((cond (((v1.Mates.length : Int) == 2) && (v2.R == 130 && (v2.V == 20 && true))) (convoy_Sound v1) (some default))).bind fun v3 => ((cond ((((v1.Mates.length : Int) == 2) && (v2.R == 130 && (v2.V == 20 && true))) && v3) (convoy_Gaps v1) (some default))).bind fun v4 => ((cond ((((v1.Mates.length : Int) == 2) && (v2.R == 130 && (v2.V == 20 && true))) && v3) (kit_SameLongs v4 [6000]) (some default))).bind fun v5 => ((cond (((((v1.Mates.length : Int) == 2) && (v2.R == 130 && (v2.V == 20 && true))) && v3) && v5) (convoy_Safe 0 191 1000 (Guess.mk 1000 100)) (some default))).bind fun v6 => some ((((((v1.Mates.length : Int) == 2) && (v2.R == 130 && (v2.V == 20 && true))) && v3) && v5) && (!v6))

/-- kerbstone/kerbstonelaw09.awake -/
def ac_law09_awake : AC := (.seq (.reg [oo 0 (.mv (.c zf))]) (.seq (.reg [oo 2 (.call (cf 57) []), oo 1 (.alloc 38 [z0, z0, .nilS, z0, z0, z0, z0, z0, z0, z0, z0, z0, z0]), oe (.store 13 (.t 1) (.t 2))]) (.seq (.reg [oo 3 (.fieldA 2 (.t 1)), oo 4 (.load 1 false (.t 3)), oo 5 (.len (.t 4)), oo 6 (.bin .eql (.t 5) (ci 2)), oo 7 (.mv (.t 6)), og 8 (.build [z0, z0] [(1, 1, (ci 200))]) 7, og 9 (.call (cf 15) [(.t 8), (ci 2)]) 7, og 10 (.build [z0, z0] [(0, 1, (ci 130)), (1, 1, (ci 20))]) 7, og 11 (.eqA false [false, false] (.t 9) (.t 10)) 7, oo 12 (.pick (.t 7) (.t 11) (.c zf)), oo 13 (.mv (.t 12)), og 14 (.load 13 true (.t 1)) 13, og 15 (.call (cf 34) [(.t 14)]) 13, oo 16 (.pick (.t 13) (.t 15) (.c zf)), oo 17 (.mv (.t 16)), og 18 (.load 13 true (.t 1)) 17, og 19 (.call (cf 37) [(.t 18)]) 17, og 20 (.dslice 2 1 1 [z0] [(0, 1, (ci 6000))]) 17, og 21 (.call (cf 36) [(.t 19), (.t 20)]) 17, oo 22 (.pick (.t 17) (.t 21) (.c zf)), oo 23 (.mv (.t 22)), og 24 (.build [z0, z0] [(0, 1, (ci 1000)), (1, 1, (ci 100))]) 23, og 25 (.call (cf 21) [(ci 0), (ci 191), (ci 1000), (.t 24)]) 23, og 26 (.un .not (.t 25)) 23, oo 27 (.pick (.t 23) (.t 26) (.c zf)), oo 0 (.mv (.t 27))]) .ret)))
theorem fn_law09_awake : FnOK Try.prog 23 28 [.t 0] ac_law09_awake := ⟨_, _, Try.func23, rfl, Try.ntmps23, by kernel_rfl, ⟨fun r => if r == 2 then [1017] else [], by kernel_rfl⟩, by kernel_rfl⟩
theorem law09_awake_ok (r : Bool) (h : law09_awake = some r) : PCall Try.prog 23 [] (bo r) := by
  refine l_call fn_law09_awake (nl rfl) ?_
  unfold law09_awake at h
  unfold ac_law09_awake
  refine l_sub (s0 := ⟨T [], G []⟩) (sbr rfl rfl) ?_
  refine lr (fun u1 hu1 => sv rfl (s_nil (lr (fun u2 hu2 => bs h fun v1 hv1 h => s_call rfl rfl all2_refl (law09_shown_ok  _ hv1) (.inl rfl) (sn rfl rfl (sst rfl G_hit (dConvoy v1) rfl (s_nil (lr (fun u3 hu3 => sp rfl rfl (sl rfl G_hit rfl (sd rfl (v_len rfl) (sv rfl (sv rfl (gt rfl (fun _ => rfl) (bs h fun v2 hv2 h => ?_)))))))))))))))
  refine g_call _ (.agg [(i64 v2.R), (i64 v2.V)]) (gw_t rfl) (fun w2 => ⟨_, [(.d (.agg [(i64 0), (i64 200)])), (di 2)], _, _, (by simp only [gd_pos w2]; rfl), rfl, all2_refl, convoy_Age_ok _ _  _ (cond_t w2 hv2), (.inl rfl)⟩) ?_
  refine gt rfl (fun _ => rfl) ?_
  refine g_val _ (.d (bo (v2.R == 130 && (v2.V == 20 && true)))) rfl (gw_t rfl) (fun w4 => (by simp only [gd_pos w4]; rfl)) ?_
  refine sa rfl rfl rfl (sv rfl (gt rfl (fun w5 => (v_loadG rfl G_hit rfl rfl)) (bs h fun v3 hv3 h => ?_)))
  refine g_call _ (bo v3) (gw_t rfl) (fun w6 => ⟨_, [(.d (.agg (eConvoy v1)))], _, _, (by simp only [gd_pos w6]; rfl), rfl, all2_refl, convoy_Sound_ok _  _ (cond_t w6 hv3), (.inl rfl)⟩) ?_
  refine sa rfl rfl rfl (sv rfl (gt rfl (fun w7 => (v_loadG rfl G_hit rfl rfl)) (bs h fun v4 hv4 h => ?_)))
  refine g_call _ (.list (List.map eInt_i64 v4)) (gw_t rfl) (fun w8 => ⟨_, [(.d (.agg (eConvoy v1)))], _, _, (by simp only [gd_pos w8]; rfl), rfl, all2_refl, convoy_Gaps_ok _  _ (cond_t w8 hv4), (.inl rfl)⟩) ?_
  refine g_val _ (dl eInt_i64 [6000]) rfl (gw_t rfl) (fun _ => rfl) (bs h fun v5 hv5 h => ?_)
  refine g_call _ (bo v5) (gw_t rfl) (fun w10 => ⟨_, [(dl eInt_i64 v4), (dl eInt_i64 [6000])], _, _, (by simp only [gd_pos w10]; rfl), rfl, all2_refl, kit_SameLongs_ok _ _  _ (cond_t w10 hv5), (.inl rfl)⟩) ?_
  refine sa rfl rfl rfl (sv rfl (gt rfl (fun _ => rfl) (bs h fun v6 hv6 h => ?_)))
  refine g_call _ (bo v6) (gw_t rfl) (fun w12 => ⟨_, [(di 0), (di 191), (di 1000), (.d (.agg [(i64 1000), (i64 100)]))], _, _, (by simp only [gd_pos w12]; rfl), rfl, all2_refl, convoy_Safe_ok _ _ _ _  _ (cond_t w12 hv6), (.inl rfl)⟩) ?_
  refine g_val _ (.d (bo (!v6))) rfl (gw_t rfl) (fun w13 => (by simp only [gd_pos w13]; rfl)) ?_
  refine sa rfl rfl rfl (sv rfl (s_nil (l_ret ?_)))
  obtain rfl := Option.some.inj h
  exact fin_ok (.inr rfl) (resD1 (res_t rfl) rf_d) (.refl _)

noncomputable def kit_NewRing_m (p1 : (List Int)) : Option KitRing :=
  some (KitRing.mk p1 0)

/-- kerbstone/kerbstonekit.NewRing -/
def ac_kit_NewRing_m : AC := (.seq (.reg [oo 2 (.mv (.c (.v (.pointer none))))]) (.seq (.reg [oo 3 (.mv (.t 0)), oo 4 (.build [.nilS, z0] [(0, 1, (.t 3))]), oo 5 (.box 94 true (.t 4)), oo 2 (.mv (.t 5))]) .ret))
theorem fn_kit_NewRing_m : FnOK Try.prog 30 6 [.t 2] ac_kit_NewRing_m := ⟨_, _, Try.func30, rfl, Try.ntmps30, by kernel_rfl, ⟨fun _ => [], by kernel_rfl⟩, by kernel_rfl⟩
theorem kit_NewRing_m_ok (p1 : (List Int)) (r : KitRing) (h : kit_NewRing_m p1 = some r) : MCall Try.prog 30 [(dl eInt_i64 p1)] [] (.ptr (800000, 0) 0) [] [some (.box 94 [(dl eInt_i64 r.l), (di r.at_)])] := by
  refine m_callT fn_kit_NewRing_m rfl (nl rfl) ?_
  unfold kit_NewRing_m at h
  unfold ac_kit_NewRing_m
  refine l_sub (s0 := ⟨T [(0, (.d _))], G []⟩) (sbr rfl rfl) ?_
  refine lr (fun u1 hu1 => sv rfl (s_nil (lr (fun u2 hu2 => sv rfl (sv rfl (sn rfl rfl (sp rfl rfl (s_nil (l_ret ?_)))))))))
  obtain rfl := Option.some.inj h
  exact fin_m (v1 := (.ptr (5, u2) 0)) (.inr rfl) (resA1 (res_t rfl)) (.of rfl) [((5, u2), some (.box 94 [(dl eInt_i64 p1), (di 0)]))] (sbG_some G_hit (.of rfl) trivial) (mpost_o [(5, u2)] rfl trivial ⟨G_hit, trivial⟩ rfl (List.forall_mem_cons.2 ⟨fun i hi => old_far rfl hi, (fun _ h => nomatch h)⟩) nd1)

noncomputable def kit_Mod (p1 : Int) (p2 : Int) : Option Int :=
  (remc p1 p2).bind fun v1 => cond (decide (v1 < 0)) (some (w64 (v1 + p2))) (some v1)

/-- kerbstone/kerbstonekit.Mod -/
def ac_kit_Mod : AC := (.seq (.reg [oo 4 (.mv (ci 0))]) (.seq (.reg [oo 5 (.mv (.t 0)), oo 6 (.mv (.t 1)), oo 7 (.bin .rem (.t 5) (.t 6)), oo 0 (.mv (.t 7))]) (.seq (.seq (.reg [oo 8 (.mv (.t 0)), oo 9 (.bin .lss (.t 8) (ci 0))]) (.cond (.t 9) (.reg [oo 10 (.mv (.t 0)), oo 11 (.mv (.t 1)), oo 12 (.bin .add (.t 10) (.t 11)), oo 0 (.mv (.t 12))]) .skip)) (.seq (.reg [oo 13 (.mv (.t 0)), oo 4 (.mv (.t 13))]) .ret))))
theorem fn_kit_Mod : FnOK Try.prog 26 14 [.t 4] ac_kit_Mod := ⟨_, _, Try.func26, rfl, Try.ntmps26, by kernel_rfl, ⟨fun _ => [], by kernel_rfl⟩, by kernel_rfl⟩
theorem kit_Mod_ok (p1 : Int) (p2 : Int) (r : Int) (h : kit_Mod p1 p2 = some r) : PCall Try.prog 26 [(i64 p1), (i64 p2)] (i64 r) := by
  refine l_call fn_kit_Mod (nl rfl) ?_
  unfold kit_Mod at h
  unfold ac_kit_Mod
  refine l_sub (s0 := ⟨T [(0, (.d _)), (1, (.d _))], G []⟩) (sbr rfl rfl) ?_
  refine lr (fun u1 hu1 => sv rfl (s_nil (lr (fun u2 hu2 => sv rfl (sv rfl (bs h fun v1 hv1 h => sd rfl (v_rem rfl rfl hv1) (sv rfl (s_nil (l_seq (lr (fun u3 hu3 => sv rfl (sv rfl (s_nil (cc rfl h (fun c1 h => ?_) (fun c1 h => ?_)))))))))))))))
  · refine l_reg fun u4 hu4 => sv rfl (sv rfl (sv rfl (sv rfl (s_nil (lr (fun u5 hu5 => sv rfl (sv rfl (s_nil (l_ret ?_)))))))))
    obtain rfl := Option.some.inj h
    exact fin_ok (.inr rfl) (resD1 (res_t rfl) rf_d) (.refl _)
  · refine l_skip (lr (fun u6 hu6 => sv rfl (sv rfl (s_nil (l_ret ?_)))))
    obtain rfl := Option.some.inj h
    exact fin_ok (.inr rfl) (resD1 (res_t rfl) rf_d) (.refl _)

noncomputable def kit_Ring_Next_o (p1 : KitRing) (p2 : Int) : Option (Int × KitRing) :=
  cond (decide ((p1.l.length : Int) > 0)) ((remc (w64 (p1.at_ + 1)) (p1.l.length : Int)).bind fun v1 => (geti p1.l v1).bind fun v2 => (kit_Mod v2 1048576).bind fun v3 => (quoc .i64 (w64 (p1.at_ + 1)) (p1.l.length : Int)).bind fun v4 => (quoc .i64 v3 (w64 (1 + v4))).bind fun v5 => (remc (w64 (((w64 ((w64 (p1.at_ + 1)) * 7919)).tmod 10007) + v5)) p2).bind fun v6 => some (v6, (KitRing.mk p1.l (w64 (p1.at_ + 1))))) ((remc ((w64 ((w64 (p1.at_ + 1)) * 7919)).tmod 10007) p2).bind fun v7 => some (v7, (KitRing.mk p1.l (w64 (p1.at_ + 1)))))

/-- (*kerbstone/kerbstonekit.Ring).Next -/
def ac_kit_Ring_Next_o : AC := (.seq (.reg [oo 4 (.mv (ci 0))]) (.seq (.reg [oo 6 (.mv (.t 0)), oo 7 (.nilck (.t 6)), oo 8 (.fieldA 1 (.t 7)), oo 9 (.load 1 false (.t 8)), oo 10 (.bin .add (.t 9) (ci 1)), oo 11 (.nilck (.t 6)), oo 12 (.fieldA 1 (.t 11)), oe (.store 1 (.t 12) (.t 10))]) (.seq (.reg [oo 13 (.mv (.t 0)), oo 14 (.nilck (.t 13)), oo 15 (.fieldA 1 (.t 14)), oo 16 (.load 1 false (.t 15)), oo 17 (.bin .mul (.t 16) (ci 7919)), oo 18 (.bin .rem (.t 17) (ci 10007)), oo 5 (.mv (.t 18))]) (.seq (.seq (.reg [oo 19 (.mv (.t 0)), oo 20 (.nilck (.t 19)), oo 21 (.fieldA 0 (.t 20)), oo 22 (.load 1 false (.t 21)), oo 23 (.len (.t 22)), oo 24 (.bin .gtr (.t 23) (ci 0))]) (.cond (.t 24) (.draw [oo 25 (.mv (.t 5)), oo 26 (.mv (.t 0)), oo 27 (.nilck (.t 26)), oo 28 (.fieldA 0 (.t 27)), oo 29 (.load 1 false (.t 28)), oo 30 (.mv (.t 0)), oo 31 (.nilck (.t 30)), oo 32 (.fieldA 1 (.t 31)), oo 33 (.load 1 false (.t 32)), oo 34 (.mv (.t 0)), oo 35 (.nilck (.t 34)), oo 36 (.fieldA 0 (.t 35)), oo 37 (.load 1 false (.t 36)), oo 38 (.len (.t 37)), oo 39 (.bin .rem (.t 33) (.t 38)), oo 40 (.idxS 1 (.t 29) (.t 39)), oo 41 (.load 1 false (.t 40)), oo 42 (.call (cf 26) [(.t 41), (ci 1048576)]), oo 43 (.mv (.t 0)), oo 44 (.nilck (.t 43)), oo 45 (.fieldA 1 (.t 44)), oo 46 (.load 1 false (.t 45)), oo 47 (.mv (.t 0)), oo 48 (.nilck (.t 47)), oo 49 (.fieldA 0 (.t 48)), oo 50 (.load 1 false (.t 49)), oo 51 (.len (.t 50)), oo 52 (.bin .quo (.t 46) (.t 51)), oo 53 (.bin .add (ci 1) (.t 52)), oo 54 (.bin .quo (.t 42) (.t 53)), oo 55 (.bin .add (.t 25) (.t 54)), oo 5 (.mv (.t 55))] []) .skip)) (.seq (.reg [oo 56 (.mv (.t 5)), oo 57 (.mv (.t 1)), oo 58 (.bin .rem (.t 56) (.t 57)), oo 4 (.mv (.t 58))]) .ret)))))
theorem fn_kit_Ring_Next_o : FnOK Try.prog 49 59 [.t 4] ac_kit_Ring_Next_o := ⟨_, _, Try.func49, rfl, Try.ntmps49, by kernel_rfl, ⟨fun _ => [], by kernel_rfl⟩, by kernel_rfl⟩
set_option maxHeartbeats 4000000 in
theorem kit_Ring_Next_o_ok (p1 : KitRing) (p2 : Int) (r : (Int × KitRing)) (h : kit_Ring_Next_o p1 p2 = some r) : MCall Try.prog 49 [(.ptr (900000, 0) 0), (di p2)] [(.box 94 [(dl eInt_i64 p1.l), (di p1.at_)])] (di r.1) [some (.box 94 [(dl eInt_i64 r.2.l), (di r.2.at_)])] [] := by
  refine m_callF fn_kit_Ring_Next_o rfl (nl rfl) ?_
  unfold kit_Ring_Next_o at h
  unfold ac_kit_Ring_Next_o
  refine l_sub (s0 := ⟨T [(0, (.ptr _ _)), (1, (.d _))], G [((900000, 0), some (.box 94 _))]⟩) (sbr rfl rfl) ?_
  refine lr (fun u1 hu1 => sv rfl (s_nil (lr (fun u2 hu2 => sp rfl rfl (sp rfl rfl (sp rfl rfl (sl rfl G_hit rfl (sv rfl (sp rfl rfl (sp rfl rfl (sst rfl G_hit [(dl eInt_i64 p1.l), (di (w64 (p1.at_ + 1)))] rfl (s_nil (lr (fun u3 hu3 => sp rfl rfl (sp rfl rfl (sp rfl rfl (sl rfl G_hit rfl (sv rfl (sv rfl (sv rfl (s_nil (l_seq (lr (fun u4 hu4 => sp rfl rfl (sp rfl rfl (sp rfl rfl (sl rfl G_hit rfl (sd rfl (v_len rfl) (sv rfl (s_nil (cc rfl h (fun c1 h => ?_) (fun c1 h => ?_))))))))))))))))))))))))))))))))
  · refine l_sub (s0 := ⟨T [(0, (.ptr _ _)), (1, (.d _)), (5, (.d _))], G [((900000, 0), some (.box 94 _))]⟩) (sbr rfl rfl) ?_
    refine l_draw rfl fun u5 hu5 => sv rfl (sp rfl rfl (sp rfl rfl (sp rfl rfl (sl rfl G_hit rfl (sp rfl rfl (sp rfl rfl (sp rfl rfl (sl rfl G_hit rfl (sp rfl rfl (sp rfl rfl (sp rfl rfl (sl rfl G_hit rfl (sd rfl (v_len rfl) (bs h fun v1 hv1 h => sd rfl (v_rem rfl rfl hv1) (bs h fun v2 hv2 h => sd rfl (v_idx rfl rfl hv2 rfl) (sd rfl (v_loadL rfl hv2 rfl) (bs h fun v3 hv3 h => s_call rfl rfl all2_refl (kit_Mod_ok _ _  _ hv3) (.inl rfl) (sp rfl rfl (sp rfl rfl (sp rfl rfl (sl rfl G_hit rfl (sp rfl rfl (sp rfl rfl (sp rfl rfl (sl rfl G_hit rfl (sd rfl (v_len rfl) (bs h fun v4 hv4 h => sd rfl (v_quo rfl rfl hv4) (sv rfl (bs h fun v5 hv5 h => sd rfl (v_quo rfl rfl hv5) (sv rfl (sv rfl (s_nil (l_seq (l_sub (s0 := ⟨T [(0, (.ptr _ _)), (1, (.d _)), (5, (.d _))], G [((900000, 0), some (.box 94 _))]⟩) (sbr rfl rfl) ?_))))))))))))))))))))))))))))))))))
    refine l_reg fun u6 hu6 => sv rfl (sv rfl (bs h fun v6 hv6 h => sd rfl (v_rem rfl rfl hv6) (sv rfl (s_nil (l_ret ?_)))))
    obtain rfl := Option.some.inj h
    exact fin_mf (.inr rfl) [] (resDF1 (res_t rfl) rf_d) (.refl _) ⟨⟨_, _, _, G_hit, old_notin_nil, rfl, all2_d, rfl⟩, trivial⟩
  · refine l_skip (l_seq (l_sub (s0 := ⟨T [(0, (.ptr _ _)), (1, (.d _)), (5, (.d _))], G [((900000, 0), some (.box 94 _))]⟩) (sbr rfl rfl) ?_))
    refine l_reg fun u7 hu7 => sv rfl (sv rfl (bs h fun v7 hv7 h => sd rfl (v_rem rfl rfl hv7) (sv rfl (s_nil (l_ret ?_)))))
    obtain rfl := Option.some.inj h
    exact fin_mf (.inr rfl) [] (resDF1 (res_t rfl) rf_d) (.refl _) ⟨⟨_, _, _, G_hit, old_notin_nil, rfl, all2_d, rfl⟩, trivial⟩

noncomputable def ref09_sane_l1 (p1 : (List Int)) (x1 : Int) : Option (Stp Int (Sum Unit Bool)) :=
  cond (decide (x1 < (p1.length : Int))) ((geti p1 x1).bind fun v1 => ((cond (!(decide (v1 < (-4398046511104)))) (geti p1 x1) (some default))).bind fun v2 => cond ((decide (v1 < (-4398046511104))) || (decide (v2 > 4398046511104))) (some (.out (.inr false))) (some (.go (w64 (x1 + 1))))) (some (.out (.inl ())))
noncomputable def ref09_sane (p1 : (List Int)) : Option Bool :=
  thenS (loop (ref09_sane_l1 p1) 0) (fun _ => some true) (fun r => some r)

/-- kerbstone/kerbstoneref09.sane -/
def ac_ref09_sane : AC := (.seq (.reg [oo 2 (.mv (.c zf))]) (.seq (.seq (.reg [oo 3 (.mv (ci 0))]) (.block 0 (.loop (.seq (.seq (.reg [oo 4 (.mv (.t 3)), oo 5 (.mv (.t 0)), oo 6 (.len (.t 5)), oo 7 (.bin .lss (.t 4) (.t 6))]) (.cond (.t 7) .skip (.exit 0))) (.seq (.block 1 (.seq (.reg [oo 10 (.mv (.t 0)), oo 11 (.mv (.t 3)), oo 12 (.idxS 1 (.t 10) (.t 11)), oo 13 (.load 1 false (.t 12)), oo 14 (.bin .lss (.t 13) (ci (-4398046511104))), oo 15 (.mv (.t 14)), oh 16 (.mv (.t 0)) 15, oh 17 (.mv (.t 3)) 15, oh 18 (.idxS 1 (.t 16) (.t 17)) 15, oh 19 (.load 1 false (.t 18)) 15, oh 20 (.bin .gtr (.t 19) (ci 4398046511104)) 15, oo 21 (.pick (.t 15) (.c (.v (.bool true))) (.t 20))]) (.cond (.t 21) (.seq (.reg [oo 2 (.mv (.c zf))]) .ret) .skip))) (.reg [oo 8 (.mv (.t 3)), oo 9 (.bin .add (.t 8) (ci 1)), oo 3 (.mv (.t 9))])))))) (.seq (.reg [oo 2 (.mv (.c (.v (.bool true))))]) .ret)))
theorem fn_ref09_sane : FnOK Try.prog 60 22 [.t 2] ac_ref09_sane := ⟨_, _, Try.func60, rfl, Try.ntmps60, by kernel_rfl, ⟨fun _ => [], by kernel_rfl⟩, by kernel_rfl⟩
set_option maxHeartbeats 4000000 in
theorem ref09_sane_ok (p1 : (List Int)) (r : Bool) (h : ref09_sane p1 = some r) : PCall Try.prog 60 [(.list (List.map eInt_i64 p1))] (bo r) := by
  refine l_call fn_ref09_sane (nl rfl) ?_
  unfold ref09_sane at h
  unfold ac_ref09_sane
  refine l_sub (s0 := ⟨T [(0, (.d _))], G []⟩) (sbr rfl rfl) ?_
  refine lr (fun u1 hu1 => sv rfl (s_nil (l_seq (lr (fun u2 hu2 => sv rfl (s_nil (js h fun z1 hz1 h => l_join (fun s => ∃ (y1 : Unit) (g1 : Unit), z1 = .inl y1 ∧ Sb ⟨T [], G []⟩ s) ?_ ?_)))))))
  · refine l_block (l_loop (ref09_sane_l1 p1) (fun (x1 : Int) (g2 : Unit) => ⟨T [(0, (dl eInt_i64 p1)), (3, (di x1))], G []⟩) 0 () _ hz1 (sbr rfl rfl) ?_)
    intro x1 g2 z2 hz2 ez2
    unfold ref09_sane_l1 at hz2
    refine l_seq (lr (fun u3 hu3 => sv rfl (sv rfl (sd rfl (v_len rfl) (sv rfl (s_nil (cc rfl hz2 (fun c1 hz2 => ?_) (fun c1 hz2 => ?_))))))))
    · refine l_skip (l_seq (l_block (lr (fun u4 hu4 => sv rfl (sv rfl (bs hz2 fun v1 hv1 hz2 => sd rfl (v_idx rfl rfl hv1 rfl) (sd rfl (v_loadL rfl hv1 rfl) (sv rfl (sv rfl (gf rfl (fun _ => rfl) (gf rfl (fun _ => rfl) (bs hz2 fun v2 hv2 hz2 => gf rfl (fun w3 => (v_idx (gd_pos w3) (gd_pos w3) (cond_t w3 hv2) rfl)) (gf rfl (fun w4 => (v_loadL (gd_pos w4) (cond_t w4 hv2) rfl)) (gf rfl (vb rfl rfl rfl) (sd rfl (v_or rfl rfl (fun hc => gd_pos (not_t hc))) (s_nil (cc rfl hz2 (fun c2 hz2 => ?_) (fun c2 hz2 => ?_))))))))))))))))))
      · refine lr (fun u5 hu5 => sv rfl (s_nil (l_ret ?_)))
        obtain rfl := Option.some.inj hz2
        obtain rfl := ez2 _ rfl
        refine ⟨nofun, awl_ret ?_⟩
        rw [Sum.elim_inr] at h
        obtain rfl := Option.some.inj h
        exact fin_ok (.inr rfl) (resD1 (res_t rfl) rf_d) (.refl _)
      · refine l_skip (l_end (l_reg fun u6 hu6 => sv rfl (sv rfl (sv rfl (s_nil (l_nil ?_))))))
        obtain rfl := Option.some.inj hz2
        exact ⟨rfl, (), (sbr rfl rfl)⟩
    · refine l_exitN rfl ?_
      obtain rfl := Option.some.inj hz2
      obtain rfl := ez2 _ rfl
      refine ⟨nofun, awl_pop rfl (l_j ?_)⟩
      exact ⟨_, (), rfl, (sbr rfl rfl)⟩
  · rintro _ ⟨y1, g1, rfl, q1⟩
    rw [Sum.elim_inl] at h
    refine l_sub q1 (lr (fun u7 hu7 => sv rfl (s_nil (l_ret ?_))))
    obtain rfl := Option.some.inj h
    exact fin_ok (.inr rfl) (resD1 (res_t rfl) rf_d) (.refl _)

noncomputable def ref04_Stop_l1 (p2 : Int) (x1 : (Int × Int)) : Option (Stp (Int × Int) Int) :=
  cond (decide (x1.1 > (mm2 false p2 1000000))) (some (.go ((w64 (x1.1 - (mm2 false p2 1000000))), (w64 (x1.2 + (w64 (x1.1 - (mm2 false p2 1000000)))))))) (some (.out x1.2))
noncomputable def ref04_Stop (p1 : Int) (p2 : Int) : Option Int :=
  cond ((decide ((mm2 false p1 1000000) < 1)) || (decide ((mm2 false p2 1000000) < 1))) (some 0) ((loop (ref04_Stop_l1 p2) ((mm2 false p1 1000000), 0)).bind fun y1 => some y1)

/-- kerbstone/kerbstoneref04.Stop -/
def ac_ref04_Stop : AC := (.seq (.reg [oo 4 (.mv (ci 0))]) (.seq (.reg [oo 6 (.mv (.t 0)), oo 7 (.mm false (.t 6) [(ci 1000000)]), oo 8 (.mv (.t 1)), oo 9 (.mm false (.t 8) [(ci 1000000)]), oo 0 (.mv (.t 7)), oo 1 (.mv (.t 9))]) (.seq (.reg [oo 5 (.mv (ci 0))]) (.seq (.seq (.reg [oo 10 (.mv (.t 0)), oo 11 (.bin .lss (.t 10) (ci 1)), oo 12 (.mv (.t 11)), oh 13 (.mv (.t 1)) 12, oh 14 (.bin .lss (.t 13) (ci 1)) 12, oo 15 (.pick (.t 12) (.c (.v (.bool true))) (.t 14))]) (.cond (.t 15) (.seq (.reg [oo 4 (.mv (ci 0))]) .ret) .skip)) (.seq (.block 0 (.loop (.seq (.seq (.reg [oo 16 (.mv (.t 0)), oo 17 (.mv (.t 1)), oo 18 (.bin .gtr (.t 16) (.t 17))]) (.cond (.t 18) .skip (.exit 0))) (.block 1 (.seq (.reg [oo 19 (.mv (.t 0)), oo 20 (.mv (.t 1)), oo 21 (.bin .sub (.t 19) (.t 20)), oo 0 (.mv (.t 21))]) (.reg [oo 22 (.mv (.t 5)), oo 23 (.mv (.t 0)), oo 24 (.bin .add (.t 22) (.t 23)), oo 5 (.mv (.t 24))])))))) (.seq (.reg [oo 25 (.mv (.t 5)), oo 4 (.mv (.t 25))]) .ret))))))
theorem fn_ref04_Stop : FnOK Try.prog 97 26 [.t 4] ac_ref04_Stop := ⟨_, _, Try.func97, rfl, Try.ntmps97, by kernel_rfl, ⟨fun _ => [], by kernel_rfl⟩, by kernel_rfl⟩
set_option maxHeartbeats 4000000 in
theorem ref04_Stop_ok (p1 : Int) (p2 : Int) (r : Int) (h : ref04_Stop p1 p2 = some r) : PCall Try.prog 97 [(i64 p1), (i64 p2)] (i64 r) := by
  refine l_call fn_ref04_Stop (nl rfl) ?_
  unfold ref04_Stop at h
  unfold ac_ref04_Stop
  refine l_sub (s0 := ⟨T [(0, (.d _)), (1, (.d _))], G []⟩) (sbr rfl rfl) ?_
  refine lr (fun u1 hu1 => sv rfl (s_nil (lr (fun u2 hu2 => sv rfl (sv rfl (sv rfl (sv rfl (sv rfl (sv rfl (s_nil (lr (fun u3 hu3 => sv rfl (s_nil (l_seq (lr (fun u4 hu4 => sv rfl (sv rfl (sv rfl (gf rfl (fun _ => rfl) (gf rfl (vb rfl rfl rfl) (sd rfl (v_or rfl rfl (fun hc => gd_pos (not_t hc))) (s_nil (cc rfl h (fun c1 h => ?_) (fun c1 h => ?_))))))))))))))))))))))))
  · refine lr (fun u5 hu5 => sv rfl (s_nil (l_ret ?_)))
    obtain rfl := Option.some.inj h
    exact fin_ok (.inr rfl) (resD1 (res_t rfl) rf_d) (.refl _)
  · refine l_skip (l_seq (bs h fun y1 hy1 h => l_join (fun s => ∃ g1 : Unit, Sb ⟨T [(5, (di y1))], G []⟩ s) ?_ ?_))
    · refine l_block (l_loop (ref04_Stop_l1 p2) (fun (x1 : (Int × Int)) (g2 : Unit) => ⟨T [(0, (di x1.1)), (1, (di (mm2 false p2 1000000))), (5, (di x1.2))], G []⟩) ((mm2 false p1 1000000), 0) () _ hy1 (sbr rfl rfl) ?_)
      intro x1 g2 z1 hz1 ez1
      unfold ref04_Stop_l1 at hz1
      refine l_seq (lr (fun u6 hu6 => sv rfl (sv rfl (sv rfl (s_nil (cc rfl hz1 (fun c2 hz1 => ?_) (fun c2 hz1 => ?_)))))))
      · refine l_skip (l_block (lr (fun u7 hu7 => sv rfl (sv rfl (sv rfl (sv rfl (s_nil (l_reg fun u8 hu8 => sv rfl (sv rfl (sv rfl (sv rfl (s_nil (l_end (l_nil ?_))))))))))))))
        obtain rfl := Option.some.inj hz1
        exact ⟨rfl, (), (sbr rfl rfl)⟩
      · refine l_exitN rfl ?_
        obtain rfl := Option.some.inj hz1
        obtain rfl := ez1 _ rfl
        refine ⟨nofun, awl_pop rfl (l_j ?_)⟩
        exact ⟨(), (sbr rfl rfl)⟩
    · rintro _ ⟨g1, q1⟩
      refine l_sub q1 (lr (fun u9 hu9 => sv rfl (sv rfl (s_nil (l_ret ?_)))))
      obtain rfl := Option.some.inj h
      exact fin_ok (.inr rfl) (resD1 (res_t rfl) rf_d) (.refl _)

noncomputable def ref09_stop (p1 : Int) : Option Int :=
  (ref04_Stop p1 90).bind fun v1 => some v1

/-- kerbstone/kerbstoneref09.stop -/
def ac_ref09_stop : AC := (.seq (.reg [oo 2 (.mv (ci 0))]) (.seq (.reg [oo 3 (.mv (.t 0)), oo 4 (.call (cf 97) [(.t 3), (ci 90)]), oo 2 (.mv (.t 4))]) .ret))
theorem fn_ref09_stop : FnOK Try.prog 63 5 [.t 2] ac_ref09_stop := ⟨_, _, Try.func63, rfl, Try.ntmps63, by kernel_rfl, ⟨fun _ => [], by kernel_rfl⟩, by kernel_rfl⟩
theorem ref09_stop_ok (p1 : Int) (r : Int) (h : ref09_stop p1 = some r) : PCall Try.prog 63 [(i64 p1)] (i64 r) := by
  refine l_call fn_ref09_stop (nl rfl) ?_
  unfold ref09_stop at h
  unfold ac_ref09_stop
  refine l_sub (s0 := ⟨T [(0, (.d _))], G []⟩) (sbr rfl rfl) ?_
  refine lr (fun u1 hu1 => sv rfl (s_nil (lr (fun u2 hu2 => sv rfl (bs h fun v1 hv1 h => s_call rfl rfl all2_refl (ref04_Stop_ok _ _  _ hv1) (.inl rfl) (sv rfl (s_nil (l_ret ?_))))))))
  obtain rfl := Option.some.inj h
  exact fin_ok (.inr rfl) (resD1 (res_t rfl) rf_d) (.refl _)

noncomputable def ref09_Safe (p1 : Int) (p2 : Int) (p3 : Int) (p4 : Guess) : Option Bool :=
  (ref09_sane [p1, p2, p3, p4.R, p4.V]).bind fun v1 => ((cond (v1 && (decide (p1 ≤ (w64 (p4.R - p3))))) (ref09_stop p2) (some default))).bind fun v2 => ((cond (v1 && (decide (p1 ≤ (w64 (p4.R - p3))))) (ref09_stop p4.V) (some default))).bind fun v3 => some ((v1 && (decide (p1 ≤ (w64 (p4.R - p3))))) && (decide ((w64 (p1 + v2)) ≤ (w64 ((w64 (p4.R + v3)) - p3)))))

/-- kerbstone/kerbstoneref09.Safe -/
def ac_ref09_Safe : AC := (.seq (.reg [oo 7 (.box 23 true (.t 3)), oo 8 (.mv (.c zf))]) (.seq (.draw [oo 9 (.mv (.t 0)), oo 10 (.mv (.t 1)), oo 11 (.mv (.t 2)), oo 12 (.fieldA 0 (.t 7)), oo 13 (.load 1 false (.t 12)), oo 14 (.fieldA 1 (.t 7)), oo 15 (.load 1 false (.t 14)), oo 16 (.dslice 2 1 5 [z0] [(0, 1, (.t 9)), (1, 1, (.t 10)), (2, 1, (.t 11)), (3, 1, (.t 13)), (4, 1, (.t 15))]), oo 17 (.call (cf 60) [(.t 16)]), oo 18 (.mv (.t 17)), og 19 (.mv (.t 0)) 18, og 20 (.fieldA 0 (.t 7)) 18, og 21 (.load 1 false (.t 20)) 18, og 22 (.mv (.t 2)) 18, og 23 (.bin .sub (.t 21) (.t 22)) 18, og 24 (.bin .leq (.t 19) (.t 23)) 18, oo 25 (.pick (.t 18) (.t 24) (.c zf)), oo 26 (.mv (.t 25)), og 27 (.mv (.t 0)) 26, og 28 (.mv (.t 1)) 26, og 29 (.call (cf 63) [(.t 28)]) 26, og 30 (.bin .add (.t 27) (.t 29)) 26, og 31 (.fieldA 0 (.t 7)) 26, og 32 (.load 1 false (.t 31)) 26, og 33 (.fieldA 1 (.t 7)) 26, og 34 (.load 1 false (.t 33)) 26, og 35 (.call (cf 63) [(.t 34)]) 26, og 36 (.bin .add (.t 32) (.t 35)) 26, og 37 (.mv (.t 2)) 26, og 38 (.bin .sub (.t 36) (.t 37)) 26, og 39 (.bin .leq (.t 30) (.t 38)) 26, oo 40 (.pick (.t 26) (.t 39) (.c zf)), oo 8 (.mv (.t 40))] []) .ret))
theorem fn_ref09_Safe : FnOK Try.prog 22 41 [.t 8] ac_ref09_Safe := ⟨_, _, Try.func22, rfl, Try.ntmps22, by kernel_rfl, ⟨fun r => if r == 1 then [1007] else [], by kernel_rfl⟩, by kernel_rfl⟩
theorem ref09_Safe_ok (p1 : Int) (p2 : Int) (p3 : Int) (p4 : Guess) (r : Bool) (h : ref09_Safe p1 p2 p3 p4 = some r) : PCall Try.prog 22 [(i64 p1), (i64 p2), (i64 p3), (.agg [(i64 p4.R), (i64 p4.V)])] (bo r) := by
  refine l_call fn_ref09_Safe (nl rfl) ?_
  unfold ref09_Safe at h
  unfold ac_ref09_Safe
  refine l_sub (s0 := ⟨T [(0, (.d _)), (1, (.d _)), (2, (.d _)), (3, (.d _))], G []⟩) (sbr rfl rfl) ?_
  refine lr (fun u1 hu1 => sn rfl rfl (sv rfl (s_nil (l_seq (l_draw rfl fun u2 hu2 => sv rfl (sv rfl (sv rfl (sp rfl rfl (sl rfl G_hit rfl (sp rfl rfl (sl rfl G_hit rfl (s_val (dl eInt_i64 [p1, p2, p3, p4.R, p4.V]) rfl rfl (bs h fun v1 hv1 h => s_call rfl rfl all2_refl (ref09_sane_ok _  _ hv1) (.inl rfl) (sv rfl (gt rfl (fun _ => rfl) (gp rfl (gw_t rfl) (fun _ => rfl) (gt rfl (vl rfl G_hit rfl) (gt rfl (fun _ => rfl) (gt rfl (fun w5 => (v_bin (gd_pos w5) (gd_pos w5) rfl)) (gt rfl (fun w6 => (v_bin (gd_pos w6) (gd_pos w6) rfl)) (sa rfl rfl rfl (sv rfl (gt rfl (fun _ => rfl) (gt rfl (fun _ => rfl) (bs h fun v2 hv2 h => ?_)))))))))))))))))))))))))
  refine g_call _ (i64 v2) (gw_t rfl) (fun w9 => ⟨_, [(di p2)], _, _, (by simp only [gd_pos w9]; rfl), rfl, all2_refl, ref09_stop_ok _  _ (cond_t w9 hv2), (.inl rfl)⟩) ?_
  refine gt rfl (fun w10 => (v_bin (gd_pos w10) (gd_pos w10) rfl)) (gp rfl (gw_t rfl) (fun _ => rfl) (gt rfl (vl rfl G_hit rfl) (gp rfl (gw_t rfl) (fun _ => rfl) (gt rfl (vl rfl G_hit rfl) (bs h fun v3 hv3 h => ?_)))))
  refine g_call _ (i64 v3) (gw_t rfl) (fun w15 => ⟨_, [(di p4.V)], _, _, (by simp only [gd_pos w15]; rfl), rfl, all2_refl, ref09_stop_ok _  _ (cond_t w15 hv3), (.inl rfl)⟩) ?_
  refine gt rfl (fun w16 => (v_bin (gd_pos w16) (gd_pos w16) rfl)) (gt rfl (fun _ => rfl) (gt rfl (fun w18 => (v_bin (gd_pos w18) (gd_pos w18) rfl)) (gt rfl (fun w19 => (v_bin (gd_pos w19) (gd_pos w19) rfl)) (sa rfl rfl rfl (sv rfl (s_nil (l_ret ?_)))))))
  obtain rfl := Option.some.inj h
  exact fin_ok (.inr rfl) (resD1 (res_t rfl) rf_d) (.refl _)
end Go.Abs.Convoy
