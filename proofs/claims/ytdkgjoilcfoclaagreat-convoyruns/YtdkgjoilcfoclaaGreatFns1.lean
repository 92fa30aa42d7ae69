/-
  The Go functions that ConvoyRuns reaches, as plain Lean functions, and the proofs that the program computes them.
-/
import Derived.Test.YtdkgjoilcfoclaaGreatCoreD
import Derived.Test.YtdkgjoilcfoclaaGreatProg
import Derived.KernelRfl
import Derived.IntWalk
import Derived.Shelf.RegionOpenPlain
import Derived.WalkKit
import Derived.Lib.Walk
import Derived.Lib.JoinLaws
import Derived.Laws.Externs
import Derived.Laws.IdiomCopy
import Derived.Shelf.Spec.SlicesInsert
set_option maxRecDepth 20000
set_option maxHeartbeats 4000000
set_option linter.unusedVariables false
namespace Go.Abs.Convoyz
open Go Go.Abs Go.Proofs
attribute [local irreducible] regW regT AWL
abbrev eInt_i64 : Int → List D := fun x => [.v (.int .i64 x)]
abbrev eL_Int_i64 : (List Int) → List D := fun x => [.list (List.map eInt_i64 x)]
structure Note where
  Kind : Int
  From : Int
  To : Int
  Stamp : Int
  R : Int
  V : Int
  Until : Int
  deriving Inhabited
abbrev eNote : Note → List D := fun x => [(i64 x.Kind), (i64 x.From), (i64 x.To), (i64 x.Stamp), (i64 x.R), (i64 x.V), (i64 x.Until)]
abbrev eL_Note : (List Note) → List D := fun x => [.list (List.map eNote x)]
structure KitRing where
  l : (List Int)
  at_ : Int
  deriving Inhabited
structure Guess where
  R : Int
  V : Int
  deriving Inhabited
structure Mate where
  ID : Int
  S : Int
  V : Int
  Len : Int
  Ahead : Int
  Guess_ : Guess
  Trust : Bool
  Ward : Int
  WardGuess : Guess
  Until : Int
  deriving Inhabited
structure Guest where
  ID : Int
  S : Int
  V : Int
  Len : Int
  End : Int
  Ahead : Int
  Guess_ : Guess
  From : Int
  Until : Int
  deriving Inhabited
structure Convoy where
  Tick : Int
  Gap : Int
  Mates : (List Mate)
  Guest_ : Guest
  deriving Inhabited
abbrev eMate : Mate → List D := fun x => [(i64 x.ID), (i64 x.S), (i64 x.V), (i64 x.Len), (i64 x.Ahead), (i64 x.Guess_.R), (i64 x.Guess_.V), (bo x.Trust), (i64 x.Ward), (i64 x.WardGuess.R), (i64 x.WardGuess.V), (i64 x.Until)]
structure KitPost where
  sent : (List Note)
  deriving Inhabited
structure Sight where
  By : Int
  Lo : Int
  Hi : Int
  VLo : Int
  VHi : Int
  deriving Inhabited
abbrev eSight : Sight → List D := fun x => [(i64 x.By), (i64 x.Lo), (i64 x.Hi), (i64 x.VLo), (i64 x.VHi)]
structure ConvoyLetter where
  Note_ : Note
  guess : Guess
  deriving Inhabited
abbrev eConvoyLetter : ConvoyLetter → List D := fun x => [(i64 x.Note_.Kind), (i64 x.Note_.From), (i64 x.Note_.To), (i64 x.Note_.Stamp), (i64 x.Note_.R), (i64 x.Note_.V), (i64 x.Note_.Until), (i64 x.guess.R), (i64 x.guess.V)]
structure ConvoyMind where
  Mate_ : Mate
  tick : Int
  gap : Int
  sight : Sight
  sees : Bool
  deriving Inhabited
structure Anon7 where
  x : Int
  y : Int
  signed : Bool
  code : Int
  deriving Inhabited
structure RuntimeBoundsError where
  x : Int
  y : Int
  signed : Bool
  code : Int
  deriving Inhabited
structure Anon13 where
  msg : ByteArray
  addr : Int
  deriving Inhabited
structure RuntimeErrorAddressString where
  msg : ByteArray
  addr : Int
  deriving Inhabited
structure Anon27 where
  R : Int
  V : Int
  deriving Inhabited
structure Anon29 where
  ID : Int
  S : Int
  V : Int
  Len : Int
  End : Int
  Ahead : Int
  Guess_ : Guess
  From : Int
  Until : Int
  deriving Inhabited
structure Anon31 where
  Tick : Int
  Gap : Int
  Mates : (List Mate)
  Guest_ : Guest
  deriving Inhabited
structure Anon34 where
  sent : (List Note)
  deriving Inhabited
structure Anon42 where
  Kind : Int
  From : Int
  To : Int
  Stamp : Int
  R : Int
  V : Int
  Until : Int
  deriving Inhabited
structure Anon45 where
  By : Int
  Lo : Int
  Hi : Int
  VLo : Int
  VHi : Int
  deriving Inhabited
structure Anon50 where
  ID : Int
  S : Int
  V : Int
  Len : Int
  Ahead : Int
  Guess_ : Guess
  Trust : Bool
  Ward : Int
  WardGuess : Guess
  Until : Int
  deriving Inhabited
structure Anon59 where
  l : (List Int)
  at_ : Int
  deriving Inhabited
structure Anon78 where
  Mate_ : Mate
  tick : Int
  gap : Int
  sight : Sight
  sees : Bool
  deriving Inhabited
structure Anon104 where
  Note_ : Note
  guess : Guess
  deriving Inhabited
abbrev eConvoyMind : ConvoyMind → List D := fun x => [(i64 x.Mate_.ID), (i64 x.Mate_.S), (i64 x.Mate_.V), (i64 x.Mate_.Len), (i64 x.Mate_.Ahead), (i64 x.Mate_.Guess_.R), (i64 x.Mate_.Guess_.V), (bo x.Mate_.Trust), (i64 x.Mate_.Ward), (i64 x.Mate_.WardGuess.R), (i64 x.Mate_.WardGuess.V), (i64 x.Mate_.Until), (i64 x.tick), (i64 x.gap), (i64 x.sight.By), (i64 x.sight.Lo), (i64 x.sight.Hi), (i64 x.sight.VLo), (i64 x.sight.VHi), (bo x.sees)]
abbrev dConvoyMind : ConvoyMind → List AV := fun x => [(.d (i64 x.Mate_.ID)), (.d (i64 x.Mate_.S)), (.d (i64 x.Mate_.V)), (.d (i64 x.Mate_.Len)), (.d (i64 x.Mate_.Ahead)), (.d (i64 x.Mate_.Guess_.R)), (.d (i64 x.Mate_.Guess_.V)), (.d (bo x.Mate_.Trust)), (.d (i64 x.Mate_.Ward)), (.d (i64 x.Mate_.WardGuess.R)), (.d (i64 x.Mate_.WardGuess.V)), (.d (i64 x.Mate_.Until)), (.d (i64 x.tick)), (.d (i64 x.gap)), (.d (i64 x.sight.By)), (.d (i64 x.sight.Lo)), (.d (i64 x.sight.Hi)), (.d (i64 x.sight.VLo)), (.d (i64 x.sight.VHi)), (.d (bo x.sees))]
abbrev eConvoy : Convoy → List D := fun x => [(i64 x.Tick), (i64 x.Gap), (.list (List.map eMate x.Mates)), (i64 x.Guest_.ID), (i64 x.Guest_.S), (i64 x.Guest_.V), (i64 x.Guest_.Len), (i64 x.Guest_.End), (i64 x.Guest_.Ahead), (i64 x.Guest_.Guess_.R), (i64 x.Guest_.Guess_.V), (i64 x.Guest_.From), (i64 x.Guest_.Until)]
abbrev dConvoy : Convoy → List AV := fun x => [(.d (i64 x.Tick)), (.d (i64 x.Gap)), (.d (.list (List.map eMate x.Mates))), (.d (i64 x.Guest_.ID)), (.d (i64 x.Guest_.S)), (.d (i64 x.Guest_.V)), (.d (i64 x.Guest_.Len)), (.d (i64 x.Guest_.End)), (.d (i64 x.Guest_.Ahead)), (.d (i64 x.Guest_.Guess_.R)), (.d (i64 x.Guest_.Guess_.V)), (.d (i64 x.Guest_.From)), (.d (i64 x.Guest_.Until))]
abbrev dMate : Mate → List AV := fun x => [(.d (i64 x.ID)), (.d (i64 x.S)), (.d (i64 x.V)), (.d (i64 x.Len)), (.d (i64 x.Ahead)), (.d (i64 x.Guess_.R)), (.d (i64 x.Guess_.V)), (.d (bo x.Trust)), (.d (i64 x.Ward)), (.d (i64 x.WardGuess.R)), (.d (i64 x.WardGuess.V)), (.d (i64 x.Until))]
abbrev eGuest : Guest → List D := fun x => [(i64 x.ID), (i64 x.S), (i64 x.V), (i64 x.Len), (i64 x.End), (i64 x.Ahead), (i64 x.Guess_.R), (i64 x.Guess_.V), (i64 x.From), (i64 x.Until)]
abbrev dGuest : Guest → List AV := fun x => [(.d (i64 x.ID)), (.d (i64 x.S)), (.d (i64 x.V)), (.d (i64 x.Len)), (.d (i64 x.End)), (.d (i64 x.Ahead)), (.d (i64 x.Guess_.R)), (.d (i64 x.Guess_.V)), (.d (i64 x.From)), (.d (i64 x.Until))]
abbrev dConvoyLetter : ConvoyLetter → List AV := fun x => [(.d (i64 x.Note_.Kind)), (.d (i64 x.Note_.From)), (.d (i64 x.Note_.To)), (.d (i64 x.Note_.Stamp)), (.d (i64 x.Note_.R)), (.d (i64 x.Note_.V)), (.d (i64 x.Note_.Until)), (.d (i64 x.guess.R)), (.d (i64 x.guess.V))]
abbrev dNote : Note → List AV := fun x => [(.d (i64 x.Kind)), (.d (i64 x.From)), (.d (i64 x.To)), (.d (i64 x.Stamp)), (.d (i64 x.R)), (.d (i64 x.V)), (.d (i64 x.Until))]
abbrev dSight : Sight → List AV := fun x => [(.d (i64 x.By)), (.d (i64 x.Lo)), (.d (i64 x.Hi)), (.d (i64 x.VLo)), (.d (i64 x.VHi))]


noncomputable def kit_NewRing_m (p1 : (List Int)) : Option KitRing :=
  some (KitRing.mk p1 0)

theorem kit_NewRing_m_ok (p1 : (List Int)) (r : KitRing) (h : kit_NewRing_m p1 = some r) : MCall Tryz.prog 4 [(dl eInt_i64 p1)] [] (.ptr (800000, 0) 0) [] [some (.box 60 [(dl eInt_i64 r.l), (di r.at_)])] := by
 refine m_callT (fk Tryz.func4 Tryz.ntmps4 m0 (by with_unfolding_all rfl)) rfl (nl rfl) ?_
 unfold kit_NewRing_m at h
 refine l_sub (s0 := ⟨T [(0, (.d _))], G []⟩) (sbr rfl rfl) ?_
 refine lr (fun u1 hu1 => sv rfl (s_nil (lr (fun u2 hu2 => sv rfl (sv rfl (sn rfl rfl (sp rfl rfl (s_nil (l_ret ?_)))))))))
 cases h
 exact fin_m (v1 := (.ptr (5, u2) 0)) (.inr rfl) (resA1 (res_t rfl)) (.of rfl) [((5, u2), some (.box 60 [(dl eInt_i64 p1), (di 0)]))] (sbG_some G_hit (.of rfl) trivial) (mpost_o [(5, u2)] rfl trivial ⟨G_hit, trivial⟩ rfl (List.forall_mem_cons.2 ⟨fun i hi => old_far rfl hi, (fun _ h => nomatch h)⟩) nd1)

noncomputable def kit_Mod (p1 : Int) (p2 : Int) : Option Int :=
  (remc p1 p2).bind fun v1 => cond (decide (v1 < 0)) (some (w64 (v1 + p2))) (some v1)

theorem kit_Mod_ok (p1 : Int) (p2 : Int) (r : Int) (h : kit_Mod p1 p2 = some r) : PCall Tryz.prog 6 [(i64 p1), (i64 p2)] (i64 r) := by
 refine l_call (fk Tryz.func6 Tryz.ntmps6 m0 (by with_unfolding_all rfl)) (nl rfl) ?_
 unfold kit_Mod at h
 refine l_sub (s0 := ⟨T [(0, (.d _)), (1, (.d _))], G []⟩) (sbr rfl rfl) ?_
 refine lr (fun u1 hu1 => sv rfl (s_nil (lr (fun u2 hu2 => sv rfl (sv rfl (bs h fun v1 hv1 h => sd rfl (v_rem rfl rfl hv1) (sv rfl (s_nil (l_seq (lr (fun u3 hu3 => sv rfl (sv rfl (s_nil (cc rfl h (fun c1 h => ?_) (fun c1 h => ?_)))))))))))))))
 refine l_reg fun u4 hu4 => sv rfl (sv rfl (sv rfl (sv rfl (s_nil (lr (fun u5 hu5 => sv rfl (sv rfl (s_nil (l_ret ?_)))))))))
 cases h
 exact fin_ok (.inr rfl) (resD1 (res_t rfl) rf_d) (.refl _)
 refine l_skip (lr (fun u6 hu6 => sv rfl (sv rfl (s_nil (l_ret ?_)))))
 cases h
 exact fin_ok (.inr rfl) (resD1 (res_t rfl) rf_d) (.refl _)

noncomputable def kit_Ring_Next_o (p1 : KitRing) (p2 : Int) : Option (Int × KitRing) :=
  cond (decide ((p1.l.length : Int) > 0)) ((remc (w64 (p1.at_ + 1)) (p1.l.length : Int)).bind fun v1 => (geti p1.l v1).bind fun v2 => (kit_Mod v2 1048576).bind fun v3 => (quoc .i64 (w64 (p1.at_ + 1)) (p1.l.length : Int)).bind fun v4 => (quoc .i64 v3 (w64 (1 + v4))).bind fun v5 => (remc (w64 (((w64 ((w64 (p1.at_ + 1)) * 7919)).tmod 10007) + v5)) p2).bind fun v6 => some (v6, (KitRing.mk p1.l (w64 (p1.at_ + 1))))) ((remc ((w64 ((w64 (p1.at_ + 1)) * 7919)).tmod 10007) p2).bind fun v7 => some (v7, (KitRing.mk p1.l (w64 (p1.at_ + 1)))))

theorem kit_Ring_Next_o_ok (p1 : KitRing) (p2 : Int) (r : (Int × KitRing)) (h : kit_Ring_Next_o p1 p2 = some r) : MCall Tryz.prog 12 [(.ptr (900000, 0) 0), (di p2)] [(.box 60 [(dl eInt_i64 p1.l), (di p1.at_)])] (di r.1) [some (.box 60 [(dl eInt_i64 r.2.l), (di r.2.at_)])] [] := by
 refine m_callF (fk Tryz.func12 Tryz.ntmps12 m0 (by with_unfolding_all rfl)) rfl (nl rfl) ?_
 unfold kit_Ring_Next_o at h
 refine l_sub (s0 := ⟨T [(0, (.ptr _ _)), (1, (.d _))], G [((900000, 0), some (.box 60 _))]⟩) (sbr rfl rfl) ?_
 refine lr (fun u1 hu1 => sv rfl (s_nil (lr (fun u2 hu2 => sp rfl rfl (sp rfl rfl (sp rfl rfl (sl rfl G_hit rfl (sv rfl (sp rfl rfl (sp rfl rfl (sst rfl G_hit [(dl eInt_i64 p1.l), (di (w64 (p1.at_ + 1)))] rfl (s_nil (lr (fun u3 hu3 => sp rfl rfl (sp rfl rfl (sp rfl rfl (sl rfl G_hit rfl (sv rfl (sv rfl (sv rfl (s_nil (l_seq (lr (fun u4 hu4 => sp rfl rfl (sp rfl rfl (sp rfl rfl (sl rfl G_hit rfl (sd rfl (v_len rfl) (sv rfl (s_nil (cc rfl h (fun c1 h => ?_) (fun c1 h => ?_))))))))))))))))))))))))))))))))
 refine l_sub (s0 := ⟨T [(0, (.ptr _ _)), (1, (.d _)), (5, (.d _))], G [((900000, 0), some (.box 60 _))]⟩) (sbr rfl rfl) ?_
 refine l_draw rfl fun u5 hu5 => sv rfl (sp rfl rfl (sp rfl rfl (sp rfl rfl (sl rfl G_hit rfl (sp rfl rfl (sp rfl rfl (sp rfl rfl (sl rfl G_hit rfl (sp rfl rfl (sp rfl rfl (sp rfl rfl (sl rfl G_hit rfl (sd rfl (v_len rfl) (bs h fun v1 hv1 h => sd rfl (v_rem rfl rfl hv1) (bs h fun v2 hv2 h => sd rfl (v_idx rfl rfl hv2 rfl) (sd rfl (v_loadL rfl hv2 rfl) (bs h fun v3 hv3 h => s_call rfl rfl all2_refl (kit_Mod_ok _ _  _ hv3) (.inl rfl) (sp rfl rfl (sp rfl rfl (sp rfl rfl (sl rfl G_hit rfl (sp rfl rfl (sp rfl rfl (sp rfl rfl (sl rfl G_hit rfl (sd rfl (v_len rfl) (bs h fun v4 hv4 h => sd rfl (v_quo rfl rfl hv4) (sv rfl (bs h fun v5 hv5 h => sd rfl (v_quo rfl rfl hv5) (sv rfl (sv rfl (s_nil (l_seq (l_sub (s0 := ⟨T [(0, (.ptr _ _)), (1, (.d _)), (5, (.d _))], G [((900000, 0), some (.box 60 _))]⟩) (sbr rfl rfl) ?_))))))))))))))))))))))))))))))))))
 refine l_reg fun u6 hu6 => sv rfl (sv rfl (bs h fun v6 hv6 h => sd rfl (v_rem rfl rfl hv6) (sv rfl (s_nil (l_ret ?_)))))
 cases h
 exact fin_mf (.inr rfl) [] (resDF1 (res_t rfl) rf_d) (.refl _) ⟨⟨_, _, _, G_hit, old_notin_nil, rfl, all2_d, rfl⟩, trivial⟩
 refine l_skip (l_seq (l_sub (s0 := ⟨T [(0, (.ptr _ _)), (1, (.d _)), (5, (.d _))], G [((900000, 0), some (.box 60 _))]⟩) (sbr rfl rfl) ?_))
 refine l_reg fun u7 hu7 => sv rfl (sv rfl (bs h fun v7 hv7 h => sd rfl (v_rem rfl rfl hv7) (sv rfl (s_nil (l_ret ?_)))))
 cases h
 exact fin_mf (.inr rfl) [] (resDF1 (res_t rfl) rf_d) (.refl _) ⟨⟨_, _, _, G_hit, old_notin_nil, rfl, all2_d, rfl⟩, trivial⟩

noncomputable def ref09_sane_l1 (p1 : (List Int)) (x1 : Int) : Option (Stp Int (Sum Unit Bool)) :=
  cond (decide (x1 < (p1.length : Int))) ((geti p1 x1).bind fun v1 => ((cond (!(decide (v1 < (-4398046511104)))) (geti p1 x1) (some default))).bind fun v2 => cond ((decide (v1 < (-4398046511104))) || (decide (v2 > 4398046511104))) (some (.out (.inr false))) (some (.go (w64 (x1 + 1))))) (some (.out (.inl ())))
noncomputable def ref09_sane (p1 : (List Int)) : Option Bool :=
  thenS (loop (ref09_sane_l1 p1) 0) (fun _ => some true) (fun r => some r)

theorem ref09_sane_ok (p1 : (List Int)) (r : Bool) (h : ref09_sane p1 = some r) : PCall Tryz.prog 94 [(.list (List.map eInt_i64 p1))] (bo r) := by
 refine l_call (fk Tryz.func94 Tryz.ntmps94 m0 (by with_unfolding_all rfl)) (nl rfl) ?_
 unfold ref09_sane at h
 refine l_sub (s0 := ⟨T [(0, (.d _))], G []⟩) (sbr rfl rfl) ?_
 refine lr (fun u1 hu1 => sv rfl (s_nil (l_seq (lr (fun u2 hu2 => sv rfl (s_nil (js h fun z1 hz1 h => l_join (fun s => ∃ (y1 : Unit) (g1 : Unit), z1 = .inl y1 ∧ Sb ⟨T [], G []⟩ s) ?_ ?_)))))))
 refine l_block (l_loop (ref09_sane_l1 p1) (fun (x1 : Int) (g2 : Unit) => ⟨T [(0, (dl eInt_i64 p1)), (3, (di x1))], G []⟩) 0 () _ hz1 (sbr rfl rfl) ?_)
 intro x1 g2 z2 hz2 ez2
 unfold ref09_sane_l1 at hz2
 refine l_seq (lr (fun u3 hu3 => sv rfl (sv rfl (sd rfl (v_len rfl) (sv rfl (s_nil (cc rfl hz2 (fun c1 hz2 => ?_) (fun c1 hz2 => ?_))))))))
 refine l_skip (l_seq (l_block (lr (fun u4 hu4 => sv rfl (sv rfl (bs hz2 fun v1 hv1 hz2 => sd rfl (v_idx rfl rfl hv1 rfl) (sd rfl (v_loadL rfl hv1 rfl) (sv rfl (sv rfl (gf rfl (fun _ => rfl) (gf rfl (fun _ => rfl) (bs hz2 fun v2 hv2 hz2 => gf rfl (fun w3 => (v_idx (gd_pos w3) (gd_pos w3) (cond_t w3 hv2) rfl)) (gf rfl (fun w4 => (v_loadL (gd_pos w4) (cond_t w4 hv2) rfl)) (gf rfl (vb rfl rfl rfl) (sd rfl (v_or rfl rfl (fun hc => gd_pos (not_t hc))) (s_nil (cc rfl hz2 (fun c2 hz2 => ?_) (fun c2 hz2 => ?_))))))))))))))))))
 refine lr (fun u5 hu5 => sv rfl (s_nil (l_ret ?_)))
 cases hz2
 obtain rfl := ez2 _ rfl
 refine ⟨nofun, awl_ret ?_⟩
 rw [Sum.elim_inr] at h
 cases h
 exact fin_ok (.inr rfl) (resD1 (res_t rfl) rf_d) (.refl _)
 refine l_skip (l_end (l_reg fun u6 hu6 => sv rfl (sv rfl (sv rfl (s_nil (l_nil ?_))))))
 cases hz2
 exact ⟨rfl, (), (sbr rfl rfl)⟩
 refine l_exitN rfl ?_
 cases hz2
 obtain rfl := ez2 _ rfl
 refine ⟨nofun, awl_pop rfl (l_j ?_)⟩
 exact ⟨_, (), rfl, (sbr rfl rfl)⟩
 rintro _ ⟨y1, g1, rfl, q1⟩
 rw [Sum.elim_inl] at h
 refine l_sub q1 (lr (fun u7 hu7 => sv rfl (s_nil (l_ret ?_))))
 cases h
 exact fin_ok (.inr rfl) (resD1 (res_t rfl) rf_d) (.refl _)

noncomputable def ref04_Stop_l1 (p2 : Int) (x1 : (Int × Int)) : Option (Stp (Int × Int) Int) :=
  cond (decide (x1.1 > (mm2 false p2 1000000))) (some (.go ((w64 (x1.1 - (mm2 false p2 1000000))), (w64 (x1.2 + (w64 (x1.1 - (mm2 false p2 1000000)))))))) (some (.out x1.2))
noncomputable def ref04_Stop (p1 : Int) (p2 : Int) : Option Int :=
  cond ((decide ((mm2 false p1 1000000) < 1)) || (decide ((mm2 false p2 1000000) < 1))) (some 0) ((loop (ref04_Stop_l1 p2) ((mm2 false p1 1000000), 0)).bind fun y1 => some y1)

theorem ref04_Stop_ok (p1 : Int) (p2 : Int) (r : Int) (h : ref04_Stop p1 p2 = some r) : PCall Tryz.prog 98 [(i64 p1), (i64 p2)] (i64 r) := by
 refine l_call (fk Tryz.func98 Tryz.ntmps98 m0 (by with_unfolding_all rfl)) (nl rfl) ?_
 unfold ref04_Stop at h
 refine l_sub (s0 := ⟨T [(0, (.d _)), (1, (.d _))], G []⟩) (sbr rfl rfl) ?_
 refine lr (fun u1 hu1 => sv rfl (s_nil (lr (fun u2 hu2 => sv rfl (sv rfl (sv rfl (sv rfl (sv rfl (sv rfl (s_nil (lr (fun u3 hu3 => sv rfl (s_nil (l_seq (lr (fun u4 hu4 => sv rfl (sv rfl (sv rfl (gf rfl (fun _ => rfl) (gf rfl (vb rfl rfl rfl) (sd rfl (v_or rfl rfl (fun hc => gd_pos (not_t hc))) (s_nil (cc rfl h (fun c1 h => ?_) (fun c1 h => ?_))))))))))))))))))))))))
 refine lr (fun u5 hu5 => sv rfl (s_nil (l_ret ?_)))
 cases h
 exact fin_ok (.inr rfl) (resD1 (res_t rfl) rf_d) (.refl _)
 refine l_skip (l_seq (bs h fun y1 hy1 h => l_join (fun s => ∃ g1 : Unit, Sb ⟨T [(5, (di y1))], G []⟩ s) ?_ ?_))
 refine l_block (l_loop (ref04_Stop_l1 p2) (fun (x1 : (Int × Int)) (g2 : Unit) => ⟨T [(0, (di x1.1)), (1, (di (mm2 false p2 1000000))), (5, (di x1.2))], G []⟩) ((mm2 false p1 1000000), 0) () _ hy1 (sbr rfl rfl) ?_)
 intro x1 g2 z1 hz1 ez1
 unfold ref04_Stop_l1 at hz1
 refine l_seq (lr (fun u6 hu6 => sv rfl (sv rfl (sv rfl (s_nil (cc rfl hz1 (fun c2 hz1 => ?_) (fun c2 hz1 => ?_)))))))
 refine l_skip (l_block (lr (fun u7 hu7 => sv rfl (sv rfl (sv rfl (sv rfl (s_nil (l_reg fun u8 hu8 => sv rfl (sv rfl (sv rfl (sv rfl (s_nil (l_end (l_nil ?_))))))))))))))
 cases hz1
 exact ⟨rfl, (), (sbr rfl rfl)⟩
 refine l_exitN rfl ?_
 cases hz1
 obtain rfl := ez1 _ rfl
 refine ⟨nofun, awl_pop rfl (l_j ?_)⟩
 exact ⟨(), (sbr rfl rfl)⟩
 rintro _ ⟨g1, q1⟩
 refine l_sub q1 (lr (fun u9 hu9 => sv rfl (sv rfl (s_nil (l_ret ?_)))))
 cases h
 exact fin_ok (.inr rfl) (resD1 (res_t rfl) rf_d) (.refl _)

noncomputable def ref09_stop (p1 : Int) : Option Int :=
  (ref04_Stop p1 90).bind fun v1 => some v1

theorem ref09_stop_ok (p1 : Int) (r : Int) (h : ref09_stop p1 = some r) : PCall Tryz.prog 56 [(i64 p1)] (i64 r) := by
 refine l_call (fk Tryz.func56 Tryz.ntmps56 m0 (by with_unfolding_all rfl)) (nl rfl) ?_
 unfold ref09_stop at h
 refine l_sub (s0 := ⟨T [(0, (.d _))], G []⟩) (sbr rfl rfl) ?_
 refine lr (fun u1 hu1 => sv rfl (s_nil (lr (fun u2 hu2 => sv rfl (bs h fun v1 hv1 h => s_call rfl rfl all2_refl (ref04_Stop_ok _ _  _ hv1) (.inl rfl) (sv rfl (s_nil (l_ret ?_))))))))
 cases h
 exact fin_ok (.inr rfl) (resD1 (res_t rfl) rf_d) (.refl _)

noncomputable def ref09_Safe (p1 : Int) (p2 : Int) (p3 : Int) (p4 : Guess) : Option Bool :=
  (ref09_sane [p1, p2, p3, p4.R, p4.V]).bind fun v1 => ((cond (v1 && (decide (p1 ≤ (w64 (p4.R - p3))))) (ref09_stop p2) (some default))).bind fun v2 => ((cond (v1 && (decide (p1 ≤ (w64 (p4.R - p3))))) (ref09_stop p4.V) (some default))).bind fun v3 => some ((v1 && (decide (p1 ≤ (w64 (p4.R - p3))))) && (decide ((w64 (p1 + v2)) ≤ (w64 ((w64 (p4.R + v3)) - p3)))))

theorem ref09_Safe_ok (p1 : Int) (p2 : Int) (p3 : Int) (p4 : Guess) (r : Bool) (h : ref09_Safe p1 p2 p3 p4 = some r) : PCall Tryz.prog 53 [(i64 p1), (i64 p2), (i64 p3), (.agg [(i64 p4.R), (i64 p4.V)])] (bo r) := by
 refine l_call (fk Tryz.func53 Tryz.ntmps53 (fun r => if r == 1 then [1007] else []) (by with_unfolding_all rfl)) (nl rfl) ?_
 unfold ref09_Safe at h
 refine l_sub (s0 := ⟨T [(0, (.d _)), (1, (.d _)), (2, (.d _)), (3, (.d _))], G []⟩) (sbr rfl rfl) ?_
 refine lr (fun u1 hu1 => sn rfl rfl (sv rfl (s_nil (l_seq (l_draw rfl fun u2 hu2 => sv rfl (sv rfl (sv rfl (sp rfl rfl (sl rfl G_hit rfl (sp rfl rfl (sl rfl G_hit rfl (s_val (dl eInt_i64 [p1, p2, p3, p4.R, p4.V]) rfl rfl (bs h fun v1 hv1 h => s_call rfl rfl all2_refl (ref09_sane_ok _  _ hv1) (.inl rfl) (sv rfl (gt rfl (fun _ => rfl) (gp rfl (gw_t rfl) (fun _ => rfl) (gt rfl (vl rfl G_hit rfl) (gt rfl (fun _ => rfl) (gt rfl (fun w5 => (v_bin (gd_pos w5) (gd_pos w5) rfl)) (gt rfl (fun w6 => (v_bin (gd_pos w6) (gd_pos w6) rfl)) (sa rfl rfl rfl (sv rfl (gt rfl (fun _ => rfl) (gt rfl (fun _ => rfl) (bs h fun v2 hv2 h => ?_)))))))))))))))))))))))))
 refine g_call _ (i64 v2) (gw_t rfl) (fun w9 => ⟨_, [(di p2)], _, _, (by simp only [gd_pos w9]; rfl), rfl, all2_refl, ref09_stop_ok _  _ (cond_t w9 hv2), (.inl rfl)⟩) ?_
 refine gt rfl (fun w10 => (v_bin (gd_pos w10) (gd_pos w10) rfl)) (gp rfl (gw_t rfl) (fun _ => rfl) (gt rfl (vl rfl G_hit rfl) (gp rfl (gw_t rfl) (fun _ => rfl) (gt rfl (vl rfl G_hit rfl) (bs h fun v3 hv3 h => ?_)))))
 refine g_call _ (i64 v3) (gw_t rfl) (fun w15 => ⟨_, [(di p4.V)], _, _, (by simp only [gd_pos w15]; rfl), rfl, all2_refl, ref09_stop_ok _  _ (cond_t w15 hv3), (.inl rfl)⟩) ?_
 refine gt rfl (fun w16 => (v_bin (gd_pos w16) (gd_pos w16) rfl)) (gt rfl (fun _ => rfl) (gt rfl (fun w18 => (v_bin (gd_pos w18) (gd_pos w18) rfl)) (gt rfl (fun w19 => (v_bin (gd_pos w19) (gd_pos w19) rfl)) (sa rfl rfl rfl (sv rfl (s_nil (l_ret ?_)))))))
 cases h
 exact fin_ok (.inr rfl) (resD1 (res_t rfl) rf_d) (.refl _)

noncomputable def kit_Mates_o_l2 (p2 : Int) (v4 : Mate) (x2 : Mate) : Option (Stp Mate Mate) :=
  (ref09_Safe x2.S x2.V p2 (Guess.mk (w64 (v4.S - v4.Len)) v4.V)).bind fun v7 => cond (!v7) (some (.go (Mate.mk x2.ID (w64 (x2.S - 500)) x2.V x2.Len x2.Ahead x2.Guess_ x2.Trust x2.Ward x2.WardGuess x2.Until))) (some (.out x2))
noncomputable def kit_Mates_o_l1 (p2 : Int) (x1 : ((List Mate) × Int × KitRing)) : Option (Stp ((List Mate) × Int × KitRing) ((List Mate) × KitRing)) :=
  cond (decide (x1.2.1 > 0)) ((geti x1.1 (w64 ((x1.1.length : Int) - 1))).bind fun v4 => (kit_Ring_Next_o x1.2.2 2001).bind fun v5 => (kit_Ring_Next_o v5.2 6000).bind fun v6 => (loop (kit_Mates_o_l2 p2 v4) (Mate.mk 0 (w64 ((w64 (v4.S - v4.Len)) - p2)) v5.1 (w64 (300 + v6.1)) 0 (Guess.mk 0 0) false 0 (Guess.mk 0 0) 0)).bind fun y2 => (kit_Ring_Next_o v6.2 3).bind fun v8 => (kit_Ring_Next_o v8.2 9000).bind fun v9 => (appc x1.1 [(Mate.mk y2.ID (w64 (y2.S - (w64 (v8.1 * v9.1)))) y2.V y2.Len y2.Ahead y2.Guess_ y2.Trust y2.Ward y2.WardGuess y2.Until)]).bind fun v10 => some (.go (v10, (w64 (x1.2.1 - 1)), v9.2))) (some (.out (x1.1, x1.2.2)))
noncomputable def kit_Mates_o (p1 : KitRing) (p2 : Int) (p3 : Int) : Option ((List Mate) × KitRing) :=
  (kit_Ring_Next_o p1 2001).bind fun v1 => (kit_Ring_Next_o v1.2 6000).bind fun v2 => (kit_Ring_Next_o v2.2 p3).bind fun v3 => (loop (kit_Mates_o_l1 p2) ([(Mate.mk 0 16777216 v1.1 (w64 (300 + v2.1)) 0 (Guess.mk 0 0) false 0 (Guess.mk 0 0) 0)], v3.1, v3.2)).bind fun y1 => some (y1.1, y1.2)

theorem kit_Mates_o_ok (p1 : KitRing) (p2 : Int) (p3 : Int) (r : ((List Mate) × KitRing)) (h : kit_Mates_o p1 p2 p3 = some r) : MCall Tryz.prog 20 [(.ptr (900000, 0) 0), (di p2), (di p3)] [(.box 60 [(dl eInt_i64 p1.l), (di p1.at_)])] (dl eMate r.1) [some (.box 60 [(dl eInt_i64 r.2.l), (di r.2.at_)])] [] := by
 refine m_callF (fk Tryz.func20 Tryz.ntmps20 (fun r => if r == 1 then [1001001, 1001003] else if r == 2 then [1002002] else if r == 7 then [1007005, 1007007] else if r == 10 then [1010003, 1010005] else if r == 11 then [1002] else []) (by with_unfolding_all rfl)) rfl (nl rfl) ?_
 unfold kit_Mates_o at h
 refine l_sub (s0 := ⟨T [(0, (.ptr _ _)), (1, (.d _)), (2, (.d _))], G [((900000, 0), some (.box 60 _))]⟩) (sbr rfl rfl) ?_
 refine lr (fun u1 hu1 => sv rfl (s_nil (lr (fun u2 hu2 => sp rfl rfl (bs h fun v1 hv1 h => s_oc (v := .d (i64 v1.1)) (us := [(900000, 0)]) (oc_m (kit_Ring_Next_o_ok _ _ _ hv1) [(900000, 0)] [(900000, 0)] _ (((900000, 0), some (.box 60 [(dl eInt_i64 v1.2.l), (di v1.2.at_)])) :: _) rfl all2_av (kl_cons (kr_ptr G_hit rfl) (kl_cons kr_d kl_nil)) (live_cons G_hit live_nil) ⟨⟨_, G_hit, .of rfl⟩, trivial⟩ (fun _ h => h) nd1 rfl rfl rfl) (sp rfl rfl (bs h fun v2 hv2 h => s_oc (v := .d (i64 v2.1)) (us := [(900000, 0)]) (oc_m (kit_Ring_Next_o_ok _ _ _ hv2) [(900000, 0)] [(900000, 0)] _ (((900000, 0), some (.box 60 [(dl eInt_i64 v2.2.l), (di v2.2.at_)])) :: _) rfl all2_av (kl_cons (kr_ptr G_hit rfl) (kl_cons kr_d kl_nil)) (live_cons G_hit live_nil) ⟨⟨_, G_hit, .of rfl⟩, trivial⟩ (fun _ h => h) nd1 rfl rfl rfl) (sv rfl (sv rfl (s_new (.sl _) (.arr 51 12 (List.map eMate ([(Mate.mk 0 16777216 v1.1 (w64 (300 + v2.1)) 0 (Guess.mk 0 0) false 0 (Guess.mk 0 0) 0)] : List Mate))) rfl (aval_bsliceN eMate _ (fun _ => rfl) rfl rfl ⟨rfl, rfl, rfl, trivial⟩) (ss rfl (s_nil (l_seq (lr (fun u3 hu3 => sp rfl rfl (sv rfl (bs h fun v3 hv3 h => s_oc (v := .d (i64 v3.1)) (us := [(900000, 0)]) (oc_m (kit_Ring_Next_o_ok _ _ _ hv3) [(900000, 0)] [(900000, 0)] _ (((900000, 0), some (.box 60 [(dl eInt_i64 v3.2.l), (di v3.2.at_)])) :: _) rfl all2_av (kl_cons (kr_ptr (G_skip rfl G_hit) rfl) (kl_cons kr_d kl_nil)) (live_cons (G_skip rfl G_hit) live_nil) ⟨⟨_, (G_skip rfl G_hit), .of rfl⟩, trivial⟩ (fun _ h => h) nd1 rfl rfl rfl) (sv rfl (s_nil (bs h fun y1 hy1 h => l_join (fun s => ∃ g1 : ({d : Nat // d ∈ [18, 74]} × Nat), Sb ⟨T [(0, (.ptr (900000, 0) 0)), (7, (oS y1.1 (g1.1.val, g1.2)))], G [((900000, 0), some (.box 60 [(dl eInt_i64 y1.2.l), (di y1.2.at_)])), ((g1.1.val, g1.2), oB 51 12 eMate y1.1)]⟩ s) ?_ ?_))))))))))))))))))))
 refine l_block (l_loop (kit_Mates_o_l1 p2) (fun (x1 : ((List Mate) × Int × KitRing)) (g2 : ({d : Nat // d ∈ [18, 74]} × Nat)) => ⟨T [(0, (.ptr (900000, 0) 0)), (1, (di p2)), (7, (oS x1.1 (g2.1.val, g2.2))), (8, (di x1.2.1))], G [((900000, 0), some (.box 60 [(dl eInt_i64 x1.2.2.l), (di x1.2.2.at_)])), ((g2.1.val, g2.2), oB 51 12 eMate x1.1)]⟩) ([(Mate.mk 0 16777216 v1.1 (w64 (300 + v2.1)) 0 (Guess.mk 0 0) false 0 (Guess.mk 0 0) 0)], v3.1, v3.2) (⟨18, .head _⟩, u2) _ hy1 (sb_of ⟨.of rfl, .of rfl, (.of (oS_ne (List.cons_ne_nil _ _)).symm), .of rfl, trivial⟩ (sbG_some G_hit (.of rfl) (sbG_own (gq rfl) trivial))) ?_)
 intro x1 g2 z1 hz1 ez1
 unfold kit_Mates_o_l1 at hz1
 refine l_seq (lr (fun u4 hu4 => sv rfl (sv rfl (s_nil (cc rfl hz1 (fun c1 hz1 => ?_) (fun c1 hz1 => ?_))))))
 refine l_skip (l_seq (l_block (lr (fun u5 hu5 => s_val (oS x1.1 (g2.1.val, g2.2)) rfl rfl (s_val (oS x1.1 (g2.1.val, g2.2)) rfl rfl (sd rfl (v_lenO (f := eMate) rfl (G_skip (neL g2.1.property rfl) G_hit)) (sv rfl (bs hz1 fun v4 hv4 hz1 => s_val (.aptr _ _ _ _) rfl (v_idxO rfl rfl (G_skip (neL g2.1.property rfl) G_hit) hv4) (sd rfl (v_loadAG rfl (look_oB (G_skip (neL g2.1.property rfl) G_hit) (geti_ne hv4)) hv4 rfl rfl) (sn rfl rfl (sst rfl G_hit (dMate v4) rfl (s_nil (lr (fun u6 hu6 => sp rfl rfl (sl rfl G_hit rfl (sp rfl rfl (sl rfl G_hit rfl (sv rfl (sp rfl rfl (sl rfl G_hit rfl (sv rfl (sn rfl rfl (sst rfl G_hit [(di (w64 (v4.S - v4.Len))), (di v4.V)] rfl (s_nil (l_seq (l_sub (s0 := ⟨T [(0, (.ptr (900000, 0) 0)), (1, (di p2)), (7, (oS x1.1 (g2.1.val, g2.2))), (8, (di x1.2.1)), (10, (.ptr (10, u6) 0))], G [((900000, 0), some (.box 60 [(dl eInt_i64 x1.2.2.l), (di x1.2.2.at_)])), ((g2.1.val, g2.2), oB 51 12 eMate x1.1), ((10, u6), some (.box 28 [(di (w64 (v4.S - v4.Len))), (di v4.V)]))]⟩) (sb_of ⟨.of rfl, .of rfl, .of rfl, .of rfl, .of rfl, trivial⟩ (sg rfl (sbG_oB (G_skip (neL g2.1.property rfl) (G_skip (neL g2.1.property rfl) (G_skip (neL g2.1.property rfl) (G_skip (neL g2.1.property rfl) (G_skip (neL g2.1.property rfl) G_hit))))) (sbG_some G_hit (.of rfl) trivial)))) ?_))))))))))))))))))))))))))
 refine l_drawT fun u7 hu7 => t_val (.ptr _ _) rfl rfl (t_val (.d _) rfl (v_load rfl (G_skip rfl (G_skip (neR g2.1.property rfl) G_hit)) rfl) (t_val (.d _) rfl rfl (t_val (.d _) rfl rfl (t_val (.ptr _ _) rfl rfl (bs hz1 fun v5 hv5 hz1 => t_oc (v := .d (i64 v5.1)) (us := [(900000, 0)]) (oc_m (kit_Ring_Next_o_ok _ _ _ hv5) [(900000, 0)] [(900000, 0)] _ (((900000, 0), some (.box 60 [(dl eInt_i64 v5.2.l), (di v5.2.at_)])) :: _) rfl all2_av (kl_cons (kr_ptr G_hit rfl) (kl_cons kr_d kl_nil)) (live_cons G_hit live_nil) ⟨⟨_, G_hit, .of rfl⟩, trivial⟩ (fun _ h => h) nd1 rfl rfl rfl) (t_val (.ptr _ _) rfl rfl (bs hz1 fun v6 hv6 hz1 => t_oc (v := .d (i64 v6.1)) (us := [(900000, 0)]) (oc_m (kit_Ring_Next_o_ok _ _ _ hv6) [(900000, 0)] [(900000, 0)] _ (((900000, 0), some (.box 60 [(dl eInt_i64 v6.2.l), (di v6.2.at_)])) :: _) rfl all2_av (kl_cons (kr_ptr G_hit rfl) (kl_cons kr_d kl_nil)) (live_cons G_hit live_nil) ⟨⟨_, G_hit, .of rfl⟩, trivial⟩ (fun _ h => h) nd1 rfl rfl rfl) (t_val (.d _) rfl rfl (t_val (.d _) rfl rfl (t_new (.ptr _ _) (.box _ _) rfl rfl (t_store _ _ _ _ _ rfl rfl rfl G_hit (nl rfl) ([(di 0), (di (w64 ((w64 (v4.S - v4.Len)) - p2))), (di v5.1), (di (w64 (300 + v6.1)))] ++ ((zs 8).set 3 (.d (bo false)))) rfl (t_nil ⟨by first | rfl | ((generalize g2.1 = q0; rcases q0 with ⟨d0, _ | ⟨_, _ | ⟨_, h0⟩⟩⟩) <;> (generalize x1.1 = z1; cases z1) <;> first | rfl | contradiction), ?_⟩))))))))))))
 refine l_seq (bs hz1 fun y2 hy2 hz1 => l_join (fun s => ∃ g3 : Unit, Sb ⟨T [(0, (.ptr (900000, 0) 0)), (1, (di p2)), (7, (oS x1.1 (g2.1.val, g2.2))), (8, (di x1.2.1)), (11, (.ptr (11, u7) 0))], G [((900000, 0), some (.box 60 [(dl eInt_i64 v6.2.l), (di v6.2.at_)])), ((g2.1.val, g2.2), oB 51 12 eMate x1.1), ((11, u7), some (.box 51 (dMate y2)))]⟩ s) ?_ ?_)
 refine l_block (l_loop (kit_Mates_o_l2 p2 v4) (fun (x2 : Mate) (g4 : Unit) => ⟨T [(0, (.ptr (900000, 0) 0)), (1, (di p2)), (7, (oS x1.1 (g2.1.val, g2.2))), (8, (di x1.2.1)), (10, (.ptr (10, u6) 0)), (11, (.ptr (11, u7) 0))], G [((900000, 0), some (.box 60 [(dl eInt_i64 v6.2.l), (di v6.2.at_)])), ((g2.1.val, g2.2), oB 51 12 eMate x1.1), ((10, u6), some (.box 28 [(di (w64 (v4.S - v4.Len))), (di v4.V)])), ((11, u7), some (.box 51 (dMate x2)))]⟩) (Mate.mk 0 (w64 ((w64 (v4.S - v4.Len)) - p2)) v5.1 (w64 (300 + v6.1)) 0 (Guess.mk 0 0) false 0 (Guess.mk 0 0) 0) () _ hy2 (sb_of ⟨.of rfl, .of rfl, .of rfl, .of rfl, .of rfl, .of rfl, trivial⟩ (sg rfl (sbG_oB (G_skip (neL g2.1.property rfl) (G_skip (neL g2.1.property rfl) (G_skip (neL g2.1.property rfl) (G_skip (neL g2.1.property rfl) (G_skip (neL g2.1.property rfl) G_hit))))) (sbG_some (G_skip rfl (G_skip rfl (G_skip rfl (G_skip rfl (G_skip rfl (G_skip (neR g2.1.property rfl) G_hit)))))) (.of rfl) (sbG_some G_hit (.of rfl) trivial))))) ?_)
 intro x2 g4 z2 hz2 ez2
 unfold kit_Mates_o_l2 at hz2
 refine l_seq (lr (fun u8 hu8 => sp rfl rfl (sd rfl (v_load rfl (G_skip rfl (G_skip (neR g2.1.property rfl) (gq rfl))) rfl) (sp rfl rfl (sd rfl (v_load rfl (G_skip rfl (G_skip (neR g2.1.property rfl) (gq rfl))) rfl) (sv rfl (sd rfl (v_loadG rfl (G_skip rfl (G_skip (neR g2.1.property rfl) G_hit)) rfl rfl) (bs hz2 fun v7 hv7 hz2 => s_call rfl rfl all2_refl (ref09_Safe_ok _ _ _ _  _ hv7) (.inl rfl) (s_val (.d (bo (!v7))) rfl rfl (s_nil (cc rfl hz2 (fun c2 hz2 => ?_) (fun c2 hz2 => ?_))))))))))))
 refine l_skip (l_block (l_reg fun u9 hu9 => sp rfl rfl (sd rfl (v_load rfl (G_skip rfl (G_skip (neR g2.1.property rfl) (gq rfl))) rfl) (sv rfl (sp rfl rfl (s_store _ _ _ _ _ rfl rfl rfl (G_skip rfl (G_skip (neR g2.1.property rfl) (gq rfl))) (nl rfl) ((dMate x2).set 1 (di (w64 (x2.S - 500)))) rfl (s_nil (l_end (l_nil ?_)))))))))
 cases hz2
 exact ⟨rfl, (), (sb_of ⟨.of rfl, .of rfl, .of rfl, .of rfl, .of rfl, .of rfl, trivial⟩ (sg rfl (sbG_oB (G_skip (neL g2.1.property rfl) (G_skip (neL g2.1.property rfl) G_hit)) (sbG_some (G_skip rfl (G_skip rfl (G_skip (neR g2.1.property rfl) G_hit))) (.of rfl) (sbG_some G_hit (.of rfl) trivial)))))⟩
 refine l_exitN rfl ?_
 cases hz2
 obtain rfl := ez2 _ rfl
 refine ⟨nofun, awl_pop rfl (l_j ?_)⟩
 exact ⟨(), (sb_of ⟨.of rfl, .of rfl, .of rfl, .of rfl, .of rfl, trivial⟩ (sbG_some G_hit (.of rfl) (sbG_oB (G_skip (neL g2.1.property rfl) G_hit) (sbG_some (G_skip rfl (G_skip (neR g2.1.property rfl) (gq rfl))) (.of rfl) trivial))))⟩
 rintro _ ⟨g3, q1⟩
 refine l_sub q1 (l_seq (l_drawT fun u10 hu10 => t_val (.ptr _ _) rfl rfl (t_val (.d _) rfl (v_load rfl (G_skip rfl (G_skip (neR g2.1.property rfl) G_hit)) rfl) (t_val (.ptr _ _) rfl rfl (bs hz1 fun v8 hv8 hz1 => t_oc (v := .d (i64 v8.1)) (us := [(900000, 0)]) (oc_m (kit_Ring_Next_o_ok _ _ _ hv8) [(900000, 0)] [(900000, 0)] _ (((900000, 0), some (.box 60 [(dl eInt_i64 v8.2.l), (di v8.2.at_)])) :: _) rfl all2_av (kl_cons (kr_ptr G_hit rfl) (kl_cons kr_d kl_nil)) (live_cons G_hit live_nil) ⟨⟨_, G_hit, .of rfl⟩, trivial⟩ (fun _ h => h) nd1 rfl rfl rfl) (t_val (.ptr _ _) rfl rfl (bs hz1 fun v9 hv9 hz1 => t_oc (v := .d (i64 v9.1)) (us := [(900000, 0)]) (oc_m (kit_Ring_Next_o_ok _ _ _ hv9) [(900000, 0)] [(900000, 0)] _ (((900000, 0), some (.box 60 [(dl eInt_i64 v9.2.l), (di v9.2.at_)])) :: _) rfl all2_av (kl_cons (kr_ptr G_hit rfl) (kl_cons kr_d kl_nil)) (live_cons G_hit live_nil) ⟨⟨_, G_hit, .of rfl⟩, trivial⟩ (fun _ h => h) nd1 rfl rfl rfl) (t_val (.d _) rfl rfl (t_val (.d _) rfl rfl (t_val (.ptr _ _) rfl rfl (t_store _ _ _ _ _ rfl rfl rfl (G_skip rfl (G_skip rfl (G_skip rfl (G_skip (neR g2.1.property rfl) G_hit)))) (nl rfl) ((dMate y2).set 1 (di (w64 (y2.S - (w64 (v8.1 * v9.1)))))) rfl (t_nil ⟨by first | rfl | ((generalize g2.1 = q0; rcases q0 with ⟨d0, _ | ⟨_, _ | ⟨_, h0⟩⟩⟩) <;> (generalize x1.1 = z1; cases z1) <;> first | rfl | contradiction), ?_⟩))))))))))))
 refine l_reg fun u11 hu11 => s_val (oS x1.1 (g2.1.val, g2.2)) rfl rfl (sd rfl (v_loadG rfl G_hit rfl rfl) (s_val (dl eMate [(Mate.mk y2.ID (w64 (y2.S - (w64 (v8.1 * v9.1)))) y2.V y2.Len y2.Ahead y2.Guess_ y2.Trust y2.Ward y2.WardGuess y2.Until)]) rfl (v_dsliceN eMate ([(Mate.mk y2.ID (w64 (y2.S - (w64 (v8.1 * v9.1)))) y2.V y2.Len y2.Ahead y2.Guess_ y2.Trust y2.Ward y2.WardGuess y2.Until)] : List Mate) (fun _ => rfl) rfl rfl ⟨rfl, rfl, rfl, trivial⟩) (bs hz1 fun v10 hv10 hz1 => s_appendO eMate (g2.1.val, g2.2) x1.1 (Mate.mk y2.ID (w64 (y2.S - (w64 (v8.1 * v9.1)))) y2.V y2.Len y2.Ahead y2.Guess_ y2.Trust y2.Ward y2.WardGuess y2.Until) [] _ (elems_list (fun _ => rfl)) rfl (G_skip (neL g2.1.property rfl) (G_skip (neL g2.1.property rfl) (G_skip (neL g2.1.property rfl) (G_skip (neL g2.1.property rfl) G_hit)))) hv10 (ss rfl (s_nil (l_end (l_sub (s0 := ⟨T [(0, (.ptr (900000, 0) 0)), (1, (di p2)), (7, (.sl (74, u11))), (8, (di x1.2.1))], G [((900000, 0), some (.box 60 [(dl eInt_i64 v9.2.l), (di v9.2.at_)])), ((74, u11), some (.arr 51 12 (List.map eMate v10)))]⟩) (sb_of ⟨.of rfl, .of rfl, .of rfl, .of rfl, trivial⟩ (sbG_some (G_skip rfl (G_skip (neR g2.1.property rfl) (gq rfl))) (.of rfl) (sbG_some G_hit (.of rfl) trivial))) ?_)))))))
 refine l_reg fun u12 hu12 => sv rfl (sv rfl (sv rfl (s_nil (l_nil ?_))))
 cases hz1
 exact ⟨rfl, (⟨74, .tail _ (.head _)⟩, u11), (sb_of ⟨.of rfl, .of rfl, (.of (oS_ne (appc_ne hv10)).symm), .of rfl, trivial⟩ (sbG_some G_hit (.of rfl) (sbG_own (gq rfl) trivial)))⟩
 refine l_exitN rfl ?_
 cases hz1
 obtain rfl := ez1 _ rfl
 refine ⟨nofun, awl_pop rfl (l_j ?_)⟩
 exact ⟨(g2.1, g2.2), (sb_of ⟨.of rfl, .of rfl, trivial⟩ (sbG_some G_hit (.of rfl) (sbG_oB (G_skip (neL g2.1.property rfl) G_hit) trivial)))⟩
 rintro _ ⟨g1, q2⟩
 refine l_sub q2 (lr (fun u13 hu13 => s_val (oS y1.1 (g1.1.val, g1.2)) rfl rfl (s_val (oS y1.1 (g1.1.val, g1.2)) rfl rfl (s_nil (l_ret ?_)))))
 cases h
 exact fin_mf (.inr rfl) [(g1.1.val, g1.2)] (resDF1 (res_t rfl) (rf_oS (rs_in (.head _) (G_skip (neL g1.1.property rfl) G_hit)))) oD_le ⟨⟨_, _, _, G_hit, (old_notinG g1.1.property rfl old_notin_nil), rfl, all2_d, rfl⟩, trivial⟩

noncomputable def ref09_rear (p1 : Mate) : Option Int :=
  some (w64 (p1.S - p1.Len))

theorem ref09_rear_ok (p1 : Mate) (r : Int) (h : ref09_rear p1 = some r) : PCall Tryz.prog 23 [(.agg (eMate p1))] (i64 r) := by
 refine l_call (fk Tryz.func23 Tryz.ntmps23 m0 (by with_unfolding_all rfl)) (nl rfl) ?_
 unfold ref09_rear at h
 refine l_sub (s0 := ⟨T [(0, (.d _))], G []⟩) (sbr rfl rfl) ?_
 refine lr (fun u1 hu1 => sn rfl rfl (sv rfl (s_nil (lr (fun u2 hu2 => sp rfl rfl (sl rfl G_hit rfl (sp rfl rfl (sl rfl G_hit rfl (sv rfl (sv rfl (s_nil (l_ret ?_))))))))))))
 cases h
 exact fin_ok (.inr rfl) (resD1 (res_t rfl) rf_d) (.refl _)

noncomputable def ref09_between (p1 : Int) (p2 : Int) (p3 : Int) : Option Bool :=
  some ((decide (p1 ≥ p2)) && (decide (p1 ≤ p3)))

theorem ref09_between_ok (p1 : Int) (p2 : Int) (p3 : Int) (r : Bool) (h : ref09_between p1 p2 p3 = some r) : PCall Tryz.prog 95 [(i64 p1), (i64 p2), (i64 p3)] (bo r) := by
 refine l_call (fk Tryz.func95 Tryz.ntmps95 m0 (by with_unfolding_all rfl)) (nl rfl) ?_
 unfold ref09_between at h
 refine l_sub (s0 := ⟨T [(0, (.d _)), (1, (.d _)), (2, (.d _))], G []⟩) (sbr rfl rfl) ?_
 refine lr (fun u1 hu1 => sv rfl (s_nil (lr (fun u2 hu2 => sv rfl (sv rfl (sv rfl (sv rfl (gt rfl (fun _ => rfl) (gt rfl (fun _ => rfl) (gt rfl (fun w3 => (v_bin (gd_pos w3) (gd_pos w3) rfl)) (sa rfl rfl rfl (sv rfl (s_nil (l_ret ?_))))))))))))))
 cases h
 exact fin_ok (.inr rfl) (resD1 (res_t rfl) rf_d) (.refl _)

noncomputable def ref09_moving (p1 : Int) (p2 : Int) (p3 : Int) (p4 : Int) : Option Bool :=
  (ref09_between p1 1 99).bind fun v1 => ((cond v1 (ref09_between p2 0 1099511627776) (some default))).bind fun v2 => ((cond (v1 && v2) (ref09_between p3 0 2000) (some default))).bind fun v3 => ((cond ((v1 && v2) && v3) (ref09_between p4 300 20000) (some default))).bind fun v4 => some (((v1 && v2) && v3) && v4)

theorem ref09_moving_ok (p1 : Int) (p2 : Int) (p3 : Int) (p4 : Int) (r : Bool) (h : ref09_moving p1 p2 p3 p4 = some r) : PCall Tryz.prog 114 [(i64 p1), (i64 p2), (i64 p3), (i64 p4)] (bo r) := by
 refine l_call (fk Tryz.func114 Tryz.ntmps114 m0 (by with_unfolding_all rfl)) (nl rfl) ?_
 unfold ref09_moving at h
 refine l_sub (s0 := ⟨T [(0, (.d _)), (1, (.d _)), (2, (.d _)), (3, (.d _))], G []⟩) (sbr rfl rfl) ?_
 refine lr (fun u1 hu1 => sv rfl (s_nil (lr (fun u2 hu2 => sv rfl (bs h fun v1 hv1 h => s_call rfl rfl all2_refl (ref09_between_ok _ _ _  _ hv1) (.inl rfl) (sv rfl (gt rfl (fun _ => rfl) (bs h fun v2 hv2 h => ?_))))))))
 refine g_call v1 (bo v2) (gw_t rfl) (fun w2 => ⟨_, [(di p2), (di 0), (di 1099511627776)], _, _, (by simp only [gd_pos w2]; rfl), rfl, all2_refl, ref09_between_ok _ _ _  _ (cond_t w2 hv2), (.inl rfl)⟩) ?_
 refine sa rfl rfl rfl (sv rfl (gt rfl (fun _ => rfl) (bs h fun v3 hv3 h => ?_)))
 refine g_call _ (bo v3) (gw_t rfl) (fun w4 => ⟨_, [(di p3), (di 0), (di 2000)], _, _, (by simp only [gd_pos w4]; rfl), rfl, all2_refl, ref09_between_ok _ _ _  _ (cond_t w4 hv3), (.inl rfl)⟩) ?_
 refine sa rfl rfl rfl (sv rfl (gt rfl (fun _ => rfl) (bs h fun v4 hv4 h => ?_)))
 refine g_call _ (bo v4) (gw_t rfl) (fun w6 => ⟨_, [(di p4), (di 300), (di 20000)], _, _, (by simp only [gd_pos w6]; rfl), rfl, all2_refl, ref09_between_ok _ _ _  _ (cond_t w6 hv4), (.inl rfl)⟩) ?_
 refine sa rfl rfl rfl (sv rfl (s_nil (l_ret ?_)))
 cases h
 exact fin_ok (.inr rfl) (resD1 (res_t rfl) rf_d) (.refl _)

noncomputable def ref09_guessed (p1 : Guess) : Option Bool :=
  (ref09_between p1.R (-20000) 2199023255552).bind fun v1 => ((cond v1 (ref09_between p1.V 0 2000) (some default))).bind fun v2 => some (v1 && v2)

theorem ref09_guessed_ok (p1 : Guess) (r : Bool) (h : ref09_guessed p1 = some r) : PCall Tryz.prog 115 [(.agg [(i64 p1.R), (i64 p1.V)])] (bo r) := by
 refine l_call (fk Tryz.func115 Tryz.ntmps115 m0 (by with_unfolding_all rfl)) (nl rfl) ?_
 unfold ref09_guessed at h
 refine l_sub (s0 := ⟨T [(0, (.d _))], G []⟩) (sbr rfl rfl) ?_
 refine lr (fun u1 hu1 => sn rfl rfl (sv rfl (s_nil (lr (fun u2 hu2 => sp rfl rfl (sl rfl G_hit rfl (bs h fun v1 hv1 h => s_call rfl rfl all2_refl (ref09_between_ok _ _ _  _ hv1) (.inl rfl) (sv rfl (gp rfl (gw_t rfl) (fun _ => rfl) (gt rfl (vl rfl G_hit rfl) (bs h fun v2 hv2 h => ?_)))))))))))
 refine g_call v1 (bo v2) (gw_t rfl) (fun w3 => ⟨_, [(di p1.V), (di 0), (di 2000)], _, _, (by simp only [gd_pos w3]; rfl), rfl, all2_refl, ref09_between_ok _ _ _  _ (cond_t w3 hv2), (.inl rfl)⟩) ?_
 refine sa rfl rfl rfl (sv rfl (s_nil (l_ret ?_)))
 cases h
 exact fin_ok (.inr rfl) (resD1 (res_t rfl) rf_d) (.refl _)

noncomputable def ref09_mate (p1 : Mate) : Option Bool :=
  (ref09_moving p1.ID p1.S p1.V p1.Len).bind fun v1 => ((cond v1 (ref09_between p1.Ahead 0 99) (some default))).bind fun v2 => ((cond (v1 && v2) (ref09_between p1.Ward 0 99) (some default))).bind fun v3 => ((cond ((v1 && v2) && v3) (ref09_between p1.Until 0 2199023255552) (some default))).bind fun v4 => ((cond (((v1 && v2) && v3) && v4) (ref09_guessed p1.Guess_) (some default))).bind fun v5 => ((cond ((((v1 && v2) && v3) && v4) && v5) (ref09_guessed p1.WardGuess) (some default))).bind fun v6 => some (((((v1 && v2) && v3) && v4) && v5) && v6)

theorem ref09_mate_ok (p1 : Mate) (r : Bool) (h : ref09_mate p1 = some r) : PCall Tryz.prog 96 [(.agg (eMate p1))] (bo r) := by
 refine l_call (fk Tryz.func96 Tryz.ntmps96 m0 (by with_unfolding_all rfl)) (nl rfl) ?_
 unfold ref09_mate at h
 refine l_sub (s0 := ⟨T [(0, (.d _))], G []⟩) (sbr rfl rfl) ?_
 refine lr (fun u1 hu1 => sn rfl rfl (sv rfl (s_nil (lr (fun u2 hu2 => sp rfl rfl (sl rfl G_hit rfl (sp rfl rfl (sl rfl G_hit rfl (sp rfl rfl (sl rfl G_hit rfl (sp rfl rfl (sl rfl G_hit rfl (bs h fun v1 hv1 h => s_call rfl rfl all2_refl (ref09_moving_ok _ _ _ _  _ hv1) (.inl rfl) (sv rfl (gp rfl (gw_t rfl) (fun _ => rfl) (gt rfl (vl rfl G_hit rfl) (bs h fun v2 hv2 h => ?_)))))))))))))))))
 refine g_call v1 (bo v2) (gw_t rfl) (fun w3 => ⟨_, [(di p1.Ahead), (di 0), (di 99)], _, _, (by simp only [gd_pos w3]; rfl), rfl, all2_refl, ref09_between_ok _ _ _  _ (cond_t w3 hv2), (.inl rfl)⟩) ?_
 refine sa rfl rfl rfl (sv rfl (gp rfl (gw_t rfl) (fun _ => rfl) (gt rfl (vl rfl G_hit rfl) (bs h fun v3 hv3 h => ?_))))
 refine g_call _ (bo v3) (gw_t rfl) (fun w6 => ⟨_, [(di p1.Ward), (di 0), (di 99)], _, _, (by simp only [gd_pos w6]; rfl), rfl, all2_refl, ref09_between_ok _ _ _  _ (cond_t w6 hv3), (.inl rfl)⟩) ?_
 refine sa rfl rfl rfl (sv rfl (gp rfl (gw_t rfl) (fun _ => rfl) (gt rfl (vl rfl G_hit rfl) (bs h fun v4 hv4 h => ?_))))
 refine g_call _ (bo v4) (gw_t rfl) (fun w9 => ⟨_, [(di p1.Until), (di 0), (di 2199023255552)], _, _, (by simp only [gd_pos w9]; rfl), rfl, all2_refl, ref09_between_ok _ _ _  _ (cond_t w9 hv4), (.inl rfl)⟩) ?_
 refine sa rfl rfl rfl (sv rfl (gp rfl (gw_t rfl) (fun _ => rfl) (gt rfl (fun w11 => (v_loadG (gd_pos w11) G_hit rfl rfl)) (bs h fun v5 hv5 h => ?_))))
 refine g_call _ (bo v5) (gw_t rfl) (fun w12 => ⟨_, [(.d (.agg [(i64 p1.Guess_.R), (i64 p1.Guess_.V)]))], _, _, (by simp only [gd_pos w12]; rfl), rfl, all2_refl, ref09_guessed_ok _  _ (cond_t w12 hv5), (.inl rfl)⟩) ?_
 refine sa rfl rfl rfl (sv rfl (gp rfl (gw_t rfl) (fun _ => rfl) (gt rfl (fun w14 => (v_loadG (gd_pos w14) G_hit rfl rfl)) (bs h fun v6 hv6 h => ?_))))
 refine g_call _ (bo v6) (gw_t rfl) (fun w15 => ⟨_, [(.d (.agg [(i64 p1.WardGuess.R), (i64 p1.WardGuess.V)]))], _, _, (by simp only [gd_pos w15]; rfl), rfl, all2_refl, ref09_guessed_ok _  _ (cond_t w15 hv6), (.inl rfl)⟩) ?_
 refine sa rfl rfl rfl (sv rfl (s_nil (l_ret ?_)))
 cases h
 exact fin_ok (.inr rfl) (resD1 (res_t rfl) rf_d) (.refl _)

noncomputable def ref09_guest (p1 : Guest) : Option Bool :=
  (ref09_moving p1.ID p1.S p1.V p1.Len).bind fun v1 => ((cond v1 (ref09_between p1.Ahead 0 99) (some default))).bind fun v2 => ((cond (v1 && v2) (ref09_between p1.From 0 99) (some default))).bind fun v3 => ((cond ((v1 && v2) && v3) (ref09_between p1.Until 0 2199023255552) (some default))).bind fun v4 => ((cond (((v1 && v2) && v3) && v4) (ref09_between p1.End 0 1099511627776) (some default))).bind fun v5 => ((cond ((((v1 && v2) && v3) && v4) && v5) (ref09_guessed p1.Guess_) (some default))).bind fun v6 => some (((((v1 && v2) && v3) && v4) && v5) && v6)

theorem ref09_guest_ok (p1 : Guest) (r : Bool) (h : ref09_guest p1 = some r) : PCall Tryz.prog 97 [(.agg (eGuest p1))] (bo r) := by
 refine l_call (fk Tryz.func97 Tryz.ntmps97 m0 (by with_unfolding_all rfl)) (nl rfl) ?_
 unfold ref09_guest at h
 refine l_sub (s0 := ⟨T [(0, (.d _))], G []⟩) (sbr rfl rfl) ?_
 refine lr (fun u1 hu1 => sn rfl rfl (sv rfl (s_nil (lr (fun u2 hu2 => sp rfl rfl (sl rfl G_hit rfl (sp rfl rfl (sl rfl G_hit rfl (sp rfl rfl (sl rfl G_hit rfl (sp rfl rfl (sl rfl G_hit rfl (bs h fun v1 hv1 h => s_call rfl rfl all2_refl (ref09_moving_ok _ _ _ _  _ hv1) (.inl rfl) (sv rfl (gp rfl (gw_t rfl) (fun _ => rfl) (gt rfl (vl rfl G_hit rfl) (bs h fun v2 hv2 h => ?_)))))))))))))))))
 refine g_call v1 (bo v2) (gw_t rfl) (fun w3 => ⟨_, [(di p1.Ahead), (di 0), (di 99)], _, _, (by simp only [gd_pos w3]; rfl), rfl, all2_refl, ref09_between_ok _ _ _  _ (cond_t w3 hv2), (.inl rfl)⟩) ?_
 refine sa rfl rfl rfl (sv rfl (gp rfl (gw_t rfl) (fun _ => rfl) (gt rfl (vl rfl G_hit rfl) (bs h fun v3 hv3 h => ?_))))
 refine g_call _ (bo v3) (gw_t rfl) (fun w6 => ⟨_, [(di p1.From), (di 0), (di 99)], _, _, (by simp only [gd_pos w6]; rfl), rfl, all2_refl, ref09_between_ok _ _ _  _ (cond_t w6 hv3), (.inl rfl)⟩) ?_
 refine sa rfl rfl rfl (sv rfl (gp rfl (gw_t rfl) (fun _ => rfl) (gt rfl (vl rfl G_hit rfl) (bs h fun v4 hv4 h => ?_))))
 refine g_call _ (bo v4) (gw_t rfl) (fun w9 => ⟨_, [(di p1.Until), (di 0), (di 2199023255552)], _, _, (by simp only [gd_pos w9]; rfl), rfl, all2_refl, ref09_between_ok _ _ _  _ (cond_t w9 hv4), (.inl rfl)⟩) ?_
 refine sa rfl rfl rfl (sv rfl (gp rfl (gw_t rfl) (fun _ => rfl) (gt rfl (vl rfl G_hit rfl) (bs h fun v5 hv5 h => ?_))))
 refine g_call _ (bo v5) (gw_t rfl) (fun w12 => ⟨_, [(di p1.End), (di 0), (di 1099511627776)], _, _, (by simp only [gd_pos w12]; rfl), rfl, all2_refl, ref09_between_ok _ _ _  _ (cond_t w12 hv5), (.inl rfl)⟩) ?_
 refine sa rfl rfl rfl (sv rfl (gp rfl (gw_t rfl) (fun _ => rfl) (gt rfl (fun w14 => (v_loadG (gd_pos w14) G_hit rfl rfl)) (bs h fun v6 hv6 h => ?_))))
 refine g_call _ (bo v6) (gw_t rfl) (fun w15 => ⟨_, [(.d (.agg [(i64 p1.Guess_.R), (i64 p1.Guess_.V)]))], _, _, (by simp only [gd_pos w15]; rfl), rfl, all2_refl, ref09_guessed_ok _  _ (cond_t w15 hv6), (.inl rfl)⟩) ?_
 refine sa rfl rfl rfl (sv rfl (s_nil (l_ret ?_)))
 cases h
 exact fin_ok (.inr rfl) (resD1 (res_t rfl) rf_d) (.refl _)

noncomputable def ref09_numbers_l3 (p1 : Convoy) (x2 : Int) (x3 : Int) : Option (Stp Int (Sum Unit Int)) :=
  cond (decide (x3 < x2)) ((geti p1.Mates x3).bind fun v6 => (geti p1.Mates x2).bind fun v7 => cond (v6.ID == v7.ID) (some (.out (.inr 9))) (some (.go (w64 (x3 + 1))))) (some (.out (.inl ())))
noncomputable def ref09_numbers_l2 (p1 : Convoy) (x2 : Int) : Option (Stp Int (Sum Unit Int)) :=
  cond (decide (x2 < (p1.Mates.length : Int))) (thenS (loop (ref09_numbers_l3 p1 x2) 0) (fun _ => (geti p1.Mates x2).bind fun v8 => cond (v8.ID == p1.Guest_.ID) (some (.out (.inr 9))) (some (.go (w64 (x2 + 1))))) (fun r => some (.out (.inr r)))) (some (.out (.inl ())))
noncomputable def ref09_numbers_l1 (p1 : Convoy) (x1 : Int) : Option (Stp Int (Sum Unit Int)) :=
  cond (decide (x1 < (p1.Mates.length : Int))) ((geti p1.Mates x1).bind fun v3 => (ref09_mate v3).bind fun v4 => cond (!v4) (some (.out (.inr 2))) (some (.go (w64 (x1 + 1))))) (some (.out (.inl ())))
noncomputable def ref09_numbers (p1 : Convoy) : Option Int :=
  (ref09_between p1.Tick 0 1099511627776).bind fun v1 => ((cond (!(!v1)) (ref09_between p1.Gap 1 20000) (some default))).bind fun v2 => cond ((!v1) || (!v2)) (some 2) (cond ((p1.Mates.length : Int) == 0) (some 6) ((cond (!(p1.Guest_.ID == 0 && (p1.Guest_.S == 0 && (p1.Guest_.V == 0 && (p1.Guest_.Len == 0 && (p1.Guest_.End == 0 && (p1.Guest_.Ahead == 0 && (p1.Guest_.Guess_.R == 0 && (p1.Guest_.Guess_.V == 0 && (p1.Guest_.From == 0 && (p1.Guest_.Until == 0 && true))))))))))) (some (w64 ((p1.Mates.length : Int) + 1))) (some (p1.Mates.length : Int))).bind fun y1 => cond (decide (y1 > 8)) (some 8) (thenS (loop (ref09_numbers_l1 p1) 0) (fun _ => ((cond (!(p1.Guest_.ID == 0 && (p1.Guest_.S == 0 && (p1.Guest_.V == 0 && (p1.Guest_.Len == 0 && (p1.Guest_.End == 0 && (p1.Guest_.Ahead == 0 && (p1.Guest_.Guess_.R == 0 && (p1.Guest_.Guess_.V == 0 && (p1.Guest_.From == 0 && (p1.Guest_.Until == 0 && true))))))))))) (ref09_guest p1.Guest_) (some default))).bind fun v5 => cond ((!(p1.Guest_.ID == 0 && (p1.Guest_.S == 0 && (p1.Guest_.V == 0 && (p1.Guest_.Len == 0 && (p1.Guest_.End == 0 && (p1.Guest_.Ahead == 0 && (p1.Guest_.Guess_.R == 0 && (p1.Guest_.Guess_.V == 0 && (p1.Guest_.From == 0 && (p1.Guest_.Until == 0 && true))))))))))) && (!v5)) (some 2) (thenS (loop (ref09_numbers_l2 p1) 0) (fun _ => some 0) (fun r => some r))) (fun r => some r))))

theorem ref09_numbers_ok (p1 : Convoy) (r : Int) (h : ref09_numbers p1 = some r) : PCall Tryz.prog 55 [(.agg (eConvoy p1))] (i64 r) := by
 refine l_call (fk Tryz.func55 Tryz.ntmps55 m0 (by with_unfolding_all rfl)) (nl rfl) ?_
 unfold ref09_numbers at h
 refine l_sub (s0 := ⟨T [(0, (.d _))], G []⟩) (sbr rfl rfl) ?_
 refine lr (fun u1 hu1 => sn rfl rfl (sv rfl (s_nil (l_seq (lr (fun u2 hu2 => sp rfl rfl (sl rfl G_hit rfl (bs h fun v1 hv1 h => s_call rfl rfl all2_refl (ref09_between_ok _ _ _  _ hv1) (.inl rfl) (s_val (.d (bo (!v1))) rfl rfl (sv rfl (gp rfl (gw_f rfl) (fun _ => rfl) (gf rfl (vl rfl G_hit rfl) (bs h fun v2 hv2 h => ?_)))))))))))))
 refine g_call _ (bo v2) (gw_f rfl) (fun w3 => ⟨_, [(di p1.Gap), (di 1), (di 20000)], _, _, (by simp only [gd_pos w3]; rfl), rfl, all2_refl, ref09_between_ok _ _ _  _ (cond_t w3 hv2), (.inl rfl)⟩) ?_
 refine g_val _ (.d (bo (!v2))) rfl (gw_f rfl) (fun w4 => (by simp only [gd_pos w4]; rfl)) ?_
 refine sd rfl (v_or rfl rfl (fun hc => gd_pos (not_t hc))) (s_nil (cc rfl h (fun c1 h => ?_) (fun c1 h => ?_)))
 refine lr (fun u3 hu3 => sv rfl (s_nil (l_ret ?_)))
 cases h
 exact fin_ok (.inr rfl) (resD1 (res_t rfl) rf_d) (.refl _)
 refine l_skip (l_seq (lr (fun u4 hu4 => sp rfl rfl (sl rfl G_hit rfl (sd rfl (v_len rfl) (sv rfl (s_nil (cc rfl h (fun c2 h => ?_) (fun c2 h => ?_)))))))))
 refine lr (fun u5 hu5 => sv rfl (s_nil (l_ret ?_)))
 cases h
 exact fin_ok (.inr rfl) (resD1 (res_t rfl) rf_d) (.refl _)
 refine l_skip (lr (fun u6 hu6 => sp rfl rfl (sl rfl G_hit rfl (sd rfl (v_len rfl) (sv rfl (s_nil (l_seq (lr (fun u7 hu7 => sp rfl rfl (sd rfl (v_loadG rfl G_hit rfl rfl) (sv rfl (s_val (.d (bo (!(p1.Guest_.ID == 0 && (p1.Guest_.S == 0 && (p1.Guest_.V == 0 && (p1.Guest_.Len == 0 && (p1.Guest_.End == 0 && (p1.Guest_.Ahead == 0 && (p1.Guest_.Guess_.R == 0 && (p1.Guest_.Guess_.V == 0 && (p1.Guest_.From == 0 && (p1.Guest_.Until == 0 && true))))))))))))) rfl rfl (s_nil (bs h fun y1 hy1 h => l_join (fun s => ∃ g1 : Unit, Sb ⟨T [(1, (.ptr (1, u1) 0)), (3, (di y1))], G [((1, u1), some (.box 32 (dConvoy p1)))]⟩ s) ?_ ?_))))))))))))))
 refine cc rfl hy1 (fun c3 hy1 => ?_) (fun c3 hy1 => ?_)
 refine l_sub (s0 := ⟨T [(1, (.ptr _ _)), (3, (.d _))], G [((1, u1), some (.box 32 _))]⟩) (sbr rfl rfl) ?_
 refine l_reg fun u8 hu8 => sv rfl (sv rfl (sv rfl (s_nil ?_)))
 cases hy1
 exact l_j ⟨(), (sbr rfl rfl)⟩
 refine l_skip ?_
 cases hy1
 exact l_j ⟨(), (sbr rfl rfl)⟩
 rintro _ ⟨g1, q1⟩
 refine l_sub q1 (l_seq (lr (fun u9 hu9 => sv rfl (sv rfl (s_nil (cc rfl h (fun c4 h => ?_) (fun c4 h => ?_)))))))
 refine lr (fun u10 hu10 => sv rfl (s_nil (l_ret ?_)))
 cases h
 exact fin_ok (.inr rfl) (resD1 (res_t rfl) rf_d) (.refl _)
 refine l_skip (l_seq (lr (fun u11 hu11 => sv rfl (s_nil (js h fun z1 hz1 h => l_join (fun s => ∃ (y2 : Unit) (g2 : Unit), z1 = .inl y2 ∧ Sb ⟨T [(1, (.ptr (1, u1) 0))], G [((1, u1), some (.box 32 (dConvoy p1)))]⟩ s) ?_ ?_)))))
 refine l_block (l_loop (ref09_numbers_l1 p1) (fun (x1 : Int) (g3 : Unit) => ⟨T [(1, (.ptr (1, u1) 0)), (4, (di x1))], G [((1, u1), some (.box 32 (dConvoy p1)))]⟩) 0 () _ hz1 (sbr rfl rfl) ?_)
 intro x1 g3 z2 hz2 ez2
 unfold ref09_numbers_l1 at hz2
 refine l_seq (lr (fun u12 hu12 => sv rfl (sp rfl rfl (sl rfl G_hit rfl (sd rfl (v_len rfl) (sv rfl (s_nil (cc rfl hz2 (fun c5 hz2 => ?_) (fun c5 hz2 => ?_)))))))))
 refine l_skip (l_seq (l_block (lr (fun u13 hu13 => sp rfl rfl (sl rfl G_hit rfl (sv rfl (bs hz2 fun v3 hv3 hz2 => sd rfl (v_idx rfl rfl hv3 rfl) (sd rfl (v_loadLG rfl hv3 rfl rfl) (bs hz2 fun v4 hv4 hz2 => s_call rfl rfl all2_refl (ref09_mate_ok _  _ hv4) (.inl rfl) (s_val (.d (bo (!v4))) rfl rfl (s_nil (cc rfl hz2 (fun c6 hz2 => ?_) (fun c6 hz2 => ?_)))))))))))))
 refine lr (fun u14 hu14 => sv rfl (s_nil (l_ret ?_)))
 cases hz2
 obtain rfl := ez2 _ rfl
 refine ⟨nofun, awl_ret ?_⟩
 rw [Sum.elim_inr] at h
 cases h
 exact fin_ok (.inr rfl) (resD1 (res_t rfl) rf_d) (.refl _)
 refine l_skip (l_end (l_reg fun u15 hu15 => sv rfl (sv rfl (sv rfl (s_nil (l_nil ?_))))))
 cases hz2
 exact ⟨rfl, (), (sbr rfl rfl)⟩
 refine l_exitN rfl ?_
 cases hz2
 obtain rfl := ez2 _ rfl
 refine ⟨nofun, awl_pop rfl (l_j ?_)⟩
 exact ⟨_, (), rfl, (sbr rfl rfl)⟩
 rintro _ ⟨y2, g2, rfl, q2⟩
 rw [Sum.elim_inl] at h
 refine l_sub q2 (l_seq (lr (fun u16 hu16 => sp rfl rfl (sd rfl (v_loadG rfl G_hit rfl rfl) (sv rfl (s_val (.d (bo (!(p1.Guest_.ID == 0 && (p1.Guest_.S == 0 && (p1.Guest_.V == 0 && (p1.Guest_.Len == 0 && (p1.Guest_.End == 0 && (p1.Guest_.Ahead == 0 && (p1.Guest_.Guess_.R == 0 && (p1.Guest_.Guess_.V == 0 && (p1.Guest_.From == 0 && (p1.Guest_.Until == 0 && true))))))))))))) rfl rfl (sv rfl (gp rfl (gw_t rfl) (fun _ => rfl) (gt rfl (fun w6 => (v_loadG (gd_pos w6) G_hit rfl rfl)) (bs h fun v5 hv5 h => ?_))))))))))
 refine g_call _ (bo v5) (gw_t rfl) (fun w7 => ⟨_, [(.d (.agg (eGuest p1.Guest_)))], _, _, (by simp only [gd_pos w7]; rfl), rfl, all2_refl, ref09_guest_ok _  _ (cond_t w7 hv5), (.inl rfl)⟩) ?_
 refine g_val _ (.d (bo (!v5))) rfl (gw_t rfl) (fun w8 => (by simp only [gd_pos w8]; rfl)) ?_
 refine sa rfl rfl rfl (s_nil (cc rfl h (fun c7 h => ?_) (fun c7 h => ?_)))
 refine lr (fun u17 hu17 => sv rfl (s_nil (l_ret ?_)))
 cases h
 exact fin_ok (.inr rfl) (resD1 (res_t rfl) rf_d) (.refl _)
 refine l_skip (l_seq (lr (fun u18 hu18 => sv rfl (s_nil (js h fun z3 hz3 h => l_join (fun s => ∃ (y3 : Unit) (g4 : Unit), z3 = .inl y3 ∧ Sb ⟨T [], G []⟩ s) ?_ ?_)))))
 refine l_block (l_loop (ref09_numbers_l2 p1) (fun (x2 : Int) (g5 : Unit) => ⟨T [(1, (.ptr (1, u1) 0)), (5, (di x2))], G [((1, u1), some (.box 32 (dConvoy p1)))]⟩) 0 () _ hz3 (sbr rfl rfl) ?_)
 intro x2 g5 z4 hz4 ez4
 unfold ref09_numbers_l2 at hz4
 refine l_seq (lr (fun u19 hu19 => sv rfl (sp rfl rfl (sl rfl G_hit rfl (sd rfl (v_len rfl) (sv rfl (s_nil (cc rfl hz4 (fun c8 hz4 => ?_) (fun c8 hz4 => ?_)))))))))
 refine l_skip (l_seq (l_block (l_seq (lr (fun u20 hu20 => sv rfl (s_nil (js hz4 fun z5 hz5 hz4 => l_join (fun s => ∃ (y4 : Unit) (g6 : Unit), z5 = .inl y4 ∧ Sb ⟨T [(1, (.ptr (1, u1) 0)), (5, (di x2))], G [((1, u1), some (.box 32 (dConvoy p1)))]⟩ s) ?_ ?_)))))))
 refine l_block (l_loop (ref09_numbers_l3 p1 x2) (fun (x3 : Int) (g7 : Unit) => ⟨T [(1, (.ptr (1, u1) 0)), (5, (di x2)), (6, (di x3))], G [((1, u1), some (.box 32 (dConvoy p1)))]⟩) 0 () _ hz5 (sbr rfl rfl) ?_)
 intro x3 g7 z6 hz6 ez6
 unfold ref09_numbers_l3 at hz6
 refine l_seq (lr (fun u21 hu21 => sv rfl (sv rfl (sv rfl (s_nil (cc rfl hz6 (fun c9 hz6 => ?_) (fun c9 hz6 => ?_)))))))
 refine l_skip (l_seq (l_block (l_seq (l_draw rfl fun u22 hu22 => sp rfl rfl (sl rfl G_hit rfl (sv rfl (bs hz6 fun v6 hv6 hz6 => sd rfl (v_idx rfl rfl hv6 rfl) (sv rfl (sd rfl (v_loadL rfl hv6 rfl) (sp rfl rfl (sl rfl G_hit rfl (sv rfl (bs hz6 fun v7 hv7 hz6 => sd rfl (v_idx rfl rfl hv7 rfl) (sv rfl (sd rfl (v_loadL rfl hv7 rfl) (sv rfl (s_nil (cc rfl hz6 (fun c10 hz6 => ?_) (fun c10 hz6 => ?_)))))))))))))))))))
 refine lr (fun u23 hu23 => sv rfl (s_nil (l_ret ?_)))
 cases hz6
 obtain rfl := ez6 _ rfl
 refine ⟨nofun, awl_ret ?_⟩
 rw [Sum.elim_inr] at hz4
 cases hz4
 obtain rfl := ez4 _ rfl
 refine ⟨nofun, awl_ret ?_⟩
 rw [Sum.elim_inr] at h
 cases h
 exact fin_ok (.inr rfl) (resD1 (res_t rfl) rf_d) (.refl _)
 refine l_skip (l_end (l_reg fun u24 hu24 => sv rfl (sv rfl (sv rfl (s_nil (l_nil ?_))))))
 cases hz6
 exact ⟨rfl, (), (sbr rfl rfl)⟩
 refine l_exitN rfl ?_
 cases hz6
 obtain rfl := ez6 _ rfl
 refine ⟨nofun, awl_pop rfl (l_j ?_)⟩
 exact ⟨_, (), rfl, (sbr rfl rfl)⟩
 rintro _ ⟨y4, g6, rfl, q3⟩
 rw [Sum.elim_inl] at hz4
 refine l_sub q3 (l_seq (l_draw rfl fun u25 hu25 => sp rfl rfl (sl rfl G_hit rfl (sv rfl (bs hz4 fun v8 hv8 hz4 => sd rfl (v_idx rfl rfl hv8 rfl) (sv rfl (sd rfl (v_loadL rfl hv8 rfl) (sp rfl rfl (sp rfl rfl (sl rfl G_hit rfl (sv rfl (s_nil (cc rfl hz4 (fun c11 hz4 => ?_) (fun c11 hz4 => ?_))))))))))))))
 refine lr (fun u26 hu26 => sv rfl (s_nil (l_ret ?_)))
 cases hz4
 obtain rfl := ez4 _ rfl
 refine ⟨nofun, awl_ret ?_⟩
 rw [Sum.elim_inr] at h
 cases h
 exact fin_ok (.inr rfl) (resD1 (res_t rfl) rf_d) (.refl _)
 refine l_skip (l_end (l_reg fun u27 hu27 => sv rfl (sv rfl (sv rfl (s_nil (l_nil ?_))))))
 cases hz4
 exact ⟨rfl, (), (sbr rfl rfl)⟩
 refine l_exitN rfl ?_
 cases hz4
 obtain rfl := ez4 _ rfl
 refine ⟨nofun, awl_pop rfl (l_j ?_)⟩
 exact ⟨_, (), rfl, (sbr rfl rfl)⟩
 rintro _ ⟨y3, g4, rfl, q4⟩
 rw [Sum.elim_inl] at h
 refine l_sub q4 (lr (fun u28 hu28 => sv rfl (s_nil (l_ret ?_))))
 cases h
 exact fin_ok (.inr rfl) (resD1 (res_t rfl) rf_d) (.refl _)

noncomputable def ref09_Check_l3 (p1 : Convoy) (x3 : Int) : Option (Stp Int (Sum Unit Int)) :=
  cond (decide (x3 < (p1.Mates.length : Int))) ((geti p1.Mates x3).bind fun v6 => ((cond (v6.Ahead != 0) (ref09_Safe v6.S v6.V p1.Gap v6.Guess_) (some default))).bind fun v7 => ((cond ((!((v6.Ahead != 0) && (!v7))) && (v6.Until != 0)) (ref09_Safe v6.S v6.V p1.Gap v6.WardGuess) (some default))).bind fun v8 => cond (((v6.Ahead != 0) && (!v7)) || ((v6.Until != 0) && (!v8))) (some (.out (.inr 12))) (some (.go (w64 (x3 + 1))))) (some (.out (.inl ())))
noncomputable def ref09_Check_l2 (p1 : Convoy) (x2 : Int) : Option (Stp Int (Sum Unit Int)) :=
  cond (decide (x2 < (p1.Mates.length : Int))) ((geti p1.Mates x2).bind fun v5 => cond ((((x2 == 0) && (v5.Ahead != 0)) || (((decide (x2 > 0)) && (v5.Ahead == 0)) && (v5.Until == 0))) || ((v5.Ward == 0) && (v5.Until != 0))) (some (.out (.inr 10))) (some (.go (w64 (x2 + 1))))) (some (.out (.inl ())))
noncomputable def ref09_Check_l1 (p1 : Convoy) (x1 : Int) : Option (Stp Int (Sum Unit Int)) :=
  cond (decide (x1 < (p1.Mates.length : Int))) ((geti p1.Mates x1).bind fun v2 => (geti p1.Mates (w64 (x1 - 1))).bind fun v3 => (ref09_rear v3).bind fun v4 => cond (decide (v2.S ≥ v4)) (some (.out (.inr 11))) (some (.go (w64 (x1 + 1))))) (some (.out (.inl ())))
noncomputable def ref09_Check (p1 : Convoy) : Option Int :=
  (ref09_numbers p1).bind fun v1 => cond (v1 != 0) (some v1) (thenS (loop (ref09_Check_l1 p1) 1) (fun _ => thenS (loop (ref09_Check_l2 p1) 0) (fun _ => thenS (loop (ref09_Check_l3 p1) 0) (fun _ => ((cond (p1.Guest_.ID != 0) (ref09_stop p1.Guest_.V) (some default))).bind fun v9 => cond ((p1.Guest_.ID != 0) && (decide ((w64 (p1.Guest_.S + v9)) ≥ p1.Guest_.End))) (some 12) (some 0)) (fun r => some r)) (fun r => some r)) (fun r => some r))

theorem ref09_Check_ok (p1 : Convoy) (r : Int) (h : ref09_Check p1 = some r) : PCall Tryz.prog 22 [(.agg (eConvoy p1))] (i64 r) := by
 refine l_call (fk Tryz.func22 Tryz.ntmps22 m0 (by with_unfolding_all rfl)) (nl rfl) ?_
 unfold ref09_Check at h
 refine l_sub (s0 := ⟨T [(0, (.d _))], G []⟩) (sbr rfl rfl) ?_
 refine lr (fun u1 hu1 => sn rfl rfl (sv rfl (s_nil (l_seq (lr (fun u2 hu2 => sd rfl (v_loadG rfl G_hit rfl rfl) (bs h fun v1 hv1 h => s_call rfl rfl all2_refl (ref09_numbers_ok _  _ hv1) (.inl rfl) (sv rfl (s_nil (lr (fun u3 hu3 => sv rfl (sv rfl (s_nil (cc rfl h (fun c1 h => ?_) (fun c1 h => ?_)))))))))))))))
 refine lr (fun u4 hu4 => sv rfl (sv rfl (s_nil (l_ret ?_))))
 cases h
 exact fin_ok (.inr rfl) (resD1 (res_t rfl) rf_d) (.refl _)
 refine l_skip (l_seq (lr (fun u5 hu5 => sv rfl (s_nil (js h fun z1 hz1 h => l_join (fun s => ∃ (y1 : Unit) (g1 : Unit), z1 = .inl y1 ∧ Sb ⟨T [(1, (.ptr (1, u1) 0))], G [((1, u1), some (.box 32 (dConvoy p1)))]⟩ s) ?_ ?_)))))
 refine l_block (l_loop (ref09_Check_l1 p1) (fun (x1 : Int) (g2 : Unit) => ⟨T [(1, (.ptr (1, u1) 0)), (4, (di x1))], G [((1, u1), some (.box 32 (dConvoy p1)))]⟩) 1 () _ hz1 (sbr rfl rfl) ?_)
 intro x1 g2 z2 hz2 ez2
 unfold ref09_Check_l1 at hz2
 refine l_seq (lr (fun u6 hu6 => sv rfl (sp rfl rfl (sl rfl G_hit rfl (sd rfl (v_len rfl) (sv rfl (s_nil (cc rfl hz2 (fun c2 hz2 => ?_) (fun c2 hz2 => ?_)))))))))
 refine l_skip (l_seq (l_block (l_seq (l_draw rfl fun u7 hu7 => sp rfl rfl (sl rfl G_hit rfl (sv rfl (bs hz2 fun v2 hv2 hz2 => sd rfl (v_idx rfl rfl hv2 rfl) (sv rfl (sd rfl (v_loadL rfl hv2 rfl) (sp rfl rfl (sl rfl G_hit rfl (sv rfl (sv rfl (bs hz2 fun v3 hv3 hz2 => sd rfl (v_idx rfl rfl hv3 rfl) (sd rfl (v_loadLG rfl hv3 rfl rfl) (bs hz2 fun v4 hv4 hz2 => s_call rfl rfl all2_refl (ref09_rear_ok _  _ hv4) (.inl rfl) (sv rfl (s_nil (cc rfl hz2 (fun c3 hz2 => ?_) (fun c3 hz2 => ?_))))))))))))))))))))
 refine lr (fun u8 hu8 => sv rfl (s_nil (l_ret ?_)))
 cases hz2
 obtain rfl := ez2 _ rfl
 refine ⟨nofun, awl_ret ?_⟩
 rw [Sum.elim_inr] at h
 cases h
 exact fin_ok (.inr rfl) (resD1 (res_t rfl) rf_d) (.refl _)
 refine l_skip (l_end (l_reg fun u9 hu9 => sv rfl (sv rfl (sv rfl (s_nil (l_nil ?_))))))
 cases hz2
 exact ⟨rfl, (), (sbr rfl rfl)⟩
 refine l_exitN rfl ?_
 cases hz2
 obtain rfl := ez2 _ rfl
 refine ⟨nofun, awl_pop rfl (l_j ?_)⟩
 exact ⟨_, (), rfl, (sbr rfl rfl)⟩
 rintro _ ⟨y1, g1, rfl, q1⟩
 rw [Sum.elim_inl] at h
 refine l_sub q1 (l_seq (lr (fun u10 hu10 => sv rfl (s_nil (js h fun z3 hz3 h => l_join (fun s => ∃ (y2 : Unit) (g3 : Unit), z3 = .inl y2 ∧ Sb ⟨T [(1, (.ptr (1, u1) 0))], G [((1, u1), some (.box 32 (dConvoy p1)))]⟩ s) ?_ ?_)))))
 refine l_block (l_loop (ref09_Check_l2 p1) (fun (x2 : Int) (g4 : Unit) => ⟨T [(1, (.ptr (1, u1) 0)), (5, (di x2))], G [((1, u1), some (.box 32 (dConvoy p1)))]⟩) 0 () _ hz3 (sbr rfl rfl) ?_)
 intro x2 g4 z4 hz4 ez4
 unfold ref09_Check_l2 at hz4
 refine l_seq (lr (fun u11 hu11 => sv rfl (sp rfl rfl (sl rfl G_hit rfl (sd rfl (v_len rfl) (sv rfl (s_nil (cc rfl hz4 (fun c4 hz4 => ?_) (fun c4 hz4 => ?_)))))))))
 refine l_skip (l_seq (l_block (lr (fun u12 hu12 => sp rfl rfl (sl rfl G_hit rfl (sv rfl (bs hz4 fun v5 hv5 hz4 => sd rfl (v_idx rfl rfl hv5 rfl) (sd rfl (v_loadLG rfl hv5 rfl rfl) (sn rfl rfl (sst rfl G_hit (dMate v5) rfl (s_nil (lr (fun u13 hu13 => sv rfl (sv rfl (sv rfl (gp rfl (gw_t rfl) (fun _ => rfl) (gt rfl (vl rfl G_hit rfl) (gt rfl (vb rfl rfl rfl) (sa rfl rfl rfl (sv rfl (gf rfl (fun _ => rfl) (gf rfl (vb rfl rfl rfl) (gf rfl (fun w6 => (v_mv (gd_pos w6))) (g_val _ (.ptr _ _) rfl (gw_gt rfl) (fun _ => rfl) (gv rfl (gw_gt rfl) (vl rfl G_hit rfl) (gv rfl (gw_gt rfl) (vb rfl rfl rfl) (gf rfl (fun w10 => (v_and (gd_pos w10) (fun hc => gd_pos (and_i w10 hc)) rfl)) (gf rfl (fun w11 => (v_mv (gd_pos w11))) (g_val _ (.ptr _ _) rfl (gw_gt rfl) (fun _ => rfl) (gv rfl (gw_gt rfl) (vl rfl G_hit rfl) (gv rfl (gw_gt rfl) (vb rfl rfl rfl) (gf rfl (fun w15 => (v_and (gd_pos w15) (fun hc => gd_pos (and_i w15 hc)) rfl)) (sd rfl (v_or rfl rfl (fun hc => gd_pos (not_t hc))) (sv rfl (gp rfl (gw_f rfl) (fun _ => rfl) (gf rfl (vl rfl G_hit rfl) (gf rfl (vb rfl rfl rfl) (gf rfl (fun w19 => (v_mv (gd_pos w19))) (g_val _ (.ptr _ _) rfl (gw_gt rfl) (fun _ => rfl) (gv rfl (gw_gt rfl) (vl rfl G_hit rfl) (gv rfl (gw_gt rfl) (vb rfl rfl rfl) (gf rfl (fun w23 => (v_and (gd_pos w23) (fun hc => gd_pos (and_i w23 hc)) rfl)) (sd rfl (v_or rfl rfl (fun hc => gd_pos (not_t hc))) (s_nil (cc rfl hz4 (fun c5 hz4 => ?_) (fun c5 hz4 => ?_))))))))))))))))))))))))))))))))))))))))))))))
 refine l_seq (l_sub (s0 := ⟨T [], G []⟩) (sbr rfl rfl) ?_)
 refine l_reg fun u14 hu14 => sv rfl (s_nil (l_ret ?_))
 cases hz4
 obtain rfl := ez4 _ rfl
 refine ⟨nofun, awl_ret ?_⟩
 rw [Sum.elim_inr] at h
 cases h
 exact fin_ok (.inr rfl) (resD1 (res_t rfl) rf_d) (.refl _)
 refine l_skip (l_end (l_sub (s0 := ⟨T [(1, (.ptr _ _)), (5, (.d _))], G [((1, u1), some (.box 32 _))]⟩) (sbr rfl rfl) ?_))
 refine l_reg fun u15 hu15 => sv rfl (sv rfl (sv rfl (s_nil (l_nil ?_))))
 cases hz4
 exact ⟨rfl, (), (sbr rfl rfl)⟩
 refine l_exitN rfl ?_
 cases hz4
 obtain rfl := ez4 _ rfl
 refine ⟨nofun, awl_pop rfl (l_j ?_)⟩
 exact ⟨_, (), rfl, (sbr rfl rfl)⟩
 rintro _ ⟨y2, g3, rfl, q2⟩
 rw [Sum.elim_inl] at h
 refine l_sub q2 (l_seq (lr (fun u16 hu16 => sv rfl (s_nil (js h fun z5 hz5 h => l_join (fun s => ∃ (y3 : Unit) (g5 : Unit), z5 = .inl y3 ∧ Sb ⟨T [(1, (.ptr (1, u1) 0))], G [((1, u1), some (.box 32 (dConvoy p1)))]⟩ s) ?_ ?_)))))
 refine l_block (l_loop (ref09_Check_l3 p1) (fun (x3 : Int) (g6 : Unit) => ⟨T [(1, (.ptr (1, u1) 0)), (7, (di x3))], G [((1, u1), some (.box 32 (dConvoy p1)))]⟩) 0 () _ hz5 (sbr rfl rfl) ?_)
 intro x3 g6 z6 hz6 ez6
 unfold ref09_Check_l3 at hz6
 refine l_seq (lr (fun u17 hu17 => sv rfl (sp rfl rfl (sl rfl G_hit rfl (sd rfl (v_len rfl) (sv rfl (s_nil (cc rfl hz6 (fun c6 hz6 => ?_) (fun c6 hz6 => ?_)))))))))
 refine l_skip (l_seq (l_block (lr (fun u18 hu18 => sp rfl rfl (sl rfl G_hit rfl (sv rfl (bs hz6 fun v6 hv6 hz6 => sd rfl (v_idx rfl rfl hv6 rfl) (sd rfl (v_loadLG rfl hv6 rfl rfl) (sn rfl rfl (sst rfl G_hit (dMate v6) rfl (s_nil (lr (fun u19 hu19 => sp rfl rfl (sl rfl G_hit rfl (sv rfl (sv rfl (gp rfl (gw_t rfl) (fun _ => rfl) (gt rfl (vl rfl G_hit rfl) (gp rfl (gw_t rfl) (fun _ => rfl) (gt rfl (vl rfl G_hit rfl) (gp rfl (gw_t rfl) (fun _ => rfl) (gt rfl (vl rfl (gq rfl) rfl) (gp rfl (gw_t rfl) (fun _ => rfl) (gt rfl (fun w31 => (v_loadG (gd_pos w31) G_hit rfl rfl)) (bs hz6 fun v7 hv7 hz6 => ?_)))))))))))))))))))))))))
 refine g_call _ (bo v7) (gw_t rfl) (fun w32 => ⟨_, [(di v6.S), (di v6.V), (di p1.Gap), (.d (.agg [(i64 v6.Guess_.R), (i64 v6.Guess_.V)]))], _, _, (by simp only [gd_pos w32]; rfl), rfl, all2_refl, ref09_Safe_ok _ _ _ _  _ (cond_t w32 hv7), (.inl rfl)⟩) ?_
 refine g_val _ (.d (bo (!v7))) rfl (gw_t rfl) (fun w33 => (by simp only [gd_pos w33]; rfl)) ?_
 refine sa rfl rfl rfl (sv rfl (gp rfl (gw_f rfl) (fun _ => rfl) (gf rfl (vl rfl G_hit rfl) (gf rfl (vb rfl rfl rfl) (gf rfl (fun w37 => (v_mv (gd_pos w37))) (g_val _ (.ptr _ _) rfl (gw_gt rfl) (fun _ => rfl) (gv rfl (gw_gt rfl) (vl rfl G_hit rfl) (g_val _ (.ptr _ _) rfl (gw_gt rfl) (fun _ => rfl) (gv rfl (gw_gt rfl) (vl rfl G_hit rfl) (g_val _ (.ptr _ _) rfl (gw_gt rfl) (fun _ => rfl) (gv rfl (gw_gt rfl) (vl rfl (gq rfl) rfl) (g_val _ (.ptr _ _) rfl (gw_gt rfl) (fun _ => rfl) (gv rfl (gw_gt rfl) (fun w45 => (v_loadG (gd_pos w45) G_hit rfl rfl)) (bs hz6 fun v8 hv8 hz6 => ?_))))))))))))))
 refine g_call _ (bo v8) (gw_gt rfl) (fun w46 => ⟨_, [(di v6.S), (di v6.V), (di p1.Gap), (.d (.agg [(i64 v6.WardGuess.R), (i64 v6.WardGuess.V)]))], _, _, (by simp only [gd_pos w46]; rfl), rfl, all2_refl, ref09_Safe_ok _ _ _ _  _ (cond_t w46 hv8), (.inl rfl)⟩) ?_
 refine g_val _ (.d (bo (!v8))) rfl (gw_gt rfl) (fun w47 => (by simp only [gd_pos w47]; rfl)) ?_
 refine gf rfl (fun w48 => (v_and (gd_pos w48) (fun hc => gd_pos (and_i w48 hc)) rfl)) (sd rfl (v_or rfl rfl (fun hc => gd_pos (not_t hc))) (s_nil (cc rfl hz6 (fun c7 hz6 => ?_) (fun c7 hz6 => ?_))))
 refine l_seq (l_sub (s0 := ⟨T [], G []⟩) (sbr rfl rfl) ?_)
 refine l_reg fun u20 hu20 => sv rfl (s_nil (l_ret ?_))
 cases hz6
 obtain rfl := ez6 _ rfl
 refine ⟨nofun, awl_ret ?_⟩
 rw [Sum.elim_inr] at h
 cases h
 exact fin_ok (.inr rfl) (resD1 (res_t rfl) rf_d) (.refl _)
 refine l_skip (l_end (l_sub (s0 := ⟨T [(1, (.ptr _ _)), (7, (.d _))], G [((1, u1), some (.box 32 _))]⟩) (sbr rfl rfl) ?_))
 refine l_reg fun u21 hu21 => sv rfl (sv rfl (sv rfl (s_nil (l_nil ?_))))
 cases hz6
 exact ⟨rfl, (), (sbr rfl rfl)⟩
 refine l_exitN rfl ?_
 cases hz6
 obtain rfl := ez6 _ rfl
 refine ⟨nofun, awl_pop rfl (l_j ?_)⟩
 exact ⟨_, (), rfl, (sbr rfl rfl)⟩
 rintro _ ⟨y3, g5, rfl, q3⟩
 rw [Sum.elim_inl] at h
 refine l_sub q3 (l_seq (l_seq (l_draw rfl fun u22 hu22 => sp rfl rfl (sp rfl rfl (sl rfl G_hit rfl (sv rfl (sv rfl (gp rfl (gw_t rfl) (fun _ => rfl) ?_))))))))
 refine g_val _ (.ptr _ _) rfl (gw_t rfl) (fun w50 => (by simp only [gd_pos w50]; rfl)) ?_
 refine gt rfl (vl rfl G_hit rfl) (gp rfl (gw_t rfl) (fun _ => rfl) ?_)
 refine g_val _ (.ptr _ _) rfl (gw_t rfl) (fun w53 => (by simp only [gd_pos w53]; rfl)) ?_
 refine gt rfl (vl rfl G_hit rfl) (bs h fun v9 hv9 h => ?_)
 refine g_call _ (i64 v9) (gw_t rfl) (fun w55 => ⟨_, [(di p1.Guest_.V)], _, _, (by simp only [gd_pos w55]; rfl), rfl, all2_refl, ref09_stop_ok _  _ (cond_t w55 hv9), (.inl rfl)⟩) ?_
 refine gt rfl (fun w56 => (v_bin (gd_pos w56) (gd_pos w56) rfl)) (gp rfl (gw_t rfl) (fun _ => rfl) ?_)
 refine g_val _ (.ptr _ _) rfl (gw_t rfl) (fun w58 => (by simp only [gd_pos w58]; rfl)) ?_
 refine gt rfl (vl rfl G_hit rfl) (gt rfl (fun w60 => (v_bin (gd_pos w60) (gd_pos w60) rfl)) (sa rfl rfl rfl (s_nil (cc rfl h (fun c8 h => ?_) (fun c8 h => ?_)))))
 refine lr (fun u23 hu23 => sv rfl (s_nil (l_ret ?_)))
 cases h
 exact fin_ok (.inr rfl) (resD1 (res_t rfl) rf_d) (.refl _)
 refine l_skip (lr (fun u24 hu24 => sv rfl (s_nil (l_ret ?_))))
 cases h
 exact fin_ok (.inr rfl) (resD1 (res_t rfl) rf_d) (.refl _)

noncomputable def ref09_New_l1 (p2 : (List Mate)) (x1 : (Int × Convoy)) : Option (Stp (Int × Convoy) Convoy) :=
  cond (decide (x1.1 < (p2.length : Int))) ((geti p2 x1.1).bind fun v1 => (geti p2 x1.1).bind fun v2 => (geti p2 x1.1).bind fun v3 => (cond (decide (x1.1 > 0)) ((geti p2 (w64 (x1.1 - 1))).bind fun v4 => (ref09_rear v4).bind fun v5 => (geti p2 (w64 (x1.1 - 1))).bind fun v6 => some (Mate.mk (w64 (x1.1 + 1)) v1.S v2.V v3.Len x1.1 (Guess.mk v5 v6.V) true 0 (Guess.mk 0 0) 0)) (some (Mate.mk (w64 (x1.1 + 1)) v1.S v2.V v3.Len x1.1 (Guess.mk 0 0) true 0 (Guess.mk 0 0) 0))).bind fun y2 => (appc x1.2.Mates [y2]).bind fun v7 => some (.go ((w64 (x1.1 + 1)), (Convoy.mk x1.2.Tick x1.2.Gap v7 x1.2.Guest_)))) (some (.out x1.2))
noncomputable def ref09_New (p1 : Int) (p2 : (List Mate)) : Option (Convoy × Int) :=
  (loop (ref09_New_l1 p2) (0, (Convoy.mk 0 p1 [] (Guest.mk 0 0 0 0 0 0 (Guess.mk 0 0) 0 0)))).bind fun y1 => (ref09_Check y1).bind fun v8 => cond (v8 != 0) (some ((Convoy.mk 0 0 [] (Guest.mk 0 0 0 0 0 0 (Guess.mk 0 0) 0 0)), v8)) (some (y1, 0))

theorem ref09_New_ok (p1 : Int) (p2 : (List Mate)) (r : (Convoy × Int)) (h : ref09_New p1 p2 = some r) : PCall Tryz.prog 19 [(i64 p1), (.list (List.map eMate p2))] (.tup [(.agg (eConvoy r.1)), (i64 r.2)]) := by
 refine l_call (fk Tryz.func19 Tryz.ntmps19 (fun r => if r == 8 then [1003] else []) (by with_unfolding_all rfl)) (nl rfl) ?_
 unfold ref09_New at h
 refine l_sub (s0 := ⟨T [(0, (.d _)), (1, (.d _))], G []⟩) (sbr rfl rfl) ?_
 refine lr (fun u1 hu1 => sn rfl rfl (sv rfl (s_nil (lr (fun u2 hu2 => sv rfl (sv rfl (sn rfl rfl (sst rfl G_hit (((zs 13).set 1 (di p1)).set 2 (.d .nilS)) rfl (s_nil (l_seq (lr (fun u3 hu3 => sv rfl (s_nil (bs h fun y1 hy1 h => l_join (fun s => ∃ g1 : Nat, Sb ⟨T [(4, (.ptr (4, u1) 0)), (6, (.ptr (6, u2) 0))], G [((4, u1), some (.box 32 ((zs 13).set 2 (.d .nilS)))), ((6, u2), some (.box 32 ((dConvoy y1).set 2 (oS y1.Mates (57, g1))))), ((57, g1), oB 51 12 eMate y1.Mates)]⟩ s) ?_ ?_))))))))))))))
 refine l_block (l_loop (ref09_New_l1 p2) (fun (x1 : (Int × Convoy)) (g2 : Nat) => ⟨T [(1, (dl eMate p2)), (4, (.ptr (4, u1) 0)), (6, (.ptr (6, u2) 0)), (7, (di x1.1))], G [((4, u1), some (.box 32 ((zs 13).set 2 (.d .nilS)))), ((6, u2), some (.box 32 ((dConvoy x1.2).set 2 (oS x1.2.Mates (57, g2))))), ((57, g2), oB 51 12 eMate x1.2.Mates)]⟩) (0, (Convoy.mk 0 p1 [] (Guest.mk 0 0 0 0 0 0 (Guess.mk 0 0) 0 0))) 0 _ hy1 (sb_of ⟨.of rfl, .of rfl, .of rfl, .of rfl, trivial⟩ (sg rfl (sbG_some G_hit (.of rfl) (sbG_nil trivial)))) ?_)
 intro x1 g2 z1 hz1 ez1
 unfold ref09_New_l1 at hz1
 refine l_seq (lr (fun u4 hu4 => sv rfl (sv rfl (sd rfl (v_len rfl) (sv rfl (s_nil (cc rfl hz1 (fun c1 hz1 => ?_) (fun c1 hz1 => ?_))))))))
 refine l_skip (l_seq (l_block (l_seq (l_draw rfl fun u5 hu5 => sv rfl (sv rfl (sv rfl (sv rfl (bs hz1 fun v1 hv1 hz1 => sd rfl (v_idx rfl rfl hv1 rfl) (sv rfl (sd rfl (v_loadL rfl hv1 rfl) (sv rfl (sv rfl (bs hz1 fun v2 hv2 hz1 => sd rfl (v_idx rfl rfl hv2 rfl) (sv rfl (sd rfl (v_loadL rfl hv2 rfl) (sv rfl (sv rfl (bs hz1 fun v3 hv3 hz1 => sd rfl (v_idx rfl rfl hv3 rfl) (sv rfl (sd rfl (v_loadL rfl hv3 rfl) (sv rfl (sv rfl (sn rfl rfl (sst rfl G_hit ([(di (w64 (x1.1 + 1))), (di v1.S), (di v2.V), (di v3.Len), (di x1.1)] ++ ((zs 7).set 2 (.d (bo true)))) rfl (s_nil (l_seq (l_seq (l_sub (s0 := ⟨T [(1, (dl eMate p2)), (4, (.ptr (4, u1) 0)), (6, (.ptr (6, u2) 0)), (7, (di x1.1)), (8, (.ptr (8, u5) 0))], G [((4, u1), some (.box 32 ((zs 13).set 2 (.d .nilS)))), ((6, u2), some (.box 32 ((dConvoy x1.2).set 2 (oS x1.2.Mates (57, g2))))), ((57, g2), oB 51 12 eMate x1.2.Mates), ((8, u5), some (.box 51 ([(di (w64 (x1.1 + 1))), (di v1.S), (di v2.V), (di v3.Len), (di x1.1)] ++ ((zs 7).set 2 (.d (bo true))))))]⟩) (sb_of ⟨.of rfl, .of rfl, .of rfl, .of rfl, .of rfl, trivial⟩ (sg rfl (sg rfl (sbG_oB (gq rfl) (sbG_some G_hit (.of rfl) trivial))))) ?_))))))))))))))))))))))))))))
 refine l_reg fun u6 hu6 => sv rfl (sv rfl (s_nil (bs hz1 fun y2 hy2 hz1 => l_join (fun s => ∃ g3 : Unit, Sb ⟨T [(1, (dl eMate p2)), (4, (.ptr (4, u1) 0)), (6, (.ptr (6, u2) 0)), (7, (di x1.1)), (8, (.ptr (8, u5) 0))], G [((4, u1), some (.box 32 ((zs 13).set 2 (.d .nilS)))), ((6, u2), some (.box 32 ((dConvoy x1.2).set 2 (oS x1.2.Mates (57, g2))))), ((8, u5), some (.box 51 (dMate y2))), ((57, g2), oB 51 12 eMate x1.2.Mates)]⟩ s) ?_ ?_)))
 refine cc rfl hy2 (fun c2 hy2 => ?_) (fun c2 hy2 => ?_)
 refine l_draw rfl fun u7 hu7 => sv rfl (sv rfl (sv rfl (bs hy2 fun v4 hv4 hy2 => sd rfl (v_idx rfl rfl hv4 rfl) (sd rfl (v_loadLG rfl hv4 rfl rfl) (bs hy2 fun v5 hv5 hy2 => s_call rfl rfl all2_refl (ref09_rear_ok _  _ hv5) (.inl rfl) (sv rfl (sv rfl (sv rfl (bs hy2 fun v6 hv6 hy2 => sd rfl (v_idx rfl rfl hv6 rfl) (sv rfl (sd rfl (v_loadL rfl hv6 rfl) (sv rfl (sp rfl rfl (sst rfl (gq rfl) ([(di (w64 (x1.1 + 1))), (di v1.S), (di v2.V), (di v3.Len), (di x1.1), (di v5), (di v6.V), (.d (bo true))] ++ (zs 4)) rfl (s_nil ?_)))))))))))))))
 cases hy2
 exact l_j ⟨(), (sb_of ⟨.of rfl, .of rfl, .of rfl, .of rfl, .of rfl, trivial⟩ (sg rfl (sg rfl (sbG_some G_hit (.of rfl) (sbG_oB (gq rfl) trivial)))))⟩
 refine l_skip ?_
 cases hy2
 exact l_j ⟨(), (sb_of ⟨.of rfl, .of rfl, .of rfl, .of rfl, .of rfl, trivial⟩ (sbG_some G_hit (.of rfl) (sg rfl (sg rfl (sbG_oB (gq rfl) trivial)))))⟩
 rintro _ ⟨g3, q1⟩
 refine l_sub q1 (l_reg fun u8 hu8 => sp rfl rfl (s_val (oS x1.2.Mates (57, g2)) rfl (v_load rfl (gq rfl) rfl) (sd rfl (v_loadG rfl (gq rfl) rfl rfl) (s_val (dl eMate [y2]) rfl (v_dsliceN eMate ([y2] : List Mate) (fun _ => rfl) rfl rfl ⟨rfl, rfl, rfl, trivial⟩) (bs hz1 fun v7 hv7 hz1 => s_appendO eMate (57, g2) x1.2.Mates y2 [] _ (elems_list (fun _ => rfl)) rfl (gq rfl) hv7 (sp rfl rfl (sst rfl (gq rfl) ((dConvoy x1.2).set 2 (.sl (57, u8))) rfl (s_nil (l_end (l_reg fun u9 hu9 => sv rfl (sv rfl (sv rfl (s_nil (l_nil ?_))))))))))))))
 cases hz1
 exact ⟨rfl, u8, (sb_of ⟨.of rfl, .of rfl, .of rfl, .of rfl, trivial⟩ (sg rfl (sbG_some G_hit (.box (cv (cv (.cons (.of (oS_ne (appc_ne hv7)).symm) cw)))) (sbG_own (gq rfl) trivial))))⟩
 refine l_exitN rfl ?_
 cases hz1
 obtain rfl := ez1 _ rfl
 refine ⟨nofun, awl_pop rfl (l_j ?_)⟩
 exact ⟨g2, (sb_of ⟨.of rfl, .of rfl, trivial⟩ (sbG_some G_hit (.of rfl) (sg rfl (sbG_oB (gq rfl) trivial))))⟩
 rintro _ ⟨g1, q2⟩
 refine l_sub q2 (l_seq (lr (fun u10 hu10 => s_val (mkAgg ((dConvoy y1).set 2 (oS y1.Mates (57, g1)))) rfl (v_loadG rfl (gq rfl) rfl rfl) (bs h fun v8 hv8 h => s_call rfl (rfL_cons (rf_mkAgg (rD (rD (rfL_cons (rf_oS (gq rfl)) (rD (rD (rD (rD (rD (rD (rD (rD (rD (rD rfL_nil)))))))))))))) rfL_nil) (.cons (.agg (ca rfl (ca rfl (.cons ⟨oD_le, rfl⟩ (cz rfl))))) .nil) (ref09_Check_ok _  _ hv8) (.inr rfl) (sv rfl (s_nil (lr (fun u11 hu11 => sv rfl (sv rfl (s_nil (cc rfl h (fun c3 h => ?_) (fun c3 h => ?_))))))))))))
 refine lr (fun u12 hu12 => sv rfl (sv rfl (sst rfl G_hit ((zs 13).set 2 (.d .nilS)) rfl (sv rfl (s_nil (l_ret ?_))))))
 cases h
 exact fin_ok (.inr rfl) (resD2 (res_cellG rfl G_hit (nl rfl) rfl) (res_t rfl) rf_d rf_d) (.tup (.cons (.agg (ca rfl (ca rfl (.cons ⟨DLe.nil, rfl⟩ (cz rfl))))) all2_refl))
 refine l_skip (lr (fun u13 hu13 => s_val (mkAgg ((dConvoy y1).set 2 (oS y1.Mates (57, g1)))) rfl (v_loadG rfl (gq rfl) rfl rfl) (s_store _ _ _ _ _ (cellsV_mkAgg _) rfl rfl G_hit (nl rfl) ((dConvoy y1).set 2 (oS y1.Mates (57, g1))) rfl (sv rfl (s_nil (l_ret ?_))))))
 cases h
 exact fin_ok (.inr rfl) (resD2 (res_cellG rfl G_hit (nl rfl) rfl) (res_t rfl) (rf_mkAgg (rD (rD (rfL_cons (rf_oS (gq rfl)) (rD (rD (rD (rD (rD (rD (rD (rD (rD (rD rfL_nil)))))))))))))) rf_d) (.tup (.cons (.agg (ca rfl (ca rfl (.cons ⟨oD_le, rfl⟩ (cz rfl))))) all2_refl))

noncomputable def ref09_Copy (p1 : Convoy) : Option Convoy :=
  (appc ([] : List Mate) p1.Mates).bind fun v1 => some (Convoy.mk p1.Tick p1.Gap v1 p1.Guest_)

theorem ref09_Copy_ok (p1 : Convoy) (r : Convoy) (h : ref09_Copy p1 = some r) : PCall Tryz.prog 54 [(.agg (eConvoy p1))] (.agg (eConvoy r)) := by
 refine l_call (fk Tryz.func54 Tryz.ntmps54 m0 (by with_unfolding_all rfl)) (nl rfl) ?_
 unfold ref09_Copy at h
 refine l_sub (s0 := ⟨T [(0, (.d _))], G []⟩) (sbr rfl rfl) ?_
 refine lr (fun u1 hu1 => sn rfl rfl (sn rfl rfl (s_nil (lr (fun u2 hu2 => sp rfl rfl (sl rfl (gq rfl) rfl (bs h fun v1 hv1 h => s_appendG eMate (5, u2) ([] : List Mate) p1.Mates _ (elems_list (fun _ => rfl)) rfl (fresh_none hu2) hv1 (fresh_none hu2) (sp rfl rfl (s_store _ _ _ _ _ (cellsV_oS _ _) rfl rfl (gq rfl) (nl rfl) ((dConvoy p1).set 2 (oS v1 (5, u2))) rfl (s_nil (lr (fun u3 hu3 => s_val (mkAgg ((dConvoy p1).set 2 (oS v1 (5, u2)))) rfl (v_loadG rfl G_hit rfl rfl) (s_store _ _ _ _ _ (cellsV_mkAgg _) rfl rfl (gq rfl) (nl rfl) ((dConvoy p1).set 2 (oS v1 (5, u2))) rfl (s_nil (l_ret ?_)))))))))))))))
 cases h
 exact fin_ok (.inr rfl) (resD1 (res_cellG rfl G_hit (nl rfl) rfl) (rf_mkAgg (rD (rD (rfL_cons (rf_oS (gq rfl)) (rD (rD (rD (rD (rD (rD (rD (rD (rD (rD rfL_nil))))))))))))))) (.agg (ca rfl (ca rfl (.cons ⟨oD_le, rfl⟩ (cz rfl)))))

noncomputable def ref09_Ramp_l1 (p1 : Convoy) (p2 : Guest) (x1 : (Bool × Int)) : Option (Stp (Bool × Int) Bool) :=
  cond (decide (x1.2 < (p1.Mates.length : Int))) (((cond (!x1.1) (geti p1.Mates x1.2) (some default))).bind fun v2 => ((cond (!(x1.1 || (v2.ID == p2.ID))) (geti p1.Mates x1.2) (some default))).bind fun v3 => some (.go (((x1.1 || (v2.ID == p2.ID)) || ((v3.Ward == p2.ID) && (p2.ID != 0))), (w64 (x1.2 + 1))))) (some (.out x1.1))
noncomputable def ref09_Ramp (p1 : Convoy) (p2 : Guest) : Option (Convoy × Int) :=
  (ref09_Check p1).bind fun v1 => cond (v1 != 0) (some ((Convoy.mk 0 0 [] (Guest.mk 0 0 0 0 0 0 (Guess.mk 0 0) 0 0)), v1)) ((loop (ref09_Ramp_l1 p1 p2) ((p1.Guest_.ID != 0), 0)).bind fun y1 => cond y1 (some ((Convoy.mk 0 0 [] (Guest.mk 0 0 0 0 0 0 (Guess.mk 0 0) 0 0)), 9)) (cond (p2.ID == 0) (some ((Convoy.mk 0 0 [] (Guest.mk 0 0 0 0 0 0 (Guess.mk 0 0) 0 0)), 2)) ((ref09_Copy p1).bind fun v4 => (ref09_Check (Convoy.mk v4.Tick v4.Gap v4.Mates (Guest.mk p2.ID p2.S p2.V p2.Len p2.End 0 (Guess.mk 0 0) 0 0))).bind fun v5 => cond (v5 != 0) (some ((Convoy.mk 0 0 [] (Guest.mk 0 0 0 0 0 0 (Guess.mk 0 0) 0 0)), v5)) (some ((Convoy.mk v4.Tick v4.Gap v4.Mates (Guest.mk p2.ID p2.S p2.V p2.Len p2.End 0 (Guess.mk 0 0) 0 0)), 0)))))

theorem ref09_Ramp_ok (p1 : Convoy) (p2 : Guest) (r : (Convoy × Int)) (h : ref09_Ramp p1 p2 = some r) : PCall Tryz.prog 21 [(.agg (eConvoy p1)), (.agg (eGuest p2))] (.tup [(.agg (eConvoy r.1)), (i64 r.2)]) := by
 refine l_call (fk Tryz.func21 Tryz.ntmps21 m0 (by with_unfolding_all rfl)) (nl rfl) ?_
 unfold ref09_Ramp at h
 refine l_sub (s0 := ⟨T [(0, (.d _)), (1, (.d _))], G []⟩) (sbr rfl rfl) ?_
 refine lr (fun u1 hu1 => sn rfl rfl (sn rfl rfl (sn rfl rfl (sv rfl (s_nil (l_seq (lr (fun u2 hu2 => sd rfl (v_loadG rfl (gq rfl) rfl rfl) (bs h fun v1 hv1 h => s_call rfl rfl all2_refl (ref09_Check_ok _  _ hv1) (.inl rfl) (sv rfl (s_nil (lr (fun u3 hu3 => sv rfl (sv rfl (s_nil (cc rfl h (fun c1 h => ?_) (fun c1 h => ?_)))))))))))))))))
 refine lr (fun u4 hu4 => sv rfl (sv rfl (sst rfl G_hit ((zs 13).set 2 (.d .nilS)) rfl (sv rfl (s_nil (l_ret ?_))))))
 cases h
 exact fin_ok (.inr rfl) (resD2 (res_cellG rfl G_hit (nl rfl) rfl) (res_t rfl) rf_d rf_d) (.tup (.cons (.agg (ca rfl (ca rfl (.cons ⟨DLe.nil, rfl⟩ (cz rfl))))) all2_refl))
 refine l_skip (lr (fun u5 hu5 => sp rfl rfl (sp rfl rfl (sl rfl (gq rfl) rfl (sv rfl (sv rfl (s_nil (l_seq (lr (fun u6 hu6 => sv rfl (s_nil (bs h fun y1 hy1 h => l_join (fun s => ∃ g1 : Unit, Sb ⟨T [(2, (.ptr (2, u1) 0)), (3, (.ptr (3, u1) 0)), (4, (.ptr (4, u1) 0)), (7, (.d (bo y1)))], G [((2, u1), some (.box 32 (dConvoy p1))), ((3, u1), some (.box 30 (dGuest p2))), ((4, u1), some (.box 32 ((zs 13).set 2 (.d .nilS))))]⟩ s) ?_ ?_))))))))))))
 refine l_block (l_loop (ref09_Ramp_l1 p1 p2) (fun (x1 : (Bool × Int)) (g2 : Unit) => ⟨T [(2, (.ptr (2, u1) 0)), (3, (.ptr (3, u1) 0)), (4, (.ptr (4, u1) 0)), (7, (.d (bo x1.1))), (8, (di x1.2))], G [((2, u1), some (.box 32 (dConvoy p1))), ((3, u1), some (.box 30 (dGuest p2))), ((4, u1), some (.box 32 ((zs 13).set 2 (.d .nilS))))]⟩) ((p1.Guest_.ID != 0), 0) () _ hy1 (sbr rfl rfl) ?_)
 intro x1 g2 z1 hz1 ez1
 unfold ref09_Ramp_l1 at hz1
 refine l_seq (lr (fun u7 hu7 => sv rfl (sp rfl rfl (sl rfl G_hit rfl (sd rfl (v_len rfl) (sv rfl (s_nil (cc rfl hz1 (fun c2 hz1 => ?_) (fun c2 hz1 => ?_)))))))))
 refine l_skip (l_seq (l_block (l_draw rfl fun u8 hu8 => sv rfl (sv rfl (gp rfl (gw_f rfl) (fun _ => rfl) (gf rfl (vl rfl G_hit rfl) (gf rfl (fun _ => rfl) (bs hz1 fun v2 hv2 hz1 => gf rfl (fun w4 => (v_idx (gd_pos w4) (gd_pos w4) (cond_t w4 hv2) rfl)) ?_))))))))
 refine gf rfl (fun w5 => (by simp only [gd_pos w5]; rfl)) ?_
 refine gf rfl (fun w6 => (v_loadL (gd_pos w6) (cond_t w6 hv2) rfl)) (gp rfl (gw_f rfl) (fun _ => rfl) (gf rfl (vl rfl (gq rfl) rfl) (gf rfl (fun w9 => (v_bin (gd_pos w9) (gd_pos w9) rfl)) (sd rfl (v_or rfl rfl (fun hc => gd_pos (not_t hc))) (sv rfl (gp rfl (gw_f rfl) (fun _ => rfl) (gf rfl (vl rfl G_hit rfl) (gf rfl (fun _ => rfl) (bs hz1 fun v3 hv3 hz1 => gf rfl (fun w13 => (v_idx (gd_pos w13) (gd_pos w13) (cond_t w13 hv3) rfl)) ?_)))))))))
 refine gf rfl (fun w14 => (by simp only [gd_pos w14]; rfl)) ?_
 refine gf rfl (fun w15 => (v_loadL (gd_pos w15) (cond_t w15 hv3) rfl)) (gp rfl (gw_f rfl) (fun _ => rfl) (gf rfl (vl rfl (gq rfl) rfl) (gf rfl (fun w18 => (v_bin (gd_pos w18) (gd_pos w18) rfl)) (gf rfl (fun w19 => (v_mv (gd_pos w19))) (g_val _ (.ptr _ _) rfl (gw_gt rfl) (fun _ => rfl) (gv rfl (gw_gt rfl) (vl rfl (gq rfl) rfl) (gv rfl (gw_gt rfl) (vb rfl rfl rfl) (gf rfl (fun w23 => (v_and (gd_pos w23) (fun hc => gd_pos (and_i w23 hc)) rfl)) (sd rfl (v_or rfl rfl (fun hc => gd_pos (not_t hc))) (sv rfl (s_nil (l_end (l_sub (s0 := ⟨T [(2, (.ptr _ _)), (3, (.ptr _ _)), (4, (.ptr _ _)), (7, (.d _)), (8, (.d _))], G [((2, u1), some (.box 32 _)), ((3, u1), some (.box 30 _)), ((4, u1), some (.box 32 _))]⟩) (sbr rfl rfl) ?_)))))))))))))
 refine l_reg fun u9 hu9 => sv rfl (sv rfl (sv rfl (s_nil (l_nil ?_))))
 cases hz1
 exact ⟨rfl, (), (sbr rfl rfl)⟩
 refine l_exitN rfl ?_
 cases hz1
 obtain rfl := ez1 _ rfl
 refine ⟨nofun, awl_pop rfl (l_j ?_)⟩
 exact ⟨(), (sbr rfl rfl)⟩
 rintro _ ⟨g1, q1⟩
 refine l_sub q1 (l_seq (lr (fun u10 hu10 => sv rfl (s_nil (cc rfl h (fun c3 h => ?_) (fun c3 h => ?_))))))
 refine lr (fun u11 hu11 => sv rfl (sst rfl (gq rfl) ((zs 13).set 2 (.d .nilS)) rfl (sv rfl (s_nil (l_ret ?_)))))
 cases h
 exact fin_ok (.inr rfl) (resD2 (res_cellG rfl G_hit (nl rfl) rfl) (res_t rfl) rf_d rf_d) (.tup (.cons (.agg (ca rfl (ca rfl (.cons ⟨DLe.nil, rfl⟩ (cz rfl))))) all2_refl))
 refine l_skip (l_seq (lr (fun u12 hu12 => sp rfl rfl (sl rfl (gq rfl) rfl (sv rfl (s_nil (cc rfl h (fun c4 h => ?_) (fun c4 h => ?_))))))))
 refine lr (fun u13 hu13 => sv rfl (sst rfl (gq rfl) ((zs 13).set 2 (.d .nilS)) rfl (sv rfl (s_nil (l_ret ?_)))))
 cases h
 exact fin_ok (.inr rfl) (resD2 (res_cellG rfl G_hit (nl rfl) rfl) (res_t rfl) rf_d rf_d) (.tup (.cons (.agg (ca rfl (ca rfl (.cons ⟨DLe.nil, rfl⟩ (cz rfl))))) all2_refl))
 refine l_skip (lr (fun u14 hu14 => sd rfl (v_loadG rfl G_hit rfl rfl) (bs h fun v4 hv4 h => s_call rfl rfl all2_refl (ref09_Copy_ok _  _ hv4) (.inl rfl) (sn rfl rfl (sst rfl G_hit (dConvoy v4) rfl (s_nil (lr (fun u15 hu15 => sp rfl rfl (sl rfl (gq rfl) rfl (sp rfl rfl (sl rfl (gq rfl) rfl (sp rfl rfl (sl rfl (gq rfl) rfl (sp rfl rfl (sl rfl (gq rfl) rfl (sp rfl rfl (sl rfl (gq rfl) rfl (sv rfl (sp rfl rfl (sst rfl G_hit ([(di v4.Tick), (di v4.Gap), (dl eMate v4.Mates)] ++ ((((((dGuest p2).set 5 (di 0)).set 6 (di 0)).set 7 (di 0)).set 8 (di 0)).set 9 (di 0))) rfl (s_nil (l_seq (l_seq (l_sub (s0 := ⟨T [(4, (.ptr _ _)), (9, (.ptr _ _))], G [((4, u1), some (.box 32 _)), ((9, u14), some (.box 32 _))]⟩) (sbr rfl rfl) ?_))))))))))))))))))))))))
 refine l_reg fun u16 hu16 => sd rfl (v_loadG rfl (gq rfl) rfl rfl) (bs h fun v5 hv5 h => s_call rfl rfl all2_refl (ref09_Check_ok _  _ hv5) (.inl rfl) (sv rfl (s_nil (lr (fun u17 hu17 => sv rfl (sv rfl (s_nil (cc rfl h (fun c5 h => ?_) (fun c5 h => ?_)))))))))
 refine lr (fun u18 hu18 => sv rfl (sv rfl (sst rfl G_hit ((zs 13).set 2 (.d .nilS)) rfl (sv rfl (s_nil (l_ret ?_))))))
 cases h
 exact fin_ok (.inr rfl) (resD2 (res_cellG rfl G_hit (nl rfl) rfl) (res_t rfl) rf_d rf_d) (.tup (.cons (.agg (ca rfl (ca rfl (.cons ⟨DLe.nil, rfl⟩ (cz rfl))))) all2_refl))
 refine l_skip (lr (fun u19 hu19 => sd rfl (v_loadG rfl (gq rfl) rfl rfl) (sst rfl G_hit ([(di v4.Tick), (di v4.Gap), (dl eMate v4.Mates)] ++ ((((((dGuest p2).set 5 (di 0)).set 6 (di 0)).set 7 (di 0)).set 8 (di 0)).set 9 (di 0))) rfl (sv rfl (s_nil (l_ret ?_))))))
 cases h
 exact fin_ok (.inr rfl) (resD2 (res_cellG rfl G_hit (nl rfl) rfl) (res_t rfl) rf_d rf_d) (.refl _)

noncomputable def kit_Convoy_o (p1 : KitRing) (p2 : Bool) : Option (Convoy × KitRing) :=
  (kit_Ring_Next_o p1 3000).bind fun v1 => (kit_Mates_o v1.2 (w64 (1 + v1.1)) 5).bind fun v2 => (ref09_New (w64 (1 + v1.1)) v2.1).bind fun v3 => cond (v3.2 != 0) (some ((Convoy.mk 0 0 [] (Guest.mk 0 0 0 0 0 0 (Guess.mk 0 0) 0 0)), v2.2)) (cond (!p2) (some (v3.1, v2.2)) ((kit_Ring_Next_o v2.2 (v3.1.Mates.length : Int)).bind fun v4 => (geti v3.1.Mates v4.1).bind fun v5 => (kit_Ring_Next_o v4.2 20).bind fun v6 => (kit_Ring_Next_o v6.2 20000).bind fun v7 => (kit_Ring_Next_o v7.2 2001).bind fun v8 => (kit_Ring_Next_o v8.2 6000).bind fun v9 => (kit_Ring_Next_o v9.2 60000).bind fun v10 => (ref09_Ramp v3.1 (Guest.mk (w64 (70 + v6.1)) (w64 ((w64 ((w64 (v5.S - v5.Len)) - v7.1)) + 8000)) v8.1 (w64 (300 + v9.1)) (w64 ((w64 ((w64 ((w64 ((w64 (v5.S - v5.Len)) - v7.1)) + 8000)) + 22000)) + v10.1)) 0 (Guess.mk 0 0) 0 0)).bind fun v11 => cond (v11.2 != 0) (some (v3.1, v10.2)) (some (v11.1, v10.2))))

theorem kit_Convoy_o_ok (p1 : KitRing) (p2 : Bool) (r : (Convoy × KitRing)) (h : kit_Convoy_o p1 p2 = some r) : MCall Tryz.prog 5 [(.ptr (900000, 0) 0), (.d (bo p2))] [(.box 60 [(dl eInt_i64 p1.l), (di p1.at_)])] (.d (.agg (eConvoy r.1))) [some (.box 60 [(dl eInt_i64 r.2.l), (di r.2.at_)])] [] := by
 refine m_callF (fk Tryz.func5 Tryz.ntmps5 (fun r => if r == 1 then [1001001] else if r == 2 then [1002003] else if r == 7 then [1007006] else if r == 8 then [1008001, 1008009, 1008013, 1008015] else if r == 9 then [1009004] else []) (by with_unfolding_all rfl)) rfl (nl rfl) ?_
 unfold kit_Convoy_o at h
 refine l_sub (s0 := ⟨T [(0, (.ptr _ _)), (1, (.d _))], G [((900000, 0), some (.box 60 _))]⟩) (sbr rfl rfl) ?_
 refine lr (fun u1 hu1 => sn rfl rfl (s_nil (lr (fun u2 hu2 => sp rfl rfl (bs h fun v1 hv1 h => s_oc (v := .d (i64 v1.1)) (us := [(900000, 0)]) (oc_m (kit_Ring_Next_o_ok _ _ _ hv1) [(900000, 0)] [(900000, 0)] _ (((900000, 0), some (.box 60 [(dl eInt_i64 v1.2.l), (di v1.2.at_)])) :: _) rfl all2_av (kl_cons (kr_ptr (G_skip rfl G_hit) rfl) (kl_cons kr_d kl_nil)) (live_cons (G_skip rfl G_hit) live_nil) ⟨⟨_, (G_skip rfl G_hit), .of rfl⟩, trivial⟩ (fun _ h => h) nd1 rfl rfl rfl) (sv rfl (sv rfl (s_nil (lr (fun u3 hu3 => sv rfl (sp rfl rfl (sv rfl (bs h fun v2 hv2 h => s_oc (v := .d (.list (List.map eMate v2.1))) (us := [(900000, 0)]) (oc_m (kit_Mates_o_ok _ _ _ _ hv2) [(900000, 0)] [(900000, 0)] _ (((900000, 0), some (.box 60 [(dl eInt_i64 v2.2.l), (di v2.2.at_)])) :: _) rfl all2_av (kl_cons (kr_ptr G_hit rfl) (kl_cons kr_d (kl_cons kr_d kl_nil))) (live_cons G_hit live_nil) ⟨⟨_, G_hit, .of rfl⟩, trivial⟩ (fun _ h => h) nd1 rfl rfl rfl) (bs h fun v3 hv3 h => s_call rfl rfl all2_refl (ref09_New_ok _ _  _ hv3) (.inl rfl) (sv rfl (sv rfl (sv rfl (sn rfl rfl (sst rfl G_hit (dConvoy v3.1) rfl (sv rfl (s_nil (l_seq (l_seq (l_sub (s0 := ⟨T [(0, (.ptr _ _)), (1, (.d _)), (4, (.ptr _ _)), (6, (.ptr _ _)), (7, (.d _))], G [((900000, 0), some (.box 60 _)), ((4, u1), some (.box 32 _)), ((6, u3), some (.box 32 _))]⟩) (sbr rfl rfl) ?_))))))))))))))))))))))))
 refine l_reg fun u4 hu4 => sv rfl (sv rfl (s_nil (cc rfl h (fun c1 h => ?_) (fun c1 h => ?_))))
 refine lr (fun u5 hu5 => sv rfl (sst rfl (gq rfl) ((zs 13).set 2 (.d .nilS)) rfl (s_nil (l_ret ?_))))
 cases h
 exact fin_mf (.inr rfl) [] (resDF1 (res_cellG rfl G_hit (Nat.le_of_ble_eq_true rfl) rfl) rf_d) (.agg (ca rfl (ca rfl (.cons ⟨DLe.nil, rfl⟩ (cz rfl))))) ⟨⟨_, _, _, (gq rfl), old_notin_nil, rfl, all2_d, rfl⟩, trivial⟩
 refine l_skip (l_seq (lr (fun u6 hu6 => sv rfl (s_val (.d (bo (!p2))) rfl rfl (s_nil (cc rfl h (fun c2 h => ?_) (fun c2 h => ?_)))))))
 refine lr (fun u7 hu7 => sd rfl (v_loadG rfl (gq rfl) rfl rfl) (sst rfl (gq rfl) (dConvoy v3.1) rfl (s_nil (l_ret ?_))))
 cases h
 exact fin_mf (.inr rfl) [] (resDF1 (res_cellG rfl G_hit (Nat.le_of_ble_eq_true rfl) rfl) rf_d) (.refl _) ⟨⟨_, _, _, (gq rfl), old_notin_nil, rfl, all2_d, rfl⟩, trivial⟩
 refine l_skip (l_seq (l_drawT fun u8 hu8 => t_val (.ptr _ _) rfl rfl (t_val (.d _) rfl (v_load rfl (gq rfl) rfl) (t_val (.ptr _ _) rfl rfl (t_val (.ptr _ _) rfl rfl (t_val (.d _) rfl (v_load rfl (gq rfl) rfl) (t_val (.d _) rfl (v_len rfl) (bs h fun v4 hv4 h => t_oc (v := .d (i64 v4.1)) (us := [(900000, 0)]) (oc_m (kit_Ring_Next_o_ok _ _ _ hv4) [(900000, 0)] [(900000, 0)] _ (((900000, 0), some (.box 60 [(dl eInt_i64 v4.2.l), (di v4.2.at_)])) :: _) rfl all2_av (kl_cons (kr_ptr G_hit rfl) (kl_cons kr_d kl_nil)) (live_cons G_hit live_nil) ⟨⟨_, G_hit, .of rfl⟩, trivial⟩ (fun _ h => h) nd1 rfl rfl rfl) (bs h fun v5 hv5 h => t_val (.d _) rfl (v_idx rfl rfl hv5 rfl) (t_val (.d _) rfl (v_loadLG rfl hv5 rfl rfl) (t_new (.ptr _ _) (.box _ _) rfl rfl (t_store _ _ _ _ _ rfl rfl rfl G_hit (nl rfl) (dMate v5) rfl (t_nil ⟨rfl, ?_⟩)))))))))))))
 refine l_seq (l_sub (s0 := ⟨T [(0, (.ptr _ _)), (4, (.ptr _ _)), (6, (.ptr _ _)), (8, (.ptr _ _))], G [((900000, 0), some (.box 60 _)), ((4, u1), some (.box 32 _)), ((6, u3), some (.box 32 _)), ((8, u8), some (.box 51 _))]⟩) (sbr rfl rfl) ?_)
 refine l_drawT fun u9 hu9 => t_val (.ptr _ _) rfl rfl (bs h fun v6 hv6 h => t_oc (v := .d (i64 v6.1)) (us := [(900000, 0)]) (oc_m (kit_Ring_Next_o_ok _ _ _ hv6) [(900000, 0)] [(900000, 0)] _ (((900000, 0), some (.box 60 [(dl eInt_i64 v6.2.l), (di v6.2.at_)])) :: _) rfl all2_av (kl_cons (kr_ptr G_hit rfl) (kl_cons kr_d kl_nil)) (live_cons G_hit live_nil) ⟨⟨_, G_hit, .of rfl⟩, trivial⟩ (fun _ h => h) nd1 rfl rfl rfl) (t_val (.d _) rfl rfl (t_val (.ptr _ _) rfl rfl (t_val (.d _) rfl (v_load rfl (gq rfl) rfl) (t_val (.ptr _ _) rfl rfl (t_val (.d _) rfl (v_load rfl (gq rfl) rfl) (t_val (.d _) rfl rfl (t_val (.ptr _ _) rfl rfl (bs h fun v7 hv7 h => t_oc (v := .d (i64 v7.1)) (us := [(900000, 0)]) (oc_m (kit_Ring_Next_o_ok _ _ _ hv7) [(900000, 0)] [(900000, 0)] _ (((900000, 0), some (.box 60 [(dl eInt_i64 v7.2.l), (di v7.2.at_)])) :: _) rfl all2_av (kl_cons (kr_ptr G_hit rfl) (kl_cons kr_d kl_nil)) (live_cons G_hit live_nil) ⟨⟨_, G_hit, .of rfl⟩, trivial⟩ (fun _ h => h) nd1 rfl rfl rfl) (t_val (.d _) rfl rfl (t_val (.d _) rfl rfl (t_val (.ptr _ _) rfl rfl (bs h fun v8 hv8 h => t_oc (v := .d (i64 v8.1)) (us := [(900000, 0)]) (oc_m (kit_Ring_Next_o_ok _ _ _ hv8) [(900000, 0)] [(900000, 0)] _ (((900000, 0), some (.box 60 [(dl eInt_i64 v8.2.l), (di v8.2.at_)])) :: _) rfl all2_av (kl_cons (kr_ptr G_hit rfl) (kl_cons kr_d kl_nil)) (live_cons G_hit live_nil) ⟨⟨_, G_hit, .of rfl⟩, trivial⟩ (fun _ h => h) nd1 rfl rfl rfl) (t_val (.ptr _ _) rfl rfl (bs h fun v9 hv9 h => t_oc (v := .d (i64 v9.1)) (us := [(900000, 0)]) (oc_m (kit_Ring_Next_o_ok _ _ _ hv9) [(900000, 0)] [(900000, 0)] _ (((900000, 0), some (.box 60 [(dl eInt_i64 v9.2.l), (di v9.2.at_)])) :: _) rfl all2_av (kl_cons (kr_ptr G_hit rfl) (kl_cons kr_d kl_nil)) (live_cons G_hit live_nil) ⟨⟨_, G_hit, .of rfl⟩, trivial⟩ (fun _ h => h) nd1 rfl rfl rfl) (t_val (.d _) rfl rfl (t_val (.d _) rfl rfl (t_new (.ptr _ _) (.box _ _) rfl rfl (t_store _ _ _ _ _ rfl rfl rfl G_hit (nl rfl) ([(di (w64 (70 + v6.1))), (di (w64 ((w64 ((w64 (v5.S - v5.Len)) - v7.1)) + 8000))), (di v8.1), (di (w64 (300 + v9.1)))] ++ (zs 6)) rfl (t_nil ⟨rfl, ?_⟩))))))))))))))))))))
 refine l_seq (l_sub (s0 := ⟨T [(0, (.ptr _ _)), (4, (.ptr _ _)), (6, (.ptr _ _)), (9, (.ptr _ _))], G [((900000, 0), some (.box 60 _)), ((4, u1), some (.box 32 _)), ((6, u3), some (.box 32 _)), ((9, u9), some (.box 30 _))]⟩) (sbr rfl rfl) ?_)
 refine l_drawT fun u10 hu10 => t_val (.ptr _ _) rfl rfl (t_val (.d _) rfl (v_load rfl (gq rfl) rfl) (t_val (.d _) rfl rfl (t_val (.ptr _ _) rfl rfl (bs h fun v10 hv10 h => t_oc (v := .d (i64 v10.1)) (us := [(900000, 0)]) (oc_m (kit_Ring_Next_o_ok _ _ _ hv10) [(900000, 0)] [(900000, 0)] _ (((900000, 0), some (.box 60 [(dl eInt_i64 v10.2.l), (di v10.2.at_)])) :: _) rfl all2_av (kl_cons (kr_ptr G_hit rfl) (kl_cons kr_d kl_nil)) (live_cons G_hit live_nil) ⟨⟨_, G_hit, .of rfl⟩, trivial⟩ (fun _ h => h) nd1 rfl rfl rfl) (t_val (.d _) rfl rfl (t_val (.ptr _ _) rfl rfl (t_store _ _ _ _ _ rfl rfl rfl (gq rfl) (nl rfl) ([(di (w64 (70 + v6.1))), (di (w64 ((w64 ((w64 (v5.S - v5.Len)) - v7.1)) + 8000))), (di v8.1), (di (w64 (300 + v9.1))), (di (w64 ((w64 ((w64 ((w64 ((w64 (v5.S - v5.Len)) - v7.1)) + 8000)) + 22000)) + v10.1)))] ++ (zs 5)) rfl (t_nil ⟨rfl, ?_⟩))))))))
 refine lr (fun u11 hu11 => sd rfl (v_loadG rfl (gq rfl) rfl rfl) (sd rfl (v_loadG rfl G_hit rfl rfl) (bs h fun v11 hv11 h => s_call rfl rfl all2_refl (ref09_Ramp_ok _ _  _ hv11) (.inl rfl) (sv rfl (sv rfl (sv rfl (sn rfl rfl (sst rfl G_hit (dConvoy v11.1) rfl (sv rfl (s_nil (l_seq (l_seq (l_sub (s0 := ⟨T [(0, (.ptr _ _)), (4, (.ptr _ _)), (6, (.ptr _ _)), (7, (.d _)), (10, (.ptr _ _))], G [((900000, 0), some (.box 60 _)), ((4, u1), some (.box 32 _)), ((6, u3), some (.box 32 _)), ((10, u11), some (.box 32 _))]⟩) (sbr rfl rfl) ?_)))))))))))))
 refine l_reg fun u12 hu12 => sv rfl (sv rfl (s_nil (cc rfl h (fun c3 h => ?_) (fun c3 h => ?_))))
 refine lr (fun u13 hu13 => sd rfl (v_loadG rfl (gq rfl) rfl rfl) (sst rfl (gq rfl) (dConvoy v3.1) rfl (s_nil (l_ret ?_))))
 cases h
 exact fin_mf (.inr rfl) [] (resDF1 (res_cellG rfl G_hit (Nat.le_of_ble_eq_true rfl) rfl) rf_d) (.refl _) ⟨⟨_, _, _, (gq rfl), old_notin_nil, rfl, all2_d, rfl⟩, trivial⟩
 refine l_skip (lr (fun u14 hu14 => sd rfl (v_loadG rfl (gq rfl) rfl rfl) (sst rfl (gq rfl) (dConvoy v11.1) rfl (s_nil (l_ret ?_)))))
 cases h
 exact fin_mf (.inr rfl) [] (resDF1 (res_cellG rfl G_hit (Nat.le_of_ble_eq_true rfl) rfl) rf_d) (.refl _) ⟨⟨_, _, _, (gq rfl), old_notin_nil, rfl, all2_d, rfl⟩, trivial⟩

noncomputable def ref09_beside_l1 (p1 : Convoy) (x1 : (Int × Int × Int)) : Option (Stp (Int × Int × Int) (Int × Int)) :=
  cond (decide (x1.2.2 < (p1.Mates.length : Int))) ((geti p1.Mates x1.2.2).bind fun v1 => cond (decide (v1.S > p1.Guest_.S)) (some (.go (x1.2.2, x1.2.1, (w64 (x1.2.2 + 1))))) (cond (decide (x1.2.1 < 0)) (some (.go (x1.1, x1.2.2, (w64 (x1.2.2 + 1))))) (some (.go (x1.1, x1.2.1, (w64 (x1.2.2 + 1))))))) (some (.out (x1.1, x1.2.1)))
noncomputable def ref09_beside (p1 : Convoy) : Option (Int × Int) :=
  (loop (ref09_beside_l1 p1) ((-1), (-1), 0)).bind fun y1 => some (y1.1, y1.2)

theorem ref09_beside_ok (p1 : Convoy) (r : (Int × Int)) (h : ref09_beside p1 = some r) : PCall Tryz.prog 24 [(.agg (eConvoy p1))] (.tup [(i64 r.1), (i64 r.2)]) := by
 refine l_call (fk Tryz.func24 Tryz.ntmps24 m0 (by with_unfolding_all rfl)) (nl rfl) ?_
 unfold ref09_beside at h
 refine l_sub (s0 := ⟨T [(0, (.d _))], G []⟩) (sbr rfl rfl) ?_
 refine lr (fun u1 hu1 => sn rfl rfl (sv rfl (sv rfl (s_nil (lr (fun u2 hu2 => sv rfl (sv rfl (s_nil (l_seq (lr (fun u3 hu3 => sv rfl (s_nil (bs h fun y1 hy1 h => l_join (fun s => ∃ g1 : Unit, Sb ⟨T [(4, (di y1.1)), (5, (di y1.2))], G []⟩ s) ?_ ?_)))))))))))))
 refine l_block (l_loop (ref09_beside_l1 p1) (fun (x1 : (Int × Int × Int)) (g2 : Unit) => ⟨T [(1, (.ptr (1, u1) 0)), (4, (di x1.1)), (5, (di x1.2.1)), (6, (di x1.2.2))], G [((1, u1), some (.box 32 (dConvoy p1)))]⟩) ((-1), (-1), 0) () _ hy1 (sbr rfl rfl) ?_)
 intro x1 g2 z1 hz1 ez1
 unfold ref09_beside_l1 at hz1
 refine l_seq (lr (fun u4 hu4 => sv rfl (sp rfl rfl (sl rfl G_hit rfl (sd rfl (v_len rfl) (sv rfl (s_nil (cc rfl hz1 (fun c1 hz1 => ?_) (fun c1 hz1 => ?_)))))))))
 refine l_skip (l_seq (l_block (l_seq (l_draw rfl fun u5 hu5 => sp rfl rfl (sl rfl G_hit rfl (sv rfl (bs hz1 fun v1 hv1 hz1 => sd rfl (v_idx rfl rfl hv1 rfl) (sv rfl (sd rfl (v_loadL rfl hv1 rfl) (sp rfl rfl (sp rfl rfl (sl rfl G_hit rfl (sv rfl (s_nil (cc rfl hz1 (fun c2 hz1 => ?_) (fun c2 hz1 => ?_))))))))))))))))
 refine l_reg fun u6 hu6 => sv rfl (sv rfl (s_nil (l_end (l_reg fun u7 hu7 => sv rfl (sv rfl (sv rfl (s_nil (l_nil ?_))))))))
 cases hz1
 exact ⟨rfl, (), (sbr rfl rfl)⟩
 refine lr (fun u8 hu8 => sv rfl (sv rfl (s_nil (cc rfl hz1 (fun c3 hz1 => ?_) (fun c3 hz1 => ?_)))))
 refine l_reg fun u9 hu9 => sv rfl (sv rfl (s_nil (l_end (l_sub (s0 := ⟨T [(1, (.ptr _ _)), (4, (.d _)), (5, (.d _)), (6, (.d _))], G [((1, u1), some (.box 32 _))]⟩) (sbr rfl rfl) ?_))))
 refine l_reg fun u10 hu10 => sv rfl (sv rfl (sv rfl (s_nil (l_nil ?_))))
 cases hz1
 exact ⟨rfl, (), (sbr rfl rfl)⟩
 refine l_skip (l_end (l_reg fun u11 hu11 => sv rfl (sv rfl (sv rfl (s_nil (l_nil ?_))))))
 cases hz1
 exact ⟨rfl, (), (sbr rfl rfl)⟩
 refine l_exitN rfl ?_
 cases hz1
 obtain rfl := ez1 _ rfl
 refine ⟨nofun, awl_pop rfl (l_j ?_)⟩
 exact ⟨(), (sbr rfl rfl)⟩
 rintro _ ⟨g1, q1⟩
 refine l_sub q1 (lr (fun u12 hu12 => sv rfl (sv rfl (sv rfl (sv rfl (s_nil (l_ret ?_)))))))
 cases h
 exact fin_ok (.inr rfl) (resD2 (res_t rfl) (res_t rfl) rf_d rf_d) (.refl _)

noncomputable def ref09_Notes_l1 (p1 : Convoy) (x1 : ((List Note) × Int)) : Option (Stp ((List Note) × Int) (List Note)) :=
  cond (decide (x1.2 < (p1.Mates.length : Int))) (((geti p1.Mates x1.2).bind fun v2 => (ref09_rear v2).bind fun v3 => (appc x1.1 [(Note.mk 1 v2.ID 0 p1.Tick v3 v2.V 0)]).bind fun v4 => (cond (decide ((w64 (x1.2 + 1)) < (p1.Mates.length : Int))) ((geti p1.Mates (w64 (x1.2 + 1))).bind fun v5 => (appc v4 [(Note.mk 4 v2.ID v5.ID p1.Tick v3 v2.V 0)]).bind fun v6 => some v6) (some v4)).bind fun y3 => cond ((v2.Until != 0) && (decide (v2.Until ≥ p1.Tick))) ((appc y3 [(Note.mk 3 v2.ID v2.Ward p1.Tick v3 v2.V v2.Until)]).bind fun v7 => some v7) (some y3)).bind fun y2 => some (.go (y2, (w64 (x1.2 + 1))))) (some (.out x1.1))
noncomputable def ref09_Notes (p1 : Convoy) : Option (List Note) :=
  (ref09_Check p1).bind fun v1 => cond (v1 != 0) (some []) ((loop (ref09_Notes_l1 p1) ([], 0)).bind fun y1 => (ref09_beside p1).bind fun v8 => cond ((p1.Guest_.ID != 0) && (decide (v8.2 ≥ 0))) ((geti p1.Mates v8.2).bind fun v9 => (appc y1 [(Note.mk 2 p1.Guest_.ID v9.ID p1.Tick (w64 (p1.Guest_.S - p1.Guest_.Len)) p1.Guest_.V 0)]).bind fun v10 => some v10) (some y1))

theorem ref09_Notes_ok (p1 : Convoy) (r : (List Note)) (h : ref09_Notes p1 = some r) : PCall Tryz.prog 7 [(.agg (eConvoy p1))] (.list (List.map eNote r)) := by
 refine l_call (fk Tryz.func7 Tryz.ntmps7 (fun r => if r == 11 then [1002] else if r == 14 then [1002] else if r == 17 then [1002] else if r == 20 then [1023] else []) (by with_unfolding_all rfl)) (nl rfl) ?_
 unfold ref09_Notes at h
 refine l_sub (s0 := ⟨T [(0, (.d _))], G []⟩) (sbr rfl rfl) ?_
 refine lr (fun u1 hu1 => sn rfl rfl (sv rfl (s_nil (l_seq (lr (fun u2 hu2 => sd rfl (v_loadG rfl G_hit rfl rfl) (bs h fun v1 hv1 h => s_call rfl rfl all2_refl (ref09_Check_ok _  _ hv1) (.inl rfl) (sv rfl (s_nil (cc rfl h (fun c1 h => ?_) (fun c1 h => ?_)))))))))))
 refine lr (fun u3 hu3 => sv rfl (s_nil (l_ret ?_)))
 cases h
 exact fin_ok (.inr rfl) (resD1 (res_t rfl) rf_d) DLe.nil
 refine l_skip (lr (fun u4 hu4 => sv rfl (s_nil (l_seq (lr (fun u5 hu5 => sv rfl (s_nil (bs h fun y1 hy1 h => l_join (fun s => ∃ g1 : ({d : Nat // d ∈ [45, 63, 83]} × Nat), Sb ⟨T [(1, (.ptr (1, u1) 0)), (3, (oS y1 (g1.1.val, g1.2)))], G [((1, u1), some (.box 32 (dConvoy p1))), ((g1.1.val, g1.2), oB 43 7 eNote y1)]⟩ s) ?_ ?_))))))))
 refine l_block (l_loop (ref09_Notes_l1 p1) (fun (x1 : ((List Note) × Int)) (g2 : ({d : Nat // d ∈ [45, 63, 83]} × Nat)) => ⟨T [(1, (.ptr (1, u1) 0)), (3, (oS x1.1 (g2.1.val, g2.2))), (4, (di x1.2))], G [((1, u1), some (.box 32 (dConvoy p1))), ((g2.1.val, g2.2), oB 43 7 eNote x1.1)]⟩) ([], 0) (⟨45, .head _⟩, 0) _ hy1 (sb_of ⟨.of rfl, .of rfl, .of rfl, trivial⟩ (sbG_some G_hit (.of rfl) (sbG_nil trivial))) ?_)
 intro x1 g2 z1 hz1 ez1
 unfold ref09_Notes_l1 at hz1
 refine l_seq (lr (fun u6 hu6 => sv rfl (sp rfl rfl (sl rfl G_hit rfl (sd rfl (v_len rfl) (sv rfl (s_nil (cc rfl hz1 (fun c2 hz1 => ?_) (fun c2 hz1 => ?_)))))))))
 refine l_skip (l_seq (bs hz1 fun y2 hy2 hz1 => l_join (fun s => ∃ g3 : ({d : Nat // d ∈ [45, 63, 83]} × Nat), Sb ⟨T [(1, (.ptr (1, u1) 0)), (3, (oS y2 (g3.1.val, g3.2))), (4, (di x1.2))], G [((1, u1), some (.box 32 (dConvoy p1))), ((g3.1.val, g3.2), oB 43 7 eNote y2)]⟩ s) ?_ ?_))
 refine l_block (lr (fun u7 hu7 => sp rfl rfl (sl rfl G_hit rfl (sv rfl (bs hy2 fun v2 hv2 hy2 => sd rfl (v_idx rfl rfl hv2 rfl) (sd rfl (v_loadLG rfl hv2 rfl rfl) (sn rfl rfl (sst rfl G_hit (dMate v2) rfl (s_nil (l_seq (l_draw rfl fun u8 hu8 => sp rfl rfl (sl rfl G_hit rfl (sp rfl rfl (sl rfl (gq rfl) rfl (sd rfl (v_loadG rfl G_hit rfl rfl) (bs hy2 fun v3 hv3 hy2 => s_call rfl rfl all2_refl (ref09_rear_ok _  _ hv3) (.inl rfl) (sp rfl rfl (sl rfl G_hit rfl (sv rfl (sn rfl rfl (sst rfl G_hit [(di 0), (di v2.ID), (di 0), (di p1.Tick), (di v3), (di v2.V), (di 0)] rfl (s_nil (l_seq (l_sub (s0 := ⟨T [(1, (.ptr (1, u1) 0)), (3, (oS x1.1 (g2.1.val, g2.2))), (4, (di x1.2)), (5, (.ptr (5, u7) 0)), (6, (.ptr (6, u8) 0))], G [((1, u1), some (.box 32 (dConvoy p1))), ((g2.1.val, g2.2), oB 43 7 eNote x1.1), ((5, u7), some (.box 51 (dMate v2))), ((6, u8), some (.box 43 [(di 0), (di v2.ID), (di 0), (di p1.Tick), (di v3), (di v2.V), (di 0)]))]⟩) (sb_of ⟨.of rfl, .of rfl, .of rfl, .of rfl, .of rfl, trivial⟩ (sg rfl (sbG_oB (G_skip (neL g2.1.property rfl) (G_skip (neL g2.1.property rfl) (G_skip (neL g2.1.property rfl) (G_skip (neL g2.1.property rfl) (G_skip (neL g2.1.property rfl) G_hit))))) (sg rfl (sbG_some G_hit (.of rfl) trivial))))) ?_))))))))))))))))))))))))
 refine l_drawT fun u9 hu9 => t_val (.d _) rfl (v_loadG rfl (G_skip rfl (G_skip (neR g2.1.property rfl) (gq rfl))) rfl rfl) (t_val (.d _) rfl (v_loadG rfl (G_skip rfl (G_skip (neR g2.1.property rfl) (gq rfl))) rfl rfl) (t_val (.d _) rfl (v_loadG rfl (G_skip rfl (G_skip (neR g2.1.property rfl) (gq rfl))) rfl rfl) (t_new (.ptr _ _) (.box _ _) rfl rfl (t_new (.ptr _ _) (.box _ _) rfl rfl (t_new (.ptr _ _) (.box _ _) rfl rfl (t_store _ _ _ _ _ rfl rfl rfl (gq rfl) (nl rfl) [(di 0), (di v2.ID), (di 0), (di p1.Tick), (di v3), (di v2.V), (di 0)] rfl (t_store _ _ _ _ _ rfl rfl rfl (gq rfl) (nl rfl) [(di 0), (di v2.ID), (di 0), (di p1.Tick), (di v3), (di v2.V), (di 0)] rfl (t_store _ _ _ _ _ rfl rfl rfl (gq rfl) (nl rfl) [(di 0), (di v2.ID), (di 0), (di p1.Tick), (di v3), (di v2.V), (di 0)] rfl (t_nil ⟨by first | rfl | ((generalize g2.1 = q0; rcases q0 with ⟨d0, _ | ⟨_, _ | ⟨_, _ | ⟨_, h0⟩⟩⟩⟩) <;> (generalize x1.1 = z1; cases z1) <;> first | rfl | contradiction), ?_⟩)))))))))
 refine lr (fun u10 hu10 => sp rfl rfl (sst rfl (gq rfl) [(di 1), (di v2.ID), (di 0), (di p1.Tick), (di v3), (di v2.V), (di 0)] rfl (sp rfl rfl (sst rfl (gq rfl) [(di 4), (di v2.ID), (di 0), (di p1.Tick), (di v3), (di v2.V), (di 0)] rfl (sp rfl rfl (sst rfl (gq rfl) [(di 3), (di v2.ID), (di 0), (di p1.Tick), (di v3), (di v2.V), (di 0)] rfl (s_nil (l_seq (l_sub (s0 := ⟨T [(1, (.ptr (1, u1) 0)), (3, (oS x1.1 (g2.1.val, g2.2))), (4, (di x1.2)), (5, (.ptr (5, u7) 0)), (7, (.ptr (7, u9) 0)), (8, (.ptr (8, u9) 0)), (9, (.ptr (9, u9) 0))], G [((1, u1), some (.box 32 (dConvoy p1))), ((g2.1.val, g2.2), oB 43 7 eNote x1.1), ((5, u7), some (.box 51 (dMate v2))), ((7, u9), some (.box 43 [(di 1), (di v2.ID), (di 0), (di p1.Tick), (di v3), (di v2.V), (di 0)])), ((8, u9), some (.box 43 [(di 4), (di v2.ID), (di 0), (di p1.Tick), (di v3), (di v2.V), (di 0)])), ((9, u9), some (.box 43 [(di 3), (di v2.ID), (di 0), (di p1.Tick), (di v3), (di v2.V), (di 0)]))]⟩) (sb_of ⟨.of rfl, .of rfl, .of rfl, .of rfl, .of rfl, .of rfl, .of rfl, trivial⟩ (sg rfl (sbG_oB (G_skip (neL g2.1.property rfl) (G_skip (neL g2.1.property rfl) (G_skip (neL g2.1.property rfl) (G_skip (neL g2.1.property rfl) (G_skip (neL g2.1.property rfl) (G_skip (neL g2.1.property rfl) (G_skip (neL g2.1.property rfl) (G_skip (neL g2.1.property rfl) (G_skip (neL g2.1.property rfl) (G_skip (neL g2.1.property rfl) G_hit)))))))))) (sbG_some (G_skip rfl (G_skip rfl (G_skip rfl (G_skip rfl (G_skip rfl (G_skip rfl (G_skip rfl (G_skip rfl (G_skip rfl (G_skip rfl (G_skip (neR g2.1.property rfl) G_hit))))))))))) (.of rfl) (sg rfl (sg rfl (sbG_some G_hit (.of rfl) trivial))))))) ?_)))))))))
 refine l_reg fun u11 hu11 => s_val (oS x1.1 (g2.1.val, g2.2)) rfl rfl (sd rfl (v_loadG rfl (G_skip rfl (G_skip (neR g2.1.property rfl) (gq rfl))) rfl rfl) (s_val (dl eNote [(Note.mk 1 v2.ID 0 p1.Tick v3 v2.V 0)]) rfl rfl (bs hy2 fun v4 hv4 hy2 => s_appendO eNote (g2.1.val, g2.2) x1.1 (Note.mk 1 v2.ID 0 p1.Tick v3 v2.V 0) [] _ (elems_list (fun _ => rfl)) rfl (G_skip (neL g2.1.property rfl) G_hit) hv4 (ss rfl (s_nil (l_seq (lr (fun u12 hu12 => sv rfl (sv rfl (sp rfl rfl (sd rfl (v_load rfl (G_skip rfl (G_skip (neR g2.1.property rfl) G_hit)) rfl) (sd rfl (v_len rfl) (sv rfl (s_nil (bs hy2 fun y3 hy3 hy2 => l_join (fun s => ∃ g4 : ({d : Nat // d ∈ [45, 63]} × Nat), Sb ⟨T [(1, (.ptr (1, u1) 0)), (3, (oS y3 (g4.1.val, g4.2))), (4, (di x1.2)), (5, (.ptr (5, u7) 0)), (9, (.ptr (9, u9) 0))], G [((1, u1), some (.box 32 (dConvoy p1))), ((5, u7), some (.box 51 (dMate v2))), ((9, u9), some (.box 43 [(di 3), (di v2.ID), (di 0), (di p1.Tick), (di v3), (di v2.V), (di 0)])), ((g4.1.val, g4.2), oB 43 7 eNote y3)]⟩ s) ?_ ?_)))))))))))))))
 refine cc rfl hy3 (fun c3 hy3 => ?_) (fun c3 hy3 => ?_)
 refine l_seq (l_sub (s0 := ⟨T [(1, (.ptr (1, u1) 0)), (3, (.sl (45, u11))), (4, (di x1.2)), (5, (.ptr (5, u7) 0)), (8, (.ptr (8, u9) 0)), (9, (.ptr (9, u9) 0))], G [((1, u1), some (.box 32 (dConvoy p1))), ((45, u11), some (.arr 43 7 (List.map eNote v4))), ((5, u7), some (.box 51 (dMate v2))), ((8, u9), some (.box 43 [(di 4), (di v2.ID), (di 0), (di p1.Tick), (di v3), (di v2.V), (di 0)])), ((9, u9), some (.box 43 [(di 3), (di v2.ID), (di 0), (di p1.Tick), (di v3), (di v2.V), (di 0)]))]⟩) (sb_of ⟨.of rfl, .of rfl, .of rfl, .of rfl, .of rfl, .of rfl, trivial⟩ (sbG_some (G_skip rfl (G_skip (neR g2.1.property rfl) G_hit)) (.of rfl) (sbG_some G_hit (.of rfl) (sbG_some (G_skip rfl (G_skip (neR g2.1.property rfl) (G_skip rfl (G_skip (neR g2.1.property rfl) G_hit)))) (.of rfl) (sbG_some (G_skip rfl (G_skip (neR g2.1.property rfl) (G_skip rfl (G_skip (neR g2.1.property rfl) (gq rfl))))) (.of rfl) (sbG_some (G_skip rfl (G_skip (neR g2.1.property rfl) (G_skip rfl (G_skip (neR g2.1.property rfl) (gq rfl))))) (.of rfl) trivial)))))) ?_)
 refine l_reg fun u13 hu13 => sp rfl rfl (sl rfl G_hit rfl (sv rfl (sv rfl (bs hy3 fun v5 hv5 hy3 => sd rfl (v_idx rfl rfl hv5 rfl) (sv rfl (sd rfl (v_loadL rfl hv5 rfl) (sp rfl rfl (sst rfl (gq rfl) [(di 4), (di v2.ID), (di v5.ID), (di p1.Tick), (di v3), (di v2.V), (di 0)] rfl (s_nil (l_reg fun u14 hu14 => ss rfl (sd rfl (v_loadG rfl G_hit rfl rfl) (s_val (dl eNote [(Note.mk 4 v2.ID v5.ID p1.Tick v3 v2.V 0)]) rfl rfl (bs hy3 fun v6 hv6 hy3 => s_append eNote _ _ _ _ (elems_list (fun _ => rfl)) rfl (gq rfl) hv6 (ss rfl (s_nil ?_)))))))))))))))
 cases hy3
 exact l_j ⟨(⟨63, .tail _ (.head _)⟩, u14), (sb_of ⟨.of rfl, (.of (oS_ne (appc_ne hv6)).symm), .of rfl, .of rfl, .of rfl, trivial⟩ (sg rfl (sg rfl (sg rfl (sbG_own G_hit trivial)))))⟩
 refine l_skip ?_
 cases hy3
 exact l_j ⟨(⟨45, .head _⟩, u11), (sb_of ⟨.of rfl, (.of (oS_ne (appc_ne hv4)).symm), .of rfl, .of rfl, .of rfl, trivial⟩ (sbG_some (G_skip rfl (G_skip (neR g2.1.property rfl) G_hit)) (.of rfl) (sbG_some (G_skip rfl (G_skip (neR g2.1.property rfl) (G_skip rfl (G_skip (neR g2.1.property rfl) G_hit)))) (.of rfl) (sbG_some (G_skip rfl (G_skip (neR g2.1.property rfl) (G_skip rfl (G_skip (neR g2.1.property rfl) (gq rfl))))) (.of rfl) (sbG_own G_hit trivial)))))⟩
 rintro _ ⟨g4, q1⟩
 refine l_sub q1 (lr (fun u15 hu15 => sp rfl rfl (sl rfl (gq rfl) rfl (sv rfl (sv rfl (gp rfl (gw_t rfl) (fun _ => rfl) (gt rfl (vl rfl (gq rfl) rfl) (gp rfl (gw_t rfl) (fun _ => rfl) (gt rfl (vl rfl G_hit rfl) (gt rfl (fun w5 => (v_bin (gd_pos w5) (gd_pos w5) rfl)) (sa rfl rfl rfl (s_nil (cc rfl hy2 (fun c4 hy2 => ?_) (fun c4 hy2 => ?_))))))))))))))
 refine l_seq (l_drawT fun u16 hu16 => t_val (.ptr _ _) rfl rfl (t_val (.d _) rfl (v_load rfl (gq rfl) rfl) (t_val (.ptr _ _) rfl rfl (t_val (.d _) rfl (v_load rfl (gq rfl) rfl) (t_val (.ptr _ _) rfl rfl (t_store _ _ _ _ _ rfl rfl rfl (gq rfl) (nl rfl) [(di 3), (di v2.ID), (di v2.Ward), (di p1.Tick), (di v3), (di v2.V), (di 0)] rfl (t_val (.ptr _ _) rfl rfl (t_store _ _ _ _ _ rfl rfl rfl G_hit (nl rfl) [(di 3), (di v2.ID), (di v2.Ward), (di p1.Tick), (di v3), (di v2.V), (di v2.Until)] rfl (t_nil ⟨by first | rfl | ((generalize g4.1 = q0; rcases q0 with ⟨d0, _ | ⟨_, _ | ⟨_, h0⟩⟩⟩) <;> (generalize y3 = z3; cases z3) <;> first | rfl | contradiction), ?_⟩)))))))))
 refine l_sub (s0 := ⟨T [(1, (.ptr (1, u1) 0)), (3, (oS y3 (g4.1.val, g4.2))), (4, (di x1.2)), (9, (.ptr (9, u9) 0))], G [((1, u1), some (.box 32 (dConvoy p1))), ((g4.1.val, g4.2), oB 43 7 eNote y3), ((9, u9), some (.box 43 [(di 3), (di v2.ID), (di v2.Ward), (di p1.Tick), (di v3), (di v2.V), (di v2.Until)]))]⟩) (sb_of ⟨.of rfl, .of rfl, .of rfl, .of rfl, trivial⟩ (sg rfl (sbG_oB (G_skip (neL g4.1.property rfl) (G_skip (neL g4.1.property rfl) (G_skip (neL g4.1.property rfl) (G_skip (neL g4.1.property rfl) (G_skip (neL g4.1.property rfl) G_hit))))) (sbG_some G_hit (.of rfl) trivial)))) ?_
 refine l_reg fun u17 hu17 => s_val (oS y3 (g4.1.val, g4.2)) rfl rfl (sd rfl (v_loadG rfl (G_skip rfl (G_skip (neR g4.1.property rfl) G_hit)) rfl rfl) (s_val (dl eNote [(Note.mk 3 v2.ID v2.Ward p1.Tick v3 v2.V v2.Until)]) rfl rfl (bs hy2 fun v7 hv7 hy2 => s_appendO eNote (g4.1.val, g4.2) y3 (Note.mk 3 v2.ID v2.Ward p1.Tick v3 v2.V v2.Until) [] _ (elems_list (fun _ => rfl)) rfl (G_skip (neL g4.1.property rfl) G_hit) hv7 (ss rfl (s_nil (l_end ?_))))))
 cases hy2
 exact l_j ⟨(⟨83, .tail _ (.tail _ (.head _))⟩, u17), (sb_of ⟨.of rfl, (.of (oS_ne (appc_ne hv7)).symm), .of rfl, trivial⟩ (sbG_some (G_skip rfl (G_skip (neR g4.1.property rfl) G_hit)) (.of rfl) (sbG_own G_hit trivial)))⟩
 refine l_skip (l_end ?_)
 cases hy2
 exact l_j ⟨(⟨g4.1.val, memL g4.1.property rfl⟩, g4.2), (sb_of ⟨.of rfl, .of rfl, .of rfl, trivial⟩ (sbG_some G_hit (.of rfl) (sbG_oB (G_skip (neL g4.1.property rfl) (G_skip (neL g4.1.property rfl) (G_skip (neL g4.1.property rfl) G_hit))) trivial)))⟩
 rintro _ ⟨g3, q2⟩
 refine l_sub q2 (l_reg fun u18 hu18 => sv rfl (sv rfl (sv rfl (s_nil (l_nil ?_)))))
 cases hz1
 exact ⟨rfl, (g3.1, g3.2), (sb_of ⟨.of rfl, .of rfl, .of rfl, trivial⟩ (sbG_some G_hit (.of rfl) (sbG_oB (G_skip (neL g3.1.property rfl) G_hit) trivial)))⟩
 refine l_exitN rfl ?_
 cases hz1
 obtain rfl := ez1 _ rfl
 refine ⟨nofun, awl_pop rfl (l_j ?_)⟩
 exact ⟨(g2.1, g2.2), (sb_of ⟨.of rfl, .of rfl, trivial⟩ (sbG_some G_hit (.of rfl) (sbG_oB (G_skip (neL g2.1.property rfl) G_hit) trivial)))⟩
 rintro _ ⟨g1, q3⟩
 refine l_sub q3 (lr (fun u19 hu19 => sd rfl (v_loadG rfl G_hit rfl rfl) (bs h fun v8 hv8 h => s_call rfl rfl all2_refl (ref09_beside_ok _  _ hv8) (.inl rfl) (sv rfl (sv rfl (sv rfl (sv rfl (sv rfl (s_nil (l_seq (lr (fun u20 hu20 => sp rfl rfl (sp rfl rfl (sl rfl G_hit rfl (sv rfl (sv rfl (gt rfl (fun _ => rfl) (gt rfl (vb rfl rfl rfl) (sa rfl rfl rfl (s_nil (cc rfl h (fun c5 h => ?_) (fun c5 h => ?_))))))))))))))))))))))
 refine l_draw rfl fun u21 hu21 => s_val (oS y1 (g1.1.val, g1.2)) rfl rfl (sp rfl rfl (sp rfl rfl (sl rfl G_hit rfl (sp rfl rfl (sl rfl G_hit rfl (sv rfl (bs h fun v9 hv9 h => sd rfl (v_idx rfl rfl hv9 rfl) (sv rfl (sd rfl (v_loadL rfl hv9 rfl) (sp rfl rfl (sl rfl G_hit rfl (sp rfl rfl (sp rfl rfl (sl rfl G_hit rfl (sp rfl rfl (sp rfl rfl (sl rfl G_hit rfl (sv rfl (sp rfl rfl (sp rfl rfl (sl rfl G_hit rfl (sv rfl (s_val (dl eNote [(Note.mk 2 p1.Guest_.ID v9.ID p1.Tick (w64 (p1.Guest_.S - p1.Guest_.Len)) p1.Guest_.V 0)]) rfl rfl (bs h fun v10 hv10 h => s_appendO eNote (g1.1.val, g1.2) y1 (Note.mk 2 p1.Guest_.ID v9.ID p1.Tick (w64 (p1.Guest_.S - p1.Guest_.Len)) p1.Guest_.V 0) [] _ (elems_list (fun _ => rfl)) rfl (G_skip (neL g1.1.property rfl) G_hit) hv10 (ss rfl (s_nil (l_seq (l_sub (s0 := ⟨T [(3, (.sl _))], G [((121, u21), some _)]⟩) (sbr rfl rfl) ?_))))))))))))))))))))))))))))
 refine l_reg fun u22 hu22 => ss rfl (ss rfl (s_nil (l_ret ?_)))
 cases h
 exact fin_ok (.inr rfl) (resD1 (res_t rfl) (rf_sl G_hit)) (.refl _)
 refine l_skip (lr (fun u23 hu23 => s_val (oS y1 (g1.1.val, g1.2)) rfl rfl (s_val (oS y1 (g1.1.val, g1.2)) rfl rfl (s_nil (l_ret ?_)))))
 cases h
 exact fin_ok (.inr rfl) (resD1 (res_t rfl) (rf_oS (G_skip (neL g1.1.property rfl) G_hit))) oD_le

noncomputable def convoy_within (p1 : Int) (p2 : Int) (p3 : Int) : Option Bool :=
  some ((decide (p2 ≤ p1)) && (decide (p1 ≤ p3)))

theorem convoy_within_ok (p1 : Int) (p2 : Int) (p3 : Int) (r : Bool) (h : convoy_within p1 p2 p3 = some r) : PCall Tryz.prog 99 [(i64 p1), (i64 p2), (i64 p3)] (bo r) := by
 refine l_call (fk Tryz.func99 Tryz.ntmps99 m0 (by with_unfolding_all rfl)) (nl rfl) ?_
 unfold convoy_within at h
 refine l_sub (s0 := ⟨T [(0, (.d _)), (1, (.d _)), (2, (.d _))], G []⟩) (sbr rfl rfl) ?_
 refine lr (fun u1 hu1 => sv rfl (s_nil (lr (fun u2 hu2 => sv rfl (sv rfl (sv rfl (sv rfl (gt rfl (fun _ => rfl) (gt rfl (fun _ => rfl) (gt rfl (fun w3 => (v_bin (gd_pos w3) (gd_pos w3) rfl)) (sa rfl rfl rfl (sv rfl (s_nil (l_ret ?_))))))))))))))
 cases h
 exact fin_ok (.inr rfl) (resD1 (res_t rfl) rf_d) (.refl _)

noncomputable def convoy_fairBody (p1 : Int) (p2 : Int) (p3 : Int) (p4 : Int) : Option Bool :=
  ((cond ((decide (p1 ≥ 1)) && (decide (p1 ≤ 99))) (convoy_within p2 0 1099511627776) (some default))).bind fun v1 => ((cond (((decide (p1 ≥ 1)) && (decide (p1 ≤ 99))) && v1) (convoy_within p3 0 2000) (some default))).bind fun v2 => ((cond ((((decide (p1 ≥ 1)) && (decide (p1 ≤ 99))) && v1) && v2) (convoy_within p4 300 20000) (some default))).bind fun v3 => some (((((decide (p1 ≥ 1)) && (decide (p1 ≤ 99))) && v1) && v2) && v3)

theorem convoy_fairBody_ok (p1 : Int) (p2 : Int) (p3 : Int) (p4 : Int) (r : Bool) (h : convoy_fairBody p1 p2 p3 p4 = some r) : PCall Tryz.prog 116 [(i64 p1), (i64 p2), (i64 p3), (i64 p4)] (bo r) := by
 refine l_call (fk Tryz.func116 Tryz.ntmps116 m0 (by with_unfolding_all rfl)) (nl rfl) ?_
 unfold convoy_fairBody at h
 refine l_sub (s0 := ⟨T [(0, (.d _)), (1, (.d _)), (2, (.d _)), (3, (.d _))], G []⟩) (sbr rfl rfl) ?_
 refine lr (fun u1 hu1 => sv rfl (s_nil (lr (fun u2 hu2 => sv rfl (sv rfl (sv rfl (gt rfl (fun _ => rfl) (gt rfl (vb rfl rfl rfl) (sa rfl rfl rfl (sv rfl (gt rfl (fun _ => rfl) (bs h fun v1 hv1 h => ?_))))))))))))
 refine g_call _ (bo v1) (gw_t rfl) (fun w4 => ⟨_, [(di p2), (di 0), (di 1099511627776)], _, _, (by simp only [gd_pos w4]; rfl), rfl, all2_refl, convoy_within_ok _ _ _  _ (cond_t w4 hv1), (.inl rfl)⟩) ?_
 refine sa rfl rfl rfl (sv rfl (gt rfl (fun _ => rfl) (bs h fun v2 hv2 h => ?_)))
 refine g_call _ (bo v2) (gw_t rfl) (fun w6 => ⟨_, [(di p3), (di 0), (di 2000)], _, _, (by simp only [gd_pos w6]; rfl), rfl, all2_refl, convoy_within_ok _ _ _  _ (cond_t w6 hv2), (.inl rfl)⟩) ?_
 refine sa rfl rfl rfl (sv rfl (gt rfl (fun _ => rfl) (bs h fun v3 hv3 h => ?_)))
 refine g_call _ (bo v3) (gw_t rfl) (fun w8 => ⟨_, [(di p4), (di 300), (di 20000)], _, _, (by simp only [gd_pos w8]; rfl), rfl, all2_refl, convoy_within_ok _ _ _  _ (cond_t w8 hv3), (.inl rfl)⟩) ?_
 refine sa rfl rfl rfl (sv rfl (s_nil (l_ret ?_)))
 cases h
 exact fin_ok (.inr rfl) (resD1 (res_t rfl) rf_d) (.refl _)

noncomputable def convoy_fairID (p1 : Int) : Option Bool :=
  some ((decide (p1 ≥ 0)) && (decide (p1 ≤ 99)))

theorem convoy_fairID_ok (p1 : Int) (r : Bool) (h : convoy_fairID p1 = some r) : PCall Tryz.prog 117 [(i64 p1)] (bo r) := by
 refine l_call (fk Tryz.func117 Tryz.ntmps117 m0 (by with_unfolding_all rfl)) (nl rfl) ?_
 unfold convoy_fairID at h
 refine l_sub (s0 := ⟨T [(0, (.d _))], G []⟩) (sbr rfl rfl) ?_
 refine lr (fun u1 hu1 => sv rfl (s_nil (lr (fun u2 hu2 => sv rfl (sv rfl (sv rfl (gt rfl (fun _ => rfl) (gt rfl (vb rfl rfl rfl) (sa rfl rfl rfl (sv rfl (s_nil (l_ret ?_))))))))))))
 cases h
 exact fin_ok (.inr rfl) (resD1 (res_t rfl) rf_d) (.refl _)

noncomputable def convoy_fairGuess (p1 : Guess) : Option Bool :=
  (convoy_within p1.R (-20000) 2199023255552).bind fun v1 => ((cond v1 (convoy_within p1.V 0 2000) (some default))).bind fun v2 => some (v1 && v2)

theorem convoy_fairGuess_ok (p1 : Guess) (r : Bool) (h : convoy_fairGuess p1 = some r) : PCall Tryz.prog 104 [(.agg [(i64 p1.R), (i64 p1.V)])] (bo r) := by
 refine l_call (fk Tryz.func104 Tryz.ntmps104 m0 (by with_unfolding_all rfl)) (nl rfl) ?_
 unfold convoy_fairGuess at h
 refine l_sub (s0 := ⟨T [(0, (.d _))], G []⟩) (sbr rfl rfl) ?_
 refine lr (fun u1 hu1 => sn rfl rfl (sv rfl (s_nil (lr (fun u2 hu2 => sp rfl rfl (sl rfl G_hit rfl (bs h fun v1 hv1 h => s_call rfl rfl all2_refl (convoy_within_ok _ _ _  _ hv1) (.inl rfl) (sv rfl (gp rfl (gw_t rfl) (fun _ => rfl) (gt rfl (vl rfl G_hit rfl) (bs h fun v2 hv2 h => ?_)))))))))))
 refine g_call v1 (bo v2) (gw_t rfl) (fun w3 => ⟨_, [(di p1.V), (di 0), (di 2000)], _, _, (by simp only [gd_pos w3]; rfl), rfl, all2_refl, convoy_within_ok _ _ _  _ (cond_t w3 hv2), (.inl rfl)⟩) ?_
 refine sa rfl rfl rfl (sv rfl (s_nil (l_ret ?_)))
 cases h
 exact fin_ok (.inr rfl) (resD1 (res_t rfl) rf_d) (.refl _)

noncomputable def convoy_fairMate (p1 : Mate) : Option Bool :=
  (convoy_fairBody p1.ID p1.S p1.V p1.Len).bind fun v1 => ((cond v1 (convoy_fairID p1.Ahead) (some default))).bind fun v2 => ((cond (v1 && v2) (convoy_fairID p1.Ward) (some default))).bind fun v3 => ((cond ((v1 && v2) && v3) (convoy_within p1.Until 0 2199023255552) (some default))).bind fun v4 => ((cond (((v1 && v2) && v3) && v4) (convoy_fairGuess p1.Guess_) (some default))).bind fun v5 => ((cond ((((v1 && v2) && v3) && v4) && v5) (convoy_fairGuess p1.WardGuess) (some default))).bind fun v6 => some (((((v1 && v2) && v3) && v4) && v5) && v6)

theorem convoy_fairMate_ok (p1 : Mate) (r : Bool) (h : convoy_fairMate p1 = some r) : PCall Tryz.prog 101 [(.agg (eMate p1))] (bo r) := by
 refine l_call (fk Tryz.func101 Tryz.ntmps101 m0 (by with_unfolding_all rfl)) (nl rfl) ?_
 unfold convoy_fairMate at h
 refine l_sub (s0 := ⟨T [(0, (.d _))], G []⟩) (sbr rfl rfl) ?_
 refine lr (fun u1 hu1 => sn rfl rfl (sv rfl (s_nil (lr (fun u2 hu2 => sp rfl rfl (sl rfl G_hit rfl (sp rfl rfl (sl rfl G_hit rfl (sp rfl rfl (sl rfl G_hit rfl (sp rfl rfl (sl rfl G_hit rfl (bs h fun v1 hv1 h => s_call rfl rfl all2_refl (convoy_fairBody_ok _ _ _ _  _ hv1) (.inl rfl) (sv rfl (gp rfl (gw_t rfl) (fun _ => rfl) (gt rfl (vl rfl G_hit rfl) (bs h fun v2 hv2 h => ?_)))))))))))))))))
 refine g_call v1 (bo v2) (gw_t rfl) (fun w3 => ⟨_, [(di p1.Ahead)], _, _, (by simp only [gd_pos w3]; rfl), rfl, all2_refl, convoy_fairID_ok _  _ (cond_t w3 hv2), (.inl rfl)⟩) ?_
 refine sa rfl rfl rfl (sv rfl (gp rfl (gw_t rfl) (fun _ => rfl) (gt rfl (vl rfl G_hit rfl) (bs h fun v3 hv3 h => ?_))))
 refine g_call _ (bo v3) (gw_t rfl) (fun w6 => ⟨_, [(di p1.Ward)], _, _, (by simp only [gd_pos w6]; rfl), rfl, all2_refl, convoy_fairID_ok _  _ (cond_t w6 hv3), (.inl rfl)⟩) ?_
 refine sa rfl rfl rfl (sv rfl (gp rfl (gw_t rfl) (fun _ => rfl) (gt rfl (vl rfl G_hit rfl) (bs h fun v4 hv4 h => ?_))))
 refine g_call _ (bo v4) (gw_t rfl) (fun w9 => ⟨_, [(di p1.Until), (di 0), (di 2199023255552)], _, _, (by simp only [gd_pos w9]; rfl), rfl, all2_refl, convoy_within_ok _ _ _  _ (cond_t w9 hv4), (.inl rfl)⟩) ?_
 refine sa rfl rfl rfl (sv rfl (gp rfl (gw_t rfl) (fun _ => rfl) (gt rfl (fun w11 => (v_loadG (gd_pos w11) G_hit rfl rfl)) (bs h fun v5 hv5 h => ?_))))
 refine g_call _ (bo v5) (gw_t rfl) (fun w12 => ⟨_, [(.d (.agg [(i64 p1.Guess_.R), (i64 p1.Guess_.V)]))], _, _, (by simp only [gd_pos w12]; rfl), rfl, all2_refl, convoy_fairGuess_ok _  _ (cond_t w12 hv5), (.inl rfl)⟩) ?_
 refine sa rfl rfl rfl (sv rfl (gp rfl (gw_t rfl) (fun _ => rfl) (gt rfl (fun w14 => (v_loadG (gd_pos w14) G_hit rfl rfl)) (bs h fun v6 hv6 h => ?_))))
 refine g_call _ (bo v6) (gw_t rfl) (fun w15 => ⟨_, [(.d (.agg [(i64 p1.WardGuess.R), (i64 p1.WardGuess.V)]))], _, _, (by simp only [gd_pos w15]; rfl), rfl, all2_refl, convoy_fairGuess_ok _  _ (cond_t w15 hv6), (.inl rfl)⟩) ?_
 refine sa rfl rfl rfl (sv rfl (s_nil (l_ret ?_)))
 cases h
 exact fin_ok (.inr rfl) (resD1 (res_t rfl) rf_d) (.refl _)

noncomputable def convoy_numbers_1 (p1 : Mate) : Option Bool :=
  (convoy_fairMate p1).bind fun v1 => some (!v1)

theorem convoy_numbers_1_ok (p1 : Mate) (r : Bool) (h : convoy_numbers_1 p1 = some r) : PCall Tryz.prog 100 [(.agg (eMate p1))] (bo r) := by
 refine l_call (fk Tryz.func100 Tryz.ntmps100 m0 (by with_unfolding_all rfl)) (nl rfl) ?_
 unfold convoy_numbers_1 at h
 refine l_sub (s0 := ⟨T [(0, (.d _))], G []⟩) (sbr rfl rfl) ?_
 refine lr (fun u1 hu1 => sn rfl rfl (sv rfl (s_nil (lr (fun u2 hu2 => sd rfl (v_loadG rfl G_hit rfl rfl) (bs h fun v1 hv1 h => s_call rfl rfl all2_refl (convoy_fairMate_ok _  _ hv1) (.inl rfl) (s_val (.d (bo (!v1))) rfl rfl (sv rfl (s_nil (l_ret ?_))))))))))
 cases h
 exact fin_ok (.inr rfl) (resD1 (res_t rfl) rf_d) (.refl _)

noncomputable def slices_IndexFunc_Mate_Mate_convoy_numbers_1_l1 (p1 : (List Mate)) (x1 : Int) : Option (Stp Int (Sum Unit Int)) :=
  cond (decide (x1 < (p1.length : Int))) ((geti p1 x1).bind fun v1 => (convoy_numbers_1 v1).bind fun v2 => cond v2 (some (.out (.inr x1))) (some (.go (w64 (x1 + 1))))) (some (.out (.inl ())))
noncomputable def slices_IndexFunc_Mate_Mate_convoy_numbers_1 (p1 : (List Mate)) : Option Int :=
  thenS (loop (slices_IndexFunc_Mate_Mate_convoy_numbers_1_l1 p1) 0) (fun _ => some (-1)) (fun r => some r)

theorem slices_IndexFunc_Mate_Mate_convoy_numbers_1_ok (p1 : (List Mate)) (r : Int) (h : slices_IndexFunc_Mate_Mate_convoy_numbers_1 p1 = some r) : PCall Tryz.prog 62 [(.list (List.map eMate p1)), (.fn (.func 100) [] [])] (i64 r) := by
 refine l_call (fk Tryz.func62 Tryz.ntmps62 m0 (by with_unfolding_all rfl)) (nl rfl) ?_
 unfold slices_IndexFunc_Mate_Mate_convoy_numbers_1 at h
 refine l_sub (s0 := ⟨T [(0, (.d _)), (1, (.d _))], G []⟩) (sbr rfl rfl) ?_
 refine lr (fun u1 hu1 => sv rfl (s_nil (l_seq (lr (fun u2 hu2 => sv rfl (sd rfl (v_len rfl) (sv rfl (s_nil (js h fun z1 hz1 h => l_join (fun s => ∃ (y1 : Unit) (g1 : Unit), z1 = .inl y1 ∧ Sb ⟨T [], G []⟩ s) ?_ ?_)))))))))
 refine l_block (l_loop (slices_IndexFunc_Mate_Mate_convoy_numbers_1_l1 p1) (fun (x1 : Int) (g2 : Unit) => ⟨T [(0, (dl eMate p1)), (1, (.d (.fn (.func 100) [] []))), (7, (di (p1.length : Int))), (8, (di x1))], G []⟩) 0 () _ hz1 (sbr rfl rfl) ?_)
 intro x1 g2 z2 hz2 ez2
 unfold slices_IndexFunc_Mate_Mate_convoy_numbers_1_l1 at hz2
 refine lr (fun u3 hu3 => sv rfl (s_nil (l_seq (cc rfl hz2 (fun c1 hz2 => ?_) (fun c1 hz2 => ?_)))))
 refine l_skip (l_seq (l_block (lr (fun u4 hu4 => sv rfl (sv rfl (s_nil (lr (fun u5 hu5 => sv rfl (sv rfl (sv rfl (bs hz2 fun v1 hv1 hz2 => sd rfl (v_idx rfl rfl hv1 rfl) (sd rfl (v_loadLG rfl hv1 rfl rfl) (bs hz2 fun v2 hv2 hz2 => s_call rfl rfl all2_refl (convoy_numbers_1_ok _  _ hv2) (.inl rfl) (s_nil (cc rfl hz2 (fun c2 hz2 => ?_) (fun c2 hz2 => ?_))))))))))))))))
 refine lr (fun u6 hu6 => sv rfl (sv rfl (s_nil (l_ret ?_))))
 cases hz2
 obtain rfl := ez2 _ rfl
 refine ⟨nofun, awl_ret ?_⟩
 rw [Sum.elim_inr] at h
 cases h
 exact fin_ok (.inr rfl) (resD1 (res_t rfl) rf_d) (.refl _)
 refine l_skip (l_end (l_reg fun u7 hu7 => sv rfl (sv rfl (s_nil (l_nil ?_)))))
 cases hz2
 exact ⟨rfl, (), (sbr rfl rfl)⟩
 refine l_exitN rfl ?_
 cases hz2
 obtain rfl := ez2 _ rfl
 refine ⟨nofun, awl_pop rfl (l_j ?_)⟩
 exact ⟨_, (), rfl, (sbr rfl rfl)⟩
 rintro _ ⟨y1, g1, rfl, q1⟩
 rw [Sum.elim_inl] at h
 refine l_sub q1 (lr (fun u8 hu8 => sv rfl (s_nil (l_ret ?_))))
 cases h
 exact fin_ok (.inr rfl) (resD1 (res_t rfl) rf_d) (.refl _)

noncomputable def slices_ContainsFunc_Mate_Mate_convoy_numbers_1 (p1 : (List Mate)) : Option Bool :=
  (slices_IndexFunc_Mate_Mate_convoy_numbers_1 p1).bind fun v1 => some (decide (v1 ≥ 0))

theorem slices_ContainsFunc_Mate_Mate_convoy_numbers_1_ok (p1 : (List Mate)) (r : Bool) (h : slices_ContainsFunc_Mate_Mate_convoy_numbers_1 p1 = some r) : PCall Tryz.prog 31 [(.list (List.map eMate p1)), (.fn (.func 100) [] [])] (bo r) := by
 refine l_call (fk Tryz.func31 Tryz.ntmps31 m0 (by with_unfolding_all rfl)) (nl rfl) ?_
 unfold slices_ContainsFunc_Mate_Mate_convoy_numbers_1 at h
 refine l_sub (s0 := ⟨T [(0, (.d _)), (1, (.d _))], G []⟩) (sbr rfl rfl) ?_
 refine lr (fun u1 hu1 => sv rfl (s_nil (lr (fun u2 hu2 => sv rfl (sv rfl (bs h fun v1 hv1 h => s_call rfl rfl all2_refl (slices_IndexFunc_Mate_Mate_convoy_numbers_1_ok _  _ hv1) (.inl rfl) (sv rfl (sv rfl (s_nil (l_ret ?_))))))))))
 cases h
 exact fin_ok (.inr rfl) (resD1 (res_t rfl) rf_d) (.refl _)

noncomputable def convoy_fairGuest (p1 : Guest) : Option Bool :=
  cond (p1.ID == 0) (some (p1.ID == 0 && (p1.S == 0 && (p1.V == 0 && (p1.Len == 0 && (p1.End == 0 && (p1.Ahead == 0 && (p1.Guess_.R == 0 && (p1.Guess_.V == 0 && (p1.From == 0 && (p1.Until == 0 && true))))))))))) ((convoy_fairBody p1.ID p1.S p1.V p1.Len).bind fun v1 => ((cond v1 (convoy_fairID p1.Ahead) (some default))).bind fun v2 => ((cond (v1 && v2) (convoy_fairID p1.From) (some default))).bind fun v3 => ((cond ((v1 && v2) && v3) (convoy_within p1.Until 0 2199023255552) (some default))).bind fun v4 => ((cond (((v1 && v2) && v3) && v4) (convoy_within p1.End 0 1099511627776) (some default))).bind fun v5 => ((cond ((((v1 && v2) && v3) && v4) && v5) (convoy_fairGuess p1.Guess_) (some default))).bind fun v6 => some (((((v1 && v2) && v3) && v4) && v5) && v6))

theorem convoy_fairGuest_ok (p1 : Guest) (r : Bool) (h : convoy_fairGuest p1 = some r) : PCall Tryz.prog 102 [(.agg (eGuest p1))] (bo r) := by
 refine l_call (fk Tryz.func102 Tryz.ntmps102 m0 (by with_unfolding_all rfl)) (nl rfl) ?_
 unfold convoy_fairGuest at h
 refine l_sub (s0 := ⟨T [(0, (.d _))], G []⟩) (sbr rfl rfl) ?_
 refine lr (fun u1 hu1 => sn rfl rfl (sv rfl (s_nil (l_seq (lr (fun u2 hu2 => sp rfl rfl (sl rfl G_hit rfl (sv rfl (s_nil (cc rfl h (fun c1 h => ?_) (fun c1 h => ?_)))))))))))
 refine lr (fun u3 hu3 => sd rfl (v_loadG rfl G_hit rfl rfl) (sv rfl (s_val (.d (bo (p1.ID == 0 && (p1.S == 0 && (p1.V == 0 && (p1.Len == 0 && (p1.End == 0 && (p1.Ahead == 0 && (p1.Guess_.R == 0 && (p1.Guess_.V == 0 && (p1.From == 0 && (p1.Until == 0 && true)))))))))))) rfl rfl (sv rfl (s_nil (l_ret ?_))))))
 cases h
 exact fin_ok (.inr rfl) (resD1 (res_t rfl) rf_d) (.refl _)
 refine l_skip (lr (fun u4 hu4 => sp rfl rfl (sl rfl G_hit rfl (sp rfl rfl (sl rfl G_hit rfl (sp rfl rfl (sl rfl G_hit rfl (sp rfl rfl (sl rfl G_hit rfl (bs h fun v1 hv1 h => s_call rfl rfl all2_refl (convoy_fairBody_ok _ _ _ _  _ hv1) (.inl rfl) (sv rfl (gp rfl (gw_t rfl) (fun _ => rfl) (gt rfl (vl rfl G_hit rfl) (bs h fun v2 hv2 h => ?_))))))))))))))
 refine g_call v1 (bo v2) (gw_t rfl) (fun w3 => ⟨_, [(di p1.Ahead)], _, _, (by simp only [gd_pos w3]; rfl), rfl, all2_refl, convoy_fairID_ok _  _ (cond_t w3 hv2), (.inl rfl)⟩) ?_
 refine sa rfl rfl rfl (sv rfl (gp rfl (gw_t rfl) (fun _ => rfl) (gt rfl (vl rfl G_hit rfl) (bs h fun v3 hv3 h => ?_))))
 refine g_call _ (bo v3) (gw_t rfl) (fun w6 => ⟨_, [(di p1.From)], _, _, (by simp only [gd_pos w6]; rfl), rfl, all2_refl, convoy_fairID_ok _  _ (cond_t w6 hv3), (.inl rfl)⟩) ?_
 refine sa rfl rfl rfl (sv rfl (gp rfl (gw_t rfl) (fun _ => rfl) (gt rfl (vl rfl G_hit rfl) (bs h fun v4 hv4 h => ?_))))
 refine g_call _ (bo v4) (gw_t rfl) (fun w9 => ⟨_, [(di p1.Until), (di 0), (di 2199023255552)], _, _, (by simp only [gd_pos w9]; rfl), rfl, all2_refl, convoy_within_ok _ _ _  _ (cond_t w9 hv4), (.inl rfl)⟩) ?_
 refine sa rfl rfl rfl (sv rfl (gp rfl (gw_t rfl) (fun _ => rfl) (gt rfl (vl rfl G_hit rfl) (bs h fun v5 hv5 h => ?_))))
 refine g_call _ (bo v5) (gw_t rfl) (fun w12 => ⟨_, [(di p1.End), (di 0), (di 1099511627776)], _, _, (by simp only [gd_pos w12]; rfl), rfl, all2_refl, convoy_within_ok _ _ _  _ (cond_t w12 hv5), (.inl rfl)⟩) ?_
 refine sa rfl rfl rfl (sv rfl (gp rfl (gw_t rfl) (fun _ => rfl) (gt rfl (fun w14 => (v_loadG (gd_pos w14) G_hit rfl rfl)) (bs h fun v6 hv6 h => ?_))))
 refine g_call _ (bo v6) (gw_t rfl) (fun w15 => ⟨_, [(.d (.agg [(i64 p1.Guess_.R), (i64 p1.Guess_.V)]))], _, _, (by simp only [gd_pos w15]; rfl), rfl, all2_refl, convoy_fairGuess_ok _  _ (cond_t w15 hv6), (.inl rfl)⟩) ?_
 refine sa rfl rfl rfl (sv rfl (s_nil (l_ret ?_)))
 cases h
 exact fin_ok (.inr rfl) (resD1 (res_t rfl) rf_d) (.refl _)

noncomputable def convoy_numbers (p1 : Convoy) : Option Int :=
  (cond (!(p1.Guest_.ID == 0 && (p1.Guest_.S == 0 && (p1.Guest_.V == 0 && (p1.Guest_.Len == 0 && (p1.Guest_.End == 0 && (p1.Guest_.Ahead == 0 && (p1.Guest_.Guess_.R == 0 && (p1.Guest_.Guess_.V == 0 && (p1.Guest_.From == 0 && (p1.Guest_.Until == 0 && true))))))))))) (some (w64 ((p1.Mates.length : Int) + 1))) (some (p1.Mates.length : Int))).bind fun y1 => (convoy_within p1.Tick 0 1099511627776).bind fun v1 => ((cond (!(!v1)) (convoy_within p1.Gap 1 20000) (some default))).bind fun v2 => cond ((!v1) || (!v2)) (some 2) (cond ((p1.Mates.length : Int) == 0) (some 6) (cond (decide (y1 > 8)) (some 8) ((slices_ContainsFunc_Mate_Mate_convoy_numbers_1 p1.Mates).bind fun v3 => ((cond (!v3) (convoy_fairGuest p1.Guest_) (some default))).bind fun v4 => cond (v3 || (!v4)) (some 2) (some 0))))

theorem convoy_numbers_ok (p1 : Convoy) (r : Int) (h : convoy_numbers p1 = some r) : PCall Tryz.prog 57 [(.agg (eConvoy p1))] (i64 r) := by
 refine l_call (fk Tryz.func57 Tryz.ntmps57 m0 (by with_unfolding_all rfl)) (nl rfl) ?_
 unfold convoy_numbers at h
 refine l_sub (s0 := ⟨T [(0, (.d _))], G []⟩) (sbr rfl rfl) ?_
 refine lr (fun u1 hu1 => sn rfl rfl (sv rfl (s_nil (lr (fun u2 hu2 => sp rfl rfl (sl rfl G_hit rfl (sd rfl (v_len rfl) (sv rfl (s_nil (l_seq (lr (fun u3 hu3 => sp rfl rfl (sd rfl (v_loadG rfl G_hit rfl rfl) (sv rfl (s_val (.d (bo (!(p1.Guest_.ID == 0 && (p1.Guest_.S == 0 && (p1.Guest_.V == 0 && (p1.Guest_.Len == 0 && (p1.Guest_.End == 0 && (p1.Guest_.Ahead == 0 && (p1.Guest_.Guess_.R == 0 && (p1.Guest_.Guess_.V == 0 && (p1.Guest_.From == 0 && (p1.Guest_.Until == 0 && true))))))))))))) rfl rfl (s_nil (bs h fun y1 hy1 h => l_join (fun s => ∃ g1 : Unit, Sb ⟨T [(1, (.ptr (1, u1) 0)), (3, (di y1))], G [((1, u1), some (.box 32 (dConvoy p1)))]⟩ s) ?_ ?_)))))))))))))))))
 refine cc rfl hy1 (fun c1 hy1 => ?_) (fun c1 hy1 => ?_)
 refine l_reg fun u4 hu4 => sv rfl (sv rfl (sv rfl (s_nil ?_)))
 cases hy1
 exact l_j ⟨(), (sbr rfl rfl)⟩
 refine l_skip ?_
 cases hy1
 exact l_j ⟨(), (sbr rfl rfl)⟩
 rintro _ ⟨g1, q1⟩
 refine l_sub q1 (l_seq (l_block (lr (fun u5 hu5 => sp rfl rfl (sl rfl G_hit rfl (bs h fun v1 hv1 h => s_call rfl rfl all2_refl (convoy_within_ok _ _ _  _ hv1) (.inl rfl) (s_val (.d (bo (!v1))) rfl rfl (sv rfl (gp rfl (gw_f rfl) (fun _ => rfl) (gf rfl (vl rfl G_hit rfl) (bs h fun v2 hv2 h => ?_)))))))))))
 refine g_call _ (bo v2) (gw_f rfl) (fun w3 => ⟨_, [(di p1.Gap), (di 1), (di 20000)], _, _, (by simp only [gd_pos w3]; rfl), rfl, all2_refl, convoy_within_ok _ _ _  _ (cond_t w3 hv2), (.inl rfl)⟩) ?_
 refine g_val _ (.d (bo (!v2))) rfl (gw_f rfl) (fun w4 => (by simp only [gd_pos w4]; rfl)) ?_
 refine sd rfl (v_or rfl rfl (fun hc => gd_pos (not_t hc))) (sv rfl (s_nil (cc rfl h (fun c2 h => ?_) (fun c2 h => ?_))))
 refine lr (fun u6 hu6 => sv rfl (s_nil (l_ret ?_)))
 cases h
 exact fin_ok (.inr rfl) (resD1 (res_t rfl) rf_d) (.refl _)
 refine lr (fun u7 hu7 => sp rfl rfl (sl rfl G_hit rfl (sd rfl (v_len rfl) (sv rfl (sv rfl (s_nil (cc rfl h (fun c3 h => ?_) (fun c3 h => ?_))))))))
 refine lr (fun u8 hu8 => sv rfl (s_nil (l_ret ?_)))
 cases h
 exact fin_ok (.inr rfl) (resD1 (res_t rfl) rf_d) (.refl _)
 refine lr (fun u9 hu9 => sv rfl (sv rfl (sv rfl (s_nil (cc rfl h (fun c4 h => ?_) (fun c4 h => ?_))))))
 refine lr (fun u10 hu10 => sv rfl (s_nil (l_ret ?_)))
 cases h
 exact fin_ok (.inr rfl) (resD1 (res_t rfl) rf_d) (.refl _)
 refine lr (fun u11 hu11 => sp rfl rfl (sl rfl G_hit rfl (bs h fun v3 hv3 h => s_call rfl rfl all2_refl (slices_ContainsFunc_Mate_Mate_convoy_numbers_1_ok _  _ hv3) (.inl rfl) (sv rfl (gp rfl (gw_f rfl) (fun _ => rfl) (gf rfl (fun w6 => (v_loadG (gd_pos w6) G_hit rfl rfl)) (bs h fun v4 hv4 h => ?_)))))))
 refine g_call _ (bo v4) (gw_f rfl) (fun w7 => ⟨_, [(.d (.agg (eGuest p1.Guest_)))], _, _, (by simp only [gd_pos w7]; rfl), rfl, all2_refl, convoy_fairGuest_ok _  _ (cond_t w7 hv4), (.inl rfl)⟩) ?_
 refine g_val _ (.d (bo (!v4))) rfl (gw_f rfl) (fun w8 => (by simp only [gd_pos w8]; rfl)) ?_
 refine sd rfl (v_or rfl rfl (fun hc => gd_pos (not_t hc))) (sv rfl (s_nil (cc rfl h (fun c5 h => ?_) (fun c5 h => ?_))))
 refine l_seq (l_sub (s0 := ⟨T [], G []⟩) (sbr rfl rfl) ?_)
 refine l_reg fun u12 hu12 => sv rfl (s_nil (l_ret ?_))
 cases h
 exact fin_ok (.inr rfl) (resD1 (res_t rfl) rf_d) (.refl _)
 refine l_skip (l_end (l_seq (l_sub (s0 := ⟨T [], G []⟩) (sbr rfl rfl) ?_)))
 refine l_reg fun u13 hu13 => sv rfl (s_nil (l_ret ?_))
 cases h
 exact fin_ok (.inr rfl) (resD1 (res_t rfl) rf_d) (.refl _)

noncomputable def convoy_rear (p1 : Mate) : Option Int :=
  some (w64 (p1.S - p1.Len))

theorem convoy_rear_ok (p1 : Mate) (r : Int) (h : convoy_rear p1 = some r) : PCall Tryz.prog 26 [(.agg (eMate p1))] (i64 r) := by
 refine l_call (fk Tryz.func26 Tryz.ntmps26 m0 (by with_unfolding_all rfl)) (nl rfl) ?_
 unfold convoy_rear at h
 refine l_sub (s0 := ⟨T [(0, (.d _))], G []⟩) (sbr rfl rfl) ?_
 refine lr (fun u1 hu1 => sn rfl rfl (sv rfl (s_nil (lr (fun u2 hu2 => sp rfl rfl (sl rfl G_hit rfl (sp rfl rfl (sl rfl G_hit rfl (sv rfl (sv rfl (s_nil (l_ret ?_))))))))))))
 cases h
 exact fin_ok (.inr rfl) (resD1 (res_t rfl) rf_d) (.refl _)

noncomputable def convoy_orders_l2 (p1 : Convoy) (x2 : Int) : Option (Stp Int (Sum Unit Int)) :=
  cond (decide (x2 < (p1.Mates.length : Int))) ((geti p1.Mates x2).bind fun v2 => ((cond (decide (x2 > 0)) (geti p1.Mates (w64 (x2 - 1))) (some default))).bind fun v3 => ((cond (decide (x2 > 0)) (convoy_rear v3) (some default))).bind fun v4 => cond ((decide (x2 > 0)) && (decide (v2.S ≥ v4))) (some (.out (.inr 11))) (some (.go (w64 (x2 + 1))))) (some (.out (.inl ())))
noncomputable def convoy_orders_l1 (p1 : Convoy) (x1 : (Int × (List Int))) : Option (Stp (Int × (List Int)) (Sum Unit Int)) :=
  cond (decide (x1.1 < (p1.Mates.length : Int))) ((geti p1.Mates x1.1).bind fun v1 => cond (x1.2.contains v1.ID) (some (.out (.inr 9))) (some (.go ((w64 (x1.1 + 1)), (insm x1.2 v1.ID))))) (some (.out (.inl ())))
noncomputable def convoy_orders (p1 : Convoy) : Option Int :=
  thenS (loop (convoy_orders_l1 p1) (0, (insm ([] : List Int) p1.Guest_.ID))) (fun _ => thenS (loop (convoy_orders_l2 p1) 0) (fun _ => some 0) (fun r => some r)) (fun r => some r)

theorem convoy_orders_ok (p1 : Convoy) (r : Int) (h : convoy_orders p1 = some r) : PCall Tryz.prog 58 [(.agg (eConvoy p1))] (i64 r) := by
 refine l_call (fk Tryz.func58 Tryz.ntmps58 m0 (by with_unfolding_all rfl)) (nl rfl) ?_
 unfold convoy_orders at h
 refine l_sub (s0 := ⟨T [(0, (.d _))], G []⟩) (sbr rfl rfl) ?_
 refine lr (fun u1 hu1 => sn rfl rfl (sv rfl (s_nil (lr (fun u2 hu2 => s_new (.sl _) (.mp _) rfl rfl (sp rfl rfl (sp rfl rfl (sl rfl (gq rfl) rfl (s_mins rfl rfl G_hit (ss rfl (ss rfl (s_nil (l_seq (lr (fun u3 hu3 => sp rfl rfl (sl rfl (gq rfl) rfl (sd rfl (v_len rfl) (sv rfl (s_nil (js h fun z1 hz1 h => l_join (fun s => ∃ (y1 : Unit) (g1 : Unit), z1 = .inl y1 ∧ Sb ⟨T [(1, (.ptr (1, u1) 0))], G [((1, u1), some (.box 32 (dConvoy p1)))]⟩ s) ?_ ?_))))))))))))))))))))
 refine l_block (l_loop (convoy_orders_l1 p1) (fun (x1 : (Int × (List Int))) (g2 : Unit) => ⟨T [(1, (.ptr (1, u1) 0)), (3, (.sl (8, u2))), (14, (dl eMate p1.Mates)), (15, (di (p1.Mates.length : Int))), (16, (di x1.1))], G [((1, u1), some (.box 32 (dConvoy p1))), ((8, u2), some (.mp x1.2))]⟩) (0, (insm ([] : List Int) p1.Guest_.ID)) () _ hz1 (sbr rfl rfl) ?_)
 intro x1 g2 z2 hz2 ez2
 unfold convoy_orders_l1 at hz2
 refine lr (fun u4 hu4 => sv rfl (s_nil (l_seq (cc rfl hz2 (fun c1 hz2 => ?_) (fun c1 hz2 => ?_)))))
 refine l_skip (l_seq (l_block (lr (fun u5 hu5 => bs hz2 fun v1 hv1 hz2 => sd rfl (v_idx rfl rfl hv1 rfl) (sd rfl (v_loadLG rfl hv1 rfl rfl) (sn rfl rfl (sst rfl G_hit (dMate v1) rfl (s_nil (l_seq (lr (fun u6 hu6 => ss rfl (sp rfl rfl (sl rfl G_hit rfl (sd rfl (v_mlook rfl rfl (gq rfl)) (s_nil (cc rfl hz2 (fun c2 hz2 => ?_) (fun c2 hz2 => ?_)))))))))))))))))
 refine lr (fun u7 hu7 => sv rfl (s_nil (l_ret ?_)))
 cases hz2
 obtain rfl := ez2 _ rfl
 refine ⟨nofun, awl_ret ?_⟩
 rw [Sum.elim_inr] at h
 cases h
 exact fin_ok (.inr rfl) (resD1 (res_t rfl) rf_d) (.refl _)
 refine l_skip (l_reg fun u8 hu8 => ss rfl (sp rfl rfl (sl rfl G_hit rfl (s_mins rfl rfl (gq rfl) (s_nil (l_end (l_reg fun u9 hu9 => sv rfl (sv rfl (s_nil (l_nil ?_))))))))))
 cases hz2
 exact ⟨rfl, (), (sbr rfl rfl)⟩
 refine l_exitN rfl ?_
 cases hz2
 obtain rfl := ez2 _ rfl
 refine ⟨nofun, awl_pop rfl (l_j ?_)⟩
 exact ⟨_, (), rfl, (sbr rfl rfl)⟩
 rintro _ ⟨y1, g1, rfl, q1⟩
 rw [Sum.elim_inl] at h
 refine l_sub q1 (l_seq (lr (fun u10 hu10 => sp rfl rfl (sl rfl G_hit rfl (sd rfl (v_len rfl) (sv rfl (s_nil (js h fun z3 hz3 h => l_join (fun s => ∃ (y2 : Unit) (g3 : Unit), z3 = .inl y2 ∧ Sb ⟨T [], G []⟩ s) ?_ ?_))))))))
 refine l_block (l_loop (convoy_orders_l2 p1) (fun (x2 : Int) (g4 : Unit) => ⟨T [(1, (.ptr (1, u1) 0)), (29, (dl eMate p1.Mates)), (30, (di (p1.Mates.length : Int))), (31, (di x2))], G [((1, u1), some (.box 32 (dConvoy p1)))]⟩) 0 () _ hz3 (sbr rfl rfl) ?_)
 intro x2 g4 z4 hz4 ez4
 unfold convoy_orders_l2 at hz4
 refine lr (fun u11 hu11 => sv rfl (s_nil (l_seq (cc rfl hz4 (fun c3 hz4 => ?_) (fun c3 hz4 => ?_)))))
 refine l_skip (l_seq (l_block (lr (fun u12 hu12 => sv rfl (bs hz4 fun v2 hv2 hz4 => sd rfl (v_idx rfl rfl hv2 rfl) (sd rfl (v_loadLG rfl hv2 rfl rfl) (sn rfl rfl (sv rfl (sst rfl G_hit (dMate v2) rfl (s_nil (l_seq (l_draw rfl fun u13 hu13 => sv rfl (sv rfl (sv rfl (gp rfl (gw_t rfl) (fun _ => rfl) (gt rfl (vl rfl G_hit rfl) (gp rfl (gw_t rfl) (fun _ => rfl) (gt rfl (vl rfl (gq rfl) rfl) (gt rfl (fun _ => rfl) (gt rfl (vb rfl rfl rfl) (bs hz4 fun v3 hv3 hz4 => gt rfl (fun w7 => (v_idx (gd_pos w7) (gd_pos w7) (cond_t w7 hv3) rfl)) (gt rfl (fun w8 => (v_loadLG (gd_pos w8) (cond_t w8 hv3) rfl rfl)) (bs hz4 fun v4 hv4 hz4 => ?_)))))))))))))))))))))))
 refine g_call _ (i64 v4) (gw_t rfl) (fun w9 => ⟨_, [(.d (.agg (eMate v3)))], _, _, (by simp only [gd_pos w9]; rfl), rfl, all2_refl, convoy_rear_ok _  _ (cond_t w9 hv4), (.inl rfl)⟩) ?_
 refine gt rfl (fun w10 => (v_bin (gd_pos w10) (gd_pos w10) rfl)) (sa rfl rfl rfl (s_nil (cc rfl hz4 (fun c4 hz4 => ?_) (fun c4 hz4 => ?_))))
 refine l_seq (l_sub (s0 := ⟨T [], G []⟩) (sbr rfl rfl) ?_)
 refine l_reg fun u14 hu14 => sv rfl (s_nil (l_ret ?_))
 cases hz4
 obtain rfl := ez4 _ rfl
 refine ⟨nofun, awl_ret ?_⟩
 rw [Sum.elim_inr] at h
 cases h
 exact fin_ok (.inr rfl) (resD1 (res_t rfl) rf_d) (.refl _)
 refine l_skip (l_end (l_sub (s0 := ⟨T [(1, (.ptr _ _)), (29, (.d _)), (30, (.d _)), (31, (.d _))], G [((1, u1), some (.box 32 _))]⟩) (sbr rfl rfl) ?_))
 refine l_reg fun u15 hu15 => sv rfl (sv rfl (s_nil (l_nil ?_)))
 cases hz4
 exact ⟨rfl, (), (sbr rfl rfl)⟩
 refine l_exitN rfl ?_
 cases hz4
 obtain rfl := ez4 _ rfl
 refine ⟨nofun, awl_pop rfl (l_j ?_)⟩
 exact ⟨_, (), rfl, (sbr rfl rfl)⟩
 rintro _ ⟨y2, g3, rfl, q2⟩
 rw [Sum.elim_inl] at h
 refine l_sub q2 (lr (fun u16 hu16 => sv rfl (s_nil (l_ret ?_))))
 cases h
 exact fin_ok (.inr rfl) (resD1 (res_t rfl) rf_d) (.refl _)

noncomputable def convoy_sane_1 (p1 : Int) : Option Bool :=
  (convoy_within p1 (-4398046511104) 4398046511104).bind fun v1 => some (!v1)

theorem convoy_sane_1_ok (p1 : Int) (r : Bool) (h : convoy_sane_1 p1 = some r) : PCall Tryz.prog 112 [(i64 p1)] (bo r) := by
 refine l_call (fk Tryz.func112 Tryz.ntmps112 m0 (by with_unfolding_all rfl)) (nl rfl) ?_
 unfold convoy_sane_1 at h
 refine l_sub (s0 := ⟨T [(0, (.d _))], G []⟩) (sbr rfl rfl) ?_
 refine lr (fun u1 hu1 => sv rfl (s_nil (lr (fun u2 hu2 => sv rfl (bs h fun v1 hv1 h => s_call rfl rfl all2_refl (convoy_within_ok _ _ _  _ hv1) (.inl rfl) (s_val (.d (bo (!v1))) rfl rfl (sv rfl (s_nil (l_ret ?_)))))))))
 cases h
 exact fin_ok (.inr rfl) (resD1 (res_t rfl) rf_d) (.refl _)

noncomputable def slices_IndexFunc_int64_int64_convoy_sane_1_l1 (p1 : (List Int)) (x1 : Int) : Option (Stp Int (Sum Unit Int)) :=
  cond (decide (x1 < (p1.length : Int))) ((geti p1 x1).bind fun v1 => (convoy_sane_1 v1).bind fun v2 => cond v2 (some (.out (.inr x1))) (some (.go (w64 (x1 + 1))))) (some (.out (.inl ())))
noncomputable def slices_IndexFunc_int64_int64_convoy_sane_1 (p1 : (List Int)) : Option Int :=
  thenS (loop (slices_IndexFunc_int64_int64_convoy_sane_1_l1 p1) 0) (fun _ => some (-1)) (fun r => some r)

theorem slices_IndexFunc_int64_int64_convoy_sane_1_ok (p1 : (List Int)) (r : Int) (h : slices_IndexFunc_int64_int64_convoy_sane_1 p1 = some r) : PCall Tryz.prog 119 [(.list (List.map eInt_i64 p1)), (.fn (.func 112) [] [])] (i64 r) := by
 refine l_call (fk Tryz.func119 Tryz.ntmps119 m0 (by with_unfolding_all rfl)) (nl rfl) ?_
 unfold slices_IndexFunc_int64_int64_convoy_sane_1 at h
 refine l_sub (s0 := ⟨T [(0, (.d _)), (1, (.d _))], G []⟩) (sbr rfl rfl) ?_
 refine lr (fun u1 hu1 => sv rfl (s_nil (l_seq (lr (fun u2 hu2 => sv rfl (sd rfl (v_len rfl) (sv rfl (s_nil (js h fun z1 hz1 h => l_join (fun s => ∃ (y1 : Unit) (g1 : Unit), z1 = .inl y1 ∧ Sb ⟨T [], G []⟩ s) ?_ ?_)))))))))
 refine l_block (l_loop (slices_IndexFunc_int64_int64_convoy_sane_1_l1 p1) (fun (x1 : Int) (g2 : Unit) => ⟨T [(0, (dl eInt_i64 p1)), (1, (.d (.fn (.func 112) [] []))), (7, (di (p1.length : Int))), (8, (di x1))], G []⟩) 0 () _ hz1 (sbr rfl rfl) ?_)
 intro x1 g2 z2 hz2 ez2
 unfold slices_IndexFunc_int64_int64_convoy_sane_1_l1 at hz2
 refine lr (fun u3 hu3 => sv rfl (s_nil (l_seq (cc rfl hz2 (fun c1 hz2 => ?_) (fun c1 hz2 => ?_)))))
 refine l_skip (l_seq (l_block (lr (fun u4 hu4 => sv rfl (sv rfl (s_nil (lr (fun u5 hu5 => sv rfl (sv rfl (sv rfl (bs hz2 fun v1 hv1 hz2 => sd rfl (v_idx rfl rfl hv1 rfl) (sd rfl (v_loadL rfl hv1 rfl) (bs hz2 fun v2 hv2 hz2 => s_call rfl rfl all2_refl (convoy_sane_1_ok _  _ hv2) (.inl rfl) (s_nil (cc rfl hz2 (fun c2 hz2 => ?_) (fun c2 hz2 => ?_))))))))))))))))
 refine lr (fun u6 hu6 => sv rfl (sv rfl (s_nil (l_ret ?_))))
 cases hz2
 obtain rfl := ez2 _ rfl
 refine ⟨nofun, awl_ret ?_⟩
 rw [Sum.elim_inr] at h
 cases h
 exact fin_ok (.inr rfl) (resD1 (res_t rfl) rf_d) (.refl _)
 refine l_skip (l_end (l_reg fun u7 hu7 => sv rfl (sv rfl (s_nil (l_nil ?_)))))
 cases hz2
 exact ⟨rfl, (), (sbr rfl rfl)⟩
 refine l_exitN rfl ?_
 cases hz2
 obtain rfl := ez2 _ rfl
 refine ⟨nofun, awl_pop rfl (l_j ?_)⟩
 exact ⟨_, (), rfl, (sbr rfl rfl)⟩
 rintro _ ⟨y1, g1, rfl, q1⟩
 rw [Sum.elim_inl] at h
 refine l_sub q1 (lr (fun u8 hu8 => sv rfl (s_nil (l_ret ?_))))
 cases h
 exact fin_ok (.inr rfl) (resD1 (res_t rfl) rf_d) (.refl _)

noncomputable def slices_ContainsFunc_int64_int64_convoy_sane_1 (p1 : (List Int)) : Option Bool :=
  (slices_IndexFunc_int64_int64_convoy_sane_1 p1).bind fun v1 => some (decide (v1 ≥ 0))

theorem slices_ContainsFunc_int64_int64_convoy_sane_1_ok (p1 : (List Int)) (r : Bool) (h : slices_ContainsFunc_int64_int64_convoy_sane_1 p1 = some r) : PCall Tryz.prog 111 [(.list (List.map eInt_i64 p1)), (.fn (.func 112) [] [])] (bo r) := by
 refine l_call (fk Tryz.func111 Tryz.ntmps111 m0 (by with_unfolding_all rfl)) (nl rfl) ?_
 unfold slices_ContainsFunc_int64_int64_convoy_sane_1 at h
 refine l_sub (s0 := ⟨T [(0, (.d _)), (1, (.d _))], G []⟩) (sbr rfl rfl) ?_
 refine lr (fun u1 hu1 => sv rfl (s_nil (lr (fun u2 hu2 => sv rfl (sv rfl (bs h fun v1 hv1 h => s_call rfl rfl all2_refl (slices_IndexFunc_int64_int64_convoy_sane_1_ok _  _ hv1) (.inl rfl) (sv rfl (sv rfl (s_nil (l_ret ?_))))))))))
 cases h
 exact fin_ok (.inr rfl) (resD1 (res_t rfl) rf_d) (.refl _)

noncomputable def convoy_sane (p1 : (List Int)) : Option Bool :=
  (slices_ContainsFunc_int64_int64_convoy_sane_1 p1).bind fun v1 => some (!v1)

theorem convoy_sane_ok (p1 : (List Int)) (r : Bool) (h : convoy_sane p1 = some r) : PCall Tryz.prog 89 [(.list (List.map eInt_i64 p1))] (bo r) := by
 refine l_call (fk Tryz.func89 Tryz.ntmps89 m0 (by with_unfolding_all rfl)) (nl rfl) ?_
 unfold convoy_sane at h
 refine l_sub (s0 := ⟨T [(0, (.d _))], G []⟩) (sbr rfl rfl) ?_
 refine lr (fun u1 hu1 => sv rfl (s_nil (lr (fun u2 hu2 => sv rfl (bs h fun v1 hv1 h => s_call rfl rfl all2_refl (slices_ContainsFunc_int64_int64_convoy_sane_1_ok _  _ hv1) (.inl rfl) (s_val (.d (bo (!v1))) rfl rfl (sv rfl (s_nil (l_ret ?_)))))))))
 cases h
 exact fin_ok (.inr rfl) (resD1 (res_t rfl) rf_d) (.refl _)

noncomputable def world_Stop (p1 : Int) (p2 : Int) : Option Int :=
  cond ((decide (p1 < 1)) || (decide (p2 < 1))) (some 0) ((quoc .i64 (w64 ((mm2 false p1 1000000) - 1)) (mm2 false p2 1000000)).bind fun v1 => some (w64 ((w64 (v1 * (mm2 false p1 1000000))) - (w64 ((mm2 false p2 1000000) * (w64 ((w64 (v1 * (w64 (v1 + 1)))).tdiv 2)))))))

theorem world_Stop_ok (p1 : Int) (p2 : Int) (r : Int) (h : world_Stop p1 p2 = some r) : PCall Tryz.prog 103 [(i64 p1), (i64 p2)] (i64 r) := by
 refine l_call (fk Tryz.func103 Tryz.ntmps103 m0 (by with_unfolding_all rfl)) (nl rfl) ?_
 unfold world_Stop at h
 refine l_sub (s0 := ⟨T [(0, (.d _)), (1, (.d _))], G []⟩) (sbr rfl rfl) ?_
 refine lr (fun u1 hu1 => sv rfl (s_nil (l_seq (lr (fun u2 hu2 => sv rfl (sv rfl (sv rfl (gf rfl (fun _ => rfl) (gf rfl (vb rfl rfl rfl) (sd rfl (v_or rfl rfl (fun hc => gd_pos (not_t hc))) (s_nil (cc rfl h (fun c1 h => ?_) (fun c1 h => ?_)))))))))))))
 refine lr (fun u3 hu3 => sv rfl (s_nil (l_ret ?_)))
 cases h
 exact fin_ok (.inr rfl) (resD1 (res_t rfl) rf_d) (.refl _)
 refine l_skip (lr (fun u4 hu4 => sv rfl (sv rfl (sv rfl (sv rfl (sv rfl (sv rfl (s_nil (lr (fun u5 hu5 => sv rfl (sv rfl (sv rfl (bs h fun v1 hv1 h => sd rfl (v_quo rfl rfl hv1) (sv rfl (s_nil (lr (fun u6 hu6 => sv rfl (sv rfl (sv rfl (sv rfl (sv rfl (sv rfl (sv rfl (sv rfl (sv rfl (sv rfl (sv rfl (sv rfl (s_nil (l_ret ?_))))))))))))))))))))))))))))))
 cases h
 exact fin_ok (.inr rfl) (resD1 (res_t rfl) rf_d) (.refl _)

noncomputable def convoy_stop (p1 : Int) : Option Int :=
  (world_Stop p1 90).bind fun v1 => some v1

theorem convoy_stop_ok (p1 : Int) (r : Int) (h : convoy_stop p1 = some r) : PCall Tryz.prog 61 [(i64 p1)] (i64 r) := by
 refine l_call (fk Tryz.func61 Tryz.ntmps61 m0 (by with_unfolding_all rfl)) (nl rfl) ?_
 unfold convoy_stop at h
 refine l_sub (s0 := ⟨T [(0, (.d _))], G []⟩) (sbr rfl rfl) ?_
 refine lr (fun u1 hu1 => sv rfl (s_nil (lr (fun u2 hu2 => sv rfl (bs h fun v1 hv1 h => s_call rfl rfl all2_refl (world_Stop_ok _ _  _ hv1) (.inl rfl) (sv rfl (s_nil (l_ret ?_))))))))
 cases h
 exact fin_ok (.inr rfl) (resD1 (res_t rfl) rf_d) (.refl _)

noncomputable def convoy_end (p1 : Guess) : Option Int :=
  (convoy_stop p1.V).bind fun v1 => some (w64 (p1.R + v1))

theorem convoy_end_ok (p1 : Guess) (r : Int) (h : convoy_end p1 = some r) : PCall Tryz.prog 93 [(.agg [(i64 p1.R), (i64 p1.V)])] (i64 r) := by
 refine l_call (fk Tryz.func93 Tryz.ntmps93 m0 (by with_unfolding_all rfl)) (nl rfl) ?_
 unfold convoy_end at h
 refine l_sub (s0 := ⟨T [(0, (.d _))], G []⟩) (sbr rfl rfl) ?_
 refine lr (fun u1 hu1 => sn rfl rfl (sv rfl (s_nil (l_seq (l_draw rfl fun u2 hu2 => sp rfl rfl (sl rfl G_hit rfl (sp rfl rfl (sl rfl G_hit rfl (bs h fun v1 hv1 h => s_call rfl rfl all2_refl (convoy_stop_ok _  _ hv1) (.inl rfl) (sv rfl (sv rfl (s_nil (l_ret ?_)))))))))))))
 cases h
 exact fin_ok (.inr rfl) (resD1 (res_t rfl) rf_d) (.refl _)

noncomputable def convoy_Safe (p1 : Int) (p2 : Int) (p3 : Int) (p4 : Guess) : Option Bool :=
  (convoy_sane [p1, p2, p3, p4.R, p4.V]).bind fun v1 => ((cond (v1 && (decide (p1 ≤ (w64 (p4.R - p3))))) (convoy_stop p2) (some default))).bind fun v2 => ((cond (v1 && (decide (p1 ≤ (w64 (p4.R - p3))))) (convoy_end p4) (some default))).bind fun v3 => some ((v1 && (decide (p1 ≤ (w64 (p4.R - p3))))) && (decide ((w64 (p1 + v2)) ≤ (w64 (v3 - p3)))))

theorem convoy_Safe_ok (p1 : Int) (p2 : Int) (p3 : Int) (p4 : Guess) (r : Bool) (h : convoy_Safe p1 p2 p3 p4 = some r) : PCall Tryz.prog 52 [(i64 p1), (i64 p2), (i64 p3), (.agg [(i64 p4.R), (i64 p4.V)])] (bo r) := by
 refine l_call (fk Tryz.func52 Tryz.ntmps52 (fun r => if r == 1 then [1007] else []) (by with_unfolding_all rfl)) (nl rfl) ?_
 unfold convoy_Safe at h
 refine l_sub (s0 := ⟨T [(0, (.d _)), (1, (.d _)), (2, (.d _)), (3, (.d _))], G []⟩) (sbr rfl rfl) ?_
 refine lr (fun u1 hu1 => sn rfl rfl (sv rfl (s_nil (l_seq (l_draw rfl fun u2 hu2 => sv rfl (sv rfl (sv rfl (sp rfl rfl (sl rfl G_hit rfl (sp rfl rfl (sl rfl G_hit rfl (s_val (dl eInt_i64 [p1, p2, p3, p4.R, p4.V]) rfl rfl (bs h fun v1 hv1 h => s_call rfl rfl all2_refl (convoy_sane_ok _  _ hv1) (.inl rfl) (sv rfl (gt rfl (fun _ => rfl) (gp rfl (gw_t rfl) (fun _ => rfl) (gt rfl (vl rfl G_hit rfl) (gt rfl (fun _ => rfl) (gt rfl (fun w5 => (v_bin (gd_pos w5) (gd_pos w5) rfl)) (gt rfl (fun w6 => (v_bin (gd_pos w6) (gd_pos w6) rfl)) (sa rfl rfl rfl (sv rfl (gt rfl (fun _ => rfl) (gt rfl (fun _ => rfl) (bs h fun v2 hv2 h => ?_)))))))))))))))))))))))))
 refine g_call _ (i64 v2) (gw_t rfl) (fun w9 => ⟨_, [(di p2)], _, _, (by simp only [gd_pos w9]; rfl), rfl, all2_refl, convoy_stop_ok _  _ (cond_t w9 hv2), (.inl rfl)⟩) ?_
 refine gt rfl (fun w10 => (v_bin (gd_pos w10) (gd_pos w10) rfl)) (gt rfl (fun w11 => (v_loadG rfl G_hit rfl rfl)) (bs h fun v3 hv3 h => ?_))
 refine g_call _ (i64 v3) (gw_t rfl) (fun w12 => ⟨_, [(.d (.agg [(i64 p4.R), (i64 p4.V)]))], _, _, (by simp only [gd_pos w12]; rfl), rfl, all2_refl, convoy_end_ok _  _ (cond_t w12 hv3), (.inl rfl)⟩) ?_
 refine gt rfl (fun _ => rfl) (gt rfl (fun w14 => (v_bin (gd_pos w14) (gd_pos w14) rfl)) (gt rfl (fun w15 => (v_bin (gd_pos w15) (gd_pos w15) rfl)) (sa rfl rfl rfl (sv rfl (s_nil (l_ret ?_))))))
 cases h
 exact fin_ok (.inr rfl) (resD1 (res_t rfl) rf_d) (.refl _)

noncomputable def convoy_keeps (p1 : Int) (p2 : Mate) (p3 : Int) (p4 : Int) (p5 : Guess) (p6 : Guess) : Option Bool :=
  ((cond (!(p2.Ahead == 0)) (convoy_Safe p3 p4 p1 p5) (some default))).bind fun v1 => ((cond (((p2.Ahead == 0) || v1) && (!(p2.Until == 0))) (convoy_Safe p3 p4 p1 p6) (some default))).bind fun v2 => some (((p2.Ahead == 0) || v1) && ((p2.Until == 0) || v2))

theorem convoy_keeps_ok (p1 : Int) (p2 : Mate) (p3 : Int) (p4 : Int) (p5 : Guess) (p6 : Guess) (r : Bool) (h : convoy_keeps p1 p2 p3 p4 p5 p6 = some r) : PCall Tryz.prog 60 [(i64 p1), (.agg (eMate p2)), (i64 p3), (i64 p4), (.agg [(i64 p5.R), (i64 p5.V)]), (.agg [(i64 p6.R), (i64 p6.V)])] (bo r) := by
 refine l_call (fk Tryz.func60 Tryz.ntmps60 m0 (by with_unfolding_all rfl)) (nl rfl) ?_
 unfold convoy_keeps at h
 refine l_sub (s0 := ⟨T [(0, (.d _)), (1, (.d _)), (2, (.d _)), (3, (.d _)), (4, (.d _)), (5, (.d _))], G []⟩) (sbr rfl rfl) ?_
 refine lr (fun u1 hu1 => sn rfl rfl (sn rfl rfl (sn rfl rfl (sv rfl (s_nil (lr (fun u2 hu2 => sp rfl rfl (sl rfl (gq rfl) rfl (sv rfl (sv rfl (gf rfl (fun _ => rfl) (gf rfl (fun _ => rfl) (gf rfl (fun _ => rfl) (gf rfl (fun w4 => (v_loadG rfl (gq rfl) rfl rfl)) (bs h fun v1 hv1 h => ?_)))))))))))))))
 refine g_call _ (bo v1) (gw_f rfl) (fun w5 => ⟨_, [(di p3), (di p4), (di p1), (.d (.agg [(i64 p5.R), (i64 p5.V)]))], _, _, (by simp only [gd_pos w5]; rfl), rfl, all2_refl, convoy_Safe_ok _ _ _ _  _ (cond_t w5 hv1), (.inl rfl)⟩) ?_
 refine sd rfl (v_or rfl rfl (fun hc => gd_pos (not_t hc))) (sv rfl (gp rfl (gw_t rfl) (fun _ => rfl) (gt rfl (vl rfl (gq rfl) rfl) (gt rfl (vb rfl rfl rfl) (gt rfl (fun w9 => (v_mv (gd_pos w9))) (gv rfl (gw_gf rfl) (fun _ => rfl) (gv rfl (gw_gf rfl) (fun _ => rfl) (gv rfl (gw_gf rfl) (fun _ => rfl) (gv rfl (gw_gf rfl) (fun w13 => (v_loadG rfl G_hit rfl rfl)) (bs h fun v2 hv2 h => ?_))))))))))
 refine g_call _ (bo v2) (gw_gf rfl) (fun w14 => ⟨_, [(di p3), (di p4), (di p1), (.d (.agg [(i64 p6.R), (i64 p6.V)]))], _, _, (by simp only [gd_pos w14]; rfl), rfl, all2_refl, convoy_Safe_ok _ _ _ _  _ (cond_t w14 hv2), (.inl rfl)⟩) ?_
 refine gt rfl (fun w15 => (v_or (gd_pos w15) rfl (fun hc => gd_pos (and_i w15 (not_t hc))))) (sa rfl rfl rfl (sv rfl (s_nil (l_ret ?_))))
 cases h
 exact fin_ok (.inr rfl) (resD1 (res_t rfl) rf_d) (.refl _)

noncomputable def convoy_Check_1_b (p1 : Mate) (p2 : Convoy) : Option Bool :=
  (convoy_keeps p2.Gap p1 p1.S p1.V p1.Guess_ p1.WardGuess).bind fun v1 => some (!v1)

theorem convoy_Check_1_b_ok (p1 : Mate) (p2 : Convoy) (r : Bool) (h : convoy_Check_1_b p1 p2 = some r) : PCall Tryz.prog 59 [(.agg (eMate p1)), (.bp (eConvoy p2) 0)] (bo r) := by
 refine l_call (fk Tryz.func59 Tryz.ntmps59 m0 (by with_unfolding_all rfl)) (nl rfl) ?_
 unfold convoy_Check_1_b at h
 refine l_sub (s0 := ⟨T [(0, (.d _)), (1, (.d _))], G []⟩) (sbr rfl rfl) ?_
 refine lr (fun u1 hu1 => sn rfl rfl (sv rfl (s_nil (lr (fun u2 hu2 => sv rfl (sv rfl (sd rfl (v_loadG rfl G_hit rfl rfl) (sp rfl rfl (sl rfl G_hit rfl (sp rfl rfl (sl rfl G_hit rfl (sp rfl rfl (sd rfl (v_loadG rfl G_hit rfl rfl) (sp rfl rfl (sd rfl (v_loadG rfl G_hit rfl rfl) (bs h fun v1 hv1 h => s_call rfl rfl all2_refl (convoy_keeps_ok _ _ _ _ _ _  _ hv1) (.inl rfl) (s_val (.d (bo (!v1))) rfl rfl (sv rfl (s_nil (l_ret ?_))))))))))))))))))))
 cases h
 exact fin_ok (.inr rfl) (resD1 (res_t rfl) rf_d) (.refl _)

noncomputable def slices_IndexFunc_Mate_Mate_convoy_Check_1b_l1 (p1 : (List Mate)) (p2 : Convoy) (x1 : Int) : Option (Stp Int (Sum Unit Int)) :=
  cond (decide (x1 < (p1.length : Int))) ((geti p1 x1).bind fun v1 => (convoy_Check_1_b v1 p2).bind fun v2 => cond v2 (some (.out (.inr x1))) (some (.go (w64 (x1 + 1))))) (some (.out (.inl ())))
noncomputable def slices_IndexFunc_Mate_Mate_convoy_Check_1b (p1 : (List Mate)) (p2 : Convoy) : Option Int :=
  thenS (loop (slices_IndexFunc_Mate_Mate_convoy_Check_1b_l1 p1 p2) 0) (fun _ => some (-1)) (fun r => some r)

theorem slices_IndexFunc_Mate_Mate_convoy_Check_1b_ok (p1 : (List Mate)) (p2 : Convoy) (r : Int) (h : slices_IndexFunc_Mate_Mate_convoy_Check_1b p1 p2 = some r) : PCall Tryz.prog 62 [(.list (List.map eMate p1)), (.fn (.func 59) [] [(.bp (eConvoy p2) 0)])] (i64 r) := by
 refine l_call (fk Tryz.func62 Tryz.ntmps62 m0 (by with_unfolding_all rfl)) (nl rfl) ?_
 unfold slices_IndexFunc_Mate_Mate_convoy_Check_1b at h
 refine l_sub (s0 := ⟨T [(0, (.d _)), (1, (.d _))], G []⟩) (sbr rfl rfl) ?_
 refine lr (fun u1 hu1 => sv rfl (s_nil (l_seq (lr (fun u2 hu2 => sv rfl (sd rfl (v_len rfl) (sv rfl (s_nil (js h fun z1 hz1 h => l_join (fun s => ∃ (y1 : Unit) (g1 : Unit), z1 = .inl y1 ∧ Sb ⟨T [], G []⟩ s) ?_ ?_)))))))))
 refine l_block (l_loop (slices_IndexFunc_Mate_Mate_convoy_Check_1b_l1 p1 p2) (fun (x1 : Int) (g2 : Unit) => ⟨T [(0, (dl eMate p1)), (1, (.d (.fn (.func 59) [] [(.bp (eConvoy p2) 0)]))), (7, (di (p1.length : Int))), (8, (di x1))], G []⟩) 0 () _ hz1 (sbr rfl rfl) ?_)
 intro x1 g2 z2 hz2 ez2
 unfold slices_IndexFunc_Mate_Mate_convoy_Check_1b_l1 at hz2
 refine lr (fun u3 hu3 => sv rfl (s_nil (l_seq (cc rfl hz2 (fun c1 hz2 => ?_) (fun c1 hz2 => ?_)))))
 refine l_skip (l_seq (l_block (lr (fun u4 hu4 => sv rfl (sv rfl (s_nil (lr (fun u5 hu5 => sv rfl (sv rfl (sv rfl (bs hz2 fun v1 hv1 hz2 => sd rfl (v_idx rfl rfl hv1 rfl) (sd rfl (v_loadLG rfl hv1 rfl rfl) (bs hz2 fun v2 hv2 hz2 => s_call rfl rfl all2_refl (convoy_Check_1_b_ok _ _  _ hv2) (.inl rfl) (s_nil (cc rfl hz2 (fun c2 hz2 => ?_) (fun c2 hz2 => ?_))))))))))))))))
 refine lr (fun u6 hu6 => sv rfl (sv rfl (s_nil (l_ret ?_))))
 cases hz2
 obtain rfl := ez2 _ rfl
 refine ⟨nofun, awl_ret ?_⟩
 rw [Sum.elim_inr] at h
 cases h
 exact fin_ok (.inr rfl) (resD1 (res_t rfl) rf_d) (.refl _)
 refine l_skip (l_end (l_reg fun u7 hu7 => sv rfl (sv rfl (s_nil (l_nil ?_)))))
 cases hz2
 exact ⟨rfl, (), (sbr rfl rfl)⟩
 refine l_exitN rfl ?_
 cases hz2
 obtain rfl := ez2 _ rfl
 refine ⟨nofun, awl_pop rfl (l_j ?_)⟩
 exact ⟨_, (), rfl, (sbr rfl rfl)⟩
 rintro _ ⟨y1, g1, rfl, q1⟩
 rw [Sum.elim_inl] at h
 refine l_sub q1 (lr (fun u8 hu8 => sv rfl (s_nil (l_ret ?_))))
 cases h
 exact fin_ok (.inr rfl) (resD1 (res_t rfl) rf_d) (.refl _)

noncomputable def slices_ContainsFunc_Mate_Mate_convoy_Check_1b (p1 : (List Mate)) (p2 : Convoy) : Option Bool :=
  (slices_IndexFunc_Mate_Mate_convoy_Check_1b p1 p2).bind fun v1 => some (decide (v1 ≥ 0))

theorem slices_ContainsFunc_Mate_Mate_convoy_Check_1b_ok (p1 : (List Mate)) (p2 : Convoy) (r : Bool) (h : slices_ContainsFunc_Mate_Mate_convoy_Check_1b p1 p2 = some r) : PCall Tryz.prog 31 [(.list (List.map eMate p1)), (.fn (.func 59) [] [(.bp (eConvoy p2) 0)])] (bo r) := by
 refine l_call (fk Tryz.func31 Tryz.ntmps31 m0 (by with_unfolding_all rfl)) (nl rfl) ?_
 unfold slices_ContainsFunc_Mate_Mate_convoy_Check_1b at h
 refine l_sub (s0 := ⟨T [(0, (.d _)), (1, (.d _))], G []⟩) (sbr rfl rfl) ?_
 refine lr (fun u1 hu1 => sv rfl (s_nil (lr (fun u2 hu2 => sv rfl (sv rfl (bs h fun v1 hv1 h => s_call rfl rfl all2_refl (slices_IndexFunc_Mate_Mate_convoy_Check_1b_ok _ _  _ hv1) (.inl rfl) (sv rfl (sv rfl (s_nil (l_ret ?_))))))))))
 cases h
 exact fin_ok (.inr rfl) (resD1 (res_t rfl) rf_d) (.refl _)

noncomputable def convoy_Check_l1 (p1 : Convoy) (x1 : Int) : Option (Stp Int (Sum Unit Int)) :=
  cond (decide (x1 < (p1.Mates.length : Int))) ((geti p1.Mates x1).bind fun v3 => cond ((((x1 == 0) && (v3.Ahead != 0)) || (((decide (x1 > 0)) && (v3.Until == 0)) && (v3.Ahead == 0))) || ((v3.Ward == 0) && (v3.Until != 0))) (some (.out (.inr 10))) (some (.go (w64 (x1 + 1))))) (some (.out (.inl ())))
noncomputable def convoy_Check (p1 : Convoy) : Option Int :=
  (convoy_numbers p1).bind fun v1 => cond (v1 != 0) (some v1) ((convoy_orders p1).bind fun v2 => cond (v2 != 0) (some v2) (thenS (loop (convoy_Check_l1 p1) 0) (fun _ => (slices_ContainsFunc_Mate_Mate_convoy_Check_1b p1.Mates p1).bind fun v4 => ((cond ((!v4) && (p1.Guest_.ID != 0)) (convoy_stop p1.Guest_.V) (some default))).bind fun v5 => cond (v4 || ((p1.Guest_.ID != 0) && (decide ((w64 (p1.Guest_.S + v5)) ≥ p1.Guest_.End)))) (some 12) (some 0)) (fun r => some r)))

theorem convoy_Check_ok (p1 : Convoy) (r : Int) (h : convoy_Check p1 = some r) : PCall Tryz.prog 25 [(.agg (eConvoy p1))] (i64 r) := by
 refine l_call (fk Tryz.func25 Tryz.ntmps25 m0 (by with_unfolding_all rfl)) (nl rfl) ?_
 unfold convoy_Check at h
 refine l_sub (s0 := ⟨T [(0, (.d _))], G []⟩) (sbr rfl rfl) ?_
 refine lr (fun u1 hu1 => sn rfl rfl (sv rfl (s_nil (l_seq (lr (fun u2 hu2 => sd rfl (v_loadG rfl G_hit rfl rfl) (bs h fun v1 hv1 h => s_call rfl rfl all2_refl (convoy_numbers_ok _  _ hv1) (.inl rfl) (sv rfl (s_nil (lr (fun u3 hu3 => sv rfl (sv rfl (s_nil (cc rfl h (fun c1 h => ?_) (fun c1 h => ?_)))))))))))))))
 refine lr (fun u4 hu4 => sv rfl (sv rfl (s_nil (l_ret ?_))))
 cases h
 exact fin_ok (.inr rfl) (resD1 (res_t rfl) rf_d) (.refl _)
 refine l_skip (l_seq (lr (fun u5 hu5 => sd rfl (v_loadG rfl G_hit rfl rfl) (bs h fun v2 hv2 h => s_call rfl rfl all2_refl (convoy_orders_ok _  _ hv2) (.inl rfl) (sv rfl (s_nil (lr (fun u6 hu6 => sv rfl (sv rfl (s_nil (cc rfl h (fun c2 h => ?_) (fun c2 h => ?_))))))))))))
 refine lr (fun u7 hu7 => sv rfl (sv rfl (s_nil (l_ret ?_))))
 cases h
 exact fin_ok (.inr rfl) (resD1 (res_t rfl) rf_d) (.refl _)
 refine l_skip (l_seq (lr (fun u8 hu8 => sp rfl rfl (sl rfl G_hit rfl (sd rfl (v_len rfl) (sv rfl (s_nil (js h fun z1 hz1 h => l_join (fun s => ∃ (y1 : Unit) (g1 : Unit), z1 = .inl y1 ∧ Sb ⟨T [(1, (.ptr (1, u1) 0))], G [((1, u1), some (.box 32 (dConvoy p1)))]⟩ s) ?_ ?_))))))))
 refine l_block (l_loop (convoy_Check_l1 p1) (fun (x1 : Int) (g2 : Unit) => ⟨T [(1, (.ptr (1, u1) 0)), (20, (dl eMate p1.Mates)), (21, (di (p1.Mates.length : Int))), (22, (di x1))], G [((1, u1), some (.box 32 (dConvoy p1)))]⟩) 0 () _ hz1 (sbr rfl rfl) ?_)
 intro x1 g2 z2 hz2 ez2
 unfold convoy_Check_l1 at hz2
 refine lr (fun u9 hu9 => sv rfl (s_nil (l_seq (cc rfl hz2 (fun c3 hz2 => ?_) (fun c3 hz2 => ?_)))))
 refine l_skip (l_seq (l_block (lr (fun u10 hu10 => sv rfl (bs hz2 fun v3 hv3 hz2 => sd rfl (v_idx rfl rfl hv3 rfl) (sd rfl (v_loadLG rfl hv3 rfl rfl) (sn rfl rfl (sv rfl (sst rfl G_hit (dMate v3) rfl (s_nil (lr (fun u11 hu11 => sv rfl (sv rfl (sv rfl (gp rfl (gw_t rfl) (fun _ => rfl) (gt rfl (vl rfl G_hit rfl) (gt rfl (vb rfl rfl rfl) (sa rfl rfl rfl (sv rfl (gp rfl (gw_t rfl) (fun _ => rfl) (gt rfl (vl rfl G_hit rfl) (gt rfl (vb rfl rfl rfl) (sa rfl rfl rfl (sv rfl (s_nil (l_seq (l_sub (s0 := ⟨T [(1, (.ptr _ _)), (5, (.d _)), (6, (.ptr _ _)), (7, (.d _)), (20, (.d _)), (21, (.d _)), (22, (.d _))], G [((1, u1), some (.box 32 _)), ((6, u10), some (.box 51 _))]⟩) (sbr rfl rfl) ?_)))))))))))))))))))))))))))
 refine l_reg fun u12 hu12 => sv rfl (sv rfl (sv rfl (gp rfl (gw_t rfl) (fun _ => rfl) (gt rfl (vl rfl (gq rfl) rfl) (gt rfl (vb rfl rfl rfl) (sa rfl rfl rfl (sv rfl (gf rfl (fun _ => rfl) (sd rfl (v_or rfl rfl (fun hc => gd_pos (not_t hc))) (sv rfl (gp rfl (gw_f rfl) (fun _ => rfl) (gf rfl (vl rfl (gq rfl) rfl) (gf rfl (vb rfl rfl rfl) (gf rfl (fun w14 => (v_mv (gd_pos w14))) (g_val _ (.ptr _ _) rfl (gw_gt rfl) (fun _ => rfl) (gv rfl (gw_gt rfl) (vl rfl (gq rfl) rfl) (gv rfl (gw_gt rfl) (vb rfl rfl rfl) (gf rfl (fun w18 => (v_and (gd_pos w18) (fun hc => gd_pos (and_i w18 hc)) rfl)) (sd rfl (v_or rfl rfl (fun hc => gd_pos (not_t hc))) (s_nil (cc rfl hz2 (fun c4 hz2 => ?_) (fun c4 hz2 => ?_))))))))))))))))))))))
 refine l_seq (l_sub (s0 := ⟨T [], G []⟩) (sbr rfl rfl) ?_)
 refine l_reg fun u13 hu13 => sv rfl (s_nil (l_ret ?_))
 cases hz2
 obtain rfl := ez2 _ rfl
 refine ⟨nofun, awl_ret ?_⟩
 rw [Sum.elim_inr] at h
 cases h
 exact fin_ok (.inr rfl) (resD1 (res_t rfl) rf_d) (.refl _)
 refine l_skip (l_end (l_sub (s0 := ⟨T [(1, (.ptr _ _)), (20, (.d _)), (21, (.d _)), (22, (.d _))], G [((1, u1), some (.box 32 _))]⟩) (sbr rfl rfl) ?_))
 refine l_reg fun u14 hu14 => sv rfl (sv rfl (s_nil (l_nil ?_)))
 cases hz2
 exact ⟨rfl, (), (sbr rfl rfl)⟩
 refine l_exitN rfl ?_
 cases hz2
 obtain rfl := ez2 _ rfl
 refine ⟨nofun, awl_pop rfl (l_j ?_)⟩
 exact ⟨_, (), rfl, (sbr rfl rfl)⟩
 rintro _ ⟨y1, g1, rfl, q1⟩
 rw [Sum.elim_inl] at h
 refine l_sub q1 (lr (fun u15 hu15 => s_val (.fn _ _ _) rfl rfl (s_val (.fn _ _ _) rfl rfl (s_nil (l_seq (l_seq (l_draw rfl fun u16 hu16 => sp rfl rfl (sl rfl G_hit rfl (s_val (.fn _ _ _) rfl rfl (bs h fun v4 hv4 h => s_call rfl (rD (rfL_cons (rf_fn rfL_nil (rfL_cons (rf_ptr G_hit (rD (rD (rD (rD (rD (rD (rD (rD (rD (rD (rD (rD (rD rfL_nil)))))))))))))) rfL_nil)) rfL_nil)) all2_refl (slices_ContainsFunc_Mate_Mate_convoy_Check_1b_ok _ _  _ hv4) (.inr rfl) (sv rfl (gp rfl (gw_f rfl) (fun _ => rfl) ?_))))))))))))
 refine g_val _ (.ptr _ _) rfl (gw_f rfl) (fun w20 => (by simp only [gd_pos w20]; rfl)) ?_
 refine gf rfl (vl rfl G_hit rfl) (gf rfl (vb rfl rfl rfl) (gf rfl (fun w23 => (v_mv (gd_pos w23))) (g_val _ (.ptr _ _) rfl (gw_gt rfl) (fun _ => rfl) ?_)))
 refine g_val _ (.ptr _ _) rfl (gw_gt rfl) (fun w25 => (by simp only [gd_pos w25]; rfl)) ?_
 refine gv rfl (gw_gt rfl) (vl rfl G_hit rfl) (g_val _ (.ptr _ _) rfl (gw_gt rfl) (fun _ => rfl) ?_)
 refine g_val _ (.ptr _ _) rfl (gw_gt rfl) (fun w28 => (by simp only [gd_pos w28]; rfl)) ?_
 refine gv rfl (gw_gt rfl) (vl rfl G_hit rfl) (bs h fun v5 hv5 h => ?_)
 refine g_call _ (i64 v5) (gw_gt rfl) (fun w30 => ⟨_, [(di p1.Guest_.V)], _, _, (by simp only [gd_pos w30]; rfl), rfl, all2_refl, convoy_stop_ok _  _ (cond_t w30 hv5), (.inl rfl)⟩) ?_
 refine gv rfl (gw_gt rfl) (fun w31 => (v_bin (gd_pos w31) (gd_pos w31) rfl)) (g_val _ (.ptr _ _) rfl (gw_gt rfl) (fun _ => rfl) ?_)
 refine g_val _ (.ptr _ _) rfl (gw_gt rfl) (fun w33 => (by simp only [gd_pos w33]; rfl)) ?_
 refine gv rfl (gw_gt rfl) (vl rfl G_hit rfl) (gv rfl (gw_gt rfl) (fun w35 => (v_bin (gd_pos w35) (gd_pos w35) rfl)) (gf rfl (fun w36 => (v_and (gd_pos w36) (fun hc => gd_pos (and_i w36 hc)) rfl)) (sd rfl (v_or rfl rfl (fun hc => gd_pos (not_t hc))) (s_nil (cc rfl h (fun c5 h => ?_) (fun c5 h => ?_))))))
 refine l_seq (l_sub (s0 := ⟨T [], G []⟩) (sbr rfl rfl) ?_)
 refine l_reg fun u17 hu17 => sv rfl (s_nil (l_ret ?_))
 cases h
 exact fin_ok (.inr rfl) (resD1 (res_t rfl) rf_d) (.refl _)
 refine l_skip (l_seq (l_sub (s0 := ⟨T [], G []⟩) (sbr rfl rfl) ?_))
 refine l_reg fun u18 hu18 => sv rfl (s_nil (l_ret ?_))
 cases h
 exact fin_ok (.inr rfl) (resD1 (res_t rfl) rf_d) (.refl _)

noncomputable def convoy_beside_1_b (p1 : Mate) (p2 : Convoy) : Option Bool :=
  some (decide (p1.S ≤ p2.Guest_.S))

theorem convoy_beside_1_b_ok (p1 : Mate) (p2 : Convoy) (r : Bool) (h : convoy_beside_1_b p1 p2 = some r) : PCall Tryz.prog 63 [(.agg (eMate p1)), (.bp (eConvoy p2) 0)] (bo r) := by
 refine l_call (fk Tryz.func63 Tryz.ntmps63 m0 (by with_unfolding_all rfl)) (nl rfl) ?_
 unfold convoy_beside_1_b at h
 refine l_sub (s0 := ⟨T [(0, (.d _)), (1, (.d _))], G []⟩) (sbr rfl rfl) ?_
 refine lr (fun u1 hu1 => sn rfl rfl (sv rfl (s_nil (lr (fun u2 hu2 => sp rfl rfl (sl rfl G_hit rfl (sv rfl (sv rfl (sv rfl (sv rfl (sv rfl (s_nil (l_ret ?_)))))))))))))
 cases h
 exact fin_ok (.inr rfl) (resD1 (res_t rfl) rf_d) (.refl _)

noncomputable def slices_IndexFunc_Mate_Mate_convoy_beside_1b_l1 (p1 : (List Mate)) (p2 : Convoy) (x1 : Int) : Option (Stp Int (Sum Unit Int)) :=
  cond (decide (x1 < (p1.length : Int))) ((geti p1 x1).bind fun v1 => (convoy_beside_1_b v1 p2).bind fun v2 => cond v2 (some (.out (.inr x1))) (some (.go (w64 (x1 + 1))))) (some (.out (.inl ())))
noncomputable def slices_IndexFunc_Mate_Mate_convoy_beside_1b (p1 : (List Mate)) (p2 : Convoy) : Option Int :=
  thenS (loop (slices_IndexFunc_Mate_Mate_convoy_beside_1b_l1 p1 p2) 0) (fun _ => some (-1)) (fun r => some r)

theorem slices_IndexFunc_Mate_Mate_convoy_beside_1b_ok (p1 : (List Mate)) (p2 : Convoy) (r : Int) (h : slices_IndexFunc_Mate_Mate_convoy_beside_1b p1 p2 = some r) : PCall Tryz.prog 62 [(.list (List.map eMate p1)), (.fn (.func 63) [] [(.bp (eConvoy p2) 0)])] (i64 r) := by
 refine l_call (fk Tryz.func62 Tryz.ntmps62 m0 (by with_unfolding_all rfl)) (nl rfl) ?_
 unfold slices_IndexFunc_Mate_Mate_convoy_beside_1b at h
 refine l_sub (s0 := ⟨T [(0, (.d _)), (1, (.d _))], G []⟩) (sbr rfl rfl) ?_
 refine lr (fun u1 hu1 => sv rfl (s_nil (l_seq (lr (fun u2 hu2 => sv rfl (sd rfl (v_len rfl) (sv rfl (s_nil (js h fun z1 hz1 h => l_join (fun s => ∃ (y1 : Unit) (g1 : Unit), z1 = .inl y1 ∧ Sb ⟨T [], G []⟩ s) ?_ ?_)))))))))
 refine l_block (l_loop (slices_IndexFunc_Mate_Mate_convoy_beside_1b_l1 p1 p2) (fun (x1 : Int) (g2 : Unit) => ⟨T [(0, (dl eMate p1)), (1, (.d (.fn (.func 63) [] [(.bp (eConvoy p2) 0)]))), (7, (di (p1.length : Int))), (8, (di x1))], G []⟩) 0 () _ hz1 (sbr rfl rfl) ?_)
 intro x1 g2 z2 hz2 ez2
 unfold slices_IndexFunc_Mate_Mate_convoy_beside_1b_l1 at hz2
 refine lr (fun u3 hu3 => sv rfl (s_nil (l_seq (cc rfl hz2 (fun c1 hz2 => ?_) (fun c1 hz2 => ?_)))))
 refine l_skip (l_seq (l_block (lr (fun u4 hu4 => sv rfl (sv rfl (s_nil (lr (fun u5 hu5 => sv rfl (sv rfl (sv rfl (bs hz2 fun v1 hv1 hz2 => sd rfl (v_idx rfl rfl hv1 rfl) (sd rfl (v_loadLG rfl hv1 rfl rfl) (bs hz2 fun v2 hv2 hz2 => s_call rfl rfl all2_refl (convoy_beside_1_b_ok _ _  _ hv2) (.inl rfl) (s_nil (cc rfl hz2 (fun c2 hz2 => ?_) (fun c2 hz2 => ?_))))))))))))))))
 refine lr (fun u6 hu6 => sv rfl (sv rfl (s_nil (l_ret ?_))))
 cases hz2
 obtain rfl := ez2 _ rfl
 refine ⟨nofun, awl_ret ?_⟩
 rw [Sum.elim_inr] at h
 cases h
 exact fin_ok (.inr rfl) (resD1 (res_t rfl) rf_d) (.refl _)
 refine l_skip (l_end (l_reg fun u7 hu7 => sv rfl (sv rfl (s_nil (l_nil ?_)))))
 cases hz2
 exact ⟨rfl, (), (sbr rfl rfl)⟩
 refine l_exitN rfl ?_
 cases hz2
 obtain rfl := ez2 _ rfl
 refine ⟨nofun, awl_pop rfl (l_j ?_)⟩
 exact ⟨_, (), rfl, (sbr rfl rfl)⟩
 rintro _ ⟨y1, g1, rfl, q1⟩
 rw [Sum.elim_inl] at h
 refine l_sub q1 (lr (fun u8 hu8 => sv rfl (s_nil (l_ret ?_))))
 cases h
 exact fin_ok (.inr rfl) (resD1 (res_t rfl) rf_d) (.refl _)

noncomputable def convoy_beside (p1 : Convoy) : Option (Int × Int) :=
  (slices_IndexFunc_Mate_Mate_convoy_beside_1b p1.Mates p1).bind fun v1 => cond (decide (v1 < 0)) (some ((w64 ((p1.Mates.length : Int) - 1)), (-1))) (some ((w64 (v1 - 1)), v1))

theorem convoy_beside_ok (p1 : Convoy) (r : (Int × Int)) (h : convoy_beside p1 = some r) : PCall Tryz.prog 27 [(.agg (eConvoy p1))] (.tup [(i64 r.1), (i64 r.2)]) := by
 refine l_call (fk Tryz.func27 Tryz.ntmps27 m0 (by with_unfolding_all rfl)) (nl rfl) ?_
 unfold convoy_beside at h
 refine l_sub (s0 := ⟨T [(0, (.d _))], G []⟩) (sbr rfl rfl) ?_
 refine lr (fun u1 hu1 => sn rfl rfl (sv rfl (sv rfl (s_nil (lr (fun u2 hu2 => sp rfl rfl (sl rfl G_hit rfl (s_val (.fn _ _ _) rfl rfl (bs h fun v1 hv1 h => s_call rfl (rD (rfL_cons (rf_fn rfL_nil (rfL_cons (rf_ptr G_hit (rD (rD (rD (rD (rD (rD (rD (rD (rD (rD (rD (rD (rD rfL_nil)))))))))))))) rfL_nil)) rfL_nil)) all2_refl (slices_IndexFunc_Mate_Mate_convoy_beside_1b_ok _ _  _ hv1) (.inr rfl) (sv rfl (s_nil (l_seq (lr (fun u3 hu3 => sv rfl (sv rfl (s_nil (cc rfl h (fun c1 h => ?_) (fun c1 h => ?_))))))))))))))))))
 refine lr (fun u4 hu4 => sp rfl rfl (sl rfl G_hit rfl (sd rfl (v_len rfl) (sv rfl (sv rfl (sv rfl (s_nil (l_ret ?_))))))))
 cases h
 exact fin_ok (.inr rfl) (resD2 (res_t rfl) (res_t rfl) rf_d rf_d) (.refl _)
 refine l_skip (lr (fun u5 hu5 => sv rfl (sv rfl (sv rfl (sv rfl (sv rfl (s_nil (l_ret ?_))))))))
 cases h
 exact fin_ok (.inr rfl) (resD2 (res_t rfl) (res_t rfl) rf_d rf_d) (.refl _)
end Go.Abs.Convoyz
