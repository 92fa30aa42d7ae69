/-
  The Go functions that ConvoyRamp reaches, as plain Lean functions, and the proofs that the program computes them.
-/
import Derived.Test.YtdkgjoilcfoclaaCoreD
import Derived.Test.YtdkgjoilcfoclaaProg
import Derived.KernelRfl
import Derived.IntWalk
import Derived.Shelf.RegionOpenPlain
import Derived.WalkKit
import Derived.Lib.Walk
import Derived.Lib.JoinLaws
import Derived.Laws.Externs
import Derived.Laws.IdiomCopy
import Derived.Shelf.Spec.SlicesInsert
set_option maxRecDepth 20000
set_option linter.unusedVariables false
namespace Go.Abs.Convoy
open Go Go.Abs Go.Proofs
attribute [local irreducible] regW regT AWL
structure Guess where
  R : Int
  V : Int
  deriving Inhabited
structure Mate where
  ID : Int
  S : Int
  V : Int
  Len : Int
  Ahead : Int
  Guess_ : Guess
  Trust : Bool
  Ward : Int
  WardGuess : Guess
  Until : Int
  deriving Inhabited
abbrev eMate : Mate → List D := fun x => [(i64 x.ID), (i64 x.S), (i64 x.V), (i64 x.Len), (i64 x.Ahead), (i64 x.Guess_.R), (i64 x.Guess_.V), (bo x.Trust), (i64 x.Ward), (i64 x.WardGuess.R), (i64 x.WardGuess.V), (i64 x.Until)]
abbrev eInt_i64 : Int → List D := fun x => [.v (.int .i64 x)]
abbrev eL_Int_i64 : (List Int) → List D := fun x => [.list (List.map eInt_i64 x)]
structure KitRing where
  l : (List Int)
  at_ : Int
  deriving Inhabited
structure Guest where
  ID : Int
  S : Int
  V : Int
  Len : Int
  End : Int
  Ahead : Int
  Guess_ : Guess
  From : Int
  Until : Int
  deriving Inhabited
structure Convoy where
  Tick : Int
  Gap : Int
  Mates : (List Mate)
  Guest_ : Guest
  deriving Inhabited
structure Note where
  Kind : Int
  From : Int
  To : Int
  Stamp : Int
  R : Int
  V : Int
  Until : Int
  deriving Inhabited
abbrev eNote : Note → List D := fun x => [(i64 x.Kind), (i64 x.From), (i64 x.To), (i64 x.Stamp), (i64 x.R), (i64 x.V), (i64 x.Until)]
structure KitPost where
  sent : (List Note)
  deriving Inhabited
structure Sight where
  By : Int
  Lo : Int
  Hi : Int
  VLo : Int
  VHi : Int
  deriving Inhabited
abbrev eSight : Sight → List D := fun x => [(i64 x.By), (i64 x.Lo), (i64 x.Hi), (i64 x.VLo), (i64 x.VHi)]
structure ConvoyLetter where
  Note_ : Note
  guess : Guess
  deriving Inhabited
abbrev eConvoyLetter : ConvoyLetter → List D := fun x => [(i64 x.Note_.Kind), (i64 x.Note_.From), (i64 x.Note_.To), (i64 x.Note_.Stamp), (i64 x.Note_.R), (i64 x.Note_.V), (i64 x.Note_.Until), (i64 x.guess.R), (i64 x.guess.V)]
structure ConvoyMind where
  Mate_ : Mate
  tick : Int
  gap : Int
  sight : Sight
  sees : Bool
  deriving Inhabited
structure Anon7 where
  x : Int
  y : Int
  signed : Bool
  code : Int
  deriving Inhabited
structure RuntimeBoundsError where
  x : Int
  y : Int
  signed : Bool
  code : Int
  deriving Inhabited
structure Anon13 where
  msg : ByteArray
  addr : Int
  deriving Inhabited
structure RuntimeErrorAddressString where
  msg : ByteArray
  addr : Int
  deriving Inhabited
structure Anon22 where
  R : Int
  V : Int
  deriving Inhabited
structure Anon35 where
  ID : Int
  S : Int
  V : Int
  Len : Int
  End : Int
  Ahead : Int
  Guess_ : Guess
  From : Int
  Until : Int
  deriving Inhabited
structure Anon37 where
  Tick : Int
  Gap : Int
  Mates : (List Mate)
  Guest_ : Guest
  deriving Inhabited
structure Anon41 where
  By : Int
  Lo : Int
  Hi : Int
  VLo : Int
  VHi : Int
  deriving Inhabited
structure Anon64 where
  ID : Int
  S : Int
  V : Int
  Len : Int
  Ahead : Int
  Guess_ : Guess
  Trust : Bool
  Ward : Int
  WardGuess : Guess
  Until : Int
  deriving Inhabited
structure Anon67 where
  Kind : Int
  From : Int
  To : Int
  Stamp : Int
  R : Int
  V : Int
  Until : Int
  deriving Inhabited
structure Anon75 where
  sent : (List Note)
  deriving Inhabited
structure Anon93 where
  l : (List Int)
  at_ : Int
  deriving Inhabited
structure Anon106 where
  Mate_ : Mate
  tick : Int
  gap : Int
  sight : Sight
  sees : Bool
  deriving Inhabited
structure Anon124 where
  Note_ : Note
  guess : Guess
  deriving Inhabited
abbrev eConvoyMind : ConvoyMind → List D := fun x => [(i64 x.Mate_.ID), (i64 x.Mate_.S), (i64 x.Mate_.V), (i64 x.Mate_.Len), (i64 x.Mate_.Ahead), (i64 x.Mate_.Guess_.R), (i64 x.Mate_.Guess_.V), (bo x.Mate_.Trust), (i64 x.Mate_.Ward), (i64 x.Mate_.WardGuess.R), (i64 x.Mate_.WardGuess.V), (i64 x.Mate_.Until), (i64 x.tick), (i64 x.gap), (i64 x.sight.By), (i64 x.sight.Lo), (i64 x.sight.Hi), (i64 x.sight.VLo), (i64 x.sight.VHi), (bo x.sees)]
abbrev dConvoyMind : ConvoyMind → List AV := fun x => [(.d (i64 x.Mate_.ID)), (.d (i64 x.Mate_.S)), (.d (i64 x.Mate_.V)), (.d (i64 x.Mate_.Len)), (.d (i64 x.Mate_.Ahead)), (.d (i64 x.Mate_.Guess_.R)), (.d (i64 x.Mate_.Guess_.V)), (.d (bo x.Mate_.Trust)), (.d (i64 x.Mate_.Ward)), (.d (i64 x.Mate_.WardGuess.R)), (.d (i64 x.Mate_.WardGuess.V)), (.d (i64 x.Mate_.Until)), (.d (i64 x.tick)), (.d (i64 x.gap)), (.d (i64 x.sight.By)), (.d (i64 x.sight.Lo)), (.d (i64 x.sight.Hi)), (.d (i64 x.sight.VLo)), (.d (i64 x.sight.VHi)), (.d (bo x.sees))]
abbrev eConvoy : Convoy → List D := fun x => [(i64 x.Tick), (i64 x.Gap), (.list (List.map eMate x.Mates)), (i64 x.Guest_.ID), (i64 x.Guest_.S), (i64 x.Guest_.V), (i64 x.Guest_.Len), (i64 x.Guest_.End), (i64 x.Guest_.Ahead), (i64 x.Guest_.Guess_.R), (i64 x.Guest_.Guess_.V), (i64 x.Guest_.From), (i64 x.Guest_.Until)]
abbrev dConvoy : Convoy → List AV := fun x => [(.d (i64 x.Tick)), (.d (i64 x.Gap)), (.d (.list (List.map eMate x.Mates))), (.d (i64 x.Guest_.ID)), (.d (i64 x.Guest_.S)), (.d (i64 x.Guest_.V)), (.d (i64 x.Guest_.Len)), (.d (i64 x.Guest_.End)), (.d (i64 x.Guest_.Ahead)), (.d (i64 x.Guest_.Guess_.R)), (.d (i64 x.Guest_.Guess_.V)), (.d (i64 x.Guest_.From)), (.d (i64 x.Guest_.Until))]
abbrev dMate : Mate → List AV := fun x => [(.d (i64 x.ID)), (.d (i64 x.S)), (.d (i64 x.V)), (.d (i64 x.Len)), (.d (i64 x.Ahead)), (.d (i64 x.Guess_.R)), (.d (i64 x.Guess_.V)), (.d (bo x.Trust)), (.d (i64 x.Ward)), (.d (i64 x.WardGuess.R)), (.d (i64 x.WardGuess.V)), (.d (i64 x.Until))]
abbrev eGuest : Guest → List D := fun x => [(i64 x.ID), (i64 x.S), (i64 x.V), (i64 x.Len), (i64 x.End), (i64 x.Ahead), (i64 x.Guess_.R), (i64 x.Guess_.V), (i64 x.From), (i64 x.Until)]
abbrev dGuest : Guest → List AV := fun x => [(.d (i64 x.ID)), (.d (i64 x.S)), (.d (i64 x.V)), (.d (i64 x.Len)), (.d (i64 x.End)), (.d (i64 x.Ahead)), (.d (i64 x.Guess_.R)), (.d (i64 x.Guess_.V)), (.d (i64 x.From)), (.d (i64 x.Until))]
abbrev dConvoyLetter : ConvoyLetter → List AV := fun x => [(.d (i64 x.Note_.Kind)), (.d (i64 x.Note_.From)), (.d (i64 x.Note_.To)), (.d (i64 x.Note_.Stamp)), (.d (i64 x.Note_.R)), (.d (i64 x.Note_.V)), (.d (i64 x.Note_.Until)), (.d (i64 x.guess.R)), (.d (i64 x.guess.V))]
abbrev dNote : Note → List AV := fun x => [(.d (i64 x.Kind)), (.d (i64 x.From)), (.d (i64 x.To)), (.d (i64 x.Stamp)), (.d (i64 x.R)), (.d (i64 x.V)), (.d (i64 x.Until))]
abbrev dSight : Sight → List AV := fun x => [(.d (i64 x.By)), (.d (i64 x.Lo)), (.d (i64 x.Hi)), (.d (i64 x.VLo)), (.d (i64 x.VHi))]


noncomputable def kit_NewRing_m (p1 : (List Int)) : Option KitRing :=
  some (KitRing.mk p1 0)

/-- kerbstone/kerbstonekit.NewRing -/
def ac_kit_NewRing_m : AC := (.seq (.reg [oo 2 (.mv (.c (.v (.pointer none))))]) (.seq (.reg [oo 3 (.mv (.t 0)), oo 4 (.build [.nilS, z0] [(0, 1, (.t 3))]), oo 5 (.box 94 true (.t 4)), oo 2 (.mv (.t 5))]) .ret))
theorem fn_kit_NewRing_m : FnOK Try.prog 30 6 [.t 2] ac_kit_NewRing_m := ⟨_, _, Try.func30, rfl, Try.ntmps30, by kernel_rfl, ⟨fun _ => [], by kernel_rfl⟩, by kernel_rfl⟩
theorem kit_NewRing_m_ok (p1 : (List Int)) (r : KitRing) (h : kit_NewRing_m p1 = some r) : MCall Try.prog 30 [(dl eInt_i64 p1)] [] (.ptr (800000, 0) 0) [] [some (.box 94 [(dl eInt_i64 r.l), (di r.at_)])] := by
  refine m_callT fn_kit_NewRing_m rfl (nl rfl) ?_
  unfold kit_NewRing_m at h
  unfold ac_kit_NewRing_m
  refine l_sub (s0 := ⟨T [(0, (.d _))], G []⟩) (sbr rfl rfl) ?_
  refine lr (fun u1 hu1 => sv rfl (s_nil (lr (fun u2 hu2 => sv rfl (sv rfl (sn rfl rfl (sp rfl rfl (s_nil (l_ret ?_)))))))))
  obtain rfl := Option.some.inj h
  exact fin_m (v1 := (.ptr (5, u2) 0)) (.inr rfl) (resA1 (res_t rfl)) (.of rfl) [((5, u2), some (.box 94 [(dl eInt_i64 p1), (di 0)]))] (sbG_some G_hit (.of rfl) trivial) (mpost_o [(5, u2)] rfl trivial ⟨G_hit, trivial⟩ rfl (List.forall_mem_cons.2 ⟨fun i hi => old_far rfl hi, (fun _ h => nomatch h)⟩) nd1)

noncomputable def kit_Mod (p1 : Int) (p2 : Int) : Option Int :=
  (remc p1 p2).bind fun v1 => cond (decide (v1 < 0)) (some (w64 (v1 + p2))) (some v1)

/-- kerbstone/kerbstonekit.Mod -/
def ac_kit_Mod : AC := (.seq (.reg [oo 4 (.mv (ci 0))]) (.seq (.reg [oo 5 (.mv (.t 0)), oo 6 (.mv (.t 1)), oo 7 (.bin .rem (.t 5) (.t 6)), oo 0 (.mv (.t 7))]) (.seq (.seq (.reg [oo 8 (.mv (.t 0)), oo 9 (.bin .lss (.t 8) (ci 0))]) (.cond (.t 9) (.reg [oo 10 (.mv (.t 0)), oo 11 (.mv (.t 1)), oo 12 (.bin .add (.t 10) (.t 11)), oo 0 (.mv (.t 12))]) .skip)) (.seq (.reg [oo 13 (.mv (.t 0)), oo 4 (.mv (.t 13))]) .ret))))
theorem fn_kit_Mod : FnOK Try.prog 26 14 [.t 4] ac_kit_Mod := ⟨_, _, Try.func26, rfl, Try.ntmps26, by kernel_rfl, ⟨fun _ => [], by kernel_rfl⟩, by kernel_rfl⟩
theorem kit_Mod_ok (p1 : Int) (p2 : Int) (r : Int) (h : kit_Mod p1 p2 = some r) : PCall Try.prog 26 [(i64 p1), (i64 p2)] (i64 r) := by
  refine l_call fn_kit_Mod (nl rfl) ?_
  unfold kit_Mod at h
  unfold ac_kit_Mod
  refine l_sub (s0 := ⟨T [(0, (.d _)), (1, (.d _))], G []⟩) (sbr rfl rfl) ?_
  refine lr (fun u1 hu1 => sv rfl (s_nil (lr (fun u2 hu2 => sv rfl (sv rfl (bs h fun v1 hv1 h => sd rfl (v_rem rfl rfl hv1) (sv rfl (s_nil (l_seq (lr (fun u3 hu3 => sv rfl (sv rfl (s_nil (cc rfl h (fun c1 h => ?_) (fun c1 h => ?_)))))))))))))))
  · refine l_reg fun u4 hu4 => sv rfl (sv rfl (sv rfl (sv rfl (s_nil (lr (fun u5 hu5 => sv rfl (sv rfl (s_nil (l_ret ?_)))))))))
    obtain rfl := Option.some.inj h
    exact fin_ok (.inr rfl) (resD1 (res_t rfl) rf_d) (.refl _)
  · refine l_skip (lr (fun u6 hu6 => sv rfl (sv rfl (s_nil (l_ret ?_)))))
    obtain rfl := Option.some.inj h
    exact fin_ok (.inr rfl) (resD1 (res_t rfl) rf_d) (.refl _)

noncomputable def kit_Ring_Next_o (p1 : KitRing) (p2 : Int) : Option (Int × KitRing) :=
  cond (decide ((p1.l.length : Int) > 0)) ((remc (w64 (p1.at_ + 1)) (p1.l.length : Int)).bind fun v1 => (geti p1.l v1).bind fun v2 => (kit_Mod v2 1048576).bind fun v3 => (quoc .i64 (w64 (p1.at_ + 1)) (p1.l.length : Int)).bind fun v4 => (quoc .i64 v3 (w64 (1 + v4))).bind fun v5 => (remc (w64 (((w64 ((w64 (p1.at_ + 1)) * 7919)).tmod 10007) + v5)) p2).bind fun v6 => some (v6, (KitRing.mk p1.l (w64 (p1.at_ + 1))))) ((remc ((w64 ((w64 (p1.at_ + 1)) * 7919)).tmod 10007) p2).bind fun v7 => some (v7, (KitRing.mk p1.l (w64 (p1.at_ + 1)))))

/-- (*kerbstone/kerbstonekit.Ring).Next -/
def ac_kit_Ring_Next_o : AC := (.seq (.reg [oo 4 (.mv (ci 0))]) (.seq (.reg [oo 6 (.mv (.t 0)), oo 7 (.nilck (.t 6)), oo 8 (.fieldA 1 (.t 7)), oo 9 (.load 1 false (.t 8)), oo 10 (.bin .add (.t 9) (ci 1)), oo 11 (.nilck (.t 6)), oo 12 (.fieldA 1 (.t 11)), oe (.store 1 (.t 12) (.t 10))]) (.seq (.reg [oo 13 (.mv (.t 0)), oo 14 (.nilck (.t 13)), oo 15 (.fieldA 1 (.t 14)), oo 16 (.load 1 false (.t 15)), oo 17 (.bin .mul (.t 16) (ci 7919)), oo 18 (.bin .rem (.t 17) (ci 10007)), oo 5 (.mv (.t 18))]) (.seq (.seq (.reg [oo 19 (.mv (.t 0)), oo 20 (.nilck (.t 19)), oo 21 (.fieldA 0 (.t 20)), oo 22 (.load 1 false (.t 21)), oo 23 (.len (.t 22)), oo 24 (.bin .gtr (.t 23) (ci 0))]) (.cond (.t 24) (.draw [oo 25 (.mv (.t 5)), oo 26 (.mv (.t 0)), oo 27 (.nilck (.t 26)), oo 28 (.fieldA 0 (.t 27)), oo 29 (.load 1 false (.t 28)), oo 30 (.mv (.t 0)), oo 31 (.nilck (.t 30)), oo 32 (.fieldA 1 (.t 31)), oo 33 (.load 1 false (.t 32)), oo 34 (.mv (.t 0)), oo 35 (.nilck (.t 34)), oo 36 (.fieldA 0 (.t 35)), oo 37 (.load 1 false (.t 36)), oo 38 (.len (.t 37)), oo 39 (.bin .rem (.t 33) (.t 38)), oo 40 (.idxS 1 (.t 29) (.t 39)), oo 41 (.load 1 false (.t 40)), oo 42 (.call (cf 26) [(.t 41), (ci 1048576)]), oo 43 (.mv (.t 0)), oo 44 (.nilck (.t 43)), oo 45 (.fieldA 1 (.t 44)), oo 46 (.load 1 false (.t 45)), oo 47 (.mv (.t 0)), oo 48 (.nilck (.t 47)), oo 49 (.fieldA 0 (.t 48)), oo 50 (.load 1 false (.t 49)), oo 51 (.len (.t 50)), oo 52 (.bin .quo (.t 46) (.t 51)), oo 53 (.bin .add (ci 1) (.t 52)), oo 54 (.bin .quo (.t 42) (.t 53)), oo 55 (.bin .add (.t 25) (.t 54)), oo 5 (.mv (.t 55))] []) .skip)) (.seq (.reg [oo 56 (.mv (.t 5)), oo 57 (.mv (.t 1)), oo 58 (.bin .rem (.t 56) (.t 57)), oo 4 (.mv (.t 58))]) .ret)))))
theorem fn_kit_Ring_Next_o : FnOK Try.prog 49 59 [.t 4] ac_kit_Ring_Next_o := ⟨_, _, Try.func49, rfl, Try.ntmps49, by kernel_rfl, ⟨fun _ => [], by kernel_rfl⟩, by kernel_rfl⟩
set_option maxHeartbeats 4000000 in
theorem kit_Ring_Next_o_ok (p1 : KitRing) (p2 : Int) (r : (Int × KitRing)) (h : kit_Ring_Next_o p1 p2 = some r) : MCall Try.prog 49 [(.ptr (900000, 0) 0), (di p2)] [(.box 94 [(dl eInt_i64 p1.l), (di p1.at_)])] (di r.1) [some (.box 94 [(dl eInt_i64 r.2.l), (di r.2.at_)])] [] := by
  refine m_callF fn_kit_Ring_Next_o rfl (nl rfl) ?_
  unfold kit_Ring_Next_o at h
  unfold ac_kit_Ring_Next_o
  refine l_sub (s0 := ⟨T [(0, (.ptr _ _)), (1, (.d _))], G [((900000, 0), some (.box 94 _))]⟩) (sbr rfl rfl) ?_
  refine lr (fun u1 hu1 => sv rfl (s_nil (lr (fun u2 hu2 => sp rfl rfl (sp rfl rfl (sp rfl rfl (sl rfl G_hit rfl (sv rfl (sp rfl rfl (sp rfl rfl (sst rfl G_hit [(dl eInt_i64 p1.l), (di (w64 (p1.at_ + 1)))] rfl (s_nil (lr (fun u3 hu3 => sp rfl rfl (sp rfl rfl (sp rfl rfl (sl rfl G_hit rfl (sv rfl (sv rfl (sv rfl (s_nil (l_seq (lr (fun u4 hu4 => sp rfl rfl (sp rfl rfl (sp rfl rfl (sl rfl G_hit rfl (sd rfl (v_len rfl) (sv rfl (s_nil (cc rfl h (fun c1 h => ?_) (fun c1 h => ?_))))))))))))))))))))))))))))))))
  · refine l_sub (s0 := ⟨T [(0, (.ptr _ _)), (1, (.d _)), (5, (.d _))], G [((900000, 0), some (.box 94 _))]⟩) (sbr rfl rfl) ?_
    refine l_draw rfl fun u5 hu5 => sv rfl (sp rfl rfl (sp rfl rfl (sp rfl rfl (sl rfl G_hit rfl (sp rfl rfl (sp rfl rfl (sp rfl rfl (sl rfl G_hit rfl (sp rfl rfl (sp rfl rfl (sp rfl rfl (sl rfl G_hit rfl (sd rfl (v_len rfl) (bs h fun v1 hv1 h => sd rfl (v_rem rfl rfl hv1) (bs h fun v2 hv2 h => sd rfl (v_idx rfl rfl hv2 rfl) (sd rfl (v_loadL rfl hv2 rfl) (bs h fun v3 hv3 h => s_call rfl rfl all2_refl (kit_Mod_ok _ _  _ hv3) (.inl rfl) (sp rfl rfl (sp rfl rfl (sp rfl rfl (sl rfl G_hit rfl (sp rfl rfl (sp rfl rfl (sp rfl rfl (sl rfl G_hit rfl (sd rfl (v_len rfl) (bs h fun v4 hv4 h => sd rfl (v_quo rfl rfl hv4) (sv rfl (bs h fun v5 hv5 h => sd rfl (v_quo rfl rfl hv5) (sv rfl (sv rfl (s_nil (l_seq (l_sub (s0 := ⟨T [(0, (.ptr _ _)), (1, (.d _)), (5, (.d _))], G [((900000, 0), some (.box 94 _))]⟩) (sbr rfl rfl) ?_))))))))))))))))))))))))))))))))))
    refine l_reg fun u6 hu6 => sv rfl (sv rfl (bs h fun v6 hv6 h => sd rfl (v_rem rfl rfl hv6) (sv rfl (s_nil (l_ret ?_)))))
    obtain rfl := Option.some.inj h
    exact fin_mf (.inr rfl) [] (resDF1 (res_t rfl) rf_d) (.refl _) ⟨⟨_, _, _, G_hit, old_notin_nil, rfl, all2_d, rfl⟩, trivial⟩
  · refine l_skip (l_seq (l_sub (s0 := ⟨T [(0, (.ptr _ _)), (1, (.d _)), (5, (.d _))], G [((900000, 0), some (.box 94 _))]⟩) (sbr rfl rfl) ?_))
    refine l_reg fun u7 hu7 => sv rfl (sv rfl (bs h fun v7 hv7 h => sd rfl (v_rem rfl rfl hv7) (sv rfl (s_nil (l_ret ?_)))))
    obtain rfl := Option.some.inj h
    exact fin_mf (.inr rfl) [] (resDF1 (res_t rfl) rf_d) (.refl _) ⟨⟨_, _, _, G_hit, old_notin_nil, rfl, all2_d, rfl⟩, trivial⟩

noncomputable def ref09_sane_l1 (p1 : (List Int)) (x1 : Int) : Option (Stp Int (Sum Unit Bool)) :=
  cond (decide (x1 < (p1.length : Int))) ((geti p1 x1).bind fun v1 => ((cond (!(decide (v1 < (-4398046511104)))) (geti p1 x1) (some default))).bind fun v2 => cond ((decide (v1 < (-4398046511104))) || (decide (v2 > 4398046511104))) (some (.out (.inr false))) (some (.go (w64 (x1 + 1))))) (some (.out (.inl ())))
noncomputable def ref09_sane (p1 : (List Int)) : Option Bool :=
  thenS (loop (ref09_sane_l1 p1) 0) (fun _ => some true) (fun r => some r)

/-- kerbstone/kerbstoneref09.sane -/
def ac_ref09_sane : AC := (.seq (.reg [oo 2 (.mv (.c zf))]) (.seq (.seq (.reg [oo 3 (.mv (ci 0))]) (.block 0 (.loop (.seq (.seq (.reg [oo 4 (.mv (.t 3)), oo 5 (.mv (.t 0)), oo 6 (.len (.t 5)), oo 7 (.bin .lss (.t 4) (.t 6))]) (.cond (.t 7) .skip (.exit 0))) (.seq (.block 1 (.seq (.reg [oo 10 (.mv (.t 0)), oo 11 (.mv (.t 3)), oo 12 (.idxS 1 (.t 10) (.t 11)), oo 13 (.load 1 false (.t 12)), oo 14 (.bin .lss (.t 13) (ci (-4398046511104))), oo 15 (.mv (.t 14)), oh 16 (.mv (.t 0)) 15, oh 17 (.mv (.t 3)) 15, oh 18 (.idxS 1 (.t 16) (.t 17)) 15, oh 19 (.load 1 false (.t 18)) 15, oh 20 (.bin .gtr (.t 19) (ci 4398046511104)) 15, oo 21 (.pick (.t 15) (.c (.v (.bool true))) (.t 20))]) (.cond (.t 21) (.seq (.reg [oo 2 (.mv (.c zf))]) .ret) .skip))) (.reg [oo 8 (.mv (.t 3)), oo 9 (.bin .add (.t 8) (ci 1)), oo 3 (.mv (.t 9))])))))) (.seq (.reg [oo 2 (.mv (.c (.v (.bool true))))]) .ret)))
theorem fn_ref09_sane : FnOK Try.prog 60 22 [.t 2] ac_ref09_sane := ⟨_, _, Try.func60, rfl, Try.ntmps60, by kernel_rfl, ⟨fun _ => [], by kernel_rfl⟩, by kernel_rfl⟩
set_option maxHeartbeats 4000000 in
theorem ref09_sane_ok (p1 : (List Int)) (r : Bool) (h : ref09_sane p1 = some r) : PCall Try.prog 60 [(.list (List.map eInt_i64 p1))] (bo r) := by
  refine l_call fn_ref09_sane (nl rfl) ?_
  unfold ref09_sane at h
  unfold ac_ref09_sane
  refine l_sub (s0 := ⟨T [(0, (.d _))], G []⟩) (sbr rfl rfl) ?_
  refine lr (fun u1 hu1 => sv rfl (s_nil (l_seq (lr (fun u2 hu2 => sv rfl (s_nil (js h fun z1 hz1 h => l_join (fun s => ∃ (y1 : Unit) (g1 : Unit), z1 = .inl y1 ∧ Sb ⟨T [], G []⟩ s) ?_ ?_)))))))
  · refine l_block (l_loop (ref09_sane_l1 p1) (fun (x1 : Int) (g2 : Unit) => ⟨T [(0, (dl eInt_i64 p1)), (3, (di x1))], G []⟩) 0 () _ hz1 (sbr rfl rfl) ?_)
    intro x1 g2 z2 hz2 ez2
    unfold ref09_sane_l1 at hz2
    refine l_seq (lr (fun u3 hu3 => sv rfl (sv rfl (sd rfl (v_len rfl) (sv rfl (s_nil (cc rfl hz2 (fun c1 hz2 => ?_) (fun c1 hz2 => ?_))))))))
    · refine l_skip (l_seq (l_block (lr (fun u4 hu4 => sv rfl (sv rfl (bs hz2 fun v1 hv1 hz2 => sd rfl (v_idx rfl rfl hv1 rfl) (sd rfl (v_loadL rfl hv1 rfl) (sv rfl (sv rfl (gf rfl (fun _ => rfl) (gf rfl (fun _ => rfl) (bs hz2 fun v2 hv2 hz2 => gf rfl (fun w3 => (v_idx (gd_pos w3) (gd_pos w3) (cond_t w3 hv2) rfl)) (gf rfl (fun w4 => (v_loadL (gd_pos w4) (cond_t w4 hv2) rfl)) (gf rfl (vb rfl rfl rfl) (sd rfl (v_or rfl rfl (fun hc => gd_pos (not_t hc))) (s_nil (cc rfl hz2 (fun c2 hz2 => ?_) (fun c2 hz2 => ?_))))))))))))))))))
      · refine lr (fun u5 hu5 => sv rfl (s_nil (l_ret ?_)))
        obtain rfl := Option.some.inj hz2
        obtain rfl := ez2 _ rfl
        refine ⟨nofun, awl_ret ?_⟩
        rw [Sum.elim_inr] at h
        obtain rfl := Option.some.inj h
        exact fin_ok (.inr rfl) (resD1 (res_t rfl) rf_d) (.refl _)
      · refine l_skip (l_end (l_reg fun u6 hu6 => sv rfl (sv rfl (sv rfl (s_nil (l_nil ?_))))))
        obtain rfl := Option.some.inj hz2
        exact ⟨rfl, (), (sbr rfl rfl)⟩
    · refine l_exitN rfl ?_
      obtain rfl := Option.some.inj hz2
      obtain rfl := ez2 _ rfl
      refine ⟨nofun, awl_pop rfl (l_j ?_)⟩
      exact ⟨_, (), rfl, (sbr rfl rfl)⟩
  · rintro _ ⟨y1, g1, rfl, q1⟩
    rw [Sum.elim_inl] at h
    refine l_sub q1 (lr (fun u7 hu7 => sv rfl (s_nil (l_ret ?_))))
    obtain rfl := Option.some.inj h
    exact fin_ok (.inr rfl) (resD1 (res_t rfl) rf_d) (.refl _)

noncomputable def ref04_Stop_l1 (p2 : Int) (x1 : (Int × Int)) : Option (Stp (Int × Int) Int) :=
  cond (decide (x1.1 > (mm2 false p2 1000000))) (some (.go ((w64 (x1.1 - (mm2 false p2 1000000))), (w64 (x1.2 + (w64 (x1.1 - (mm2 false p2 1000000)))))))) (some (.out x1.2))
noncomputable def ref04_Stop (p1 : Int) (p2 : Int) : Option Int :=
  cond ((decide ((mm2 false p1 1000000) < 1)) || (decide ((mm2 false p2 1000000) < 1))) (some 0) ((loop (ref04_Stop_l1 p2) ((mm2 false p1 1000000), 0)).bind fun y1 => some y1)

/-- kerbstone/kerbstoneref04.Stop -/
def ac_ref04_Stop : AC := (.seq (.reg [oo 4 (.mv (ci 0))]) (.seq (.reg [oo 6 (.mv (.t 0)), oo 7 (.mm false (.t 6) [(ci 1000000)]), oo 8 (.mv (.t 1)), oo 9 (.mm false (.t 8) [(ci 1000000)]), oo 0 (.mv (.t 7)), oo 1 (.mv (.t 9))]) (.seq (.reg [oo 5 (.mv (ci 0))]) (.seq (.seq (.reg [oo 10 (.mv (.t 0)), oo 11 (.bin .lss (.t 10) (ci 1)), oo 12 (.mv (.t 11)), oh 13 (.mv (.t 1)) 12, oh 14 (.bin .lss (.t 13) (ci 1)) 12, oo 15 (.pick (.t 12) (.c (.v (.bool true))) (.t 14))]) (.cond (.t 15) (.seq (.reg [oo 4 (.mv (ci 0))]) .ret) .skip)) (.seq (.block 0 (.loop (.seq (.seq (.reg [oo 16 (.mv (.t 0)), oo 17 (.mv (.t 1)), oo 18 (.bin .gtr (.t 16) (.t 17))]) (.cond (.t 18) .skip (.exit 0))) (.block 1 (.seq (.reg [oo 19 (.mv (.t 0)), oo 20 (.mv (.t 1)), oo 21 (.bin .sub (.t 19) (.t 20)), oo 0 (.mv (.t 21))]) (.reg [oo 22 (.mv (.t 5)), oo 23 (.mv (.t 0)), oo 24 (.bin .add (.t 22) (.t 23)), oo 5 (.mv (.t 24))])))))) (.seq (.reg [oo 25 (.mv (.t 5)), oo 4 (.mv (.t 25))]) .ret))))))
theorem fn_ref04_Stop : FnOK Try.prog 97 26 [.t 4] ac_ref04_Stop := ⟨_, _, Try.func97, rfl, Try.ntmps97, by kernel_rfl, ⟨fun _ => [], by kernel_rfl⟩, by kernel_rfl⟩
set_option maxHeartbeats 4000000 in
theorem ref04_Stop_ok (p1 : Int) (p2 : Int) (r : Int) (h : ref04_Stop p1 p2 = some r) : PCall Try.prog 97 [(i64 p1), (i64 p2)] (i64 r) := by
  refine l_call fn_ref04_Stop (nl rfl) ?_
  unfold ref04_Stop at h
  unfold ac_ref04_Stop
  refine l_sub (s0 := ⟨T [(0, (.d _)), (1, (.d _))], G []⟩) (sbr rfl rfl) ?_
  refine lr (fun u1 hu1 => sv rfl (s_nil (lr (fun u2 hu2 => sv rfl (sv rfl (sv rfl (sv rfl (sv rfl (sv rfl (s_nil (lr (fun u3 hu3 => sv rfl (s_nil (l_seq (lr (fun u4 hu4 => sv rfl (sv rfl (sv rfl (gf rfl (fun _ => rfl) (gf rfl (vb rfl rfl rfl) (sd rfl (v_or rfl rfl (fun hc => gd_pos (not_t hc))) (s_nil (cc rfl h (fun c1 h => ?_) (fun c1 h => ?_))))))))))))))))))))))))
  · refine lr (fun u5 hu5 => sv rfl (s_nil (l_ret ?_)))
    obtain rfl := Option.some.inj h
    exact fin_ok (.inr rfl) (resD1 (res_t rfl) rf_d) (.refl _)
  · refine l_skip (l_seq (bs h fun y1 hy1 h => l_join (fun s => ∃ g1 : Unit, Sb ⟨T [(5, (di y1))], G []⟩ s) ?_ ?_))
    · refine l_block (l_loop (ref04_Stop_l1 p2) (fun (x1 : (Int × Int)) (g2 : Unit) => ⟨T [(0, (di x1.1)), (1, (di (mm2 false p2 1000000))), (5, (di x1.2))], G []⟩) ((mm2 false p1 1000000), 0) () _ hy1 (sbr rfl rfl) ?_)
      intro x1 g2 z1 hz1 ez1
      unfold ref04_Stop_l1 at hz1
      refine l_seq (lr (fun u6 hu6 => sv rfl (sv rfl (sv rfl (s_nil (cc rfl hz1 (fun c2 hz1 => ?_) (fun c2 hz1 => ?_)))))))
      · refine l_skip (l_block (lr (fun u7 hu7 => sv rfl (sv rfl (sv rfl (sv rfl (s_nil (l_reg fun u8 hu8 => sv rfl (sv rfl (sv rfl (sv rfl (s_nil (l_end (l_nil ?_))))))))))))))
        obtain rfl := Option.some.inj hz1
        exact ⟨rfl, (), (sbr rfl rfl)⟩
      · refine l_exitN rfl ?_
        obtain rfl := Option.some.inj hz1
        obtain rfl := ez1 _ rfl
        refine ⟨nofun, awl_pop rfl (l_j ?_)⟩
        exact ⟨(), (sbr rfl rfl)⟩
    · rintro _ ⟨g1, q1⟩
      refine l_sub q1 (lr (fun u9 hu9 => sv rfl (sv rfl (s_nil (l_ret ?_)))))
      obtain rfl := Option.some.inj h
      exact fin_ok (.inr rfl) (resD1 (res_t rfl) rf_d) (.refl _)

noncomputable def ref09_stop (p1 : Int) : Option Int :=
  (ref04_Stop p1 90).bind fun v1 => some v1

/-- kerbstone/kerbstoneref09.stop -/
def ac_ref09_stop : AC := (.seq (.reg [oo 2 (.mv (ci 0))]) (.seq (.reg [oo 3 (.mv (.t 0)), oo 4 (.call (cf 97) [(.t 3), (ci 90)]), oo 2 (.mv (.t 4))]) .ret))
theorem fn_ref09_stop : FnOK Try.prog 63 5 [.t 2] ac_ref09_stop := ⟨_, _, Try.func63, rfl, Try.ntmps63, by kernel_rfl, ⟨fun _ => [], by kernel_rfl⟩, by kernel_rfl⟩
theorem ref09_stop_ok (p1 : Int) (r : Int) (h : ref09_stop p1 = some r) : PCall Try.prog 63 [(i64 p1)] (i64 r) := by
  refine l_call fn_ref09_stop (nl rfl) ?_
  unfold ref09_stop at h
  unfold ac_ref09_stop
  refine l_sub (s0 := ⟨T [(0, (.d _))], G []⟩) (sbr rfl rfl) ?_
  refine lr (fun u1 hu1 => sv rfl (s_nil (lr (fun u2 hu2 => sv rfl (bs h fun v1 hv1 h => s_call rfl rfl all2_refl (ref04_Stop_ok _ _  _ hv1) (.inl rfl) (sv rfl (s_nil (l_ret ?_))))))))
  obtain rfl := Option.some.inj h
  exact fin_ok (.inr rfl) (resD1 (res_t rfl) rf_d) (.refl _)

noncomputable def ref09_Safe (p1 : Int) (p2 : Int) (p3 : Int) (p4 : Guess) : Option Bool :=
  (ref09_sane [p1, p2, p3, p4.R, p4.V]).bind fun v1 => ((cond (v1 && (decide (p1 ≤ (w64 (p4.R - p3))))) (ref09_stop p2) (some default))).bind fun v2 => ((cond (v1 && (decide (p1 ≤ (w64 (p4.R - p3))))) (ref09_stop p4.V) (some default))).bind fun v3 => some ((v1 && (decide (p1 ≤ (w64 (p4.R - p3))))) && (decide ((w64 (p1 + v2)) ≤ (w64 ((w64 (p4.R + v3)) - p3)))))

/-- kerbstone/kerbstoneref09.Safe -/
def ac_ref09_Safe : AC := (.seq (.reg [oo 7 (.box 23 true (.t 3)), oo 8 (.mv (.c zf))]) (.seq (.draw [oo 9 (.mv (.t 0)), oo 10 (.mv (.t 1)), oo 11 (.mv (.t 2)), oo 12 (.fieldA 0 (.t 7)), oo 13 (.load 1 false (.t 12)), oo 14 (.fieldA 1 (.t 7)), oo 15 (.load 1 false (.t 14)), oo 16 (.dslice 2 1 5 [z0] [(0, 1, (.t 9)), (1, 1, (.t 10)), (2, 1, (.t 11)), (3, 1, (.t 13)), (4, 1, (.t 15))]), oo 17 (.call (cf 60) [(.t 16)]), oo 18 (.mv (.t 17)), og 19 (.mv (.t 0)) 18, og 20 (.fieldA 0 (.t 7)) 18, og 21 (.load 1 false (.t 20)) 18, og 22 (.mv (.t 2)) 18, og 23 (.bin .sub (.t 21) (.t 22)) 18, og 24 (.bin .leq (.t 19) (.t 23)) 18, oo 25 (.pick (.t 18) (.t 24) (.c zf)), oo 26 (.mv (.t 25)), og 27 (.mv (.t 0)) 26, og 28 (.mv (.t 1)) 26, og 29 (.call (cf 63) [(.t 28)]) 26, og 30 (.bin .add (.t 27) (.t 29)) 26, og 31 (.fieldA 0 (.t 7)) 26, og 32 (.load 1 false (.t 31)) 26, og 33 (.fieldA 1 (.t 7)) 26, og 34 (.load 1 false (.t 33)) 26, og 35 (.call (cf 63) [(.t 34)]) 26, og 36 (.bin .add (.t 32) (.t 35)) 26, og 37 (.mv (.t 2)) 26, og 38 (.bin .sub (.t 36) (.t 37)) 26, og 39 (.bin .leq (.t 30) (.t 38)) 26, oo 40 (.pick (.t 26) (.t 39) (.c zf)), oo 8 (.mv (.t 40))] []) .ret))
theorem fn_ref09_Safe : FnOK Try.prog 22 41 [.t 8] ac_ref09_Safe := ⟨_, _, Try.func22, rfl, Try.ntmps22, by kernel_rfl, ⟨fun r => if r == 1 then [1007] else [], by kernel_rfl⟩, by kernel_rfl⟩
theorem ref09_Safe_ok (p1 : Int) (p2 : Int) (p3 : Int) (p4 : Guess) (r : Bool) (h : ref09_Safe p1 p2 p3 p4 = some r) : PCall Try.prog 22 [(i64 p1), (i64 p2), (i64 p3), (.agg [(i64 p4.R), (i64 p4.V)])] (bo r) := by
  refine l_call fn_ref09_Safe (nl rfl) ?_
  unfold ref09_Safe at h
  unfold ac_ref09_Safe
  refine l_sub (s0 := ⟨T [(0, (.d _)), (1, (.d _)), (2, (.d _)), (3, (.d _))], G []⟩) (sbr rfl rfl) ?_
  refine lr (fun u1 hu1 => sn rfl rfl (sv rfl (s_nil (l_seq (l_draw rfl fun u2 hu2 => sv rfl (sv rfl (sv rfl (sp rfl rfl (sl rfl G_hit rfl (sp rfl rfl (sl rfl G_hit rfl (s_val (dl eInt_i64 [p1, p2, p3, p4.R, p4.V]) rfl rfl (bs h fun v1 hv1 h => s_call rfl rfl all2_refl (ref09_sane_ok _  _ hv1) (.inl rfl) (sv rfl (gt rfl (fun _ => rfl) (gp rfl (gw_t rfl) (fun _ => rfl) (gt rfl (vl rfl G_hit rfl) (gt rfl (fun _ => rfl) (gt rfl (fun w5 => (v_bin (gd_pos w5) (gd_pos w5) rfl)) (gt rfl (fun w6 => (v_bin (gd_pos w6) (gd_pos w6) rfl)) (sa rfl rfl rfl (sv rfl (gt rfl (fun _ => rfl) (gt rfl (fun _ => rfl) (bs h fun v2 hv2 h => ?_)))))))))))))))))))))))))
  refine g_call _ (i64 v2) (gw_t rfl) (fun w9 => ⟨_, [(di p2)], _, _, (by simp only [gd_pos w9]; rfl), rfl, all2_refl, ref09_stop_ok _  _ (cond_t w9 hv2), (.inl rfl)⟩) ?_
  refine gt rfl (fun w10 => (v_bin (gd_pos w10) (gd_pos w10) rfl)) (gp rfl (gw_t rfl) (fun _ => rfl) (gt rfl (vl rfl G_hit rfl) (gp rfl (gw_t rfl) (fun _ => rfl) (gt rfl (vl rfl G_hit rfl) (bs h fun v3 hv3 h => ?_)))))
  refine g_call _ (i64 v3) (gw_t rfl) (fun w15 => ⟨_, [(di p4.V)], _, _, (by simp only [gd_pos w15]; rfl), rfl, all2_refl, ref09_stop_ok _  _ (cond_t w15 hv3), (.inl rfl)⟩) ?_
  refine gt rfl (fun w16 => (v_bin (gd_pos w16) (gd_pos w16) rfl)) (gt rfl (fun _ => rfl) (gt rfl (fun w18 => (v_bin (gd_pos w18) (gd_pos w18) rfl)) (gt rfl (fun w19 => (v_bin (gd_pos w19) (gd_pos w19) rfl)) (sa rfl rfl rfl (sv rfl (s_nil (l_ret ?_)))))))
  obtain rfl := Option.some.inj h
  exact fin_ok (.inr rfl) (resD1 (res_t rfl) rf_d) (.refl _)

noncomputable def kit_Mates_o_l2 (p2 : Int) (v4 : Mate) (x2 : Mate) : Option (Stp Mate Mate) :=
  (ref09_Safe x2.S x2.V p2 (Guess.mk (w64 (v4.S - v4.Len)) v4.V)).bind fun v7 => cond (!v7) (some (.go (Mate.mk x2.ID (w64 (x2.S - 500)) x2.V x2.Len x2.Ahead x2.Guess_ x2.Trust x2.Ward x2.WardGuess x2.Until))) (some (.out x2))
noncomputable def kit_Mates_o_l1 (p2 : Int) (x1 : ((List Mate) × Int × KitRing)) : Option (Stp ((List Mate) × Int × KitRing) ((List Mate) × KitRing)) :=
  cond (decide (x1.2.1 > 0)) ((geti x1.1 (w64 ((x1.1.length : Int) - 1))).bind fun v4 => (kit_Ring_Next_o x1.2.2 2001).bind fun v5 => (kit_Ring_Next_o v5.2 6000).bind fun v6 => (loop (kit_Mates_o_l2 p2 v4) (Mate.mk 0 (w64 ((w64 (v4.S - v4.Len)) - p2)) v5.1 (w64 (300 + v6.1)) 0 (Guess.mk 0 0) false 0 (Guess.mk 0 0) 0)).bind fun y2 => (kit_Ring_Next_o v6.2 3).bind fun v8 => (kit_Ring_Next_o v8.2 9000).bind fun v9 => (appc x1.1 [(Mate.mk y2.ID (w64 (y2.S - (w64 (v8.1 * v9.1)))) y2.V y2.Len y2.Ahead y2.Guess_ y2.Trust y2.Ward y2.WardGuess y2.Until)]).bind fun v10 => some (.go (v10, (w64 (x1.2.1 - 1)), v9.2))) (some (.out (x1.1, x1.2.2)))
noncomputable def kit_Mates_o (p1 : KitRing) (p2 : Int) (p3 : Int) : Option ((List Mate) × KitRing) :=
  (kit_Ring_Next_o p1 2001).bind fun v1 => (kit_Ring_Next_o v1.2 6000).bind fun v2 => (kit_Ring_Next_o v2.2 p3).bind fun v3 => (loop (kit_Mates_o_l1 p2) ([(Mate.mk 0 16777216 v1.1 (w64 (300 + v2.1)) 0 (Guess.mk 0 0) false 0 (Guess.mk 0 0) 0)], v3.1, v3.2)).bind fun y1 => some (y1.1, y1.2)

/-- kerbstone/kerbstonekit.Mates -/
def ac_kit_Mates_o : AC := (.seq (.reg [oo 6 (.mv (.c .nilS))]) (.seq (.reg [oo 12 (.mv (.t 0)), oo 13 (.ocall 10010010 (cf 49) [(.t 12), (ci 2001)]), oo 14 (.mv (.t 0)), oo 15 (.ocall 10010030 (cf 49) [(.t 14), (ci 6000)]), oo 16 (.bin .add (ci 300) (.t 15)), oo 17 (.build [z0, z0, z0, z0, z0, z0, z0, zf, z0, z0, z0, z0] [(1, 1, (ci 16777216)), (2, 1, (.t 13)), (3, 1, (.t 16))]), oo 18 (.bslice 65 12 1 [z0, z0, z0, z0, z0, z0, z0, zf, z0, z0, z0, z0] [(0, 12, (.t 17))]), oo 7 (.mv (.t 18))]) (.seq (.seq (.reg [oo 19 (.mv (.t 0)), oo 20 (.mv (.t 2)), oo 21 (.ocall 10020020 (cf 49) [(.t 19), (.t 20)]), oo 8 (.mv (.t 21))]) (.block 0 (.loop (.seq (.seq (.reg [oo 22 (.mv (.t 8)), oo 23 (.bin .gtr (.t 22) (ci 0))]) (.cond (.t 23) .skip (.exit 0))) (.seq (.block 1 (.seq (.reg [oo 26 (.mv (.t 7)), oo 27 (.mv (.t 7)), oo 28 (.len (.t 27)), oo 29 (.bin .sub (.t 28) (ci 1)), oo 30 (.idxS 12 (.t 26) (.t 29)), oo 31 (.load 12 true (.t 30)), oo 9 (.alloc 65 [z0, z0, z0, z0, z0, z0, z0, zf, z0, z0, z0, z0]), oe (.store 12 (.t 9) (.t 31))]) (.seq (.reg [oo 32 (.fieldA 1 (.t 9)), oo 33 (.load 1 false (.t 32)), oo 34 (.fieldA 3 (.t 9)), oo 35 (.load 1 false (.t 34)), oo 36 (.bin .sub (.t 33) (.t 35)), oo 37 (.fieldA 2 (.t 9)), oo 38 (.load 1 false (.t 37)), oo 39 (.build [z0, z0] [(0, 1, (.t 36)), (1, 1, (.t 38))]), oo 10 (.alloc 23 [z0, z0]), oe (.store 2 (.t 10) (.t 39))]) (.seq (.draw [oo 40 (.fieldA 0 (.t 10)), oo 41 (.load 1 false (.t 40)), oo 42 (.mv (.t 1)), oo 43 (.bin .sub (.t 41) (.t 42)), oo 44 (.mv (.t 0)), oo 45 (.ocall 10070050 (cf 49) [(.t 44), (ci 2001)]), oo 46 (.mv (.t 0)), oo 47 (.ocall 10070070 (cf 49) [(.t 46), (ci 6000)]), oo 48 (.bin .add (ci 300) (.t 47)), oo 49 (.build [z0, z0, z0, z0, z0, z0, z0, zf, z0, z0, z0, z0] [(1, 1, (.t 43)), (2, 1, (.t 45)), (3, 1, (.t 48))]), oo 11 (.alloc 65 [z0, z0, z0, z0, z0, z0, z0, zf, z0, z0, z0, z0]), oe (.store 12 (.t 11) (.t 49))] [(1, 5), (1, 7), (5, 10), (7, 10)]) (.seq (.block 2 (.loop (.seq (.seq (.reg [oo 50 (.fieldA 1 (.t 11)), oo 51 (.load 1 false (.t 50)), oo 52 (.fieldA 2 (.t 11)), oo 53 (.load 1 false (.t 52)), oo 54 (.mv (.t 1)), oo 55 (.load 2 true (.t 10)), oo 56 (.call (cf 22) [(.t 51), (.t 53), (.t 54), (.t 55)]), oo 57 (.un .not (.t 56))]) (.cond (.t 57) .skip (.exit 2))) (.block 3 (.reg [oo 58 (.fieldA 1 (.t 11)), oo 59 (.load 1 false (.t 58)), oo 60 (.bin .sub (.t 59) (ci 500)), oo 61 (.fieldA 1 (.t 11)), oe (.store 1 (.t 61) (.t 60))]))))) (.seq (.draw [oo 62 (.fieldA 1 (.t 11)), oo 63 (.load 1 false (.t 62)), oo 64 (.mv (.t 0)), oo 65 (.ocall 10100030 (cf 49) [(.t 64), (ci 3)]), oo 66 (.mv (.t 0)), oo 67 (.ocall 10100050 (cf 49) [(.t 66), (ci 9000)]), oo 68 (.bin .mul (.t 65) (.t 67)), oo 69 (.bin .sub (.t 63) (.t 68)), oo 70 (.fieldA 1 (.t 11)), oe (.store 1 (.t 70) (.t 69))] [(1, 3), (1, 5)]) (.reg [oo 71 (.mv (.t 7)), oo 72 (.load 12 true (.t 11)), oo 73 (.dslice 65 12 1 [z0, z0, z0, z0, z0, z0, z0, zf, z0, z0, z0, z0] [(0, 12, (.t 72))]), oo 74 (.append 34 65 12 (.t 71) (.t 73)), oo 7 (.mv (.t 74))]))))))) (.reg [oo 24 (.mv (.t 8)), oo 25 (.bin .sub (.t 24) (ci 1)), oo 8 (.mv (.t 25))])))))) (.seq (.reg [oo 75 (.mv (.t 7)), oo 6 (.mv (.t 75))]) .ret))))
theorem fn_kit_Mates_o : FnOK Try.prog 72 76 [.t 6] ac_kit_Mates_o := ⟨_, _, Try.func72, rfl, Try.ntmps72, by kernel_rfl, ⟨fun r => if r == 1 then [1001001, 1001003] else if r == 2 then [1002002] else if r == 7 then [1007005, 1007007] else if r == 10 then [1010003, 1010005] else if r == 11 then [1002] else [], by kernel_rfl⟩, by kernel_rfl⟩
set_option maxHeartbeats 4000000 in
theorem kit_Mates_o_ok (p1 : KitRing) (p2 : Int) (p3 : Int) (r : ((List Mate) × KitRing)) (h : kit_Mates_o p1 p2 p3 = some r) : MCall Try.prog 72 [(.ptr (900000, 0) 0), (di p2), (di p3)] [(.box 94 [(dl eInt_i64 p1.l), (di p1.at_)])] (dl eMate r.1) [some (.box 94 [(dl eInt_i64 r.2.l), (di r.2.at_)])] [] := by
  refine m_callF fn_kit_Mates_o rfl (nl rfl) ?_
  unfold kit_Mates_o at h
  unfold ac_kit_Mates_o
  refine l_sub (s0 := ⟨T [(0, (.ptr _ _)), (1, (.d _)), (2, (.d _))], G [((900000, 0), some (.box 94 _))]⟩) (sbr rfl rfl) ?_
  refine lr (fun u1 hu1 => sv rfl (s_nil (lr (fun u2 hu2 => sp rfl rfl (bs h fun v1 hv1 h => s_oc (v := .d (i64 v1.1)) (us := [(900000, 0)]) (oc_m (kit_Ring_Next_o_ok _ _ _ hv1) [(900000, 0)] [(900000, 0)] _ (((900000, 0), some (.box 94 [(dl eInt_i64 v1.2.l), (di v1.2.at_)])) :: _) rfl all2_av (kl_cons (kr_ptr G_hit rfl) (kl_cons kr_d kl_nil)) (live_cons G_hit live_nil) ⟨⟨_, G_hit, .of rfl⟩, trivial⟩ (fun _ h => h) nd1 rfl rfl rfl) (sp rfl rfl (bs h fun v2 hv2 h => s_oc (v := .d (i64 v2.1)) (us := [(900000, 0)]) (oc_m (kit_Ring_Next_o_ok _ _ _ hv2) [(900000, 0)] [(900000, 0)] _ (((900000, 0), some (.box 94 [(dl eInt_i64 v2.2.l), (di v2.2.at_)])) :: _) rfl all2_av (kl_cons (kr_ptr G_hit rfl) (kl_cons kr_d kl_nil)) (live_cons G_hit live_nil) ⟨⟨_, G_hit, .of rfl⟩, trivial⟩ (fun _ h => h) nd1 rfl rfl rfl) (sv rfl (sv rfl (s_new (.sl _) (.arr 65 12 (List.map eMate ([(Mate.mk 0 16777216 v1.1 (w64 (300 + v2.1)) 0 (Guess.mk 0 0) false 0 (Guess.mk 0 0) 0)] : List Mate))) rfl (aval_bsliceN eMate _ (fun _ => rfl) rfl rfl ⟨rfl, rfl, rfl, trivial⟩) (ss rfl (s_nil (l_seq (lr (fun u3 hu3 => sp rfl rfl (sv rfl (bs h fun v3 hv3 h => s_oc (v := .d (i64 v3.1)) (us := [(900000, 0)]) (oc_m (kit_Ring_Next_o_ok _ _ _ hv3) [(900000, 0)] [(900000, 0)] _ (((900000, 0), some (.box 94 [(dl eInt_i64 v3.2.l), (di v3.2.at_)])) :: _) rfl all2_av (kl_cons (kr_ptr (G_skip rfl G_hit) rfl) (kl_cons kr_d kl_nil)) (live_cons (G_skip rfl G_hit) live_nil) ⟨⟨_, (G_skip rfl G_hit), .of rfl⟩, trivial⟩ (fun _ h => h) nd1 rfl rfl rfl) (sv rfl (s_nil (bs h fun y1 hy1 h => l_join (fun s => ∃ g1 : ({d : Nat // d ∈ [18, 74]} × Nat), Sb ⟨T [(0, (.ptr (900000, 0) 0)), (7, (oS y1.1 (g1.1.val, g1.2)))], G [((900000, 0), some (.box 94 [(dl eInt_i64 y1.2.l), (di y1.2.at_)])), ((g1.1.val, g1.2), oB 65 12 eMate y1.1)]⟩ s) ?_ ?_))))))))))))))))))))
  · refine l_block (l_loop (kit_Mates_o_l1 p2) (fun (x1 : ((List Mate) × Int × KitRing)) (g2 : ({d : Nat // d ∈ [18, 74]} × Nat)) => ⟨T [(0, (.ptr (900000, 0) 0)), (1, (di p2)), (7, (oS x1.1 (g2.1.val, g2.2))), (8, (di x1.2.1))], G [((900000, 0), some (.box 94 [(dl eInt_i64 x1.2.2.l), (di x1.2.2.at_)])), ((g2.1.val, g2.2), oB 65 12 eMate x1.1)]⟩) ([(Mate.mk 0 16777216 v1.1 (w64 (300 + v2.1)) 0 (Guess.mk 0 0) false 0 (Guess.mk 0 0) 0)], v3.1, v3.2) (⟨18, .head _⟩, u2) _ hy1 (sb_of ⟨.of rfl, .of rfl, (.of (oS_ne (List.cons_ne_nil _ _)).symm), .of rfl, trivial⟩ (sbG_some G_hit (.of rfl) (sbG_own (gq rfl) trivial))) ?_)
    intro x1 g2 z1 hz1 ez1
    unfold kit_Mates_o_l1 at hz1
    refine l_seq (lr (fun u4 hu4 => sv rfl (sv rfl (s_nil (cc rfl hz1 (fun c1 hz1 => ?_) (fun c1 hz1 => ?_))))))
    · refine l_skip (l_seq (l_block (lr (fun u5 hu5 => s_val (oS x1.1 (g2.1.val, g2.2)) rfl rfl (s_val (oS x1.1 (g2.1.val, g2.2)) rfl rfl (sd rfl (v_lenO (f := eMate) rfl (G_skip (neL g2.1.property rfl) G_hit)) (sv rfl (bs hz1 fun v4 hv4 hz1 => s_val (.aptr _ _ _ _) rfl (v_idxO rfl rfl (G_skip (neL g2.1.property rfl) G_hit) hv4) (sd rfl (v_loadAG rfl (look_oB (G_skip (neL g2.1.property rfl) G_hit) (geti_ne hv4)) hv4 rfl rfl) (sn rfl rfl (sst rfl G_hit (dMate v4) rfl (s_nil (lr (fun u6 hu6 => sp rfl rfl (sl rfl G_hit rfl (sp rfl rfl (sl rfl G_hit rfl (sv rfl (sp rfl rfl (sl rfl G_hit rfl (sv rfl (sn rfl rfl (sst rfl G_hit [(di (w64 (v4.S - v4.Len))), (di v4.V)] rfl (s_nil (l_seq (l_sub (s0 := ⟨T [(0, (.ptr (900000, 0) 0)), (1, (di p2)), (7, (oS x1.1 (g2.1.val, g2.2))), (8, (di x1.2.1)), (10, (.ptr (10, u6) 0))], G [((900000, 0), some (.box 94 [(dl eInt_i64 x1.2.2.l), (di x1.2.2.at_)])), ((g2.1.val, g2.2), oB 65 12 eMate x1.1), ((10, u6), some (.box 23 [(di (w64 (v4.S - v4.Len))), (di v4.V)]))]⟩) (sb_of ⟨.of rfl, .of rfl, .of rfl, .of rfl, .of rfl, trivial⟩ (sbG_some (gq rfl) (.of rfl) (sbG_oB (G_skip (neL g2.1.property rfl) (G_skip (neL g2.1.property rfl) (G_skip (neL g2.1.property rfl) (G_skip (neL g2.1.property rfl) (G_skip (neL g2.1.property rfl) G_hit))))) (sbG_some G_hit (.of rfl) trivial)))) ?_))))))))))))))))))))))))))
      refine l_drawT fun u7 hu7 => t_val (.ptr _ _) rfl rfl (t_val (.d _) rfl (v_load rfl (G_skip rfl (G_skip (neR g2.1.property rfl) G_hit)) rfl) (t_val (.d _) rfl rfl (t_val (.d _) rfl rfl (t_val (.ptr _ _) rfl rfl (bs hz1 fun v5 hv5 hz1 => t_oc (v := .d (i64 v5.1)) (us := [(900000, 0)]) (oc_m (kit_Ring_Next_o_ok _ _ _ hv5) [(900000, 0)] [(900000, 0)] _ (((900000, 0), some (.box 94 [(dl eInt_i64 v5.2.l), (di v5.2.at_)])) :: _) rfl all2_av (kl_cons (kr_ptr G_hit rfl) (kl_cons kr_d kl_nil)) (live_cons G_hit live_nil) ⟨⟨_, G_hit, .of rfl⟩, trivial⟩ (fun _ h => h) nd1 rfl rfl rfl) (t_val (.ptr _ _) rfl rfl (bs hz1 fun v6 hv6 hz1 => t_oc (v := .d (i64 v6.1)) (us := [(900000, 0)]) (oc_m (kit_Ring_Next_o_ok _ _ _ hv6) [(900000, 0)] [(900000, 0)] _ (((900000, 0), some (.box 94 [(dl eInt_i64 v6.2.l), (di v6.2.at_)])) :: _) rfl all2_av (kl_cons (kr_ptr G_hit rfl) (kl_cons kr_d kl_nil)) (live_cons G_hit live_nil) ⟨⟨_, G_hit, .of rfl⟩, trivial⟩ (fun _ h => h) nd1 rfl rfl rfl) (t_val (.d _) rfl rfl (t_val (.d _) rfl rfl (t_new (.ptr _ _) (.box _ _) rfl rfl (t_store _ _ _ _ _ rfl rfl rfl G_hit (nl rfl) [(di 0), (di (w64 ((w64 (v4.S - v4.Len)) - p2))), (di v5.1), (di (w64 (300 + v6.1))), (di 0), (di 0), (di 0), (.d (bo false)), (di 0), (di 0), (di 0), (di 0)] rfl (t_nil ⟨by first | rfl | ((generalize g2.1 = q0; rcases q0 with ⟨d0, _ | ⟨_, _ | ⟨_, h0⟩⟩⟩) <;> (generalize x1.1 = z1; cases z1) <;> first | rfl | contradiction), ?_⟩))))))))))))
      refine l_seq (bs hz1 fun y2 hy2 hz1 => l_join (fun s => ∃ g3 : Unit, Sb ⟨T [(0, (.ptr (900000, 0) 0)), (1, (di p2)), (7, (oS x1.1 (g2.1.val, g2.2))), (8, (di x1.2.1)), (11, (.ptr (11, u7) 0))], G [((900000, 0), some (.box 94 [(dl eInt_i64 v6.2.l), (di v6.2.at_)])), ((g2.1.val, g2.2), oB 65 12 eMate x1.1), ((11, u7), some (.box 65 (dMate y2)))]⟩ s) ?_ ?_)
      · refine l_block (l_loop (kit_Mates_o_l2 p2 v4) (fun (x2 : Mate) (g4 : Unit) => ⟨T [(0, (.ptr (900000, 0) 0)), (1, (di p2)), (7, (oS x1.1 (g2.1.val, g2.2))), (8, (di x1.2.1)), (10, (.ptr (10, u6) 0)), (11, (.ptr (11, u7) 0))], G [((900000, 0), some (.box 94 [(dl eInt_i64 v6.2.l), (di v6.2.at_)])), ((g2.1.val, g2.2), oB 65 12 eMate x1.1), ((10, u6), some (.box 23 [(di (w64 (v4.S - v4.Len))), (di v4.V)])), ((11, u7), some (.box 65 (dMate x2)))]⟩) (Mate.mk 0 (w64 ((w64 (v4.S - v4.Len)) - p2)) v5.1 (w64 (300 + v6.1)) 0 (Guess.mk 0 0) false 0 (Guess.mk 0 0) 0) () _ hy2 (sb_of ⟨.of rfl, .of rfl, .of rfl, .of rfl, .of rfl, .of rfl, trivial⟩ (sbG_some (gq rfl) (.of rfl) (sbG_oB (G_skip (neL g2.1.property rfl) (G_skip (neL g2.1.property rfl) (G_skip (neL g2.1.property rfl) (G_skip (neL g2.1.property rfl) (G_skip (neL g2.1.property rfl) G_hit))))) (sbG_some (G_skip rfl (G_skip rfl (G_skip rfl (G_skip rfl (G_skip rfl (G_skip (neR g2.1.property rfl) G_hit)))))) (.of rfl) (sbG_some G_hit (.of rfl) trivial))))) ?_)
        intro x2 g4 z2 hz2 ez2
        unfold kit_Mates_o_l2 at hz2
        refine l_seq (lr (fun u8 hu8 => sp rfl rfl (sd rfl (v_load rfl (G_skip rfl (G_skip (neR g2.1.property rfl) (gq rfl))) rfl) (sp rfl rfl (sd rfl (v_load rfl (G_skip rfl (G_skip (neR g2.1.property rfl) (gq rfl))) rfl) (sv rfl (sd rfl (v_loadG rfl (G_skip rfl (G_skip (neR g2.1.property rfl) G_hit)) rfl rfl) (bs hz2 fun v7 hv7 hz2 => s_call rfl rfl all2_refl (ref09_Safe_ok _ _ _ _  _ hv7) (.inl rfl) (s_val (.d (bo (!v7))) rfl rfl (s_nil (cc rfl hz2 (fun c2 hz2 => ?_) (fun c2 hz2 => ?_))))))))))))
        · refine l_skip (l_block (l_reg fun u9 hu9 => sp rfl rfl (sd rfl (v_load rfl (G_skip rfl (G_skip (neR g2.1.property rfl) (gq rfl))) rfl) (sv rfl (sp rfl rfl (s_store _ _ _ _ _ rfl rfl rfl (G_skip rfl (G_skip (neR g2.1.property rfl) (gq rfl))) (nl rfl) [(di x2.ID), (di (w64 (x2.S - 500))), (di x2.V), (di x2.Len), (di x2.Ahead), (di x2.Guess_.R), (di x2.Guess_.V), (.d (bo x2.Trust)), (di x2.Ward), (di x2.WardGuess.R), (di x2.WardGuess.V), (di x2.Until)] rfl (s_nil (l_end (l_nil ?_)))))))))
          obtain rfl := Option.some.inj hz2
          exact ⟨rfl, (), (sb_of ⟨.of rfl, .of rfl, .of rfl, .of rfl, .of rfl, .of rfl, trivial⟩ (sbG_some (gq rfl) (.of rfl) (sbG_oB (G_skip (neL g2.1.property rfl) (G_skip (neL g2.1.property rfl) G_hit)) (sbG_some (G_skip rfl (G_skip rfl (G_skip (neR g2.1.property rfl) G_hit))) (.of rfl) (sbG_some G_hit (.of rfl) trivial)))))⟩
        · refine l_exitN rfl ?_
          obtain rfl := Option.some.inj hz2
          obtain rfl := ez2 _ rfl
          refine ⟨nofun, awl_pop rfl (l_j ?_)⟩
          exact ⟨(), (sb_of ⟨.of rfl, .of rfl, .of rfl, .of rfl, .of rfl, trivial⟩ (sbG_some G_hit (.of rfl) (sbG_oB (G_skip (neL g2.1.property rfl) G_hit) (sbG_some (G_skip rfl (G_skip (neR g2.1.property rfl) (gq rfl))) (.of rfl) trivial))))⟩
      · rintro _ ⟨g3, q1⟩
        refine l_sub q1 (l_seq (l_drawT fun u10 hu10 => t_val (.ptr _ _) rfl rfl (t_val (.d _) rfl (v_load rfl (G_skip rfl (G_skip (neR g2.1.property rfl) G_hit)) rfl) (t_val (.ptr _ _) rfl rfl (bs hz1 fun v8 hv8 hz1 => t_oc (v := .d (i64 v8.1)) (us := [(900000, 0)]) (oc_m (kit_Ring_Next_o_ok _ _ _ hv8) [(900000, 0)] [(900000, 0)] _ (((900000, 0), some (.box 94 [(dl eInt_i64 v8.2.l), (di v8.2.at_)])) :: _) rfl all2_av (kl_cons (kr_ptr G_hit rfl) (kl_cons kr_d kl_nil)) (live_cons G_hit live_nil) ⟨⟨_, G_hit, .of rfl⟩, trivial⟩ (fun _ h => h) nd1 rfl rfl rfl) (t_val (.ptr _ _) rfl rfl (bs hz1 fun v9 hv9 hz1 => t_oc (v := .d (i64 v9.1)) (us := [(900000, 0)]) (oc_m (kit_Ring_Next_o_ok _ _ _ hv9) [(900000, 0)] [(900000, 0)] _ (((900000, 0), some (.box 94 [(dl eInt_i64 v9.2.l), (di v9.2.at_)])) :: _) rfl all2_av (kl_cons (kr_ptr G_hit rfl) (kl_cons kr_d kl_nil)) (live_cons G_hit live_nil) ⟨⟨_, G_hit, .of rfl⟩, trivial⟩ (fun _ h => h) nd1 rfl rfl rfl) (t_val (.d _) rfl rfl (t_val (.d _) rfl rfl (t_val (.ptr _ _) rfl rfl (t_store _ _ _ _ _ rfl rfl rfl (G_skip rfl (G_skip rfl (G_skip rfl (G_skip (neR g2.1.property rfl) G_hit)))) (nl rfl) [(di y2.ID), (di (w64 (y2.S - (w64 (v8.1 * v9.1))))), (di y2.V), (di y2.Len), (di y2.Ahead), (di y2.Guess_.R), (di y2.Guess_.V), (.d (bo y2.Trust)), (di y2.Ward), (di y2.WardGuess.R), (di y2.WardGuess.V), (di y2.Until)] rfl (t_nil ⟨by first | rfl | ((generalize g2.1 = q0; rcases q0 with ⟨d0, _ | ⟨_, _ | ⟨_, h0⟩⟩⟩) <;> (generalize x1.1 = z1; cases z1) <;> first | rfl | contradiction), ?_⟩))))))))))))
        refine l_reg fun u11 hu11 => s_val (oS x1.1 (g2.1.val, g2.2)) rfl rfl (sd rfl (v_loadG rfl G_hit rfl rfl) (s_val (dl eMate [(Mate.mk y2.ID (w64 (y2.S - (w64 (v8.1 * v9.1)))) y2.V y2.Len y2.Ahead y2.Guess_ y2.Trust y2.Ward y2.WardGuess y2.Until)]) rfl (v_dsliceN eMate ([(Mate.mk y2.ID (w64 (y2.S - (w64 (v8.1 * v9.1)))) y2.V y2.Len y2.Ahead y2.Guess_ y2.Trust y2.Ward y2.WardGuess y2.Until)] : List Mate) (fun _ => rfl) rfl rfl ⟨rfl, rfl, rfl, trivial⟩) (bs hz1 fun v10 hv10 hz1 => s_appendO eMate (g2.1.val, g2.2) x1.1 (Mate.mk y2.ID (w64 (y2.S - (w64 (v8.1 * v9.1)))) y2.V y2.Len y2.Ahead y2.Guess_ y2.Trust y2.Ward y2.WardGuess y2.Until) [] _ (elems_list (fun _ => rfl)) rfl (G_skip (neL g2.1.property rfl) (G_skip (neL g2.1.property rfl) (G_skip (neL g2.1.property rfl) (G_skip (neL g2.1.property rfl) G_hit)))) hv10 (ss rfl (s_nil (l_end (l_sub (s0 := ⟨T [(0, (.ptr (900000, 0) 0)), (1, (di p2)), (7, (.sl (74, u11))), (8, (di x1.2.1))], G [((900000, 0), some (.box 94 [(dl eInt_i64 v9.2.l), (di v9.2.at_)])), ((74, u11), some (.arr 65 12 (List.map eMate v10)))]⟩) (sb_of ⟨.of rfl, .of rfl, .of rfl, .of rfl, trivial⟩ (sbG_some (G_skip rfl (G_skip (neR g2.1.property rfl) (gq rfl))) (.of rfl) (sbG_some G_hit (.of rfl) trivial))) ?_)))))))
        refine l_reg fun u12 hu12 => sv rfl (sv rfl (sv rfl (s_nil (l_nil ?_))))
        obtain rfl := Option.some.inj hz1
        exact ⟨rfl, (⟨74, .tail _ (.head _)⟩, u11), (sb_of ⟨.of rfl, .of rfl, (.of (oS_ne (appc_ne hv10)).symm), .of rfl, trivial⟩ (sbG_some G_hit (.of rfl) (sbG_own (gq rfl) trivial)))⟩
    · refine l_exitN rfl ?_
      obtain rfl := Option.some.inj hz1
      obtain rfl := ez1 _ rfl
      refine ⟨nofun, awl_pop rfl (l_j ?_)⟩
      exact ⟨(g2.1, g2.2), (sb_of ⟨.of rfl, .of rfl, trivial⟩ (sbG_some G_hit (.of rfl) (sbG_oB (G_skip (neL g2.1.property rfl) G_hit) trivial)))⟩
  · rintro _ ⟨g1, q2⟩
    refine l_sub q2 (lr (fun u13 hu13 => s_val (oS y1.1 (g1.1.val, g1.2)) rfl rfl (s_val (oS y1.1 (g1.1.val, g1.2)) rfl rfl (s_nil (l_ret ?_)))))
    obtain rfl := Option.some.inj h
    exact fin_mf (.inr rfl) [(g1.1.val, g1.2)] (resDF1 (res_t rfl) (rf_oS (rs_in (.head _) (G_skip (neL g1.1.property rfl) G_hit)))) oD_le ⟨⟨_, _, _, G_hit, (old_notinG g1.1.property rfl old_notin_nil), rfl, all2_d, rfl⟩, trivial⟩

noncomputable def ref09_rear (p1 : Mate) : Option Int :=
  some (w64 (p1.S - p1.Len))

/-- kerbstone/kerbstoneref09.rear -/
def ac_ref09_rear : AC := (.seq (.reg [oo 1 (.box 65 true (.t 0)), oo 2 (.mv (ci 0))]) (.seq (.reg [oo 3 (.fieldA 1 (.t 1)), oo 4 (.load 1 false (.t 3)), oo 5 (.fieldA 3 (.t 1)), oo 6 (.load 1 false (.t 5)), oo 7 (.bin .sub (.t 4) (.t 6)), oo 2 (.mv (.t 7))]) .ret))
theorem fn_ref09_rear : FnOK Try.prog 70 8 [.t 2] ac_ref09_rear := ⟨_, _, Try.func70, rfl, Try.ntmps70, by kernel_rfl, ⟨fun _ => [], by kernel_rfl⟩, by kernel_rfl⟩
theorem ref09_rear_ok (p1 : Mate) (r : Int) (h : ref09_rear p1 = some r) : PCall Try.prog 70 [(.agg (eMate p1))] (i64 r) := by
  refine l_call fn_ref09_rear (nl rfl) ?_
  unfold ref09_rear at h
  unfold ac_ref09_rear
  refine l_sub (s0 := ⟨T [(0, (.d _))], G []⟩) (sbr rfl rfl) ?_
  refine lr (fun u1 hu1 => sn rfl rfl (sv rfl (s_nil (lr (fun u2 hu2 => sp rfl rfl (sl rfl G_hit rfl (sp rfl rfl (sl rfl G_hit rfl (sv rfl (sv rfl (s_nil (l_ret ?_))))))))))))
  obtain rfl := Option.some.inj h
  exact fin_ok (.inr rfl) (resD1 (res_t rfl) rf_d) (.refl _)

noncomputable def ref09_between (p1 : Int) (p2 : Int) (p3 : Int) : Option Bool :=
  some ((decide (p1 ≥ p2)) && (decide (p1 ≤ p3)))

/-- kerbstone/kerbstoneref09.between -/
def ac_ref09_between : AC := (.seq (.reg [oo 6 (.mv (.c zf))]) (.seq (.reg [oo 7 (.mv (.t 0)), oo 8 (.mv (.t 1)), oo 9 (.bin .geq (.t 7) (.t 8)), oo 10 (.mv (.t 9)), og 11 (.mv (.t 0)) 10, og 12 (.mv (.t 2)) 10, og 13 (.bin .leq (.t 11) (.t 12)) 10, oo 14 (.pick (.t 10) (.t 13) (.c zf)), oo 6 (.mv (.t 14))]) .ret))
theorem fn_ref09_between : FnOK Try.prog 104 15 [.t 6] ac_ref09_between := ⟨_, _, Try.func104, rfl, Try.ntmps104, by kernel_rfl, ⟨fun _ => [], by kernel_rfl⟩, by kernel_rfl⟩
theorem ref09_between_ok (p1 : Int) (p2 : Int) (p3 : Int) (r : Bool) (h : ref09_between p1 p2 p3 = some r) : PCall Try.prog 104 [(i64 p1), (i64 p2), (i64 p3)] (bo r) := by
  refine l_call fn_ref09_between (nl rfl) ?_
  unfold ref09_between at h
  unfold ac_ref09_between
  refine l_sub (s0 := ⟨T [(0, (.d _)), (1, (.d _)), (2, (.d _))], G []⟩) (sbr rfl rfl) ?_
  refine lr (fun u1 hu1 => sv rfl (s_nil (lr (fun u2 hu2 => sv rfl (sv rfl (sv rfl (sv rfl (gt rfl (fun _ => rfl) (gt rfl (fun _ => rfl) (gt rfl (fun w3 => (v_bin (gd_pos w3) (gd_pos w3) rfl)) (sa rfl rfl rfl (sv rfl (s_nil (l_ret ?_))))))))))))))
  obtain rfl := Option.some.inj h
  exact fin_ok (.inr rfl) (resD1 (res_t rfl) rf_d) (.refl _)

noncomputable def ref09_moving (p1 : Int) (p2 : Int) (p3 : Int) (p4 : Int) : Option Bool :=
  (ref09_between p1 1 99).bind fun v1 => ((cond v1 (ref09_between p2 0 1099511627776) (some default))).bind fun v2 => ((cond (v1 && v2) (ref09_between p3 0 2000) (some default))).bind fun v3 => ((cond ((v1 && v2) && v3) (ref09_between p4 300 20000) (some default))).bind fun v4 => some (((v1 && v2) && v3) && v4)

/-- kerbstone/kerbstoneref09.moving -/
def ac_ref09_moving : AC := (.seq (.reg [oo 8 (.mv (.c zf))]) (.seq (.reg [oo 9 (.mv (.t 0)), oo 10 (.call (cf 104) [(.t 9), (ci 1), (ci 99)]), oo 11 (.mv (.t 10)), og 12 (.mv (.t 1)) 11, og 13 (.call (cf 104) [(.t 12), (ci 0), (ci 1099511627776)]) 11, oo 14 (.pick (.t 11) (.t 13) (.c zf)), oo 15 (.mv (.t 14)), og 16 (.mv (.t 2)) 15, og 17 (.call (cf 104) [(.t 16), (ci 0), (ci 2000)]) 15, oo 18 (.pick (.t 15) (.t 17) (.c zf)), oo 19 (.mv (.t 18)), og 20 (.mv (.t 3)) 19, og 21 (.call (cf 104) [(.t 20), (ci 300), (ci 20000)]) 19, oo 22 (.pick (.t 19) (.t 21) (.c zf)), oo 8 (.mv (.t 22))]) .ret))
theorem fn_ref09_moving : FnOK Try.prog 125 23 [.t 8] ac_ref09_moving := ⟨_, _, Try.func125, rfl, Try.ntmps125, by kernel_rfl, ⟨fun _ => [], by kernel_rfl⟩, by kernel_rfl⟩
theorem ref09_moving_ok (p1 : Int) (p2 : Int) (p3 : Int) (p4 : Int) (r : Bool) (h : ref09_moving p1 p2 p3 p4 = some r) : PCall Try.prog 125 [(i64 p1), (i64 p2), (i64 p3), (i64 p4)] (bo r) := by
  refine l_call fn_ref09_moving (nl rfl) ?_
  unfold ref09_moving at h
  unfold ac_ref09_moving
  refine l_sub (s0 := ⟨T [(0, (.d _)), (1, (.d _)), (2, (.d _)), (3, (.d _))], G []⟩) (sbr rfl rfl) ?_
  refine lr (fun u1 hu1 => sv rfl (s_nil (lr (fun u2 hu2 => sv rfl (bs h fun v1 hv1 h => s_call rfl rfl all2_refl (ref09_between_ok _ _ _  _ hv1) (.inl rfl) (sv rfl (gt rfl (fun _ => rfl) (bs h fun v2 hv2 h => ?_))))))))
  refine g_call v1 (bo v2) (gw_t rfl) (fun w2 => ⟨_, [(di p2), (di 0), (di 1099511627776)], _, _, (by simp only [gd_pos w2]; rfl), rfl, all2_refl, ref09_between_ok _ _ _  _ (cond_t w2 hv2), (.inl rfl)⟩) ?_
  refine sa rfl rfl rfl (sv rfl (gt rfl (fun _ => rfl) (bs h fun v3 hv3 h => ?_)))
  refine g_call _ (bo v3) (gw_t rfl) (fun w4 => ⟨_, [(di p3), (di 0), (di 2000)], _, _, (by simp only [gd_pos w4]; rfl), rfl, all2_refl, ref09_between_ok _ _ _  _ (cond_t w4 hv3), (.inl rfl)⟩) ?_
  refine sa rfl rfl rfl (sv rfl (gt rfl (fun _ => rfl) (bs h fun v4 hv4 h => ?_)))
  refine g_call _ (bo v4) (gw_t rfl) (fun w6 => ⟨_, [(di p4), (di 300), (di 20000)], _, _, (by simp only [gd_pos w6]; rfl), rfl, all2_refl, ref09_between_ok _ _ _  _ (cond_t w6 hv4), (.inl rfl)⟩) ?_
  refine sa rfl rfl rfl (sv rfl (s_nil (l_ret ?_)))
  obtain rfl := Option.some.inj h
  exact fin_ok (.inr rfl) (resD1 (res_t rfl) rf_d) (.refl _)

noncomputable def ref09_guessed (p1 : Guess) : Option Bool :=
  (ref09_between p1.R (-20000) 2199023255552).bind fun v1 => ((cond v1 (ref09_between p1.V 0 2000) (some default))).bind fun v2 => some (v1 && v2)

/-- kerbstone/kerbstoneref09.guessed -/
def ac_ref09_guessed : AC := (.seq (.reg [oo 1 (.box 23 true (.t 0)), oo 2 (.mv (.c zf))]) (.seq (.reg [oo 3 (.fieldA 0 (.t 1)), oo 4 (.load 1 false (.t 3)), oo 5 (.call (cf 104) [(.t 4), (ci (-20000)), (ci 2199023255552)]), oo 6 (.mv (.t 5)), og 7 (.fieldA 1 (.t 1)) 6, og 8 (.load 1 false (.t 7)) 6, og 9 (.call (cf 104) [(.t 8), (ci 0), (ci 2000)]) 6, oo 10 (.pick (.t 6) (.t 9) (.c zf)), oo 2 (.mv (.t 10))]) .ret))
theorem fn_ref09_guessed : FnOK Try.prog 126 11 [.t 2] ac_ref09_guessed := ⟨_, _, Try.func126, rfl, Try.ntmps126, by kernel_rfl, ⟨fun _ => [], by kernel_rfl⟩, by kernel_rfl⟩
theorem ref09_guessed_ok (p1 : Guess) (r : Bool) (h : ref09_guessed p1 = some r) : PCall Try.prog 126 [(.agg [(i64 p1.R), (i64 p1.V)])] (bo r) := by
  refine l_call fn_ref09_guessed (nl rfl) ?_
  unfold ref09_guessed at h
  unfold ac_ref09_guessed
  refine l_sub (s0 := ⟨T [(0, (.d _))], G []⟩) (sbr rfl rfl) ?_
  refine lr (fun u1 hu1 => sn rfl rfl (sv rfl (s_nil (lr (fun u2 hu2 => sp rfl rfl (sl rfl G_hit rfl (bs h fun v1 hv1 h => s_call rfl rfl all2_refl (ref09_between_ok _ _ _  _ hv1) (.inl rfl) (sv rfl (gp rfl (gw_t rfl) (fun _ => rfl) (gt rfl (vl rfl G_hit rfl) (bs h fun v2 hv2 h => ?_)))))))))))
  refine g_call v1 (bo v2) (gw_t rfl) (fun w3 => ⟨_, [(di p1.V), (di 0), (di 2000)], _, _, (by simp only [gd_pos w3]; rfl), rfl, all2_refl, ref09_between_ok _ _ _  _ (cond_t w3 hv2), (.inl rfl)⟩) ?_
  refine sa rfl rfl rfl (sv rfl (s_nil (l_ret ?_)))
  obtain rfl := Option.some.inj h
  exact fin_ok (.inr rfl) (resD1 (res_t rfl) rf_d) (.refl _)

noncomputable def ref09_mate (p1 : Mate) : Option Bool :=
  (ref09_moving p1.ID p1.S p1.V p1.Len).bind fun v1 => ((cond v1 (ref09_between p1.Ahead 0 99) (some default))).bind fun v2 => ((cond (v1 && v2) (ref09_between p1.Ward 0 99) (some default))).bind fun v3 => ((cond ((v1 && v2) && v3) (ref09_between p1.Until 0 2199023255552) (some default))).bind fun v4 => ((cond (((v1 && v2) && v3) && v4) (ref09_guessed p1.Guess_) (some default))).bind fun v5 => ((cond ((((v1 && v2) && v3) && v4) && v5) (ref09_guessed p1.WardGuess) (some default))).bind fun v6 => some (((((v1 && v2) && v3) && v4) && v5) && v6)

/-- kerbstone/kerbstoneref09.mate -/
def ac_ref09_mate : AC := (.seq (.reg [oo 1 (.box 65 true (.t 0)), oo 2 (.mv (.c zf))]) (.seq (.reg [oo 3 (.fieldA 0 (.t 1)), oo 4 (.load 1 false (.t 3)), oo 5 (.fieldA 1 (.t 1)), oo 6 (.load 1 false (.t 5)), oo 7 (.fieldA 2 (.t 1)), oo 8 (.load 1 false (.t 7)), oo 9 (.fieldA 3 (.t 1)), oo 10 (.load 1 false (.t 9)), oo 11 (.call (cf 125) [(.t 4), (.t 6), (.t 8), (.t 10)]), oo 12 (.mv (.t 11)), og 13 (.fieldA 4 (.t 1)) 12, og 14 (.load 1 false (.t 13)) 12, og 15 (.call (cf 104) [(.t 14), (ci 0), (ci 99)]) 12, oo 16 (.pick (.t 12) (.t 15) (.c zf)), oo 17 (.mv (.t 16)), og 18 (.fieldA 8 (.t 1)) 17, og 19 (.load 1 false (.t 18)) 17, og 20 (.call (cf 104) [(.t 19), (ci 0), (ci 99)]) 17, oo 21 (.pick (.t 17) (.t 20) (.c zf)), oo 22 (.mv (.t 21)), og 23 (.fieldA 11 (.t 1)) 22, og 24 (.load 1 false (.t 23)) 22, og 25 (.call (cf 104) [(.t 24), (ci 0), (ci 2199023255552)]) 22, oo 26 (.pick (.t 22) (.t 25) (.c zf)), oo 27 (.mv (.t 26)), og 28 (.fieldA 5 (.t 1)) 27, og 29 (.load 2 true (.t 28)) 27, og 30 (.call (cf 126) [(.t 29)]) 27, oo 31 (.pick (.t 27) (.t 30) (.c zf)), oo 32 (.mv (.t 31)), og 33 (.fieldA 9 (.t 1)) 32, og 34 (.load 2 true (.t 33)) 32, og 35 (.call (cf 126) [(.t 34)]) 32, oo 36 (.pick (.t 32) (.t 35) (.c zf)), oo 2 (.mv (.t 36))]) .ret))
theorem fn_ref09_mate : FnOK Try.prog 105 37 [.t 2] ac_ref09_mate := ⟨_, _, Try.func105, rfl, Try.ntmps105, by kernel_rfl, ⟨fun _ => [], by kernel_rfl⟩, by kernel_rfl⟩
theorem ref09_mate_ok (p1 : Mate) (r : Bool) (h : ref09_mate p1 = some r) : PCall Try.prog 105 [(.agg (eMate p1))] (bo r) := by
  refine l_call fn_ref09_mate (nl rfl) ?_
  unfold ref09_mate at h
  unfold ac_ref09_mate
  refine l_sub (s0 := ⟨T [(0, (.d _))], G []⟩) (sbr rfl rfl) ?_
  refine lr (fun u1 hu1 => sn rfl rfl (sv rfl (s_nil (lr (fun u2 hu2 => sp rfl rfl (sl rfl G_hit rfl (sp rfl rfl (sl rfl G_hit rfl (sp rfl rfl (sl rfl G_hit rfl (sp rfl rfl (sl rfl G_hit rfl (bs h fun v1 hv1 h => s_call rfl rfl all2_refl (ref09_moving_ok _ _ _ _  _ hv1) (.inl rfl) (sv rfl (gp rfl (gw_t rfl) (fun _ => rfl) (gt rfl (vl rfl G_hit rfl) (bs h fun v2 hv2 h => ?_)))))))))))))))))
  refine g_call v1 (bo v2) (gw_t rfl) (fun w3 => ⟨_, [(di p1.Ahead), (di 0), (di 99)], _, _, (by simp only [gd_pos w3]; rfl), rfl, all2_refl, ref09_between_ok _ _ _  _ (cond_t w3 hv2), (.inl rfl)⟩) ?_
  refine sa rfl rfl rfl (sv rfl (gp rfl (gw_t rfl) (fun _ => rfl) (gt rfl (vl rfl G_hit rfl) (bs h fun v3 hv3 h => ?_))))
  refine g_call _ (bo v3) (gw_t rfl) (fun w6 => ⟨_, [(di p1.Ward), (di 0), (di 99)], _, _, (by simp only [gd_pos w6]; rfl), rfl, all2_refl, ref09_between_ok _ _ _  _ (cond_t w6 hv3), (.inl rfl)⟩) ?_
  refine sa rfl rfl rfl (sv rfl (gp rfl (gw_t rfl) (fun _ => rfl) (gt rfl (vl rfl G_hit rfl) (bs h fun v4 hv4 h => ?_))))
  refine g_call _ (bo v4) (gw_t rfl) (fun w9 => ⟨_, [(di p1.Until), (di 0), (di 2199023255552)], _, _, (by simp only [gd_pos w9]; rfl), rfl, all2_refl, ref09_between_ok _ _ _  _ (cond_t w9 hv4), (.inl rfl)⟩) ?_
  refine sa rfl rfl rfl (sv rfl (gp rfl (gw_t rfl) (fun _ => rfl) (gt rfl (fun w11 => (v_loadG (gd_pos w11) G_hit rfl rfl)) (bs h fun v5 hv5 h => ?_))))
  refine g_call _ (bo v5) (gw_t rfl) (fun w12 => ⟨_, [(.d (.agg [(i64 p1.Guess_.R), (i64 p1.Guess_.V)]))], _, _, (by simp only [gd_pos w12]; rfl), rfl, all2_refl, ref09_guessed_ok _  _ (cond_t w12 hv5), (.inl rfl)⟩) ?_
  refine sa rfl rfl rfl (sv rfl (gp rfl (gw_t rfl) (fun _ => rfl) (gt rfl (fun w14 => (v_loadG (gd_pos w14) G_hit rfl rfl)) (bs h fun v6 hv6 h => ?_))))
  refine g_call _ (bo v6) (gw_t rfl) (fun w15 => ⟨_, [(.d (.agg [(i64 p1.WardGuess.R), (i64 p1.WardGuess.V)]))], _, _, (by simp only [gd_pos w15]; rfl), rfl, all2_refl, ref09_guessed_ok _  _ (cond_t w15 hv6), (.inl rfl)⟩) ?_
  refine sa rfl rfl rfl (sv rfl (s_nil (l_ret ?_)))
  obtain rfl := Option.some.inj h
  exact fin_ok (.inr rfl) (resD1 (res_t rfl) rf_d) (.refl _)

noncomputable def ref09_guest (p1 : Guest) : Option Bool :=
  (ref09_moving p1.ID p1.S p1.V p1.Len).bind fun v1 => ((cond v1 (ref09_between p1.Ahead 0 99) (some default))).bind fun v2 => ((cond (v1 && v2) (ref09_between p1.From 0 99) (some default))).bind fun v3 => ((cond ((v1 && v2) && v3) (ref09_between p1.Until 0 2199023255552) (some default))).bind fun v4 => ((cond (((v1 && v2) && v3) && v4) (ref09_between p1.End 0 1099511627776) (some default))).bind fun v5 => ((cond ((((v1 && v2) && v3) && v4) && v5) (ref09_guessed p1.Guess_) (some default))).bind fun v6 => some (((((v1 && v2) && v3) && v4) && v5) && v6)

/-- kerbstone/kerbstoneref09.guest -/
def ac_ref09_guest : AC := (.seq (.reg [oo 1 (.box 36 true (.t 0)), oo 2 (.mv (.c zf))]) (.seq (.reg [oo 3 (.fieldA 0 (.t 1)), oo 4 (.load 1 false (.t 3)), oo 5 (.fieldA 1 (.t 1)), oo 6 (.load 1 false (.t 5)), oo 7 (.fieldA 2 (.t 1)), oo 8 (.load 1 false (.t 7)), oo 9 (.fieldA 3 (.t 1)), oo 10 (.load 1 false (.t 9)), oo 11 (.call (cf 125) [(.t 4), (.t 6), (.t 8), (.t 10)]), oo 12 (.mv (.t 11)), og 13 (.fieldA 5 (.t 1)) 12, og 14 (.load 1 false (.t 13)) 12, og 15 (.call (cf 104) [(.t 14), (ci 0), (ci 99)]) 12, oo 16 (.pick (.t 12) (.t 15) (.c zf)), oo 17 (.mv (.t 16)), og 18 (.fieldA 8 (.t 1)) 17, og 19 (.load 1 false (.t 18)) 17, og 20 (.call (cf 104) [(.t 19), (ci 0), (ci 99)]) 17, oo 21 (.pick (.t 17) (.t 20) (.c zf)), oo 22 (.mv (.t 21)), og 23 (.fieldA 9 (.t 1)) 22, og 24 (.load 1 false (.t 23)) 22, og 25 (.call (cf 104) [(.t 24), (ci 0), (ci 2199023255552)]) 22, oo 26 (.pick (.t 22) (.t 25) (.c zf)), oo 27 (.mv (.t 26)), og 28 (.fieldA 4 (.t 1)) 27, og 29 (.load 1 false (.t 28)) 27, og 30 (.call (cf 104) [(.t 29), (ci 0), (ci 1099511627776)]) 27, oo 31 (.pick (.t 27) (.t 30) (.c zf)), oo 32 (.mv (.t 31)), og 33 (.fieldA 6 (.t 1)) 32, og 34 (.load 2 true (.t 33)) 32, og 35 (.call (cf 126) [(.t 34)]) 32, oo 36 (.pick (.t 32) (.t 35) (.c zf)), oo 2 (.mv (.t 36))]) .ret))
theorem fn_ref09_guest : FnOK Try.prog 106 37 [.t 2] ac_ref09_guest := ⟨_, _, Try.func106, rfl, Try.ntmps106, by kernel_rfl, ⟨fun _ => [], by kernel_rfl⟩, by kernel_rfl⟩
theorem ref09_guest_ok (p1 : Guest) (r : Bool) (h : ref09_guest p1 = some r) : PCall Try.prog 106 [(.agg (eGuest p1))] (bo r) := by
  refine l_call fn_ref09_guest (nl rfl) ?_
  unfold ref09_guest at h
  unfold ac_ref09_guest
  refine l_sub (s0 := ⟨T [(0, (.d _))], G []⟩) (sbr rfl rfl) ?_
  refine lr (fun u1 hu1 => sn rfl rfl (sv rfl (s_nil (lr (fun u2 hu2 => sp rfl rfl (sl rfl G_hit rfl (sp rfl rfl (sl rfl G_hit rfl (sp rfl rfl (sl rfl G_hit rfl (sp rfl rfl (sl rfl G_hit rfl (bs h fun v1 hv1 h => s_call rfl rfl all2_refl (ref09_moving_ok _ _ _ _  _ hv1) (.inl rfl) (sv rfl (gp rfl (gw_t rfl) (fun _ => rfl) (gt rfl (vl rfl G_hit rfl) (bs h fun v2 hv2 h => ?_)))))))))))))))))
  refine g_call v1 (bo v2) (gw_t rfl) (fun w3 => ⟨_, [(di p1.Ahead), (di 0), (di 99)], _, _, (by simp only [gd_pos w3]; rfl), rfl, all2_refl, ref09_between_ok _ _ _  _ (cond_t w3 hv2), (.inl rfl)⟩) ?_
  refine sa rfl rfl rfl (sv rfl (gp rfl (gw_t rfl) (fun _ => rfl) (gt rfl (vl rfl G_hit rfl) (bs h fun v3 hv3 h => ?_))))
  refine g_call _ (bo v3) (gw_t rfl) (fun w6 => ⟨_, [(di p1.From), (di 0), (di 99)], _, _, (by simp only [gd_pos w6]; rfl), rfl, all2_refl, ref09_between_ok _ _ _  _ (cond_t w6 hv3), (.inl rfl)⟩) ?_
  refine sa rfl rfl rfl (sv rfl (gp rfl (gw_t rfl) (fun _ => rfl) (gt rfl (vl rfl G_hit rfl) (bs h fun v4 hv4 h => ?_))))
  refine g_call _ (bo v4) (gw_t rfl) (fun w9 => ⟨_, [(di p1.Until), (di 0), (di 2199023255552)], _, _, (by simp only [gd_pos w9]; rfl), rfl, all2_refl, ref09_between_ok _ _ _  _ (cond_t w9 hv4), (.inl rfl)⟩) ?_
  refine sa rfl rfl rfl (sv rfl (gp rfl (gw_t rfl) (fun _ => rfl) (gt rfl (vl rfl G_hit rfl) (bs h fun v5 hv5 h => ?_))))
  refine g_call _ (bo v5) (gw_t rfl) (fun w12 => ⟨_, [(di p1.End), (di 0), (di 1099511627776)], _, _, (by simp only [gd_pos w12]; rfl), rfl, all2_refl, ref09_between_ok _ _ _  _ (cond_t w12 hv5), (.inl rfl)⟩) ?_
  refine sa rfl rfl rfl (sv rfl (gp rfl (gw_t rfl) (fun _ => rfl) (gt rfl (fun w14 => (v_loadG (gd_pos w14) G_hit rfl rfl)) (bs h fun v6 hv6 h => ?_))))
  refine g_call _ (bo v6) (gw_t rfl) (fun w15 => ⟨_, [(.d (.agg [(i64 p1.Guess_.R), (i64 p1.Guess_.V)]))], _, _, (by simp only [gd_pos w15]; rfl), rfl, all2_refl, ref09_guessed_ok _  _ (cond_t w15 hv6), (.inl rfl)⟩) ?_
  refine sa rfl rfl rfl (sv rfl (s_nil (l_ret ?_)))
  obtain rfl := Option.some.inj h
  exact fin_ok (.inr rfl) (resD1 (res_t rfl) rf_d) (.refl _)

noncomputable def ref09_numbers_l3 (p1 : Convoy) (x2 : Int) (x3 : Int) : Option (Stp Int (Sum Unit Int)) :=
  cond (decide (x3 < x2)) ((geti p1.Mates x3).bind fun v6 => (geti p1.Mates x2).bind fun v7 => cond (v6.ID == v7.ID) (some (.out (.inr 9))) (some (.go (w64 (x3 + 1))))) (some (.out (.inl ())))
noncomputable def ref09_numbers_l2 (p1 : Convoy) (x2 : Int) : Option (Stp Int (Sum Unit Int)) :=
  cond (decide (x2 < (p1.Mates.length : Int))) (thenS (loop (ref09_numbers_l3 p1 x2) 0) (fun _ => (geti p1.Mates x2).bind fun v8 => cond (v8.ID == p1.Guest_.ID) (some (.out (.inr 9))) (some (.go (w64 (x2 + 1))))) (fun r => some (.out (.inr r)))) (some (.out (.inl ())))
noncomputable def ref09_numbers_l1 (p1 : Convoy) (x1 : Int) : Option (Stp Int (Sum Unit Int)) :=
  cond (decide (x1 < (p1.Mates.length : Int))) ((geti p1.Mates x1).bind fun v3 => (ref09_mate v3).bind fun v4 => cond (!v4) (some (.out (.inr 2))) (some (.go (w64 (x1 + 1))))) (some (.out (.inl ())))
noncomputable def ref09_numbers (p1 : Convoy) : Option Int :=
  (ref09_between p1.Tick 0 1099511627776).bind fun v1 => ((cond (!(!v1)) (ref09_between p1.Gap 1 20000) (some default))).bind fun v2 => cond ((!v1) || (!v2)) (some 2) (cond ((p1.Mates.length : Int) == 0) (some 6) ((cond (!(p1.Guest_.ID == 0 && (p1.Guest_.S == 0 && (p1.Guest_.V == 0 && (p1.Guest_.Len == 0 && (p1.Guest_.End == 0 && (p1.Guest_.Ahead == 0 && (p1.Guest_.Guess_.R == 0 && (p1.Guest_.Guess_.V == 0 && (p1.Guest_.From == 0 && (p1.Guest_.Until == 0 && true))))))))))) (some (w64 ((p1.Mates.length : Int) + 1))) (some (p1.Mates.length : Int))).bind fun y1 => cond (decide (y1 > 8)) (some 8) (thenS (loop (ref09_numbers_l1 p1) 0) (fun _ => ((cond (!(p1.Guest_.ID == 0 && (p1.Guest_.S == 0 && (p1.Guest_.V == 0 && (p1.Guest_.Len == 0 && (p1.Guest_.End == 0 && (p1.Guest_.Ahead == 0 && (p1.Guest_.Guess_.R == 0 && (p1.Guest_.Guess_.V == 0 && (p1.Guest_.From == 0 && (p1.Guest_.Until == 0 && true))))))))))) (ref09_guest p1.Guest_) (some default))).bind fun v5 => cond ((!(p1.Guest_.ID == 0 && (p1.Guest_.S == 0 && (p1.Guest_.V == 0 && (p1.Guest_.Len == 0 && (p1.Guest_.End == 0 && (p1.Guest_.Ahead == 0 && (p1.Guest_.Guess_.R == 0 && (p1.Guest_.Guess_.V == 0 && (p1.Guest_.From == 0 && (p1.Guest_.Until == 0 && true))))))))))) && (!v5)) (some 2) (thenS (loop (ref09_numbers_l2 p1) 0) (fun _ => some 0) (fun r => some r))) (fun r => some r))))

/-- kerbstone/kerbstoneref09.numbers -/
def ac_ref09_numbers : AC := (.seq (.reg [oo 1 (.box 38 true (.t 0)), oo 2 (.mv (ci 0))]) (.seq (.seq (.reg [oo 7 (.fieldA 0 (.t 1)), oo 8 (.load 1 false (.t 7)), oo 9 (.call (cf 104) [(.t 8), (ci 0), (ci 1099511627776)]), oo 10 (.un .not (.t 9)), oo 11 (.mv (.t 10)), oh 12 (.fieldA 1 (.t 1)) 11, oh 13 (.load 1 false (.t 12)) 11, oh 14 (.call (cf 104) [(.t 13), (ci 1), (ci 20000)]) 11, oh 15 (.un .not (.t 14)) 11, oo 16 (.pick (.t 11) (.c (.v (.bool true))) (.t 15))]) (.cond (.t 16) (.seq (.reg [oo 2 (.mv (ci 2))]) .ret) .skip)) (.seq (.seq (.reg [oo 17 (.fieldA 2 (.t 1)), oo 18 (.load 1 false (.t 17)), oo 19 (.len (.t 18)), oo 20 (.bin .eql (.t 19) (ci 0))]) (.cond (.t 20) (.seq (.reg [oo 2 (.mv (ci 6))]) .ret) .skip)) (.seq (.reg [oo 21 (.fieldA 2 (.t 1)), oo 22 (.load 1 false (.t 21)), oo 23 (.len (.t 22)), oo 3 (.mv (.t 23))]) (.seq (.seq (.reg [oo 24 (.fieldA 3 (.t 1)), oo 25 (.load 10 true (.t 24)), oo 26 (.build [z0, z0, z0, z0, z0, z0, z0, z0, z0, z0] []), oo 27 (.eqA true [false, false, false, false, false, false, false, false, false, false] (.t 25) (.t 26))]) (.cond (.t 27) (.reg [oo 28 (.mv (.t 3)), oo 29 (.bin .add (.t 28) (ci 1)), oo 3 (.mv (.t 29))]) .skip)) (.seq (.seq (.reg [oo 30 (.mv (.t 3)), oo 31 (.bin .gtr (.t 30) (ci 8))]) (.cond (.t 31) (.seq (.reg [oo 2 (.mv (ci 8))]) .ret) .skip)) (.seq (.seq (.reg [oo 4 (.mv (ci 0))]) (.block 0 (.loop (.seq (.seq (.reg [oo 32 (.mv (.t 4)), oo 33 (.fieldA 2 (.t 1)), oo 34 (.load 1 false (.t 33)), oo 35 (.len (.t 34)), oo 36 (.bin .lss (.t 32) (.t 35))]) (.cond (.t 36) .skip (.exit 0))) (.seq (.block 1 (.seq (.reg [oo 39 (.fieldA 2 (.t 1)), oo 40 (.load 1 false (.t 39)), oo 41 (.mv (.t 4)), oo 42 (.idxS 12 (.t 40) (.t 41)), oo 43 (.load 12 true (.t 42)), oo 44 (.call (cf 105) [(.t 43)]), oo 45 (.un .not (.t 44))]) (.cond (.t 45) (.seq (.reg [oo 2 (.mv (ci 2))]) .ret) .skip))) (.reg [oo 37 (.mv (.t 4)), oo 38 (.bin .add (.t 37) (ci 1)), oo 4 (.mv (.t 38))])))))) (.seq (.seq (.reg [oo 46 (.fieldA 3 (.t 1)), oo 47 (.load 10 true (.t 46)), oo 48 (.build [z0, z0, z0, z0, z0, z0, z0, z0, z0, z0] []), oo 49 (.eqA true [false, false, false, false, false, false, false, false, false, false] (.t 47) (.t 48)), oo 50 (.mv (.t 49)), og 51 (.fieldA 3 (.t 1)) 50, og 52 (.load 10 true (.t 51)) 50, og 53 (.call (cf 106) [(.t 52)]) 50, og 54 (.un .not (.t 53)) 50, oo 55 (.pick (.t 50) (.t 54) (.c zf))]) (.cond (.t 55) (.seq (.reg [oo 2 (.mv (ci 2))]) .ret) .skip)) (.seq (.seq (.reg [oo 5 (.mv (ci 0))]) (.block 2 (.loop (.seq (.seq (.reg [oo 56 (.mv (.t 5)), oo 57 (.fieldA 2 (.t 1)), oo 58 (.load 1 false (.t 57)), oo 59 (.len (.t 58)), oo 60 (.bin .lss (.t 56) (.t 59))]) (.cond (.t 60) .skip (.exit 2))) (.seq (.block 3 (.seq (.seq (.reg [oo 6 (.mv (ci 0))]) (.block 4 (.loop (.seq (.seq (.reg [oo 63 (.mv (.t 6)), oo 64 (.mv (.t 5)), oo 65 (.bin .lss (.t 63) (.t 64))]) (.cond (.t 65) .skip (.exit 4))) (.seq (.block 5 (.seq (.draw [oo 68 (.fieldA 2 (.t 1)), oo 69 (.load 1 false (.t 68)), oo 70 (.mv (.t 6)), oo 71 (.idxS 12 (.t 69) (.t 70)), oo 72 (.fieldA 0 (.t 71)), oo 73 (.load 1 false (.t 72)), oo 74 (.fieldA 2 (.t 1)), oo 75 (.load 1 false (.t 74)), oo 76 (.mv (.t 5)), oo 77 (.idxS 12 (.t 75) (.t 76)), oo 78 (.fieldA 0 (.t 77)), oo 79 (.load 1 false (.t 78)), oo 80 (.bin .eql (.t 73) (.t 79))] []) (.cond (.t 80) (.seq (.reg [oo 2 (.mv (ci 9))]) .ret) .skip))) (.reg [oo 66 (.mv (.t 6)), oo 67 (.bin .add (.t 66) (ci 1)), oo 6 (.mv (.t 67))])))))) (.seq (.draw [oo 81 (.fieldA 2 (.t 1)), oo 82 (.load 1 false (.t 81)), oo 83 (.mv (.t 5)), oo 84 (.idxS 12 (.t 82) (.t 83)), oo 85 (.fieldA 0 (.t 84)), oo 86 (.load 1 false (.t 85)), oo 87 (.fieldA 3 (.t 1)), oo 88 (.fieldA 0 (.t 87)), oo 89 (.load 1 false (.t 88)), oo 90 (.bin .eql (.t 86) (.t 89))] []) (.cond (.t 90) (.seq (.reg [oo 2 (.mv (ci 9))]) .ret) .skip)))) (.reg [oo 61 (.mv (.t 5)), oo 62 (.bin .add (.t 61) (ci 1)), oo 5 (.mv (.t 62))])))))) (.seq (.reg [oo 2 (.mv (ci 0))]) .ret))))))))))
theorem fn_ref09_numbers : FnOK Try.prog 78 91 [.t 2] ac_ref09_numbers := ⟨_, _, Try.func78, rfl, Try.ntmps78, by kernel_rfl, ⟨fun _ => [], by kernel_rfl⟩, by kernel_rfl⟩
set_option maxHeartbeats 4000000 in
theorem ref09_numbers_ok (p1 : Convoy) (r : Int) (h : ref09_numbers p1 = some r) : PCall Try.prog 78 [(.agg (eConvoy p1))] (i64 r) := by
  refine l_call fn_ref09_numbers (nl rfl) ?_
  unfold ref09_numbers at h
  unfold ac_ref09_numbers
  refine l_sub (s0 := ⟨T [(0, (.d _))], G []⟩) (sbr rfl rfl) ?_
  refine lr (fun u1 hu1 => sn rfl rfl (sv rfl (s_nil (l_seq (lr (fun u2 hu2 => sp rfl rfl (sl rfl G_hit rfl (bs h fun v1 hv1 h => s_call rfl rfl all2_refl (ref09_between_ok _ _ _  _ hv1) (.inl rfl) (s_val (.d (bo (!v1))) rfl rfl (sv rfl (gp rfl (gw_f rfl) (fun _ => rfl) (gf rfl (vl rfl G_hit rfl) (bs h fun v2 hv2 h => ?_)))))))))))))
  refine g_call _ (bo v2) (gw_f rfl) (fun w3 => ⟨_, [(di p1.Gap), (di 1), (di 20000)], _, _, (by simp only [gd_pos w3]; rfl), rfl, all2_refl, ref09_between_ok _ _ _  _ (cond_t w3 hv2), (.inl rfl)⟩) ?_
  refine g_val _ (.d (bo (!v2))) rfl (gw_f rfl) (fun w4 => (by simp only [gd_pos w4]; rfl)) ?_
  refine sd rfl (v_or rfl rfl (fun hc => gd_pos (not_t hc))) (s_nil (cc rfl h (fun c1 h => ?_) (fun c1 h => ?_)))
  · refine lr (fun u3 hu3 => sv rfl (s_nil (l_ret ?_)))
    obtain rfl := Option.some.inj h
    exact fin_ok (.inr rfl) (resD1 (res_t rfl) rf_d) (.refl _)
  · refine l_skip (l_seq (lr (fun u4 hu4 => sp rfl rfl (sl rfl G_hit rfl (sd rfl (v_len rfl) (sv rfl (s_nil (cc rfl h (fun c2 h => ?_) (fun c2 h => ?_)))))))))
    · refine lr (fun u5 hu5 => sv rfl (s_nil (l_ret ?_)))
      obtain rfl := Option.some.inj h
      exact fin_ok (.inr rfl) (resD1 (res_t rfl) rf_d) (.refl _)
    · refine l_skip (lr (fun u6 hu6 => sp rfl rfl (sl rfl G_hit rfl (sd rfl (v_len rfl) (sv rfl (s_nil (l_seq (lr (fun u7 hu7 => sp rfl rfl (sd rfl (v_loadG rfl G_hit rfl rfl) (sv rfl (s_val (.d (bo (!(p1.Guest_.ID == 0 && (p1.Guest_.S == 0 && (p1.Guest_.V == 0 && (p1.Guest_.Len == 0 && (p1.Guest_.End == 0 && (p1.Guest_.Ahead == 0 && (p1.Guest_.Guess_.R == 0 && (p1.Guest_.Guess_.V == 0 && (p1.Guest_.From == 0 && (p1.Guest_.Until == 0 && true))))))))))))) rfl rfl (s_nil (bs h fun y1 hy1 h => l_join (fun s => ∃ g1 : Unit, Sb ⟨T [(1, (.ptr (1, u1) 0)), (3, (di y1))], G [((1, u1), some (.box 38 (dConvoy p1)))]⟩ s) ?_ ?_))))))))))))))
      · refine cc rfl hy1 (fun c3 hy1 => ?_) (fun c3 hy1 => ?_)
        · refine l_sub (s0 := ⟨T [(1, (.ptr _ _)), (3, (.d _))], G [((1, u1), some (.box 38 _))]⟩) (sbr rfl rfl) ?_
          refine l_reg fun u8 hu8 => sv rfl (sv rfl (sv rfl (s_nil ?_)))
          obtain rfl := Option.some.inj hy1
          exact l_j ⟨(), (sbr rfl rfl)⟩
        · refine l_skip ?_
          obtain rfl := Option.some.inj hy1
          exact l_j ⟨(), (sbr rfl rfl)⟩
      · rintro _ ⟨g1, q1⟩
        refine l_sub q1 (l_seq (lr (fun u9 hu9 => sv rfl (sv rfl (s_nil (cc rfl h (fun c4 h => ?_) (fun c4 h => ?_)))))))
        · refine lr (fun u10 hu10 => sv rfl (s_nil (l_ret ?_)))
          obtain rfl := Option.some.inj h
          exact fin_ok (.inr rfl) (resD1 (res_t rfl) rf_d) (.refl _)
        · refine l_skip (l_seq (lr (fun u11 hu11 => sv rfl (s_nil (js h fun z1 hz1 h => l_join (fun s => ∃ (y2 : Unit) (g2 : Unit), z1 = .inl y2 ∧ Sb ⟨T [(1, (.ptr (1, u1) 0))], G [((1, u1), some (.box 38 (dConvoy p1)))]⟩ s) ?_ ?_)))))
          · refine l_block (l_loop (ref09_numbers_l1 p1) (fun (x1 : Int) (g3 : Unit) => ⟨T [(1, (.ptr (1, u1) 0)), (4, (di x1))], G [((1, u1), some (.box 38 (dConvoy p1)))]⟩) 0 () _ hz1 (sbr rfl rfl) ?_)
            intro x1 g3 z2 hz2 ez2
            unfold ref09_numbers_l1 at hz2
            refine l_seq (lr (fun u12 hu12 => sv rfl (sp rfl rfl (sl rfl G_hit rfl (sd rfl (v_len rfl) (sv rfl (s_nil (cc rfl hz2 (fun c5 hz2 => ?_) (fun c5 hz2 => ?_)))))))))
            · refine l_skip (l_seq (l_block (lr (fun u13 hu13 => sp rfl rfl (sl rfl G_hit rfl (sv rfl (bs hz2 fun v3 hv3 hz2 => sd rfl (v_idx rfl rfl hv3 rfl) (sd rfl (v_loadLG rfl hv3 rfl rfl) (bs hz2 fun v4 hv4 hz2 => s_call rfl rfl all2_refl (ref09_mate_ok _  _ hv4) (.inl rfl) (s_val (.d (bo (!v4))) rfl rfl (s_nil (cc rfl hz2 (fun c6 hz2 => ?_) (fun c6 hz2 => ?_)))))))))))))
              · refine lr (fun u14 hu14 => sv rfl (s_nil (l_ret ?_)))
                obtain rfl := Option.some.inj hz2
                obtain rfl := ez2 _ rfl
                refine ⟨nofun, awl_ret ?_⟩
                rw [Sum.elim_inr] at h
                obtain rfl := Option.some.inj h
                exact fin_ok (.inr rfl) (resD1 (res_t rfl) rf_d) (.refl _)
              · refine l_skip (l_end (l_reg fun u15 hu15 => sv rfl (sv rfl (sv rfl (s_nil (l_nil ?_))))))
                obtain rfl := Option.some.inj hz2
                exact ⟨rfl, (), (sbr rfl rfl)⟩
            · refine l_exitN rfl ?_
              obtain rfl := Option.some.inj hz2
              obtain rfl := ez2 _ rfl
              refine ⟨nofun, awl_pop rfl (l_j ?_)⟩
              exact ⟨_, (), rfl, (sbr rfl rfl)⟩
          · rintro _ ⟨y2, g2, rfl, q2⟩
            rw [Sum.elim_inl] at h
            refine l_sub q2 (l_seq (lr (fun u16 hu16 => sp rfl rfl (sd rfl (v_loadG rfl G_hit rfl rfl) (sv rfl (s_val (.d (bo (!(p1.Guest_.ID == 0 && (p1.Guest_.S == 0 && (p1.Guest_.V == 0 && (p1.Guest_.Len == 0 && (p1.Guest_.End == 0 && (p1.Guest_.Ahead == 0 && (p1.Guest_.Guess_.R == 0 && (p1.Guest_.Guess_.V == 0 && (p1.Guest_.From == 0 && (p1.Guest_.Until == 0 && true))))))))))))) rfl rfl (sv rfl (gp rfl (gw_t rfl) (fun _ => rfl) (gt rfl (fun w6 => (v_loadG (gd_pos w6) G_hit rfl rfl)) (bs h fun v5 hv5 h => ?_))))))))))
            refine g_call _ (bo v5) (gw_t rfl) (fun w7 => ⟨_, [(.d (.agg (eGuest p1.Guest_)))], _, _, (by simp only [gd_pos w7]; rfl), rfl, all2_refl, ref09_guest_ok _  _ (cond_t w7 hv5), (.inl rfl)⟩) ?_
            refine g_val _ (.d (bo (!v5))) rfl (gw_t rfl) (fun w8 => (by simp only [gd_pos w8]; rfl)) ?_
            refine sa rfl rfl rfl (s_nil (cc rfl h (fun c7 h => ?_) (fun c7 h => ?_)))
            · refine lr (fun u17 hu17 => sv rfl (s_nil (l_ret ?_)))
              obtain rfl := Option.some.inj h
              exact fin_ok (.inr rfl) (resD1 (res_t rfl) rf_d) (.refl _)
            · refine l_skip (l_seq (lr (fun u18 hu18 => sv rfl (s_nil (js h fun z3 hz3 h => l_join (fun s => ∃ (y3 : Unit) (g4 : Unit), z3 = .inl y3 ∧ Sb ⟨T [], G []⟩ s) ?_ ?_)))))
              · refine l_block (l_loop (ref09_numbers_l2 p1) (fun (x2 : Int) (g5 : Unit) => ⟨T [(1, (.ptr (1, u1) 0)), (5, (di x2))], G [((1, u1), some (.box 38 (dConvoy p1)))]⟩) 0 () _ hz3 (sbr rfl rfl) ?_)
                intro x2 g5 z4 hz4 ez4
                unfold ref09_numbers_l2 at hz4
                refine l_seq (lr (fun u19 hu19 => sv rfl (sp rfl rfl (sl rfl G_hit rfl (sd rfl (v_len rfl) (sv rfl (s_nil (cc rfl hz4 (fun c8 hz4 => ?_) (fun c8 hz4 => ?_)))))))))
                · refine l_skip (l_seq (l_block (l_seq (lr (fun u20 hu20 => sv rfl (s_nil (js hz4 fun z5 hz5 hz4 => l_join (fun s => ∃ (y4 : Unit) (g6 : Unit), z5 = .inl y4 ∧ Sb ⟨T [(1, (.ptr (1, u1) 0)), (5, (di x2))], G [((1, u1), some (.box 38 (dConvoy p1)))]⟩ s) ?_ ?_)))))))
                  · refine l_block (l_loop (ref09_numbers_l3 p1 x2) (fun (x3 : Int) (g7 : Unit) => ⟨T [(1, (.ptr (1, u1) 0)), (5, (di x2)), (6, (di x3))], G [((1, u1), some (.box 38 (dConvoy p1)))]⟩) 0 () _ hz5 (sbr rfl rfl) ?_)
                    intro x3 g7 z6 hz6 ez6
                    unfold ref09_numbers_l3 at hz6
                    refine l_seq (lr (fun u21 hu21 => sv rfl (sv rfl (sv rfl (s_nil (cc rfl hz6 (fun c9 hz6 => ?_) (fun c9 hz6 => ?_)))))))
                    · refine l_skip (l_seq (l_block (l_seq (l_draw rfl fun u22 hu22 => sp rfl rfl (sl rfl G_hit rfl (sv rfl (bs hz6 fun v6 hv6 hz6 => sd rfl (v_idx rfl rfl hv6 rfl) (sv rfl (sd rfl (v_loadL rfl hv6 rfl) (sp rfl rfl (sl rfl G_hit rfl (sv rfl (bs hz6 fun v7 hv7 hz6 => sd rfl (v_idx rfl rfl hv7 rfl) (sv rfl (sd rfl (v_loadL rfl hv7 rfl) (sv rfl (s_nil (cc rfl hz6 (fun c10 hz6 => ?_) (fun c10 hz6 => ?_)))))))))))))))))))
                      · refine lr (fun u23 hu23 => sv rfl (s_nil (l_ret ?_)))
                        obtain rfl := Option.some.inj hz6
                        obtain rfl := ez6 _ rfl
                        refine ⟨nofun, awl_ret ?_⟩
                        rw [Sum.elim_inr] at hz4
                        obtain rfl := Option.some.inj hz4
                        obtain rfl := ez4 _ rfl
                        refine ⟨nofun, awl_ret ?_⟩
                        rw [Sum.elim_inr] at h
                        obtain rfl := Option.some.inj h
                        exact fin_ok (.inr rfl) (resD1 (res_t rfl) rf_d) (.refl _)
                      · refine l_skip (l_end (l_reg fun u24 hu24 => sv rfl (sv rfl (sv rfl (s_nil (l_nil ?_))))))
                        obtain rfl := Option.some.inj hz6
                        exact ⟨rfl, (), (sbr rfl rfl)⟩
                    · refine l_exitN rfl ?_
                      obtain rfl := Option.some.inj hz6
                      obtain rfl := ez6 _ rfl
                      refine ⟨nofun, awl_pop rfl (l_j ?_)⟩
                      exact ⟨_, (), rfl, (sbr rfl rfl)⟩
                  · rintro _ ⟨y4, g6, rfl, q3⟩
                    rw [Sum.elim_inl] at hz4
                    refine l_sub q3 (l_seq (l_draw rfl fun u25 hu25 => sp rfl rfl (sl rfl G_hit rfl (sv rfl (bs hz4 fun v8 hv8 hz4 => sd rfl (v_idx rfl rfl hv8 rfl) (sv rfl (sd rfl (v_loadL rfl hv8 rfl) (sp rfl rfl (sp rfl rfl (sl rfl G_hit rfl (sv rfl (s_nil (cc rfl hz4 (fun c11 hz4 => ?_) (fun c11 hz4 => ?_))))))))))))))
                    · refine lr (fun u26 hu26 => sv rfl (s_nil (l_ret ?_)))
                      obtain rfl := Option.some.inj hz4
                      obtain rfl := ez4 _ rfl
                      refine ⟨nofun, awl_ret ?_⟩
                      rw [Sum.elim_inr] at h
                      obtain rfl := Option.some.inj h
                      exact fin_ok (.inr rfl) (resD1 (res_t rfl) rf_d) (.refl _)
                    · refine l_skip (l_end (l_reg fun u27 hu27 => sv rfl (sv rfl (sv rfl (s_nil (l_nil ?_))))))
                      obtain rfl := Option.some.inj hz4
                      exact ⟨rfl, (), (sbr rfl rfl)⟩
                · refine l_exitN rfl ?_
                  obtain rfl := Option.some.inj hz4
                  obtain rfl := ez4 _ rfl
                  refine ⟨nofun, awl_pop rfl (l_j ?_)⟩
                  exact ⟨_, (), rfl, (sbr rfl rfl)⟩
              · rintro _ ⟨y3, g4, rfl, q4⟩
                rw [Sum.elim_inl] at h
                refine l_sub q4 (lr (fun u28 hu28 => sv rfl (s_nil (l_ret ?_))))
                obtain rfl := Option.some.inj h
                exact fin_ok (.inr rfl) (resD1 (res_t rfl) rf_d) (.refl _)

noncomputable def ref09_Check_l3 (p1 : Convoy) (x3 : Int) : Option (Stp Int (Sum Unit Int)) :=
  cond (decide (x3 < (p1.Mates.length : Int))) ((geti p1.Mates x3).bind fun v6 => ((cond (v6.Ahead != 0) (ref09_Safe v6.S v6.V p1.Gap v6.Guess_) (some default))).bind fun v7 => ((cond ((!((v6.Ahead != 0) && (!v7))) && (v6.Until != 0)) (ref09_Safe v6.S v6.V p1.Gap v6.WardGuess) (some default))).bind fun v8 => cond (((v6.Ahead != 0) && (!v7)) || ((v6.Until != 0) && (!v8))) (some (.out (.inr 12))) (some (.go (w64 (x3 + 1))))) (some (.out (.inl ())))
noncomputable def ref09_Check_l2 (p1 : Convoy) (x2 : Int) : Option (Stp Int (Sum Unit Int)) :=
  cond (decide (x2 < (p1.Mates.length : Int))) ((geti p1.Mates x2).bind fun v5 => cond ((((x2 == 0) && (v5.Ahead != 0)) || (((decide (x2 > 0)) && (v5.Ahead == 0)) && (v5.Until == 0))) || ((v5.Ward == 0) && (v5.Until != 0))) (some (.out (.inr 10))) (some (.go (w64 (x2 + 1))))) (some (.out (.inl ())))
noncomputable def ref09_Check_l1 (p1 : Convoy) (x1 : Int) : Option (Stp Int (Sum Unit Int)) :=
  cond (decide (x1 < (p1.Mates.length : Int))) ((geti p1.Mates x1).bind fun v2 => (geti p1.Mates (w64 (x1 - 1))).bind fun v3 => (ref09_rear v3).bind fun v4 => cond (decide (v2.S ≥ v4)) (some (.out (.inr 11))) (some (.go (w64 (x1 + 1))))) (some (.out (.inl ())))
noncomputable def ref09_Check (p1 : Convoy) : Option Int :=
  (ref09_numbers p1).bind fun v1 => cond (v1 != 0) (some v1) (thenS (loop (ref09_Check_l1 p1) 1) (fun _ => thenS (loop (ref09_Check_l2 p1) 0) (fun _ => thenS (loop (ref09_Check_l3 p1) 0) (fun _ => ((cond (p1.Guest_.ID != 0) (ref09_stop p1.Guest_.V) (some default))).bind fun v9 => cond ((p1.Guest_.ID != 0) && (decide ((w64 (p1.Guest_.S + v9)) ≥ p1.Guest_.End))) (some 12) (some 0)) (fun r => some r)) (fun r => some r)) (fun r => some r))

/-- kerbstone/kerbstoneref09.Check -/
def ac_ref09_Check : AC := (.seq (.reg [oo 1 (.box 38 true (.t 0)), oo 2 (.mv (ci 0))]) (.seq (.seq (.reg [oo 9 (.load 13 true (.t 1)), oo 10 (.call (cf 78) [(.t 9)]), oo 3 (.mv (.t 10))]) (.seq (.reg [oo 11 (.mv (.t 3)), oo 12 (.bin .neq (.t 11) (ci 0))]) (.cond (.t 12) (.seq (.reg [oo 13 (.mv (.t 3)), oo 2 (.mv (.t 13))]) .ret) .skip))) (.seq (.seq (.reg [oo 4 (.mv (ci 1))]) (.block 0 (.loop (.seq (.seq (.reg [oo 14 (.mv (.t 4)), oo 15 (.fieldA 2 (.t 1)), oo 16 (.load 1 false (.t 15)), oo 17 (.len (.t 16)), oo 18 (.bin .lss (.t 14) (.t 17))]) (.cond (.t 18) .skip (.exit 0))) (.seq (.block 1 (.seq (.draw [oo 21 (.fieldA 2 (.t 1)), oo 22 (.load 1 false (.t 21)), oo 23 (.mv (.t 4)), oo 24 (.idxS 12 (.t 22) (.t 23)), oo 25 (.fieldA 1 (.t 24)), oo 26 (.load 1 false (.t 25)), oo 27 (.fieldA 2 (.t 1)), oo 28 (.load 1 false (.t 27)), oo 29 (.mv (.t 4)), oo 30 (.bin .sub (.t 29) (ci 1)), oo 31 (.idxS 12 (.t 28) (.t 30)), oo 32 (.load 12 true (.t 31)), oo 33 (.call (cf 70) [(.t 32)]), oo 34 (.bin .geq (.t 26) (.t 33))] []) (.cond (.t 34) (.seq (.reg [oo 2 (.mv (ci 11))]) .ret) .skip))) (.reg [oo 19 (.mv (.t 4)), oo 20 (.bin .add (.t 19) (ci 1)), oo 4 (.mv (.t 20))])))))) (.seq (.seq (.reg [oo 5 (.mv (ci 0))]) (.block 2 (.loop (.seq (.seq (.reg [oo 35 (.mv (.t 5)), oo 36 (.fieldA 2 (.t 1)), oo 37 (.load 1 false (.t 36)), oo 38 (.len (.t 37)), oo 39 (.bin .lss (.t 35) (.t 38))]) (.cond (.t 39) .skip (.exit 2))) (.seq (.block 3 (.seq (.reg [oo 42 (.fieldA 2 (.t 1)), oo 43 (.load 1 false (.t 42)), oo 44 (.mv (.t 5)), oo 45 (.idxS 12 (.t 43) (.t 44)), oo 46 (.load 12 true (.t 45)), oo 6 (.alloc 65 [z0, z0, z0, z0, z0, z0, z0, zf, z0, z0, z0, z0]), oe (.store 12 (.t 6) (.t 46))]) (.seq (.reg [oo 47 (.mv (.t 5)), oo 48 (.bin .eql (.t 47) (ci 0)), oo 49 (.mv (.t 48)), og 50 (.fieldA 4 (.t 6)) 49, og 51 (.load 1 false (.t 50)) 49, og 52 (.bin .neq (.t 51) (ci 0)) 49, oo 53 (.pick (.t 49) (.t 52) (.c zf)), oo 54 (.mv (.t 53)), oh 55 (.mv (.t 5)) 54, oh 56 (.bin .gtr (.t 55) (ci 0)) 54, oh 57 (.mv (.t 56)) 54, og 58 (.fieldA 4 (.t 6)) 57, og 59 (.load 1 false (.t 58)) 57, og 60 (.bin .eql (.t 59) (ci 0)) 57, oh 61 (.pick (.t 57) (.t 60) (.c zf)) 54, oh 62 (.mv (.t 61)) 54, og 63 (.fieldA 11 (.t 6)) 62, og 64 (.load 1 false (.t 63)) 62, og 65 (.bin .eql (.t 64) (ci 0)) 62, oh 66 (.pick (.t 62) (.t 65) (.c zf)) 54, oo 67 (.pick (.t 54) (.c (.v (.bool true))) (.t 66)), oo 68 (.mv (.t 67)), oh 69 (.fieldA 8 (.t 6)) 68, oh 70 (.load 1 false (.t 69)) 68, oh 71 (.bin .eql (.t 70) (ci 0)) 68, oh 72 (.mv (.t 71)) 68, og 73 (.fieldA 11 (.t 6)) 72, og 74 (.load 1 false (.t 73)) 72, og 75 (.bin .neq (.t 74) (ci 0)) 72, oh 76 (.pick (.t 72) (.t 75) (.c zf)) 68, oo 77 (.pick (.t 68) (.c (.v (.bool true))) (.t 76))]) (.cond (.t 77) (.seq (.reg [oo 2 (.mv (ci 10))]) .ret) .skip)))) (.reg [oo 40 (.mv (.t 5)), oo 41 (.bin .add (.t 40) (ci 1)), oo 5 (.mv (.t 41))])))))) (.seq (.seq (.reg [oo 7 (.mv (ci 0))]) (.block 4 (.loop (.seq (.seq (.reg [oo 78 (.mv (.t 7)), oo 79 (.fieldA 2 (.t 1)), oo 80 (.load 1 false (.t 79)), oo 81 (.len (.t 80)), oo 82 (.bin .lss (.t 78) (.t 81))]) (.cond (.t 82) .skip (.exit 4))) (.seq (.block 5 (.seq (.reg [oo 85 (.fieldA 2 (.t 1)), oo 86 (.load 1 false (.t 85)), oo 87 (.mv (.t 7)), oo 88 (.idxS 12 (.t 86) (.t 87)), oo 89 (.load 12 true (.t 88)), oo 8 (.alloc 65 [z0, z0, z0, z0, z0, z0, z0, zf, z0, z0, z0, z0]), oe (.store 12 (.t 8) (.t 89))]) (.seq (.reg [oo 90 (.fieldA 4 (.t 8)), oo 91 (.load 1 false (.t 90)), oo 92 (.bin .neq (.t 91) (ci 0)), oo 93 (.mv (.t 92)), og 94 (.fieldA 1 (.t 8)) 93, og 95 (.load 1 false (.t 94)) 93, og 96 (.fieldA 2 (.t 8)) 93, og 97 (.load 1 false (.t 96)) 93, og 98 (.fieldA 1 (.t 1)) 93, og 99 (.load 1 false (.t 98)) 93, og 100 (.fieldA 5 (.t 8)) 93, og 101 (.load 2 true (.t 100)) 93, og 102 (.call (cf 22) [(.t 95), (.t 97), (.t 99), (.t 101)]) 93, og 103 (.un .not (.t 102)) 93, oo 104 (.pick (.t 93) (.t 103) (.c zf)), oo 105 (.mv (.t 104)), oh 106 (.fieldA 11 (.t 8)) 105, oh 107 (.load 1 false (.t 106)) 105, oh 108 (.bin .neq (.t 107) (ci 0)) 105, oh 109 (.mv (.t 108)) 105, og 110 (.fieldA 1 (.t 8)) 109, og 111 (.load 1 false (.t 110)) 109, og 112 (.fieldA 2 (.t 8)) 109, og 113 (.load 1 false (.t 112)) 109, og 114 (.fieldA 1 (.t 1)) 109, og 115 (.load 1 false (.t 114)) 109, og 116 (.fieldA 9 (.t 8)) 109, og 117 (.load 2 true (.t 116)) 109, og 118 (.call (cf 22) [(.t 111), (.t 113), (.t 115), (.t 117)]) 109, og 119 (.un .not (.t 118)) 109, oh 120 (.pick (.t 109) (.t 119) (.c zf)) 105, oo 121 (.pick (.t 105) (.c (.v (.bool true))) (.t 120))]) (.cond (.t 121) (.seq (.reg [oo 2 (.mv (ci 12))]) .ret) .skip)))) (.reg [oo 83 (.mv (.t 7)), oo 84 (.bin .add (.t 83) (ci 1)), oo 7 (.mv (.t 84))])))))) (.seq (.seq (.draw [oo 122 (.fieldA 3 (.t 1)), oo 123 (.fieldA 0 (.t 122)), oo 124 (.load 1 false (.t 123)), oo 125 (.bin .neq (.t 124) (ci 0)), oo 126 (.mv (.t 125)), og 127 (.fieldA 3 (.t 1)) 126, og 128 (.fieldA 1 (.t 127)) 126, og 129 (.load 1 false (.t 128)) 126, og 130 (.fieldA 3 (.t 1)) 126, og 131 (.fieldA 2 (.t 130)) 126, og 132 (.load 1 false (.t 131)) 126, og 133 (.call (cf 63) [(.t 132)]) 126, og 134 (.bin .add (.t 129) (.t 133)) 126, og 135 (.fieldA 3 (.t 1)) 126, og 136 (.fieldA 4 (.t 135)) 126, og 137 (.load 1 false (.t 136)) 126, og 138 (.bin .geq (.t 134) (.t 137)) 126, oo 139 (.pick (.t 126) (.t 138) (.c zf))] []) (.cond (.t 139) (.seq (.reg [oo 2 (.mv (ci 12))]) .ret) .skip)) (.seq (.reg [oo 2 (.mv (ci 0))]) .ret)))))))
theorem fn_ref09_Check : FnOK Try.prog 33 140 [.t 2] ac_ref09_Check := ⟨_, _, Try.func33, rfl, Try.ntmps33, by kernel_rfl, ⟨fun _ => [], by kernel_rfl⟩, by kernel_rfl⟩
set_option maxHeartbeats 4000000 in
theorem ref09_Check_ok (p1 : Convoy) (r : Int) (h : ref09_Check p1 = some r) : PCall Try.prog 33 [(.agg (eConvoy p1))] (i64 r) := by
  refine l_call fn_ref09_Check (nl rfl) ?_
  unfold ref09_Check at h
  unfold ac_ref09_Check
  refine l_sub (s0 := ⟨T [(0, (.d _))], G []⟩) (sbr rfl rfl) ?_
  refine lr (fun u1 hu1 => sn rfl rfl (sv rfl (s_nil (l_seq (lr (fun u2 hu2 => sd rfl (v_loadG rfl G_hit rfl rfl) (bs h fun v1 hv1 h => s_call rfl rfl all2_refl (ref09_numbers_ok _  _ hv1) (.inl rfl) (sv rfl (s_nil (lr (fun u3 hu3 => sv rfl (sv rfl (s_nil (cc rfl h (fun c1 h => ?_) (fun c1 h => ?_)))))))))))))))
  · refine lr (fun u4 hu4 => sv rfl (sv rfl (s_nil (l_ret ?_))))
    obtain rfl := Option.some.inj h
    exact fin_ok (.inr rfl) (resD1 (res_t rfl) rf_d) (.refl _)
  · refine l_skip (l_seq (lr (fun u5 hu5 => sv rfl (s_nil (js h fun z1 hz1 h => l_join (fun s => ∃ (y1 : Unit) (g1 : Unit), z1 = .inl y1 ∧ Sb ⟨T [(1, (.ptr (1, u1) 0))], G [((1, u1), some (.box 38 (dConvoy p1)))]⟩ s) ?_ ?_)))))
    · refine l_block (l_loop (ref09_Check_l1 p1) (fun (x1 : Int) (g2 : Unit) => ⟨T [(1, (.ptr (1, u1) 0)), (4, (di x1))], G [((1, u1), some (.box 38 (dConvoy p1)))]⟩) 1 () _ hz1 (sbr rfl rfl) ?_)
      intro x1 g2 z2 hz2 ez2
      unfold ref09_Check_l1 at hz2
      refine l_seq (lr (fun u6 hu6 => sv rfl (sp rfl rfl (sl rfl G_hit rfl (sd rfl (v_len rfl) (sv rfl (s_nil (cc rfl hz2 (fun c2 hz2 => ?_) (fun c2 hz2 => ?_)))))))))
      · refine l_skip (l_seq (l_block (l_seq (l_draw rfl fun u7 hu7 => sp rfl rfl (sl rfl G_hit rfl (sv rfl (bs hz2 fun v2 hv2 hz2 => sd rfl (v_idx rfl rfl hv2 rfl) (sv rfl (sd rfl (v_loadL rfl hv2 rfl) (sp rfl rfl (sl rfl G_hit rfl (sv rfl (sv rfl (bs hz2 fun v3 hv3 hz2 => sd rfl (v_idx rfl rfl hv3 rfl) (sd rfl (v_loadLG rfl hv3 rfl rfl) (bs hz2 fun v4 hv4 hz2 => s_call rfl rfl all2_refl (ref09_rear_ok _  _ hv4) (.inl rfl) (sv rfl (s_nil (cc rfl hz2 (fun c3 hz2 => ?_) (fun c3 hz2 => ?_))))))))))))))))))))
        · refine lr (fun u8 hu8 => sv rfl (s_nil (l_ret ?_)))
          obtain rfl := Option.some.inj hz2
          obtain rfl := ez2 _ rfl
          refine ⟨nofun, awl_ret ?_⟩
          rw [Sum.elim_inr] at h
          obtain rfl := Option.some.inj h
          exact fin_ok (.inr rfl) (resD1 (res_t rfl) rf_d) (.refl _)
        · refine l_skip (l_end (l_reg fun u9 hu9 => sv rfl (sv rfl (sv rfl (s_nil (l_nil ?_))))))
          obtain rfl := Option.some.inj hz2
          exact ⟨rfl, (), (sbr rfl rfl)⟩
      · refine l_exitN rfl ?_
        obtain rfl := Option.some.inj hz2
        obtain rfl := ez2 _ rfl
        refine ⟨nofun, awl_pop rfl (l_j ?_)⟩
        exact ⟨_, (), rfl, (sbr rfl rfl)⟩
    · rintro _ ⟨y1, g1, rfl, q1⟩
      rw [Sum.elim_inl] at h
      refine l_sub q1 (l_seq (lr (fun u10 hu10 => sv rfl (s_nil (js h fun z3 hz3 h => l_join (fun s => ∃ (y2 : Unit) (g3 : Unit), z3 = .inl y2 ∧ Sb ⟨T [(1, (.ptr (1, u1) 0))], G [((1, u1), some (.box 38 (dConvoy p1)))]⟩ s) ?_ ?_)))))
      · refine l_block (l_loop (ref09_Check_l2 p1) (fun (x2 : Int) (g4 : Unit) => ⟨T [(1, (.ptr (1, u1) 0)), (5, (di x2))], G [((1, u1), some (.box 38 (dConvoy p1)))]⟩) 0 () _ hz3 (sbr rfl rfl) ?_)
        intro x2 g4 z4 hz4 ez4
        unfold ref09_Check_l2 at hz4
        refine l_seq (lr (fun u11 hu11 => sv rfl (sp rfl rfl (sl rfl G_hit rfl (sd rfl (v_len rfl) (sv rfl (s_nil (cc rfl hz4 (fun c4 hz4 => ?_) (fun c4 hz4 => ?_)))))))))
        · refine l_skip (l_seq (l_block (lr (fun u12 hu12 => sp rfl rfl (sl rfl G_hit rfl (sv rfl (bs hz4 fun v5 hv5 hz4 => sd rfl (v_idx rfl rfl hv5 rfl) (sd rfl (v_loadLG rfl hv5 rfl rfl) (sn rfl rfl (sst rfl G_hit (dMate v5) rfl (s_nil (lr (fun u13 hu13 => sv rfl (sv rfl (sv rfl (gp rfl (gw_t rfl) (fun _ => rfl) (gt rfl (vl rfl G_hit rfl) (gt rfl (vb rfl rfl rfl) (sa rfl rfl rfl (sv rfl (gf rfl (fun _ => rfl) (gf rfl (vb rfl rfl rfl) (gf rfl (fun w6 => (v_mv (gd_pos w6))) (g_val _ (.ptr _ _) rfl (gw_gt rfl) (fun _ => rfl) (gv rfl (gw_gt rfl) (vl rfl G_hit rfl) (gv rfl (gw_gt rfl) (vb rfl rfl rfl) (gf rfl (fun w10 => (v_and (gd_pos w10) (fun hc => gd_pos (and_i w10 hc)) rfl)) (gf rfl (fun w11 => (v_mv (gd_pos w11))) (g_val _ (.ptr _ _) rfl (gw_gt rfl) (fun _ => rfl) (gv rfl (gw_gt rfl) (vl rfl G_hit rfl) (gv rfl (gw_gt rfl) (vb rfl rfl rfl) (gf rfl (fun w15 => (v_and (gd_pos w15) (fun hc => gd_pos (and_i w15 hc)) rfl)) (sd rfl (v_or rfl rfl (fun hc => gd_pos (not_t hc))) (sv rfl (gp rfl (gw_f rfl) (fun _ => rfl) (gf rfl (vl rfl G_hit rfl) (gf rfl (vb rfl rfl rfl) (gf rfl (fun w19 => (v_mv (gd_pos w19))) (g_val _ (.ptr _ _) rfl (gw_gt rfl) (fun _ => rfl) (gv rfl (gw_gt rfl) (vl rfl G_hit rfl) (gv rfl (gw_gt rfl) (vb rfl rfl rfl) (gf rfl (fun w23 => (v_and (gd_pos w23) (fun hc => gd_pos (and_i w23 hc)) rfl)) (sd rfl (v_or rfl rfl (fun hc => gd_pos (not_t hc))) (s_nil (cc rfl hz4 (fun c5 hz4 => ?_) (fun c5 hz4 => ?_))))))))))))))))))))))))))))))))))))))))))))))
          · refine l_seq (l_sub (s0 := ⟨T [], G []⟩) (sbr rfl rfl) ?_)
            refine l_reg fun u14 hu14 => sv rfl (s_nil (l_ret ?_))
            obtain rfl := Option.some.inj hz4
            obtain rfl := ez4 _ rfl
            refine ⟨nofun, awl_ret ?_⟩
            rw [Sum.elim_inr] at h
            obtain rfl := Option.some.inj h
            exact fin_ok (.inr rfl) (resD1 (res_t rfl) rf_d) (.refl _)
          · refine l_skip (l_end (l_sub (s0 := ⟨T [(1, (.ptr _ _)), (5, (.d _))], G [((1, u1), some (.box 38 _))]⟩) (sbr rfl rfl) ?_))
            refine l_reg fun u15 hu15 => sv rfl (sv rfl (sv rfl (s_nil (l_nil ?_))))
            obtain rfl := Option.some.inj hz4
            exact ⟨rfl, (), (sbr rfl rfl)⟩
        · refine l_exitN rfl ?_
          obtain rfl := Option.some.inj hz4
          obtain rfl := ez4 _ rfl
          refine ⟨nofun, awl_pop rfl (l_j ?_)⟩
          exact ⟨_, (), rfl, (sbr rfl rfl)⟩
      · rintro _ ⟨y2, g3, rfl, q2⟩
        rw [Sum.elim_inl] at h
        refine l_sub q2 (l_seq (lr (fun u16 hu16 => sv rfl (s_nil (js h fun z5 hz5 h => l_join (fun s => ∃ (y3 : Unit) (g5 : Unit), z5 = .inl y3 ∧ Sb ⟨T [(1, (.ptr (1, u1) 0))], G [((1, u1), some (.box 38 (dConvoy p1)))]⟩ s) ?_ ?_)))))
        · refine l_block (l_loop (ref09_Check_l3 p1) (fun (x3 : Int) (g6 : Unit) => ⟨T [(1, (.ptr (1, u1) 0)), (7, (di x3))], G [((1, u1), some (.box 38 (dConvoy p1)))]⟩) 0 () _ hz5 (sbr rfl rfl) ?_)
          intro x3 g6 z6 hz6 ez6
          unfold ref09_Check_l3 at hz6
          refine l_seq (lr (fun u17 hu17 => sv rfl (sp rfl rfl (sl rfl G_hit rfl (sd rfl (v_len rfl) (sv rfl (s_nil (cc rfl hz6 (fun c6 hz6 => ?_) (fun c6 hz6 => ?_)))))))))
          · refine l_skip (l_seq (l_block (lr (fun u18 hu18 => sp rfl rfl (sl rfl G_hit rfl (sv rfl (bs hz6 fun v6 hv6 hz6 => sd rfl (v_idx rfl rfl hv6 rfl) (sd rfl (v_loadLG rfl hv6 rfl rfl) (sn rfl rfl (sst rfl G_hit (dMate v6) rfl (s_nil (lr (fun u19 hu19 => sp rfl rfl (sl rfl G_hit rfl (sv rfl (sv rfl (gp rfl (gw_t rfl) (fun _ => rfl) (gt rfl (vl rfl G_hit rfl) (gp rfl (gw_t rfl) (fun _ => rfl) (gt rfl (vl rfl G_hit rfl) (gp rfl (gw_t rfl) (fun _ => rfl) (gt rfl (vl rfl (gq rfl) rfl) (gp rfl (gw_t rfl) (fun _ => rfl) (gt rfl (fun w31 => (v_loadG (gd_pos w31) G_hit rfl rfl)) (bs hz6 fun v7 hv7 hz6 => ?_)))))))))))))))))))))))))
            refine g_call _ (bo v7) (gw_t rfl) (fun w32 => ⟨_, [(di v6.S), (di v6.V), (di p1.Gap), (.d (.agg [(i64 v6.Guess_.R), (i64 v6.Guess_.V)]))], _, _, (by simp only [gd_pos w32]; rfl), rfl, all2_refl, ref09_Safe_ok _ _ _ _  _ (cond_t w32 hv7), (.inl rfl)⟩) ?_
            refine g_val _ (.d (bo (!v7))) rfl (gw_t rfl) (fun w33 => (by simp only [gd_pos w33]; rfl)) ?_
            refine sa rfl rfl rfl (sv rfl (gp rfl (gw_f rfl) (fun _ => rfl) (gf rfl (vl rfl G_hit rfl) (gf rfl (vb rfl rfl rfl) (gf rfl (fun w37 => (v_mv (gd_pos w37))) (g_val _ (.ptr _ _) rfl (gw_gt rfl) (fun _ => rfl) (gv rfl (gw_gt rfl) (vl rfl G_hit rfl) (g_val _ (.ptr _ _) rfl (gw_gt rfl) (fun _ => rfl) (gv rfl (gw_gt rfl) (vl rfl G_hit rfl) (g_val _ (.ptr _ _) rfl (gw_gt rfl) (fun _ => rfl) (gv rfl (gw_gt rfl) (vl rfl (gq rfl) rfl) (g_val _ (.ptr _ _) rfl (gw_gt rfl) (fun _ => rfl) (gv rfl (gw_gt rfl) (fun w45 => (v_loadG (gd_pos w45) G_hit rfl rfl)) (bs hz6 fun v8 hv8 hz6 => ?_))))))))))))))
            refine g_call _ (bo v8) (gw_gt rfl) (fun w46 => ⟨_, [(di v6.S), (di v6.V), (di p1.Gap), (.d (.agg [(i64 v6.WardGuess.R), (i64 v6.WardGuess.V)]))], _, _, (by simp only [gd_pos w46]; rfl), rfl, all2_refl, ref09_Safe_ok _ _ _ _  _ (cond_t w46 hv8), (.inl rfl)⟩) ?_
            refine g_val _ (.d (bo (!v8))) rfl (gw_gt rfl) (fun w47 => (by simp only [gd_pos w47]; rfl)) ?_
            refine gf rfl (fun w48 => (v_and (gd_pos w48) (fun hc => gd_pos (and_i w48 hc)) rfl)) (sd rfl (v_or rfl rfl (fun hc => gd_pos (not_t hc))) (s_nil (cc rfl hz6 (fun c7 hz6 => ?_) (fun c7 hz6 => ?_))))
            · refine l_seq (l_sub (s0 := ⟨T [], G []⟩) (sbr rfl rfl) ?_)
              refine l_reg fun u20 hu20 => sv rfl (s_nil (l_ret ?_))
              obtain rfl := Option.some.inj hz6
              obtain rfl := ez6 _ rfl
              refine ⟨nofun, awl_ret ?_⟩
              rw [Sum.elim_inr] at h
              obtain rfl := Option.some.inj h
              exact fin_ok (.inr rfl) (resD1 (res_t rfl) rf_d) (.refl _)
            · refine l_skip (l_end (l_sub (s0 := ⟨T [(1, (.ptr _ _)), (7, (.d _))], G [((1, u1), some (.box 38 _))]⟩) (sbr rfl rfl) ?_))
              refine l_reg fun u21 hu21 => sv rfl (sv rfl (sv rfl (s_nil (l_nil ?_))))
              obtain rfl := Option.some.inj hz6
              exact ⟨rfl, (), (sbr rfl rfl)⟩
          · refine l_exitN rfl ?_
            obtain rfl := Option.some.inj hz6
            obtain rfl := ez6 _ rfl
            refine ⟨nofun, awl_pop rfl (l_j ?_)⟩
            exact ⟨_, (), rfl, (sbr rfl rfl)⟩
        · rintro _ ⟨y3, g5, rfl, q3⟩
          rw [Sum.elim_inl] at h
          refine l_sub q3 (l_seq (l_seq (l_draw rfl fun u22 hu22 => sp rfl rfl (sp rfl rfl (sl rfl G_hit rfl (sv rfl (sv rfl (gp rfl (gw_t rfl) (fun _ => rfl) ?_))))))))
          refine g_val _ (.ptr _ _) rfl (gw_t rfl) (fun w50 => (by simp only [gd_pos w50]; rfl)) ?_
          refine gt rfl (vl rfl G_hit rfl) (gp rfl (gw_t rfl) (fun _ => rfl) ?_)
          refine g_val _ (.ptr _ _) rfl (gw_t rfl) (fun w53 => (by simp only [gd_pos w53]; rfl)) ?_
          refine gt rfl (vl rfl G_hit rfl) (bs h fun v9 hv9 h => ?_)
          refine g_call _ (i64 v9) (gw_t rfl) (fun w55 => ⟨_, [(di p1.Guest_.V)], _, _, (by simp only [gd_pos w55]; rfl), rfl, all2_refl, ref09_stop_ok _  _ (cond_t w55 hv9), (.inl rfl)⟩) ?_
          refine gt rfl (fun w56 => (v_bin (gd_pos w56) (gd_pos w56) rfl)) (gp rfl (gw_t rfl) (fun _ => rfl) ?_)
          refine g_val _ (.ptr _ _) rfl (gw_t rfl) (fun w58 => (by simp only [gd_pos w58]; rfl)) ?_
          refine gt rfl (vl rfl G_hit rfl) (gt rfl (fun w60 => (v_bin (gd_pos w60) (gd_pos w60) rfl)) (sa rfl rfl rfl (s_nil (cc rfl h (fun c8 h => ?_) (fun c8 h => ?_)))))
          · refine lr (fun u23 hu23 => sv rfl (s_nil (l_ret ?_)))
            obtain rfl := Option.some.inj h
            exact fin_ok (.inr rfl) (resD1 (res_t rfl) rf_d) (.refl _)
          · refine l_skip (lr (fun u24 hu24 => sv rfl (s_nil (l_ret ?_))))
            obtain rfl := Option.some.inj h
            exact fin_ok (.inr rfl) (resD1 (res_t rfl) rf_d) (.refl _)

noncomputable def ref09_New_l1 (p2 : (List Mate)) (x1 : (Int × Convoy)) : Option (Stp (Int × Convoy) Convoy) :=
  cond (decide (x1.1 < (p2.length : Int))) ((geti p2 x1.1).bind fun v1 => (geti p2 x1.1).bind fun v2 => (geti p2 x1.1).bind fun v3 => (cond (decide (x1.1 > 0)) ((geti p2 (w64 (x1.1 - 1))).bind fun v4 => (ref09_rear v4).bind fun v5 => (geti p2 (w64 (x1.1 - 1))).bind fun v6 => some (Mate.mk (w64 (x1.1 + 1)) v1.S v2.V v3.Len x1.1 (Guess.mk v5 v6.V) true 0 (Guess.mk 0 0) 0)) (some (Mate.mk (w64 (x1.1 + 1)) v1.S v2.V v3.Len x1.1 (Guess.mk 0 0) true 0 (Guess.mk 0 0) 0))).bind fun y2 => (appc x1.2.Mates [y2]).bind fun v7 => some (.go ((w64 (x1.1 + 1)), (Convoy.mk x1.2.Tick x1.2.Gap v7 x1.2.Guest_)))) (some (.out x1.2))
noncomputable def ref09_New (p1 : Int) (p2 : (List Mate)) : Option (Convoy × Int) :=
  (loop (ref09_New_l1 p2) (0, (Convoy.mk 0 p1 [] (Guest.mk 0 0 0 0 0 0 (Guess.mk 0 0) 0 0)))).bind fun y1 => (ref09_Check y1).bind fun v8 => cond (v8 != 0) (some ((Convoy.mk 0 0 [] (Guest.mk 0 0 0 0 0 0 (Guess.mk 0 0) 0 0)), v8)) (some (y1, 0))

/-- kerbstone/kerbstoneref09.New -/
def ac_ref09_New : AC := (.seq (.reg [oo 4 (.alloc 38 [z0, z0, .nilS, z0, z0, z0, z0, z0, z0, z0, z0, z0, z0]), oo 5 (.mv (ci 0))]) (.seq (.reg [oo 10 (.mv (.t 0)), oo 11 (.build [z0, z0, .nilS, z0, z0, z0, z0, z0, z0, z0, z0, z0, z0] [(1, 1, (.t 10))]), oo 6 (.alloc 38 [z0, z0, .nilS, z0, z0, z0, z0, z0, z0, z0, z0, z0, z0]), oe (.store 13 (.t 6) (.t 11))]) (.seq (.seq (.reg [oo 7 (.mv (ci 0))]) (.block 0 (.loop (.seq (.seq (.reg [oo 12 (.mv (.t 7)), oo 13 (.mv (.t 1)), oo 14 (.len (.t 13)), oo 15 (.bin .lss (.t 12) (.t 14))]) (.cond (.t 15) .skip (.exit 0))) (.seq (.block 1 (.seq (.draw [oo 18 (.mv (.t 7)), oo 19 (.bin .add (.t 18) (ci 1)), oo 20 (.mv (.t 1)), oo 21 (.mv (.t 7)), oo 22 (.idxS 12 (.t 20) (.t 21)), oo 23 (.fieldA 1 (.t 22)), oo 24 (.load 1 false (.t 23)), oo 25 (.mv (.t 1)), oo 26 (.mv (.t 7)), oo 27 (.idxS 12 (.t 25) (.t 26)), oo 28 (.fieldA 2 (.t 27)), oo 29 (.load 1 false (.t 28)), oo 30 (.mv (.t 1)), oo 31 (.mv (.t 7)), oo 32 (.idxS 12 (.t 30) (.t 31)), oo 33 (.fieldA 3 (.t 32)), oo 34 (.load 1 false (.t 33)), oo 35 (.mv (.t 7)), oo 36 (.build [z0, z0, z0, z0, z0, z0, z0, zf, z0, z0, z0, z0] [(0, 1, (.t 19)), (1, 1, (.t 24)), (2, 1, (.t 29)), (3, 1, (.t 34)), (4, 1, (.t 35)), (7, 1, (.c (.v (.bool true))))]), oo 8 (.alloc 65 [z0, z0, z0, z0, z0, z0, z0, zf, z0, z0, z0, z0]), oe (.store 12 (.t 8) (.t 36))] []) (.seq (.seq (.reg [oo 37 (.mv (.t 7)), oo 38 (.bin .gtr (.t 37) (ci 0))]) (.cond (.t 38) (.draw [oo 39 (.mv (.t 1)), oo 40 (.mv (.t 7)), oo 41 (.bin .sub (.t 40) (ci 1)), oo 42 (.idxS 12 (.t 39) (.t 41)), oo 43 (.load 12 true (.t 42)), oo 44 (.call (cf 70) [(.t 43)]), oo 45 (.mv (.t 1)), oo 46 (.mv (.t 7)), oo 47 (.bin .sub (.t 46) (ci 1)), oo 48 (.idxS 12 (.t 45) (.t 47)), oo 49 (.fieldA 2 (.t 48)), oo 50 (.load 1 false (.t 49)), oo 51 (.build [z0, z0] [(0, 1, (.t 44)), (1, 1, (.t 50))]), oo 52 (.fieldA 5 (.t 8)), oe (.store 2 (.t 52) (.t 51))] []) .skip)) (.reg [oo 53 (.fieldA 2 (.t 6)), oo 54 (.load 1 false (.t 53)), oo 55 (.load 12 true (.t 8)), oo 56 (.dslice 65 12 1 [z0, z0, z0, z0, z0, z0, z0, zf, z0, z0, z0, z0] [(0, 12, (.t 55))]), oo 57 (.append 34 65 12 (.t 54) (.t 56)), oo 58 (.fieldA 2 (.t 6)), oe (.store 1 (.t 58) (.t 57))])))) (.reg [oo 16 (.mv (.t 7)), oo 17 (.bin .add (.t 16) (ci 1)), oo 7 (.mv (.t 17))])))))) (.seq (.seq (.reg [oo 59 (.load 13 true (.t 6)), oo 60 (.call (cf 33) [(.t 59)]), oo 9 (.mv (.t 60))]) (.seq (.reg [oo 61 (.mv (.t 9)), oo 62 (.bin .neq (.t 61) (ci 0))]) (.cond (.t 62) (.seq (.reg [oo 63 (.build [z0, z0, .nilS, z0, z0, z0, z0, z0, z0, z0, z0, z0, z0] []), oo 64 (.mv (.t 9)), oe (.store 13 (.t 4) (.t 63)), oo 5 (.mv (.t 64))]) .ret) .skip))) (.seq (.reg [oo 65 (.load 13 true (.t 6)), oe (.store 13 (.t 4) (.t 65)), oo 5 (.mv (ci 0))]) .ret)))))
theorem fn_ref09_New : FnOK Try.prog 44 66 [.cell 4 13 true, .t 5] ac_ref09_New := ⟨_, _, Try.func44, rfl, Try.ntmps44, by kernel_rfl, ⟨fun r => if r == 8 then [1003] else [], by kernel_rfl⟩, by kernel_rfl⟩
set_option maxHeartbeats 4000000 in
theorem ref09_New_ok (p1 : Int) (p2 : (List Mate)) (r : (Convoy × Int)) (h : ref09_New p1 p2 = some r) : PCall Try.prog 44 [(i64 p1), (.list (List.map eMate p2))] (.tup [(.agg (eConvoy r.1)), (i64 r.2)]) := by
  refine l_call fn_ref09_New (nl rfl) ?_
  unfold ref09_New at h
  unfold ac_ref09_New
  refine l_sub (s0 := ⟨T [(0, (.d _)), (1, (.d _))], G []⟩) (sbr rfl rfl) ?_
  refine lr (fun u1 hu1 => sn rfl rfl (sv rfl (s_nil (lr (fun u2 hu2 => sv rfl (sv rfl (sn rfl rfl (sst rfl G_hit [(di 0), (di p1), (.d .nilS), (di 0), (di 0), (di 0), (di 0), (di 0), (di 0), (di 0), (di 0), (di 0), (di 0)] rfl (s_nil (l_seq (lr (fun u3 hu3 => sv rfl (s_nil (bs h fun y1 hy1 h => l_join (fun s => ∃ g1 : Nat, Sb ⟨T [(4, (.ptr (4, u1) 0)), (6, (.ptr (6, u2) 0))], G [((4, u1), some (.box 38 [(di 0), (di 0), (.d .nilS), (di 0), (di 0), (di 0), (di 0), (di 0), (di 0), (di 0), (di 0), (di 0), (di 0)])), ((6, u2), some (.box 38 [(di y1.Tick), (di y1.Gap), (oS y1.Mates (57, g1)), (di y1.Guest_.ID), (di y1.Guest_.S), (di y1.Guest_.V), (di y1.Guest_.Len), (di y1.Guest_.End), (di y1.Guest_.Ahead), (di y1.Guest_.Guess_.R), (di y1.Guest_.Guess_.V), (di y1.Guest_.From), (di y1.Guest_.Until)])), ((57, g1), oB 65 12 eMate y1.Mates)]⟩ s) ?_ ?_))))))))))))))
  · refine l_block (l_loop (ref09_New_l1 p2) (fun (x1 : (Int × Convoy)) (g2 : Nat) => ⟨T [(1, (dl eMate p2)), (4, (.ptr (4, u1) 0)), (6, (.ptr (6, u2) 0)), (7, (di x1.1))], G [((4, u1), some (.box 38 [(di 0), (di 0), (.d .nilS), (di 0), (di 0), (di 0), (di 0), (di 0), (di 0), (di 0), (di 0), (di 0), (di 0)])), ((6, u2), some (.box 38 [(di x1.2.Tick), (di x1.2.Gap), (oS x1.2.Mates (57, g2)), (di x1.2.Guest_.ID), (di x1.2.Guest_.S), (di x1.2.Guest_.V), (di x1.2.Guest_.Len), (di x1.2.Guest_.End), (di x1.2.Guest_.Ahead), (di x1.2.Guest_.Guess_.R), (di x1.2.Guest_.Guess_.V), (di x1.2.Guest_.From), (di x1.2.Guest_.Until)])), ((57, g2), oB 65 12 eMate x1.2.Mates)]⟩) (0, (Convoy.mk 0 p1 [] (Guest.mk 0 0 0 0 0 0 (Guess.mk 0 0) 0 0))) 0 _ hy1 (sb_of ⟨.of rfl, .of rfl, .of rfl, .of rfl, trivial⟩ (sbG_some (gq rfl) (.of rfl) (sbG_some G_hit (.of rfl) (sbG_nil trivial)))) ?_)
    intro x1 g2 z1 hz1 ez1
    unfold ref09_New_l1 at hz1
    refine l_seq (lr (fun u4 hu4 => sv rfl (sv rfl (sd rfl (v_len rfl) (sv rfl (s_nil (cc rfl hz1 (fun c1 hz1 => ?_) (fun c1 hz1 => ?_))))))))
    · refine l_skip (l_seq (l_block (l_seq (l_draw rfl fun u5 hu5 => sv rfl (sv rfl (sv rfl (sv rfl (bs hz1 fun v1 hv1 hz1 => sd rfl (v_idx rfl rfl hv1 rfl) (sv rfl (sd rfl (v_loadL rfl hv1 rfl) (sv rfl (sv rfl (bs hz1 fun v2 hv2 hz1 => sd rfl (v_idx rfl rfl hv2 rfl) (sv rfl (sd rfl (v_loadL rfl hv2 rfl) (sv rfl (sv rfl (bs hz1 fun v3 hv3 hz1 => sd rfl (v_idx rfl rfl hv3 rfl) (sv rfl (sd rfl (v_loadL rfl hv3 rfl) (sv rfl (sv rfl (sn rfl rfl (sst rfl G_hit [(di (w64 (x1.1 + 1))), (di v1.S), (di v2.V), (di v3.Len), (di x1.1), (di 0), (di 0), (.d (bo true)), (di 0), (di 0), (di 0), (di 0)] rfl (s_nil (l_seq (l_seq (l_sub (s0 := ⟨T [(1, (dl eMate p2)), (4, (.ptr (4, u1) 0)), (6, (.ptr (6, u2) 0)), (7, (di x1.1)), (8, (.ptr (8, u5) 0))], G [((4, u1), some (.box 38 [(di 0), (di 0), (.d .nilS), (di 0), (di 0), (di 0), (di 0), (di 0), (di 0), (di 0), (di 0), (di 0), (di 0)])), ((6, u2), some (.box 38 [(di x1.2.Tick), (di x1.2.Gap), (oS x1.2.Mates (57, g2)), (di x1.2.Guest_.ID), (di x1.2.Guest_.S), (di x1.2.Guest_.V), (di x1.2.Guest_.Len), (di x1.2.Guest_.End), (di x1.2.Guest_.Ahead), (di x1.2.Guest_.Guess_.R), (di x1.2.Guest_.Guess_.V), (di x1.2.Guest_.From), (di x1.2.Guest_.Until)])), ((57, g2), oB 65 12 eMate x1.2.Mates), ((8, u5), some (.box 65 [(di (w64 (x1.1 + 1))), (di v1.S), (di v2.V), (di v3.Len), (di x1.1), (di 0), (di 0), (.d (bo true)), (di 0), (di 0), (di 0), (di 0)]))]⟩) (sb_of ⟨.of rfl, .of rfl, .of rfl, .of rfl, .of rfl, trivial⟩ (sbG_some (gq rfl) (.of rfl) (sbG_some (gq rfl) (.of rfl) (sbG_oB (gq rfl) (sbG_some G_hit (.of rfl) trivial))))) ?_))))))))))))))))))))))))))))
      refine l_reg fun u6 hu6 => sv rfl (sv rfl (s_nil (bs hz1 fun y2 hy2 hz1 => l_join (fun s => ∃ g3 : Unit, Sb ⟨T [(1, (dl eMate p2)), (4, (.ptr (4, u1) 0)), (6, (.ptr (6, u2) 0)), (7, (di x1.1)), (8, (.ptr (8, u5) 0))], G [((4, u1), some (.box 38 [(di 0), (di 0), (.d .nilS), (di 0), (di 0), (di 0), (di 0), (di 0), (di 0), (di 0), (di 0), (di 0), (di 0)])), ((6, u2), some (.box 38 [(di x1.2.Tick), (di x1.2.Gap), (oS x1.2.Mates (57, g2)), (di x1.2.Guest_.ID), (di x1.2.Guest_.S), (di x1.2.Guest_.V), (di x1.2.Guest_.Len), (di x1.2.Guest_.End), (di x1.2.Guest_.Ahead), (di x1.2.Guest_.Guess_.R), (di x1.2.Guest_.Guess_.V), (di x1.2.Guest_.From), (di x1.2.Guest_.Until)])), ((8, u5), some (.box 65 (dMate y2))), ((57, g2), oB 65 12 eMate x1.2.Mates)]⟩ s) ?_ ?_)))
      · refine cc rfl hy2 (fun c2 hy2 => ?_) (fun c2 hy2 => ?_)
        · refine l_draw rfl fun u7 hu7 => sv rfl (sv rfl (sv rfl (bs hy2 fun v4 hv4 hy2 => sd rfl (v_idx rfl rfl hv4 rfl) (sd rfl (v_loadLG rfl hv4 rfl rfl) (bs hy2 fun v5 hv5 hy2 => s_call rfl rfl all2_refl (ref09_rear_ok _  _ hv5) (.inl rfl) (sv rfl (sv rfl (sv rfl (bs hy2 fun v6 hv6 hy2 => sd rfl (v_idx rfl rfl hv6 rfl) (sv rfl (sd rfl (v_loadL rfl hv6 rfl) (sv rfl (sp rfl rfl (sst rfl (gq rfl) [(di (w64 (x1.1 + 1))), (di v1.S), (di v2.V), (di v3.Len), (di x1.1), (di v5), (di v6.V), (.d (bo true)), (di 0), (di 0), (di 0), (di 0)] rfl (s_nil ?_)))))))))))))))
          obtain rfl := Option.some.inj hy2
          exact l_j ⟨(), (sb_of ⟨.of rfl, .of rfl, .of rfl, .of rfl, .of rfl, trivial⟩ (sbG_some (gq rfl) (.of rfl) (sbG_some (gq rfl) (.of rfl) (sbG_some G_hit (.of rfl) (sbG_oB (gq rfl) trivial)))))⟩
        · refine l_skip ?_
          obtain rfl := Option.some.inj hy2
          exact l_j ⟨(), (sb_of ⟨.of rfl, .of rfl, .of rfl, .of rfl, .of rfl, trivial⟩ (sbG_some G_hit (.of rfl) (sbG_some (gq rfl) (.of rfl) (sbG_some (gq rfl) (.of rfl) (sbG_oB (gq rfl) trivial)))))⟩
      · rintro _ ⟨g3, q1⟩
        refine l_sub q1 (l_reg fun u8 hu8 => sp rfl rfl (s_val (oS x1.2.Mates (57, g2)) rfl (v_load rfl (gq rfl) rfl) (sd rfl (v_loadG rfl (gq rfl) rfl rfl) (s_val (dl eMate [y2]) rfl (v_dsliceN eMate ([y2] : List Mate) (fun _ => rfl) rfl rfl ⟨rfl, rfl, rfl, trivial⟩) (bs hz1 fun v7 hv7 hz1 => s_appendO eMate (57, g2) x1.2.Mates y2 [] _ (elems_list (fun _ => rfl)) rfl (gq rfl) hv7 (sp rfl rfl (sst rfl (gq rfl) [(di x1.2.Tick), (di x1.2.Gap), (.sl (57, u8)), (di x1.2.Guest_.ID), (di x1.2.Guest_.S), (di x1.2.Guest_.V), (di x1.2.Guest_.Len), (di x1.2.Guest_.End), (di x1.2.Guest_.Ahead), (di x1.2.Guest_.Guess_.R), (di x1.2.Guest_.Guess_.V), (di x1.2.Guest_.From), (di x1.2.Guest_.Until)] rfl (s_nil (l_end (l_reg fun u9 hu9 => sv rfl (sv rfl (sv rfl (s_nil (l_nil ?_))))))))))))))
        obtain rfl := Option.some.inj hz1
        exact ⟨rfl, u8, (sb_of ⟨.of rfl, .of rfl, .of rfl, .of rfl, trivial⟩ (sbG_some (gq rfl) (.of rfl) (sbG_some G_hit (.box (.cons (.of rfl) (.cons (.of rfl) (.cons (.of (oS_ne (appc_ne hv7)).symm) (.cons (.of rfl) (.cons (.of rfl) (.cons (.of rfl) (.cons (.of rfl) (.cons (.of rfl) (.cons (.of rfl) (.cons (.of rfl) (.cons (.of rfl) (.cons (.of rfl) (.cons (.of rfl) .nil)))))))))))))) (sbG_own (gq rfl) trivial))))⟩
    · refine l_exitN rfl ?_
      obtain rfl := Option.some.inj hz1
      obtain rfl := ez1 _ rfl
      refine ⟨nofun, awl_pop rfl (l_j ?_)⟩
      exact ⟨g2, (sb_of ⟨.of rfl, .of rfl, trivial⟩ (sbG_some G_hit (.of rfl) (sbG_some (gq rfl) (.of rfl) (sbG_oB (gq rfl) trivial))))⟩
  · rintro _ ⟨g1, q2⟩
    refine l_sub q2 (l_seq (lr (fun u10 hu10 => s_val (mkAgg [(di y1.Tick), (di y1.Gap), (oS y1.Mates (57, g1)), (di y1.Guest_.ID), (di y1.Guest_.S), (di y1.Guest_.V), (di y1.Guest_.Len), (di y1.Guest_.End), (di y1.Guest_.Ahead), (di y1.Guest_.Guess_.R), (di y1.Guest_.Guess_.V), (di y1.Guest_.From), (di y1.Guest_.Until)]) rfl (v_loadG rfl (gq rfl) rfl rfl) (bs h fun v8 hv8 h => s_call rfl (rfL_cons (rf_mkAgg (rfL_cons rf_d (rfL_cons rf_d (rfL_cons (rf_oS (gq rfl)) (rfL_cons rf_d (rfL_cons rf_d (rfL_cons rf_d (rfL_cons rf_d (rfL_cons rf_d (rfL_cons rf_d (rfL_cons rf_d (rfL_cons rf_d (rfL_cons rf_d (rfL_cons rf_d rfL_nil)))))))))))))) rfL_nil) (.cons (.agg (.cons ⟨(.refl _), rfl⟩ (.cons ⟨(.refl _), rfl⟩ (.cons ⟨oD_le, rfl⟩ (.cons ⟨(.refl _), rfl⟩ (.cons ⟨(.refl _), rfl⟩ (.cons ⟨(.refl _), rfl⟩ (.cons ⟨(.refl _), rfl⟩ (.cons ⟨(.refl _), rfl⟩ (.cons ⟨(.refl _), rfl⟩ (.cons ⟨(.refl _), rfl⟩ (.cons ⟨(.refl _), rfl⟩ (.cons ⟨(.refl _), rfl⟩ (.cons ⟨(.refl _), rfl⟩ .nil)))))))))))))) .nil) (ref09_Check_ok _  _ hv8) (.inr rfl) (sv rfl (s_nil (lr (fun u11 hu11 => sv rfl (sv rfl (s_nil (cc rfl h (fun c3 h => ?_) (fun c3 h => ?_))))))))))))
    · refine lr (fun u12 hu12 => sv rfl (sv rfl (sst rfl G_hit [(di 0), (di 0), (.d .nilS), (di 0), (di 0), (di 0), (di 0), (di 0), (di 0), (di 0), (di 0), (di 0), (di 0)] rfl (sv rfl (s_nil (l_ret ?_))))))
      obtain rfl := Option.some.inj h
      exact fin_ok (.inr rfl) (resD2 (res_cellG rfl G_hit (nl rfl) rfl) (res_t rfl) rf_d rf_d) (.tup (.cons (.agg (.cons ⟨(.refl _), rfl⟩ (.cons ⟨(.refl _), rfl⟩ (.cons ⟨DLe.nil, rfl⟩ (.cons ⟨(.refl _), rfl⟩ (.cons ⟨(.refl _), rfl⟩ (.cons ⟨(.refl _), rfl⟩ (.cons ⟨(.refl _), rfl⟩ (.cons ⟨(.refl _), rfl⟩ (.cons ⟨(.refl _), rfl⟩ (.cons ⟨(.refl _), rfl⟩ (.cons ⟨(.refl _), rfl⟩ (.cons ⟨(.refl _), rfl⟩ (.cons ⟨(.refl _), rfl⟩ .nil)))))))))))))) (.cons (.refl _) .nil)))
    · refine l_skip (lr (fun u13 hu13 => s_val (mkAgg [(di y1.Tick), (di y1.Gap), (oS y1.Mates (57, g1)), (di y1.Guest_.ID), (di y1.Guest_.S), (di y1.Guest_.V), (di y1.Guest_.Len), (di y1.Guest_.End), (di y1.Guest_.Ahead), (di y1.Guest_.Guess_.R), (di y1.Guest_.Guess_.V), (di y1.Guest_.From), (di y1.Guest_.Until)]) rfl (v_loadG rfl (gq rfl) rfl rfl) (s_store _ _ _ _ _ (cellsV_mkAgg _) rfl rfl G_hit (nl rfl) [(di y1.Tick), (di y1.Gap), (oS y1.Mates (57, g1)), (di y1.Guest_.ID), (di y1.Guest_.S), (di y1.Guest_.V), (di y1.Guest_.Len), (di y1.Guest_.End), (di y1.Guest_.Ahead), (di y1.Guest_.Guess_.R), (di y1.Guest_.Guess_.V), (di y1.Guest_.From), (di y1.Guest_.Until)] rfl (sv rfl (s_nil (l_ret ?_))))))
      obtain rfl := Option.some.inj h
      exact fin_ok (.inr rfl) (resD2 (res_cellG rfl G_hit (nl rfl) rfl) (res_t rfl) (rf_mkAgg (rfL_cons rf_d (rfL_cons rf_d (rfL_cons (rf_oS (gq rfl)) (rfL_cons rf_d (rfL_cons rf_d (rfL_cons rf_d (rfL_cons rf_d (rfL_cons rf_d (rfL_cons rf_d (rfL_cons rf_d (rfL_cons rf_d (rfL_cons rf_d (rfL_cons rf_d rfL_nil)))))))))))))) rf_d) (.tup (.cons (.agg (.cons ⟨(.refl _), rfl⟩ (.cons ⟨(.refl _), rfl⟩ (.cons ⟨oD_le, rfl⟩ (.cons ⟨(.refl _), rfl⟩ (.cons ⟨(.refl _), rfl⟩ (.cons ⟨(.refl _), rfl⟩ (.cons ⟨(.refl _), rfl⟩ (.cons ⟨(.refl _), rfl⟩ (.cons ⟨(.refl _), rfl⟩ (.cons ⟨(.refl _), rfl⟩ (.cons ⟨(.refl _), rfl⟩ (.cons ⟨(.refl _), rfl⟩ (.cons ⟨(.refl _), rfl⟩ .nil)))))))))))))) (.cons (.refl _) .nil)))

noncomputable def ref09_Copy (p1 : Convoy) : Option Convoy :=
  (appc ([] : List Mate) p1.Mates).bind fun v1 => some (Convoy.mk p1.Tick p1.Gap v1 p1.Guest_)

/-- kerbstone/kerbstoneref09.Copy -/
def ac_ref09_Copy : AC := (.seq (.reg [oo 1 (.box 38 true (.t 0)), oo 2 (.alloc 38 [z0, z0, .nilS, z0, z0, z0, z0, z0, z0, z0, z0, z0, z0])]) (.seq (.reg [oo 3 (.fieldA 2 (.t 1)), oo 4 (.load 1 false (.t 3)), oo 5 (.append 34 65 12 (.c .nilS) (.t 4)), oo 6 (.fieldA 2 (.t 1)), oe (.store 1 (.t 6) (.t 5))]) (.seq (.reg [oo 7 (.load 13 true (.t 1)), oe (.store 13 (.t 2) (.t 7))]) .ret)))
theorem fn_ref09_Copy : FnOK Try.prog 31 8 [.cell 2 13 true] ac_ref09_Copy := ⟨_, _, Try.func31, rfl, Try.ntmps31, by kernel_rfl, ⟨fun _ => [], by kernel_rfl⟩, by kernel_rfl⟩
theorem ref09_Copy_ok (p1 : Convoy) (r : Convoy) (h : ref09_Copy p1 = some r) : PCall Try.prog 31 [(.agg (eConvoy p1))] (.agg (eConvoy r)) := by
  refine l_call fn_ref09_Copy (nl rfl) ?_
  unfold ref09_Copy at h
  unfold ac_ref09_Copy
  refine l_sub (s0 := ⟨T [(0, (.d _))], G []⟩) (sbr rfl rfl) ?_
  refine lr (fun u1 hu1 => sn rfl rfl (sn rfl rfl (s_nil (lr (fun u2 hu2 => sp rfl rfl (sl rfl (gq rfl) rfl (bs h fun v1 hv1 h => s_appendG eMate (5, u2) ([] : List Mate) p1.Mates _ (elems_list (fun _ => rfl)) rfl (fresh_none hu2) hv1 (fresh_none hu2) (sp rfl rfl (s_store _ _ _ _ _ (cellsV_oS _ _) rfl rfl (gq rfl) (nl rfl) [(di p1.Tick), (di p1.Gap), (oS v1 (5, u2)), (di p1.Guest_.ID), (di p1.Guest_.S), (di p1.Guest_.V), (di p1.Guest_.Len), (di p1.Guest_.End), (di p1.Guest_.Ahead), (di p1.Guest_.Guess_.R), (di p1.Guest_.Guess_.V), (di p1.Guest_.From), (di p1.Guest_.Until)] rfl (s_nil (lr (fun u3 hu3 => s_val (mkAgg [(di p1.Tick), (di p1.Gap), (oS v1 (5, u2)), (di p1.Guest_.ID), (di p1.Guest_.S), (di p1.Guest_.V), (di p1.Guest_.Len), (di p1.Guest_.End), (di p1.Guest_.Ahead), (di p1.Guest_.Guess_.R), (di p1.Guest_.Guess_.V), (di p1.Guest_.From), (di p1.Guest_.Until)]) rfl (v_loadG rfl G_hit rfl rfl) (s_store _ _ _ _ _ (cellsV_mkAgg _) rfl rfl (gq rfl) (nl rfl) [(di p1.Tick), (di p1.Gap), (oS v1 (5, u2)), (di p1.Guest_.ID), (di p1.Guest_.S), (di p1.Guest_.V), (di p1.Guest_.Len), (di p1.Guest_.End), (di p1.Guest_.Ahead), (di p1.Guest_.Guess_.R), (di p1.Guest_.Guess_.V), (di p1.Guest_.From), (di p1.Guest_.Until)] rfl (s_nil (l_ret ?_)))))))))))))))
  obtain rfl := Option.some.inj h
  exact fin_ok (.inr rfl) (resD1 (res_cellG rfl G_hit (nl rfl) rfl) (rf_mkAgg (rfL_cons rf_d (rfL_cons rf_d (rfL_cons (rf_oS (gq rfl)) (rfL_cons rf_d (rfL_cons rf_d (rfL_cons rf_d (rfL_cons rf_d (rfL_cons rf_d (rfL_cons rf_d (rfL_cons rf_d (rfL_cons rf_d (rfL_cons rf_d (rfL_cons rf_d rfL_nil))))))))))))))) (.agg (.cons ⟨(.refl _), rfl⟩ (.cons ⟨(.refl _), rfl⟩ (.cons ⟨oD_le, rfl⟩ (.cons ⟨(.refl _), rfl⟩ (.cons ⟨(.refl _), rfl⟩ (.cons ⟨(.refl _), rfl⟩ (.cons ⟨(.refl _), rfl⟩ (.cons ⟨(.refl _), rfl⟩ (.cons ⟨(.refl _), rfl⟩ (.cons ⟨(.refl _), rfl⟩ (.cons ⟨(.refl _), rfl⟩ (.cons ⟨(.refl _), rfl⟩ (.cons ⟨(.refl _), rfl⟩ .nil))))))))))))))

noncomputable def ref09_Ramp_l1 (p1 : Convoy) (p2 : Guest) (x1 : (Bool × Int)) : Option (Stp (Bool × Int) Bool) :=
  cond (decide (x1.2 < (p1.Mates.length : Int))) (((cond (!x1.1) (geti p1.Mates x1.2) (some default))).bind fun v2 => ((cond (!(x1.1 || (v2.ID == p2.ID))) (geti p1.Mates x1.2) (some default))).bind fun v3 => some (.go (((x1.1 || (v2.ID == p2.ID)) || ((v3.Ward == p2.ID) && (p2.ID != 0))), (w64 (x1.2 + 1))))) (some (.out x1.1))
noncomputable def ref09_Ramp (p1 : Convoy) (p2 : Guest) : Option (Convoy × Int) :=
  (ref09_Check p1).bind fun v1 => cond (v1 != 0) (some ((Convoy.mk 0 0 [] (Guest.mk 0 0 0 0 0 0 (Guess.mk 0 0) 0 0)), v1)) ((loop (ref09_Ramp_l1 p1 p2) ((p1.Guest_.ID != 0), 0)).bind fun y1 => cond y1 (some ((Convoy.mk 0 0 [] (Guest.mk 0 0 0 0 0 0 (Guess.mk 0 0) 0 0)), 9)) (cond (p2.ID == 0) (some ((Convoy.mk 0 0 [] (Guest.mk 0 0 0 0 0 0 (Guess.mk 0 0) 0 0)), 2)) ((ref09_Copy p1).bind fun v4 => (ref09_Check (Convoy.mk v4.Tick v4.Gap v4.Mates (Guest.mk p2.ID p2.S p2.V p2.Len p2.End 0 (Guess.mk 0 0) 0 0))).bind fun v5 => cond (v5 != 0) (some ((Convoy.mk 0 0 [] (Guest.mk 0 0 0 0 0 0 (Guess.mk 0 0) 0 0)), v5)) (some ((Convoy.mk v4.Tick v4.Gap v4.Mates (Guest.mk p2.ID p2.S p2.V p2.Len p2.End 0 (Guess.mk 0 0) 0 0)), 0)))))

/-- kerbstone/kerbstoneref09.Ramp -/
def ac_ref09_Ramp : AC := (.seq (.reg [oo 2 (.box 38 true (.t 0)), oo 3 (.box 36 true (.t 1)), oo 4 (.alloc 38 [z0, z0, .nilS, z0, z0, z0, z0, z0, z0, z0, z0, z0, z0]), oo 5 (.mv (ci 0))]) (.seq (.seq (.reg [oo 11 (.load 13 true (.t 2)), oo 12 (.call (cf 33) [(.t 11)]), oo 6 (.mv (.t 12))]) (.seq (.reg [oo 13 (.mv (.t 6)), oo 14 (.bin .neq (.t 13) (ci 0))]) (.cond (.t 14) (.seq (.reg [oo 15 (.build [z0, z0, .nilS, z0, z0, z0, z0, z0, z0, z0, z0, z0, z0] []), oo 16 (.mv (.t 6)), oe (.store 13 (.t 4) (.t 15)), oo 5 (.mv (.t 16))]) .ret) .skip))) (.seq (.reg [oo 17 (.fieldA 3 (.t 2)), oo 18 (.fieldA 0 (.t 17)), oo 19 (.load 1 false (.t 18)), oo 20 (.bin .neq (.t 19) (ci 0)), oo 7 (.mv (.t 20))]) (.seq (.seq (.reg [oo 8 (.mv (ci 0))]) (.block 0 (.loop (.seq (.seq (.reg [oo 21 (.mv (.t 8)), oo 22 (.fieldA 2 (.t 2)), oo 23 (.load 1 false (.t 22)), oo 24 (.len (.t 23)), oo 25 (.bin .lss (.t 21) (.t 24))]) (.cond (.t 25) .skip (.exit 0))) (.seq (.block 1 (.draw [oo 28 (.mv (.t 7)), oo 29 (.mv (.t 28)), oh 30 (.fieldA 2 (.t 2)) 29, oh 31 (.load 1 false (.t 30)) 29, oh 32 (.mv (.t 8)) 29, oh 33 (.idxS 12 (.t 31) (.t 32)) 29, oh 34 (.fieldA 0 (.t 33)) 29, oh 35 (.load 1 false (.t 34)) 29, oh 36 (.fieldA 0 (.t 3)) 29, oh 37 (.load 1 false (.t 36)) 29, oh 38 (.bin .eql (.t 35) (.t 37)) 29, oo 39 (.pick (.t 29) (.c (.v (.bool true))) (.t 38)), oo 40 (.mv (.t 39)), oh 41 (.fieldA 2 (.t 2)) 40, oh 42 (.load 1 false (.t 41)) 40, oh 43 (.mv (.t 8)) 40, oh 44 (.idxS 12 (.t 42) (.t 43)) 40, oh 45 (.fieldA 8 (.t 44)) 40, oh 46 (.load 1 false (.t 45)) 40, oh 47 (.fieldA 0 (.t 3)) 40, oh 48 (.load 1 false (.t 47)) 40, oh 49 (.bin .eql (.t 46) (.t 48)) 40, oh 50 (.mv (.t 49)) 40, og 51 (.fieldA 0 (.t 3)) 50, og 52 (.load 1 false (.t 51)) 50, og 53 (.bin .neq (.t 52) (ci 0)) 50, oh 54 (.pick (.t 50) (.t 53) (.c zf)) 40, oo 55 (.pick (.t 40) (.c (.v (.bool true))) (.t 54)), oo 7 (.mv (.t 55))] [])) (.reg [oo 26 (.mv (.t 8)), oo 27 (.bin .add (.t 26) (ci 1)), oo 8 (.mv (.t 27))])))))) (.seq (.seq (.reg [oo 56 (.mv (.t 7))]) (.cond (.t 56) (.seq (.reg [oo 57 (.build [z0, z0, .nilS, z0, z0, z0, z0, z0, z0, z0, z0, z0, z0] []), oe (.store 13 (.t 4) (.t 57)), oo 5 (.mv (ci 9))]) .ret) .skip)) (.seq (.seq (.reg [oo 58 (.fieldA 0 (.t 3)), oo 59 (.load 1 false (.t 58)), oo 60 (.bin .eql (.t 59) (ci 0))]) (.cond (.t 60) (.seq (.reg [oo 61 (.build [z0, z0, .nilS, z0, z0, z0, z0, z0, z0, z0, z0, z0, z0] []), oe (.store 13 (.t 4) (.t 61)), oo 5 (.mv (ci 2))]) .ret) .skip)) (.seq (.reg [oo 62 (.load 13 true (.t 2)), oo 63 (.call (cf 31) [(.t 62)]), oo 9 (.alloc 38 [z0, z0, .nilS, z0, z0, z0, z0, z0, z0, z0, z0, z0, z0]), oe (.store 13 (.t 9) (.t 63))]) (.seq (.reg [oo 64 (.fieldA 0 (.t 3)), oo 65 (.load 1 false (.t 64)), oo 66 (.fieldA 1 (.t 3)), oo 67 (.load 1 false (.t 66)), oo 68 (.fieldA 2 (.t 3)), oo 69 (.load 1 false (.t 68)), oo 70 (.fieldA 3 (.t 3)), oo 71 (.load 1 false (.t 70)), oo 72 (.fieldA 4 (.t 3)), oo 73 (.load 1 false (.t 72)), oo 74 (.build [z0, z0, z0, z0, z0, z0, z0, z0, z0, z0] [(0, 1, (.t 65)), (1, 1, (.t 67)), (2, 1, (.t 69)), (3, 1, (.t 71)), (4, 1, (.t 73))]), oo 75 (.fieldA 3 (.t 9)), oe (.store 10 (.t 75) (.t 74))]) (.seq (.seq (.reg [oo 76 (.load 13 true (.t 9)), oo 77 (.call (cf 33) [(.t 76)]), oo 10 (.mv (.t 77))]) (.seq (.reg [oo 78 (.mv (.t 10)), oo 79 (.bin .neq (.t 78) (ci 0))]) (.cond (.t 79) (.seq (.reg [oo 80 (.build [z0, z0, .nilS, z0, z0, z0, z0, z0, z0, z0, z0, z0, z0] []), oo 81 (.mv (.t 10)), oe (.store 13 (.t 4) (.t 80)), oo 5 (.mv (.t 81))]) .ret) .skip))) (.seq (.reg [oo 82 (.load 13 true (.t 9)), oe (.store 13 (.t 4) (.t 82)), oo 5 (.mv (ci 0))]) .ret))))))))))
theorem fn_ref09_Ramp : FnOK Try.prog 46 83 [.cell 4 13 true, .t 5] ac_ref09_Ramp := ⟨_, _, Try.func46, rfl, Try.ntmps46, by kernel_rfl, ⟨fun _ => [], by kernel_rfl⟩, by kernel_rfl⟩
set_option maxHeartbeats 4000000 in
theorem ref09_Ramp_ok (p1 : Convoy) (p2 : Guest) (r : (Convoy × Int)) (h : ref09_Ramp p1 p2 = some r) : PCall Try.prog 46 [(.agg (eConvoy p1)), (.agg (eGuest p2))] (.tup [(.agg (eConvoy r.1)), (i64 r.2)]) := by
  refine l_call fn_ref09_Ramp (nl rfl) ?_
  unfold ref09_Ramp at h
  unfold ac_ref09_Ramp
  refine l_sub (s0 := ⟨T [(0, (.d _)), (1, (.d _))], G []⟩) (sbr rfl rfl) ?_
  refine lr (fun u1 hu1 => sn rfl rfl (sn rfl rfl (sn rfl rfl (sv rfl (s_nil (l_seq (lr (fun u2 hu2 => sd rfl (v_loadG rfl (gq rfl) rfl rfl) (bs h fun v1 hv1 h => s_call rfl rfl all2_refl (ref09_Check_ok _  _ hv1) (.inl rfl) (sv rfl (s_nil (lr (fun u3 hu3 => sv rfl (sv rfl (s_nil (cc rfl h (fun c1 h => ?_) (fun c1 h => ?_)))))))))))))))))
  · refine lr (fun u4 hu4 => sv rfl (sv rfl (sst rfl G_hit [(di 0), (di 0), (.d .nilS), (di 0), (di 0), (di 0), (di 0), (di 0), (di 0), (di 0), (di 0), (di 0), (di 0)] rfl (sv rfl (s_nil (l_ret ?_))))))
    obtain rfl := Option.some.inj h
    exact fin_ok (.inr rfl) (resD2 (res_cellG rfl G_hit (nl rfl) rfl) (res_t rfl) rf_d rf_d) (.tup (.cons (.agg (.cons ⟨(.refl _), rfl⟩ (.cons ⟨(.refl _), rfl⟩ (.cons ⟨DLe.nil, rfl⟩ (.cons ⟨(.refl _), rfl⟩ (.cons ⟨(.refl _), rfl⟩ (.cons ⟨(.refl _), rfl⟩ (.cons ⟨(.refl _), rfl⟩ (.cons ⟨(.refl _), rfl⟩ (.cons ⟨(.refl _), rfl⟩ (.cons ⟨(.refl _), rfl⟩ (.cons ⟨(.refl _), rfl⟩ (.cons ⟨(.refl _), rfl⟩ (.cons ⟨(.refl _), rfl⟩ .nil)))))))))))))) (.cons (.refl _) .nil)))
  · refine l_skip (lr (fun u5 hu5 => sp rfl rfl (sp rfl rfl (sl rfl (gq rfl) rfl (sv rfl (sv rfl (s_nil (l_seq (lr (fun u6 hu6 => sv rfl (s_nil (bs h fun y1 hy1 h => l_join (fun s => ∃ g1 : Unit, Sb ⟨T [(2, (.ptr (2, u1) 0)), (3, (.ptr (3, u1) 0)), (4, (.ptr (4, u1) 0)), (7, (.d (bo y1)))], G [((2, u1), some (.box 38 (dConvoy p1))), ((3, u1), some (.box 36 (dGuest p2))), ((4, u1), some (.box 38 [(di 0), (di 0), (.d .nilS), (di 0), (di 0), (di 0), (di 0), (di 0), (di 0), (di 0), (di 0), (di 0), (di 0)]))]⟩ s) ?_ ?_))))))))))))
    · refine l_block (l_loop (ref09_Ramp_l1 p1 p2) (fun (x1 : (Bool × Int)) (g2 : Unit) => ⟨T [(2, (.ptr (2, u1) 0)), (3, (.ptr (3, u1) 0)), (4, (.ptr (4, u1) 0)), (7, (.d (bo x1.1))), (8, (di x1.2))], G [((2, u1), some (.box 38 (dConvoy p1))), ((3, u1), some (.box 36 (dGuest p2))), ((4, u1), some (.box 38 [(di 0), (di 0), (.d .nilS), (di 0), (di 0), (di 0), (di 0), (di 0), (di 0), (di 0), (di 0), (di 0), (di 0)]))]⟩) ((p1.Guest_.ID != 0), 0) () _ hy1 (sbr rfl rfl) ?_)
      intro x1 g2 z1 hz1 ez1
      unfold ref09_Ramp_l1 at hz1
      refine l_seq (lr (fun u7 hu7 => sv rfl (sp rfl rfl (sl rfl G_hit rfl (sd rfl (v_len rfl) (sv rfl (s_nil (cc rfl hz1 (fun c2 hz1 => ?_) (fun c2 hz1 => ?_)))))))))
      · refine l_skip (l_seq (l_block (l_draw rfl fun u8 hu8 => sv rfl (sv rfl (gp rfl (gw_f rfl) (fun _ => rfl) (gf rfl (vl rfl G_hit rfl) (gf rfl (fun _ => rfl) (bs hz1 fun v2 hv2 hz1 => gf rfl (fun w4 => (v_idx (gd_pos w4) (gd_pos w4) (cond_t w4 hv2) rfl)) ?_))))))))
        refine gf rfl (fun w5 => (by simp only [gd_pos w5]; rfl)) ?_
        refine gf rfl (fun w6 => (v_loadL (gd_pos w6) (cond_t w6 hv2) rfl)) (gp rfl (gw_f rfl) (fun _ => rfl) (gf rfl (vl rfl (gq rfl) rfl) (gf rfl (fun w9 => (v_bin (gd_pos w9) (gd_pos w9) rfl)) (sd rfl (v_or rfl rfl (fun hc => gd_pos (not_t hc))) (sv rfl (gp rfl (gw_f rfl) (fun _ => rfl) (gf rfl (vl rfl G_hit rfl) (gf rfl (fun _ => rfl) (bs hz1 fun v3 hv3 hz1 => gf rfl (fun w13 => (v_idx (gd_pos w13) (gd_pos w13) (cond_t w13 hv3) rfl)) ?_)))))))))
        refine gf rfl (fun w14 => (by simp only [gd_pos w14]; rfl)) ?_
        refine gf rfl (fun w15 => (v_loadL (gd_pos w15) (cond_t w15 hv3) rfl)) (gp rfl (gw_f rfl) (fun _ => rfl) (gf rfl (vl rfl (gq rfl) rfl) (gf rfl (fun w18 => (v_bin (gd_pos w18) (gd_pos w18) rfl)) (gf rfl (fun w19 => (v_mv (gd_pos w19))) (g_val _ (.ptr _ _) rfl (gw_gt rfl) (fun _ => rfl) (gv rfl (gw_gt rfl) (vl rfl (gq rfl) rfl) (gv rfl (gw_gt rfl) (vb rfl rfl rfl) (gf rfl (fun w23 => (v_and (gd_pos w23) (fun hc => gd_pos (and_i w23 hc)) rfl)) (sd rfl (v_or rfl rfl (fun hc => gd_pos (not_t hc))) (sv rfl (s_nil (l_end (l_sub (s0 := ⟨T [(2, (.ptr _ _)), (3, (.ptr _ _)), (4, (.ptr _ _)), (7, (.d _)), (8, (.d _))], G [((2, u1), some (.box 38 _)), ((3, u1), some (.box 36 _)), ((4, u1), some (.box 38 _))]⟩) (sbr rfl rfl) ?_)))))))))))))
        refine l_reg fun u9 hu9 => sv rfl (sv rfl (sv rfl (s_nil (l_nil ?_))))
        obtain rfl := Option.some.inj hz1
        exact ⟨rfl, (), (sbr rfl rfl)⟩
      · refine l_exitN rfl ?_
        obtain rfl := Option.some.inj hz1
        obtain rfl := ez1 _ rfl
        refine ⟨nofun, awl_pop rfl (l_j ?_)⟩
        exact ⟨(), (sbr rfl rfl)⟩
    · rintro _ ⟨g1, q1⟩
      refine l_sub q1 (l_seq (lr (fun u10 hu10 => sv rfl (s_nil (cc rfl h (fun c3 h => ?_) (fun c3 h => ?_))))))
      · refine lr (fun u11 hu11 => sv rfl (sst rfl (gq rfl) [(di 0), (di 0), (.d .nilS), (di 0), (di 0), (di 0), (di 0), (di 0), (di 0), (di 0), (di 0), (di 0), (di 0)] rfl (sv rfl (s_nil (l_ret ?_)))))
        obtain rfl := Option.some.inj h
        exact fin_ok (.inr rfl) (resD2 (res_cellG rfl G_hit (nl rfl) rfl) (res_t rfl) rf_d rf_d) (.tup (.cons (.agg (.cons ⟨(.refl _), rfl⟩ (.cons ⟨(.refl _), rfl⟩ (.cons ⟨DLe.nil, rfl⟩ (.cons ⟨(.refl _), rfl⟩ (.cons ⟨(.refl _), rfl⟩ (.cons ⟨(.refl _), rfl⟩ (.cons ⟨(.refl _), rfl⟩ (.cons ⟨(.refl _), rfl⟩ (.cons ⟨(.refl _), rfl⟩ (.cons ⟨(.refl _), rfl⟩ (.cons ⟨(.refl _), rfl⟩ (.cons ⟨(.refl _), rfl⟩ (.cons ⟨(.refl _), rfl⟩ .nil)))))))))))))) (.cons (.refl _) .nil)))
      · refine l_skip (l_seq (lr (fun u12 hu12 => sp rfl rfl (sl rfl (gq rfl) rfl (sv rfl (s_nil (cc rfl h (fun c4 h => ?_) (fun c4 h => ?_))))))))
        · refine lr (fun u13 hu13 => sv rfl (sst rfl (gq rfl) [(di 0), (di 0), (.d .nilS), (di 0), (di 0), (di 0), (di 0), (di 0), (di 0), (di 0), (di 0), (di 0), (di 0)] rfl (sv rfl (s_nil (l_ret ?_)))))
          obtain rfl := Option.some.inj h
          exact fin_ok (.inr rfl) (resD2 (res_cellG rfl G_hit (nl rfl) rfl) (res_t rfl) rf_d rf_d) (.tup (.cons (.agg (.cons ⟨(.refl _), rfl⟩ (.cons ⟨(.refl _), rfl⟩ (.cons ⟨DLe.nil, rfl⟩ (.cons ⟨(.refl _), rfl⟩ (.cons ⟨(.refl _), rfl⟩ (.cons ⟨(.refl _), rfl⟩ (.cons ⟨(.refl _), rfl⟩ (.cons ⟨(.refl _), rfl⟩ (.cons ⟨(.refl _), rfl⟩ (.cons ⟨(.refl _), rfl⟩ (.cons ⟨(.refl _), rfl⟩ (.cons ⟨(.refl _), rfl⟩ (.cons ⟨(.refl _), rfl⟩ .nil)))))))))))))) (.cons (.refl _) .nil)))
        · refine l_skip (lr (fun u14 hu14 => sd rfl (v_loadG rfl G_hit rfl rfl) (bs h fun v4 hv4 h => s_call rfl rfl all2_refl (ref09_Copy_ok _  _ hv4) (.inl rfl) (sn rfl rfl (sst rfl G_hit (dConvoy v4) rfl (s_nil (lr (fun u15 hu15 => sp rfl rfl (sl rfl (gq rfl) rfl (sp rfl rfl (sl rfl (gq rfl) rfl (sp rfl rfl (sl rfl (gq rfl) rfl (sp rfl rfl (sl rfl (gq rfl) rfl (sp rfl rfl (sl rfl (gq rfl) rfl (sv rfl (sp rfl rfl (sst rfl G_hit [(di v4.Tick), (di v4.Gap), (dl eMate v4.Mates), (di p2.ID), (di p2.S), (di p2.V), (di p2.Len), (di p2.End), (di 0), (di 0), (di 0), (di 0), (di 0)] rfl (s_nil (l_seq (l_seq (l_sub (s0 := ⟨T [(4, (.ptr _ _)), (9, (.ptr _ _))], G [((4, u1), some (.box 38 _)), ((9, u14), some (.box 38 _))]⟩) (sbr rfl rfl) ?_))))))))))))))))))))))))
          refine l_reg fun u16 hu16 => sd rfl (v_loadG rfl (gq rfl) rfl rfl) (bs h fun v5 hv5 h => s_call rfl rfl all2_refl (ref09_Check_ok _  _ hv5) (.inl rfl) (sv rfl (s_nil (lr (fun u17 hu17 => sv rfl (sv rfl (s_nil (cc rfl h (fun c5 h => ?_) (fun c5 h => ?_)))))))))
          · refine lr (fun u18 hu18 => sv rfl (sv rfl (sst rfl G_hit [(di 0), (di 0), (.d .nilS), (di 0), (di 0), (di 0), (di 0), (di 0), (di 0), (di 0), (di 0), (di 0), (di 0)] rfl (sv rfl (s_nil (l_ret ?_))))))
            obtain rfl := Option.some.inj h
            exact fin_ok (.inr rfl) (resD2 (res_cellG rfl G_hit (nl rfl) rfl) (res_t rfl) rf_d rf_d) (.tup (.cons (.agg (.cons ⟨(.refl _), rfl⟩ (.cons ⟨(.refl _), rfl⟩ (.cons ⟨DLe.nil, rfl⟩ (.cons ⟨(.refl _), rfl⟩ (.cons ⟨(.refl _), rfl⟩ (.cons ⟨(.refl _), rfl⟩ (.cons ⟨(.refl _), rfl⟩ (.cons ⟨(.refl _), rfl⟩ (.cons ⟨(.refl _), rfl⟩ (.cons ⟨(.refl _), rfl⟩ (.cons ⟨(.refl _), rfl⟩ (.cons ⟨(.refl _), rfl⟩ (.cons ⟨(.refl _), rfl⟩ .nil)))))))))))))) (.cons (.refl _) .nil)))
          · refine l_skip (lr (fun u19 hu19 => sd rfl (v_loadG rfl (gq rfl) rfl rfl) (sst rfl G_hit [(di v4.Tick), (di v4.Gap), (dl eMate v4.Mates), (di p2.ID), (di p2.S), (di p2.V), (di p2.Len), (di p2.End), (di 0), (di 0), (di 0), (di 0), (di 0)] rfl (sv rfl (s_nil (l_ret ?_))))))
            obtain rfl := Option.some.inj h
            exact fin_ok (.inr rfl) (resD2 (res_cellG rfl G_hit (nl rfl) rfl) (res_t rfl) rf_d rf_d) (.refl _)

noncomputable def kit_Convoy_o (p1 : KitRing) (p2 : Bool) : Option (Convoy × KitRing) :=
  (kit_Ring_Next_o p1 3000).bind fun v1 => (kit_Mates_o v1.2 (w64 (1 + v1.1)) 5).bind fun v2 => (ref09_New (w64 (1 + v1.1)) v2.1).bind fun v3 => cond (v3.2 != 0) (some ((Convoy.mk 0 0 [] (Guest.mk 0 0 0 0 0 0 (Guess.mk 0 0) 0 0)), v2.2)) (cond (!p2) (some (v3.1, v2.2)) ((kit_Ring_Next_o v2.2 (v3.1.Mates.length : Int)).bind fun v4 => (geti v3.1.Mates v4.1).bind fun v5 => (kit_Ring_Next_o v4.2 20).bind fun v6 => (kit_Ring_Next_o v6.2 20000).bind fun v7 => (kit_Ring_Next_o v7.2 2001).bind fun v8 => (kit_Ring_Next_o v8.2 6000).bind fun v9 => (kit_Ring_Next_o v9.2 60000).bind fun v10 => (ref09_Ramp v3.1 (Guest.mk (w64 (70 + v6.1)) (w64 ((w64 ((w64 (v5.S - v5.Len)) - v7.1)) + 8000)) v8.1 (w64 (300 + v9.1)) (w64 ((w64 ((w64 ((w64 ((w64 (v5.S - v5.Len)) - v7.1)) + 8000)) + 22000)) + v10.1)) 0 (Guess.mk 0 0) 0 0)).bind fun v11 => cond (v11.2 != 0) (some (v3.1, v10.2)) (some (v11.1, v10.2))))

/-- kerbstone/kerbstonekit.Convoy -/
def ac_kit_Convoy_o : AC := (.seq (.reg [oo 4 (.alloc 38 [z0, z0, .nilS, z0, z0, z0, z0, z0, z0, z0, z0, z0, z0])]) (.seq (.reg [oo 11 (.mv (.t 0)), oo 12 (.ocall 10010010 (cf 49) [(.t 11), (ci 3000)]), oo 13 (.bin .add (ci 1) (.t 12)), oo 5 (.mv (.t 13))]) (.seq (.reg [oo 15 (.mv (.t 5)), oo 16 (.mv (.t 0)), oo 17 (.mv (.t 5)), oo 18 (.ocall 10020030 (cf 72) [(.t 16), (.t 17), (ci 5)]), oo 19 (.call (cf 44) [(.t 15), (.t 18)]), oo 14 (.mv (.t 19)), oo 20 (.ext (.t 14) 0), oo 21 (.ext (.t 14) 1), oo 6 (.alloc 38 [z0, z0, .nilS, z0, z0, z0, z0, z0, z0, z0, z0, z0, z0]), oe (.store 13 (.t 6) (.t 20)), oo 7 (.mv (.t 21))]) (.seq (.seq (.reg [oo 22 (.mv (.t 7)), oo 23 (.bin .neq (.t 22) (ci 0))]) (.cond (.t 23) (.seq (.reg [oo 24 (.build [z0, z0, .nilS, z0, z0, z0, z0, z0, z0, z0, z0, z0, z0] []), oe (.store 13 (.t 4) (.t 24))]) .ret) .skip)) (.seq (.seq (.reg [oo 25 (.mv (.t 1)), oo 26 (.un .not (.t 25))]) (.cond (.t 26) (.seq (.reg [oo 27 (.load 13 true (.t 6)), oe (.store 13 (.t 4) (.t 27))]) .ret) .skip)) (.seq (.draw [oo 28 (.fieldA 2 (.t 6)), oo 29 (.load 1 false (.t 28)), oo 30 (.mv (.t 0)), oo 31 (.fieldA 2 (.t 6)), oo 32 (.load 1 false (.t 31)), oo 33 (.len (.t 32)), oo 34 (.ocall 10070060 (cf 49) [(.t 30), (.t 33)]), oo 35 (.idxS 12 (.t 29) (.t 34)), oo 36 (.load 12 true (.t 35)), oo 8 (.alloc 65 [z0, z0, z0, z0, z0, z0, z0, zf, z0, z0, z0, z0]), oe (.store 12 (.t 8) (.t 36))] [(1, 6), (6, 9)]) (.seq (.draw [oo 37 (.mv (.t 0)), oo 38 (.ocall 10080010 (cf 49) [(.t 37), (ci 20)]), oo 39 (.bin .add (ci 70) (.t 38)), oo 40 (.fieldA 1 (.t 8)), oo 41 (.load 1 false (.t 40)), oo 42 (.fieldA 3 (.t 8)), oo 43 (.load 1 false (.t 42)), oo 44 (.bin .sub (.t 41) (.t 43)), oo 45 (.mv (.t 0)), oo 46 (.ocall 10080090 (cf 49) [(.t 45), (ci 20000)]), oo 47 (.bin .sub (.t 44) (.t 46)), oo 48 (.bin .add (.t 47) (ci 8000)), oo 49 (.mv (.t 0)), oo 50 (.ocall 10080130 (cf 49) [(.t 49), (ci 2001)]), oo 51 (.mv (.t 0)), oo 52 (.ocall 10080150 (cf 49) [(.t 51), (ci 6000)]), oo 53 (.bin .add (ci 300) (.t 52)), oo 54 (.build [z0, z0, z0, z0, z0, z0, z0, z0, z0, z0] [(0, 1, (.t 39)), (1, 1, (.t 48)), (2, 1, (.t 50)), (3, 1, (.t 53))]), oo 9 (.alloc 36 [z0, z0, z0, z0, z0, z0, z0, z0, z0, z0]), oe (.store 10 (.t 9) (.t 54))] [(1, 4), (1, 6), (4, 9), (6, 9), (4, 13), (6, 13), (4, 15), (6, 15), (1, 18), (9, 18), (13, 18), (15, 18)]) (.seq (.draw [oo 55 (.fieldA 1 (.t 9)), oo 56 (.load 1 false (.t 55)), oo 57 (.bin .add (.t 56) (ci 22000)), oo 58 (.mv (.t 0)), oo 59 (.ocall 10090040 (cf 49) [(.t 58), (ci 60000)]), oo 60 (.bin .add (.t 57) (.t 59)), oo 61 (.fieldA 4 (.t 9)), oe (.store 1 (.t 61) (.t 60))] [(1, 4)]) (.seq (.reg [oo 63 (.load 13 true (.t 6)), oo 64 (.load 10 true (.t 9)), oo 65 (.call (cf 46) [(.t 63), (.t 64)]), oo 62 (.mv (.t 65)), oo 66 (.ext (.t 62) 0), oo 67 (.ext (.t 62) 1), oo 10 (.alloc 38 [z0, z0, .nilS, z0, z0, z0, z0, z0, z0, z0, z0, z0, z0]), oe (.store 13 (.t 10) (.t 66)), oo 7 (.mv (.t 67))]) (.seq (.seq (.reg [oo 68 (.mv (.t 7)), oo 69 (.bin .neq (.t 68) (ci 0))]) (.cond (.t 69) (.seq (.reg [oo 70 (.load 13 true (.t 6)), oe (.store 13 (.t 4) (.t 70))]) .ret) .skip)) (.seq (.reg [oo 71 (.load 13 true (.t 10)), oe (.store 13 (.t 4) (.t 71))]) .ret)))))))))))
theorem fn_kit_Convoy_o : FnOK Try.prog 29 72 [.cell 4 13 true] ac_kit_Convoy_o := ⟨_, _, Try.func29, rfl, Try.ntmps29, by kernel_rfl, ⟨fun r => if r == 1 then [1001001] else if r == 2 then [1002003] else if r == 7 then [1007006] else if r == 8 then [1008001, 1008009, 1008013, 1008015] else if r == 9 then [1009004] else [], by kernel_rfl⟩, by kernel_rfl⟩
set_option maxHeartbeats 4000000 in
theorem kit_Convoy_o_ok (p1 : KitRing) (p2 : Bool) (r : (Convoy × KitRing)) (h : kit_Convoy_o p1 p2 = some r) : MCall Try.prog 29 [(.ptr (900000, 0) 0), (.d (bo p2))] [(.box 94 [(dl eInt_i64 p1.l), (di p1.at_)])] (.d (.agg (eConvoy r.1))) [some (.box 94 [(dl eInt_i64 r.2.l), (di r.2.at_)])] [] := by
  refine m_callF fn_kit_Convoy_o rfl (nl rfl) ?_
  unfold kit_Convoy_o at h
  unfold ac_kit_Convoy_o
  refine l_sub (s0 := ⟨T [(0, (.ptr _ _)), (1, (.d _))], G [((900000, 0), some (.box 94 _))]⟩) (sbr rfl rfl) ?_
  refine lr (fun u1 hu1 => sn rfl rfl (s_nil (lr (fun u2 hu2 => sp rfl rfl (bs h fun v1 hv1 h => s_oc (v := .d (i64 v1.1)) (us := [(900000, 0)]) (oc_m (kit_Ring_Next_o_ok _ _ _ hv1) [(900000, 0)] [(900000, 0)] _ (((900000, 0), some (.box 94 [(dl eInt_i64 v1.2.l), (di v1.2.at_)])) :: _) rfl all2_av (kl_cons (kr_ptr (G_skip rfl G_hit) rfl) (kl_cons kr_d kl_nil)) (live_cons (G_skip rfl G_hit) live_nil) ⟨⟨_, (G_skip rfl G_hit), .of rfl⟩, trivial⟩ (fun _ h => h) nd1 rfl rfl rfl) (sv rfl (sv rfl (s_nil (lr (fun u3 hu3 => sv rfl (sp rfl rfl (sv rfl (bs h fun v2 hv2 h => s_oc (v := .d (.list (List.map eMate v2.1))) (us := [(900000, 0)]) (oc_m (kit_Mates_o_ok _ _ _ _ hv2) [(900000, 0)] [(900000, 0)] _ (((900000, 0), some (.box 94 [(dl eInt_i64 v2.2.l), (di v2.2.at_)])) :: _) rfl all2_av (kl_cons (kr_ptr G_hit rfl) (kl_cons kr_d (kl_cons kr_d kl_nil))) (live_cons G_hit live_nil) ⟨⟨_, G_hit, .of rfl⟩, trivial⟩ (fun _ h => h) nd1 rfl rfl rfl) (bs h fun v3 hv3 h => s_call rfl rfl all2_refl (ref09_New_ok _ _  _ hv3) (.inl rfl) (sv rfl (sv rfl (sv rfl (sn rfl rfl (sst rfl G_hit (dConvoy v3.1) rfl (sv rfl (s_nil (l_seq (l_seq (l_sub (s0 := ⟨T [(0, (.ptr _ _)), (1, (.d _)), (4, (.ptr _ _)), (6, (.ptr _ _)), (7, (.d _))], G [((900000, 0), some (.box 94 _)), ((4, u1), some (.box 38 _)), ((6, u3), some (.box 38 _))]⟩) (sbr rfl rfl) ?_))))))))))))))))))))))))
  refine l_reg fun u4 hu4 => sv rfl (sv rfl (s_nil (cc rfl h (fun c1 h => ?_) (fun c1 h => ?_))))
  · refine lr (fun u5 hu5 => sv rfl (sst rfl (gq rfl) [(di 0), (di 0), (.d .nilS), (di 0), (di 0), (di 0), (di 0), (di 0), (di 0), (di 0), (di 0), (di 0), (di 0)] rfl (s_nil (l_ret ?_))))
    obtain rfl := Option.some.inj h
    exact fin_mf (.inr rfl) [] (resDF1 (res_cellG rfl G_hit (Nat.le_of_ble_eq_true rfl) rfl) rf_d) (.agg (.cons ⟨(.refl _), rfl⟩ (.cons ⟨(.refl _), rfl⟩ (.cons ⟨DLe.nil, rfl⟩ (.cons ⟨(.refl _), rfl⟩ (.cons ⟨(.refl _), rfl⟩ (.cons ⟨(.refl _), rfl⟩ (.cons ⟨(.refl _), rfl⟩ (.cons ⟨(.refl _), rfl⟩ (.cons ⟨(.refl _), rfl⟩ (.cons ⟨(.refl _), rfl⟩ (.cons ⟨(.refl _), rfl⟩ (.cons ⟨(.refl _), rfl⟩ (.cons ⟨(.refl _), rfl⟩ .nil)))))))))))))) ⟨⟨_, _, _, (gq rfl), old_notin_nil, rfl, all2_d, rfl⟩, trivial⟩
  · refine l_skip (l_seq (lr (fun u6 hu6 => sv rfl (s_val (.d (bo (!p2))) rfl rfl (s_nil (cc rfl h (fun c2 h => ?_) (fun c2 h => ?_)))))))
    · refine lr (fun u7 hu7 => sd rfl (v_loadG rfl (gq rfl) rfl rfl) (sst rfl (gq rfl) (dConvoy v3.1) rfl (s_nil (l_ret ?_))))
      obtain rfl := Option.some.inj h
      exact fin_mf (.inr rfl) [] (resDF1 (res_cellG rfl G_hit (Nat.le_of_ble_eq_true rfl) rfl) rf_d) (.refl _) ⟨⟨_, _, _, (gq rfl), old_notin_nil, rfl, all2_d, rfl⟩, trivial⟩
    · refine l_skip (l_seq (l_drawT fun u8 hu8 => t_val (.ptr _ _) rfl rfl (t_val (.d _) rfl (v_load rfl (gq rfl) rfl) (t_val (.ptr _ _) rfl rfl (t_val (.ptr _ _) rfl rfl (t_val (.d _) rfl (v_load rfl (gq rfl) rfl) (t_val (.d _) rfl (v_len rfl) (bs h fun v4 hv4 h => t_oc (v := .d (i64 v4.1)) (us := [(900000, 0)]) (oc_m (kit_Ring_Next_o_ok _ _ _ hv4) [(900000, 0)] [(900000, 0)] _ (((900000, 0), some (.box 94 [(dl eInt_i64 v4.2.l), (di v4.2.at_)])) :: _) rfl all2_av (kl_cons (kr_ptr G_hit rfl) (kl_cons kr_d kl_nil)) (live_cons G_hit live_nil) ⟨⟨_, G_hit, .of rfl⟩, trivial⟩ (fun _ h => h) nd1 rfl rfl rfl) (bs h fun v5 hv5 h => t_val (.d _) rfl (v_idx rfl rfl hv5 rfl) (t_val (.d _) rfl (v_loadLG rfl hv5 rfl rfl) (t_new (.ptr _ _) (.box _ _) rfl rfl (t_store _ _ _ _ _ rfl rfl rfl G_hit (nl rfl) (dMate v5) rfl (t_nil ⟨rfl, ?_⟩)))))))))))))
      refine l_seq (l_sub (s0 := ⟨T [(0, (.ptr _ _)), (4, (.ptr _ _)), (6, (.ptr _ _)), (8, (.ptr _ _))], G [((900000, 0), some (.box 94 _)), ((4, u1), some (.box 38 _)), ((6, u3), some (.box 38 _)), ((8, u8), some (.box 65 _))]⟩) (sbr rfl rfl) ?_)
      refine l_drawT fun u9 hu9 => t_val (.ptr _ _) rfl rfl (bs h fun v6 hv6 h => t_oc (v := .d (i64 v6.1)) (us := [(900000, 0)]) (oc_m (kit_Ring_Next_o_ok _ _ _ hv6) [(900000, 0)] [(900000, 0)] _ (((900000, 0), some (.box 94 [(dl eInt_i64 v6.2.l), (di v6.2.at_)])) :: _) rfl all2_av (kl_cons (kr_ptr G_hit rfl) (kl_cons kr_d kl_nil)) (live_cons G_hit live_nil) ⟨⟨_, G_hit, .of rfl⟩, trivial⟩ (fun _ h => h) nd1 rfl rfl rfl) (t_val (.d _) rfl rfl (t_val (.ptr _ _) rfl rfl (t_val (.d _) rfl (v_load rfl (gq rfl) rfl) (t_val (.ptr _ _) rfl rfl (t_val (.d _) rfl (v_load rfl (gq rfl) rfl) (t_val (.d _) rfl rfl (t_val (.ptr _ _) rfl rfl (bs h fun v7 hv7 h => t_oc (v := .d (i64 v7.1)) (us := [(900000, 0)]) (oc_m (kit_Ring_Next_o_ok _ _ _ hv7) [(900000, 0)] [(900000, 0)] _ (((900000, 0), some (.box 94 [(dl eInt_i64 v7.2.l), (di v7.2.at_)])) :: _) rfl all2_av (kl_cons (kr_ptr G_hit rfl) (kl_cons kr_d kl_nil)) (live_cons G_hit live_nil) ⟨⟨_, G_hit, .of rfl⟩, trivial⟩ (fun _ h => h) nd1 rfl rfl rfl) (t_val (.d _) rfl rfl (t_val (.d _) rfl rfl (t_val (.ptr _ _) rfl rfl (bs h fun v8 hv8 h => t_oc (v := .d (i64 v8.1)) (us := [(900000, 0)]) (oc_m (kit_Ring_Next_o_ok _ _ _ hv8) [(900000, 0)] [(900000, 0)] _ (((900000, 0), some (.box 94 [(dl eInt_i64 v8.2.l), (di v8.2.at_)])) :: _) rfl all2_av (kl_cons (kr_ptr G_hit rfl) (kl_cons kr_d kl_nil)) (live_cons G_hit live_nil) ⟨⟨_, G_hit, .of rfl⟩, trivial⟩ (fun _ h => h) nd1 rfl rfl rfl) (t_val (.ptr _ _) rfl rfl (bs h fun v9 hv9 h => t_oc (v := .d (i64 v9.1)) (us := [(900000, 0)]) (oc_m (kit_Ring_Next_o_ok _ _ _ hv9) [(900000, 0)] [(900000, 0)] _ (((900000, 0), some (.box 94 [(dl eInt_i64 v9.2.l), (di v9.2.at_)])) :: _) rfl all2_av (kl_cons (kr_ptr G_hit rfl) (kl_cons kr_d kl_nil)) (live_cons G_hit live_nil) ⟨⟨_, G_hit, .of rfl⟩, trivial⟩ (fun _ h => h) nd1 rfl rfl rfl) (t_val (.d _) rfl rfl (t_val (.d _) rfl rfl (t_new (.ptr _ _) (.box _ _) rfl rfl (t_store _ _ _ _ _ rfl rfl rfl G_hit (nl rfl) [(di (w64 (70 + v6.1))), (di (w64 ((w64 ((w64 (v5.S - v5.Len)) - v7.1)) + 8000))), (di v8.1), (di (w64 (300 + v9.1))), (di 0), (di 0), (di 0), (di 0), (di 0), (di 0)] rfl (t_nil ⟨rfl, ?_⟩))))))))))))))))))))
      refine l_seq (l_sub (s0 := ⟨T [(0, (.ptr _ _)), (4, (.ptr _ _)), (6, (.ptr _ _)), (9, (.ptr _ _))], G [((900000, 0), some (.box 94 _)), ((4, u1), some (.box 38 _)), ((6, u3), some (.box 38 _)), ((9, u9), some (.box 36 _))]⟩) (sbr rfl rfl) ?_)
      refine l_drawT fun u10 hu10 => t_val (.ptr _ _) rfl rfl (t_val (.d _) rfl (v_load rfl (gq rfl) rfl) (t_val (.d _) rfl rfl (t_val (.ptr _ _) rfl rfl (bs h fun v10 hv10 h => t_oc (v := .d (i64 v10.1)) (us := [(900000, 0)]) (oc_m (kit_Ring_Next_o_ok _ _ _ hv10) [(900000, 0)] [(900000, 0)] _ (((900000, 0), some (.box 94 [(dl eInt_i64 v10.2.l), (di v10.2.at_)])) :: _) rfl all2_av (kl_cons (kr_ptr G_hit rfl) (kl_cons kr_d kl_nil)) (live_cons G_hit live_nil) ⟨⟨_, G_hit, .of rfl⟩, trivial⟩ (fun _ h => h) nd1 rfl rfl rfl) (t_val (.d _) rfl rfl (t_val (.ptr _ _) rfl rfl (t_store _ _ _ _ _ rfl rfl rfl (gq rfl) (nl rfl) [(di (w64 (70 + v6.1))), (di (w64 ((w64 ((w64 (v5.S - v5.Len)) - v7.1)) + 8000))), (di v8.1), (di (w64 (300 + v9.1))), (di (w64 ((w64 ((w64 ((w64 ((w64 (v5.S - v5.Len)) - v7.1)) + 8000)) + 22000)) + v10.1))), (di 0), (di 0), (di 0), (di 0), (di 0)] rfl (t_nil ⟨rfl, ?_⟩))))))))
      refine lr (fun u11 hu11 => sd rfl (v_loadG rfl (gq rfl) rfl rfl) (sd rfl (v_loadG rfl G_hit rfl rfl) (bs h fun v11 hv11 h => s_call rfl rfl all2_refl (ref09_Ramp_ok _ _  _ hv11) (.inl rfl) (sv rfl (sv rfl (sv rfl (sn rfl rfl (sst rfl G_hit (dConvoy v11.1) rfl (sv rfl (s_nil (l_seq (l_seq (l_sub (s0 := ⟨T [(0, (.ptr _ _)), (4, (.ptr _ _)), (6, (.ptr _ _)), (7, (.d _)), (10, (.ptr _ _))], G [((900000, 0), some (.box 94 _)), ((4, u1), some (.box 38 _)), ((6, u3), some (.box 38 _)), ((10, u11), some (.box 38 _))]⟩) (sbr rfl rfl) ?_)))))))))))))
      refine l_reg fun u12 hu12 => sv rfl (sv rfl (s_nil (cc rfl h (fun c3 h => ?_) (fun c3 h => ?_))))
      · refine lr (fun u13 hu13 => sd rfl (v_loadG rfl (gq rfl) rfl rfl) (sst rfl (gq rfl) (dConvoy v3.1) rfl (s_nil (l_ret ?_))))
        obtain rfl := Option.some.inj h
        exact fin_mf (.inr rfl) [] (resDF1 (res_cellG rfl G_hit (Nat.le_of_ble_eq_true rfl) rfl) rf_d) (.refl _) ⟨⟨_, _, _, (gq rfl), old_notin_nil, rfl, all2_d, rfl⟩, trivial⟩
      · refine l_skip (lr (fun u14 hu14 => sd rfl (v_loadG rfl (gq rfl) rfl rfl) (sst rfl (gq rfl) (dConvoy v11.1) rfl (s_nil (l_ret ?_)))))
        obtain rfl := Option.some.inj h
        exact fin_mf (.inr rfl) [] (resDF1 (res_cellG rfl G_hit (Nat.le_of_ble_eq_true rfl) rfl) rf_d) (.refl _) ⟨⟨_, _, _, (gq rfl), old_notin_nil, rfl, all2_d, rfl⟩, trivial⟩

noncomputable def convoy_within (p1 : Int) (p2 : Int) (p3 : Int) : Option Bool :=
  some ((decide (p2 ≤ p1)) && (decide (p1 ≤ p3)))

/-- kerbstone/convoy.within -/
def ac_convoy_within : AC := (.seq (.reg [oo 6 (.mv (.c zf))]) (.seq (.reg [oo 7 (.mv (.t 1)), oo 8 (.mv (.t 0)), oo 9 (.bin .leq (.t 7) (.t 8)), oo 10 (.mv (.t 9)), og 11 (.mv (.t 0)) 10, og 12 (.mv (.t 2)) 10, og 13 (.bin .leq (.t 11) (.t 12)) 10, oo 14 (.pick (.t 10) (.t 13) (.c zf)), oo 6 (.mv (.t 14))]) .ret))
theorem fn_convoy_within : FnOK Try.prog 95 15 [.t 6] ac_convoy_within := ⟨_, _, Try.func95, rfl, Try.ntmps95, by kernel_rfl, ⟨fun _ => [], by kernel_rfl⟩, by kernel_rfl⟩
theorem convoy_within_ok (p1 : Int) (p2 : Int) (p3 : Int) (r : Bool) (h : convoy_within p1 p2 p3 = some r) : PCall Try.prog 95 [(i64 p1), (i64 p2), (i64 p3)] (bo r) := by
  refine l_call fn_convoy_within (nl rfl) ?_
  unfold convoy_within at h
  unfold ac_convoy_within
  refine l_sub (s0 := ⟨T [(0, (.d _)), (1, (.d _)), (2, (.d _))], G []⟩) (sbr rfl rfl) ?_
  refine lr (fun u1 hu1 => sv rfl (s_nil (lr (fun u2 hu2 => sv rfl (sv rfl (sv rfl (sv rfl (gt rfl (fun _ => rfl) (gt rfl (fun _ => rfl) (gt rfl (fun w3 => (v_bin (gd_pos w3) (gd_pos w3) rfl)) (sa rfl rfl rfl (sv rfl (s_nil (l_ret ?_))))))))))))))
  obtain rfl := Option.some.inj h
  exact fin_ok (.inr rfl) (resD1 (res_t rfl) rf_d) (.refl _)

noncomputable def convoy_fairBody (p1 : Int) (p2 : Int) (p3 : Int) (p4 : Int) : Option Bool :=
  ((cond ((decide (p1 ≥ 1)) && (decide (p1 ≤ 99))) (convoy_within p2 0 1099511627776) (some default))).bind fun v1 => ((cond (((decide (p1 ≥ 1)) && (decide (p1 ≤ 99))) && v1) (convoy_within p3 0 2000) (some default))).bind fun v2 => ((cond ((((decide (p1 ≥ 1)) && (decide (p1 ≤ 99))) && v1) && v2) (convoy_within p4 300 20000) (some default))).bind fun v3 => some (((((decide (p1 ≥ 1)) && (decide (p1 ≤ 99))) && v1) && v2) && v3)

/-- kerbstone/convoy.fairBody -/
def ac_convoy_fairBody : AC := (.seq (.reg [oo 8 (.mv (.c zf))]) (.seq (.reg [oo 9 (.mv (.t 0)), oo 10 (.bin .geq (.t 9) (ci 1)), oo 11 (.mv (.t 10)), og 12 (.mv (.t 0)) 11, og 13 (.bin .leq (.t 12) (ci 99)) 11, oo 14 (.pick (.t 11) (.t 13) (.c zf)), oo 15 (.mv (.t 14)), og 16 (.mv (.t 1)) 15, og 17 (.call (cf 95) [(.t 16), (ci 0), (ci 1099511627776)]) 15, oo 18 (.pick (.t 15) (.t 17) (.c zf)), oo 19 (.mv (.t 18)), og 20 (.mv (.t 2)) 19, og 21 (.call (cf 95) [(.t 20), (ci 0), (ci 2000)]) 19, oo 22 (.pick (.t 19) (.t 21) (.c zf)), oo 23 (.mv (.t 22)), og 24 (.mv (.t 3)) 23, og 25 (.call (cf 95) [(.t 24), (ci 300), (ci 20000)]) 23, oo 26 (.pick (.t 23) (.t 25) (.c zf)), oo 8 (.mv (.t 26))]) .ret))
theorem fn_convoy_fairBody : FnOK Try.prog 122 27 [.t 8] ac_convoy_fairBody := ⟨_, _, Try.func122, rfl, Try.ntmps122, by kernel_rfl, ⟨fun _ => [], by kernel_rfl⟩, by kernel_rfl⟩
theorem convoy_fairBody_ok (p1 : Int) (p2 : Int) (p3 : Int) (p4 : Int) (r : Bool) (h : convoy_fairBody p1 p2 p3 p4 = some r) : PCall Try.prog 122 [(i64 p1), (i64 p2), (i64 p3), (i64 p4)] (bo r) := by
  refine l_call fn_convoy_fairBody (nl rfl) ?_
  unfold convoy_fairBody at h
  unfold ac_convoy_fairBody
  refine l_sub (s0 := ⟨T [(0, (.d _)), (1, (.d _)), (2, (.d _)), (3, (.d _))], G []⟩) (sbr rfl rfl) ?_
  refine lr (fun u1 hu1 => sv rfl (s_nil (lr (fun u2 hu2 => sv rfl (sv rfl (sv rfl (gt rfl (fun _ => rfl) (gt rfl (vb rfl rfl rfl) (sa rfl rfl rfl (sv rfl (gt rfl (fun _ => rfl) (bs h fun v1 hv1 h => ?_))))))))))))
  refine g_call _ (bo v1) (gw_t rfl) (fun w4 => ⟨_, [(di p2), (di 0), (di 1099511627776)], _, _, (by simp only [gd_pos w4]; rfl), rfl, all2_refl, convoy_within_ok _ _ _  _ (cond_t w4 hv1), (.inl rfl)⟩) ?_
  refine sa rfl rfl rfl (sv rfl (gt rfl (fun _ => rfl) (bs h fun v2 hv2 h => ?_)))
  refine g_call _ (bo v2) (gw_t rfl) (fun w6 => ⟨_, [(di p3), (di 0), (di 2000)], _, _, (by simp only [gd_pos w6]; rfl), rfl, all2_refl, convoy_within_ok _ _ _  _ (cond_t w6 hv2), (.inl rfl)⟩) ?_
  refine sa rfl rfl rfl (sv rfl (gt rfl (fun _ => rfl) (bs h fun v3 hv3 h => ?_)))
  refine g_call _ (bo v3) (gw_t rfl) (fun w8 => ⟨_, [(di p4), (di 300), (di 20000)], _, _, (by simp only [gd_pos w8]; rfl), rfl, all2_refl, convoy_within_ok _ _ _  _ (cond_t w8 hv3), (.inl rfl)⟩) ?_
  refine sa rfl rfl rfl (sv rfl (s_nil (l_ret ?_)))
  obtain rfl := Option.some.inj h
  exact fin_ok (.inr rfl) (resD1 (res_t rfl) rf_d) (.refl _)

noncomputable def convoy_fairID (p1 : Int) : Option Bool :=
  some ((decide (p1 ≥ 0)) && (decide (p1 ≤ 99)))

/-- kerbstone/convoy.fairID -/
def ac_convoy_fairID : AC := (.seq (.reg [oo 2 (.mv (.c zf))]) (.seq (.reg [oo 3 (.mv (.t 0)), oo 4 (.bin .geq (.t 3) (ci 0)), oo 5 (.mv (.t 4)), og 6 (.mv (.t 0)) 5, og 7 (.bin .leq (.t 6) (ci 99)) 5, oo 8 (.pick (.t 5) (.t 7) (.c zf)), oo 2 (.mv (.t 8))]) .ret))
theorem fn_convoy_fairID : FnOK Try.prog 123 9 [.t 2] ac_convoy_fairID := ⟨_, _, Try.func123, rfl, Try.ntmps123, by kernel_rfl, ⟨fun _ => [], by kernel_rfl⟩, by kernel_rfl⟩
theorem convoy_fairID_ok (p1 : Int) (r : Bool) (h : convoy_fairID p1 = some r) : PCall Try.prog 123 [(i64 p1)] (bo r) := by
  refine l_call fn_convoy_fairID (nl rfl) ?_
  unfold convoy_fairID at h
  unfold ac_convoy_fairID
  refine l_sub (s0 := ⟨T [(0, (.d _))], G []⟩) (sbr rfl rfl) ?_
  refine lr (fun u1 hu1 => sv rfl (s_nil (lr (fun u2 hu2 => sv rfl (sv rfl (sv rfl (gt rfl (fun _ => rfl) (gt rfl (vb rfl rfl rfl) (sa rfl rfl rfl (sv rfl (s_nil (l_ret ?_))))))))))))
  obtain rfl := Option.some.inj h
  exact fin_ok (.inr rfl) (resD1 (res_t rfl) rf_d) (.refl _)

noncomputable def convoy_fairGuess (p1 : Guess) : Option Bool :=
  (convoy_within p1.R (-20000) 2199023255552).bind fun v1 => ((cond v1 (convoy_within p1.V 0 2000) (some default))).bind fun v2 => some (v1 && v2)

/-- kerbstone/convoy.fairGuess -/
def ac_convoy_fairGuess : AC := (.seq (.reg [oo 1 (.box 23 true (.t 0)), oo 2 (.mv (.c zf))]) (.seq (.reg [oo 3 (.fieldA 0 (.t 1)), oo 4 (.load 1 false (.t 3)), oo 5 (.call (cf 95) [(.t 4), (ci (-20000)), (ci 2199023255552)]), oo 6 (.mv (.t 5)), og 7 (.fieldA 1 (.t 1)) 6, og 8 (.load 1 false (.t 7)) 6, og 9 (.call (cf 95) [(.t 8), (ci 0), (ci 2000)]) 6, oo 10 (.pick (.t 6) (.t 9) (.c zf)), oo 2 (.mv (.t 10))]) .ret))
theorem fn_convoy_fairGuess : FnOK Try.prog 124 11 [.t 2] ac_convoy_fairGuess := ⟨_, _, Try.func124, rfl, Try.ntmps124, by kernel_rfl, ⟨fun _ => [], by kernel_rfl⟩, by kernel_rfl⟩
theorem convoy_fairGuess_ok (p1 : Guess) (r : Bool) (h : convoy_fairGuess p1 = some r) : PCall Try.prog 124 [(.agg [(i64 p1.R), (i64 p1.V)])] (bo r) := by
  refine l_call fn_convoy_fairGuess (nl rfl) ?_
  unfold convoy_fairGuess at h
  unfold ac_convoy_fairGuess
  refine l_sub (s0 := ⟨T [(0, (.d _))], G []⟩) (sbr rfl rfl) ?_
  refine lr (fun u1 hu1 => sn rfl rfl (sv rfl (s_nil (lr (fun u2 hu2 => sp rfl rfl (sl rfl G_hit rfl (bs h fun v1 hv1 h => s_call rfl rfl all2_refl (convoy_within_ok _ _ _  _ hv1) (.inl rfl) (sv rfl (gp rfl (gw_t rfl) (fun _ => rfl) (gt rfl (vl rfl G_hit rfl) (bs h fun v2 hv2 h => ?_)))))))))))
  refine g_call v1 (bo v2) (gw_t rfl) (fun w3 => ⟨_, [(di p1.V), (di 0), (di 2000)], _, _, (by simp only [gd_pos w3]; rfl), rfl, all2_refl, convoy_within_ok _ _ _  _ (cond_t w3 hv2), (.inl rfl)⟩) ?_
  refine sa rfl rfl rfl (sv rfl (s_nil (l_ret ?_)))
  obtain rfl := Option.some.inj h
  exact fin_ok (.inr rfl) (resD1 (res_t rfl) rf_d) (.refl _)

noncomputable def convoy_fairMate (p1 : Mate) : Option Bool :=
  (convoy_fairBody p1.ID p1.S p1.V p1.Len).bind fun v1 => ((cond v1 (convoy_fairID p1.Ahead) (some default))).bind fun v2 => ((cond (v1 && v2) (convoy_fairID p1.Ward) (some default))).bind fun v3 => ((cond ((v1 && v2) && v3) (convoy_within p1.Until 0 2199023255552) (some default))).bind fun v4 => ((cond (((v1 && v2) && v3) && v4) (convoy_fairGuess p1.Guess_) (some default))).bind fun v5 => ((cond ((((v1 && v2) && v3) && v4) && v5) (convoy_fairGuess p1.WardGuess) (some default))).bind fun v6 => some (((((v1 && v2) && v3) && v4) && v5) && v6)

/-- kerbstone/convoy.fairMate -/
def ac_convoy_fairMate : AC := (.seq (.reg [oo 1 (.box 65 true (.t 0)), oo 2 (.mv (.c zf))]) (.seq (.reg [oo 3 (.fieldA 0 (.t 1)), oo 4 (.load 1 false (.t 3)), oo 5 (.fieldA 1 (.t 1)), oo 6 (.load 1 false (.t 5)), oo 7 (.fieldA 2 (.t 1)), oo 8 (.load 1 false (.t 7)), oo 9 (.fieldA 3 (.t 1)), oo 10 (.load 1 false (.t 9)), oo 11 (.call (cf 122) [(.t 4), (.t 6), (.t 8), (.t 10)]), oo 12 (.mv (.t 11)), og 13 (.fieldA 4 (.t 1)) 12, og 14 (.load 1 false (.t 13)) 12, og 15 (.call (cf 123) [(.t 14)]) 12, oo 16 (.pick (.t 12) (.t 15) (.c zf)), oo 17 (.mv (.t 16)), og 18 (.fieldA 8 (.t 1)) 17, og 19 (.load 1 false (.t 18)) 17, og 20 (.call (cf 123) [(.t 19)]) 17, oo 21 (.pick (.t 17) (.t 20) (.c zf)), oo 22 (.mv (.t 21)), og 23 (.fieldA 11 (.t 1)) 22, og 24 (.load 1 false (.t 23)) 22, og 25 (.call (cf 95) [(.t 24), (ci 0), (ci 2199023255552)]) 22, oo 26 (.pick (.t 22) (.t 25) (.c zf)), oo 27 (.mv (.t 26)), og 28 (.fieldA 5 (.t 1)) 27, og 29 (.load 2 true (.t 28)) 27, og 30 (.call (cf 124) [(.t 29)]) 27, oo 31 (.pick (.t 27) (.t 30) (.c zf)), oo 32 (.mv (.t 31)), og 33 (.fieldA 9 (.t 1)) 32, og 34 (.load 2 true (.t 33)) 32, og 35 (.call (cf 124) [(.t 34)]) 32, oo 36 (.pick (.t 32) (.t 35) (.c zf)), oo 2 (.mv (.t 36))]) .ret))
theorem fn_convoy_fairMate : FnOK Try.prog 102 37 [.t 2] ac_convoy_fairMate := ⟨_, _, Try.func102, rfl, Try.ntmps102, by kernel_rfl, ⟨fun _ => [], by kernel_rfl⟩, by kernel_rfl⟩
theorem convoy_fairMate_ok (p1 : Mate) (r : Bool) (h : convoy_fairMate p1 = some r) : PCall Try.prog 102 [(.agg (eMate p1))] (bo r) := by
  refine l_call fn_convoy_fairMate (nl rfl) ?_
  unfold convoy_fairMate at h
  unfold ac_convoy_fairMate
  refine l_sub (s0 := ⟨T [(0, (.d _))], G []⟩) (sbr rfl rfl) ?_
  refine lr (fun u1 hu1 => sn rfl rfl (sv rfl (s_nil (lr (fun u2 hu2 => sp rfl rfl (sl rfl G_hit rfl (sp rfl rfl (sl rfl G_hit rfl (sp rfl rfl (sl rfl G_hit rfl (sp rfl rfl (sl rfl G_hit rfl (bs h fun v1 hv1 h => s_call rfl rfl all2_refl (convoy_fairBody_ok _ _ _ _  _ hv1) (.inl rfl) (sv rfl (gp rfl (gw_t rfl) (fun _ => rfl) (gt rfl (vl rfl G_hit rfl) (bs h fun v2 hv2 h => ?_)))))))))))))))))
  refine g_call v1 (bo v2) (gw_t rfl) (fun w3 => ⟨_, [(di p1.Ahead)], _, _, (by simp only [gd_pos w3]; rfl), rfl, all2_refl, convoy_fairID_ok _  _ (cond_t w3 hv2), (.inl rfl)⟩) ?_
  refine sa rfl rfl rfl (sv rfl (gp rfl (gw_t rfl) (fun _ => rfl) (gt rfl (vl rfl G_hit rfl) (bs h fun v3 hv3 h => ?_))))
  refine g_call _ (bo v3) (gw_t rfl) (fun w6 => ⟨_, [(di p1.Ward)], _, _, (by simp only [gd_pos w6]; rfl), rfl, all2_refl, convoy_fairID_ok _  _ (cond_t w6 hv3), (.inl rfl)⟩) ?_
  refine sa rfl rfl rfl (sv rfl (gp rfl (gw_t rfl) (fun _ => rfl) (gt rfl (vl rfl G_hit rfl) (bs h fun v4 hv4 h => ?_))))
  refine g_call _ (bo v4) (gw_t rfl) (fun w9 => ⟨_, [(di p1.Until), (di 0), (di 2199023255552)], _, _, (by simp only [gd_pos w9]; rfl), rfl, all2_refl, convoy_within_ok _ _ _  _ (cond_t w9 hv4), (.inl rfl)⟩) ?_
  refine sa rfl rfl rfl (sv rfl (gp rfl (gw_t rfl) (fun _ => rfl) (gt rfl (fun w11 => (v_loadG (gd_pos w11) G_hit rfl rfl)) (bs h fun v5 hv5 h => ?_))))
  refine g_call _ (bo v5) (gw_t rfl) (fun w12 => ⟨_, [(.d (.agg [(i64 p1.Guess_.R), (i64 p1.Guess_.V)]))], _, _, (by simp only [gd_pos w12]; rfl), rfl, all2_refl, convoy_fairGuess_ok _  _ (cond_t w12 hv5), (.inl rfl)⟩) ?_
  refine sa rfl rfl rfl (sv rfl (gp rfl (gw_t rfl) (fun _ => rfl) (gt rfl (fun w14 => (v_loadG (gd_pos w14) G_hit rfl rfl)) (bs h fun v6 hv6 h => ?_))))
  refine g_call _ (bo v6) (gw_t rfl) (fun w15 => ⟨_, [(.d (.agg [(i64 p1.WardGuess.R), (i64 p1.WardGuess.V)]))], _, _, (by simp only [gd_pos w15]; rfl), rfl, all2_refl, convoy_fairGuess_ok _  _ (cond_t w15 hv6), (.inl rfl)⟩) ?_
  refine sa rfl rfl rfl (sv rfl (s_nil (l_ret ?_)))
  obtain rfl := Option.some.inj h
  exact fin_ok (.inr rfl) (resD1 (res_t rfl) rf_d) (.refl _)

noncomputable def convoy_numbers_1 (p1 : Mate) : Option Bool :=
  (convoy_fairMate p1).bind fun v1 => some (!v1)

/-- kerbstone/convoy.numbers$1 -/
def ac_convoy_numbers_1 : AC := (.seq (.reg [oo 1 (.box 65 true (.t 0)), oo 2 (.mv (.c zf))]) (.seq (.reg [oo 3 (.load 12 true (.t 1)), oo 4 (.call (cf 102) [(.t 3)]), oo 5 (.un .not (.t 4)), oo 2 (.mv (.t 5))]) .ret))
theorem fn_convoy_numbers_1 : FnOK Try.prog 101 6 [.t 2] ac_convoy_numbers_1 := ⟨_, _, Try.func101, rfl, Try.ntmps101, by kernel_rfl, ⟨fun _ => [], by kernel_rfl⟩, by kernel_rfl⟩
theorem convoy_numbers_1_ok (p1 : Mate) (r : Bool) (h : convoy_numbers_1 p1 = some r) : PCall Try.prog 101 [(.agg (eMate p1))] (bo r) := by
  refine l_call fn_convoy_numbers_1 (nl rfl) ?_
  unfold convoy_numbers_1 at h
  unfold ac_convoy_numbers_1
  refine l_sub (s0 := ⟨T [(0, (.d _))], G []⟩) (sbr rfl rfl) ?_
  refine lr (fun u1 hu1 => sn rfl rfl (sv rfl (s_nil (lr (fun u2 hu2 => sd rfl (v_loadG rfl G_hit rfl rfl) (bs h fun v1 hv1 h => s_call rfl rfl all2_refl (convoy_fairMate_ok _  _ hv1) (.inl rfl) (s_val (.d (bo (!v1))) rfl rfl (sv rfl (s_nil (l_ret ?_))))))))))
  obtain rfl := Option.some.inj h
  exact fin_ok (.inr rfl) (resD1 (res_t rfl) rf_d) (.refl _)

noncomputable def slices_IndexFunc_Mate_Mate_convoy_numbers_1_l1 (p1 : (List Mate)) (x1 : Int) : Option (Stp Int (Sum Unit Int)) :=
  cond (decide (x1 < (p1.length : Int))) ((geti p1 x1).bind fun v1 => (convoy_numbers_1 v1).bind fun v2 => cond v2 (some (.out (.inr x1))) (some (.go (w64 (x1 + 1))))) (some (.out (.inl ())))
noncomputable def slices_IndexFunc_Mate_Mate_convoy_numbers_1 (p1 : (List Mate)) : Option Int :=
  thenS (loop (slices_IndexFunc_Mate_Mate_convoy_numbers_1_l1 p1) 0) (fun _ => some (-1)) (fun r => some r)

/-- slices.IndexFunc[[]kerbstone/api.Mate,kerbstone/api.Mate] -/
def ac_slices_IndexFunc_Mate_Mate_convoy_numbers_1 : AC := (.seq (.reg [oo 4 (.mv (ci 0))]) (.seq (.seq (.reg [oo 6 (.mv (.t 0)), oo 7 (.len (.t 6)), oo 8 (.mv (ci 0))]) (.block 0 (.loop (.seq (.reg [oo 9 (.bin .lss (.t 8) (.t 7))]) (.seq (.cond (.t 9) .skip (.exit 0)) (.seq (.block 1 (.seq (.reg [oo 10 (.mv (.t 8)), oo 5 (.mv (.t 10))]) (.seq (.reg [oo 11 (.mv (.t 1)), oo 12 (.mv (.t 0)), oo 13 (.mv (.t 5)), oo 14 (.idxS 12 (.t 12) (.t 13)), oo 15 (.load 12 true (.t 14)), oo 16 (.call (.t 11) [(.t 15)])]) (.cond (.t 16) (.seq (.reg [oo 17 (.mv (.t 5)), oo 4 (.mv (.t 17))]) .ret) .skip)))) (.reg [oo 18 (.bin .add (.t 8) (ci 1)), oo 8 (.mv (.t 18))]))))))) (.seq (.reg [oo 4 (.mv (ci (-1)))]) .ret)))
theorem fn_slices_IndexFunc_Mate_Mate_convoy_numbers_1 : FnOK Try.prog 98 19 [.t 4] ac_slices_IndexFunc_Mate_Mate_convoy_numbers_1 := ⟨_, _, Try.func98, rfl, Try.ntmps98, by kernel_rfl, ⟨fun _ => [], by kernel_rfl⟩, by kernel_rfl⟩
set_option maxHeartbeats 4000000 in
theorem slices_IndexFunc_Mate_Mate_convoy_numbers_1_ok (p1 : (List Mate)) (r : Int) (h : slices_IndexFunc_Mate_Mate_convoy_numbers_1 p1 = some r) : PCall Try.prog 98 [(.list (List.map eMate p1)), (.fn (.func 101) [] [])] (i64 r) := by
  refine l_call fn_slices_IndexFunc_Mate_Mate_convoy_numbers_1 (nl rfl) ?_
  unfold slices_IndexFunc_Mate_Mate_convoy_numbers_1 at h
  unfold ac_slices_IndexFunc_Mate_Mate_convoy_numbers_1
  refine l_sub (s0 := ⟨T [(0, (.d _)), (1, (.d _))], G []⟩) (sbr rfl rfl) ?_
  refine lr (fun u1 hu1 => sv rfl (s_nil (l_seq (lr (fun u2 hu2 => sv rfl (sd rfl (v_len rfl) (sv rfl (s_nil (js h fun z1 hz1 h => l_join (fun s => ∃ (y1 : Unit) (g1 : Unit), z1 = .inl y1 ∧ Sb ⟨T [], G []⟩ s) ?_ ?_)))))))))
  · refine l_block (l_loop (slices_IndexFunc_Mate_Mate_convoy_numbers_1_l1 p1) (fun (x1 : Int) (g2 : Unit) => ⟨T [(0, (dl eMate p1)), (1, (.d (.fn (.func 101) [] []))), (7, (di (p1.length : Int))), (8, (di x1))], G []⟩) 0 () _ hz1 (sbr rfl rfl) ?_)
    intro x1 g2 z2 hz2 ez2
    unfold slices_IndexFunc_Mate_Mate_convoy_numbers_1_l1 at hz2
    refine lr (fun u3 hu3 => sv rfl (s_nil (l_seq (cc rfl hz2 (fun c1 hz2 => ?_) (fun c1 hz2 => ?_)))))
    · refine l_skip (l_seq (l_block (lr (fun u4 hu4 => sv rfl (sv rfl (s_nil (lr (fun u5 hu5 => sv rfl (sv rfl (sv rfl (bs hz2 fun v1 hv1 hz2 => sd rfl (v_idx rfl rfl hv1 rfl) (sd rfl (v_loadLG rfl hv1 rfl rfl) (bs hz2 fun v2 hv2 hz2 => s_call rfl rfl all2_refl (convoy_numbers_1_ok _  _ hv2) (.inl rfl) (s_nil (cc rfl hz2 (fun c2 hz2 => ?_) (fun c2 hz2 => ?_))))))))))))))))
      · refine lr (fun u6 hu6 => sv rfl (sv rfl (s_nil (l_ret ?_))))
        obtain rfl := Option.some.inj hz2
        obtain rfl := ez2 _ rfl
        refine ⟨nofun, awl_ret ?_⟩
        rw [Sum.elim_inr] at h
        obtain rfl := Option.some.inj h
        exact fin_ok (.inr rfl) (resD1 (res_t rfl) rf_d) (.refl _)
      · refine l_skip (l_end (l_reg fun u7 hu7 => sv rfl (sv rfl (s_nil (l_nil ?_)))))
        obtain rfl := Option.some.inj hz2
        exact ⟨rfl, (), (sbr rfl rfl)⟩
    · refine l_exitN rfl ?_
      obtain rfl := Option.some.inj hz2
      obtain rfl := ez2 _ rfl
      refine ⟨nofun, awl_pop rfl (l_j ?_)⟩
      exact ⟨_, (), rfl, (sbr rfl rfl)⟩
  · rintro _ ⟨y1, g1, rfl, q1⟩
    rw [Sum.elim_inl] at h
    refine l_sub q1 (lr (fun u8 hu8 => sv rfl (s_nil (l_ret ?_))))
    obtain rfl := Option.some.inj h
    exact fin_ok (.inr rfl) (resD1 (res_t rfl) rf_d) (.refl _)

noncomputable def slices_ContainsFunc_Mate_Mate_convoy_numbers_1 (p1 : (List Mate)) : Option Bool :=
  (slices_IndexFunc_Mate_Mate_convoy_numbers_1 p1).bind fun v1 => some (decide (v1 ≥ 0))

/-- slices.ContainsFunc[[]kerbstone/api.Mate,kerbstone/api.Mate] -/
def ac_slices_ContainsFunc_Mate_Mate_convoy_numbers_1 : AC := (.seq (.reg [oo 4 (.mv (.c zf))]) (.seq (.reg [oo 5 (.mv (.t 0)), oo 6 (.mv (.t 1)), oo 7 (.call (cf 98) [(.t 5), (.t 6)]), oo 8 (.bin .geq (.t 7) (ci 0)), oo 4 (.mv (.t 8))]) .ret))
theorem fn_slices_ContainsFunc_Mate_Mate_convoy_numbers_1 : FnOK Try.prog 77 9 [.t 4] ac_slices_ContainsFunc_Mate_Mate_convoy_numbers_1 := ⟨_, _, Try.func77, rfl, Try.ntmps77, by kernel_rfl, ⟨fun _ => [], by kernel_rfl⟩, by kernel_rfl⟩
theorem slices_ContainsFunc_Mate_Mate_convoy_numbers_1_ok (p1 : (List Mate)) (r : Bool) (h : slices_ContainsFunc_Mate_Mate_convoy_numbers_1 p1 = some r) : PCall Try.prog 77 [(.list (List.map eMate p1)), (.fn (.func 101) [] [])] (bo r) := by
  refine l_call fn_slices_ContainsFunc_Mate_Mate_convoy_numbers_1 (nl rfl) ?_
  unfold slices_ContainsFunc_Mate_Mate_convoy_numbers_1 at h
  unfold ac_slices_ContainsFunc_Mate_Mate_convoy_numbers_1
  refine l_sub (s0 := ⟨T [(0, (.d _)), (1, (.d _))], G []⟩) (sbr rfl rfl) ?_
  refine lr (fun u1 hu1 => sv rfl (s_nil (lr (fun u2 hu2 => sv rfl (sv rfl (bs h fun v1 hv1 h => s_call rfl rfl all2_refl (slices_IndexFunc_Mate_Mate_convoy_numbers_1_ok _  _ hv1) (.inl rfl) (sv rfl (sv rfl (s_nil (l_ret ?_))))))))))
  obtain rfl := Option.some.inj h
  exact fin_ok (.inr rfl) (resD1 (res_t rfl) rf_d) (.refl _)

noncomputable def convoy_fairGuest (p1 : Guest) : Option Bool :=
  cond (p1.ID == 0) (some (p1.ID == 0 && (p1.S == 0 && (p1.V == 0 && (p1.Len == 0 && (p1.End == 0 && (p1.Ahead == 0 && (p1.Guess_.R == 0 && (p1.Guess_.V == 0 && (p1.From == 0 && (p1.Until == 0 && true))))))))))) ((convoy_fairBody p1.ID p1.S p1.V p1.Len).bind fun v1 => ((cond v1 (convoy_fairID p1.Ahead) (some default))).bind fun v2 => ((cond (v1 && v2) (convoy_fairID p1.From) (some default))).bind fun v3 => ((cond ((v1 && v2) && v3) (convoy_within p1.Until 0 2199023255552) (some default))).bind fun v4 => ((cond (((v1 && v2) && v3) && v4) (convoy_within p1.End 0 1099511627776) (some default))).bind fun v5 => ((cond ((((v1 && v2) && v3) && v4) && v5) (convoy_fairGuess p1.Guess_) (some default))).bind fun v6 => some (((((v1 && v2) && v3) && v4) && v5) && v6))

/-- kerbstone/convoy.fairGuest -/
def ac_convoy_fairGuest : AC := (.seq (.reg [oo 1 (.box 36 true (.t 0)), oo 2 (.mv (.c zf))]) (.seq (.seq (.reg [oo 3 (.fieldA 0 (.t 1)), oo 4 (.load 1 false (.t 3)), oo 5 (.bin .eql (.t 4) (ci 0))]) (.cond (.t 5) (.seq (.reg [oo 6 (.load 10 true (.t 1)), oo 7 (.build [z0, z0, z0, z0, z0, z0, z0, z0, z0, z0] []), oo 8 (.eqA false [false, false, false, false, false, false, false, false, false, false] (.t 6) (.t 7)), oo 2 (.mv (.t 8))]) .ret) .skip)) (.seq (.reg [oo 9 (.fieldA 0 (.t 1)), oo 10 (.load 1 false (.t 9)), oo 11 (.fieldA 1 (.t 1)), oo 12 (.load 1 false (.t 11)), oo 13 (.fieldA 2 (.t 1)), oo 14 (.load 1 false (.t 13)), oo 15 (.fieldA 3 (.t 1)), oo 16 (.load 1 false (.t 15)), oo 17 (.call (cf 122) [(.t 10), (.t 12), (.t 14), (.t 16)]), oo 18 (.mv (.t 17)), og 19 (.fieldA 5 (.t 1)) 18, og 20 (.load 1 false (.t 19)) 18, og 21 (.call (cf 123) [(.t 20)]) 18, oo 22 (.pick (.t 18) (.t 21) (.c zf)), oo 23 (.mv (.t 22)), og 24 (.fieldA 8 (.t 1)) 23, og 25 (.load 1 false (.t 24)) 23, og 26 (.call (cf 123) [(.t 25)]) 23, oo 27 (.pick (.t 23) (.t 26) (.c zf)), oo 28 (.mv (.t 27)), og 29 (.fieldA 9 (.t 1)) 28, og 30 (.load 1 false (.t 29)) 28, og 31 (.call (cf 95) [(.t 30), (ci 0), (ci 2199023255552)]) 28, oo 32 (.pick (.t 28) (.t 31) (.c zf)), oo 33 (.mv (.t 32)), og 34 (.fieldA 4 (.t 1)) 33, og 35 (.load 1 false (.t 34)) 33, og 36 (.call (cf 95) [(.t 35), (ci 0), (ci 1099511627776)]) 33, oo 37 (.pick (.t 33) (.t 36) (.c zf)), oo 38 (.mv (.t 37)), og 39 (.fieldA 6 (.t 1)) 38, og 40 (.load 2 true (.t 39)) 38, og 41 (.call (cf 124) [(.t 40)]) 38, oo 42 (.pick (.t 38) (.t 41) (.c zf)), oo 2 (.mv (.t 42))]) .ret)))
theorem fn_convoy_fairGuest : FnOK Try.prog 103 43 [.t 2] ac_convoy_fairGuest := ⟨_, _, Try.func103, rfl, Try.ntmps103, by kernel_rfl, ⟨fun _ => [], by kernel_rfl⟩, by kernel_rfl⟩
set_option maxHeartbeats 4000000 in
theorem convoy_fairGuest_ok (p1 : Guest) (r : Bool) (h : convoy_fairGuest p1 = some r) : PCall Try.prog 103 [(.agg (eGuest p1))] (bo r) := by
  refine l_call fn_convoy_fairGuest (nl rfl) ?_
  unfold convoy_fairGuest at h
  unfold ac_convoy_fairGuest
  refine l_sub (s0 := ⟨T [(0, (.d _))], G []⟩) (sbr rfl rfl) ?_
  refine lr (fun u1 hu1 => sn rfl rfl (sv rfl (s_nil (l_seq (lr (fun u2 hu2 => sp rfl rfl (sl rfl G_hit rfl (sv rfl (s_nil (cc rfl h (fun c1 h => ?_) (fun c1 h => ?_)))))))))))
  · refine lr (fun u3 hu3 => sd rfl (v_loadG rfl G_hit rfl rfl) (sv rfl (s_val (.d (bo (p1.ID == 0 && (p1.S == 0 && (p1.V == 0 && (p1.Len == 0 && (p1.End == 0 && (p1.Ahead == 0 && (p1.Guess_.R == 0 && (p1.Guess_.V == 0 && (p1.From == 0 && (p1.Until == 0 && true)))))))))))) rfl rfl (sv rfl (s_nil (l_ret ?_))))))
    obtain rfl := Option.some.inj h
    exact fin_ok (.inr rfl) (resD1 (res_t rfl) rf_d) (.refl _)
  · refine l_skip (lr (fun u4 hu4 => sp rfl rfl (sl rfl G_hit rfl (sp rfl rfl (sl rfl G_hit rfl (sp rfl rfl (sl rfl G_hit rfl (sp rfl rfl (sl rfl G_hit rfl (bs h fun v1 hv1 h => s_call rfl rfl all2_refl (convoy_fairBody_ok _ _ _ _  _ hv1) (.inl rfl) (sv rfl (gp rfl (gw_t rfl) (fun _ => rfl) (gt rfl (vl rfl G_hit rfl) (bs h fun v2 hv2 h => ?_))))))))))))))
    refine g_call v1 (bo v2) (gw_t rfl) (fun w3 => ⟨_, [(di p1.Ahead)], _, _, (by simp only [gd_pos w3]; rfl), rfl, all2_refl, convoy_fairID_ok _  _ (cond_t w3 hv2), (.inl rfl)⟩) ?_
    refine sa rfl rfl rfl (sv rfl (gp rfl (gw_t rfl) (fun _ => rfl) (gt rfl (vl rfl G_hit rfl) (bs h fun v3 hv3 h => ?_))))
    refine g_call _ (bo v3) (gw_t rfl) (fun w6 => ⟨_, [(di p1.From)], _, _, (by simp only [gd_pos w6]; rfl), rfl, all2_refl, convoy_fairID_ok _  _ (cond_t w6 hv3), (.inl rfl)⟩) ?_
    refine sa rfl rfl rfl (sv rfl (gp rfl (gw_t rfl) (fun _ => rfl) (gt rfl (vl rfl G_hit rfl) (bs h fun v4 hv4 h => ?_))))
    refine g_call _ (bo v4) (gw_t rfl) (fun w9 => ⟨_, [(di p1.Until), (di 0), (di 2199023255552)], _, _, (by simp only [gd_pos w9]; rfl), rfl, all2_refl, convoy_within_ok _ _ _  _ (cond_t w9 hv4), (.inl rfl)⟩) ?_
    refine sa rfl rfl rfl (sv rfl (gp rfl (gw_t rfl) (fun _ => rfl) (gt rfl (vl rfl G_hit rfl) (bs h fun v5 hv5 h => ?_))))
    refine g_call _ (bo v5) (gw_t rfl) (fun w12 => ⟨_, [(di p1.End), (di 0), (di 1099511627776)], _, _, (by simp only [gd_pos w12]; rfl), rfl, all2_refl, convoy_within_ok _ _ _  _ (cond_t w12 hv5), (.inl rfl)⟩) ?_
    refine sa rfl rfl rfl (sv rfl (gp rfl (gw_t rfl) (fun _ => rfl) (gt rfl (fun w14 => (v_loadG (gd_pos w14) G_hit rfl rfl)) (bs h fun v6 hv6 h => ?_))))
    refine g_call _ (bo v6) (gw_t rfl) (fun w15 => ⟨_, [(.d (.agg [(i64 p1.Guess_.R), (i64 p1.Guess_.V)]))], _, _, (by simp only [gd_pos w15]; rfl), rfl, all2_refl, convoy_fairGuess_ok _  _ (cond_t w15 hv6), (.inl rfl)⟩) ?_
    refine sa rfl rfl rfl (sv rfl (s_nil (l_ret ?_)))
    obtain rfl := Option.some.inj h
    exact fin_ok (.inr rfl) (resD1 (res_t rfl) rf_d) (.refl _)

noncomputable def convoy_numbers (p1 : Convoy) : Option Int :=
  (cond (!(p1.Guest_.ID == 0 && (p1.Guest_.S == 0 && (p1.Guest_.V == 0 && (p1.Guest_.Len == 0 && (p1.Guest_.End == 0 && (p1.Guest_.Ahead == 0 && (p1.Guest_.Guess_.R == 0 && (p1.Guest_.Guess_.V == 0 && (p1.Guest_.From == 0 && (p1.Guest_.Until == 0 && true))))))))))) (some (w64 ((p1.Mates.length : Int) + 1))) (some (p1.Mates.length : Int))).bind fun y1 => (convoy_within p1.Tick 0 1099511627776).bind fun v1 => ((cond (!(!v1)) (convoy_within p1.Gap 1 20000) (some default))).bind fun v2 => cond ((!v1) || (!v2)) (some 2) (cond ((p1.Mates.length : Int) == 0) (some 6) (cond (decide (y1 > 8)) (some 8) ((slices_ContainsFunc_Mate_Mate_convoy_numbers_1 p1.Mates).bind fun v3 => ((cond (!v3) (convoy_fairGuest p1.Guest_) (some default))).bind fun v4 => cond (v3 || (!v4)) (some 2) (some 0))))

/-- kerbstone/convoy.numbers -/
def ac_convoy_numbers : AC := (.seq (.reg [oo 1 (.box 38 true (.t 0)), oo 2 (.mv (ci 0))]) (.seq (.reg [oo 4 (.fieldA 2 (.t 1)), oo 5 (.load 1 false (.t 4)), oo 6 (.len (.t 5)), oo 3 (.mv (.t 6))]) (.seq (.seq (.reg [oo 7 (.fieldA 3 (.t 1)), oo 8 (.load 10 true (.t 7)), oo 9 (.build [z0, z0, z0, z0, z0, z0, z0, z0, z0, z0] []), oo 10 (.eqA true [false, false, false, false, false, false, false, false, false, false] (.t 8) (.t 9))]) (.cond (.t 10) (.reg [oo 11 (.mv (.t 3)), oo 12 (.bin .add (.t 11) (ci 1)), oo 3 (.mv (.t 12))]) .skip)) (.seq (.block 0 (.seq (.reg [oo 14 (.fieldA 0 (.t 1)), oo 15 (.load 1 false (.t 14)), oo 16 (.call (cf 95) [(.t 15), (ci 0), (ci 1099511627776)]), oo 17 (.un .not (.t 16)), oo 18 (.mv (.t 17)), oh 19 (.fieldA 1 (.t 1)) 18, oh 20 (.load 1 false (.t 19)) 18, oh 21 (.call (cf 95) [(.t 20), (ci 1), (ci 20000)]) 18, oh 22 (.un .not (.t 21)) 18, oo 23 (.pick (.t 18) (.c (.v (.bool true))) (.t 22)), oo 13 (.mv (.t 23))]) (.cond (.t 13) (.seq (.reg [oo 2 (.mv (ci 2))]) .ret) (.seq (.reg [oo 25 (.fieldA 2 (.t 1)), oo 26 (.load 1 false (.t 25)), oo 27 (.len (.t 26)), oo 28 (.bin .eql (.t 27) (ci 0)), oo 24 (.mv (.t 28))]) (.cond (.t 24) (.seq (.reg [oo 2 (.mv (ci 6))]) .ret) (.seq (.reg [oo 30 (.mv (.t 3)), oo 31 (.bin .gtr (.t 30) (ci 8)), oo 29 (.mv (.t 31))]) (.cond (.t 29) (.seq (.reg [oo 2 (.mv (ci 8))]) .ret) (.seq (.reg [oo 33 (.fieldA 2 (.t 1)), oo 34 (.load 1 false (.t 33)), oo 35 (.call (cf 77) [(.t 34), (cf 101)]), oo 36 (.mv (.t 35)), oh 37 (.fieldA 3 (.t 1)) 36, oh 38 (.load 10 true (.t 37)) 36, oh 39 (.call (cf 103) [(.t 38)]) 36, oh 40 (.un .not (.t 39)) 36, oo 41 (.pick (.t 36) (.c (.v (.bool true))) (.t 40)), oo 32 (.mv (.t 41))]) (.cond (.t 32) (.seq (.reg [oo 2 (.mv (ci 2))]) .ret) .skip))))))))) (.seq (.reg [oo 2 (.mv (ci 0))]) .ret)))))
theorem fn_convoy_numbers : FnOK Try.prog 73 42 [.t 2] ac_convoy_numbers := ⟨_, _, Try.func73, rfl, Try.ntmps73, by kernel_rfl, ⟨fun _ => [], by kernel_rfl⟩, by kernel_rfl⟩
set_option maxHeartbeats 4000000 in
theorem convoy_numbers_ok (p1 : Convoy) (r : Int) (h : convoy_numbers p1 = some r) : PCall Try.prog 73 [(.agg (eConvoy p1))] (i64 r) := by
  refine l_call fn_convoy_numbers (nl rfl) ?_
  unfold convoy_numbers at h
  unfold ac_convoy_numbers
  refine l_sub (s0 := ⟨T [(0, (.d _))], G []⟩) (sbr rfl rfl) ?_
  refine lr (fun u1 hu1 => sn rfl rfl (sv rfl (s_nil (lr (fun u2 hu2 => sp rfl rfl (sl rfl G_hit rfl (sd rfl (v_len rfl) (sv rfl (s_nil (l_seq (lr (fun u3 hu3 => sp rfl rfl (sd rfl (v_loadG rfl G_hit rfl rfl) (sv rfl (s_val (.d (bo (!(p1.Guest_.ID == 0 && (p1.Guest_.S == 0 && (p1.Guest_.V == 0 && (p1.Guest_.Len == 0 && (p1.Guest_.End == 0 && (p1.Guest_.Ahead == 0 && (p1.Guest_.Guess_.R == 0 && (p1.Guest_.Guess_.V == 0 && (p1.Guest_.From == 0 && (p1.Guest_.Until == 0 && true))))))))))))) rfl rfl (s_nil (bs h fun y1 hy1 h => l_join (fun s => ∃ g1 : Unit, Sb ⟨T [(1, (.ptr (1, u1) 0)), (3, (di y1))], G [((1, u1), some (.box 38 (dConvoy p1)))]⟩ s) ?_ ?_)))))))))))))))))
  · refine cc rfl hy1 (fun c1 hy1 => ?_) (fun c1 hy1 => ?_)
    · refine l_reg fun u4 hu4 => sv rfl (sv rfl (sv rfl (s_nil ?_)))
      obtain rfl := Option.some.inj hy1
      exact l_j ⟨(), (sbr rfl rfl)⟩
    · refine l_skip ?_
      obtain rfl := Option.some.inj hy1
      exact l_j ⟨(), (sbr rfl rfl)⟩
  · rintro _ ⟨g1, q1⟩
    refine l_sub q1 (l_seq (l_block (lr (fun u5 hu5 => sp rfl rfl (sl rfl G_hit rfl (bs h fun v1 hv1 h => s_call rfl rfl all2_refl (convoy_within_ok _ _ _  _ hv1) (.inl rfl) (s_val (.d (bo (!v1))) rfl rfl (sv rfl (gp rfl (gw_f rfl) (fun _ => rfl) (gf rfl (vl rfl G_hit rfl) (bs h fun v2 hv2 h => ?_)))))))))))
    refine g_call _ (bo v2) (gw_f rfl) (fun w3 => ⟨_, [(di p1.Gap), (di 1), (di 20000)], _, _, (by simp only [gd_pos w3]; rfl), rfl, all2_refl, convoy_within_ok _ _ _  _ (cond_t w3 hv2), (.inl rfl)⟩) ?_
    refine g_val _ (.d (bo (!v2))) rfl (gw_f rfl) (fun w4 => (by simp only [gd_pos w4]; rfl)) ?_
    refine sd rfl (v_or rfl rfl (fun hc => gd_pos (not_t hc))) (sv rfl (s_nil (cc rfl h (fun c2 h => ?_) (fun c2 h => ?_))))
    · refine lr (fun u6 hu6 => sv rfl (s_nil (l_ret ?_)))
      obtain rfl := Option.some.inj h
      exact fin_ok (.inr rfl) (resD1 (res_t rfl) rf_d) (.refl _)
    · refine lr (fun u7 hu7 => sp rfl rfl (sl rfl G_hit rfl (sd rfl (v_len rfl) (sv rfl (sv rfl (s_nil (cc rfl h (fun c3 h => ?_) (fun c3 h => ?_))))))))
      · refine lr (fun u8 hu8 => sv rfl (s_nil (l_ret ?_)))
        obtain rfl := Option.some.inj h
        exact fin_ok (.inr rfl) (resD1 (res_t rfl) rf_d) (.refl _)
      · refine lr (fun u9 hu9 => sv rfl (sv rfl (sv rfl (s_nil (cc rfl h (fun c4 h => ?_) (fun c4 h => ?_))))))
        · refine lr (fun u10 hu10 => sv rfl (s_nil (l_ret ?_)))
          obtain rfl := Option.some.inj h
          exact fin_ok (.inr rfl) (resD1 (res_t rfl) rf_d) (.refl _)
        · refine lr (fun u11 hu11 => sp rfl rfl (sl rfl G_hit rfl (bs h fun v3 hv3 h => s_call rfl rfl all2_refl (slices_ContainsFunc_Mate_Mate_convoy_numbers_1_ok _  _ hv3) (.inl rfl) (sv rfl (gp rfl (gw_f rfl) (fun _ => rfl) (gf rfl (fun w6 => (v_loadG (gd_pos w6) G_hit rfl rfl)) (bs h fun v4 hv4 h => ?_)))))))
          refine g_call _ (bo v4) (gw_f rfl) (fun w7 => ⟨_, [(.d (.agg (eGuest p1.Guest_)))], _, _, (by simp only [gd_pos w7]; rfl), rfl, all2_refl, convoy_fairGuest_ok _  _ (cond_t w7 hv4), (.inl rfl)⟩) ?_
          refine g_val _ (.d (bo (!v4))) rfl (gw_f rfl) (fun w8 => (by simp only [gd_pos w8]; rfl)) ?_
          refine sd rfl (v_or rfl rfl (fun hc => gd_pos (not_t hc))) (sv rfl (s_nil (cc rfl h (fun c5 h => ?_) (fun c5 h => ?_))))
          · refine l_seq (l_sub (s0 := ⟨T [], G []⟩) (sbr rfl rfl) ?_)
            refine l_reg fun u12 hu12 => sv rfl (s_nil (l_ret ?_))
            obtain rfl := Option.some.inj h
            exact fin_ok (.inr rfl) (resD1 (res_t rfl) rf_d) (.refl _)
          · refine l_skip (l_end (l_seq (l_sub (s0 := ⟨T [], G []⟩) (sbr rfl rfl) ?_)))
            refine l_reg fun u13 hu13 => sv rfl (s_nil (l_ret ?_))
            obtain rfl := Option.some.inj h
            exact fin_ok (.inr rfl) (resD1 (res_t rfl) rf_d) (.refl _)

noncomputable def convoy_rear (p1 : Mate) : Option Int :=
  some (w64 (p1.S - p1.Len))

/-- kerbstone/convoy.rear -/
def ac_convoy_rear : AC := (.seq (.reg [oo 1 (.box 65 true (.t 0)), oo 2 (.mv (ci 0))]) (.seq (.reg [oo 3 (.fieldA 1 (.t 1)), oo 4 (.load 1 false (.t 3)), oo 5 (.fieldA 3 (.t 1)), oo 6 (.load 1 false (.t 5)), oo 7 (.bin .sub (.t 4) (.t 6)), oo 2 (.mv (.t 7))]) .ret))
theorem fn_convoy_rear : FnOK Try.prog 67 8 [.t 2] ac_convoy_rear := ⟨_, _, Try.func67, rfl, Try.ntmps67, by kernel_rfl, ⟨fun _ => [], by kernel_rfl⟩, by kernel_rfl⟩
theorem convoy_rear_ok (p1 : Mate) (r : Int) (h : convoy_rear p1 = some r) : PCall Try.prog 67 [(.agg (eMate p1))] (i64 r) := by
  refine l_call fn_convoy_rear (nl rfl) ?_
  unfold convoy_rear at h
  unfold ac_convoy_rear
  refine l_sub (s0 := ⟨T [(0, (.d _))], G []⟩) (sbr rfl rfl) ?_
  refine lr (fun u1 hu1 => sn rfl rfl (sv rfl (s_nil (lr (fun u2 hu2 => sp rfl rfl (sl rfl G_hit rfl (sp rfl rfl (sl rfl G_hit rfl (sv rfl (sv rfl (s_nil (l_ret ?_))))))))))))
  obtain rfl := Option.some.inj h
  exact fin_ok (.inr rfl) (resD1 (res_t rfl) rf_d) (.refl _)
end Go.Abs.Convoy
