/-
  The Go functions that RoadsChecks reaches, as plain Lean functions, and the proofs that the program computes them.
-/
import Derived.Test.YtimbepcdlehjjaaGreatCoreD
import Derived.Test.YtimbepcdlehjjaaGreatProg
import Derived.KernelRfl
import Derived.IntWalk
set_option maxRecDepth 20000
set_option maxHeartbeats 4000000
set_option linter.unusedVariables false
namespace Go.Abs.Roadsz
open Go Go.Abs Go.Proofs
attribute [local irreducible] regW regT AWL
structure Spot where
  X : Int
  Y : Int
  deriving Inhabited
structure CurveVector where
  x : Int
  y : Int
  deriving Inhabited
structure CurvePiece where
  p : Spot
  v : CurveVector
  l : Int
  start : Int
  deriving Inhabited
abbrev eSpot : Spot → List D := fun x => [(i64 x.X), (i64 x.Y)]
structure Curve where
  Pts : (List Spot)
  deriving Inhabited
abbrev eCurve : Curve → List D := fun x => [(.list (List.map eSpot x.Pts))]
abbrev eInt_i64 : Int → List D := fun x => [.v (.int .i64 x)]
structure Part where
  Lane_ : Int
  From : Int
  To : Int
  Rank : Int
  deriving Inhabited
abbrev ePart : Part → List D := fun x => [(i64 x.Lane_), (i64 x.From), (i64 x.To), (i64 x.Rank)]
structure Phase where
  Ticks : Int
  Green : (List Int)
  deriving Inhabited
abbrev ePhase : Phase → List D := fun x => [(i64 x.Ticks), (.list (List.map eInt_i64 x.Green))]
structure Lane where
  Kind : Int
  Curve_ : Curve
  Half : Int
  Limit : Int
  Next : (List Int)
  deriving Inhabited
structure Zone where
  Parts : (List Part)
  Signal_ : Int
  deriving Inhabited
structure Signal where
  Offset : Int
  Phases : (List Phase)
  deriving Inhabited
structure Work where
  Lane_ : Int
  From : Int
  To : Int
  Begin : Int
  End : Int
  Limit : Int
  deriving Inhabited
structure Map where
  Version : Int
  Lanes : (List Lane)
  Zones : (List Zone)
  Signals : (List Signal)
  Works : (List Work)
  deriving Inhabited
abbrev eLane : Lane → List D := fun x => [(i64 x.Kind), (.list (List.map eSpot x.Curve_.Pts)), (i64 x.Half), (i64 x.Limit), (.list (List.map eInt_i64 x.Next))]
abbrev eZone : Zone → List D := fun x => [(.list (List.map ePart x.Parts)), (i64 x.Signal_)]
abbrev eSignal : Signal → List D := fun x => [(i64 x.Offset), (.list (List.map ePhase x.Phases))]
abbrev eWork : Work → List D := fun x => [(i64 x.Lane_), (i64 x.From), (i64 x.To), (i64 x.Begin), (i64 x.End), (i64 x.Limit)]
abbrev eMap : Map → List D := fun x => [(i64 x.Version), (.list (List.map eLane x.Lanes)), (.list (List.map eZone x.Zones)), (.list (List.map eSignal x.Signals)), (.list (List.map eWork x.Works))]
abbrev eL_Lane : (List Lane) → List D := fun x => [.list (List.map eLane x)]
abbrev eL_Spot : (List Spot) → List D := fun x => [.list (List.map eSpot x)]
abbrev eL_Int_i64 : (List Int) → List D := fun x => [.list (List.map eInt_i64 x)]
abbrev eL_Zone : (List Zone) → List D := fun x => [.list (List.map eZone x)]
abbrev eL_Part : (List Part) → List D := fun x => [.list (List.map ePart x)]
abbrev eL_Signal : (List Signal) → List D := fun x => [.list (List.map eSignal x)]
abbrev eL_Phase : (List Phase) → List D := fun x => [.list (List.map ePhase x)]
abbrev eL_Work : (List Work) → List D := fun x => [.list (List.map eWork x)]
structure RoadsWay where
  Map_ : Map
  lanes : (List Int)
  starts : (List Int)
  length : Int
  deriving Inhabited
abbrev eFn : Nat → List D := fun x => [.fn (.func x) [] []]
structure RoadsCheck where
  Map_ : Map
  deriving Inhabited
abbrev eA249 : (Int × Int × Int) → List D := fun x => [(i64 x.1), (i64 x.2.1), (i64 x.2.2)]
structure Clash where
  Kind : Int
  Zone_ : Int
  A : Int
  B : Int
  deriving Inhabited
abbrev eClash : Clash → List D := fun x => [(i64 x.Kind), (i64 x.Zone_), (i64 x.A), (i64 x.B)]
structure Anon7 where
  x : Int
  y : Int
  signed : Bool
  code : Int
  deriving Inhabited
structure RuntimeBoundsError where
  x : Int
  y : Int
  signed : Bool
  code : Int
  deriving Inhabited
structure Anon13 where
  msg : ByteArray
  addr : Int
  deriving Inhabited
structure RuntimeErrorAddressString where
  msg : ByteArray
  addr : Int
  deriving Inhabited
structure Anon26 where
  Version : Int
  Lanes : (List Lane)
  Zones : (List Zone)
  Signals : (List Signal)
  Works : (List Work)
  deriving Inhabited
structure Edit where
  Kind : Int
  Table : Int
  At : Int
  Lane_ : Lane
  Zone_ : Zone
  Signal_ : Signal
  Work_ : Work
  deriving Inhabited
structure Anon35 where
  Base : Int
  Edits : (List Edit)
  deriving Inhabited
structure Patch where
  Base : Int
  Edits : (List Edit)
  deriving Inhabited
structure Anon38 where
  Pts : (List Spot)
  deriving Inhabited
structure Anon41 where
  Kind : Int
  Curve_ : Curve
  Half : Int
  Limit : Int
  Next : (List Int)
  deriving Inhabited
structure Anon44 where
  Parts : (List Part)
  Signal_ : Int
  deriving Inhabited
structure Anon47 where
  Offset : Int
  Phases : (List Phase)
  deriving Inhabited
structure Anon49 where
  Lane_ : Int
  From : Int
  To : Int
  Begin : Int
  End : Int
  Limit : Int
  deriving Inhabited
structure Anon51 where
  Kind : Int
  Table : Int
  At : Int
  Lane_ : Lane
  Zone_ : Zone
  Signal_ : Signal
  Work_ : Work
  deriving Inhabited
structure Anon90 where
  Lane_ : Int
  From : Int
  To : Int
  Rank : Int
  deriving Inhabited
structure Anon92 where
  Kind : Int
  Zone_ : Int
  A : Int
  B : Int
  deriving Inhabited
structure Anon94 where
  Zone_ : Int
  Part_ : Int
  From : Int
  To : Int
  deriving Inhabited
structure Pass where
  Zone_ : Int
  Part_ : Int
  From : Int
  To : Int
  deriving Inhabited
structure Anon96 where
  Ticks : Int
  Green : (List Int)
  deriving Inhabited
structure Anon104 where
  Map_ : Map
  deriving Inhabited
structure Anon144 where
  b : (List Int)
  deriving Inhabited
structure RoadsWriter where
  b : (List Int)
  deriving Inhabited
structure Anon147 where
  X : Int
  Y : Int
  deriving Inhabited
structure Anon153 where
  s : ByteArray
  short : Bool
  deriving Inhabited
structure RoadsReader where
  s : ByteArray
  short : Bool
  deriving Inhabited
structure Anon168 where
  Map_ : Map
  lanes : (List Int)
  starts : (List Int)
  length : Int
  deriving Inhabited
structure Anon186 where
  s : ByteArray
  bad : Bool
  deriving Inhabited
structure Ref03Reader where
  s : ByteArray
  bad : Bool
  deriving Inhabited
structure Anon225 where
  FromA : Int
  ToA : Int
  FromB : Int
  ToB : Int
  deriving Inhabited
structure Cross where
  FromA : Int
  ToA : Int
  FromB : Int
  ToB : Int
  deriving Inhabited
structure Anon252 where
  x : Int
  y : Int
  deriving Inhabited
structure Anon279 where
  p : Spot
  v : CurveVector
  l : Int
  start : Int
  deriving Inhabited
structure Anon282 where
  piece : CurvePiece
  half : Int
  ends : (Int × Int)
  deriving Inhabited
structure CurveCorridor where
  piece : CurvePiece
  half : Int
  ends : (Int × Int)
  deriving Inhabited
structure Anon290 where
  p : Spot
  v : Spot
  l : Int
  h : Int
  s : Int
  t : Int
  deriving Inhabited
structure Ref01Stripe where
  p : Spot
  v : Spot
  l : Int
  h : Int
  s : Int
  t : Int
  deriving Inhabited
abbrev eRoadsWay : RoadsWay → List D := fun x => [(i64 x.Map_.Version), (.list (List.map eLane x.Map_.Lanes)), (.list (List.map eZone x.Map_.Zones)), (.list (List.map eSignal x.Map_.Signals)), (.list (List.map eWork x.Map_.Works)), (.list (List.map eInt_i64 x.lanes)), (.list (List.map eInt_i64 x.starts)), (i64 x.length)]
abbrev dRoadsWay : RoadsWay → List AV := fun x => [(.d (i64 x.Map_.Version)), (.d (.list (List.map eLane x.Map_.Lanes))), (.d (.list (List.map eZone x.Map_.Zones))), (.d (.list (List.map eSignal x.Map_.Signals))), (.d (.list (List.map eWork x.Map_.Works))), (.d (.list (List.map eInt_i64 x.lanes))), (.d (.list (List.map eInt_i64 x.starts))), (.d (i64 x.length))]
abbrev dWork : Work → List AV := fun x => [(.d (i64 x.Lane_)), (.d (i64 x.From)), (.d (i64 x.To)), (.d (i64 x.Begin)), (.d (i64 x.End)), (.d (i64 x.Limit))]
abbrev eCurvePiece : CurvePiece → List D := fun x => [(i64 x.p.X), (i64 x.p.Y), (i64 x.v.x), (i64 x.v.y), (i64 x.l), (i64 x.start)]
abbrev dCurvePiece : CurvePiece → List AV := fun x => [(.d (i64 x.p.X)), (.d (i64 x.p.Y)), (.d (i64 x.v.x)), (.d (i64 x.v.y)), (.d (i64 x.l)), (.d (i64 x.start))]
abbrev dMap : Map → List AV := fun x => [(.d (i64 x.Version)), (.d (.list (List.map eLane x.Lanes))), (.d (.list (List.map eZone x.Zones))), (.d (.list (List.map eSignal x.Signals))), (.d (.list (List.map eWork x.Works)))]
abbrev dLane : Lane → List AV := fun x => [(.d (i64 x.Kind)), (.d (.list (List.map eSpot x.Curve_.Pts))), (.d (i64 x.Half)), (.d (i64 x.Limit)), (.d (.list (List.map eInt_i64 x.Next)))]
abbrev dPart : Part → List AV := fun x => [(.d (i64 x.Lane_)), (.d (i64 x.From)), (.d (i64 x.To)), (.d (i64 x.Rank))]


noncomputable def kit_Small_l4 (p1 : Map) (x3 : Int) (x4 : Int) : Option (Stp Int (Sum Unit Bool)) :=
  (geti p1.Signals x3).bind fun v5 => cond (decide (x4 < (v5.Phases.length : Int))) ((geti p1.Signals x3).bind fun v6 => (geti v6.Phases x4).bind fun v7 => cond (decide ((v7.Green.length : Int) > 14)) (some (.out (.inr false))) (some (.go (w64 (x4 + 1))))) (some (.out (.inl ())))
noncomputable def kit_Small_l3 (p1 : Map) (x3 : Int) : Option (Stp Int (Sum Unit Bool)) :=
  cond (decide (x3 < (p1.Signals.length : Int))) ((geti p1.Signals x3).bind fun v4 => cond (decide ((v4.Phases.length : Int) > 8)) (some (.out (.inr false))) (thenS (loop (kit_Small_l4 p1 x3) 0) (fun _ => some (.go (w64 (x3 + 1)))) (fun r => some (.out (.inr r))))) (some (.out (.inl ())))
noncomputable def kit_Small_l2 (p1 : Map) (x2 : Int) : Option (Stp Int (Sum Unit Bool)) :=
  cond (decide (x2 < (p1.Zones.length : Int))) ((geti p1.Zones x2).bind fun v3 => cond (decide ((v3.Parts.length : Int) > 8)) (some (.out (.inr false))) (some (.go (w64 (x2 + 1))))) (some (.out (.inl ())))
noncomputable def kit_Small_l1 (p1 : Map) (x1 : Int) : Option (Stp Int (Sum Unit Bool)) :=
  cond (decide (x1 < (p1.Lanes.length : Int))) ((geti p1.Lanes x1).bind fun v1 => ((cond (!(decide ((v1.Curve_.Pts.length : Int) > 18))) (geti p1.Lanes x1) (some default))).bind fun v2 => cond ((decide ((v1.Curve_.Pts.length : Int) > 18)) || (decide ((v2.Next.length : Int) > 5))) (some (.out (.inr false))) (some (.go (w64 (x1 + 1))))) (some (.out (.inl ())))
noncomputable def kit_Small (p1 : Map) : Option Bool :=
  cond ((((decide ((p1.Lanes.length : Int) > 14)) || (decide ((p1.Zones.length : Int) > 14))) || (decide ((p1.Signals.length : Int) > 6))) || (decide ((p1.Works.length : Int) > 10))) (some false) (thenS (loop (kit_Small_l1 p1) 0) (fun _ => thenS (loop (kit_Small_l2 p1) 0) (fun _ => thenS (loop (kit_Small_l3 p1) 0) (fun _ => some true) (fun r => some r)) (fun r => some r)) (fun r => some r))

theorem kit_Small_ok (p1 : Map) (r : Bool) (h : kit_Small p1 = some r) : PCall Tryz.prog 13 [(.agg (eMap p1))] (bo r) := by
 refine l_call (fk Tryz.func13 Tryz.ntmps13 m0 (by with_unfolding_all rfl)) (nl rfl) ?_
 unfold kit_Small at h
 refine l_sub (s0 := ⟨T [(0, (.d _))], G []⟩) (sbr rfl rfl) ?_
 refine lr (fun u1 hu1 => sn rfl rfl (sv rfl (s_nil (l_seq (lr (fun u2 hu2 => sp rfl rfl (sl rfl G_hit rfl (sd rfl (v_len rfl) (sv rfl (sv rfl (gp rfl (gw_f rfl) (fun _ => rfl) (gf rfl (vl rfl G_hit rfl) (gf rfl (fun w3 => (v_len (gd_pos w3))) (gf rfl (vb rfl rfl rfl) (sd rfl (v_or rfl rfl (fun hc => gd_pos (not_t hc))) (sv rfl (gp rfl (gw_f rfl) (fun _ => rfl) (gf rfl (vl rfl G_hit rfl) (gf rfl (fun w7 => (v_len (gd_pos w7))) (gf rfl (vb rfl rfl rfl) (sd rfl (v_or rfl rfl (fun hc => gd_pos (not_t hc))) (sv rfl (gp rfl (gw_f rfl) (fun _ => rfl) (gf rfl (vl rfl G_hit rfl) (gf rfl (fun w11 => (v_len (gd_pos w11))) (gf rfl (vb rfl rfl rfl) (sd rfl (v_or rfl rfl (fun hc => gd_pos (not_t hc))) (s_nil (cc rfl h (fun c1 h => ?_) (fun c1 h => ?_))))))))))))))))))))))))))))))
 refine l_seq (l_sub (s0 := ⟨T [], G []⟩) (sbr rfl rfl) ?_)
 refine l_reg fun u3 hu3 => sv rfl (s_nil (l_ret ?_))
 cases h
 exact fin_ok (.inr rfl) (resD1 (res_t rfl) rf_d) (.refl _)
 refine l_skip (l_seq (l_seq (l_sub (s0 := ⟨T [(1, (.ptr _ _))], G [((1, u1), some (.box 27 _))]⟩) (sbr rfl rfl) ?_)))
 refine l_reg fun u4 hu4 => sv rfl (s_nil (js h fun z1 hz1 h => l_join (fun s => ∃ (y1 : Unit) (g1 : Unit), z1 = .inl y1 ∧ Sb ⟨T [(1, (.ptr (1, u1) 0))], G [((1, u1), some (.box 27 (dMap p1)))]⟩ s) ?_ ?_))
 refine l_block (l_loop (kit_Small_l1 p1) (fun (x1 : Int) (g2 : Unit) => ⟨T [(1, (.ptr (1, u1) 0)), (3, (di x1))], G [((1, u1), some (.box 27 (dMap p1)))]⟩) 0 () _ hz1 (sbr rfl rfl) ?_)
 intro x1 g2 z2 hz2 ez2
 unfold kit_Small_l1 at hz2
 refine l_seq (lr (fun u5 hu5 => sv rfl (sp rfl rfl (sl rfl G_hit rfl (sd rfl (v_len rfl) (sv rfl (s_nil (cc rfl hz2 (fun c2 hz2 => ?_) (fun c2 hz2 => ?_)))))))))
 refine l_skip (l_seq (l_block (lr (fun u6 hu6 => sp rfl rfl (sl rfl G_hit rfl (sv rfl (bs hz2 fun v1 hv1 hz2 => sd rfl (v_idx rfl rfl hv1 rfl) (sv rfl (sv rfl (sd rfl (v_loadL rfl hv1 rfl) (sd rfl (v_len rfl) (sv rfl (sv rfl (gp rfl (gw_f rfl) (fun _ => rfl) (gf rfl (vl rfl G_hit rfl) (gf rfl (fun _ => rfl) (bs hz2 fun v2 hv2 hz2 => gf rfl (fun w16 => (v_idx (gd_pos w16) (gd_pos w16) (cond_t w16 hv2) rfl)) ?_)))))))))))))))))
 refine gf rfl (fun w17 => (by simp only [gd_pos w17]; rfl)) ?_
 refine gf rfl (fun w18 => (v_loadL (gd_pos w18) (cond_t w18 hv2) rfl)) (gf rfl (fun w19 => (v_len (gd_pos w19))) (gf rfl (vb rfl rfl rfl) (sd rfl (v_or rfl rfl (fun hc => gd_pos (not_t hc))) (s_nil (cc rfl hz2 (fun c3 hz2 => ?_) (fun c3 hz2 => ?_))))))
 refine l_seq (l_sub (s0 := ⟨T [], G []⟩) (sbr rfl rfl) ?_)
 refine l_reg fun u7 hu7 => sv rfl (s_nil (l_ret ?_))
 cases hz2
 obtain rfl := ez2 _ rfl
 refine ⟨nofun, awl_ret ?_⟩
 rw [Sum.elim_inr] at h
 cases h
 exact fin_ok (.inr rfl) (resD1 (res_t rfl) rf_d) (.refl _)
 refine l_skip (l_end (l_sub (s0 := ⟨T [(1, (.ptr _ _)), (3, (.d _))], G [((1, u1), some (.box 27 _))]⟩) (sbr rfl rfl) ?_))
 refine l_reg fun u8 hu8 => sv rfl (sv rfl (sv rfl (s_nil (l_nil ?_))))
 cases hz2
 exact ⟨rfl, (), (sbr rfl rfl)⟩
 refine l_exitN rfl ?_
 cases hz2
 obtain rfl := ez2 _ rfl
 refine ⟨nofun, awl_pop rfl (l_j ?_)⟩
 exact ⟨_, (), rfl, (sbr rfl rfl)⟩
 rintro _ ⟨y1, g1, rfl, q1⟩
 rw [Sum.elim_inl] at h
 refine l_sub q1 (l_seq (lr (fun u9 hu9 => sv rfl (s_nil (js h fun z3 hz3 h => l_join (fun s => ∃ (y2 : Unit) (g3 : Unit), z3 = .inl y2 ∧ Sb ⟨T [(1, (.ptr (1, u1) 0))], G [((1, u1), some (.box 27 (dMap p1)))]⟩ s) ?_ ?_)))))
 refine l_block (l_loop (kit_Small_l2 p1) (fun (x2 : Int) (g4 : Unit) => ⟨T [(1, (.ptr (1, u1) 0)), (4, (di x2))], G [((1, u1), some (.box 27 (dMap p1)))]⟩) 0 () _ hz3 (sbr rfl rfl) ?_)
 intro x2 g4 z4 hz4 ez4
 unfold kit_Small_l2 at hz4
 refine l_seq (lr (fun u10 hu10 => sv rfl (sp rfl rfl (sl rfl G_hit rfl (sd rfl (v_len rfl) (sv rfl (s_nil (cc rfl hz4 (fun c4 hz4 => ?_) (fun c4 hz4 => ?_)))))))))
 refine l_skip (l_seq (l_block (lr (fun u11 hu11 => sp rfl rfl (sl rfl G_hit rfl (sv rfl (bs hz4 fun v3 hv3 hz4 => sd rfl (v_idx rfl rfl hv3 rfl) (sv rfl (sd rfl (v_loadL rfl hv3 rfl) (sd rfl (v_len rfl) (sv rfl (s_nil (cc rfl hz4 (fun c5 hz4 => ?_) (fun c5 hz4 => ?_))))))))))))))
 refine lr (fun u12 hu12 => sv rfl (s_nil (l_ret ?_)))
 cases hz4
 obtain rfl := ez4 _ rfl
 refine ⟨nofun, awl_ret ?_⟩
 rw [Sum.elim_inr] at h
 cases h
 exact fin_ok (.inr rfl) (resD1 (res_t rfl) rf_d) (.refl _)
 refine l_skip (l_end (l_reg fun u13 hu13 => sv rfl (sv rfl (sv rfl (s_nil (l_nil ?_))))))
 cases hz4
 exact ⟨rfl, (), (sbr rfl rfl)⟩
 refine l_exitN rfl ?_
 cases hz4
 obtain rfl := ez4 _ rfl
 refine ⟨nofun, awl_pop rfl (l_j ?_)⟩
 exact ⟨_, (), rfl, (sbr rfl rfl)⟩
 rintro _ ⟨y2, g3, rfl, q2⟩
 rw [Sum.elim_inl] at h
 refine l_sub q2 (l_seq (lr (fun u14 hu14 => sv rfl (s_nil (js h fun z5 hz5 h => l_join (fun s => ∃ (y3 : Unit) (g5 : Unit), z5 = .inl y3 ∧ Sb ⟨T [], G []⟩ s) ?_ ?_)))))
 refine l_block (l_loop (kit_Small_l3 p1) (fun (x3 : Int) (g6 : Unit) => ⟨T [(1, (.ptr (1, u1) 0)), (5, (di x3))], G [((1, u1), some (.box 27 (dMap p1)))]⟩) 0 () _ hz5 (sbr rfl rfl) ?_)
 intro x3 g6 z6 hz6 ez6
 unfold kit_Small_l3 at hz6
 refine l_seq (lr (fun u15 hu15 => sv rfl (sp rfl rfl (sl rfl G_hit rfl (sd rfl (v_len rfl) (sv rfl (s_nil (cc rfl hz6 (fun c6 hz6 => ?_) (fun c6 hz6 => ?_)))))))))
 refine l_skip (l_seq (l_block (l_seq (lr (fun u16 hu16 => sp rfl rfl (sl rfl G_hit rfl (sv rfl (bs hz6 fun v4 hv4 hz6 => sd rfl (v_idx rfl rfl hv4 rfl) (sv rfl (sd rfl (v_loadL rfl hv4 rfl) (sd rfl (v_len rfl) (sv rfl (s_nil (cc rfl hz6 (fun c7 hz6 => ?_) (fun c7 hz6 => ?_)))))))))))))))
 refine lr (fun u17 hu17 => sv rfl (s_nil (l_ret ?_)))
 cases hz6
 obtain rfl := ez6 _ rfl
 refine ⟨nofun, awl_ret ?_⟩
 rw [Sum.elim_inr] at h
 cases h
 exact fin_ok (.inr rfl) (resD1 (res_t rfl) rf_d) (.refl _)
 refine l_skip (lr (fun u18 hu18 => sv rfl (s_nil (js hz6 fun z7 hz7 hz6 => l_join (fun s => ∃ (y4 : Unit) (g7 : Unit), z7 = .inl y4 ∧ Sb ⟨T [(1, (.ptr (1, u1) 0)), (5, (di x3))], G [((1, u1), some (.box 27 (dMap p1)))]⟩ s) ?_ ?_))))
 refine l_block (l_loop (kit_Small_l4 p1 x3) (fun (x4 : Int) (g8 : Unit) => ⟨T [(1, (.ptr (1, u1) 0)), (5, (di x3)), (6, (di x4))], G [((1, u1), some (.box 27 (dMap p1)))]⟩) 0 () _ hz7 (sbr rfl rfl) ?_)
 intro x4 g8 z8 hz8 ez8
 unfold kit_Small_l4 at hz8
 refine l_seq (lr (fun u19 hu19 => sv rfl (sp rfl rfl (sl rfl G_hit rfl (sv rfl (bs hz8 fun v5 hv5 hz8 => sd rfl (v_idx rfl rfl hv5 rfl) (sv rfl (sd rfl (v_loadL rfl hv5 rfl) (sd rfl (v_len rfl) (sv rfl (s_nil (cc rfl hz8 (fun c8 hz8 => ?_) (fun c8 hz8 => ?_)))))))))))))
 refine l_skip (l_seq (l_block (lr (fun u20 hu20 => sp rfl rfl (sl rfl G_hit rfl (sv rfl (bs hz8 fun v6 hv6 hz8 => sd rfl (v_idx rfl rfl hv6 rfl) (sv rfl (sd rfl (v_loadL rfl hv6 rfl) (sv rfl (bs hz8 fun v7 hv7 hz8 => sd rfl (v_idx rfl rfl hv7 rfl) (sv rfl (sd rfl (v_loadL rfl hv7 rfl) (sd rfl (v_len rfl) (sv rfl (s_nil (cc rfl hz8 (fun c9 hz8 => ?_) (fun c9 hz8 => ?_))))))))))))))))))
 refine l_seq (l_sub (s0 := ⟨T [], G []⟩) (sbr rfl rfl) ?_)
 refine l_reg fun u21 hu21 => sv rfl (s_nil (l_ret ?_))
 cases hz8
 obtain rfl := ez8 _ rfl
 refine ⟨nofun, awl_ret ?_⟩
 rw [Sum.elim_inr] at hz6
 cases hz6
 obtain rfl := ez6 _ rfl
 refine ⟨nofun, awl_ret ?_⟩
 rw [Sum.elim_inr] at h
 cases h
 exact fin_ok (.inr rfl) (resD1 (res_t rfl) rf_d) (.refl _)
 refine l_skip (l_end (l_sub (s0 := ⟨T [(1, (.ptr _ _)), (5, (.d _)), (6, (.d _))], G [((1, u1), some (.box 27 _))]⟩) (sbr rfl rfl) ?_))
 refine l_reg fun u22 hu22 => sv rfl (sv rfl (sv rfl (s_nil (l_nil ?_))))
 cases hz8
 exact ⟨rfl, (), (sbr rfl rfl)⟩
 refine l_exitN rfl ?_
 cases hz8
 obtain rfl := ez8 _ rfl
 refine ⟨nofun, awl_pop rfl (l_j ?_)⟩
 exact ⟨_, (), rfl, (sbr rfl rfl)⟩
 rintro _ ⟨y4, g7, rfl, q3⟩
 rw [Sum.elim_inl] at hz6
 refine l_end (l_sub q3 (l_reg fun u23 hu23 => sv rfl (sv rfl (sv rfl (s_nil (l_nil ?_))))))
 cases hz6
 exact ⟨rfl, (), (sbr rfl rfl)⟩
 refine l_exitN rfl ?_
 cases hz6
 obtain rfl := ez6 _ rfl
 refine ⟨nofun, awl_pop rfl (l_j ?_)⟩
 exact ⟨_, (), rfl, (sbr rfl rfl)⟩
 rintro _ ⟨y3, g5, rfl, q4⟩
 rw [Sum.elim_inl] at h
 refine l_sub q4 (lr (fun u24 hu24 => sv rfl (s_nil (l_ret ?_))))
 cases h
 exact fin_ok (.inr rfl) (resD1 (res_t rfl) rf_d) (.refl _)

noncomputable def kit_road_l1 (p4 : (List Int)) (x1 : (Int × Lane)) : Option (Stp (Int × Lane) Lane) :=
  cond (decide ((w64 (x1.1 + 1)) < (p4.length : Int))) ((geti p4 x1.1).bind fun v1 => (geti p4 (w64 (x1.1 + 1))).bind fun v2 => (appc x1.2.Curve_.Pts [(Spot.mk v1 v2)]).bind fun v3 => some (.go ((w64 (x1.1 + 2)), (Lane.mk x1.2.Kind (Curve.mk v3) x1.2.Half x1.2.Limit x1.2.Next)))) (some (.out x1.2))
noncomputable def kit_road (p1 : Int) (p2 : Int) (p3 : (List Int)) (p4 : (List Int)) : Option Lane :=
  (loop (kit_road_l1 p4) (0, (Lane.mk p1 (Curve.mk []) 1500 p2 p3))).bind fun y1 => cond (p1 == 3) (some (Lane.mk y1.Kind y1.Curve_ 500 y1.Limit y1.Next)) (some y1)

theorem kit_road_ok (p1 : Int) (p2 : Int) (p3 : (List Int)) (p4 : (List Int)) (r : Lane) (h : kit_road p1 p2 p3 p4 = some r) : PCall Tryz.prog 115 [(i64 p1), (i64 p2), (.list (List.map eInt_i64 p3)), (.list (List.map eInt_i64 p4))] (.agg (eLane r)) := by
 refine l_call (fk Tryz.func115 Tryz.ntmps115 (fun r => if r == 5 then [1013] else []) (by with_unfolding_all rfl)) (nl rfl) ?_
 unfold kit_road at h
 refine l_sub (s0 := ⟨T [(0, (.d _)), (1, (.d _)), (2, (.d _)), (3, (.d _))], G []⟩) (sbr rfl rfl) ?_
 refine lr (fun u1 hu1 => sn rfl rfl (s_nil (lr (fun u2 hu2 => sv rfl (sv rfl (sv rfl (sv rfl (sn rfl rfl (sst rfl G_hit [(di p1), (.d .nilS), (di 1500), (di p2), (dl eInt_i64 p3)] rfl (s_nil (l_seq (lr (fun u3 hu3 => sv rfl (s_nil (bs h fun y1 hy1 h => l_join (fun s => ∃ g1 : Nat, Sb ⟨T [(0, (di p1)), (8, (.ptr (8, u1) 0)), (9, (.ptr (9, u2) 0))], G [((8, u1), some (.box 42 (((zs 4).set 1 (.d .nilS)) ++ [(.d .nilS)]))), ((9, u2), some (.box 42 ((dLane y1).set 1 (oS y1.Curve_.Pts (36, g1))))), ((36, g1), oB 148 2 eSpot y1.Curve_.Pts)]⟩ s) ?_ ?_)))))))))))))))
 refine l_block (l_loop (kit_road_l1 p4) (fun (x1 : (Int × Lane)) (g2 : Nat) => ⟨T [(0, (di p1)), (3, (dl eInt_i64 p4)), (8, (.ptr (8, u1) 0)), (9, (.ptr (9, u2) 0)), (10, (di x1.1))], G [((8, u1), some (.box 42 (((zs 4).set 1 (.d .nilS)) ++ [(.d .nilS)]))), ((9, u2), some (.box 42 ((dLane x1.2).set 1 (oS x1.2.Curve_.Pts (36, g2))))), ((36, g2), oB 148 2 eSpot x1.2.Curve_.Pts)]⟩) (0, (Lane.mk p1 (Curve.mk []) 1500 p2 p3)) 0 _ hy1 (sb_of ⟨.of rfl, .of rfl, .of rfl, .of rfl, .of rfl, trivial⟩ (sg rfl (sbG_some G_hit (.of rfl) (sbG_nil trivial)))) ?_)
 intro x1 g2 z1 hz1 ez1
 unfold kit_road_l1 at hz1
 refine l_seq (lr (fun u4 hu4 => sv rfl (sv rfl (sv rfl (sd rfl (v_len rfl) (sv rfl (s_nil (cc rfl hz1 (fun c1 hz1 => ?_) (fun c1 hz1 => ?_)))))))))
 refine l_skip (l_seq (l_block (l_draw rfl fun u5 hu5 => sp rfl rfl (sp rfl rfl (s_val (oS x1.2.Curve_.Pts (36, g2)) rfl (v_load rfl (gq rfl) rfl) (sv rfl (sv rfl (bs hz1 fun v1 hv1 hz1 => sd rfl (v_idx rfl rfl hv1 rfl) (sd rfl (v_loadL rfl hv1 rfl) (sv rfl (sv rfl (sv rfl (bs hz1 fun v2 hv2 hz1 => sd rfl (v_idx rfl rfl hv2 rfl) (sd rfl (v_loadL rfl hv2 rfl) (sv rfl (s_val (dl eSpot [(Spot.mk v1 v2)]) rfl rfl (bs hz1 fun v3 hv3 hz1 => s_appendO eSpot (36, g2) x1.2.Curve_.Pts (Spot.mk v1 v2) [] _ (elems_list (fun _ => rfl)) rfl (gq rfl) hv3 (sp rfl rfl (sp rfl rfl (sst rfl (gq rfl) ((dLane x1.2).set 1 (.sl (36, u5))) rfl (s_nil (l_end (l_sub (s0 := ⟨T [(0, (.d _)), (3, (.d _)), (8, (.ptr _ _)), (9, (.ptr _ _)), (10, (.d _))], G [((8, u1), some (.box 42 _)), ((9, u2), some (.box 42 _)), ((36, u5), some _)]⟩) (sbr rfl rfl) ?_)))))))))))))))))))))))
 refine l_reg fun u6 hu6 => sv rfl (sv rfl (sv rfl (s_nil (l_nil ?_))))
 cases hz1
 exact ⟨rfl, u5, (sb_of ⟨.of rfl, .of rfl, .of rfl, .of rfl, .of rfl, trivial⟩ (sbG_some G_hit (.of rfl) (sbG_some (gq rfl) (.box (cv (.cons (.of (oS_ne (appc_ne hv3)).symm) cw))) (sbG_own (gq rfl) trivial))))⟩
 refine l_exitN rfl ?_
 cases hz1
 obtain rfl := ez1 _ rfl
 refine ⟨nofun, awl_pop rfl (l_j ?_)⟩
 exact ⟨g2, (sb_of ⟨.of rfl, .of rfl, .of rfl, trivial⟩ (sbG_some G_hit (.of rfl) (sg rfl (sbG_oB (gq rfl) trivial))))⟩
 rintro _ ⟨g1, q1⟩
 refine l_sub q1 (l_seq (lr (fun u7 hu7 => sv rfl (sv rfl (s_nil (cc rfl h (fun c2 h => ?_) (fun c2 h => ?_)))))))
 refine l_reg fun u8 hu8 => sp rfl rfl (sst rfl (gq rfl) (((dLane y1).set 1 (oS y1.Curve_.Pts (36, g1))).set 2 (di 500)) rfl (s_nil (lr (fun u9 hu9 => s_val (mkAgg (((dLane y1).set 1 (oS y1.Curve_.Pts (36, g1))).set 2 (di 500))) rfl (v_loadG rfl G_hit rfl rfl) (s_store _ _ _ _ _ (cellsV_mkAgg _) rfl rfl (gq rfl) (nl rfl) (((dLane y1).set 1 (oS y1.Curve_.Pts (36, g1))).set 2 (di 500)) rfl (s_nil (l_ret ?_)))))))
 cases h
 exact fin_ok (.inr rfl) (resD1 (res_cellG rfl G_hit (nl rfl) rfl) (rf_mkAgg (rD (rfL_cons (rf_oS (gq rfl)) (rD (rD (rD rfL_nil))))))) (.agg (ca rfl (.cons ⟨oD_le, rfl⟩ (cz rfl))))
 refine l_skip (lr (fun u10 hu10 => s_val (mkAgg ((dLane y1).set 1 (oS y1.Curve_.Pts (36, g1)))) rfl (v_loadG rfl (gq rfl) rfl rfl) (s_store _ _ _ _ _ (cellsV_mkAgg _) rfl rfl G_hit (nl rfl) ((dLane y1).set 1 (oS y1.Curve_.Pts (36, g1))) rfl (s_nil (l_ret ?_)))))
 cases h
 exact fin_ok (.inr rfl) (resD1 (res_cellG rfl G_hit (nl rfl) rfl) (rf_mkAgg (rD (rfL_cons (rf_oS (gq rfl)) (rD (rD (rD rfL_nil))))))) (.agg (ca rfl (.cons ⟨oD_le, rfl⟩ (cz rfl))))

noncomputable def kit_Cross : Option Map :=
  (kit_road 1 1500 [] [0, 0, 100000, 0]).bind fun v1 => (kit_road 1 1500 [] [50000, (-50000), 50000, 50000]).bind fun v2 => some (Map.mk 0 [v1, v2] [(Zone.mk [(Part.mk 0 48000 52000 1), (Part.mk 1 48000 52000 0)] 0)] [] [])

theorem kit_Cross_ok (r : Map) (h : kit_Cross = some r) : PCall Tryz.prog 58 [] (.agg (eMap r)) := by
 refine l_call (fk Tryz.func58 Tryz.ntmps58 (fun r => if r == 1 then [1000, 1002, 1004, 1007, 1009] else []) (by with_unfolding_all rfl)) (nl rfl) ?_
 unfold kit_Cross at h
 refine l_sub (s0 := ⟨T [], G []⟩) (sbr rfl rfl) ?_
 refine lr (fun u1 hu1 => sn rfl rfl (s_nil (lr (fun u2 hu2 => s_val (dl eInt_i64 [0, 0, 100000, 0]) rfl rfl (bs h fun v1 hv1 h => s_call rfl rfl (.cons (.refl _) (.cons (.refl _) (.cons DLe.nil all2_refl))) (kit_road_ok _ _ _ _  _ hv1) (.inl rfl) (s_val (dl eInt_i64 [50000, (-50000), 50000, 50000]) rfl rfl (bs h fun v2 hv2 h => s_call rfl rfl (.cons (.refl _) (.cons (.refl _) (.cons DLe.nil all2_refl))) (kit_road_ok _ _ _ _  _ hv2) (.inl rfl) (s_val (dl eLane [v1, v2]) rfl (v_dsliceN eLane ([v1, v2] : List Lane) (fun _ => rfl) rfl rfl ⟨rfl, rfl, rfl, rfl, rfl, rfl, trivial⟩ (fun _ => rfl)) (sv rfl (sv rfl (s_val (dl ePart [(Part.mk 0 48000 52000 1), (Part.mk 1 48000 52000 0)]) rfl rfl (sv rfl (s_val (dl eZone [(Zone.mk [(Part.mk 0 48000 52000 1), (Part.mk 1 48000 52000 0)] 0)]) rfl rfl (sv rfl (sst rfl G_hit [(di 0), (dl eLane [v1, v2]), (dl eZone [(Zone.mk [(Part.mk 0 48000 52000 1), (Part.mk 1 48000 52000 0)] 0)]), (.d .nilS), (.d .nilS)] rfl (s_nil (l_ret ?_)))))))))))))))))
 cases h
 exact fin_ok (.inr rfl) (resD1 (res_cellG rfl G_hit (nl rfl) rfl) rf_d) (.agg (ca rfl (ca rfl (ca rfl (.cons ⟨DLe.nil, rfl⟩ (.cons ⟨DLe.nil, rfl⟩ .nil))))))

noncomputable def roads_within (p1 : Int) (p2 : Int) (p3 : Int) : Option Bool :=
  some ((decide (p2 ≤ p1)) && (decide (p1 ≤ p3)))

theorem roads_within_ok (p1 : Int) (p2 : Int) (p3 : Int) (r : Bool) (h : roads_within p1 p2 p3 = some r) : PCall Tryz.prog 134 [(i64 p1), (i64 p2), (i64 p3)] (bo r) := by
 refine l_call (fk Tryz.func134 Tryz.ntmps134 m0 (by with_unfolding_all rfl)) (nl rfl) ?_
 unfold roads_within at h
 refine l_sub (s0 := ⟨T [(0, (.d _)), (1, (.d _)), (2, (.d _))], G []⟩) (sbr rfl rfl) ?_
 refine lr (fun u1 hu1 => sv rfl (s_nil (lr (fun u2 hu2 => sv rfl (sv rfl (sv rfl (sv rfl (gt rfl (fun _ => rfl) (gt rfl (fun _ => rfl) (gt rfl (fun w3 => (v_bin (gd_pos w3) (gd_pos w3) rfl)) (sa rfl rfl rfl (sv rfl (s_nil (l_ret ?_))))))))))))))
 cases h
 exact fin_ok (.inr rfl) (resD1 (res_t rfl) rf_d) (.refl _)

noncomputable def roads_check_numbers (p1 : RoadsCheck) : Option Int :=
  (roads_within p1.Map_.Version 0 1099511627776).bind fun v1 => cond (!v1) (some 2) (cond ((p1.Map_.Lanes.length : Int) == 0) (some 6) (cond ((((decide ((p1.Map_.Lanes.length : Int) > 12)) || (decide ((p1.Map_.Zones.length : Int) > 12))) || (decide ((p1.Map_.Signals.length : Int) > 4))) || (decide ((p1.Map_.Works.length : Int) > 8))) (some 8) (some 0)))

theorem roads_check_numbers_ok (p1 : RoadsCheck) (r : Int) (h : roads_check_numbers p1 = some r) : PCall Tryz.prog 65 [(.agg (eMap p1.Map_))] (i64 r) := by
 refine l_call (fk Tryz.func65 Tryz.ntmps65 m0 (by with_unfolding_all rfl)) (nl rfl) ?_
 unfold roads_check_numbers at h
 refine l_sub (s0 := ⟨T [(0, (.d _))], G []⟩) (sbr rfl rfl) ?_
 refine lr (fun u1 hu1 => sn rfl rfl (sv rfl (s_nil (l_seq (l_block (lr (fun u2 hu2 => sp rfl rfl (sp rfl rfl (sl rfl G_hit rfl (bs h fun v1 hv1 h => s_call rfl rfl all2_refl (roads_within_ok _ _ _  _ hv1) (.inl rfl) (s_val (.d (bo (!v1))) rfl rfl (sv rfl (s_nil (cc rfl h (fun c1 h => ?_) (fun c1 h => ?_)))))))))))))))
 refine lr (fun u3 hu3 => sv rfl (s_nil (l_ret ?_)))
 cases h
 exact fin_ok (.inr rfl) (resD1 (res_t rfl) rf_d) (.refl _)
 refine lr (fun u4 hu4 => sp rfl rfl (sp rfl rfl (sl rfl G_hit rfl (sd rfl (v_len rfl) (sv rfl (sv rfl (s_nil (cc rfl h (fun c2 h => ?_) (fun c2 h => ?_)))))))))
 refine lr (fun u5 hu5 => sv rfl (s_nil (l_ret ?_)))
 cases h
 exact fin_ok (.inr rfl) (resD1 (res_t rfl) rf_d) (.refl _)
 refine lr (fun u6 hu6 => sp rfl rfl (sp rfl rfl (sl rfl G_hit rfl (sd rfl (v_len rfl) (sv rfl (sv rfl (gp rfl (gw_f rfl) (fun _ => rfl) ?_)))))))
 refine g_val _ (.ptr _ _) rfl (gw_f rfl) (fun w2 => (by simp only [gd_pos w2]; rfl)) ?_
 refine gf rfl (vl rfl G_hit rfl) (gf rfl (fun w4 => (v_len (gd_pos w4))) (gf rfl (vb rfl rfl rfl) (sd rfl (v_or rfl rfl (fun hc => gd_pos (not_t hc))) (sv rfl (gp rfl (gw_f rfl) (fun _ => rfl) ?_)))))
 refine g_val _ (.ptr _ _) rfl (gw_f rfl) (fun w7 => (by simp only [gd_pos w7]; rfl)) ?_
 refine gf rfl (vl rfl G_hit rfl) (gf rfl (fun w9 => (v_len (gd_pos w9))) (gf rfl (vb rfl rfl rfl) (sd rfl (v_or rfl rfl (fun hc => gd_pos (not_t hc))) (sv rfl (gp rfl (gw_f rfl) (fun _ => rfl) ?_)))))
 refine g_val _ (.ptr _ _) rfl (gw_f rfl) (fun w12 => (by simp only [gd_pos w12]; rfl)) ?_
 refine gf rfl (vl rfl G_hit rfl) (gf rfl (fun w14 => (v_len (gd_pos w14))) (gf rfl (vb rfl rfl rfl) (sd rfl (v_or rfl rfl (fun hc => gd_pos (not_t hc))) (sv rfl (s_nil (cc rfl h (fun c3 h => ?_) (fun c3 h => ?_)))))))
 refine l_seq (l_sub (s0 := ⟨T [], G []⟩) (sbr rfl rfl) ?_)
 refine l_reg fun u7 hu7 => sv rfl (s_nil (l_ret ?_))
 cases h
 exact fin_ok (.inr rfl) (resD1 (res_t rfl) rf_d) (.refl _)
 refine l_skip (l_end (l_seq (l_sub (s0 := ⟨T [], G []⟩) (sbr rfl rfl) ?_)))
 refine l_reg fun u8 hu8 => sv rfl (s_nil (l_ret ?_))
 cases h
 exact fin_ok (.inr rfl) (resD1 (res_t rfl) rf_d) (.refl _)

noncomputable def roads_Bounds (p1 : Int) : Option (Int × Int × Int) :=
  cond ((decide (p1 < 0)) || (decide (p1 ≥ 4))) (some (0, 0, 0)) ((geti ([(0, 0, 0), (2000, 30, 90), (1000, 20, 60), (300, 100, 300)] : List (Int × Int × Int)) p1).bind fun v1 => some (v1.1, v1.2.1, v1.2.2))

theorem roads_Bounds_ok (p1 : Int) (r : (Int × Int × Int)) (h : roads_Bounds p1 = some r) : PCall Tryz.prog 169 [(i64 p1)] (.tup [(i64 r.1), (i64 r.2.1), (i64 r.2.2)]) := by
 refine l_call (fk Tryz.func169 Tryz.ntmps169 m0 (by with_unfolding_all rfl)) (nl rfl) ?_
 unfold roads_Bounds at h
 refine l_sub (s0 := ⟨T [(0, (.d _))], G []⟩) (sbr rfl rfl) ?_
 refine lr (fun u1 hu1 => sv rfl (sv rfl (sv rfl (s_nil (lr (fun u2 hu2 => sv rfl (sv rfl (sv rfl (sv rfl (sn rfl rfl (sst rfl G_hit [(di 0), (di 0), (di 0), (di 2000), (di 30), (di 90), (di 1000), (di 20), (di 60), (di 300), (di 100), (di 300)] rfl (s_nil (l_seq (lr (fun u3 hu3 => sv rfl (sv rfl (sv rfl (gf rfl (fun _ => rfl) (gf rfl (vb rfl rfl rfl) (sd rfl (v_or rfl rfl (fun hc => gd_pos (not_t hc))) (s_nil (cc rfl h (fun c1 h => ?_) (fun c1 h => ?_)))))))))))))))))))))))
 refine lr (fun u4 hu4 => sv rfl (sv rfl (sv rfl (s_nil (l_ret ?_)))))
 cases h
 exact fin_ok (.inr rfl) (resD3 (res_t rfl) (res_t rfl) (res_t rfl) rf_d rf_d rf_d) (.refl _)
 refine l_skip (lr (fun u5 hu5 => sv rfl (bs h fun v1 hv1 h => sp rfl (v_idxPV rfl rfl hv1 rfl) (sd rfl (v_loadPV (f := eA249) rfl G_hit hv1 (fun _ => rfl) rfl rfl) (sn rfl rfl (sst rfl G_hit [(di v1.1), (di v1.2.1), (di v1.2.2)] rfl (s_nil (l_seq (l_sub (s0 := ⟨T [(6, (.ptr _ _))], G [((6, u5), some (.box 249 _))]⟩) (sbr rfl rfl) ?_)))))))))
 refine l_draw rfl fun u6 hu6 => sp rfl rfl (sl rfl G_hit rfl (sp rfl rfl (sl rfl G_hit rfl (sp rfl rfl (sl rfl G_hit rfl (sv rfl (sv rfl (sv rfl (s_nil (l_ret ?_))))))))))
 cases h
 exact fin_ok (.inr rfl) (resD3 (res_t rfl) (res_t rfl) (res_t rfl) rf_d rf_d rf_d) (.refl _)

noncomputable def curve_fair_l1 (p1 : (List Spot)) (x1 : Int) : Option (Stp Int (Sum Unit Bool)) :=
  cond (decide (x1 < (p1.length : Int))) ((geti p1 x1).bind fun v1 => cond ((decide ((mm2 false v1.X v1.Y) < (-16777216))) || (decide ((mm2 true v1.X v1.Y) > 16777216))) (some (.out (.inr false))) (some (.go (w64 (x1 + 1))))) (some (.out (.inl ())))
noncomputable def curve_fair (p1 : (List Spot)) : Option Bool :=
  thenS (loop (curve_fair_l1 p1) 0) (fun _ => some true) (fun r => some r)

theorem curve_fair_ok (p1 : (List Spot)) (r : Bool) (h : curve_fair p1 = some r) : PCall Tryz.prog 233 [(.list (List.map eSpot p1))] (bo r) := by
 refine l_call (fk Tryz.func233 Tryz.ntmps233 m0 (by with_unfolding_all rfl)) (nl rfl) ?_
 unfold curve_fair at h
 refine l_sub (s0 := ⟨T [(0, (.d _))], G []⟩) (sbr rfl rfl) ?_
 refine lr (fun u1 hu1 => sv rfl (s_nil (l_seq (lr (fun u2 hu2 => sv rfl (sd rfl (v_len rfl) (sv rfl (s_nil (js h fun z1 hz1 h => l_join (fun s => ∃ (y1 : Unit) (g1 : Unit), z1 = .inl y1 ∧ Sb ⟨T [], G []⟩ s) ?_ ?_)))))))))
 refine l_block (l_loop (curve_fair_l1 p1) (fun (x1 : Int) (g2 : Unit) => ⟨T [(5, (dl eSpot p1)), (6, (di (p1.length : Int))), (7, (di x1))], G []⟩) 0 () _ hz1 (sbr rfl rfl) ?_)
 intro x1 g2 z2 hz2 ez2
 unfold curve_fair_l1 at hz2
 refine lr (fun u3 hu3 => sv rfl (s_nil (l_seq (cc rfl hz2 (fun c1 hz2 => ?_) (fun c1 hz2 => ?_)))))
 refine l_skip (l_seq (l_block (lr (fun u4 hu4 => bs hz2 fun v1 hv1 hz2 => sd rfl (v_idx rfl rfl hv1 rfl) (sd rfl (v_loadLG rfl hv1 rfl rfl) (sn rfl rfl (sst rfl G_hit [(di v1.X), (di v1.Y)] rfl (s_nil (lr (fun u5 hu5 => sp rfl rfl (sl rfl G_hit rfl (sp rfl rfl (sl rfl G_hit rfl (sv rfl (sv rfl (sv rfl (gp rfl (gw_f rfl) (fun _ => rfl) (gf rfl (vl rfl G_hit rfl) (gp rfl (gw_f rfl) (fun _ => rfl) (gf rfl (vl rfl G_hit rfl) ?_))))))))))))))))))))
 refine gf rfl (fun w5 => (by simp only [gd_pos w5]; rfl)) ?_
 refine gf rfl (vb rfl rfl rfl) (sd rfl (v_or rfl rfl (fun hc => gd_pos (not_t hc))) (s_nil (cc rfl hz2 (fun c2 hz2 => ?_) (fun c2 hz2 => ?_))))
 refine l_seq (l_sub (s0 := ⟨T [], G []⟩) (sbr rfl rfl) ?_)
 refine l_reg fun u6 hu6 => sv rfl (s_nil (l_ret ?_))
 cases hz2
 obtain rfl := ez2 _ rfl
 refine ⟨nofun, awl_ret ?_⟩
 rw [Sum.elim_inr] at h
 cases h
 exact fin_ok (.inr rfl) (resD1 (res_t rfl) rf_d) (.refl _)
 refine l_skip (l_end (l_sub (s0 := ⟨T [(5, (.d _)), (6, (.d _)), (7, (.d _))], G []⟩) (sbr rfl rfl) ?_))
 refine l_reg fun u7 hu7 => sv rfl (sv rfl (s_nil (l_nil ?_)))
 cases hz2
 exact ⟨rfl, (), (sbr rfl rfl)⟩
 refine l_exitN rfl ?_
 cases hz2
 obtain rfl := ez2 _ rfl
 refine ⟨nofun, awl_pop rfl (l_j ?_)⟩
 exact ⟨_, (), rfl, (sbr rfl rfl)⟩
 rintro _ ⟨y1, g1, rfl, q1⟩
 rw [Sum.elim_inl] at h
 refine l_sub q1 (lr (fun u8 hu8 => sv rfl (s_nil (l_ret ?_))))
 cases h
 exact fin_ok (.inr rfl) (resD1 (res_t rfl) rf_d) (.refl _)

noncomputable def curve_from (p1 : Spot) (p2 : Spot) : Option CurveVector :=
  some (CurveVector.mk (w64 (p2.X - p1.X)) (w64 (p2.Y - p1.Y)))

theorem curve_from_ok (p1 : Spot) (p2 : Spot) (r : CurveVector) (h : curve_from p1 p2 = some r) : PCall Tryz.prog 234 [(.agg [(i64 p1.X), (i64 p1.Y)]), (.agg [(i64 p2.X), (i64 p2.Y)])] (.agg [(i64 r.x), (i64 r.y)]) := by
 refine l_call (fk Tryz.func234 Tryz.ntmps234 m0 (by with_unfolding_all rfl)) (nl rfl) ?_
 unfold curve_from at h
 refine l_sub (s0 := ⟨T [(0, (.d _)), (1, (.d _))], G []⟩) (sbr rfl rfl) ?_
 refine lr (fun u1 hu1 => sn rfl rfl (sn rfl rfl (sn rfl rfl (s_nil (lr (fun u2 hu2 => sp rfl rfl (sl rfl (gq rfl) rfl (sp rfl rfl (sl rfl (gq rfl) rfl (sv rfl (sp rfl rfl (sl rfl (gq rfl) rfl (sp rfl rfl (sl rfl (gq rfl) rfl (sv rfl (sv rfl (sst rfl G_hit [(di (w64 (p2.X - p1.X))), (di (w64 (p2.Y - p1.Y)))] rfl (s_nil (l_ret ?_)))))))))))))))))))
 cases h
 exact fin_ok (.inr rfl) (resD1 (res_cellG rfl G_hit (nl rfl) rfl) rf_d) (.refl _)

noncomputable def curve_vector_dot (p1 : CurveVector) (p2 : CurveVector) : Option Int :=
  some (w64 ((w64 (p1.x * p2.x)) + (w64 (p1.y * p2.y))))

theorem curve_vector_dot_ok (p1 : CurveVector) (p2 : CurveVector) (r : Int) (h : curve_vector_dot p1 p2 = some r) : PCall Tryz.prog 236 [(.agg [(i64 p1.x), (i64 p1.y)]), (.agg [(i64 p2.x), (i64 p2.y)])] (i64 r) := by
 refine l_call (fk Tryz.func236 Tryz.ntmps236 m0 (by with_unfolding_all rfl)) (nl rfl) ?_
 unfold curve_vector_dot at h
 refine l_sub (s0 := ⟨T [(0, (.d _)), (1, (.d _))], G []⟩) (sbr rfl rfl) ?_
 refine lr (fun u1 hu1 => sn rfl rfl (sn rfl rfl (sv rfl (s_nil (lr (fun u2 hu2 => sp rfl rfl (sl rfl (gq rfl) rfl (sp rfl rfl (sl rfl G_hit rfl (sv rfl (sp rfl rfl (sl rfl (gq rfl) rfl (sp rfl rfl (sl rfl G_hit rfl (sv rfl (sv rfl (sv rfl (s_nil (l_ret ?_)))))))))))))))))))
 cases h
 exact fin_ok (.inr rfl) (resD1 (res_t rfl) rf_d) (.refl _)

noncomputable def curve_root_l1 (p1 : Int) (x1 : (Int × Int)) : Option (Stp (Int × Int) Int) :=
  cond (decide (x1.1 < x1.2)) (cond (decide ((w64 ((w64 ((w64 (x1.1 + x1.2)).tdiv 2)) * (w64 ((w64 (x1.1 + x1.2)).tdiv 2)))) < p1)) (some (.go ((w64 ((w64 ((w64 (x1.1 + x1.2)).tdiv 2)) + 1)), x1.2))) (some (.go (x1.1, (w64 ((w64 (x1.1 + x1.2)).tdiv 2)))))) (some (.out x1.1))
noncomputable def curve_root (p1 : Int) : Option (Int × Bool) :=
  (loop (curve_root_l1 p1) (0, 67108864)).bind fun y1 => some (y1, ((w64 (y1 * y1)) == p1))

theorem curve_root_ok (p1 : Int) (r : (Int × Bool)) (h : curve_root p1 = some r) : PCall Tryz.prog 235 [(i64 p1)] (.tup [(i64 r.1), (bo r.2)]) := by
 refine l_call (fk Tryz.func235 Tryz.ntmps235 m0 (by with_unfolding_all rfl)) (nl rfl) ?_
 unfold curve_root at h
 refine l_sub (s0 := ⟨T [(0, (.d _))], G []⟩) (sbr rfl rfl) ?_
 refine lr (fun u1 hu1 => sv rfl (sv rfl (s_nil (lr (fun u2 hu2 => sv rfl (sv rfl (s_nil (l_seq (bs h fun y1 hy1 h => l_join (fun s => ∃ g1 : Unit, Sb ⟨T [(0, (di p1)), (4, (di y1))], G []⟩ s) ?_ ?_)))))))))
 refine l_block (l_loop (curve_root_l1 p1) (fun (x1 : (Int × Int)) (g2 : Unit) => ⟨T [(0, (di p1)), (4, (di x1.1)), (5, (di x1.2))], G []⟩) (0, 67108864) () _ hy1 (sbr rfl rfl) ?_)
 intro x1 g2 z1 hz1 ez1
 unfold curve_root_l1 at hz1
 refine l_seq (lr (fun u3 hu3 => sv rfl (sv rfl (sv rfl (s_nil (cc rfl hz1 (fun c1 hz1 => ?_) (fun c1 hz1 => ?_)))))))
 refine l_skip (l_block (lr (fun u4 hu4 => sv rfl (sv rfl (sv rfl (sv rfl (sv rfl (s_nil (lr (fun u5 hu5 => sv rfl (sv rfl (sv rfl (sv rfl (sv rfl (s_nil (cc rfl hz1 (fun c2 hz1 => ?_) (fun c2 hz1 => ?_)))))))))))))))))
 refine l_reg fun u6 hu6 => sv rfl (sv rfl (sv rfl (s_nil (l_end (l_nil ?_)))))
 cases hz1
 exact ⟨rfl, (), (sbr rfl rfl)⟩
 refine l_reg fun u7 hu7 => sv rfl (sv rfl (s_nil (l_end (l_nil ?_))))
 cases hz1
 exact ⟨rfl, (), (sbr rfl rfl)⟩
 refine l_exitN rfl ?_
 cases hz1
 obtain rfl := ez1 _ rfl
 refine ⟨nofun, awl_pop rfl (l_j ?_)⟩
 exact ⟨(), (sbr rfl rfl)⟩
 rintro _ ⟨g1, q1⟩
 refine l_sub q1 (lr (fun u8 hu8 => sv rfl (sv rfl (sv rfl (sv rfl (sv rfl (sv rfl (sv rfl (sv rfl (s_nil (l_ret ?_)))))))))))
 cases h
 exact fin_ok (.inr rfl) (resD2 (res_t rfl) (res_t rfl) rf_d rf_d) (.refl _)

noncomputable def curve_Check_l1 (p1 : Curve) (x1 : (Int × CurveVector)) : Option (Stp (Int × CurveVector) (Sum Unit Int)) :=
  cond (decide (x1.1 < (w64 ((p1.Pts.length : Int) - 1)))) ((geti p1.Pts x1.1).bind fun v2 => (geti p1.Pts (w64 (x1.1 + 1))).bind fun v3 => (curve_from v2 v3).bind fun v4 => (curve_vector_dot v4 v4).bind fun v5 => (curve_root v5).bind fun v6 => cond (!v6.2) (some (.out (.inr 3))) (cond ((decide (v6.1 < 1000)) || (decide (v6.1 > 1048576))) (some (.out (.inr 2))) (((cond (decide (x1.1 > 0)) (curve_vector_dot x1.2 v4) (some default))).bind fun v7 => cond ((decide (x1.1 > 0)) && (decide (v7 ≤ 0))) (some (.out (.inr 12))) (some (.go ((w64 (x1.1 + 1)), v4)))))) (some (.out (.inl ())))
noncomputable def curve_Check (p1 : Curve) : Option Int :=
  cond (decide ((p1.Pts.length : Int) < 2)) (some 6) (cond (decide ((p1.Pts.length : Int) > 16)) (some 5) ((curve_fair p1.Pts).bind fun v1 => cond (!v1) (some 2) (thenS (loop (curve_Check_l1 p1) (0, (CurveVector.mk 0 0))) (fun _ => some 0) (fun r => some r))))

theorem curve_Check_ok (p1 : Curve) (r : Int) (h : curve_Check p1 = some r) : PCall Tryz.prog 170 [(.agg [(.list (List.map eSpot p1.Pts))])] (i64 r) := by
 refine l_call (fk Tryz.func170 Tryz.ntmps170 m0 (by with_unfolding_all rfl)) (nl rfl) ?_
 unfold curve_Check at h
 refine l_sub (s0 := ⟨T [(0, (.d _))], G []⟩) (sbr rfl rfl) ?_
 refine lr (fun u1 hu1 => sn rfl rfl (sv rfl (s_nil (l_seq (l_block (lr (fun u2 hu2 => sp rfl rfl (sl rfl G_hit rfl (sd rfl (v_len rfl) (sv rfl (sv rfl (s_nil (cc rfl h (fun c1 h => ?_) (fun c1 h => ?_))))))))))))))
 refine lr (fun u3 hu3 => sv rfl (s_nil (l_ret ?_)))
 cases h
 exact fin_ok (.inr rfl) (resD1 (res_t rfl) rf_d) (.refl _)
 refine lr (fun u4 hu4 => sp rfl rfl (sl rfl G_hit rfl (sd rfl (v_len rfl) (sv rfl (sv rfl (s_nil (cc rfl h (fun c2 h => ?_) (fun c2 h => ?_))))))))
 refine lr (fun u5 hu5 => sv rfl (s_nil (l_ret ?_)))
 cases h
 exact fin_ok (.inr rfl) (resD1 (res_t rfl) rf_d) (.refl _)
 refine lr (fun u6 hu6 => sp rfl rfl (sl rfl G_hit rfl (bs h fun v1 hv1 h => s_call rfl rfl all2_refl (curve_fair_ok _  _ hv1) (.inl rfl) (s_val (.d (bo (!v1))) rfl rfl (sv rfl (s_nil (cc rfl h (fun c3 h => ?_) (fun c3 h => ?_))))))))
 refine lr (fun u7 hu7 => sv rfl (s_nil (l_ret ?_)))
 cases h
 exact fin_ok (.inr rfl) (resD1 (res_t rfl) rf_d) (.refl _)
 refine l_skip (l_end (lr (fun u8 hu8 => sn rfl rfl (s_nil (l_seq (lr (fun u9 hu9 => sp rfl rfl (sl rfl (gq rfl) rfl (sd rfl (v_len rfl) (sv rfl (sv rfl (s_nil (js h fun z1 hz1 h => l_join (fun s => ∃ (y1 : Unit) (g1 : Unit), z1 = .inl y1 ∧ Sb ⟨T [], G []⟩ s) ?_ ?_)))))))))))))
 refine l_block (l_loop (curve_Check_l1 p1) (fun (x1 : (Int × CurveVector)) (g2 : Unit) => ⟨T [(1, (.ptr (1, u1) 0)), (3, (.ptr (3, u8) 0)), (26, (di (w64 ((p1.Pts.length : Int) - 1)))), (27, (di x1.1))], G [((1, u1), some (.box 39 [(dl eSpot p1.Pts)])), ((3, u8), some (.box 253 [(di x1.2.x), (di x1.2.y)]))]⟩) (0, (CurveVector.mk 0 0)) () _ hz1 (sbr rfl rfl) ?_)
 intro x1 g2 z2 hz2 ez2
 unfold curve_Check_l1 at hz2
 refine lr (fun u10 hu10 => sv rfl (s_nil (l_seq (cc rfl hz2 (fun c4 hz2 => ?_) (fun c4 hz2 => ?_)))))
 refine l_skip (l_seq (l_block (lr (fun u11 hu11 => sv rfl (sv rfl (s_nil (l_seq (l_draw rfl fun u12 hu12 => sp rfl rfl (sl rfl G_hit rfl (sv rfl (bs hz2 fun v2 hv2 hz2 => sd rfl (v_idx rfl rfl hv2 rfl) (sd rfl (v_loadLG rfl hv2 rfl rfl) (sp rfl rfl (sl rfl G_hit rfl (sv rfl (sv rfl (bs hz2 fun v3 hv3 hz2 => sd rfl (v_idx rfl rfl hv3 rfl) (sd rfl (v_loadLG rfl hv3 rfl rfl) (bs hz2 fun v4 hv4 hz2 => s_call rfl rfl all2_refl (curve_from_ok _ _  _ hv4) (.inl rfl) (sn rfl rfl (sst rfl G_hit [(di v4.x), (di v4.y)] rfl (s_nil (l_seq (l_sub (s0 := ⟨T [(1, (.ptr _ _)), (3, (.ptr _ _)), (4, (.d _)), (5, (.ptr _ _)), (26, (.d _)), (27, (.d _))], G [((1, u1), some (.box 39 _)), ((3, u8), some (.box 253 _)), ((5, u12), some (.box 253 _))]⟩) (sbr rfl rfl) ?_))))))))))))))))))))))))
 refine l_reg fun u13 hu13 => sd rfl (v_loadG rfl (gq rfl) rfl rfl) (sd rfl (v_loadG rfl (gq rfl) rfl rfl) (bs hz2 fun v5 hv5 hz2 => s_call rfl rfl all2_refl (curve_vector_dot_ok _ _  _ hv5) (.inl rfl) (bs hz2 fun v6 hv6 hz2 => s_call rfl rfl all2_refl (curve_root_ok _  _ hv6) (.inl rfl) (sv rfl (sv rfl (sv rfl (sv rfl (sv rfl (s_nil (l_seq (l_block (lr (fun u14 hu14 => sv rfl (s_val (.d (bo (!v6.2))) rfl rfl (sv rfl (s_nil (cc rfl hz2 (fun c5 hz2 => ?_) (fun c5 hz2 => ?_))))))))))))))))))
 refine lr (fun u15 hu15 => sv rfl (s_nil (l_ret ?_)))
 cases hz2
 obtain rfl := ez2 _ rfl
 refine ⟨nofun, awl_ret ?_⟩
 rw [Sum.elim_inr] at h
 cases h
 exact fin_ok (.inr rfl) (resD1 (res_t rfl) rf_d) (.refl _)
 refine lr (fun u16 hu16 => sv rfl (sv rfl (sv rfl (gf rfl (fun _ => rfl) (gf rfl (vb rfl rfl rfl) (sd rfl (v_or rfl rfl (fun hc => gd_pos (not_t hc))) (sv rfl (s_nil (cc rfl hz2 (fun c6 hz2 => ?_) (fun c6 hz2 => ?_))))))))))
 refine l_seq (l_sub (s0 := ⟨T [], G []⟩) (sbr rfl rfl) ?_)
 refine l_reg fun u17 hu17 => sv rfl (s_nil (l_ret ?_))
 cases hz2
 obtain rfl := ez2 _ rfl
 refine ⟨nofun, awl_ret ?_⟩
 rw [Sum.elim_inr] at h
 cases h
 exact fin_ok (.inr rfl) (resD1 (res_t rfl) rf_d) (.refl _)
 refine l_seq (l_sub (s0 := ⟨T [(1, (.ptr _ _)), (3, (.ptr _ _)), (4, (.d _)), (5, (.ptr _ _)), (26, (.d _)), (27, (.d _))], G [((1, u1), some (.box 39 _)), ((3, u8), some (.box 253 _)), ((5, u12), some (.box 253 _))]⟩) (sbr rfl rfl) ?_)
 refine l_reg fun u18 hu18 => sv rfl (sv rfl (sv rfl (gt rfl (fun w3 => (v_loadG rfl (gq rfl) rfl rfl)) (gt rfl (fun w4 => (v_loadG rfl (gq rfl) rfl rfl)) (bs hz2 fun v7 hv7 hz2 => ?_)))))
 refine g_call _ (i64 v7) (gw_t rfl) (fun w5 => ⟨_, [(.d (.agg [(i64 x1.2.x), (i64 x1.2.y)])), (.d (.agg [(i64 v4.x), (i64 v4.y)]))], _, _, (by simp only [gd_pos w5]; rfl), rfl, all2_refl, curve_vector_dot_ok _ _  _ (cond_t w5 hv7), (.inl rfl)⟩) ?_
 refine gt rfl (vb rfl rfl rfl) (sa rfl rfl rfl (sv rfl (s_nil (cc rfl hz2 (fun c7 hz2 => ?_) (fun c7 hz2 => ?_)))))
 refine lr (fun u19 hu19 => sv rfl (s_nil (l_ret ?_)))
 cases hz2
 obtain rfl := ez2 _ rfl
 refine ⟨nofun, awl_ret ?_⟩
 rw [Sum.elim_inr] at h
 cases h
 exact fin_ok (.inr rfl) (resD1 (res_t rfl) rf_d) (.refl _)
 refine l_skip (l_end (l_reg fun u20 hu20 => sd rfl (v_loadG rfl (gq rfl) rfl rfl) (sst rfl (gq rfl) [(di v4.x), (di v4.y)] rfl (s_nil (l_end (l_reg fun u21 hu21 => sv rfl (sv rfl (s_nil (l_nil ?_)))))))))
 cases hz2
 exact ⟨rfl, (), (sbr rfl rfl)⟩
 refine l_exitN rfl ?_
 cases hz2
 obtain rfl := ez2 _ rfl
 refine ⟨nofun, awl_pop rfl (l_j ?_)⟩
 exact ⟨_, (), rfl, (sbr rfl rfl)⟩
 rintro _ ⟨y1, g1, rfl, q1⟩
 rw [Sum.elim_inl] at h
 refine l_sub q1 (lr (fun u22 hu22 => sv rfl (s_nil (l_ret ?_))))
 cases h
 exact fin_ok (.inr rfl) (resD1 (res_t rfl) rf_d) (.refl _)

noncomputable def roads_rising_l1 (p1 : (List Int)) (p3 : Int) (x1 : (Int × Int)) : Option (Stp (Int × Int) (Sum Unit Bool)) :=
  cond (decide (x1.2 < (p1.length : Int))) ((geti p1 x1.2).bind fun v1 => cond ((decide (v1 < x1.1)) || (decide (v1 ≥ p3))) (some (.out (.inr false))) (some (.go ((w64 (v1 + 1)), (w64 (x1.2 + 1)))))) (some (.out (.inl ())))
noncomputable def roads_rising (p1 : (List Int)) (p2 : Int) (p3 : Int) : Option Bool :=
  thenS (loop (roads_rising_l1 p1 p3) (p2, 0)) (fun _ => some true) (fun r => some r)

theorem roads_rising_ok (p1 : (List Int)) (p2 : Int) (p3 : Int) (r : Bool) (h : roads_rising p1 p2 p3 = some r) : PCall Tryz.prog 171 [(.list (List.map eInt_i64 p1)), (i64 p2), (i64 p3)] (bo r) := by
 refine l_call (fk Tryz.func171 Tryz.ntmps171 m0 (by with_unfolding_all rfl)) (nl rfl) ?_
 unfold roads_rising at h
 refine l_sub (s0 := ⟨T [(0, (.d _)), (1, (.d _)), (2, (.d _))], G []⟩) (sbr rfl rfl) ?_
 refine lr (fun u1 hu1 => sv rfl (s_nil (l_seq (lr (fun u2 hu2 => sv rfl (sd rfl (v_len rfl) (sv rfl (s_nil (js h fun z1 hz1 h => l_join (fun s => ∃ (y1 : Unit) (g1 : Unit), z1 = .inl y1 ∧ Sb ⟨T [], G []⟩ s) ?_ ?_)))))))))
 refine l_block (l_loop (roads_rising_l1 p1 p3) (fun (x1 : (Int × Int)) (g2 : Unit) => ⟨T [(1, (di x1.1)), (2, (di p3)), (9, (dl eInt_i64 p1)), (10, (di (p1.length : Int))), (11, (di x1.2))], G []⟩) (p2, 0) () _ hz1 (sbr rfl rfl) ?_)
 intro x1 g2 z2 hz2 ez2
 unfold roads_rising_l1 at hz2
 refine lr (fun u3 hu3 => sv rfl (s_nil (l_seq (cc rfl hz2 (fun c1 hz2 => ?_) (fun c1 hz2 => ?_)))))
 refine l_skip (l_seq (l_block (lr (fun u4 hu4 => bs hz2 fun v1 hv1 hz2 => sd rfl (v_idx rfl rfl hv1 rfl) (sd rfl (v_loadL rfl hv1 rfl) (sv rfl (s_nil (l_seq (lr (fun u5 hu5 => sv rfl (sv rfl (sv rfl (sv rfl (gf rfl (fun _ => rfl) (gf rfl (fun _ => rfl) (gf rfl (fun w3 => (v_bin (gd_pos w3) (gd_pos w3) rfl)) (sd rfl (v_or rfl rfl (fun hc => gd_pos (not_t hc))) (s_nil (cc rfl hz2 (fun c2 hz2 => ?_) (fun c2 hz2 => ?_))))))))))))))))))))
 refine lr (fun u6 hu6 => sv rfl (s_nil (l_ret ?_)))
 cases hz2
 obtain rfl := ez2 _ rfl
 refine ⟨nofun, awl_ret ?_⟩
 rw [Sum.elim_inr] at h
 cases h
 exact fin_ok (.inr rfl) (resD1 (res_t rfl) rf_d) (.refl _)
 refine l_skip (l_reg fun u7 hu7 => sv rfl (sv rfl (sv rfl (s_nil (l_end (l_reg fun u8 hu8 => sv rfl (sv rfl (s_nil (l_nil ?_)))))))))
 cases hz2
 exact ⟨rfl, (), (sbr rfl rfl)⟩
 refine l_exitN rfl ?_
 cases hz2
 obtain rfl := ez2 _ rfl
 refine ⟨nofun, awl_pop rfl (l_j ?_)⟩
 exact ⟨_, (), rfl, (sbr rfl rfl)⟩
 rintro _ ⟨y1, g1, rfl, q1⟩
 rw [Sum.elim_inl] at h
 refine l_sub q1 (lr (fun u9 hu9 => sv rfl (s_nil (l_ret ?_))))
 cases h
 exact fin_ok (.inr rfl) (resD1 (res_t rfl) rf_d) (.refl _)

noncomputable def roads_check_lanes_l1 (p1 : RoadsCheck) (x1 : Int) : Option (Stp Int (Sum Unit Int)) :=
  cond (decide (x1 < (p1.Map_.Lanes.length : Int))) ((geti p1.Map_.Lanes x1).bind fun v1 => (roads_Bounds v1.Kind).bind fun v2 => cond (v2.1 == 0) (some (.out (.inr 4))) ((curve_Check v1.Curve_).bind fun v3 => cond (v3 != 0) (some (.out (.inr v3))) ((roads_within v1.Half 200 4000).bind fun v4 => ((cond (!(!v4)) (roads_within v1.Limit 1 v2.1) (some default))).bind fun v5 => cond ((!v4) || (!v5)) (some (.out (.inr 2))) (cond (decide ((v1.Next.length : Int) > 3)) (some (.out (.inr 8))) ((roads_rising v1.Next (w64 (x1 + 1)) (p1.Map_.Lanes.length : Int)).bind fun v6 => cond (!v6) (some (.out (.inr 11))) (some (.go (w64 (x1 + 1))))))))) (some (.out (.inl ())))
noncomputable def roads_check_lanes (p1 : RoadsCheck) : Option Int :=
  thenS (loop (roads_check_lanes_l1 p1) 0) (fun _ => some 0) (fun r => some r)

theorem roads_check_lanes_ok (p1 : RoadsCheck) (r : Int) (h : roads_check_lanes p1 = some r) : PCall Tryz.prog 66 [(.agg (eMap p1.Map_))] (i64 r) := by
 refine l_call (fk Tryz.func66 Tryz.ntmps66 m0 (by with_unfolding_all rfl)) (nl rfl) ?_
 unfold roads_check_lanes at h
 refine l_sub (s0 := ⟨T [(0, (.d _))], G []⟩) (sbr rfl rfl) ?_
 refine lr (fun u1 hu1 => sn rfl rfl (sv rfl (s_nil (l_seq (lr (fun u2 hu2 => sp rfl rfl (sp rfl rfl (sl rfl G_hit rfl (sd rfl (v_len rfl) (sv rfl (s_nil (js h fun z1 hz1 h => l_join (fun s => ∃ (y1 : Unit) (g1 : Unit), z1 = .inl y1 ∧ Sb ⟨T [], G []⟩ s) ?_ ?_))))))))))))
 refine l_block (l_loop (roads_check_lanes_l1 p1) (fun (x1 : Int) (g2 : Unit) => ⟨T [(1, (.ptr (1, u1) 0)), (11, (dl eLane p1.Map_.Lanes)), (12, (di (p1.Map_.Lanes.length : Int))), (13, (di x1))], G [((1, u1), some (.box 105 (dMap p1.Map_)))]⟩) 0 () _ hz1 (sbr rfl rfl) ?_)
 intro x1 g2 z2 hz2 ez2
 unfold roads_check_lanes_l1 at hz2
 refine lr (fun u3 hu3 => sv rfl (s_nil (l_seq (cc rfl hz2 (fun c1 hz2 => ?_) (fun c1 hz2 => ?_)))))
 refine l_skip (l_seq (l_block (lr (fun u4 hu4 => sv rfl (bs hz2 fun v1 hv1 hz2 => sd rfl (v_idx rfl rfl hv1 rfl) (sd rfl (v_loadLG rfl hv1 rfl rfl) (sn rfl rfl (sv rfl (sst rfl G_hit (dLane v1) rfl (s_nil (lr (fun u5 hu5 => sp rfl rfl (sl rfl G_hit rfl (bs hz2 fun v2 hv2 hz2 => s_call rfl rfl all2_refl (roads_Bounds_ok _  _ hv2) (.inl rfl) (sv rfl (sv rfl (sv rfl (sv rfl (sv rfl (sv rfl (sv rfl (s_nil (l_seq (l_seq (l_sub (s0 := ⟨T [(1, (.ptr _ _)), (3, (.d _)), (4, (.ptr _ _)), (5, (.d _)), (11, (.d _)), (12, (.d _)), (13, (.d _))], G [((1, u1), some (.box 105 _)), ((4, u4), some (.box 42 _))]⟩) (sbr rfl rfl) ?_)))))))))))))))))))))))))
 refine l_reg fun u6 hu6 => sv rfl (sv rfl (s_nil (cc rfl hz2 (fun c2 hz2 => ?_) (fun c2 hz2 => ?_))))
 refine lr (fun u7 hu7 => sv rfl (s_nil (l_ret ?_)))
 cases hz2
 obtain rfl := ez2 _ rfl
 refine ⟨nofun, awl_ret ?_⟩
 rw [Sum.elim_inr] at h
 cases h
 exact fin_ok (.inr rfl) (resD1 (res_t rfl) rf_d) (.refl _)
 refine l_skip (l_seq (lr (fun u8 hu8 => sp rfl rfl (sd rfl (v_loadG rfl (gq rfl) rfl rfl) (bs hz2 fun v3 hv3 hz2 => s_call rfl rfl all2_refl (curve_Check_ok _  _ hv3) (.inl rfl) (sv rfl (s_nil (lr (fun u9 hu9 => sv rfl (sv rfl (s_nil (cc rfl hz2 (fun c3 hz2 => ?_) (fun c3 hz2 => ?_)))))))))))))
 refine lr (fun u10 hu10 => sv rfl (sv rfl (s_nil (l_ret ?_))))
 cases hz2
 obtain rfl := ez2 _ rfl
 refine ⟨nofun, awl_ret ?_⟩
 rw [Sum.elim_inr] at h
 cases h
 exact fin_ok (.inr rfl) (resD1 (res_t rfl) rf_d) (.refl _)
 refine l_skip (l_block (lr (fun u11 hu11 => sp rfl rfl (sl rfl (gq rfl) rfl (bs hz2 fun v4 hv4 hz2 => s_call rfl rfl all2_refl (roads_within_ok _ _ _  _ hv4) (.inl rfl) (s_val (.d (bo (!v4))) rfl rfl (sv rfl (gp rfl (gw_f rfl) (fun _ => rfl) (gf rfl (vl rfl (gq rfl) rfl) (gf rfl (fun _ => rfl) (bs hz2 fun v5 hv5 hz2 => ?_)))))))))))
 refine g_call _ (bo v5) (gw_f rfl) (fun w4 => ⟨_, [(di v1.Limit), (di 1), (di v2.1)], _, _, (by simp only [gd_pos w4]; rfl), rfl, all2_refl, roads_within_ok _ _ _  _ (cond_t w4 hv5), (.inl rfl)⟩) ?_
 refine g_val _ (.d (bo (!v5))) rfl (gw_f rfl) (fun w5 => (by simp only [gd_pos w5]; rfl)) ?_
 refine sd rfl (v_or rfl rfl (fun hc => gd_pos (not_t hc))) (sv rfl (s_nil (cc rfl hz2 (fun c4 hz2 => ?_) (fun c4 hz2 => ?_))))
 refine l_seq (l_sub (s0 := ⟨T [], G []⟩) (sbr rfl rfl) ?_)
 refine l_reg fun u12 hu12 => sv rfl (s_nil (l_ret ?_))
 cases hz2
 obtain rfl := ez2 _ rfl
 refine ⟨nofun, awl_ret ?_⟩
 rw [Sum.elim_inr] at h
 cases h
 exact fin_ok (.inr rfl) (resD1 (res_t rfl) rf_d) (.refl _)
 refine l_seq (l_sub (s0 := ⟨T [(1, (.ptr _ _)), (3, (.d _)), (4, (.ptr _ _)), (11, (.d _)), (12, (.d _)), (13, (.d _))], G [((1, u1), some (.box 105 _)), ((4, u4), some (.box 42 _))]⟩) (sbr rfl rfl) ?_)
 refine l_reg fun u13 hu13 => sp rfl rfl (sl rfl (gq rfl) rfl (sd rfl (v_len rfl) (sv rfl (sv rfl (s_nil (cc rfl hz2 (fun c5 hz2 => ?_) (fun c5 hz2 => ?_)))))))
 refine lr (fun u14 hu14 => sv rfl (s_nil (l_ret ?_)))
 cases hz2
 obtain rfl := ez2 _ rfl
 refine ⟨nofun, awl_ret ?_⟩
 rw [Sum.elim_inr] at h
 cases h
 exact fin_ok (.inr rfl) (resD1 (res_t rfl) rf_d) (.refl _)
 refine lr (fun u15 hu15 => sp rfl rfl (sl rfl (gq rfl) rfl (sv rfl (sv rfl (sp rfl rfl (sp rfl rfl (sl rfl G_hit rfl (sd rfl (v_len rfl) (bs hz2 fun v6 hv6 hz2 => s_call rfl rfl all2_refl (roads_rising_ok _ _ _  _ hv6) (.inl rfl) (s_val (.d (bo (!v6))) rfl rfl (sv rfl (s_nil (cc rfl hz2 (fun c6 hz2 => ?_) (fun c6 hz2 => ?_))))))))))))))
 refine l_seq (l_sub (s0 := ⟨T [], G []⟩) (sbr rfl rfl) ?_)
 refine l_reg fun u16 hu16 => sv rfl (s_nil (l_ret ?_))
 cases hz2
 obtain rfl := ez2 _ rfl
 refine ⟨nofun, awl_ret ?_⟩
 rw [Sum.elim_inr] at h
 cases h
 exact fin_ok (.inr rfl) (resD1 (res_t rfl) rf_d) (.refl _)
 refine l_skip (l_end (l_end (l_sub (s0 := ⟨T [(1, (.ptr _ _)), (11, (.d _)), (12, (.d _)), (13, (.d _))], G [((1, u1), some (.box 105 _))]⟩) (sbr rfl rfl) ?_)))
 refine l_reg fun u17 hu17 => sv rfl (sv rfl (s_nil (l_nil ?_)))
 cases hz2
 exact ⟨rfl, (), (sbr rfl rfl)⟩
 refine l_exitN rfl ?_
 cases hz2
 obtain rfl := ez2 _ rfl
 refine ⟨nofun, awl_pop rfl (l_j ?_)⟩
 exact ⟨_, (), rfl, (sbr rfl rfl)⟩
 rintro _ ⟨y1, g1, rfl, q1⟩
 rw [Sum.elim_inl] at h
 refine l_sub q1 (lr (fun u18 hu18 => sv rfl (s_nil (l_ret ?_))))
 cases h
 exact fin_ok (.inr rfl) (resD1 (res_t rfl) rf_d) (.refl _)

noncomputable def roads_check_joints_l2 (p1 : RoadsCheck) (v1 : Lane) (v2 : Spot) (x2 : Int) : Option (Stp Int (Sum Unit Int)) :=
  cond (decide (x2 < (v1.Next.length : Int))) ((geti v1.Next x2).bind fun v3 => (geti p1.Map_.Lanes v3).bind fun v4 => cond (v4.Kind != v1.Kind) (some (.out (.inr 4))) ((geti p1.Map_.Lanes v3).bind fun v5 => (geti v5.Curve_.Pts 0).bind fun v6 => cond (!(v6.X == v2.X && (v6.Y == v2.Y && true))) (some (.out (.inr 3))) (some (.go (w64 (x2 + 1)))))) (some (.out (.inl ())))
noncomputable def roads_check_joints_l1 (p1 : RoadsCheck) (x1 : Int) : Option (Stp Int (Sum Unit Int)) :=
  cond (decide (x1 < (p1.Map_.Lanes.length : Int))) ((geti p1.Map_.Lanes x1).bind fun v1 => (geti v1.Curve_.Pts (w64 ((v1.Curve_.Pts.length : Int) - 1))).bind fun v2 => thenS (loop (roads_check_joints_l2 p1 v1 v2) 0) (fun _ => some (.go (w64 (x1 + 1)))) (fun r => some (.out (.inr r)))) (some (.out (.inl ())))
noncomputable def roads_check_joints (p1 : RoadsCheck) : Option Int :=
  thenS (loop (roads_check_joints_l1 p1) 0) (fun _ => some 0) (fun r => some r)

theorem roads_check_joints_ok (p1 : RoadsCheck) (r : Int) (h : roads_check_joints p1 = some r) : PCall Tryz.prog 67 [(.agg (eMap p1.Map_))] (i64 r) := by
 refine l_call (fk Tryz.func67 Tryz.ntmps67 m0 (by with_unfolding_all rfl)) (nl rfl) ?_
 unfold roads_check_joints at h
 refine l_sub (s0 := ⟨T [(0, (.d _))], G []⟩) (sbr rfl rfl) ?_
 refine lr (fun u1 hu1 => sn rfl rfl (sv rfl (s_nil (l_seq (lr (fun u2 hu2 => sp rfl rfl (sp rfl rfl (sl rfl G_hit rfl (sd rfl (v_len rfl) (sv rfl (s_nil (js h fun z1 hz1 h => l_join (fun s => ∃ (y1 : Unit) (g1 : Unit), z1 = .inl y1 ∧ Sb ⟨T [], G []⟩ s) ?_ ?_))))))))))))
 refine l_block (l_loop (roads_check_joints_l1 p1) (fun (x1 : Int) (g2 : Unit) => ⟨T [(1, (.ptr (1, u1) 0)), (10, (dl eLane p1.Map_.Lanes)), (11, (di (p1.Map_.Lanes.length : Int))), (12, (di x1))], G [((1, u1), some (.box 105 (dMap p1.Map_)))]⟩) 0 () _ hz1 (sbr rfl rfl) ?_)
 intro x1 g2 z2 hz2 ez2
 unfold roads_check_joints_l1 at hz2
 refine lr (fun u3 hu3 => sv rfl (s_nil (l_seq (cc rfl hz2 (fun c1 hz2 => ?_) (fun c1 hz2 => ?_)))))
 refine l_skip (l_seq (l_block (lr (fun u4 hu4 => bs hz2 fun v1 hv1 hz2 => sd rfl (v_idx rfl rfl hv1 rfl) (sd rfl (v_loadLG rfl hv1 rfl rfl) (sn rfl rfl (sst rfl G_hit (dLane v1) rfl (s_nil (lr (fun u5 hu5 => sp rfl rfl (sp rfl rfl (sl rfl G_hit rfl (sp rfl rfl (sp rfl rfl (sl rfl G_hit rfl (sd rfl (v_len rfl) (sv rfl (bs hz2 fun v2 hv2 hz2 => sd rfl (v_idx rfl rfl hv2 rfl) (sd rfl (v_loadLG rfl hv2 rfl rfl) (sn rfl rfl (sst rfl G_hit [(di v2.X), (di v2.Y)] rfl (s_nil (l_seq (l_sub (s0 := ⟨T [(1, (.ptr _ _)), (4, (.ptr _ _)), (5, (.ptr _ _)), (10, (.d _)), (11, (.d _)), (12, (.d _))], G [((1, u1), some (.box 105 _)), ((4, u4), some (.box 42 _)), ((5, u5), some (.box 148 _))]⟩) (sbr rfl rfl) ?_))))))))))))))))))))))))
 refine l_reg fun u6 hu6 => sp rfl rfl (sl rfl (gq rfl) rfl (sd rfl (v_len rfl) (sv rfl (s_nil (js hz2 fun z3 hz3 hz2 => l_join (fun s => ∃ (y2 : Unit) (g3 : Unit), z3 = .inl y2 ∧ Sb ⟨T [(1, (.ptr (1, u1) 0)), (10, (dl eLane p1.Map_.Lanes)), (11, (di (p1.Map_.Lanes.length : Int))), (12, (di x1))], G [((1, u1), some (.box 105 (dMap p1.Map_)))]⟩ s) ?_ ?_)))))
 refine l_block (l_loop (roads_check_joints_l2 p1 v1 v2) (fun (x2 : Int) (g4 : Unit) => ⟨T [(1, (.ptr (1, u1) 0)), (4, (.ptr (4, u4) 0)), (5, (.ptr (5, u5) 0)), (10, (dl eLane p1.Map_.Lanes)), (11, (di (p1.Map_.Lanes.length : Int))), (12, (di x1)), (27, (dl eInt_i64 v1.Next)), (28, (di (v1.Next.length : Int))), (29, (di x2))], G [((1, u1), some (.box 105 (dMap p1.Map_))), ((4, u4), some (.box 42 (dLane v1))), ((5, u5), some (.box 148 [(di v2.X), (di v2.Y)]))]⟩) 0 () _ hz3 (sbr rfl rfl) ?_)
 intro x2 g4 z4 hz4 ez4
 unfold roads_check_joints_l2 at hz4
 refine lr (fun u7 hu7 => sv rfl (s_nil (l_seq (cc rfl hz4 (fun c2 hz4 => ?_) (fun c2 hz4 => ?_)))))
 refine l_skip (l_seq (l_block (lr (fun u8 hu8 => bs hz4 fun v3 hv3 hz4 => sd rfl (v_idx rfl rfl hv3 rfl) (sd rfl (v_loadL rfl hv3 rfl) (sv rfl (s_nil (l_seq (l_seq (l_draw rfl fun u9 hu9 => sp rfl rfl (sp rfl rfl (sl rfl G_hit rfl (sv rfl (bs hz4 fun v4 hv4 hz4 => sd rfl (v_idx rfl rfl hv4 rfl) (sv rfl (sd rfl (v_loadL rfl hv4 rfl) (sp rfl rfl (sl rfl (gq rfl) rfl (sv rfl (s_nil (cc rfl hz4 (fun c3 hz4 => ?_) (fun c3 hz4 => ?_))))))))))))))))))))))
 refine l_seq (l_sub (s0 := ⟨T [], G []⟩) (sbr rfl rfl) ?_)
 refine l_reg fun u10 hu10 => sv rfl (s_nil (l_ret ?_))
 cases hz4
 obtain rfl := ez4 _ rfl
 refine ⟨nofun, awl_ret ?_⟩
 rw [Sum.elim_inr] at hz2
 cases hz2
 obtain rfl := ez2 _ rfl
 refine ⟨nofun, awl_ret ?_⟩
 rw [Sum.elim_inr] at h
 cases h
 exact fin_ok (.inr rfl) (resD1 (res_t rfl) rf_d) (.refl _)
 refine l_skip (l_seq (l_sub (s0 := ⟨T [(1, (.ptr _ _)), (4, (.ptr _ _)), (5, (.ptr _ _)), (7, (.d _)), (10, (.d _)), (11, (.d _)), (12, (.d _)), (27, (.d _)), (28, (.d _)), (29, (.d _))], G [((1, u1), some (.box 105 _)), ((4, u4), some (.box 42 _)), ((5, u5), some (.box 148 _))]⟩) (sbr rfl rfl) ?_))
 refine l_draw rfl fun u11 hu11 => sp rfl rfl (sp rfl rfl (sl rfl G_hit rfl (sv rfl (bs hz4 fun v5 hv5 hz4 => sd rfl (v_idx rfl rfl hv5 rfl) (sv rfl (sv rfl (sd rfl (v_loadL rfl hv5 rfl) (bs hz4 fun v6 hv6 hz4 => sd rfl (v_idx rfl rfl hv6 rfl) (sd rfl (v_loadLG rfl hv6 rfl rfl) (sd rfl (v_loadG rfl (gq rfl) rfl rfl) (s_val (.d (bo (!(v6.X == v2.X && (v6.Y == v2.Y && true))))) rfl rfl (s_nil (cc rfl hz4 (fun c4 hz4 => ?_) (fun c4 hz4 => ?_))))))))))))))
 refine l_seq (l_sub (s0 := ⟨T [], G []⟩) (sbr rfl rfl) ?_)
 refine l_reg fun u12 hu12 => sv rfl (s_nil (l_ret ?_))
 cases hz4
 obtain rfl := ez4 _ rfl
 refine ⟨nofun, awl_ret ?_⟩
 rw [Sum.elim_inr] at hz2
 cases hz2
 obtain rfl := ez2 _ rfl
 refine ⟨nofun, awl_ret ?_⟩
 rw [Sum.elim_inr] at h
 cases h
 exact fin_ok (.inr rfl) (resD1 (res_t rfl) rf_d) (.refl _)
 refine l_skip (l_end (l_sub (s0 := ⟨T [(1, (.ptr _ _)), (4, (.ptr _ _)), (5, (.ptr _ _)), (10, (.d _)), (11, (.d _)), (12, (.d _)), (27, (.d _)), (28, (.d _)), (29, (.d _))], G [((1, u1), some (.box 105 _)), ((4, u4), some (.box 42 _)), ((5, u5), some (.box 148 _))]⟩) (sbr rfl rfl) ?_))
 refine l_reg fun u13 hu13 => sv rfl (sv rfl (s_nil (l_nil ?_)))
 cases hz4
 exact ⟨rfl, (), (sbr rfl rfl)⟩
 refine l_exitN rfl ?_
 cases hz4
 obtain rfl := ez4 _ rfl
 refine ⟨nofun, awl_pop rfl (l_j ?_)⟩
 exact ⟨_, (), rfl, (sbr rfl rfl)⟩
 rintro _ ⟨y2, g3, rfl, q1⟩
 rw [Sum.elim_inl] at hz2
 refine l_end (l_sub q1 (l_reg fun u14 hu14 => sv rfl (sv rfl (s_nil (l_nil ?_)))))
 cases hz2
 exact ⟨rfl, (), (sbr rfl rfl)⟩
 refine l_exitN rfl ?_
 cases hz2
 obtain rfl := ez2 _ rfl
 refine ⟨nofun, awl_pop rfl (l_j ?_)⟩
 exact ⟨_, (), rfl, (sbr rfl rfl)⟩
 rintro _ ⟨y1, g1, rfl, q2⟩
 rw [Sum.elim_inl] at h
 refine l_sub q2 (lr (fun u15 hu15 => sv rfl (s_nil (l_ret ?_))))
 cases h
 exact fin_ok (.inr rfl) (resD1 (res_t rfl) rf_d) (.refl _)

noncomputable def roads_check_signals_1 (p1 : Phase) : Option Bool :=
  (roads_within p1.Ticks 1 10000).bind fun v1 => some (!v1)

theorem roads_check_signals_1_ok (p1 : Phase) (r : Bool) (h : roads_check_signals_1 p1 = some r) : PCall Tryz.prog 173 [(.agg [(i64 p1.Ticks), (.list (List.map eInt_i64 p1.Green))])] (bo r) := by
 refine l_call (fk Tryz.func173 Tryz.ntmps173 m0 (by with_unfolding_all rfl)) (nl rfl) ?_
 unfold roads_check_signals_1 at h
 refine l_sub (s0 := ⟨T [(0, (.d _))], G []⟩) (sbr rfl rfl) ?_
 refine lr (fun u1 hu1 => sn rfl rfl (sv rfl (s_nil (lr (fun u2 hu2 => sp rfl rfl (sl rfl G_hit rfl (bs h fun v1 hv1 h => s_call rfl rfl all2_refl (roads_within_ok _ _ _  _ hv1) (.inl rfl) (s_val (.d (bo (!v1))) rfl rfl (sv rfl (s_nil (l_ret ?_)))))))))))
 cases h
 exact fin_ok (.inr rfl) (resD1 (res_t rfl) rf_d) (.refl _)

noncomputable def slices_IndexFunc_Phase_Phase_roads_check_signals_1_l1 (p1 : (List Phase)) (x1 : Int) : Option (Stp Int (Sum Unit Int)) :=
  cond (decide (x1 < (p1.length : Int))) ((geti p1 x1).bind fun v1 => (roads_check_signals_1 v1).bind fun v2 => cond v2 (some (.out (.inr x1))) (some (.go (w64 (x1 + 1))))) (some (.out (.inl ())))
noncomputable def slices_IndexFunc_Phase_Phase_roads_check_signals_1 (p1 : (List Phase)) : Option Int :=
  thenS (loop (slices_IndexFunc_Phase_Phase_roads_check_signals_1_l1 p1) 0) (fun _ => some (-1)) (fun r => some r)

theorem slices_IndexFunc_Phase_Phase_roads_check_signals_1_ok (p1 : (List Phase)) (r : Int) (h : slices_IndexFunc_Phase_Phase_roads_check_signals_1 p1 = some r) : PCall Tryz.prog 237 [(.list (List.map ePhase p1)), (.fn (.func 173) [] [])] (i64 r) := by
 refine l_call (fk Tryz.func237 Tryz.ntmps237 m0 (by with_unfolding_all rfl)) (nl rfl) ?_
 unfold slices_IndexFunc_Phase_Phase_roads_check_signals_1 at h
 refine l_sub (s0 := ⟨T [(0, (.d _)), (1, (.d _))], G []⟩) (sbr rfl rfl) ?_
 refine lr (fun u1 hu1 => sv rfl (s_nil (l_seq (lr (fun u2 hu2 => sv rfl (sd rfl (v_len rfl) (sv rfl (s_nil (js h fun z1 hz1 h => l_join (fun s => ∃ (y1 : Unit) (g1 : Unit), z1 = .inl y1 ∧ Sb ⟨T [], G []⟩ s) ?_ ?_)))))))))
 refine l_block (l_loop (slices_IndexFunc_Phase_Phase_roads_check_signals_1_l1 p1) (fun (x1 : Int) (g2 : Unit) => ⟨T [(0, (dl ePhase p1)), (1, (.d (.fn (.func 173) [] []))), (7, (di (p1.length : Int))), (8, (di x1))], G []⟩) 0 () _ hz1 (sbr rfl rfl) ?_)
 intro x1 g2 z2 hz2 ez2
 unfold slices_IndexFunc_Phase_Phase_roads_check_signals_1_l1 at hz2
 refine lr (fun u3 hu3 => sv rfl (s_nil (l_seq (cc rfl hz2 (fun c1 hz2 => ?_) (fun c1 hz2 => ?_)))))
 refine l_skip (l_seq (l_block (lr (fun u4 hu4 => sv rfl (sv rfl (s_nil (lr (fun u5 hu5 => sv rfl (sv rfl (sv rfl (bs hz2 fun v1 hv1 hz2 => sd rfl (v_idx rfl rfl hv1 rfl) (sd rfl (v_loadLG rfl hv1 rfl rfl) (bs hz2 fun v2 hv2 hz2 => s_call rfl rfl all2_refl (roads_check_signals_1_ok _  _ hv2) (.inl rfl) (s_nil (cc rfl hz2 (fun c2 hz2 => ?_) (fun c2 hz2 => ?_))))))))))))))))
 refine lr (fun u6 hu6 => sv rfl (sv rfl (s_nil (l_ret ?_))))
 cases hz2
 obtain rfl := ez2 _ rfl
 refine ⟨nofun, awl_ret ?_⟩
 rw [Sum.elim_inr] at h
 cases h
 exact fin_ok (.inr rfl) (resD1 (res_t rfl) rf_d) (.refl _)
 refine l_skip (l_end (l_reg fun u7 hu7 => sv rfl (sv rfl (s_nil (l_nil ?_)))))
 cases hz2
 exact ⟨rfl, (), (sbr rfl rfl)⟩
 refine l_exitN rfl ?_
 cases hz2
 obtain rfl := ez2 _ rfl
 refine ⟨nofun, awl_pop rfl (l_j ?_)⟩
 exact ⟨_, (), rfl, (sbr rfl rfl)⟩
 rintro _ ⟨y1, g1, rfl, q1⟩
 rw [Sum.elim_inl] at h
 refine l_sub q1 (lr (fun u8 hu8 => sv rfl (s_nil (l_ret ?_))))
 cases h
 exact fin_ok (.inr rfl) (resD1 (res_t rfl) rf_d) (.refl _)

noncomputable def slices_ContainsFunc_Phase_Phase_roads_check_signals_1 (p1 : (List Phase)) : Option Bool :=
  (slices_IndexFunc_Phase_Phase_roads_check_signals_1 p1).bind fun v1 => some (decide (v1 ≥ 0))

theorem slices_ContainsFunc_Phase_Phase_roads_check_signals_1_ok (p1 : (List Phase)) (r : Bool) (h : slices_ContainsFunc_Phase_Phase_roads_check_signals_1 p1 = some r) : PCall Tryz.prog 172 [(.list (List.map ePhase p1)), (.fn (.func 173) [] [])] (bo r) := by
 refine l_call (fk Tryz.func172 Tryz.ntmps172 m0 (by with_unfolding_all rfl)) (nl rfl) ?_
 unfold slices_ContainsFunc_Phase_Phase_roads_check_signals_1 at h
 refine l_sub (s0 := ⟨T [(0, (.d _)), (1, (.d _))], G []⟩) (sbr rfl rfl) ?_
 refine lr (fun u1 hu1 => sv rfl (s_nil (lr (fun u2 hu2 => sv rfl (sv rfl (bs h fun v1 hv1 h => s_call rfl rfl all2_refl (slices_IndexFunc_Phase_Phase_roads_check_signals_1_ok _  _ hv1) (.inl rfl) (sv rfl (sv rfl (s_nil (l_ret ?_))))))))))
 cases h
 exact fin_ok (.inr rfl) (resD1 (res_t rfl) rf_d) (.refl _)

noncomputable def roads_check_signals_2_b (p1 : Phase) (p2 : RoadsCheck) : Option Bool :=
  (roads_rising p1.Green 0 (p2.Map_.Lanes.length : Int)).bind fun v1 => some (!v1)

theorem roads_check_signals_2_b_ok (p1 : Phase) (p2 : RoadsCheck) (r : Bool) (h : roads_check_signals_2_b p1 p2 = some r) : PCall Tryz.prog 174 [(.agg [(i64 p1.Ticks), (.list (List.map eInt_i64 p1.Green))]), (.bp (eMap p2.Map_) 0)] (bo r) := by
 refine l_call (fk Tryz.func174 Tryz.ntmps174 m0 (by with_unfolding_all rfl)) (nl rfl) ?_
 unfold roads_check_signals_2_b at h
 refine l_sub (s0 := ⟨T [(0, (.d _)), (1, (.d _))], G []⟩) (sbr rfl rfl) ?_
 refine lr (fun u1 hu1 => sn rfl rfl (sv rfl (s_nil (lr (fun u2 hu2 => sp rfl rfl (sl rfl G_hit rfl (sv rfl (sv rfl (sv rfl (sd rfl (v_len rfl) (bs h fun v1 hv1 h => s_call rfl rfl all2_refl (roads_rising_ok _ _ _  _ hv1) (.inl rfl) (s_val (.d (bo (!v1))) rfl rfl (sv rfl (s_nil (l_ret ?_)))))))))))))))
 cases h
 exact fin_ok (.inr rfl) (resD1 (res_t rfl) rf_d) (.refl _)

noncomputable def slices_IndexFunc_Phase_Phase_roads_check_signals_2b_l1 (p1 : (List Phase)) (p2 : RoadsCheck) (x1 : Int) : Option (Stp Int (Sum Unit Int)) :=
  cond (decide (x1 < (p1.length : Int))) ((geti p1 x1).bind fun v1 => (roads_check_signals_2_b v1 p2).bind fun v2 => cond v2 (some (.out (.inr x1))) (some (.go (w64 (x1 + 1))))) (some (.out (.inl ())))
noncomputable def slices_IndexFunc_Phase_Phase_roads_check_signals_2b (p1 : (List Phase)) (p2 : RoadsCheck) : Option Int :=
  thenS (loop (slices_IndexFunc_Phase_Phase_roads_check_signals_2b_l1 p1 p2) 0) (fun _ => some (-1)) (fun r => some r)

theorem slices_IndexFunc_Phase_Phase_roads_check_signals_2b_ok (p1 : (List Phase)) (p2 : RoadsCheck) (r : Int) (h : slices_IndexFunc_Phase_Phase_roads_check_signals_2b p1 p2 = some r) : PCall Tryz.prog 237 [(.list (List.map ePhase p1)), (.fn (.func 174) [] [(.bp (eMap p2.Map_) 0)])] (i64 r) := by
 refine l_call (fk Tryz.func237 Tryz.ntmps237 m0 (by with_unfolding_all rfl)) (nl rfl) ?_
 unfold slices_IndexFunc_Phase_Phase_roads_check_signals_2b at h
 refine l_sub (s0 := ⟨T [(0, (.d _)), (1, (.d _))], G []⟩) (sbr rfl rfl) ?_
 refine lr (fun u1 hu1 => sv rfl (s_nil (l_seq (lr (fun u2 hu2 => sv rfl (sd rfl (v_len rfl) (sv rfl (s_nil (js h fun z1 hz1 h => l_join (fun s => ∃ (y1 : Unit) (g1 : Unit), z1 = .inl y1 ∧ Sb ⟨T [], G []⟩ s) ?_ ?_)))))))))
 refine l_block (l_loop (slices_IndexFunc_Phase_Phase_roads_check_signals_2b_l1 p1 p2) (fun (x1 : Int) (g2 : Unit) => ⟨T [(0, (dl ePhase p1)), (1, (.d (.fn (.func 174) [] [(.bp (eMap p2.Map_) 0)]))), (7, (di (p1.length : Int))), (8, (di x1))], G []⟩) 0 () _ hz1 (sbr rfl rfl) ?_)
 intro x1 g2 z2 hz2 ez2
 unfold slices_IndexFunc_Phase_Phase_roads_check_signals_2b_l1 at hz2
 refine lr (fun u3 hu3 => sv rfl (s_nil (l_seq (cc rfl hz2 (fun c1 hz2 => ?_) (fun c1 hz2 => ?_)))))
 refine l_skip (l_seq (l_block (lr (fun u4 hu4 => sv rfl (sv rfl (s_nil (lr (fun u5 hu5 => sv rfl (sv rfl (sv rfl (bs hz2 fun v1 hv1 hz2 => sd rfl (v_idx rfl rfl hv1 rfl) (sd rfl (v_loadLG rfl hv1 rfl rfl) (bs hz2 fun v2 hv2 hz2 => s_call rfl rfl all2_refl (roads_check_signals_2_b_ok _ _  _ hv2) (.inl rfl) (s_nil (cc rfl hz2 (fun c2 hz2 => ?_) (fun c2 hz2 => ?_))))))))))))))))
 refine lr (fun u6 hu6 => sv rfl (sv rfl (s_nil (l_ret ?_))))
 cases hz2
 obtain rfl := ez2 _ rfl
 refine ⟨nofun, awl_ret ?_⟩
 rw [Sum.elim_inr] at h
 cases h
 exact fin_ok (.inr rfl) (resD1 (res_t rfl) rf_d) (.refl _)
 refine l_skip (l_end (l_reg fun u7 hu7 => sv rfl (sv rfl (s_nil (l_nil ?_)))))
 cases hz2
 exact ⟨rfl, (), (sbr rfl rfl)⟩
 refine l_exitN rfl ?_
 cases hz2
 obtain rfl := ez2 _ rfl
 refine ⟨nofun, awl_pop rfl (l_j ?_)⟩
 exact ⟨_, (), rfl, (sbr rfl rfl)⟩
 rintro _ ⟨y1, g1, rfl, q1⟩
 rw [Sum.elim_inl] at h
 refine l_sub q1 (lr (fun u8 hu8 => sv rfl (s_nil (l_ret ?_))))
 cases h
 exact fin_ok (.inr rfl) (resD1 (res_t rfl) rf_d) (.refl _)

noncomputable def slices_ContainsFunc_Phase_Phase_roads_check_signals_2b (p1 : (List Phase)) (p2 : RoadsCheck) : Option Bool :=
  (slices_IndexFunc_Phase_Phase_roads_check_signals_2b p1 p2).bind fun v1 => some (decide (v1 ≥ 0))

theorem slices_ContainsFunc_Phase_Phase_roads_check_signals_2b_ok (p1 : (List Phase)) (p2 : RoadsCheck) (r : Bool) (h : slices_ContainsFunc_Phase_Phase_roads_check_signals_2b p1 p2 = some r) : PCall Tryz.prog 172 [(.list (List.map ePhase p1)), (.fn (.func 174) [] [(.bp (eMap p2.Map_) 0)])] (bo r) := by
 refine l_call (fk Tryz.func172 Tryz.ntmps172 m0 (by with_unfolding_all rfl)) (nl rfl) ?_
 unfold slices_ContainsFunc_Phase_Phase_roads_check_signals_2b at h
 refine l_sub (s0 := ⟨T [(0, (.d _)), (1, (.d _))], G []⟩) (sbr rfl rfl) ?_
 refine lr (fun u1 hu1 => sv rfl (s_nil (lr (fun u2 hu2 => sv rfl (sv rfl (bs h fun v1 hv1 h => s_call rfl rfl all2_refl (slices_IndexFunc_Phase_Phase_roads_check_signals_2b_ok _ _  _ hv1) (.inl rfl) (sv rfl (sv rfl (s_nil (l_ret ?_))))))))))
 cases h
 exact fin_ok (.inr rfl) (resD1 (res_t rfl) rf_d) (.refl _)

noncomputable def roads_check_signals_l1 (p1 : RoadsCheck) (x1 : Int) : Option (Stp Int (Sum Unit Int)) :=
  cond (decide (x1 < (p1.Map_.Signals.length : Int))) ((geti p1.Map_.Signals x1).bind fun v1 => cond ((v1.Phases.length : Int) == 0) (some (.out (.inr 6))) (cond (decide ((v1.Phases.length : Int) > 6)) (some (.out (.inr 8))) ((roads_within v1.Offset 0 1099511627776).bind fun v2 => cond (!v2) (some (.out (.inr 2))) ((slices_ContainsFunc_Phase_Phase_roads_check_signals_1 v1.Phases).bind fun v3 => cond v3 (some (.out (.inr 2))) ((slices_ContainsFunc_Phase_Phase_roads_check_signals_2b v1.Phases p1).bind fun v4 => cond v4 (some (.out (.inr 11))) (some (.go (w64 (x1 + 1))))))))) (some (.out (.inl ())))
noncomputable def roads_check_signals (p1 : RoadsCheck) : Option Int :=
  thenS (loop (roads_check_signals_l1 p1) 0) (fun _ => some 0) (fun r => some r)

theorem roads_check_signals_ok (p1 : RoadsCheck) (r : Int) (h : roads_check_signals p1 = some r) : PCall Tryz.prog 68 [(.agg (eMap p1.Map_))] (i64 r) := by
 refine l_call (fk Tryz.func68 Tryz.ntmps68 m0 (by with_unfolding_all rfl)) (nl rfl) ?_
 unfold roads_check_signals at h
 refine l_sub (s0 := ⟨T [(0, (.d _))], G []⟩) (sbr rfl rfl) ?_
 refine lr (fun u1 hu1 => sn rfl rfl (sv rfl (s_nil (l_seq (lr (fun u2 hu2 => sp rfl rfl (sp rfl rfl (sl rfl G_hit rfl (sd rfl (v_len rfl) (sv rfl (s_nil (js h fun z1 hz1 h => l_join (fun s => ∃ (y1 : Unit) (g1 : Unit), z1 = .inl y1 ∧ Sb ⟨T [], G []⟩ s) ?_ ?_))))))))))))
 refine l_block (l_loop (roads_check_signals_l1 p1) (fun (x1 : Int) (g2 : Unit) => ⟨T [(1, (.ptr (1, u1) 0)), (8, (dl eSignal p1.Map_.Signals)), (9, (di (p1.Map_.Signals.length : Int))), (10, (di x1))], G [((1, u1), some (.box 105 (dMap p1.Map_)))]⟩) 0 () _ hz1 (sbr rfl rfl) ?_)
 intro x1 g2 z2 hz2 ez2
 unfold roads_check_signals_l1 at hz2
 refine lr (fun u3 hu3 => sv rfl (s_nil (l_seq (cc rfl hz2 (fun c1 hz2 => ?_) (fun c1 hz2 => ?_)))))
 refine l_skip (l_seq (l_block (lr (fun u4 hu4 => bs hz2 fun v1 hv1 hz2 => sd rfl (v_idx rfl rfl hv1 rfl) (sd rfl (v_loadLG rfl hv1 rfl rfl) (sn rfl rfl (sst rfl G_hit [(di v1.Offset), (dl ePhase v1.Phases)] rfl (s_nil (lr (fun u5 hu5 => sp rfl rfl (sl rfl G_hit rfl (sd rfl (v_len rfl) (sv rfl (s_nil (l_block (lr (fun u6 hu6 => sv rfl (sv rfl (sv rfl (s_nil (cc rfl hz2 (fun c2 hz2 => ?_) (fun c2 hz2 => ?_))))))))))))))))))))))
 refine lr (fun u7 hu7 => sv rfl (s_nil (l_ret ?_)))
 cases hz2
 obtain rfl := ez2 _ rfl
 refine ⟨nofun, awl_ret ?_⟩
 rw [Sum.elim_inr] at h
 cases h
 exact fin_ok (.inr rfl) (resD1 (res_t rfl) rf_d) (.refl _)
 refine lr (fun u8 hu8 => sv rfl (sv rfl (sv rfl (s_nil (cc rfl hz2 (fun c3 hz2 => ?_) (fun c3 hz2 => ?_))))))
 refine lr (fun u9 hu9 => sv rfl (s_nil (l_ret ?_)))
 cases hz2
 obtain rfl := ez2 _ rfl
 refine ⟨nofun, awl_ret ?_⟩
 rw [Sum.elim_inr] at h
 cases h
 exact fin_ok (.inr rfl) (resD1 (res_t rfl) rf_d) (.refl _)
 refine lr (fun u10 hu10 => sp rfl rfl (sl rfl G_hit rfl (bs hz2 fun v2 hv2 hz2 => s_call rfl rfl all2_refl (roads_within_ok _ _ _  _ hv2) (.inl rfl) (s_val (.d (bo (!v2))) rfl rfl (sv rfl (s_nil (cc rfl hz2 (fun c4 hz2 => ?_) (fun c4 hz2 => ?_))))))))
 refine l_seq (l_sub (s0 := ⟨T [], G []⟩) (sbr rfl rfl) ?_)
 refine l_reg fun u11 hu11 => sv rfl (s_nil (l_ret ?_))
 cases hz2
 obtain rfl := ez2 _ rfl
 refine ⟨nofun, awl_ret ?_⟩
 rw [Sum.elim_inr] at h
 cases h
 exact fin_ok (.inr rfl) (resD1 (res_t rfl) rf_d) (.refl _)
 refine l_seq (l_sub (s0 := ⟨T [(1, (.ptr _ _)), (4, (.ptr _ _)), (8, (.d _)), (9, (.d _)), (10, (.d _))], G [((1, u1), some (.box 105 _)), ((4, u4), some (.box 48 _))]⟩) (sbr rfl rfl) ?_)
 refine l_reg fun u12 hu12 => sp rfl rfl (sl rfl (gq rfl) rfl (bs hz2 fun v3 hv3 hz2 => s_call rfl rfl all2_refl (slices_ContainsFunc_Phase_Phase_roads_check_signals_1_ok _  _ hv3) (.inl rfl) (sv rfl (s_nil (cc rfl hz2 (fun c5 hz2 => ?_) (fun c5 hz2 => ?_))))))
 refine lr (fun u13 hu13 => sv rfl (s_nil (l_ret ?_)))
 cases hz2
 obtain rfl := ez2 _ rfl
 refine ⟨nofun, awl_ret ?_⟩
 rw [Sum.elim_inr] at h
 cases h
 exact fin_ok (.inr rfl) (resD1 (res_t rfl) rf_d) (.refl _)
 refine lr (fun u14 hu14 => sp rfl rfl (sl rfl (gq rfl) rfl (s_val (.fn _ _ _) rfl rfl (bs hz2 fun v4 hv4 hz2 => s_call rfl (rD (rfL_cons (rf_fn rfL_nil (rfL_cons (rf_ptr G_hit (rD (rD (rD (rD (rD rfL_nil)))))) rfL_nil)) rfL_nil)) all2_refl (slices_ContainsFunc_Phase_Phase_roads_check_signals_2b_ok _ _  _ hv4) (.inr rfl) (sv rfl (s_nil (cc rfl hz2 (fun c6 hz2 => ?_) (fun c6 hz2 => ?_))))))))
 refine lr (fun u15 hu15 => sv rfl (s_nil (l_ret ?_)))
 cases hz2
 obtain rfl := ez2 _ rfl
 refine ⟨nofun, awl_ret ?_⟩
 rw [Sum.elim_inr] at h
 cases h
 exact fin_ok (.inr rfl) (resD1 (res_t rfl) rf_d) (.refl _)
 refine l_skip (l_end (l_end (l_reg fun u16 hu16 => sv rfl (sv rfl (s_nil (l_nil ?_))))))
 cases hz2
 exact ⟨rfl, (), (sbr rfl rfl)⟩
 refine l_exitN rfl ?_
 cases hz2
 obtain rfl := ez2 _ rfl
 refine ⟨nofun, awl_pop rfl (l_j ?_)⟩
 exact ⟨_, (), rfl, (sbr rfl rfl)⟩
 rintro _ ⟨y1, g1, rfl, q1⟩
 rw [Sum.elim_inl] at h
 refine l_sub q1 (lr (fun u17 hu17 => sv rfl (s_nil (l_ret ?_))))
 cases h
 exact fin_ok (.inr rfl) (resD1 (res_t rfl) rf_d) (.refl _)


/-- kerbstone/curve.pieces$1 -/
def ac_curve_pieces_1 : AC := (.seq (.reg [oo 3 (.mv (ci 0))]) (.seq (.reg [oo 8 (.fieldA 0 (.t 1)), oo 9 (.load 1 false (.t 8)), oo 10 (.len (.t 9)), oo 11 (.bin .sub (.t 10) (ci 1)), oo 12 (.mv (ci 0))]) (.block 0 (.loop (.seq (.reg [oo 13 (.bin .lss (.t 12) (.t 11))]) (.seq (.cond (.t 13) .skip (.exit 0)) (.seq (.block 1 (.seq (.reg [oo 14 (.mv (.t 12)), oo 4 (.mv (.t 14))]) (.seq (.draw [oo 15 (.fieldA 0 (.t 1)), oo 16 (.load 1 false (.t 15)), oo 17 (.mv (.t 4)), oo 18 (.idxS 2 (.t 16) (.t 17)), oo 19 (.load 2 true (.t 18)), oo 20 (.fieldA 0 (.t 1)), oo 21 (.load 1 false (.t 20)), oo 22 (.mv (.t 4)), oo 23 (.bin .add (.t 22) (ci 1)), oo 24 (.idxS 2 (.t 21) (.t 23)), oo 25 (.load 2 true (.t 24)), oo 26 (.call (cf 234) [(.t 19), (.t 25)]), oo 5 (.alloc 253 [z0, z0]), oe (.store 2 (.t 5) (.t 26))] []) (.seq (.reg [oo 28 (.load 2 true (.t 5)), oo 29 (.load 2 true (.t 5)), oo 30 (.call (cf 236) [(.t 28), (.t 29)]), oo 31 (.call (cf 235) [(.t 30)]), oo 27 (.mv (.t 31)), oo 32 (.ext (.t 27) 0), oo 33 (.ext (.t 27) 1), oo 6 (.mv (.t 32)), oo 7 (.mv (.t 33))]) (.seq (.seq (.drawB [oo 34 (.mv (.t 0)), oo 35 (.mv (.t 4)), oo 36 (.fieldA 0 (.t 1)), oo 37 (.load 1 false (.t 36)), oo 38 (.mv (.t 4)), oo 39 (.idxS 2 (.t 37) (.t 38)), oo 40 (.load 2 true (.t 39)), oo 41 (.load 2 true (.t 5)), oo 42 (.mv (.t 6)), oo 43 (.mv (.t 3)), oo 44 (.build [z0, z0, z0, z0, z0, z0] [(0, 2, (.t 40)), (2, 2, (.t 41)), (4, 1, (.t 42)), (5, 1, (.t 43))]), oo 45 (.icall (.t 34) [(.t 35), (.t 44)]), oo 46 (.un .not (.t 45))] 11 []) (.cond (.t 46) .ret .skip)) (.reg [oo 47 (.mv (.t 3)), oo 48 (.mv (.t 6)), oo 49 (.bin .add (.t 47) (.t 48)), oo 3 (.mv (.t 49))])))))) (.reg [oo 50 (.bin .add (.t 12) (ci 1)), oo 12 (.mv (.t 50))]))))))))
theorem fn_curve_pieces_1 : FnOK Tryz.prog 271 51 [] ac_curve_pieces_1 := ⟨_, _, Tryz.func271, rfl, Tryz.ntmps271, by kernel_rfl, ⟨fun r => if r == 6 then [11] else [], by kernel_rfl⟩, by kernel_rfl⟩

/-- The pieces of a chain of points, from a number on. -/
noncomputable def piecesGo (pts : List Spot) : Nat → Nat → Int → Option (List (Int × CurvePiece))
  | 0, _, _ => some []
  | n + 1, i, start => (pts[i]?).bind fun p => (pts[i + 1]?).bind fun q => (curve_from p q).bind fun v => (curve_vector_dot v v).bind fun d => (curve_root d).bind fun r =>
    (piecesGo pts n (i + 1) (w64 (start + r.1))).bind fun l => some (((i : Int), CurvePiece.mk p v r.1 start) :: l)
noncomputable def piecesC (pts : List Spot) : Option (List (Int × CurvePiece)) := if pts.length ≤ 1000000 then piecesGo pts (pts.length - 1) 0 0 else none

/-- kerbstone/curve.pieces -/
def ac_curve_pieces : AC := (.seq (.reg [oo 1 (.box 39 true (.t 0)), oo 2 (.mv (.c (.v .nilFunc)))]) (.seq (.reg [oo 3 (.mkfn (.func 271) [] [(.t 1)]), oo 2 (.mv (.t 3))]) .ret))
theorem fn_curve_pieces : FnOK Tryz.prog 257 4 [.t 2] ac_curve_pieces := ⟨_, _, Tryz.func257, rfl, Tryz.ntmps257, by kernel_rfl, ⟨fun _ => [], by kernel_rfl⟩, by kernel_rfl⟩
abbrev ePiece (a : Int × CurvePiece) : List D := [i64 a.1, .agg [i64 a.2.p.X, i64 a.2.p.Y, i64 a.2.v.x, i64 a.2.v.y, i64 a.2.l, i64 a.2.start]]
theorem pieces_clos (c : Curve) : PCall Tryz.prog 257 [.agg [.list (List.map eSpot c.Pts)]] (.fn (.func 271) [] [.bp [.list (List.map eSpot c.Pts)] 0]) := by
  refine pcall_of fn_curve_pieces (by simp) ?_
  unfold ac_curve_pieces
  refine aw_seq (aw_reg fun u hu => ?_)
  refine rw_new (.ptr _ _) _ rfl rfl ?_
  refine rw_val (.d _) rfl rfl ?_
  refine rw_nil ?_
  refine aw_seq (aw_reg fun u' hu' => ?_)
  refine rw_val (.fn _ _ _) rfl rfl ?_
  refine rw_val (.fn _ _ _) rfl rfl ?_
  refine rw_nil ?_
  refine aw_ret ⟨.inr rfl, ?_⟩
  refine resD1 (res_t (v := .fn _ _ _) rfl) ?_
  exact rf_fn rfL_nil (rfL_cons (rf_ptr (by simp only [upd, if_true]; rfl) (rfL_cons rf_d rfL_nil)) rfL_nil)
theorem spot_get (ps : List Spot) (n : Int) (i : Nat) (p : Spot) (hn : n = i) (h : ps[i]? = some p) : (List.map eSpot ps)[n.toNat]? = some (eSpot p) := by
  subst hn
  rw [Int.toNat_natCast, List.getElem?_map, h]; rfl
theorem i64_id {n : Int} (h : -9223372036854775808 ≤ n ∧ n ≤ 9223372036854775807) : w64 n = n := Go.IntWalk.i64_in n h
theorem piecesGo_length (pts : List Spot) : ∀ n i s L, piecesGo pts n i s = some L → L.length = n := by
  intro n
  induction n with
  | zero => intro i s L h; cases h; rfl
  | succ n ih =>
    intro i s L h
    rw [piecesGo] at h
    obtain ⟨p, hp, h⟩ := bind_some h
    obtain ⟨q, hq, h⟩ := bind_some h
    obtain ⟨v, hv, h⟩ := bind_some h
    obtain ⟨d, hd, h⟩ := bind_some h
    obtain ⟨r, hr, h⟩ := bind_some h
    obtain ⟨l, hl, h⟩ := bind_some h
    cases h
    rw [List.length_cons, ih _ _ _ hl]
theorem pieces_iter {pts : List Spot} {L : List (Int × CurvePiece)} (h : piecesC pts = some L) : IterOK Tryz.prog (.fn (.func 271) [] [.bp [.list (List.map eSpot pts)] 0]) (L.map ePiece) := by
  unfold piecesC at h
  split at h
  case isFalse => cases h
  rename_i hlen
  refine ⟨271, [], _, rfl, ?_⟩
  intro k h0 Inv Stop hi0 hy
  refine icall_of fn_curve_pieces_1 (by simp) ?_
  unfold ac_curve_pieces_1
  refine aw_seq (aw_reg fun u hu => ?_)
  refine rw_val (.d _) rfl rfl ?_
  refine rw_nil ?_
  refine aw_seq (aw_reg fun u hu => ?_)
  refine rw_val (.d _) rfl rfl ?_
  refine rw_val (.d _) rfl rfl ?_
  refine rw_val (.d (i64 pts.length)) rfl (v_len (f := eSpot) rfl) ?_
  refine rw_val (.d _) rfl rfl ?_
  refine rw_val (.d _) rfl rfl ?_
  refine rw_nil ?_
  refine aw_block ?_
  refine aw_loopS (α := Nat × Int × Heap) (fun x => ⟨T [(0, .yld k), (1, .d (.bp [.list (List.map eSpot pts)] 0)), (3, .d (i64 x.2.1)), (11, .d (i64 (w64 (pts.length - 1)))), (12, .d (i64 x.1))], x.2.2⟩) (fun x => pts.length - x.1)
    (fun x => Inv x.1 x.2.2 ∧ x.1 ≤ pts.length - 1 ∧ piecesGo pts (pts.length - 1 - x.1) x.1 x.2.1 = some (L.drop x.1)) (0, 0, h0) ⟨hi0, by omega, h⟩ (sub_eq ⟨rfl, rfl, rfl, rfl, rfl, trivial⟩ fun _ _ h => h) ?_
  rintro ⟨i, start, hh⟩ ⟨hinv, hi, hgo⟩
  dsimp only at hinv hi hgo ⊢
  refine aw_seq (aw_reg fun u hu => ?_)
  refine rw_val (.d _) rfl rfl ?_
  refine rw_nil ?_
  refine aw_seq ?_
  refine aw_condD rfl (fun hlt => ?_) (fun hlt => ?_)
  · refine aw_skip ?_
    have hlen1 : w64 ((pts.length : Int) - 1) = pts.length - 1 := i64_id (by omega)
    rw [hlen1] at hlt
    have hi1 : i + 1 < pts.length := by omega
    have hw1 : IntKind.i64.wrap ((i : Int) + 1) = (i : Int) + 1 := i64_id (by omega)
    obtain ⟨m, hm⟩ : ∃ m, pts.length - 1 - i = m + 1 := ⟨pts.length - 1 - i - 1, by omega⟩
    rw [hm, piecesGo] at hgo
    obtain ⟨p, hp, hgo⟩ := bind_some hgo
    obtain ⟨q, hq, hgo⟩ := bind_some hgo
    obtain ⟨v, hv, hgo⟩ := bind_some hgo
    obtain ⟨d, hd, hgo⟩ := bind_some hgo
    obtain ⟨r, hr, hgo⟩ := bind_some hgo
    obtain ⟨l, hl, hgo⟩ := bind_some hgo
    have hgo : ((i : Int), CurvePiece.mk p v r.1 start) :: l = L.drop i := Option.some.inj hgo
    have hLi : L[i]? = some ((i : Int), CurvePiece.mk p v r.1 start) := by
      have := congrArg (fun z => z[0]?) hgo
      simpa using this.symm
    have hLd : L.drop (i + 1) = l := by
      have := congrArg (fun z => z.drop 1) hgo
      simpa using this.symm
    have hin : ∀ (p : Spot) (n : Int) (j : Nat), n = j → pts[j]? = some p → (List.map eSpot pts)[n.toNat]? = some (eSpot p) := fun p n j => spot_get pts n j p
    refine aw_seq ?_
    refine aw_block ?_
    refine aw_seq (aw_reg fun u hu => ?_)
    refine rw_val (.d _) rfl rfl ?_
    refine rw_val (.d _) rfl rfl ?_
    refine rw_nil ?_
    refine aw_seq (aw_draw rfl fun u hu => ?_)
    refine rw_val (.d _) rfl rfl ?_
    refine rw_val (.d _) rfl rfl ?_
    refine rw_val (.d _) rfl rfl ?_
    refine rw_idx _ _ _ _ rfl rfl (Int.natCast_nonneg i) (hin p _ i rfl hp) rfl ?_
    refine rw_loadLG _ _ _ _ _ rfl (hin p _ i rfl hp) (by simp) rfl ?_
    refine rw_val (.d _) rfl rfl ?_
    refine rw_val (.d _) rfl rfl ?_
    refine rw_val (.d _) rfl rfl ?_
    refine rw_val (.d _) rfl rfl ?_
    refine rw_idx _ _ _ _ rfl rfl (by rw [hw1]; omega) (hin q _ (i + 1) (by rw [hw1]; rfl) hq) rfl ?_
    refine rw_loadLG _ _ _ _ _ rfl (hin q _ (i + 1) (by rw [hw1]; rfl) hq) (by simp) rfl ?_
    refine rw_call rfl rfl (curve_from_ok p q _ hv) (.inl rfl) ?_
    refine rw_new (.ptr _ _) _ rfl rfl ?_
    refine rw_store _ _ _ _ _ rfl rfl rfl (by simp only [upd, if_true]; rfl) (by simp) ?_
    refine rw_nil ?_
    refine aw_seq (aw_reg fun u' hu' => ?_)
    refine rw_loadG _ _ _ _ (.d (.agg [i64 v.x, i64 v.y])) rfl (by simp only [upd, if_true]; rfl) (by simp [setL]) rfl ?_
    refine rw_loadG _ _ _ _ (.d (.agg [i64 v.x, i64 v.y])) rfl (by simp only [upd, if_true]; rfl) (by simp [setL]) rfl ?_
    refine rw_call rfl rfl (curve_vector_dot_ok v v _ hd) (.inl rfl) ?_
    refine rw_call rfl rfl (curve_root_ok d _ hr) (.inl rfl) ?_
    refine rw_val (.d _) rfl rfl ?_
    refine rw_val (.d _) rfl rfl ?_
    refine rw_val (.d _) rfl rfl ?_
    refine rw_val (.d _) rfl rfl ?_
    refine rw_val (.d _) rfl rfl ?_
    refine rw_nil ?_
    refine aw_seq (aw_seq ?_)
    refine aw_drawB rfl fun u2 hu2 => ?_
    simp only [List.take, List.drop]
    refine rw_val (.yld _) rfl rfl ?_
    refine rw_val (.d _) rfl rfl ?_
    refine rw_val (.d _) rfl rfl ?_
    refine rw_val (.d _) rfl rfl ?_
    refine rw_val (.d _) rfl rfl ?_
    refine rw_idx _ _ _ _ rfl rfl (Int.natCast_nonneg i) (hin p _ i rfl hp) rfl ?_
    refine rw_loadLG _ _ _ _ _ rfl (hin p _ i rfl hp) (by simp) rfl ?_
    refine rw_loadG _ _ _ _ (.d (.agg [i64 v.x, i64 v.y])) rfl (by simp only [upd, if_true]; rfl) (by simp [setL]) rfl ?_
    refine rw_val (.d _) rfl rfl ?_
    refine rw_val (.d _) rfl rfl ?_
    refine rw_val (.d _) rfl rfl ?_
    refine rw_nil ?_
    intro u3 hu3
    refine rw_yield k ((ePiece ((i : Int), CurvePiece.mk p v r.1 start)).map .d) rfl rfl ?_
    refine YCall.weak (sub_new hu (sub_new hu fun _ _ h => h)) ((hy i hh _ (by rw [List.getElem?_map, hLi]; rfl) hinv).mono ?_)
    rintro v' h' (⟨rfl, hin⟩ | ⟨rfl, hst⟩)
    · intro u4 hu4
      refine rw_val (.d _) rfl rfl ?_
      refine rw_nil ?_
      refine aw_condE (t := false) rfl (fun h => by cases h) (fun _ => ?_)
      refine aw_skip ?_
      refine aw_reg fun u hu => ?_
      refine rw_val (.d _) rfl rfl ?_
      refine rw_val (.d _) rfl rfl ?_
      refine rw_val (.d _) rfl rfl ?_
      refine rw_val (.d _) rfl rfl ?_
      refine rw_nil ?_
      refine aw_reg fun u hu => ?_
      refine rw_val (.d _) rfl rfl ?_
      refine rw_val (.d _) rfl rfl ?_
      refine rw_nil ?_
      refine ⟨(i + 1, w64 (start + r.1), h'), ⟨hin, by dsimp only; omega, ?_⟩, by dsimp only; omega, sub_eq ⟨rfl, rfl, rfl, rfl, ?_, trivial⟩ fun _ _ h => h⟩
      · dsimp only
        rw [hLd, show pts.length - 1 - (i + 1) = m by omega]; exact hl
      · show AV.d (i64 (IntKind.i64.wrap ((i : Int) + 1))) = _
        rw [hw1]; rfl
    · intro u4 hu4
      refine rw_val (.d _) rfl rfl ?_
      refine rw_nil ?_
      refine aw_condE (t := true) rfl (fun _ => ?_) (fun h => by cases h)
      refine aw_ret ?_
      dsimp only
      exact ⟨Or.inr trivial, AV.tup [], rfl, Or.inr hst⟩
  · refine aw_exit ?_
    have hlen1 : 1 ≤ pts.length → w64 ((pts.length : Int) - 1) = pts.length - 1 := fun _ => i64_id (by omega)
    have : i = pts.length - 1 := by
      by_cases h : 1 ≤ pts.length
      · rw [hlen1 h] at hlt; omega
      · omega
    subst this
    rw [Nat.sub_self, piecesGo] at hgo
    have hL : (L.map ePiece).length = pts.length - 1 := by
      have h1 : L.drop (pts.length - 1) = [] := (Option.some.inj hgo).symm
      have h2 := List.drop_eq_nil_iff.1 h1
      rw [List.length_map]
      refine Nat.le_antisymm h2 ?_
      exact Nat.le_of_eq (piecesGo_length _ _ _ _ _ h).symm
    exact ⟨.inl rfl, _, rfl, .inl (by rw [hL]; exact hinv)⟩

noncomputable def curve_Pieces_l1 (x1 : (List Int)) (a1 : (Int × CurvePiece)) : Option (Stp (List Int) (List Int)) :=
  (appc x1 [a1.2.l]).bind fun v3 => some (.go v3)
noncomputable def curve_Pieces (p1 : Curve) : Option (List Int) :=
  (curve_Check p1).bind fun v1 => cond (v1 != 0) (some []) (((piecesC p1.Pts).bind fun v2 => loopL (curve_Pieces_l1) (fun (x1 : (List Int)) => x1) v2 []).bind fun y1 => some y1)

theorem curve_Pieces_ok (p1 : Curve) (r : (List Int)) (h : curve_Pieces p1 = some r) : PCall Tryz.prog 268 [(.agg [(.list (List.map eSpot p1.Pts))])] (.list (List.map eInt_i64 r)) := by
 refine l_call (fk Tryz.func268 Tryz.ntmps268 (fun r => if r == 6 then [1003] else []) (by with_unfolding_all rfl)) (nl rfl) ?_
 unfold curve_Pieces at h
 refine l_sub (s0 := ⟨T [(0, (.d _))], G []⟩) (sbr rfl rfl) ?_
 refine lr (fun u1 hu1 => sn rfl rfl (sv rfl (s_nil (l_seq (lr (fun u2 hu2 => sd rfl (v_loadG rfl G_hit rfl rfl) (bs h fun v1 hv1 h => s_call rfl rfl all2_refl (curve_Check_ok _  _ hv1) (.inl rfl) (sv rfl (s_nil (cc rfl h (fun c1 h => ?_) (fun c1 h => ?_)))))))))))
 refine lr (fun u3 hu3 => sv rfl (s_nil (l_ret ?_)))
 cases h
 exact fin_ok (.inr rfl) (resD1 (res_t rfl) rf_d) DLe.nil
 refine l_skip (lr (fun u4 hu4 => sn rfl rfl (s_nil (l_seq (lr (fun u5 hu5 => sd rfl (v_loadG rfl (gq rfl) rfl rfl) (s_call rfl rfl all2_refl (pieces_clos p1) (.inl rfl) (s_nil (bs h fun y1 hy1 h => l_join (fun s => ∃ g1 : Nat, Sb ⟨T [(3, (.ptr (3, u4) 0))], G [((3, u4), some (.box 75 [(oS y1 (17, g1))])), ((17, g1), oB 2 1 eInt_i64 y1)]⟩ s) ?_ ?_)))))))))
 refine l_block (bs hy1 fun v2 hv2 hy1 => l_sub (s0 := ⟨T [(3, (.ptr _ _)), (10, (.d _))], G [((3, u4), some (.box 75 _))]⟩) (sbr rfl rfl) ?_)
 refine l_rangeL (.fn (.func 271) [] [(.bp [(.list (List.map eSpot p1.Pts))] 0)]) ePiece v2 (curve_Pieces_l1) (fun (x1 : (List Int)) => x1) (fun (x1 : (List Int)) (g2 : Nat) => [((3, u4), some (.box 75 [(oS x1 (17, g2))])), ((17, g2), oB 2 1 eInt_i64 x1)]) [] 0 _ rfl (pieces_iter hv2) (fun _ => rfl) hy1 (sb_of trivial (sbG_some G_hit (.of rfl) (sbG_nil trivial))) nofun ?_ ?_
 intro u7 hu7 hku7
 refine ⟨fun x1 g2 => (G_skip rfl (G_skip rfl rfl)), ?_⟩
 intro r1 x1 g2 a1 z1 hrr1 hz1 ez1
 unfold curve_Pieces_l1 at hz1
 show AWL _ _ _ _ _ _ ⟨T [(12, (.d (.agg (eCurvePiece a1.2)))), (11, (di a1.1)), (3, (.ptr (3, u4) 0)), (10, (.d (.fn (.func 271) [] [(.bp [(.list (List.map eSpot p1.Pts))] 0)])))], G [((1000000, u7), some (.obj (T [(3, (.ptr (3, u4) 0)), (10, (.d (.fn (.func 271) [] [(.bp [(.list (List.map eSpot p1.Pts))] 0)])))]) r1)), ((3, u4), some (.box 75 [(oS x1 (17, g2))])), ((17, g2), oB 2 1 eInt_i64 x1)]⟩
 refine l_reg fun u8 hu8 => sn rfl rfl (sst rfl G_hit (dCurvePiece a1.2) rfl (s_nil (l_j (mid_ok (gq rfl) ?_))))
 refine l_block (l_reg fun u9 hu9 => s_val (oS x1 (17, g2)) rfl (v_load rfl (gq rfl) rfl) (sp rfl rfl (sl rfl (gq rfl) rfl (s_val (dl eInt_i64 [a1.2.l]) rfl rfl (bs hz1 fun v3 hv3 hz1 => s_appendO eInt_i64 (17, g2) x1 a1.2.l [] _ (elems_list (fun _ => rfl)) rfl (gq rfl) hv3 (sst rfl (gq rfl) [(.sl (17, u9))] rfl (s_nil (l_end (l_nil ?_)))))))))
 cases hz1
 exact rnd_go (gq rfl) u9 (sbG_some G_hit (.box (.cons (.of (oS_ne (appc_ne hv3)).symm) .nil)) (sbG_own (gq rfl) trivial))
 rintro x1 g2 _ rfl qx1
 refine l_end (l_j ?_)
 exact ⟨g2, (Sb.after qx1 (sb_of ⟨.of rfl, trivial⟩ (sbG_some G_hit (.of rfl) (sbG_oB (gq rfl) trivial))))⟩
 rintro _ ⟨g1, q1⟩
 refine l_sub q1 (lr (fun u10 hu10 => s_val (oS y1 (17, g1)) rfl (v_load rfl G_hit rfl) (s_val (oS y1 (17, g1)) rfl rfl (s_nil (l_ret ?_)))))
 cases h
 exact fin_ok (.inr rfl) (resD1 (res_t rfl) (rf_oS (gq rfl))) oD_le

noncomputable def curve_Length_l1 (v1 : (List Int)) (x1 : (Int × Int)) : Option (Stp (Int × Int) Int) :=
  cond (decide (x1.2 < (v1.length : Int))) ((geti v1 x1.2).bind fun v2 => some (.go ((w64 (x1.1 + v2)), (w64 (x1.2 + 1))))) (some (.out x1.1))
noncomputable def curve_Length (p1 : Curve) : Option Int :=
  (curve_Pieces p1).bind fun v1 => (loop (curve_Length_l1 v1) (0, 0)).bind fun y1 => some y1

theorem curve_Length_ok (p1 : Curve) (r : Int) (h : curve_Length p1 = some r) : PCall Tryz.prog 232 [(.agg [(.list (List.map eSpot p1.Pts))])] (i64 r) := by
 refine l_call (fk Tryz.func232 Tryz.ntmps232 m0 (by with_unfolding_all rfl)) (nl rfl) ?_
 unfold curve_Length at h
 refine l_sub (s0 := ⟨T [(0, (.d _))], G []⟩) (sbr rfl rfl) ?_
 refine lr (fun u1 hu1 => sn rfl rfl (sv rfl (s_nil (lr (fun u2 hu2 => sv rfl (s_nil (l_seq (lr (fun u3 hu3 => sd rfl (v_loadG rfl G_hit rfl rfl) (bs h fun v1 hv1 h => s_call rfl rfl all2_refl (curve_Pieces_ok _  _ hv1) (.inl rfl) (sd rfl (v_len rfl) (sv rfl (s_nil (bs h fun y1 hy1 h => l_join (fun s => ∃ g1 : Unit, Sb ⟨T [(3, (di y1))], G []⟩ s) ?_ ?_))))))))))))))
 refine l_block (l_loop (curve_Length_l1 v1) (fun (x1 : (Int × Int)) (g2 : Unit) => ⟨T [(3, (di x1.1)), (7, (dl eInt_i64 v1)), (8, (di (v1.length : Int))), (9, (di x1.2))], G []⟩) (0, 0) () _ hy1 (sbr rfl rfl) ?_)
 intro x1 g2 z1 hz1 ez1
 unfold curve_Length_l1 at hz1
 refine lr (fun u4 hu4 => sv rfl (s_nil (l_seq (cc rfl hz1 (fun c1 hz1 => ?_) (fun c1 hz1 => ?_)))))
 refine l_skip (l_seq (l_block (lr (fun u5 hu5 => bs hz1 fun v2 hv2 hz1 => sd rfl (v_idx rfl rfl hv2 rfl) (sd rfl (v_loadL rfl hv2 rfl) (sv rfl (s_nil (l_reg fun u6 hu6 => sv rfl (sv rfl (sv rfl (sv rfl (s_nil (l_end (l_reg fun u7 hu7 => sv rfl (sv rfl (s_nil (l_nil ?_)))))))))))))))))
 cases hz1
 exact ⟨rfl, (), (sbr rfl rfl)⟩
 refine l_exitN rfl ?_
 cases hz1
 obtain rfl := ez1 _ rfl
 refine ⟨nofun, awl_pop rfl (l_j ?_)⟩
 exact ⟨(), (sbr rfl rfl)⟩
 rintro _ ⟨g1, q1⟩
 refine l_sub q1 (lr (fun u8 hu8 => sv rfl (sv rfl (s_nil (l_ret ?_)))))
 cases h
 exact fin_ok (.inr rfl) (resD1 (res_t rfl) rf_d) (.refl _)

noncomputable def roads_long (p1 : Map) (p2 : Int) : Option Int :=
  (geti p1.Lanes p2).bind fun v1 => (curve_Length v1.Curve_).bind fun v2 => some v2

theorem roads_long_ok (p1 : Map) (p2 : Int) (r : Int) (h : roads_long p1 p2 = some r) : PCall Tryz.prog 165 [(.agg (eMap p1)), (i64 p2)] (i64 r) := by
 refine l_call (fk Tryz.func165 Tryz.ntmps165 m0 (by with_unfolding_all rfl)) (nl rfl) ?_
 unfold roads_long at h
 refine l_sub (s0 := ⟨T [(0, (.d _)), (1, (.d _))], G []⟩) (sbr rfl rfl) ?_
 refine lr (fun u1 hu1 => sn rfl rfl (sv rfl (s_nil (lr (fun u2 hu2 => sp rfl rfl (sl rfl G_hit rfl (sv rfl (bs h fun v1 hv1 h => sd rfl (v_idx rfl rfl hv1 rfl) (sv rfl (sd rfl (v_loadLG rfl hv1 rfl rfl) (bs h fun v2 hv2 h => s_call rfl rfl all2_refl (curve_Length_ok _  _ hv2) (.inl rfl) (sv rfl (s_nil (l_ret ?_))))))))))))))
 cases h
 exact fin_ok (.inr rfl) (resD1 (res_t rfl) rf_d) (.refl _)

noncomputable def roads_check_zones_l3 (p1 : RoadsCheck) (v1 : Zone) (x3 : Int) : Option (Stp Int (Sum Unit Int)) :=
  cond (decide (x3 < (v1.Parts.length : Int))) ((geti v1.Parts x3).bind fun v5 => ((cond (!((decide (v5.From < 0)) || (decide (v5.From ≥ v5.To)))) (roads_long p1.Map_ v5.Lane_) (some default))).bind fun v6 => cond (((((decide (v5.From < 0)) || (decide (v5.From ≥ v5.To))) || (decide (v5.To > v6))) || (decide (v5.Rank < 0))) || (decide (v5.Rank > 100))) (some (.out (.inr 2))) (some (.go (w64 (x3 + 1))))) (some (.out (.inl ())))
noncomputable def roads_check_zones_l2 (v1 : Zone) (x2 : ((List Int) × Int)) : Option (Stp ((List Int) × Int) (List Int)) :=
  cond (decide (x2.2 < (v1.Parts.length : Int))) ((geti v1.Parts x2.2).bind fun v2 => (appc x2.1 [v2.Lane_]).bind fun v3 => some (.go (v3, (w64 (x2.2 + 1))))) (some (.out x2.1))
noncomputable def roads_check_zones_l1 (p1 : RoadsCheck) (x1 : Int) : Option (Stp Int (Sum Unit Int)) :=
  cond (decide (x1 < (p1.Map_.Zones.length : Int))) ((geti p1.Map_.Zones x1).bind fun v1 => cond (decide ((v1.Parts.length : Int) < 2)) (some (.out (.inr 6))) (cond (decide ((v1.Parts.length : Int) > 6)) (some (.out (.inr 8))) (cond ((decide (v1.Signal_ < 0)) || (decide (v1.Signal_ > (p1.Map_.Signals.length : Int)))) (some (.out (.inr 2))) ((loop (roads_check_zones_l2 v1) ([], 0)).bind fun y2 => (roads_rising y2 0 (p1.Map_.Lanes.length : Int)).bind fun v4 => cond (!v4) (some (.out (.inr 11))) (thenS (loop (roads_check_zones_l3 p1 v1) 0) (fun _ => some (.go (w64 (x1 + 1)))) (fun r => some (.out (.inr r)))))))) (some (.out (.inl ())))
noncomputable def roads_check_zones (p1 : RoadsCheck) : Option Int :=
  thenS (loop (roads_check_zones_l1 p1) 0) (fun _ => some 0) (fun r => some r)

theorem roads_check_zones_ok (p1 : RoadsCheck) (r : Int) (h : roads_check_zones p1 = some r) : PCall Tryz.prog 69 [(.agg (eMap p1.Map_))] (i64 r) := by
 refine l_call (fk Tryz.func69 Tryz.ntmps69 (fun r => if r == 15 then [1003] else []) (by with_unfolding_all rfl)) (nl rfl) ?_
 unfold roads_check_zones at h
 refine l_sub (s0 := ⟨T [(0, (.d _))], G []⟩) (sbr rfl rfl) ?_
 refine lr (fun u1 hu1 => sn rfl rfl (sv rfl (s_nil (l_seq (lr (fun u2 hu2 => sp rfl rfl (sp rfl rfl (sl rfl G_hit rfl (sd rfl (v_len rfl) (sv rfl (s_nil (js h fun z1 hz1 h => l_join (fun s => ∃ (y1 : Unit) (g1 : Unit), z1 = .inl y1 ∧ Sb ⟨T [], G []⟩ s) ?_ ?_))))))))))))
 refine l_block (l_loop (roads_check_zones_l1 p1) (fun (x1 : Int) (g2 : Unit) => ⟨T [(1, (.ptr (1, u1) 0)), (13, (dl eZone p1.Map_.Zones)), (14, (di (p1.Map_.Zones.length : Int))), (15, (di x1))], G [((1, u1), some (.box 105 (dMap p1.Map_)))]⟩) 0 () _ hz1 (sbr rfl rfl) ?_)
 intro x1 g2 z2 hz2 ez2
 unfold roads_check_zones_l1 at hz2
 refine lr (fun u3 hu3 => sv rfl (s_nil (l_seq (cc rfl hz2 (fun c1 hz2 => ?_) (fun c1 hz2 => ?_)))))
 refine l_skip (l_seq (l_block (lr (fun u4 hu4 => bs hz2 fun v1 hv1 hz2 => sd rfl (v_idx rfl rfl hv1 rfl) (sd rfl (v_loadLG rfl hv1 rfl rfl) (sn rfl rfl (sst rfl G_hit [(dl ePart v1.Parts), (di v1.Signal_)] rfl (s_nil (l_seq (lr (fun u5 hu5 => sp rfl rfl (sl rfl G_hit rfl (sd rfl (v_len rfl) (sv rfl (s_nil (l_block (lr (fun u6 hu6 => sv rfl (sv rfl (sv rfl (s_nil (cc rfl hz2 (fun c2 hz2 => ?_) (fun c2 hz2 => ?_)))))))))))))))))))))))
 refine lr (fun u7 hu7 => sv rfl (s_nil (l_ret ?_)))
 cases hz2
 obtain rfl := ez2 _ rfl
 refine ⟨nofun, awl_ret ?_⟩
 rw [Sum.elim_inr] at h
 cases h
 exact fin_ok (.inr rfl) (resD1 (res_t rfl) rf_d) (.refl _)
 refine lr (fun u8 hu8 => sv rfl (sv rfl (sv rfl (s_nil (cc rfl hz2 (fun c3 hz2 => ?_) (fun c3 hz2 => ?_))))))
 refine lr (fun u9 hu9 => sv rfl (s_nil (l_ret ?_)))
 cases hz2
 obtain rfl := ez2 _ rfl
 refine ⟨nofun, awl_ret ?_⟩
 rw [Sum.elim_inr] at h
 cases h
 exact fin_ok (.inr rfl) (resD1 (res_t rfl) rf_d) (.refl _)
 refine lr (fun u10 hu10 => sp rfl rfl (sl rfl G_hit rfl (sv rfl (sv rfl (gp rfl (gw_f rfl) (fun _ => rfl) (gf rfl (vl rfl G_hit rfl) (gp rfl (gw_f rfl) (fun _ => rfl) ?_)))))))
 refine g_val _ (.ptr _ _) rfl (gw_f rfl) (fun w4 => (by simp only [gd_pos w4]; rfl)) ?_
 refine gf rfl (vl rfl (gq rfl) rfl) (gf rfl (fun w6 => (v_len (gd_pos w6))) (gf rfl (fun w7 => (v_bin (gd_pos w7) (gd_pos w7) rfl)) (sd rfl (v_or rfl rfl (fun hc => gd_pos (not_t hc))) (sv rfl (s_nil (cc rfl hz2 (fun c4 hz2 => ?_) (fun c4 hz2 => ?_)))))))
 refine l_seq (l_sub (s0 := ⟨T [], G []⟩) (sbr rfl rfl) ?_)
 refine l_reg fun u11 hu11 => sv rfl (s_nil (l_ret ?_))
 cases hz2
 obtain rfl := ez2 _ rfl
 refine ⟨nofun, awl_ret ?_⟩
 rw [Sum.elim_inr] at h
 cases h
 exact fin_ok (.inr rfl) (resD1 (res_t rfl) rf_d) (.refl _)
 refine l_skip (l_end (l_seq (l_sub (s0 := ⟨T [(1, (.ptr _ _)), (4, (.ptr _ _)), (13, (.d _)), (14, (.d _)), (15, (.d _))], G [((1, u1), some (.box 105 _)), ((4, u4), some (.box 45 _))]⟩) (sbr rfl rfl) ?_)))
 refine l_reg fun u12 hu12 => sv rfl (s_nil (l_seq (lr (fun u13 hu13 => sp rfl rfl (sl rfl (gq rfl) rfl (sd rfl (v_len rfl) (sv rfl (s_nil (bs hz2 fun y2 hy2 hz2 => l_join (fun s => ∃ g3 : Nat, Sb ⟨T [(1, (.ptr (1, u1) 0)), (4, (.ptr (4, u4) 0)), (6, (oS y2 (52, g3))), (13, (dl eZone p1.Map_.Zones)), (14, (di (p1.Map_.Zones.length : Int))), (15, (di x1))], G [((1, u1), some (.box 105 (dMap p1.Map_))), ((4, u4), some (.box 45 [(dl ePart v1.Parts), (di v1.Signal_)])), ((52, g3), oB 3 1 eInt_i64 y2)]⟩ s) ?_ ?_)))))))))
 refine l_block (l_loop (roads_check_zones_l2 v1) (fun (x2 : ((List Int) × Int)) (g4 : Nat) => ⟨T [(1, (.ptr (1, u1) 0)), (4, (.ptr (4, u4) 0)), (6, (oS x2.1 (52, g4))), (13, (dl eZone p1.Map_.Zones)), (14, (di (p1.Map_.Zones.length : Int))), (15, (di x1)), (42, (dl ePart v1.Parts)), (43, (di (v1.Parts.length : Int))), (44, (di x2.2))], G [((1, u1), some (.box 105 (dMap p1.Map_))), ((4, u4), some (.box 45 [(dl ePart v1.Parts), (di v1.Signal_)])), ((52, g4), oB 3 1 eInt_i64 x2.1)]⟩) ([], 0) 0 _ hy2 (sb_of ⟨.of rfl, .of rfl, .of rfl, .of rfl, .of rfl, .of rfl, .of rfl, .of rfl, .of rfl, trivial⟩ (sbG_some G_hit (.of rfl) (sg rfl (sbG_nil trivial)))) ?_)
 intro x2 g4 z3 hz3 ez3
 unfold roads_check_zones_l2 at hz3
 refine lr (fun u14 hu14 => sv rfl (s_nil (l_seq (cc rfl hz3 (fun c5 hz3 => ?_) (fun c5 hz3 => ?_)))))
 refine l_skip (l_seq (l_block (lr (fun u15 hu15 => bs hz3 fun v2 hv2 hz3 => sd rfl (v_idx rfl rfl hv2 rfl) (sd rfl (v_loadLG rfl hv2 rfl rfl) (sn rfl rfl (sst rfl G_hit (dPart v2) rfl (s_nil (l_reg fun u16 hu16 => s_val (oS x2.1 (52, g4)) rfl rfl (sp rfl rfl (sl rfl G_hit rfl (s_val (dl eInt_i64 [v2.Lane_]) rfl rfl (bs hz3 fun v3 hv3 hz3 => s_appendO eInt_i64 (52, g4) x2.1 v2.Lane_ [] _ (elems_list (fun _ => rfl)) rfl (gq rfl) hv3 (ss rfl (s_nil (l_end (l_sub (s0 := ⟨T [(1, (.ptr _ _)), (4, (.ptr _ _)), (6, (.sl _)), (13, (.d _)), (14, (.d _)), (15, (.d _)), (42, (.d _)), (43, (.d _)), (44, (.d _))], G [((1, u1), some (.box 105 _)), ((4, u4), some (.box 45 _)), ((52, u16), some _)]⟩) (sbr rfl rfl) ?_)))))))))))))))))
 refine l_reg fun u17 hu17 => sv rfl (sv rfl (s_nil (l_nil ?_)))
 cases hz3
 exact ⟨rfl, u16, (sb_of ⟨.of rfl, .of rfl, (.of (oS_ne (appc_ne hv3)).symm), .of rfl, .of rfl, .of rfl, .of rfl, .of rfl, .of rfl, trivial⟩ (sbG_some G_hit (.of rfl) (sg rfl (sbG_own (gq rfl) trivial))))⟩
 refine l_exitN rfl ?_
 cases hz3
 obtain rfl := ez3 _ rfl
 refine ⟨nofun, awl_pop rfl (l_j ?_)⟩
 exact ⟨g4, (sb_of ⟨.of rfl, .of rfl, .of rfl, .of rfl, .of rfl, .of rfl, trivial⟩ (sbG_some G_hit (.of rfl) (sg rfl (sbG_oB (gq rfl) trivial))))⟩
 rintro _ ⟨g3, q1⟩
 refine l_sub q1 (l_seq (lr (fun u18 hu18 => s_val (oS y2 (52, g3)) rfl rfl (sp rfl rfl (sp rfl rfl (sl rfl G_hit rfl (sd rfl (v_len rfl) (bs hz2 fun v4 hv4 hz2 => s_call rfl (rfL_cons (rf_oS (gq rfl)) (rD (rD rfL_nil))) (.cons oD_le (.cons (.refl _) all2_refl)) (roads_rising_ok _ _ _  _ hv4) (.inr rfl) (s_val (.d (bo (!v4))) rfl rfl (s_nil (cc rfl hz2 (fun c6 hz2 => ?_) (fun c6 hz2 => ?_))))))))))))
 refine lr (fun u19 hu19 => sv rfl (s_nil (l_ret ?_)))
 cases hz2
 obtain rfl := ez2 _ rfl
 refine ⟨nofun, awl_ret ?_⟩
 rw [Sum.elim_inr] at h
 cases h
 exact fin_ok (.inr rfl) (resD1 (res_t rfl) rf_d) (.refl _)
 refine l_skip (lr (fun u20 hu20 => sp rfl rfl (sl rfl (gq rfl) rfl (sd rfl (v_len rfl) (sv rfl (s_nil (js hz2 fun z4 hz4 hz2 => l_join (fun s => ∃ (y3 : Unit) (g5 : Unit), z4 = .inl y3 ∧ Sb ⟨T [(1, (.ptr (1, u1) 0)), (13, (dl eZone p1.Map_.Zones)), (14, (di (p1.Map_.Zones.length : Int))), (15, (di x1))], G [((1, u1), some (.box 105 (dMap p1.Map_)))]⟩ s) ?_ ?_)))))))
 refine l_block (l_loop (roads_check_zones_l3 p1 v1) (fun (x3 : Int) (g6 : Unit) => ⟨T [(1, (.ptr (1, u1) 0)), (13, (dl eZone p1.Map_.Zones)), (14, (di (p1.Map_.Zones.length : Int))), (15, (di x1)), (62, (dl ePart v1.Parts)), (63, (di (v1.Parts.length : Int))), (64, (di x3))], G [((1, u1), some (.box 105 (dMap p1.Map_)))]⟩) 0 () _ hz4 (sbr rfl rfl) ?_)
 intro x3 g6 z5 hz5 ez5
 unfold roads_check_zones_l3 at hz5
 refine lr (fun u21 hu21 => sv rfl (s_nil (l_seq (cc rfl hz5 (fun c7 hz5 => ?_) (fun c7 hz5 => ?_)))))
 refine l_skip (l_seq (l_block (lr (fun u22 hu22 => bs hz5 fun v5 hv5 hz5 => sd rfl (v_idx rfl rfl hv5 rfl) (sd rfl (v_loadLG rfl hv5 rfl rfl) (sn rfl rfl (sst rfl G_hit (dPart v5) rfl (s_nil (l_seq (l_draw rfl fun u23 hu23 => sp rfl rfl (sl rfl G_hit rfl (sv rfl (sv rfl (gp rfl (gw_f rfl) (fun _ => rfl) (gf rfl (vl rfl G_hit rfl) (gp rfl (gw_f rfl) (fun _ => rfl) (gf rfl (vl rfl G_hit rfl) (gf rfl (fun w12 => (v_bin (gd_pos w12) (gd_pos w12) rfl)) (sd rfl (v_or rfl rfl (fun hc => gd_pos (not_t hc))) (sv rfl (gp rfl (gw_f rfl) (fun _ => rfl) (gf rfl (vl rfl G_hit rfl) (gp rfl (gw_f rfl) (fun _ => rfl) (gf rfl (fun w16 => (v_loadG (gd_pos w16) (gq rfl) rfl rfl)) (gp rfl (gw_f rfl) (fun _ => rfl) (gf rfl (vl rfl G_hit rfl) (bs hz5 fun v6 hv6 hz5 => ?_)))))))))))))))))))))))))))
 refine g_call _ (i64 v6) (gw_f rfl) (fun w19 => ⟨_, [(.d (.agg (eMap p1.Map_))), (di v5.Lane_)], _, _, (by simp only [gd_pos w19]; rfl), rfl, all2_refl, roads_long_ok _ _  _ (cond_t w19 hv6), (.inl rfl)⟩) ?_
 refine gf rfl (fun w20 => (v_bin (gd_pos w20) (gd_pos w20) rfl)) (sd rfl (v_or rfl rfl (fun hc => gd_pos (not_t hc))) (sv rfl (gp rfl (gw_f rfl) (fun _ => rfl) (gf rfl (vl rfl G_hit rfl) (gf rfl (vb rfl rfl rfl) (sd rfl (v_or rfl rfl (fun hc => gd_pos (not_t hc))) (sv rfl (gp rfl (gw_f rfl) (fun _ => rfl) (gf rfl (vl rfl G_hit rfl) (gf rfl (vb rfl rfl rfl) (sd rfl (v_or rfl rfl (fun hc => gd_pos (not_t hc))) (s_nil (cc rfl hz5 (fun c8 hz5 => ?_) (fun c8 hz5 => ?_))))))))))))))
 refine l_seq (l_sub (s0 := ⟨T [], G []⟩) (sbr rfl rfl) ?_)
 refine l_reg fun u24 hu24 => sv rfl (s_nil (l_ret ?_))
 cases hz5
 obtain rfl := ez5 _ rfl
 refine ⟨nofun, awl_ret ?_⟩
 rw [Sum.elim_inr] at hz2
 cases hz2
 obtain rfl := ez2 _ rfl
 refine ⟨nofun, awl_ret ?_⟩
 rw [Sum.elim_inr] at h
 cases h
 exact fin_ok (.inr rfl) (resD1 (res_t rfl) rf_d) (.refl _)
 refine l_skip (l_end (l_sub (s0 := ⟨T [(1, (.ptr _ _)), (13, (.d _)), (14, (.d _)), (15, (.d _)), (62, (.d _)), (63, (.d _)), (64, (.d _))], G [((1, u1), some (.box 105 _))]⟩) (sbr rfl rfl) ?_))
 refine l_reg fun u25 hu25 => sv rfl (sv rfl (s_nil (l_nil ?_)))
 cases hz5
 exact ⟨rfl, (), (sbr rfl rfl)⟩
 refine l_exitN rfl ?_
 cases hz5
 obtain rfl := ez5 _ rfl
 refine ⟨nofun, awl_pop rfl (l_j ?_)⟩
 exact ⟨_, (), rfl, (sbr rfl rfl)⟩
 rintro _ ⟨y3, g5, rfl, q2⟩
 rw [Sum.elim_inl] at hz2
 refine l_end (l_sub q2 (l_reg fun u26 hu26 => sv rfl (sv rfl (s_nil (l_nil ?_)))))
 cases hz2
 exact ⟨rfl, (), (sbr rfl rfl)⟩
 refine l_exitN rfl ?_
 cases hz2
 obtain rfl := ez2 _ rfl
 refine ⟨nofun, awl_pop rfl (l_j ?_)⟩
 exact ⟨_, (), rfl, (sbr rfl rfl)⟩
 rintro _ ⟨y1, g1, rfl, q3⟩
 rw [Sum.elim_inl] at h
 refine l_sub q3 (lr (fun u27 hu27 => sv rfl (s_nil (l_ret ?_))))
 cases h
 exact fin_ok (.inr rfl) (resD1 (res_t rfl) rf_d) (.refl _)

noncomputable def roads_check_works_l1 (p1 : RoadsCheck) (x1 : Int) : Option (Stp Int (Sum Unit Int)) :=
  cond (decide (x1 < (p1.Map_.Works.length : Int))) ((geti p1.Map_.Works x1).bind fun v1 => cond ((decide (v1.Lane_ < 0)) || (decide (v1.Lane_ ≥ (p1.Map_.Lanes.length : Int)))) (some (.out (.inr 7))) ((geti p1.Map_.Lanes v1.Lane_).bind fun v2 => (roads_Bounds v2.Kind).bind fun v3 => ((cond (!((decide (v1.From < 0)) || (decide (v1.From > v1.To)))) (roads_long p1.Map_ v1.Lane_) (some default))).bind fun v4 => ((cond (!((((((decide (v1.From < 0)) || (decide (v1.From > v1.To))) || (decide (v1.To > v4))) || (decide (v1.Begin < 0))) || (decide (v1.Begin ≥ v1.End))) || (decide (v1.End > 1099511627776)))) (roads_within v1.Limit 0 v3.1) (some default))).bind fun v5 => cond (((((((decide (v1.From < 0)) || (decide (v1.From > v1.To))) || (decide (v1.To > v4))) || (decide (v1.Begin < 0))) || (decide (v1.Begin ≥ v1.End))) || (decide (v1.End > 1099511627776))) || (!v5)) (some (.out (.inr 2))) (some (.go (w64 (x1 + 1)))))) (some (.out (.inl ())))
noncomputable def roads_check_works (p1 : RoadsCheck) : Option Int :=
  thenS (loop (roads_check_works_l1 p1) 0) (fun _ => some 0) (fun r => some r)

theorem roads_check_works_ok (p1 : RoadsCheck) (r : Int) (h : roads_check_works p1 = some r) : PCall Tryz.prog 70 [(.agg (eMap p1.Map_))] (i64 r) := by
 refine l_call (fk Tryz.func70 Tryz.ntmps70 m0 (by with_unfolding_all rfl)) (nl rfl) ?_
 unfold roads_check_works at h
 refine l_sub (s0 := ⟨T [(0, (.d _))], G []⟩) (sbr rfl rfl) ?_
 refine lr (fun u1 hu1 => sn rfl rfl (sv rfl (s_nil (l_seq (lr (fun u2 hu2 => sp rfl rfl (sp rfl rfl (sl rfl G_hit rfl (sd rfl (v_len rfl) (sv rfl (s_nil (js h fun z1 hz1 h => l_join (fun s => ∃ (y1 : Unit) (g1 : Unit), z1 = .inl y1 ∧ Sb ⟨T [], G []⟩ s) ?_ ?_))))))))))))
 refine l_block (l_loop (roads_check_works_l1 p1) (fun (x1 : Int) (g2 : Unit) => ⟨T [(1, (.ptr (1, u1) 0)), (10, (dl eWork p1.Map_.Works)), (11, (di (p1.Map_.Works.length : Int))), (12, (di x1))], G [((1, u1), some (.box 105 (dMap p1.Map_)))]⟩) 0 () _ hz1 (sbr rfl rfl) ?_)
 intro x1 g2 z2 hz2 ez2
 unfold roads_check_works_l1 at hz2
 refine lr (fun u3 hu3 => sv rfl (s_nil (l_seq (cc rfl hz2 (fun c1 hz2 => ?_) (fun c1 hz2 => ?_)))))
 refine l_skip (l_seq (l_block (lr (fun u4 hu4 => bs hz2 fun v1 hv1 hz2 => sd rfl (v_idx rfl rfl hv1 rfl) (sd rfl (v_loadLG rfl hv1 rfl rfl) (sn rfl rfl (sst rfl G_hit (dWork v1) rfl (s_nil (l_seq (lr (fun u5 hu5 => sp rfl rfl (sl rfl G_hit rfl (sv rfl (sv rfl (gp rfl (gw_f rfl) (fun _ => rfl) (gf rfl (vl rfl G_hit rfl) (gp rfl (gw_f rfl) (fun _ => rfl) ?_)))))))))))))))))
 refine g_val _ (.ptr _ _) rfl (gw_f rfl) (fun w4 => (by simp only [gd_pos w4]; rfl)) ?_
 refine gf rfl (vl rfl (gq rfl) rfl) (gf rfl (fun w6 => (v_len (gd_pos w6))) (gf rfl (fun w7 => (v_bin (gd_pos w7) (gd_pos w7) rfl)) (sd rfl (v_or rfl rfl (fun hc => gd_pos (not_t hc))) (s_nil (cc rfl hz2 (fun c2 hz2 => ?_) (fun c2 hz2 => ?_))))))
 refine l_seq (l_sub (s0 := ⟨T [], G []⟩) (sbr rfl rfl) ?_)
 refine l_reg fun u6 hu6 => sv rfl (s_nil (l_ret ?_))
 cases hz2
 obtain rfl := ez2 _ rfl
 refine ⟨nofun, awl_ret ?_⟩
 rw [Sum.elim_inr] at h
 cases h
 exact fin_ok (.inr rfl) (resD1 (res_t rfl) rf_d) (.refl _)
 refine l_skip (l_seq (l_sub (s0 := ⟨T [(1, (.ptr _ _)), (4, (.ptr _ _)), (10, (.d _)), (11, (.d _)), (12, (.d _))], G [((1, u1), some (.box 105 _)), ((4, u4), some (.box 50 _))]⟩) (sbr rfl rfl) ?_))
 refine l_reg fun u7 hu7 => sp rfl rfl (sp rfl rfl (sl rfl G_hit rfl (sp rfl rfl (sl rfl (gq rfl) rfl (bs hz2 fun v2 hv2 hz2 => sd rfl (v_idx rfl rfl hv2 rfl) (sv rfl (sd rfl (v_loadL rfl hv2 rfl) (bs hz2 fun v3 hv3 hz2 => s_call rfl rfl all2_refl (roads_Bounds_ok _  _ hv3) (.inl rfl) (sv rfl (sv rfl (sv rfl (sv rfl (sv rfl (sv rfl (sv rfl (s_nil (l_seq (l_sub (s0 := ⟨T [(1, (.ptr _ _)), (4, (.ptr _ _)), (5, (.d _)), (10, (.d _)), (11, (.d _)), (12, (.d _))], G [((1, u1), some (.box 105 _)), ((4, u4), some (.box 50 _))]⟩) (sbr rfl rfl) ?_))))))))))))))))))
 refine l_draw rfl fun u8 hu8 => sp rfl rfl (sl rfl (gq rfl) rfl (sv rfl (sv rfl (gp rfl (gw_f rfl) (fun _ => rfl) (gf rfl (vl rfl (gq rfl) rfl) (gp rfl (gw_f rfl) (fun _ => rfl) (gf rfl (vl rfl (gq rfl) rfl) (gf rfl (fun w12 => (v_bin (gd_pos w12) (gd_pos w12) rfl)) (sd rfl (v_or rfl rfl (fun hc => gd_pos (not_t hc))) (sv rfl (gp rfl (gw_f rfl) (fun _ => rfl) (gf rfl (vl rfl (gq rfl) rfl) (gp rfl (gw_f rfl) (fun _ => rfl) (gf rfl (fun w16 => (v_loadG (gd_pos w16) G_hit rfl rfl)) (gp rfl (gw_f rfl) (fun _ => rfl) (gf rfl (vl rfl (gq rfl) rfl) (bs hz2 fun v4 hv4 hz2 => ?_)))))))))))))))))
 refine g_call _ (i64 v4) (gw_f rfl) (fun w19 => ⟨_, [(.d (.agg (eMap p1.Map_))), (di v1.Lane_)], _, _, (by simp only [gd_pos w19]; rfl), rfl, all2_refl, roads_long_ok _ _  _ (cond_t w19 hv4), (.inl rfl)⟩) ?_
 refine gf rfl (fun w20 => (v_bin (gd_pos w20) (gd_pos w20) rfl)) (sd rfl (v_or rfl rfl (fun hc => gd_pos (not_t hc))) (sv rfl (gp rfl (gw_f rfl) (fun _ => rfl) (gf rfl (vl rfl (gq rfl) rfl) (gf rfl (vb rfl rfl rfl) (sd rfl (v_or rfl rfl (fun hc => gd_pos (not_t hc))) (sv rfl (gp rfl (gw_f rfl) (fun _ => rfl) (gf rfl (vl rfl (gq rfl) rfl) (gp rfl (gw_f rfl) (fun _ => rfl) (gf rfl (vl rfl (gq rfl) rfl) (gf rfl (fun w28 => (v_bin (gd_pos w28) (gd_pos w28) rfl)) (sd rfl (v_or rfl rfl (fun hc => gd_pos (not_t hc))) (sv rfl (gp rfl (gw_f rfl) (fun _ => rfl) (gf rfl (vl rfl (gq rfl) rfl) (gf rfl (vb rfl rfl rfl) (sd rfl (v_or rfl rfl (fun hc => gd_pos (not_t hc))) (sv rfl (gp rfl (gw_f rfl) (fun _ => rfl) (gf rfl (vl rfl (gq rfl) rfl) (gf rfl (fun _ => rfl) (bs hz2 fun v5 hv5 hz2 => ?_)))))))))))))))))))))))
 refine g_call _ (bo v5) (gw_f rfl) (fun w35 => ⟨_, [(di v1.Limit), (di 0), (di v3.1)], _, _, (by simp only [gd_pos w35]; rfl), rfl, all2_refl, roads_within_ok _ _ _  _ (cond_t w35 hv5), (.inl rfl)⟩) ?_
 refine g_val _ (.d (bo (!v5))) rfl (gw_f rfl) (fun w36 => (by simp only [gd_pos w36]; rfl)) ?_
 refine sd rfl (v_or rfl rfl (fun hc => gd_pos (not_t hc))) (s_nil (cc rfl hz2 (fun c3 hz2 => ?_) (fun c3 hz2 => ?_)))
 refine l_seq (l_sub (s0 := ⟨T [], G []⟩) (sbr rfl rfl) ?_)
 refine l_reg fun u9 hu9 => sv rfl (s_nil (l_ret ?_))
 cases hz2
 obtain rfl := ez2 _ rfl
 refine ⟨nofun, awl_ret ?_⟩
 rw [Sum.elim_inr] at h
 cases h
 exact fin_ok (.inr rfl) (resD1 (res_t rfl) rf_d) (.refl _)
 refine l_skip (l_end (l_sub (s0 := ⟨T [(1, (.ptr _ _)), (10, (.d _)), (11, (.d _)), (12, (.d _))], G [((1, u1), some (.box 105 _))]⟩) (sbr rfl rfl) ?_))
 refine l_reg fun u10 hu10 => sv rfl (sv rfl (s_nil (l_nil ?_)))
 cases hz2
 exact ⟨rfl, (), (sbr rfl rfl)⟩
 refine l_exitN rfl ?_
 cases hz2
 obtain rfl := ez2 _ rfl
 refine ⟨nofun, awl_pop rfl (l_j ?_)⟩
 exact ⟨_, (), rfl, (sbr rfl rfl)⟩
 rintro _ ⟨y1, g1, rfl, q1⟩
 rw [Sum.elim_inl] at h
 refine l_sub q1 (lr (fun u11 hu11 => sv rfl (s_nil (l_ret ?_))))
 cases h
 exact fin_ok (.inr rfl) (resD1 (res_t rfl) rf_d) (.refl _)

noncomputable def choose_roads_check_numbers (v : Nat) (p1 : RoadsCheck) : Option Int :=
  cond (Nat.beq v 65) (roads_check_numbers p1) (cond (Nat.beq v 66) (roads_check_lanes p1) (cond (Nat.beq v 67) (roads_check_joints p1) (cond (Nat.beq v 68) (roads_check_signals p1) (cond (Nat.beq v 69) (roads_check_zones p1) (cond (Nat.beq v 70) (roads_check_works p1) (none))))))

theorem choose_roads_check_numbers_ok (v : Nat) (p1 : RoadsCheck) (r : Int) (h : choose_roads_check_numbers v p1 = some r) : PCall Tryz.prog v [(.agg [(i64 p1.Map_.Version), (.list (List.map eLane p1.Map_.Lanes)), (.list (List.map eZone p1.Map_.Zones)), (.list (List.map eSignal p1.Map_.Signals)), (.list (List.map eWork p1.Map_.Works))])] (i64 r) := by
  unfold choose_roads_check_numbers at h
  rcases disp_t h with ⟨rfl, h⟩ | ⟨_, h⟩
  · exact roads_check_numbers_ok _ r h
  rcases disp_t h with ⟨rfl, h⟩ | ⟨_, h⟩
  · exact roads_check_lanes_ok _ r h
  rcases disp_t h with ⟨rfl, h⟩ | ⟨_, h⟩
  · exact roads_check_joints_ok _ r h
  rcases disp_t h with ⟨rfl, h⟩ | ⟨_, h⟩
  · exact roads_check_signals_ok _ r h
  rcases disp_t h with ⟨rfl, h⟩ | ⟨_, h⟩
  · exact roads_check_zones_ok _ r h
  rcases disp_t h with ⟨rfl, h⟩ | ⟨_, h⟩
  · exact roads_check_works_ok _ r h
  cases h

noncomputable def roads_Check_l1 (p1 : Map) (x1 : Int) : Option (Stp Int (Sum Unit Int)) :=
  cond (decide (x1 < ([65, 66, 67, 68, 69, 70].length : Int))) ((geti [65, 66, 67, 68, 69, 70] x1).bind fun v1 => (choose_roads_check_numbers v1 (RoadsCheck.mk p1)).bind fun v2 => cond (v2 != 0) (some (.out (.inr v2))) (some (.go (w64 (x1 + 1))))) (some (.out (.inl ())))
noncomputable def roads_Check (p1 : Map) : Option Int :=
  thenS (loop (roads_Check_l1 p1) 0) (fun _ => some 0) (fun r => some r)

theorem roads_Check_ok (p1 : Map) (r : Int) (h : roads_Check p1 = some r) : PCall Tryz.prog 16 [(.agg (eMap p1))] (i64 r) := by
 refine l_call (fk Tryz.func16 Tryz.ntmps16 (fun r => if r == 1 then [1000] else []) (by with_unfolding_all rfl)) (nl rfl) ?_
 unfold roads_Check at h
 refine l_sub (s0 := ⟨T [(0, (.d _))], G []⟩) (sbr rfl rfl) ?_
 refine lr (fun u1 hu1 => sn rfl rfl (sv rfl (s_nil (l_seq (lr (fun u2 hu2 => s_val (dl eFn [65, 66, 67, 68, 69, 70]) rfl rfl (sd rfl (v_len rfl) (sv rfl (s_nil (js h fun z1 hz1 h => l_join (fun s => ∃ (y1 : Unit) (g1 : Unit), z1 = .inl y1 ∧ Sb ⟨T [], G []⟩ s) ?_ ?_))))))))))
 refine l_block (l_loop (roads_Check_l1 p1) (fun (x1 : Int) (g2 : Unit) => ⟨T [(1, (.ptr (1, u1) 0)), (6, (dl eFn [65, 66, 67, 68, 69, 70])), (7, (di ([65, 66, 67, 68, 69, 70].length : Int))), (8, (di x1))], G [((1, u1), some (.box 27 (dMap p1)))]⟩) 0 () _ hz1 (sbr rfl rfl) ?_)
 intro x1 g2 z2 hz2 ez2
 unfold roads_Check_l1 at hz2
 refine lr (fun u3 hu3 => sv rfl (s_nil (l_seq (cc rfl hz2 (fun c1 hz2 => ?_) (fun c1 hz2 => ?_)))))
 refine l_skip (l_seq (l_block (lr (fun u4 hu4 => bs hz2 fun v1 hv1 hz2 => sd rfl (v_idx rfl rfl hv1 rfl) (sd rfl (v_loadL rfl hv1 rfl) (sv rfl (s_nil (lr (fun u5 hu5 => sv rfl (sd rfl (v_loadG rfl G_hit rfl rfl) (sv rfl (bs hz2 fun v2 hv2 hz2 => s_call rfl rfl all2_refl (choose_roads_check_numbers_ok _ _  _ hv2) (.inl rfl) (sv rfl (s_nil (lr (fun u6 hu6 => sv rfl (sv rfl (s_nil (cc rfl hz2 (fun c2 hz2 => ?_) (fun c2 hz2 => ?_))))))))))))))))))))
 refine lr (fun u7 hu7 => sv rfl (sv rfl (s_nil (l_ret ?_))))
 cases hz2
 obtain rfl := ez2 _ rfl
 refine ⟨nofun, awl_ret ?_⟩
 rw [Sum.elim_inr] at h
 cases h
 exact fin_ok (.inr rfl) (resD1 (res_t rfl) rf_d) (.refl _)
 refine l_skip (l_end (l_reg fun u8 hu8 => sv rfl (sv rfl (s_nil (l_nil ?_)))))
 cases hz2
 exact ⟨rfl, (), (sbr rfl rfl)⟩
 refine l_exitN rfl ?_
 cases hz2
 obtain rfl := ez2 _ rfl
 refine ⟨nofun, awl_pop rfl (l_j ?_)⟩
 exact ⟨_, (), rfl, (sbr rfl rfl)⟩
 rintro _ ⟨y1, g1, rfl, q1⟩
 rw [Sum.elim_inl] at h
 refine l_sub q1 (lr (fun u9 hu9 => sv rfl (s_nil (l_ret ?_))))
 cases h
 exact fin_ok (.inr rfl) (resD1 (res_t rfl) rf_d) (.refl _)

noncomputable def slices_Index_int_int_l1 (p1 : (List Int)) (p2 : Int) (x1 : Int) : Option (Stp Int (Sum Unit Int)) :=
  cond (decide (x1 < (p1.length : Int))) ((geti p1 x1).bind fun v1 => cond (p2 == v1) (some (.out (.inr x1))) (some (.go (w64 (x1 + 1))))) (some (.out (.inl ())))
noncomputable def slices_Index_int_int (p1 : (List Int)) (p2 : Int) : Option Int :=
  thenS (loop (slices_Index_int_int_l1 p1 p2) 0) (fun _ => some (-1)) (fun r => some r)

theorem slices_Index_int_int_ok (p1 : (List Int)) (p2 : Int) (r : Int) (h : slices_Index_int_int p1 p2 = some r) : PCall Tryz.prog 224 [(.list (List.map eInt_i64 p1)), (i64 p2)] (i64 r) := by
 refine l_call (fk Tryz.func224 Tryz.ntmps224 m0 (by with_unfolding_all rfl)) (nl rfl) ?_
 unfold slices_Index_int_int at h
 refine l_sub (s0 := ⟨T [(0, (.d _)), (1, (.d _))], G []⟩) (sbr rfl rfl) ?_
 refine lr (fun u1 hu1 => sv rfl (s_nil (l_seq (lr (fun u2 hu2 => sv rfl (sd rfl (v_len rfl) (sv rfl (s_nil (js h fun z1 hz1 h => l_join (fun s => ∃ (y1 : Unit) (g1 : Unit), z1 = .inl y1 ∧ Sb ⟨T [], G []⟩ s) ?_ ?_)))))))))
 refine l_block (l_loop (slices_Index_int_int_l1 p1 p2) (fun (x1 : Int) (g2 : Unit) => ⟨T [(0, (dl eInt_i64 p1)), (1, (di p2)), (7, (di (p1.length : Int))), (8, (di x1))], G []⟩) 0 () _ hz1 (sbr rfl rfl) ?_)
 intro x1 g2 z2 hz2 ez2
 unfold slices_Index_int_int_l1 at hz2
 refine lr (fun u3 hu3 => sv rfl (s_nil (l_seq (cc rfl hz2 (fun c1 hz2 => ?_) (fun c1 hz2 => ?_)))))
 refine l_skip (l_seq (l_block (lr (fun u4 hu4 => sv rfl (sv rfl (s_nil (lr (fun u5 hu5 => sv rfl (sv rfl (sv rfl (bs hz2 fun v1 hv1 hz2 => sd rfl (v_idx rfl rfl hv1 rfl) (sd rfl (v_loadL rfl hv1 rfl) (sv rfl (s_nil (cc rfl hz2 (fun c2 hz2 => ?_) (fun c2 hz2 => ?_))))))))))))))))
 refine lr (fun u6 hu6 => sv rfl (sv rfl (s_nil (l_ret ?_))))
 cases hz2
 obtain rfl := ez2 _ rfl
 refine ⟨nofun, awl_ret ?_⟩
 rw [Sum.elim_inr] at h
 cases h
 exact fin_ok (.inr rfl) (resD1 (res_t rfl) rf_d) (.refl _)
 refine l_skip (l_end (l_reg fun u7 hu7 => sv rfl (sv rfl (s_nil (l_nil ?_)))))
 cases hz2
 exact ⟨rfl, (), (sbr rfl rfl)⟩
 refine l_exitN rfl ?_
 cases hz2
 obtain rfl := ez2 _ rfl
 refine ⟨nofun, awl_pop rfl (l_j ?_)⟩
 exact ⟨_, (), rfl, (sbr rfl rfl)⟩
 rintro _ ⟨y1, g1, rfl, q1⟩
 rw [Sum.elim_inl] at h
 refine l_sub q1 (lr (fun u8 hu8 => sv rfl (s_nil (l_ret ?_))))
 cases h
 exact fin_ok (.inr rfl) (resD1 (res_t rfl) rf_d) (.refl _)

noncomputable def slices_Contains_int_int (p1 : (List Int)) (p2 : Int) : Option Bool :=
  (slices_Index_int_int p1 p2).bind fun v1 => some (decide (v1 ≥ 0))

theorem slices_Contains_int_int_ok (p1 : (List Int)) (p2 : Int) (r : Bool) (h : slices_Contains_int_int p1 p2 = some r) : PCall Tryz.prog 136 [(.list (List.map eInt_i64 p1)), (i64 p2)] (bo r) := by
 refine l_call (fk Tryz.func136 Tryz.ntmps136 m0 (by with_unfolding_all rfl)) (nl rfl) ?_
 unfold slices_Contains_int_int at h
 refine l_sub (s0 := ⟨T [(0, (.d _)), (1, (.d _))], G []⟩) (sbr rfl rfl) ?_
 refine lr (fun u1 hu1 => sv rfl (s_nil (lr (fun u2 hu2 => sv rfl (sv rfl (bs h fun v1 hv1 h => s_call rfl rfl all2_refl (slices_Index_int_int_ok _ _  _ hv1) (.inl rfl) (sv rfl (sv rfl (s_nil (l_ret ?_))))))))))
 cases h
 exact fin_ok (.inr rfl) (resD1 (res_t rfl) rf_d) (.refl _)

noncomputable def roads_before_l1 (p1 : Map) (p2 : Int) (x1 : ((List Int) × Int)) : Option (Stp ((List Int) × Int) (List Int)) :=
  cond (decide (x1.2 < (p1.Lanes.length : Int))) ((geti p1.Lanes x1.2).bind fun v1 => (slices_Contains_int_int v1.Next p2).bind fun v2 => cond v2 ((appc x1.1 [x1.2]).bind fun v3 => some (.go (v3, (w64 (x1.2 + 1))))) (some (.go (x1.1, (w64 (x1.2 + 1)))))) (some (.out x1.1))
noncomputable def roads_before (p1 : Map) (p2 : Int) : Option (List Int) :=
  (loop (roads_before_l1 p1 p2) ([], 0)).bind fun y1 => some y1

theorem roads_before_ok (p1 : Map) (p2 : Int) (r : (List Int)) (h : roads_before p1 p2 = some r) : PCall Tryz.prog 135 [(.agg (eMap p1)), (i64 p2)] (.list (List.map eInt_i64 r)) := by
 refine l_call (fk Tryz.func135 Tryz.ntmps135 (fun r => if r == 6 then [1002] else []) (by with_unfolding_all rfl)) (nl rfl) ?_
 unfold roads_before at h
 refine l_sub (s0 := ⟨T [(0, (.d _)), (1, (.d _))], G []⟩) (sbr rfl rfl) ?_
 refine lr (fun u1 hu1 => sn rfl rfl (sv rfl (s_nil (lr (fun u2 hu2 => sv rfl (s_nil (l_seq (lr (fun u3 hu3 => sp rfl rfl (sl rfl G_hit rfl (sd rfl (v_len rfl) (sv rfl (s_nil (bs h fun y1 hy1 h => l_join (fun s => ∃ g1 : Nat, Sb ⟨T [(5, (oS y1 (23, g1)))], G [((23, g1), oB 3 1 eInt_i64 y1)]⟩ s) ?_ ?_))))))))))))))
 refine l_block (l_loop (roads_before_l1 p1 p2) (fun (x1 : ((List Int) × Int)) (g2 : Nat) => ⟨T [(1, (di p2)), (5, (oS x1.1 (23, g2))), (9, (dl eLane p1.Lanes)), (10, (di (p1.Lanes.length : Int))), (11, (di x1.2))], G [((23, g2), oB 3 1 eInt_i64 x1.1)]⟩) ([], 0) 0 _ hy1 (sb_of ⟨.of rfl, .of rfl, .of rfl, .of rfl, .of rfl, trivial⟩ (sbG_nil trivial)) ?_)
 intro x1 g2 z1 hz1 ez1
 unfold roads_before_l1 at hz1
 refine lr (fun u4 hu4 => sv rfl (s_nil (l_seq (cc rfl hz1 (fun c1 hz1 => ?_) (fun c1 hz1 => ?_)))))
 refine l_skip (l_seq (l_block (lr (fun u5 hu5 => sv rfl (bs hz1 fun v1 hv1 hz1 => sd rfl (v_idx rfl rfl hv1 rfl) (sd rfl (v_loadLG rfl hv1 rfl rfl) (sn rfl rfl (sv rfl (sst rfl G_hit (dLane v1) rfl (s_nil (lr (fun u6 hu6 => sp rfl rfl (sl rfl G_hit rfl (sv rfl (bs hz1 fun v2 hv2 hz1 => s_call rfl rfl all2_refl (slices_Contains_int_int_ok _ _  _ hv2) (.inl rfl) (s_nil (cc rfl hz1 (fun c2 hz1 => ?_) (fun c2 hz1 => ?_))))))))))))))))))
 refine l_reg fun u7 hu7 => s_val (oS x1.1 (23, g2)) rfl rfl (sv rfl (s_val (dl eInt_i64 [x1.2]) rfl rfl (bs hz1 fun v3 hv3 hz1 => s_appendO eInt_i64 (23, g2) x1.1 x1.2 [] _ (elems_list (fun _ => rfl)) rfl (gq rfl) hv3 (ss rfl (s_nil (l_end (l_sub (s0 := ⟨T [(1, (.d _)), (5, (.sl _)), (9, (.d _)), (10, (.d _)), (11, (.d _))], G [((23, u7), some _)]⟩) (sbr rfl rfl) ?_)))))))
 refine l_reg fun u8 hu8 => sv rfl (sv rfl (s_nil (l_nil ?_)))
 cases hz1
 exact ⟨rfl, u7, (sb_of ⟨.of rfl, (.of (oS_ne (appc_ne hv3)).symm), .of rfl, .of rfl, .of rfl, trivial⟩ (sbG_own G_hit trivial))⟩
 refine l_skip (l_end (l_reg fun u9 hu9 => sv rfl (sv rfl (s_nil (l_nil ?_)))))
 cases hz1
 exact ⟨rfl, g2, (sb_of ⟨.of rfl, .of rfl, .of rfl, .of rfl, .of rfl, trivial⟩ (sbG_oB (gq rfl) trivial))⟩
 refine l_exitN rfl ?_
 cases hz1
 obtain rfl := ez1 _ rfl
 refine ⟨nofun, awl_pop rfl (l_j ?_)⟩
 exact ⟨g2, (sb_of ⟨.of rfl, trivial⟩ (sbG_oB G_hit trivial))⟩
 rintro _ ⟨g1, q1⟩
 refine l_sub q1 (lr (fun u10 hu10 => s_val (oS y1 (23, g1)) rfl rfl (s_val (oS y1 (23, g1)) rfl rfl (s_nil (l_ret ?_)))))
 cases h
 exact fin_ok (.inr rfl) (resD1 (res_t rfl) (rf_oS G_hit)) oD_le

noncomputable def roads_CheckRoute_l1 (p1 : Map) (v7 : List Int) (x1 : (Int × Int)) : Option (Stp (Int × Int) (Sum Unit Int)) :=
  cond (decide (x1.2 < (v7.length : Int))) ((geti v7 x1.2).bind fun v8 => (geti p1.Lanes x1.1).bind fun v9 => (slices_Contains_int_int v9.Next v8).bind fun v10 => cond (!v10) (some (.out (.inr 13))) (some (.go (v8, (w64 (x1.2 + 1)))))) (some (.out (.inl ())))
noncomputable def roads_CheckRoute (p1 : Map) (p2 : (List Int)) : Option Int :=
  (roads_Check p1).bind fun v1 => cond (v1 != 0) (some v1) (((cond (!(((p2.length : Int) == 0) || (decide ((p2.length : Int) > 8)))) (geti p2 0) (some default))).bind fun v2 => ((cond (!((((p2.length : Int) == 0) || (decide ((p2.length : Int) > 8))) || (decide (v2 < 0)))) (geti p2 0) (some default))).bind fun v3 => ((cond (!(((((p2.length : Int) == 0) || (decide ((p2.length : Int) > 8))) || (decide (v2 < 0))) || (decide (v3 ≥ (p1.Lanes.length : Int))))) (geti p2 0) (some default))).bind fun v4 => ((cond (!(((((p2.length : Int) == 0) || (decide ((p2.length : Int) > 8))) || (decide (v2 < 0))) || (decide (v3 ≥ (p1.Lanes.length : Int))))) (roads_before p1 v4) (some default))).bind fun v5 => cond ((((((p2.length : Int) == 0) || (decide ((p2.length : Int) > 8))) || (decide (v2 < 0))) || (decide (v3 ≥ (p1.Lanes.length : Int)))) || (decide ((v5.length : Int) > 0))) (some 13) ((geti p2 0).bind fun v6 => (subl p2 1 (p2.length : Int)).bind fun v7 => thenS (loop (roads_CheckRoute_l1 p1 v7) (v6, 0)) (fun _ => some 0) (fun r => some r)))

theorem roads_CheckRoute_ok (p1 : Map) (p2 : (List Int)) (r : Int) (h : roads_CheckRoute p1 p2 = some r) : PCall Tryz.prog 36 [(.agg (eMap p1)), (.list (List.map eInt_i64 p2))] (i64 r) := by
 refine l_call (fk Tryz.func36 Tryz.ntmps36 m0 (by with_unfolding_all rfl)) (nl rfl) ?_
 unfold roads_CheckRoute at h
 refine l_sub (s0 := ⟨T [(0, (.d _)), (1, (.d _))], G []⟩) (sbr rfl rfl) ?_
 refine lr (fun u1 hu1 => sn rfl rfl (sv rfl (s_nil (l_seq (lr (fun u2 hu2 => sd rfl (v_loadG rfl G_hit rfl rfl) (bs h fun v1 hv1 h => s_call rfl rfl all2_refl (roads_Check_ok _  _ hv1) (.inl rfl) (sv rfl (s_nil (lr (fun u3 hu3 => sv rfl (sv rfl (s_nil (cc rfl h (fun c1 h => ?_) (fun c1 h => ?_)))))))))))))))
 refine lr (fun u4 hu4 => sv rfl (sv rfl (s_nil (l_ret ?_))))
 cases h
 exact fin_ok (.inr rfl) (resD1 (res_t rfl) rf_d) (.refl _)
 refine l_skip (l_seq (l_seq (l_draw rfl fun u5 hu5 => sv rfl (sd rfl (v_len rfl) (sv rfl (sv rfl (gf rfl (fun _ => rfl) (gf rfl (fun w2 => (v_len (gd_pos w2))) (gf rfl (vb rfl rfl rfl) (sd rfl (v_or rfl rfl (fun hc => gd_pos (not_t hc))) (sv rfl (gf rfl (fun _ => rfl) (bs h fun v2 hv2 h => gf rfl (fun w5 => (v_idx (gd_pos w5) rfl (cond_t w5 hv2) rfl)) (gf rfl (fun w6 => (v_loadL (gd_pos w6) (cond_t w6 hv2) rfl)) (gf rfl (vb rfl rfl rfl) (sd rfl (v_or rfl rfl (fun hc => gd_pos (not_t hc))) (sv rfl (gf rfl (fun _ => rfl) (bs h fun v3 hv3 h => gf rfl (fun w9 => (v_idx (gd_pos w9) rfl (cond_t w9 hv3) rfl)) (gf rfl (fun w10 => (v_loadL (gd_pos w10) (cond_t w10 hv3) rfl)) (gp rfl (gw_f rfl) (fun _ => rfl) (gf rfl (vl rfl G_hit rfl) (gf rfl (fun w13 => (v_len (gd_pos w13))) (gf rfl (fun w14 => (v_bin (gd_pos w14) (gd_pos w14) rfl)) (sd rfl (v_or rfl rfl (fun hc => gd_pos (not_t hc))) (sv rfl (gf rfl (fun w15 => (v_loadG rfl G_hit rfl rfl)) (gf rfl (fun _ => rfl) (bs h fun v4 hv4 h => gf rfl (fun w17 => (v_idx (gd_pos w17) rfl (cond_t w17 hv4) rfl)) (gf rfl (fun w18 => (v_loadL (gd_pos w18) (cond_t w18 hv4) rfl)) (bs h fun v5 hv5 h => ?_)))))))))))))))))))))))))))))))
 refine g_call _ (.list (List.map eInt_i64 v5)) (gw_f rfl) (fun w19 => ⟨_, [(.d (.agg (eMap p1))), (di v4)], _, _, (by simp only [gd_pos w19]; rfl), rfl, all2_refl, roads_before_ok _ _  _ (cond_t w19 hv5), (.inl rfl)⟩) ?_
 refine gf rfl (fun w20 => (v_len (gd_pos w20))) (gf rfl (vb rfl rfl rfl) (sd rfl (v_or rfl rfl (fun hc => gd_pos (not_t hc))) (s_nil (cc rfl h (fun c2 h => ?_) (fun c2 h => ?_)))))
 refine l_seq (l_sub (s0 := ⟨T [], G []⟩) (sbr rfl rfl) ?_)
 refine l_reg fun u6 hu6 => sv rfl (s_nil (l_ret ?_))
 cases h
 exact fin_ok (.inr rfl) (resD1 (res_t rfl) rf_d) (.refl _)
 refine l_skip (l_seq (l_sub (s0 := ⟨T [(1, (.d _)), (2, (.ptr _ _))], G [((2, u1), some (.box 27 _))]⟩) (sbr rfl rfl) ?_))
 refine l_reg fun u7 hu7 => sv rfl (bs h fun v6 hv6 h => sd rfl (v_idx rfl rfl hv6 rfl) (sd rfl (v_loadL rfl hv6 rfl) (sv rfl (s_nil (l_seq (lr (fun u8 hu8 => sv rfl (bs h fun v7 hv7 h => sd rfl (v_sub rfl (fun _ => rfl) (bd_x rfl) bd_end hv7) (sd rfl (v_len rfl) (sv rfl (s_nil (js h fun z1 hz1 h => l_join (fun s => ∃ (y1 : Unit) (g1 : Unit), z1 = .inl y1 ∧ Sb ⟨T [], G []⟩ s) ?_ ?_))))))))))))
 refine l_block (l_loop (roads_CheckRoute_l1 p1 v7) (fun (x1 : (Int × Int)) (g2 : Unit) => ⟨T [(2, (.ptr (2, u1) 0)), (6, (di x1.1)), (50, (dl eInt_i64 v7)), (51, (di (v7.length : Int))), (52, (di x1.2))], G [((2, u1), some (.box 27 (dMap p1)))]⟩) (v6, 0) () _ hz1 (sbr rfl rfl) ?_)
 intro x1 g2 z2 hz2 ez2
 unfold roads_CheckRoute_l1 at hz2
 refine lr (fun u9 hu9 => sv rfl (s_nil (l_seq (cc rfl hz2 (fun c3 hz2 => ?_) (fun c3 hz2 => ?_)))))
 refine l_skip (l_seq (l_block (lr (fun u10 hu10 => bs hz2 fun v8 hv8 hz2 => sd rfl (v_idx rfl rfl hv8 rfl) (sd rfl (v_loadL rfl hv8 rfl) (sv rfl (s_nil (l_seq (lr (fun u11 hu11 => sp rfl rfl (sl rfl G_hit rfl (sv rfl (bs hz2 fun v9 hv9 hz2 => sd rfl (v_idx rfl rfl hv9 rfl) (sv rfl (sd rfl (v_loadL rfl hv9 rfl) (sv rfl (bs hz2 fun v10 hv10 hz2 => s_call rfl rfl all2_refl (slices_Contains_int_int_ok _ _  _ hv10) (.inl rfl) (s_val (.d (bo (!v10))) rfl rfl (s_nil (cc rfl hz2 (fun c4 hz2 => ?_) (fun c4 hz2 => ?_)))))))))))))))))))))
 refine lr (fun u12 hu12 => sv rfl (s_nil (l_ret ?_)))
 cases hz2
 obtain rfl := ez2 _ rfl
 refine ⟨nofun, awl_ret ?_⟩
 rw [Sum.elim_inr] at h
 cases h
 exact fin_ok (.inr rfl) (resD1 (res_t rfl) rf_d) (.refl _)
 refine l_skip (l_reg fun u13 hu13 => sv rfl (sv rfl (s_nil (l_end (l_reg fun u14 hu14 => sv rfl (sv rfl (s_nil (l_nil ?_))))))))
 cases hz2
 exact ⟨rfl, (), (sbr rfl rfl)⟩
 refine l_exitN rfl ?_
 cases hz2
 obtain rfl := ez2 _ rfl
 refine ⟨nofun, awl_pop rfl (l_j ?_)⟩
 exact ⟨_, (), rfl, (sbr rfl rfl)⟩
 rintro _ ⟨y1, g1, rfl, q1⟩
 rw [Sum.elim_inl] at h
 refine l_sub q1 (lr (fun u15 hu15 => sv rfl (s_nil (l_ret ?_))))
 cases h
 exact fin_ok (.inr rfl) (resD1 (res_t rfl) rf_d) (.refl _)

noncomputable def roads_follow_l1 (p1 : Map) (p2 : (List Int)) (x1 : (Int × RoadsWay)) : Option (Stp (Int × RoadsWay) RoadsWay) :=
  cond (decide (x1.1 < (p2.length : Int))) ((geti p2 x1.1).bind fun v2 => (appc x1.2.starts [x1.2.length]).bind fun v3 => (roads_long p1 v2).bind fun v4 => some (.go ((w64 (x1.1 + 1)), (RoadsWay.mk x1.2.Map_ x1.2.lanes v3 (w64 (x1.2.length + v4)))))) (some (.out x1.2))
noncomputable def roads_follow (p1 : Map) (p2 : (List Int)) : Option RoadsWay :=
  (roads_CheckRoute p1 p2).bind fun v1 => cond (v1 != 0) (some (RoadsWay.mk (Map.mk 0 [] [] [] []) [] [] 0)) ((loop (roads_follow_l1 p1 p2) (0, (RoadsWay.mk p1 p2 [] 0))).bind fun y1 => some y1)

theorem roads_follow_ok (p1 : Map) (p2 : (List Int)) (r : RoadsWay) (h : roads_follow p1 p2 = some r) : PCall Tryz.prog 133 [(.agg (eMap p1)), (.list (List.map eInt_i64 p2))] (.agg (eRoadsWay r)) := by
 refine l_call (fk Tryz.func133 Tryz.ntmps133 (fun r => if r == 7 then [1004] else []) (by with_unfolding_all rfl)) (nl rfl) ?_
 unfold roads_follow at h
 refine l_sub (s0 := ⟨T [(0, (.d _)), (1, (.d _))], G []⟩) (sbr rfl rfl) ?_
 refine lr (fun u1 hu1 => sn rfl rfl (sn rfl rfl (s_nil (l_seq (lr (fun u2 hu2 => sd rfl (v_loadG rfl (gq rfl) rfl rfl) (sv rfl (bs h fun v1 hv1 h => s_call rfl rfl all2_refl (roads_CheckRoute_ok _ _  _ hv1) (.inl rfl) (sv rfl (s_nil (cc rfl h (fun c1 h => ?_) (fun c1 h => ?_))))))))))))
 refine lr (fun u3 hu3 => sv rfl (sst rfl G_hit [(di 0), (.d .nilS), (.d .nilS), (.d .nilS), (.d .nilS), (.d .nilS), (.d .nilS), (di 0)] rfl (s_nil (l_ret ?_))))
 cases h
 exact fin_ok (.inr rfl) (resD1 (res_cellG rfl G_hit (nl rfl) rfl) rf_d) (.agg (ca rfl (.cons ⟨DLe.nil, rfl⟩ (.cons ⟨DLe.nil, rfl⟩ (.cons ⟨DLe.nil, rfl⟩ (.cons ⟨DLe.nil, rfl⟩ (.cons ⟨DLe.nil, rfl⟩ (.cons ⟨DLe.nil, rfl⟩ (cz rfl)))))))))
 refine l_skip (lr (fun u4 hu4 => sd rfl (v_loadG rfl (gq rfl) rfl rfl) (sv rfl (sv rfl (sn rfl rfl (sst rfl G_hit ((dMap p1) ++ [(dl eInt_i64 p2), (.d .nilS), (di 0)]) rfl (s_nil (l_seq (lr (fun u5 hu5 => sv rfl (sd rfl (v_len rfl) (sv rfl (s_nil (bs h fun y1 hy1 h => l_join (fun s => ∃ g1 : Nat, Sb ⟨T [(4, (.ptr (4, u1) 0)), (5, (.ptr (5, u4) 0))], G [((4, u1), some (.box 169 [(di 0), (.d .nilS), (.d .nilS), (.d .nilS), (.d .nilS), (.d .nilS), (.d .nilS), (di 0)])), ((5, u4), some (.box 169 ((dRoadsWay y1).set 6 (oS y1.starts (27, g1))))), ((27, g1), oB 2 1 eInt_i64 y1.starts)]⟩ s) ?_ ?_))))))))))))))
 refine l_block (l_loop (roads_follow_l1 p1 p2) (fun (x1 : (Int × RoadsWay)) (g2 : Nat) => ⟨T [(2, (.ptr (2, u1) 0)), (4, (.ptr (4, u1) 0)), (5, (.ptr (5, u4) 0)), (16, (dl eInt_i64 p2)), (17, (di (p2.length : Int))), (18, (di x1.1))], G [((2, u1), some (.box 27 (dMap p1))), ((4, u1), some (.box 169 [(di 0), (.d .nilS), (.d .nilS), (.d .nilS), (.d .nilS), (.d .nilS), (.d .nilS), (di 0)])), ((5, u4), some (.box 169 ((dRoadsWay x1.2).set 6 (oS x1.2.starts (27, g2))))), ((27, g2), oB 2 1 eInt_i64 x1.2.starts)]⟩) (0, (RoadsWay.mk p1 p2 [] 0)) 0 _ hy1 (sb_of ⟨.of rfl, .of rfl, .of rfl, .of rfl, .of rfl, .of rfl, trivial⟩ (sg rfl (sg rfl (sbG_some G_hit (.of rfl) (sbG_nil trivial))))) ?_)
 intro x1 g2 z1 hz1 ez1
 unfold roads_follow_l1 at hz1
 refine lr (fun u6 hu6 => sv rfl (s_nil (l_seq (cc rfl hz1 (fun c2 hz1 => ?_) (fun c2 hz1 => ?_)))))
 refine l_skip (l_seq (l_block (lr (fun u7 hu7 => bs hz1 fun v2 hv2 hz1 => sd rfl (v_idx rfl rfl hv2 rfl) (sd rfl (v_loadL rfl hv2 rfl) (sv rfl (s_nil (lr (fun u8 hu8 => sp rfl rfl (s_val (oS x1.2.starts (27, g2)) rfl (v_load rfl (gq rfl) rfl) (sp rfl rfl (sl rfl (gq rfl) rfl (s_val (dl eInt_i64 [x1.2.length]) rfl rfl (bs hz1 fun v3 hv3 hz1 => s_appendO eInt_i64 (27, g2) x1.2.starts x1.2.length [] _ (elems_list (fun _ => rfl)) rfl (gq rfl) hv3 (sp rfl rfl (sst rfl (gq rfl) ((dRoadsWay x1.2).set 6 (.sl (27, u8))) rfl (s_nil (l_sub (s0 := ⟨T [(2, (.ptr _ _)), (4, (.ptr _ _)), (5, (.ptr _ _)), (7, (.d _)), (16, (.d _)), (17, (.d _)), (18, (.d _))], G [((2, u1), some (.box 27 _)), ((4, u1), some (.box 169 _)), ((5, u4), some (.box 169 _)), ((27, u8), some _)]⟩) (sbr rfl rfl) ?_))))))))))))))))))
 refine l_draw rfl fun u9 hu9 => sp rfl rfl (sl rfl (gq rfl) rfl (sd rfl (v_loadG rfl G_hit rfl rfl) (sv rfl (bs hz1 fun v4 hv4 hz1 => s_call rfl rfl all2_refl (roads_long_ok _ _  _ hv4) (.inl rfl) (sv rfl (sp rfl rfl (sst rfl (gq rfl) (((dRoadsWay x1.2).set 6 (.sl (27, u8))).set 7 (di (w64 (x1.2.length + v4)))) rfl (s_nil (l_end (l_reg fun u10 hu10 => sv rfl (sv rfl (s_nil (l_nil ?_)))))))))))))
 cases hz1
 exact ⟨rfl, u8, (sb_of ⟨.of rfl, .of rfl, .of rfl, .of rfl, .of rfl, .of rfl, trivial⟩ (sg rfl (sg rfl (sbG_some G_hit (.box (cv (cv (cv (cv (cv (cv (.cons (.of (oS_ne (appc_ne hv3)).symm) cw)))))))) (sbG_own (gq rfl) trivial)))))⟩
 refine l_exitN rfl ?_
 cases hz1
 obtain rfl := ez1 _ rfl
 refine ⟨nofun, awl_pop rfl (l_j ?_)⟩
 exact ⟨g2, (sb_of ⟨.of rfl, .of rfl, trivial⟩ (sg rfl (sg rfl (sbG_oB (gq rfl) trivial))))⟩
 rintro _ ⟨g1, q1⟩
 refine l_sub q1 (lr (fun u11 hu11 => s_val (mkAgg ((dRoadsWay y1).set 6 (oS y1.starts (27, g1)))) rfl (v_loadG rfl (gq rfl) rfl rfl) (s_store _ _ _ _ _ (cellsV_mkAgg _) rfl rfl G_hit (nl rfl) ((dRoadsWay y1).set 6 (oS y1.starts (27, g1))) rfl (s_nil (l_ret ?_)))))
 cases h
 exact fin_ok (.inr rfl) (resD1 (res_cellG rfl G_hit (nl rfl) rfl) (rf_mkAgg (rD (rD (rD (rD (rD (rD (rfL_cons (rf_oS (gq rfl)) (rD rfL_nil)))))))))) (.agg (ca rfl (ca rfl (ca rfl (ca rfl (ca rfl (ca rfl (.cons ⟨oD_le, rfl⟩ (cz rfl)))))))))

noncomputable def roads_Place_l1 (p3 : Int) (v1 : RoadsWay) (x1 : Int) : Option (Stp Int Int) :=
  (geti v1.starts x1).bind fun v3 => cond (decide (v3 > p3)) (some (.go (w64 (x1 - 1)))) (some (.out x1))
noncomputable def roads_Place (p1 : Map) (p2 : (List Int)) (p3 : Int) : Option (Int × Int × Bool) :=
  (roads_follow p1 p2).bind fun v1 => ((cond (!((v1.lanes.length : Int) == 0)) (roads_within p3 0 v1.length) (some default))).bind fun v2 => cond (((v1.lanes.length : Int) == 0) || (!v2)) (some (0, 0, false)) ((loop (roads_Place_l1 p3 v1) (w64 ((v1.lanes.length : Int) - 1))).bind fun y1 => (geti v1.lanes y1).bind fun v4 => (geti v1.starts y1).bind fun v5 => some (v4, (w64 (p3 - v5)), true))

theorem roads_Place_ok (p1 : Map) (p2 : (List Int)) (p3 : Int) (r : (Int × Int × Bool)) (h : roads_Place p1 p2 p3 = some r) : PCall Tryz.prog 34 [(.agg (eMap p1)), (.list (List.map eInt_i64 p2)), (i64 p3)] (.tup [(i64 r.1), (i64 r.2.1), (bo r.2.2)]) := by
 refine l_call (fk Tryz.func34 Tryz.ntmps34 m0 (by with_unfolding_all rfl)) (nl rfl) ?_
 unfold roads_Place at h
 refine l_sub (s0 := ⟨T [(0, (.d _)), (1, (.d _)), (2, (.d _))], G []⟩) (sbr rfl rfl) ?_
 refine lr (fun u1 hu1 => sn rfl rfl (sv rfl (sv rfl (sv rfl (s_nil (lr (fun u2 hu2 => sd rfl (v_loadG rfl G_hit rfl rfl) (sv rfl (bs h fun v1 hv1 h => s_call rfl rfl all2_refl (roads_follow_ok _ _  _ hv1) (.inl rfl) (sn rfl rfl (sst rfl G_hit (dRoadsWay v1) rfl (s_nil (l_seq (lr (fun u3 hu3 => sp rfl rfl (sl rfl G_hit rfl (sd rfl (v_len rfl) (sv rfl (sv rfl (gf rfl (fun _ => rfl) (gp rfl (gw_f rfl) (fun _ => rfl) (gf rfl (vl rfl G_hit rfl) (bs h fun v2 hv2 h => ?_)))))))))))))))))))))))
 refine g_call _ (bo v2) (gw_f rfl) (fun w4 => ⟨_, [(di p3), (di 0), (di v1.length)], _, _, (by simp only [gd_pos w4]; rfl), rfl, all2_refl, roads_within_ok _ _ _  _ (cond_t w4 hv2), (.inl rfl)⟩) ?_
 refine g_val _ (.d (bo (!v2))) rfl (gw_f rfl) (fun w5 => (by simp only [gd_pos w5]; rfl)) ?_
 refine sd rfl (v_or rfl rfl (fun hc => gd_pos (not_t hc))) (s_nil (cc rfl h (fun c1 h => ?_) (fun c1 h => ?_)))
 refine l_seq (l_sub (s0 := ⟨T [], G []⟩) (sbr rfl rfl) ?_)
 refine l_reg fun u4 hu4 => sv rfl (sv rfl (sv rfl (s_nil (l_ret ?_))))
 cases h
 exact fin_ok (.inr rfl) (resD3 (res_t rfl) (res_t rfl) (res_t rfl) rf_d rf_d rf_d) (.refl _)
 refine l_skip (l_seq (l_sub (s0 := ⟨T [(2, (.d _)), (9, (.ptr _ _))], G [((9, u2), some (.box 169 _))]⟩) (sbr rfl rfl) ?_))
 refine l_reg fun u5 hu5 => sp rfl rfl (sl rfl G_hit rfl (sd rfl (v_len rfl) (sv rfl (sv rfl (s_nil (l_seq (bs h fun y1 hy1 h => l_join (fun s => ∃ g1 : Unit, Sb ⟨T [(2, (di p3)), (9, (.ptr (9, u2) 0)), (10, (di y1))], G [((9, u2), some (.box 169 (dRoadsWay v1)))]⟩ s) ?_ ?_)))))))
 refine l_block (l_loop (roads_Place_l1 p3 v1) (fun (x1 : Int) (g2 : Unit) => ⟨T [(2, (di p3)), (9, (.ptr (9, u2) 0)), (10, (di x1))], G [((9, u2), some (.box 169 (dRoadsWay v1)))]⟩) (w64 ((v1.lanes.length : Int) - 1)) () _ hy1 (sbr rfl rfl) ?_)
 intro x1 g2 z1 hz1 ez1
 unfold roads_Place_l1 at hz1
 refine l_seq (lr (fun u6 hu6 => sp rfl rfl (sl rfl G_hit rfl (sv rfl (bs hz1 fun v3 hv3 hz1 => sd rfl (v_idx rfl rfl hv3 rfl) (sd rfl (v_loadL rfl hv3 rfl) (sv rfl (sv rfl (s_nil (cc rfl hz1 (fun c2 hz1 => ?_) (fun c2 hz1 => ?_)))))))))))
 refine l_skip (l_block (l_reg fun u7 hu7 => sv rfl (sv rfl (sv rfl (s_nil (l_end (l_nil ?_)))))))
 cases hz1
 exact ⟨rfl, (), (sbr rfl rfl)⟩
 refine l_exitN rfl ?_
 cases hz1
 obtain rfl := ez1 _ rfl
 refine ⟨nofun, awl_pop rfl (l_j ?_)⟩
 exact ⟨(), (sbr rfl rfl)⟩
 rintro _ ⟨g1, q1⟩
 refine l_sub q1 (l_seq (l_draw rfl fun u8 hu8 => sp rfl rfl (sl rfl G_hit rfl (sv rfl (bs h fun v4 hv4 h => sd rfl (v_idx rfl rfl hv4 rfl) (sd rfl (v_loadL rfl hv4 rfl) (sv rfl (sp rfl rfl (sl rfl G_hit rfl (sv rfl (bs h fun v5 hv5 h => sd rfl (v_idx rfl rfl hv5 rfl) (sd rfl (v_loadL rfl hv5 rfl) (sv rfl (sv rfl (sv rfl (sv rfl (s_nil (l_ret ?_))))))))))))))))))
 cases h
 exact fin_ok (.inr rfl) (resD3 (res_t rfl) (res_t rfl) (res_t rfl) rf_d rf_d rf_d) (.refl _)

noncomputable def roads_part_1_b (p1 : Part) (p2 : Int) : Option Bool :=
  some (p1.Lane_ == p2)

theorem roads_part_1_b_ok (p1 : Part) (p2 : Int) (r : Bool) (h : roads_part_1_b p1 p2 = some r) : PCall Tryz.prog 229 [(.agg (ePart p1)), (.bp [(i64 p2)] 0)] (bo r) := by
 refine l_call (fk Tryz.func229 Tryz.ntmps229 m0 (by with_unfolding_all rfl)) (nl rfl) ?_
 unfold roads_part_1_b at h
 refine l_sub (s0 := ⟨T [(0, (.d _)), (1, (.d _))], G []⟩) (sbr rfl rfl) ?_
 refine lr (fun u1 hu1 => sn rfl rfl (sv rfl (s_nil (lr (fun u2 hu2 => sp rfl rfl (sl rfl G_hit rfl (sv rfl (sv rfl (sv rfl (s_nil (l_ret ?_)))))))))))
 cases h
 exact fin_ok (.inr rfl) (resD1 (res_t rfl) rf_d) (.refl _)

noncomputable def slices_IndexFunc_Part_Part_roads_part_1b_l1 (p1 : (List Part)) (p2 : Int) (x1 : Int) : Option (Stp Int (Sum Unit Int)) :=
  cond (decide (x1 < (p1.length : Int))) ((geti p1 x1).bind fun v1 => (roads_part_1_b v1 p2).bind fun v2 => cond v2 (some (.out (.inr x1))) (some (.go (w64 (x1 + 1))))) (some (.out (.inl ())))
noncomputable def slices_IndexFunc_Part_Part_roads_part_1b (p1 : (List Part)) (p2 : Int) : Option Int :=
  thenS (loop (slices_IndexFunc_Part_Part_roads_part_1b_l1 p1 p2) 0) (fun _ => some (-1)) (fun r => some r)

theorem slices_IndexFunc_Part_Part_roads_part_1b_ok (p1 : (List Part)) (p2 : Int) (r : Int) (h : slices_IndexFunc_Part_Part_roads_part_1b p1 p2 = some r) : PCall Tryz.prog 228 [(.list (List.map ePart p1)), (.fn (.func 229) [] [(.bp [(i64 p2)] 0)])] (i64 r) := by
 refine l_call (fk Tryz.func228 Tryz.ntmps228 m0 (by with_unfolding_all rfl)) (nl rfl) ?_
 unfold slices_IndexFunc_Part_Part_roads_part_1b at h
 refine l_sub (s0 := ⟨T [(0, (.d _)), (1, (.d _))], G []⟩) (sbr rfl rfl) ?_
 refine lr (fun u1 hu1 => sv rfl (s_nil (l_seq (lr (fun u2 hu2 => sv rfl (sd rfl (v_len rfl) (sv rfl (s_nil (js h fun z1 hz1 h => l_join (fun s => ∃ (y1 : Unit) (g1 : Unit), z1 = .inl y1 ∧ Sb ⟨T [], G []⟩ s) ?_ ?_)))))))))
 refine l_block (l_loop (slices_IndexFunc_Part_Part_roads_part_1b_l1 p1 p2) (fun (x1 : Int) (g2 : Unit) => ⟨T [(0, (dl ePart p1)), (1, (.d (.fn (.func 229) [] [(.bp [(i64 p2)] 0)]))), (7, (di (p1.length : Int))), (8, (di x1))], G []⟩) 0 () _ hz1 (sbr rfl rfl) ?_)
 intro x1 g2 z2 hz2 ez2
 unfold slices_IndexFunc_Part_Part_roads_part_1b_l1 at hz2
 refine lr (fun u3 hu3 => sv rfl (s_nil (l_seq (cc rfl hz2 (fun c1 hz2 => ?_) (fun c1 hz2 => ?_)))))
 refine l_skip (l_seq (l_block (lr (fun u4 hu4 => sv rfl (sv rfl (s_nil (lr (fun u5 hu5 => sv rfl (sv rfl (sv rfl (bs hz2 fun v1 hv1 hz2 => sd rfl (v_idx rfl rfl hv1 rfl) (sd rfl (v_loadLG rfl hv1 rfl rfl) (bs hz2 fun v2 hv2 hz2 => s_call rfl rfl all2_refl (roads_part_1_b_ok _ _  _ hv2) (.inl rfl) (s_nil (cc rfl hz2 (fun c2 hz2 => ?_) (fun c2 hz2 => ?_))))))))))))))))
 refine lr (fun u6 hu6 => sv rfl (sv rfl (s_nil (l_ret ?_))))
 cases hz2
 obtain rfl := ez2 _ rfl
 refine ⟨nofun, awl_ret ?_⟩
 rw [Sum.elim_inr] at h
 cases h
 exact fin_ok (.inr rfl) (resD1 (res_t rfl) rf_d) (.refl _)
 refine l_skip (l_end (l_reg fun u7 hu7 => sv rfl (sv rfl (s_nil (l_nil ?_)))))
 cases hz2
 exact ⟨rfl, (), (sbr rfl rfl)⟩
 refine l_exitN rfl ?_
 cases hz2
 obtain rfl := ez2 _ rfl
 refine ⟨nofun, awl_pop rfl (l_j ?_)⟩
 exact ⟨_, (), rfl, (sbr rfl rfl)⟩
 rintro _ ⟨y1, g1, rfl, q1⟩
 rw [Sum.elim_inl] at h
 refine l_sub q1 (lr (fun u8 hu8 => sv rfl (s_nil (l_ret ?_))))
 cases h
 exact fin_ok (.inr rfl) (resD1 (res_t rfl) rf_d) (.refl _)

noncomputable def roads_part (p1 : Zone) (p2 : Int) : Option (Part × Bool) :=
  (slices_IndexFunc_Part_Part_roads_part_1b p1.Parts p2).bind fun v1 => cond (decide (v1 < 0)) (some ((Part.mk 0 0 0 0), false)) ((geti p1.Parts v1).bind fun v2 => some (v2, true))

theorem roads_part_ok (p1 : Zone) (p2 : Int) (r : (Part × Bool)) (h : roads_part p1 p2 = some r) : PCall Tryz.prog 147 [(.agg [(.list (List.map ePart p1.Parts)), (i64 p1.Signal_)]), (i64 p2)] (.tup [(.agg (ePart r.1)), (bo r.2)]) := by
 refine l_call (fk Tryz.func147 Tryz.ntmps147 m0 (by with_unfolding_all rfl)) (nl rfl) ?_
 unfold roads_part at h
 refine l_sub (s0 := ⟨T [(0, (.d _)), (1, (.d _))], G []⟩) (sbr rfl rfl) ?_
 refine lr (fun u1 hu1 => sn rfl rfl (sn rfl rfl (sn rfl rfl (sv rfl (s_nil (lr (fun u2 hu2 => sp rfl rfl (sl rfl (gq rfl) rfl (s_val (.fn _ _ _) rfl rfl (bs h fun v1 hv1 h => s_call rfl (rD (rfL_cons (rf_fn rfL_nil (rfL_cons (rf_ptr (gq rfl) (rD rfL_nil)) rfL_nil)) rfL_nil)) all2_refl (slices_IndexFunc_Part_Part_roads_part_1b_ok _ _  _ hv1) (.inr rfl) (sv rfl (s_nil (l_seq (lr (fun u3 hu3 => sv rfl (sv rfl (s_nil (cc rfl h (fun c1 h => ?_) (fun c1 h => ?_)))))))))))))))))))
 refine lr (fun u4 hu4 => sv rfl (sst rfl G_hit (zs 4) rfl (sv rfl (s_nil (l_ret ?_)))))
 cases h
 exact fin_ok (.inr rfl) (resD2 (res_cellG rfl G_hit (nl rfl) rfl) (res_t rfl) rf_d rf_d) (.refl _)
 refine l_skip (lr (fun u5 hu5 => sp rfl rfl (sl rfl (gq rfl) rfl (sv rfl (bs h fun v2 hv2 h => sd rfl (v_idx rfl rfl hv2 rfl) (sd rfl (v_loadLG rfl hv2 rfl rfl) (sst rfl G_hit (dPart v2) rfl (sv rfl (s_nil (l_ret ?_))))))))))
 cases h
 exact fin_ok (.inr rfl) (resD2 (res_cellG rfl G_hit (nl rfl) rfl) (res_t rfl) rf_d rf_d) (.refl _)

noncomputable def roads_closed_l1 (p1 : Map) (p2 : Zone) (v2 : (List Int)) (x1 : Int) : Option (Stp Int (Sum Unit Bool)) :=
  cond (decide (x1 < (v2.length : Int))) ((geti v2 x1).bind fun v3 => (roads_part p2 v3).bind fun v4 => ((cond (!(!v4.2)) (roads_long p1 v3) (some default))).bind fun v5 => cond ((!v4.2) || (v4.1.To != v5)) (some (.out (.inr false))) (some (.go (w64 (x1 + 1))))) (some (.out (.inl ())))
noncomputable def roads_closed (p1 : Map) (p2 : Zone) (p3 : Int) : Option Bool :=
  (roads_part p2 p3).bind fun v1 => cond ((!v1.2) || (v1.1.From != 0)) (some false) ((roads_before p1 p3).bind fun v2 => thenS (loop (roads_closed_l1 p1 p2 v2) 0) (fun _ => some true) (fun r => some r))

theorem roads_closed_ok (p1 : Map) (p2 : Zone) (p3 : Int) (r : Bool) (h : roads_closed p1 p2 p3 = some r) : PCall Tryz.prog 181 [(.agg (eMap p1)), (.agg [(.list (List.map ePart p2.Parts)), (i64 p2.Signal_)]), (i64 p3)] (bo r) := by
 refine l_call (fk Tryz.func181 Tryz.ntmps181 m0 (by with_unfolding_all rfl)) (nl rfl) ?_
 unfold roads_closed at h
 refine l_sub (s0 := ⟨T [(0, (.d _)), (1, (.d _)), (2, (.d _))], G []⟩) (sbr rfl rfl) ?_
 refine lr (fun u1 hu1 => sn rfl rfl (sn rfl rfl (sv rfl (s_nil (lr (fun u2 hu2 => sd rfl (v_loadG rfl G_hit rfl rfl) (sv rfl (bs h fun v1 hv1 h => s_call rfl rfl all2_refl (roads_part_ok _ _  _ hv1) (.inl rfl) (sv rfl (sv rfl (sv rfl (sn rfl rfl (sst rfl G_hit (dPart v1.1) rfl (sv rfl (s_nil (l_seq (lr (fun u3 hu3 => sv rfl (s_val (.d (bo (!v1.2))) rfl rfl (sv rfl (gp rfl (gw_f rfl) (fun _ => rfl) (gf rfl (vl rfl G_hit rfl) (gf rfl (vb rfl rfl rfl) (sd rfl (v_or rfl rfl (fun hc => gd_pos (not_t hc))) (s_nil (cc rfl h (fun c1 h => ?_) (fun c1 h => ?_)))))))))))))))))))))))))))
 refine l_seq (l_sub (s0 := ⟨T [], G []⟩) (sbr rfl rfl) ?_)
 refine l_reg fun u4 hu4 => sv rfl (s_nil (l_ret ?_))
 cases h
 exact fin_ok (.inr rfl) (resD1 (res_t rfl) rf_d) (.refl _)
 refine l_skip (l_seq (l_seq (l_sub (s0 := ⟨T [(2, (.d _)), (3, (.ptr _ _)), (4, (.ptr _ _))], G [((3, u1), some (.box 27 _)), ((4, u1), some (.box 45 _))]⟩) (sbr rfl rfl) ?_)))
 refine l_reg fun u5 hu5 => sd rfl (v_loadG rfl G_hit rfl rfl) (sv rfl (bs h fun v2 hv2 h => s_call rfl rfl all2_refl (roads_before_ok _ _  _ hv2) (.inl rfl) (sd rfl (v_len rfl) (sv rfl (s_nil (js h fun z1 hz1 h => l_join (fun s => ∃ (y1 : Unit) (g1 : Unit), z1 = .inl y1 ∧ Sb ⟨T [], G []⟩ s) ?_ ?_))))))
 refine l_block (l_loop (roads_closed_l1 p1 p2 v2) (fun (x1 : Int) (g2 : Unit) => ⟨T [(3, (.ptr (3, u1) 0)), (4, (.ptr (4, u1) 0)), (28, (dl eInt_i64 v2)), (29, (di (v2.length : Int))), (30, (di x1))], G [((3, u1), some (.box 27 (dMap p1))), ((4, u1), some (.box 45 [(dl ePart p2.Parts), (di p2.Signal_)]))]⟩) 0 () _ hz1 (sbr rfl rfl) ?_)
 intro x1 g2 z2 hz2 ez2
 unfold roads_closed_l1 at hz2
 refine lr (fun u6 hu6 => sv rfl (s_nil (l_seq (cc rfl hz2 (fun c2 hz2 => ?_) (fun c2 hz2 => ?_)))))
 refine l_skip (l_seq (l_block (lr (fun u7 hu7 => bs hz2 fun v3 hv3 hz2 => sd rfl (v_idx rfl rfl hv3 rfl) (sd rfl (v_loadL rfl hv3 rfl) (sv rfl (s_nil (lr (fun u8 hu8 => sd rfl (v_loadG rfl (gq rfl) rfl rfl) (sv rfl (bs hz2 fun v4 hv4 hz2 => s_call rfl rfl all2_refl (roads_part_ok _ _  _ hv4) (.inl rfl) (sv rfl (sv rfl (sv rfl (sn rfl rfl (sst rfl G_hit (dPart v4.1) rfl (sv rfl (s_nil (l_seq (l_draw rfl fun u9 hu9 => sv rfl (s_val (.d (bo (!v4.2))) rfl rfl (sv rfl (gp rfl (gw_f rfl) (fun _ => rfl) (gf rfl (vl rfl G_hit rfl) (gf rfl (fun w6 => (v_loadG rfl (gq rfl) rfl rfl)) (gf rfl (fun _ => rfl) (bs hz2 fun v5 hv5 hz2 => ?_)))))))))))))))))))))))))))
 refine g_call _ (i64 v5) (gw_f rfl) (fun w8 => ⟨_, [(.d (.agg (eMap p1))), (di v3)], _, _, (by simp only [gd_pos w8]; rfl), rfl, all2_refl, roads_long_ok _ _  _ (cond_t w8 hv5), (.inl rfl)⟩) ?_
 refine gf rfl (fun w9 => (v_bin (gd_pos w9) (gd_pos w9) rfl)) (sd rfl (v_or rfl rfl (fun hc => gd_pos (not_t hc))) (s_nil (cc rfl hz2 (fun c3 hz2 => ?_) (fun c3 hz2 => ?_))))
 refine l_seq (l_sub (s0 := ⟨T [], G []⟩) (sbr rfl rfl) ?_)
 refine l_reg fun u10 hu10 => sv rfl (s_nil (l_ret ?_))
 cases hz2
 obtain rfl := ez2 _ rfl
 refine ⟨nofun, awl_ret ?_⟩
 rw [Sum.elim_inr] at h
 cases h
 exact fin_ok (.inr rfl) (resD1 (res_t rfl) rf_d) (.refl _)
 refine l_skip (l_end (l_sub (s0 := ⟨T [(3, (.ptr _ _)), (4, (.ptr _ _)), (28, (.d _)), (29, (.d _)), (30, (.d _))], G [((3, u1), some (.box 27 _)), ((4, u1), some (.box 45 _))]⟩) (sbr rfl rfl) ?_))
 refine l_reg fun u11 hu11 => sv rfl (sv rfl (s_nil (l_nil ?_)))
 cases hz2
 exact ⟨rfl, (), (sbr rfl rfl)⟩
 refine l_exitN rfl ?_
 cases hz2
 obtain rfl := ez2 _ rfl
 refine ⟨nofun, awl_pop rfl (l_j ?_)⟩
 exact ⟨_, (), rfl, (sbr rfl rfl)⟩
 rintro _ ⟨y1, g1, rfl, q1⟩
 rw [Sum.elim_inl] at h
 refine l_sub q1 (lr (fun u12 hu12 => sv rfl (s_nil (l_ret ?_))))
 cases h
 exact fin_ok (.inr rfl) (resD1 (res_t rfl) rf_d) (.refl _)

noncomputable def roads_reach_l2 (x1 : (Int × (Int × Int × Int × Int × Int × Int × Int × Int × Int × Int × Int × Int))) (v1 : Lane) (x2 : (Int × (Int × Int × Int × Int × Int × Int × Int × Int × Int × Int × Int × Int))) : Option (Stp (Int × (Int × Int × Int × Int × Int × Int × Int × Int × Int × Int × Int × Int)) (Int × Int × Int × Int × Int × Int × Int × Int × Int × Int × Int × Int)) :=
  cond (decide (x2.1 < (v1.Next.length : Int))) ((geti v1.Next x2.1).bind fun v2 => (geti ([x2.2.1, x2.2.2.1, x2.2.2.2.1, x2.2.2.2.2.1, x2.2.2.2.2.2.1, x2.2.2.2.2.2.2.1, x2.2.2.2.2.2.2.2.1, x2.2.2.2.2.2.2.2.2.1, x2.2.2.2.2.2.2.2.2.2.1, x2.2.2.2.2.2.2.2.2.2.2.1, x2.2.2.2.2.2.2.2.2.2.2.2.1, x2.2.2.2.2.2.2.2.2.2.2.2.2] : List Int) x1.1).bind fun v3 => (geti ([x2.2.1, x2.2.2.1, x2.2.2.2.1, x2.2.2.2.2.1, x2.2.2.2.2.2.1, x2.2.2.2.2.2.2.1, x2.2.2.2.2.2.2.2.1, x2.2.2.2.2.2.2.2.2.1, x2.2.2.2.2.2.2.2.2.2.1, x2.2.2.2.2.2.2.2.2.2.2.1, x2.2.2.2.2.2.2.2.2.2.2.2.1, x2.2.2.2.2.2.2.2.2.2.2.2.2] : List Int) v2).bind fun v4 => (shlc .u32 1 (IntKind.wrap .u64 v2)).bind fun v5 => (geti ([x2.2.1, x2.2.2.1, x2.2.2.2.1, x2.2.2.2.2.1, x2.2.2.2.2.2.1, x2.2.2.2.2.2.2.1, x2.2.2.2.2.2.2.2.1, x2.2.2.2.2.2.2.2.2.1, x2.2.2.2.2.2.2.2.2.2.1, x2.2.2.2.2.2.2.2.2.2.2.1, x2.2.2.2.2.2.2.2.2.2.2.2.1, x2.2.2.2.2.2.2.2.2.2.2.2.2] : List Int) x1.1).bind fun v6 => (setc ([x2.2.1, x2.2.2.1, x2.2.2.2.1, x2.2.2.2.2.1, x2.2.2.2.2.2.1, x2.2.2.2.2.2.2.1, x2.2.2.2.2.2.2.2.1, x2.2.2.2.2.2.2.2.2.1, x2.2.2.2.2.2.2.2.2.2.1, x2.2.2.2.2.2.2.2.2.2.2.1, x2.2.2.2.2.2.2.2.2.2.2.2.1, x2.2.2.2.2.2.2.2.2.2.2.2.2] : List Int) x1.1 (IntKind.wrap .u32 (((BitVec.ofInt (IntKind.bits .u32) v3 |||(BitVec.ofInt (IntKind.bits .u32) (IntKind.wrap .u32 (((BitVec.ofInt (IntKind.bits .u32) v4 |||(BitVec.ofInt (IntKind.bits .u32) v5)).toNat : Nat))))).toNat : Nat)))).bind fun v7 => some (.go ((w64 (x2.1 + 1)), ((v7.getD 0 0), (v7.getD 1 0), (v7.getD 2 0), (v7.getD 3 0), (v7.getD 4 0), (v7.getD 5 0), (v7.getD 6 0), (v7.getD 7 0), (v7.getD 8 0), (v7.getD 9 0), (v7.getD 10 0), (v7.getD 11 0))))) (some (.out x2.2))
noncomputable def roads_reach_l1 (p1 : Map) (x1 : (Int × (Int × Int × Int × Int × Int × Int × Int × Int × Int × Int × Int × Int))) : Option (Stp (Int × (Int × Int × Int × Int × Int × Int × Int × Int × Int × Int × Int × Int)) (Int × Int × Int × Int × Int × Int × Int × Int × Int × Int × Int × Int)) :=
  cond (decide (x1.1 ≥ 0)) ((geti p1.Lanes x1.1).bind fun v1 => (loop (roads_reach_l2 x1 v1) (0, x1.2)).bind fun y2 => some (.go ((w64 (x1.1 - 1)), y2))) (some (.out x1.2))
noncomputable def roads_reach (p1 : Map) : Option (Int × Int × Int × Int × Int × Int × Int × Int × Int × Int × Int × Int) :=
  (loop (roads_reach_l1 p1) ((w64 ((p1.Lanes.length : Int) - 1)), (0, 0, 0, 0, 0, 0, 0, 0, 0, 0, 0, 0))).bind fun y1 => some y1

theorem roads_reach_ok (p1 : Map) (r : (Int × Int × Int × Int × Int × Int × Int × Int × Int × Int × Int × Int)) (h : roads_reach p1 = some r) : PCall Tryz.prog 244 [(.agg (eMap p1))] (.agg [(.v (.int .u32 r.1)), (.v (.int .u32 r.2.1)), (.v (.int .u32 r.2.2.1)), (.v (.int .u32 r.2.2.2.1)), (.v (.int .u32 r.2.2.2.2.1)), (.v (.int .u32 r.2.2.2.2.2.1)), (.v (.int .u32 r.2.2.2.2.2.2.1)), (.v (.int .u32 r.2.2.2.2.2.2.2.1)), (.v (.int .u32 r.2.2.2.2.2.2.2.2.1)), (.v (.int .u32 r.2.2.2.2.2.2.2.2.2.1)), (.v (.int .u32 r.2.2.2.2.2.2.2.2.2.2.1)), (.v (.int .u32 r.2.2.2.2.2.2.2.2.2.2.2))]) := by
 refine l_call (fk Tryz.func244 Tryz.ntmps244 m0 (by with_unfolding_all rfl)) (nl rfl) ?_
 unfold roads_reach at h
 refine l_sub (s0 := ⟨T [(0, (.d _))], G []⟩) (sbr rfl rfl) ?_
 refine lr (fun u1 hu1 => sn rfl rfl (sn rfl rfl (s_nil (lr (fun u2 hu2 => sn rfl rfl (s_nil (l_seq (lr (fun u3 hu3 => sp rfl rfl (sl rfl (gq rfl) rfl (sd rfl (v_len rfl) (sv rfl (sv rfl (s_nil (bs h fun y1 hy1 h => l_join (fun s => ∃ g1 : Unit, Sb ⟨T [(2, (.ptr (2, u1) 0)), (3, (.ptr (3, u2) 0))], G [((2, u1), some (.box 267 [(.d (.v (.int .u32 0))), (.d (.v (.int .u32 0))), (.d (.v (.int .u32 0))), (.d (.v (.int .u32 0))), (.d (.v (.int .u32 0))), (.d (.v (.int .u32 0))), (.d (.v (.int .u32 0))), (.d (.v (.int .u32 0))), (.d (.v (.int .u32 0))), (.d (.v (.int .u32 0))), (.d (.v (.int .u32 0))), (.d (.v (.int .u32 0)))])), ((3, u2), some (.box 267 [(.d (.v (.int .u32 y1.1))), (.d (.v (.int .u32 y1.2.1))), (.d (.v (.int .u32 y1.2.2.1))), (.d (.v (.int .u32 y1.2.2.2.1))), (.d (.v (.int .u32 y1.2.2.2.2.1))), (.d (.v (.int .u32 y1.2.2.2.2.2.1))), (.d (.v (.int .u32 y1.2.2.2.2.2.2.1))), (.d (.v (.int .u32 y1.2.2.2.2.2.2.2.1))), (.d (.v (.int .u32 y1.2.2.2.2.2.2.2.2.1))), (.d (.v (.int .u32 y1.2.2.2.2.2.2.2.2.2.1))), (.d (.v (.int .u32 y1.2.2.2.2.2.2.2.2.2.2.1))), (.d (.v (.int .u32 y1.2.2.2.2.2.2.2.2.2.2.2)))]))]⟩ s) ?_ ?_)))))))))))))))
 refine l_block (l_loop (roads_reach_l1 p1) (fun (x1 : (Int × (Int × Int × Int × Int × Int × Int × Int × Int × Int × Int × Int × Int))) (g2 : Unit) => ⟨T [(1, (.ptr (1, u1) 0)), (2, (.ptr (2, u1) 0)), (3, (.ptr (3, u2) 0)), (4, (di x1.1))], G [((1, u1), some (.box 27 (dMap p1))), ((2, u1), some (.box 267 [(.d (.v (.int .u32 0))), (.d (.v (.int .u32 0))), (.d (.v (.int .u32 0))), (.d (.v (.int .u32 0))), (.d (.v (.int .u32 0))), (.d (.v (.int .u32 0))), (.d (.v (.int .u32 0))), (.d (.v (.int .u32 0))), (.d (.v (.int .u32 0))), (.d (.v (.int .u32 0))), (.d (.v (.int .u32 0))), (.d (.v (.int .u32 0)))])), ((3, u2), some (.box 267 [(.d (.v (.int .u32 x1.2.1))), (.d (.v (.int .u32 x1.2.2.1))), (.d (.v (.int .u32 x1.2.2.2.1))), (.d (.v (.int .u32 x1.2.2.2.2.1))), (.d (.v (.int .u32 x1.2.2.2.2.2.1))), (.d (.v (.int .u32 x1.2.2.2.2.2.2.1))), (.d (.v (.int .u32 x1.2.2.2.2.2.2.2.1))), (.d (.v (.int .u32 x1.2.2.2.2.2.2.2.2.1))), (.d (.v (.int .u32 x1.2.2.2.2.2.2.2.2.2.1))), (.d (.v (.int .u32 x1.2.2.2.2.2.2.2.2.2.2.1))), (.d (.v (.int .u32 x1.2.2.2.2.2.2.2.2.2.2.2.1))), (.d (.v (.int .u32 x1.2.2.2.2.2.2.2.2.2.2.2.2)))]))]⟩) ((w64 ((p1.Lanes.length : Int) - 1)), (0, 0, 0, 0, 0, 0, 0, 0, 0, 0, 0, 0)) () _ hy1 (sbr rfl rfl) ?_)
 intro x1 g2 z1 hz1 ez1
 unfold roads_reach_l1 at hz1
 refine l_seq (lr (fun u4 hu4 => sv rfl (sv rfl (s_nil (cc rfl hz1 (fun c1 hz1 => ?_) (fun c1 hz1 => ?_))))))
 refine l_skip (l_seq (l_block (lr (fun u5 hu5 => sp rfl rfl (sl rfl G_hit rfl (sv rfl (bs hz1 fun v1 hv1 hz1 => sd rfl (v_idx rfl rfl hv1 rfl) (sv rfl (sd rfl (v_loadL rfl hv1 rfl) (sd rfl (v_len rfl) (sv rfl (s_nil (bs hz1 fun y2 hy2 hz1 => l_join (fun s => ∃ g3 : Unit, Sb ⟨T [(1, (.ptr (1, u1) 0)), (2, (.ptr (2, u1) 0)), (3, (.ptr (3, u2) 0)), (4, (di x1.1))], G [((1, u1), some (.box 27 (dMap p1))), ((2, u1), some (.box 267 [(.d (.v (.int .u32 0))), (.d (.v (.int .u32 0))), (.d (.v (.int .u32 0))), (.d (.v (.int .u32 0))), (.d (.v (.int .u32 0))), (.d (.v (.int .u32 0))), (.d (.v (.int .u32 0))), (.d (.v (.int .u32 0))), (.d (.v (.int .u32 0))), (.d (.v (.int .u32 0))), (.d (.v (.int .u32 0))), (.d (.v (.int .u32 0)))])), ((3, u2), some (.box 267 [(.d (.v (.int .u32 y2.1))), (.d (.v (.int .u32 y2.2.1))), (.d (.v (.int .u32 y2.2.2.1))), (.d (.v (.int .u32 y2.2.2.2.1))), (.d (.v (.int .u32 y2.2.2.2.2.1))), (.d (.v (.int .u32 y2.2.2.2.2.2.1))), (.d (.v (.int .u32 y2.2.2.2.2.2.2.1))), (.d (.v (.int .u32 y2.2.2.2.2.2.2.2.1))), (.d (.v (.int .u32 y2.2.2.2.2.2.2.2.2.1))), (.d (.v (.int .u32 y2.2.2.2.2.2.2.2.2.2.1))), (.d (.v (.int .u32 y2.2.2.2.2.2.2.2.2.2.2.1))), (.d (.v (.int .u32 y2.2.2.2.2.2.2.2.2.2.2.2)))]))]⟩ s) ?_ ?_)))))))))))))
 refine l_block (l_loop (roads_reach_l2 x1 v1) (fun (x2 : (Int × (Int × Int × Int × Int × Int × Int × Int × Int × Int × Int × Int × Int))) (g4 : Unit) => ⟨T [(1, (.ptr (1, u1) 0)), (2, (.ptr (2, u1) 0)), (3, (.ptr (3, u2) 0)), (4, (di x1.1)), (20, (dl eInt_i64 v1.Next)), (21, (di (v1.Next.length : Int))), (22, (di x2.1))], G [((1, u1), some (.box 27 (dMap p1))), ((2, u1), some (.box 267 [(.d (.v (.int .u32 0))), (.d (.v (.int .u32 0))), (.d (.v (.int .u32 0))), (.d (.v (.int .u32 0))), (.d (.v (.int .u32 0))), (.d (.v (.int .u32 0))), (.d (.v (.int .u32 0))), (.d (.v (.int .u32 0))), (.d (.v (.int .u32 0))), (.d (.v (.int .u32 0))), (.d (.v (.int .u32 0))), (.d (.v (.int .u32 0)))])), ((3, u2), some (.box 267 [(.d (.v (.int .u32 x2.2.1))), (.d (.v (.int .u32 x2.2.2.1))), (.d (.v (.int .u32 x2.2.2.2.1))), (.d (.v (.int .u32 x2.2.2.2.2.1))), (.d (.v (.int .u32 x2.2.2.2.2.2.1))), (.d (.v (.int .u32 x2.2.2.2.2.2.2.1))), (.d (.v (.int .u32 x2.2.2.2.2.2.2.2.1))), (.d (.v (.int .u32 x2.2.2.2.2.2.2.2.2.1))), (.d (.v (.int .u32 x2.2.2.2.2.2.2.2.2.2.1))), (.d (.v (.int .u32 x2.2.2.2.2.2.2.2.2.2.2.1))), (.d (.v (.int .u32 x2.2.2.2.2.2.2.2.2.2.2.2.1))), (.d (.v (.int .u32 x2.2.2.2.2.2.2.2.2.2.2.2.2)))]))]⟩) (0, x1.2) () _ hy2 (sbr rfl rfl) ?_)
 intro x2 g4 z2 hz2 ez2
 unfold roads_reach_l2 at hz2
 refine lr (fun u6 hu6 => sv rfl (s_nil (l_seq (cc rfl hz2 (fun c2 hz2 => ?_) (fun c2 hz2 => ?_)))))
 refine l_skip (l_seq (l_block (lr (fun u7 hu7 => bs hz2 fun v2 hv2 hz2 => sd rfl (v_idx rfl rfl hv2 rfl) (sd rfl (v_loadL rfl hv2 rfl) (sv rfl (s_nil (l_draw rfl fun u8 hu8 => sv rfl (bs hz2 fun v3 hv3 hz2 => sp rfl (v_idxPV rfl rfl hv3 rfl) (sd rfl (v_loadP1 (f := fun x => (.v (.int .u32 x))) rfl (gq rfl) hv3 rfl) (sv rfl (bs hz2 fun v4 hv4 hz2 => sp rfl (v_idxPV rfl rfl hv4 rfl) (sd rfl (v_loadP1 (f := fun x => (.v (.int .u32 x))) rfl (gq rfl) hv4 rfl) (sv rfl (sv rfl (bs hz2 fun v5 hv5 hz2 => sd rfl (v_shl rfl rfl hv5) (sv rfl (sv rfl (bs hz2 fun v6 hv6 hz2 => sp rfl (v_idxPV rfl rfl hv6 rfl) (bs hz2 fun v7 hv7 hz2 => s_store _ _ _ _ _ rfl rfl rfl (gq rfl) (pv_le (xs := ([x2.2.1, x2.2.2.1, x2.2.2.2.1, x2.2.2.2.2.1, x2.2.2.2.2.2.1, x2.2.2.2.2.2.2.1, x2.2.2.2.2.2.2.2.1, x2.2.2.2.2.2.2.2.2.1, x2.2.2.2.2.2.2.2.2.2.1, x2.2.2.2.2.2.2.2.2.2.2.1, x2.2.2.2.2.2.2.2.2.2.2.2.1, x2.2.2.2.2.2.2.2.2.2.2.2.2] : List Int)) hv7 rfl) [(.d (.v (.int .u32 (v7.getD 0 0)))), (.d (.v (.int .u32 (v7.getD 1 0)))), (.d (.v (.int .u32 (v7.getD 2 0)))), (.d (.v (.int .u32 (v7.getD 3 0)))), (.d (.v (.int .u32 (v7.getD 4 0)))), (.d (.v (.int .u32 (v7.getD 5 0)))), (.d (.v (.int .u32 (v7.getD 6 0)))), (.d (.v (.int .u32 (v7.getD 7 0)))), (.d (.v (.int .u32 (v7.getD 8 0)))), (.d (.v (.int .u32 (v7.getD 9 0)))), (.d (.v (.int .u32 (v7.getD 10 0)))), (.d (.v (.int .u32 (v7.getD 11 0))))] (pv_set (fun x => (.v (.int .u32 x))) 0 hv7) (s_nil (l_end (l_sub (s0 := ⟨T [(1, (.ptr _ _)), (2, (.ptr _ _)), (3, (.ptr _ _)), (4, (.d _)), (20, (.d _)), (21, (.d _)), (22, (.d _))], G [((1, u1), some (.box 27 _)), ((2, u1), some (.box 267 _)), ((3, u2), some (.box 267 _))]⟩) (sbr rfl rfl) ?_)))))))))))))))))))))))
 refine l_reg fun u9 hu9 => sv rfl (sv rfl (s_nil (l_nil ?_)))
 cases hz2
 exact ⟨rfl, (), (sbr rfl rfl)⟩
 refine l_exitN rfl ?_
 cases hz2
 obtain rfl := ez2 _ rfl
 refine ⟨nofun, awl_pop rfl (l_j ?_)⟩
 exact ⟨(), (sbr rfl rfl)⟩
 rintro _ ⟨g3, q1⟩
 refine l_end (l_sub q1 (l_reg fun u10 hu10 => sv rfl (sv rfl (sv rfl (s_nil (l_nil ?_))))))
 cases hz1
 exact ⟨rfl, (), (sbr rfl rfl)⟩
 refine l_exitN rfl ?_
 cases hz1
 obtain rfl := ez1 _ rfl
 refine ⟨nofun, awl_pop rfl (l_j ?_)⟩
 exact ⟨(), (sbr rfl rfl)⟩
 rintro _ ⟨g1, q2⟩
 refine l_sub q2 (lr (fun u11 hu11 => sd rfl (v_loadG rfl (gq rfl) rfl rfl) (sst rfl G_hit [(.d (.v (.int .u32 y1.1))), (.d (.v (.int .u32 y1.2.1))), (.d (.v (.int .u32 y1.2.2.1))), (.d (.v (.int .u32 y1.2.2.2.1))), (.d (.v (.int .u32 y1.2.2.2.2.1))), (.d (.v (.int .u32 y1.2.2.2.2.2.1))), (.d (.v (.int .u32 y1.2.2.2.2.2.2.1))), (.d (.v (.int .u32 y1.2.2.2.2.2.2.2.1))), (.d (.v (.int .u32 y1.2.2.2.2.2.2.2.2.1))), (.d (.v (.int .u32 y1.2.2.2.2.2.2.2.2.2.1))), (.d (.v (.int .u32 y1.2.2.2.2.2.2.2.2.2.2.1))), (.d (.v (.int .u32 y1.2.2.2.2.2.2.2.2.2.2.2)))] rfl (s_nil (l_ret ?_)))))
 cases h
 exact fin_ok (.inr rfl) (resD1 (res_cellG rfl G_hit (nl rfl) rfl) rf_d) (.refl _)

noncomputable def roads_set_has (p1 : Int) (p2 : Int) : Option Bool :=
  (shrc .u32 p1 (IntKind.wrap .u64 p2)).bind fun v1 => some ((IntKind.wrap .u32 (((BitVec.ofInt (IntKind.bits .u32) v1 &&&(BitVec.ofInt (IntKind.bits .u32) 1)).toNat : Nat))) == 1)

theorem roads_set_has_ok (p1 : Int) (p2 : Int) (r : Bool) (h : roads_set_has p1 p2 = some r) : PCall Tryz.prog 247 [(.v (.int .u32 p1)), (i64 p2)] (bo r) := by
 refine l_call (fk Tryz.func247 Tryz.ntmps247 m0 (by with_unfolding_all rfl)) (nl rfl) ?_
 unfold roads_set_has at h
 refine l_sub (s0 := ⟨T [(0, (.d _)), (1, (.d _))], G []⟩) (sbr rfl rfl) ?_
 refine lr (fun u1 hu1 => sv rfl (s_nil (lr (fun u2 hu2 => sv rfl (sv rfl (sv rfl (bs h fun v1 hv1 h => sd rfl (v_shr rfl rfl hv1) (sv rfl (sv rfl (sv rfl (s_nil (l_ret ?_))))))))))))
 cases h
 exact fin_ok (.inr rfl) (resD1 (res_t rfl) rf_d) (.refl _)

noncomputable def roads_entry_1_o_o (p1 : Part) (p2 : (Int × Int × Int × Int × Int × Int × Int × Int × Int × Int × Int × Int)) (p3 : Int) : Option Bool :=
  (geti ([p2.1, p2.2.1, p2.2.2.1, p2.2.2.2.1, p2.2.2.2.2.1, p2.2.2.2.2.2.1, p2.2.2.2.2.2.2.1, p2.2.2.2.2.2.2.2.1, p2.2.2.2.2.2.2.2.2.1, p2.2.2.2.2.2.2.2.2.2.1, p2.2.2.2.2.2.2.2.2.2.2.1, p2.2.2.2.2.2.2.2.2.2.2.2] : List Int) p1.Lane_).bind fun v1 => (roads_set_has v1 p3).bind fun v2 => some v2

theorem roads_entry_1_o_o_ok (p1 : Part) (p2 : (Int × Int × Int × Int × Int × Int × Int × Int × Int × Int × Int × Int)) (p3 : Int) (r : Bool) (h : roads_entry_1_o_o p1 p2 p3 = some r) : MCall Tryz.prog 246 [(.d (.agg (ePart p1))), (.ptr (900000, 0) 0), (.ptr (900001, 0) 0)] [(.box 267 [(.d (.v (.int .u32 p2.1))), (.d (.v (.int .u32 p2.2.1))), (.d (.v (.int .u32 p2.2.2.1))), (.d (.v (.int .u32 p2.2.2.2.1))), (.d (.v (.int .u32 p2.2.2.2.2.1))), (.d (.v (.int .u32 p2.2.2.2.2.2.1))), (.d (.v (.int .u32 p2.2.2.2.2.2.2.1))), (.d (.v (.int .u32 p2.2.2.2.2.2.2.2.1))), (.d (.v (.int .u32 p2.2.2.2.2.2.2.2.2.1))), (.d (.v (.int .u32 p2.2.2.2.2.2.2.2.2.2.1))), (.d (.v (.int .u32 p2.2.2.2.2.2.2.2.2.2.2.1))), (.d (.v (.int .u32 p2.2.2.2.2.2.2.2.2.2.2.2)))]), (.box 3 [(di p3)])] (.d (bo r)) [some (.box 267 [(.d (.v (.int .u32 p2.1))), (.d (.v (.int .u32 p2.2.1))), (.d (.v (.int .u32 p2.2.2.1))), (.d (.v (.int .u32 p2.2.2.2.1))), (.d (.v (.int .u32 p2.2.2.2.2.1))), (.d (.v (.int .u32 p2.2.2.2.2.2.1))), (.d (.v (.int .u32 p2.2.2.2.2.2.2.1))), (.d (.v (.int .u32 p2.2.2.2.2.2.2.2.1))), (.d (.v (.int .u32 p2.2.2.2.2.2.2.2.2.1))), (.d (.v (.int .u32 p2.2.2.2.2.2.2.2.2.2.1))), (.d (.v (.int .u32 p2.2.2.2.2.2.2.2.2.2.2.1))), (.d (.v (.int .u32 p2.2.2.2.2.2.2.2.2.2.2.2)))]), some (.box 3 [(di p3)])] [] := by
 refine m_callF (fk Tryz.func246 Tryz.ntmps246 m0 (by with_unfolding_all rfl)) rfl (nl rfl) ?_
 unfold roads_entry_1_o_o at h
 refine l_sub (s0 := ⟨T [(0, (.d _)), (1, (.ptr _ _)), (2, (.ptr _ _))], G [((900000, 0), some (.box 267 _)), ((900001, 0), some (.box 3 _))]⟩) (sbr rfl rfl) ?_
 refine lr (fun u1 hu1 => sn rfl rfl (sv rfl (s_nil (l_seq (l_draw rfl fun u2 hu2 => sp rfl rfl (sl rfl G_hit rfl (bs h fun v1 hv1 h => sp rfl (v_idxPV rfl rfl hv1 rfl) (sd rfl (v_loadP1 (f := fun x => (.v (.int .u32 x))) rfl (gq rfl) hv1 rfl) (sl rfl (gq rfl) rfl (bs h fun v2 hv2 h => s_call rfl rfl all2_refl (roads_set_has_ok _ _  _ hv2) (.inl rfl) (sv rfl (s_nil (l_ret ?_)))))))))))))
 cases h
 exact fin_mf (.inr rfl) [] (resDF1 (res_t rfl) rf_d) (.refl _) ⟨⟨_, _, _, (gq rfl), old_notin_nil, rfl, all2_d, rfl⟩, ⟨_, _, _, (gq rfl), old_notin_nil, rfl, all2_d, rfl⟩, trivial⟩

noncomputable def slices_IndexFunc_Part_Part_roads_entry_1oo_l1 (p1 : (List Part)) (p2 : (Int × Int × Int × Int × Int × Int × Int × Int × Int × Int × Int × Int)) (p3 : Int) (x1 : Int) : Option (Stp Int (Sum Unit Int)) :=
  cond (decide (x1 < (p1.length : Int))) ((geti p1 x1).bind fun v1 => (roads_entry_1_o_o v1 p2 p3).bind fun v2 => cond v2 (some (.out (.inr x1))) (some (.go (w64 (x1 + 1))))) (some (.out (.inl ())))
noncomputable def slices_IndexFunc_Part_Part_roads_entry_1oo (p1 : (List Part)) (p2 : (Int × Int × Int × Int × Int × Int × Int × Int × Int × Int × Int × Int)) (p3 : Int) : Option Int :=
  thenS (loop (slices_IndexFunc_Part_Part_roads_entry_1oo_l1 p1 p2 p3) 0) (fun _ => some (-1)) (fun r => some r)

theorem slices_IndexFunc_Part_Part_roads_entry_1oo_ok (p1 : (List Part)) (p2 : (Int × Int × Int × Int × Int × Int × Int × Int × Int × Int × Int × Int)) (p3 : Int) (r : Int) (h : slices_IndexFunc_Part_Part_roads_entry_1oo p1 p2 p3 = some r) : MCall Tryz.prog 228 [(dl ePart p1), (.fn (.func 246) [] [(.ptr (900000, 0) 0), (.ptr (900001, 0) 0)])] [(.box 267 [(.d (.v (.int .u32 p2.1))), (.d (.v (.int .u32 p2.2.1))), (.d (.v (.int .u32 p2.2.2.1))), (.d (.v (.int .u32 p2.2.2.2.1))), (.d (.v (.int .u32 p2.2.2.2.2.1))), (.d (.v (.int .u32 p2.2.2.2.2.2.1))), (.d (.v (.int .u32 p2.2.2.2.2.2.2.1))), (.d (.v (.int .u32 p2.2.2.2.2.2.2.2.1))), (.d (.v (.int .u32 p2.2.2.2.2.2.2.2.2.1))), (.d (.v (.int .u32 p2.2.2.2.2.2.2.2.2.2.1))), (.d (.v (.int .u32 p2.2.2.2.2.2.2.2.2.2.2.1))), (.d (.v (.int .u32 p2.2.2.2.2.2.2.2.2.2.2.2)))]), (.box 3 [(di p3)])] (di r) [some (.box 267 [(.d (.v (.int .u32 p2.1))), (.d (.v (.int .u32 p2.2.1))), (.d (.v (.int .u32 p2.2.2.1))), (.d (.v (.int .u32 p2.2.2.2.1))), (.d (.v (.int .u32 p2.2.2.2.2.1))), (.d (.v (.int .u32 p2.2.2.2.2.2.1))), (.d (.v (.int .u32 p2.2.2.2.2.2.2.1))), (.d (.v (.int .u32 p2.2.2.2.2.2.2.2.1))), (.d (.v (.int .u32 p2.2.2.2.2.2.2.2.2.1))), (.d (.v (.int .u32 p2.2.2.2.2.2.2.2.2.2.1))), (.d (.v (.int .u32 p2.2.2.2.2.2.2.2.2.2.2.1))), (.d (.v (.int .u32 p2.2.2.2.2.2.2.2.2.2.2.2)))]), some (.box 3 [(di p3)])] [] := by
 refine m_callF (fk Tryz.func228 Tryz.ntmps228 (fun r => if r == 4 then [1004005] else []) (by with_unfolding_all rfl)) rfl (nl rfl) ?_
 unfold slices_IndexFunc_Part_Part_roads_entry_1oo at h
 refine l_sub (s0 := ⟨T [(0, (.d _)), (1, (.fn _ _ _))], G [((900000, 0), some (.box 267 _)), ((900001, 0), some (.box 3 _))]⟩) (sbr rfl rfl) ?_
 refine lr (fun u1 hu1 => sv rfl (s_nil (l_seq (lr (fun u2 hu2 => sv rfl (sd rfl (v_len rfl) (sv rfl (s_nil (js h fun z1 hz1 h => l_join (fun s => ∃ (y1 : Unit) (g1 : Unit), z1 = .inl y1 ∧ Sb ⟨T [(1, (.fn (.func 246) [] [(.ptr (900000, 0) 0), (.ptr (900001, 0) 0)]))], G [((900000, 0), some (.box 267 [(.d (.v (.int .u32 p2.1))), (.d (.v (.int .u32 p2.2.1))), (.d (.v (.int .u32 p2.2.2.1))), (.d (.v (.int .u32 p2.2.2.2.1))), (.d (.v (.int .u32 p2.2.2.2.2.1))), (.d (.v (.int .u32 p2.2.2.2.2.2.1))), (.d (.v (.int .u32 p2.2.2.2.2.2.2.1))), (.d (.v (.int .u32 p2.2.2.2.2.2.2.2.1))), (.d (.v (.int .u32 p2.2.2.2.2.2.2.2.2.1))), (.d (.v (.int .u32 p2.2.2.2.2.2.2.2.2.2.1))), (.d (.v (.int .u32 p2.2.2.2.2.2.2.2.2.2.2.1))), (.d (.v (.int .u32 p2.2.2.2.2.2.2.2.2.2.2.2)))])), ((900001, 0), some (.box 3 [(di p3)]))]⟩ s) ?_ ?_)))))))))
 refine l_block (l_loop (slices_IndexFunc_Part_Part_roads_entry_1oo_l1 p1 p2 p3) (fun (x1 : Int) (g2 : Unit) => ⟨T [(0, (dl ePart p1)), (1, (.fn (.func 246) [] [(.ptr (900000, 0) 0), (.ptr (900001, 0) 0)])), (7, (di (p1.length : Int))), (8, (di x1))], G [((900000, 0), some (.box 267 [(.d (.v (.int .u32 p2.1))), (.d (.v (.int .u32 p2.2.1))), (.d (.v (.int .u32 p2.2.2.1))), (.d (.v (.int .u32 p2.2.2.2.1))), (.d (.v (.int .u32 p2.2.2.2.2.1))), (.d (.v (.int .u32 p2.2.2.2.2.2.1))), (.d (.v (.int .u32 p2.2.2.2.2.2.2.1))), (.d (.v (.int .u32 p2.2.2.2.2.2.2.2.1))), (.d (.v (.int .u32 p2.2.2.2.2.2.2.2.2.1))), (.d (.v (.int .u32 p2.2.2.2.2.2.2.2.2.2.1))), (.d (.v (.int .u32 p2.2.2.2.2.2.2.2.2.2.2.1))), (.d (.v (.int .u32 p2.2.2.2.2.2.2.2.2.2.2.2)))])), ((900001, 0), some (.box 3 [(di p3)]))]⟩) 0 () _ hz1 (sbr rfl rfl) ?_)
 intro x1 g2 z2 hz2 ez2
 unfold slices_IndexFunc_Part_Part_roads_entry_1oo_l1 at hz2
 refine lr (fun u3 hu3 => sv rfl (s_nil (l_seq (cc rfl hz2 (fun c1 hz2 => ?_) (fun c1 hz2 => ?_)))))
 refine l_skip (l_seq (l_block (lr (fun u4 hu4 => sv rfl (sv rfl (s_nil (lr (fun u5 hu5 => s_val (.fn _ _ _) rfl rfl (sv rfl (sv rfl (bs hz2 fun v1 hv1 hz2 => sd rfl (v_idx rfl rfl hv1 rfl) (sd rfl (v_loadLG rfl hv1 rfl rfl) (bs hz2 fun v2 hv2 hz2 => s_oc (v := .d (bo v2)) (us := [(900000, 0), (900001, 0)]) (oc_m (roads_entry_1_o_o_ok _ _ _ _ hv2) [(900000, 0), (900001, 0)] [(900000, 0), (900001, 0)] _ (((900001, 0), some (.box 3 [(di p3)])) :: (((900000, 0), some (.box 267 [(.d (.v (.int .u32 p2.1))), (.d (.v (.int .u32 p2.2.1))), (.d (.v (.int .u32 p2.2.2.1))), (.d (.v (.int .u32 p2.2.2.2.1))), (.d (.v (.int .u32 p2.2.2.2.2.1))), (.d (.v (.int .u32 p2.2.2.2.2.2.1))), (.d (.v (.int .u32 p2.2.2.2.2.2.2.1))), (.d (.v (.int .u32 p2.2.2.2.2.2.2.2.1))), (.d (.v (.int .u32 p2.2.2.2.2.2.2.2.2.1))), (.d (.v (.int .u32 p2.2.2.2.2.2.2.2.2.2.1))), (.d (.v (.int .u32 p2.2.2.2.2.2.2.2.2.2.2.1))), (.d (.v (.int .u32 p2.2.2.2.2.2.2.2.2.2.2.2)))])) :: _)) rfl all2_av (kl_cons kr_d (kl_cons (kr_ptr G_hit rfl) (kl_cons (kr_ptr (G_skip rfl G_hit) rfl) kl_nil))) (live_cons G_hit (live_cons (G_skip rfl G_hit) live_nil)) ⟨⟨_, G_hit, .of rfl⟩, ⟨_, (G_skip rfl G_hit), .of rfl⟩, trivial⟩ (fun _ h => h) (nd2 (key_ne rfl)) rfl rfl rfl) (s_nil (cc rfl hz2 (fun c2 hz2 => ?_) (fun c2 hz2 => ?_))))))))))))))))
 refine lr (fun u6 hu6 => sv rfl (sv rfl (s_nil (l_ret ?_))))
 cases hz2
 obtain rfl := ez2 _ rfl
 refine ⟨nofun, awl_ret ?_⟩
 rw [Sum.elim_inr] at h
 cases h
 exact fin_mf (.inr rfl) [] (resDF1 (res_t rfl) rf_d) (.refl _) ⟨⟨_, _, _, (gq rfl), old_notin_nil, rfl, all2_d, rfl⟩, ⟨_, _, _, G_hit, old_notin_nil, rfl, all2_d, rfl⟩, trivial⟩
 refine l_skip (l_end (l_reg fun u7 hu7 => sv rfl (sv rfl (s_nil (l_nil ?_)))))
 cases hz2
 exact ⟨rfl, (), (sbr rfl rfl)⟩
 refine l_exitN rfl ?_
 cases hz2
 obtain rfl := ez2 _ rfl
 refine ⟨nofun, awl_pop rfl (l_j ?_)⟩
 exact ⟨_, (), rfl, (sbr rfl rfl)⟩
 rintro _ ⟨y1, g1, rfl, q1⟩
 rw [Sum.elim_inl] at h
 refine l_sub q1 (lr (fun u8 hu8 => sv rfl (s_nil (l_ret ?_))))
 cases h
 exact fin_mf (.inr rfl) [] (resDF1 (res_t rfl) rf_d) (.refl _) ⟨⟨_, _, _, G_hit, old_notin_nil, rfl, all2_d, rfl⟩, ⟨_, _, _, (gq rfl), old_notin_nil, rfl, all2_d, rfl⟩, trivial⟩

noncomputable def slices_ContainsFunc_Part_Part_roads_entry_1oo (p1 : (List Part)) (p2 : (Int × Int × Int × Int × Int × Int × Int × Int × Int × Int × Int × Int)) (p3 : Int) : Option Bool :=
  (slices_IndexFunc_Part_Part_roads_entry_1oo p1 p2 p3).bind fun v1 => some (decide (v1 ≥ 0))

theorem slices_ContainsFunc_Part_Part_roads_entry_1oo_ok (p1 : (List Part)) (p2 : (Int × Int × Int × Int × Int × Int × Int × Int × Int × Int × Int × Int)) (p3 : Int) (r : Bool) (h : slices_ContainsFunc_Part_Part_roads_entry_1oo p1 p2 p3 = some r) : MCall Tryz.prog 245 [(dl ePart p1), (.fn (.func 246) [] [(.ptr (900000, 0) 0), (.ptr (900001, 0) 0)])] [(.box 267 [(.d (.v (.int .u32 p2.1))), (.d (.v (.int .u32 p2.2.1))), (.d (.v (.int .u32 p2.2.2.1))), (.d (.v (.int .u32 p2.2.2.2.1))), (.d (.v (.int .u32 p2.2.2.2.2.1))), (.d (.v (.int .u32 p2.2.2.2.2.2.1))), (.d (.v (.int .u32 p2.2.2.2.2.2.2.1))), (.d (.v (.int .u32 p2.2.2.2.2.2.2.2.1))), (.d (.v (.int .u32 p2.2.2.2.2.2.2.2.2.1))), (.d (.v (.int .u32 p2.2.2.2.2.2.2.2.2.2.1))), (.d (.v (.int .u32 p2.2.2.2.2.2.2.2.2.2.2.1))), (.d (.v (.int .u32 p2.2.2.2.2.2.2.2.2.2.2.2)))]), (.box 3 [(di p3)])] (.d (bo r)) [some (.box 267 [(.d (.v (.int .u32 p2.1))), (.d (.v (.int .u32 p2.2.1))), (.d (.v (.int .u32 p2.2.2.1))), (.d (.v (.int .u32 p2.2.2.2.1))), (.d (.v (.int .u32 p2.2.2.2.2.1))), (.d (.v (.int .u32 p2.2.2.2.2.2.1))), (.d (.v (.int .u32 p2.2.2.2.2.2.2.1))), (.d (.v (.int .u32 p2.2.2.2.2.2.2.2.1))), (.d (.v (.int .u32 p2.2.2.2.2.2.2.2.2.1))), (.d (.v (.int .u32 p2.2.2.2.2.2.2.2.2.2.1))), (.d (.v (.int .u32 p2.2.2.2.2.2.2.2.2.2.2.1))), (.d (.v (.int .u32 p2.2.2.2.2.2.2.2.2.2.2.2)))]), some (.box 3 [(di p3)])] [] := by
 refine m_callF (fk Tryz.func245 Tryz.ntmps245 (fun r => if r == 1 then [1001002] else []) (by with_unfolding_all rfl)) rfl (nl rfl) ?_
 unfold slices_ContainsFunc_Part_Part_roads_entry_1oo at h
 refine l_sub (s0 := ⟨T [(0, (.d _)), (1, (.fn _ _ _))], G [((900000, 0), some (.box 267 _)), ((900001, 0), some (.box 3 _))]⟩) (sbr rfl rfl) ?_
 refine lr (fun u1 hu1 => sv rfl (s_nil (lr (fun u2 hu2 => sv rfl (s_val (.fn _ _ _) rfl rfl (bs h fun v1 hv1 h => s_oc (v := .d (i64 v1)) (us := [(900000, 0), (900001, 0)]) (oc_m (slices_IndexFunc_Part_Part_roads_entry_1oo_ok _ _ _ _ hv1) [(900000, 0), (900001, 0)] [(900000, 0), (900001, 0)] _ (((900001, 0), some (.box 3 [(di p3)])) :: (((900000, 0), some (.box 267 [(.d (.v (.int .u32 p2.1))), (.d (.v (.int .u32 p2.2.1))), (.d (.v (.int .u32 p2.2.2.1))), (.d (.v (.int .u32 p2.2.2.2.1))), (.d (.v (.int .u32 p2.2.2.2.2.1))), (.d (.v (.int .u32 p2.2.2.2.2.2.1))), (.d (.v (.int .u32 p2.2.2.2.2.2.2.1))), (.d (.v (.int .u32 p2.2.2.2.2.2.2.2.1))), (.d (.v (.int .u32 p2.2.2.2.2.2.2.2.2.1))), (.d (.v (.int .u32 p2.2.2.2.2.2.2.2.2.2.1))), (.d (.v (.int .u32 p2.2.2.2.2.2.2.2.2.2.2.1))), (.d (.v (.int .u32 p2.2.2.2.2.2.2.2.2.2.2.2)))])) :: _)) rfl all2_av (kl_cons kr_d (kl_cons (kr_fn rfl (kl_cons (kr_ptr G_hit rfl) (kl_cons (kr_ptr (G_skip rfl G_hit) rfl) kl_nil))) kl_nil)) (live_cons G_hit (live_cons (G_skip rfl G_hit) live_nil)) ⟨⟨_, G_hit, .of rfl⟩, ⟨_, (G_skip rfl G_hit), .of rfl⟩, trivial⟩ (fun _ h => h) (nd2 (key_ne rfl)) rfl rfl rfl) (sv rfl (sv rfl (s_nil (l_ret ?_))))))))))
 cases h
 exact fin_mf (.inr rfl) [] (resDF1 (res_t rfl) rf_d) (.refl _) ⟨⟨_, _, _, (gq rfl), old_notin_nil, rfl, all2_d, rfl⟩, ⟨_, _, _, G_hit, old_notin_nil, rfl, all2_d, rfl⟩, trivial⟩

noncomputable def roads_entry (p1 : Map) (p2 : Zone) (p3 : Int) : Option Bool :=
  (roads_reach p1).bind fun v1 => (slices_ContainsFunc_Part_Part_roads_entry_1oo p2.Parts v1 p3).bind fun v2 => some (!v2)

theorem roads_entry_ok (p1 : Map) (p2 : Zone) (p3 : Int) (r : Bool) (h : roads_entry p1 p2 p3 = some r) : PCall Tryz.prog 184 [(.agg (eMap p1)), (.agg [(.list (List.map ePart p2.Parts)), (i64 p2.Signal_)]), (i64 p3)] (bo r) := by
 refine l_call (fk Tryz.func184 Tryz.ntmps184 (fun r => if r == 2 then [1002003] else []) (by with_unfolding_all rfl)) (nl rfl) ?_
 unfold roads_entry at h
 refine l_sub (s0 := ⟨T [(0, (.d _)), (1, (.d _)), (2, (.d _))], G []⟩) (sbr rfl rfl) ?_
 refine lr (fun u1 hu1 => sn rfl rfl (sn rfl rfl (sn rfl rfl (sv rfl (s_nil (lr (fun u2 hu2 => sd rfl (v_loadG rfl (gq rfl) rfl rfl) (bs h fun v1 hv1 h => s_call rfl rfl all2_refl (roads_reach_ok _  _ hv1) (.inl rfl) (sn rfl rfl (sst rfl G_hit [(.d (.v (.int .u32 v1.1))), (.d (.v (.int .u32 v1.2.1))), (.d (.v (.int .u32 v1.2.2.1))), (.d (.v (.int .u32 v1.2.2.2.1))), (.d (.v (.int .u32 v1.2.2.2.2.1))), (.d (.v (.int .u32 v1.2.2.2.2.2.1))), (.d (.v (.int .u32 v1.2.2.2.2.2.2.1))), (.d (.v (.int .u32 v1.2.2.2.2.2.2.2.1))), (.d (.v (.int .u32 v1.2.2.2.2.2.2.2.2.1))), (.d (.v (.int .u32 v1.2.2.2.2.2.2.2.2.2.1))), (.d (.v (.int .u32 v1.2.2.2.2.2.2.2.2.2.2.1))), (.d (.v (.int .u32 v1.2.2.2.2.2.2.2.2.2.2.2)))] rfl (s_nil (lr (fun u3 hu3 => sp rfl rfl (sl rfl (gq rfl) rfl (s_val (.fn _ _ _) rfl rfl (bs h fun v2 hv2 h => s_oc (v := .d (bo v2)) (us := [(7, u2), (5, u1)]) (oc_m (slices_ContainsFunc_Part_Part_roads_entry_1oo_ok _ _ _ _ hv2) [(7, u2), (5, u1)] [(7, u2), (5, u1)] _ (((5, u1), some (.box 3 [(di p3)])) :: (((7, u2), some (.box 267 [(.d (.v (.int .u32 v1.1))), (.d (.v (.int .u32 v1.2.1))), (.d (.v (.int .u32 v1.2.2.1))), (.d (.v (.int .u32 v1.2.2.2.1))), (.d (.v (.int .u32 v1.2.2.2.2.1))), (.d (.v (.int .u32 v1.2.2.2.2.2.1))), (.d (.v (.int .u32 v1.2.2.2.2.2.2.1))), (.d (.v (.int .u32 v1.2.2.2.2.2.2.2.1))), (.d (.v (.int .u32 v1.2.2.2.2.2.2.2.2.1))), (.d (.v (.int .u32 v1.2.2.2.2.2.2.2.2.2.1))), (.d (.v (.int .u32 v1.2.2.2.2.2.2.2.2.2.2.1))), (.d (.v (.int .u32 v1.2.2.2.2.2.2.2.2.2.2.2)))])) :: _)) rfl all2_av (kl_cons kr_d (kl_cons (kr_fn rfl (kl_cons (kr_ptr G_hit rfl) (kl_cons (kr_ptr (G_skip rfl (G_skip rfl G_hit)) rfl) kl_nil))) kl_nil)) (live_cons G_hit (live_cons (G_skip rfl (G_skip rfl G_hit)) live_nil)) ⟨⟨_, G_hit, .of rfl⟩, ⟨_, (G_skip rfl (G_skip rfl G_hit)), .of rfl⟩, trivial⟩ (fun _ h => h) (nd2 (key_ne rfl)) rfl rfl rfl) (s_val (.d (bo (!v2))) rfl rfl (sv rfl (s_nil (l_ret ?_))))))))))))))))))))
 cases h
 exact fin_ok (.inr rfl) (resD1 (res_t rfl) rf_d) (.refl _)

noncomputable def roads_merges_1_1_b_b (p1 : Int) (p2 : Map) (p3 : Zone) : Option Bool :=
  (roads_entry p2 p3 p1).bind fun v1 => some (!v1)

theorem roads_merges_1_1_b_b_ok (p1 : Int) (p2 : Map) (p3 : Zone) (r : Bool) (h : roads_merges_1_1_b_b p1 p2 p3 = some r) : PCall Tryz.prog 183 [(i64 p1), (.bp (eMap p2) 0), (.bp [(.list (List.map ePart p3.Parts)), (i64 p3.Signal_)] 0)] (bo r) := by
 refine l_call (fk Tryz.func183 Tryz.ntmps183 m0 (by with_unfolding_all rfl)) (nl rfl) ?_
 unfold roads_merges_1_1_b_b at h
 refine l_sub (s0 := ⟨T [(0, (.d _)), (1, (.d _)), (2, (.d _))], G []⟩) (sbr rfl rfl) ?_
 refine lr (fun u1 hu1 => sv rfl (s_nil (lr (fun u2 hu2 => sv rfl (sv rfl (sv rfl (bs h fun v1 hv1 h => s_call rfl rfl all2_refl (roads_entry_ok _ _ _  _ hv1) (.inl rfl) (s_val (.d (bo (!v1))) rfl rfl (sv rfl (s_nil (l_ret ?_)))))))))))
 cases h
 exact fin_ok (.inr rfl) (resD1 (res_t rfl) rf_d) (.refl _)
end Go.Abs.Roadsz
