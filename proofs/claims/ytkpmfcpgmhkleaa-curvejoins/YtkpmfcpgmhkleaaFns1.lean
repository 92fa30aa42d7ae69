/-
  The Go functions that CurveJoins reaches, as plain Lean functions, and the proofs that the program computes them.
-/
import Derived.Test.YtkpmfcpgmhkleaaCoreD
import Derived.Test.YtkpmfcpgmhkleaaProg
import Derived.KernelRfl
import Derived.IntWalk
set_option maxRecDepth 20000
set_option linter.unusedVariables false
namespace Go.Abs.Curve
open Go Go.Abs Go.Proofs
attribute [local irreducible] regW regT AWL
structure Spot where
  X : Int
  Y : Int
  deriving Inhabited
structure CurveVector where
  x : Int
  y : Int
  deriving Inhabited
structure CurvePiece where
  p : Spot
  v : CurveVector
  l : Int
  start : Int
  deriving Inhabited
abbrev eSpot : Spot → List D := fun x => [(i64 x.X), (i64 x.Y)]
structure Curve where
  Pts : (List Spot)
  deriving Inhabited
abbrev eCurve : Curve → List D := fun x => [(.list (List.map eSpot x.Pts))]
abbrev eL_Spot : (List Spot) → List D := fun x => [.list (List.map eSpot x)]
abbrev eInt_i64 : Int → List D := fun x => [.v (.int .i64 x)]
structure KitChain where
  X : Int
  Y : Int
  Steps : (List Int)
  deriving Inhabited
abbrev eKitChain : KitChain → List D := fun x => [(i64 x.X), (i64 x.Y), (.list (List.map eInt_i64 x.Steps))]
abbrev eL_Int_i64 : (List Int) → List D := fun x => [.list (List.map eInt_i64 x)]
abbrev eA93 : (Int × Int × Int) → List D := fun x => [(i64 x.1), (i64 x.2.1), (i64 x.2.2)]
structure Anon7 where
  x : Int
  y : Int
  signed : Bool
  code : Int
  deriving Inhabited
structure RuntimeBoundsError where
  x : Int
  y : Int
  signed : Bool
  code : Int
  deriving Inhabited
structure Anon13 where
  msg : ByteArray
  addr : Int
  deriving Inhabited
structure RuntimeErrorAddressString where
  msg : ByteArray
  addr : Int
  deriving Inhabited
structure Anon23 where
  Pts : (List Spot)
  deriving Inhabited
structure Anon36 where
  X : Int
  Y : Int
  Steps : (List Int)
  deriving Inhabited
structure Anon42 where
  X : Int
  Y : Int
  deriving Inhabited
structure Anon68 where
  FromA : Int
  ToA : Int
  FromB : Int
  ToB : Int
  deriving Inhabited
structure Cross where
  FromA : Int
  ToA : Int
  FromB : Int
  ToB : Int
  deriving Inhabited
structure Anon77 where
  x : Int
  y : Int
  deriving Inhabited
structure Anon88 where
  p : Spot
  v : CurveVector
  l : Int
  start : Int
  deriving Inhabited
structure Anon101 where
  piece : CurvePiece
  half : Int
  ends : (Int × Int)
  deriving Inhabited
structure CurveCorridor where
  piece : CurvePiece
  half : Int
  ends : (Int × Int)
  deriving Inhabited
structure Anon109 where
  p : Spot
  v : Spot
  l : Int
  h : Int
  s : Int
  t : Int
  deriving Inhabited
structure Ref01Stripe where
  p : Spot
  v : Spot
  l : Int
  h : Int
  s : Int
  t : Int
  deriving Inhabited
abbrev eCurvePiece : CurvePiece → List D := fun x => [(i64 x.p.X), (i64 x.p.Y), (i64 x.v.x), (i64 x.v.y), (i64 x.l), (i64 x.start)]
abbrev dCurvePiece : CurvePiece → List AV := fun x => [(.d (i64 x.p.X)), (.d (i64 x.p.Y)), (.d (i64 x.v.x)), (.d (i64 x.v.y)), (.d (i64 x.l)), (.d (i64 x.start))]
abbrev dKitChain : KitChain → List AV := fun x => [(.d (i64 x.X)), (.d (i64 x.Y)), (.d (.list (List.map eInt_i64 x.Steps)))]


noncomputable def law01_long (p1 : Curve) : Option Bool :=
  some (decide ((p1.Pts.length : Int) > 20))

/-- kerbstone/kerbstonelaw01.long -/
def ac_law01_long : AC := (.seq (.reg [oo 1 (.box 24 true (.t 0)), oo 2 (.mv (.c zf))]) (.seq (.reg [oo 3 (.fieldA 0 (.t 1)), oo 4 (.load 1 false (.t 3)), oo 5 (.len (.t 4)), oo 6 (.bin .gtr (.t 5) (ci 20)), oo 2 (.mv (.t 6))]) .ret))
theorem fn_law01_long : FnOK Try.prog 17 7 [.t 2] ac_law01_long := ⟨_, _, Try.func17, rfl, Try.ntmps17, by kernel_rfl, ⟨fun _ => [], by kernel_rfl⟩, by kernel_rfl⟩
theorem law01_long_ok (p1 : Curve) (r : Bool) (h : law01_long p1 = some r) : PCall Try.prog 17 [(.agg [(.list (List.map eSpot p1.Pts))])] (bo r) := by
  refine l_call fn_law01_long (nl rfl) ?_
  unfold law01_long at h
  unfold ac_law01_long
  refine l_sub (s0 := ⟨T [(0, (.d _))], G []⟩) (sbr rfl rfl) ?_
  refine lr (fun u1 hu1 => sn rfl rfl (sv rfl (s_nil (lr (fun u2 hu2 => sp rfl rfl (sl rfl G_hit rfl (sd rfl (v_len rfl) (sv rfl (sv rfl (s_nil (l_ret ?_)))))))))))
  obtain rfl := Option.some.inj h
  exact fin_ok (.inr rfl) (resD1 (res_t rfl) rf_d) (.refl _)

noncomputable def law01_of_l1 (p1 : (List Int)) (x1 : (Int × Curve)) : Option (Stp (Int × Curve) Curve) :=
  cond (decide ((w64 (x1.1 + 1)) < (p1.length : Int))) ((geti p1 x1.1).bind fun v1 => (geti p1 (w64 (x1.1 + 1))).bind fun v2 => (appc x1.2.Pts [(Spot.mk v1 v2)]).bind fun v3 => some (.go ((w64 (x1.1 + 2)), (Curve.mk v3)))) (some (.out x1.2))
noncomputable def law01_of (p1 : (List Int)) : Option Curve :=
  (loop (law01_of_l1 p1) (0, (Curve.mk []))).bind fun y1 => some y1

/-- kerbstone/kerbstonelaw01.of -/
def ac_law01_of : AC := (.seq (.reg [oo 2 (.alloc 24 [.nilS])]) (.seq (.reg [oo 3 (.alloc 24 [.nilS])]) (.seq (.seq (.reg [oo 4 (.mv (ci 0))]) (.block 0 (.loop (.seq (.seq (.reg [oo 5 (.mv (.t 4)), oo 6 (.bin .add (.t 5) (ci 1)), oo 7 (.mv (.t 0)), oo 8 (.len (.t 7)), oo 9 (.bin .lss (.t 6) (.t 8))]) (.cond (.t 9) .skip (.exit 0))) (.seq (.block 1 (.draw [oo 12 (.fieldA 0 (.t 3)), oo 13 (.load 1 false (.t 12)), oo 14 (.mv (.t 0)), oo 15 (.mv (.t 4)), oo 16 (.idxS 1 (.t 14) (.t 15)), oo 17 (.load 1 false (.t 16)), oo 18 (.mv (.t 0)), oo 19 (.mv (.t 4)), oo 20 (.bin .add (.t 19) (ci 1)), oo 21 (.idxS 1 (.t 18) (.t 20)), oo 22 (.load 1 false (.t 21)), oo 23 (.build [z0, z0] [(0, 1, (.t 17)), (1, 1, (.t 22))]), oo 24 (.dslice 43 2 1 [z0, z0] [(0, 2, (.t 23))]), oo 25 (.append 22 43 2 (.t 13) (.t 24)), oo 26 (.fieldA 0 (.t 3)), oe (.store 1 (.t 26) (.t 25))] [])) (.reg [oo 10 (.mv (.t 4)), oo 11 (.bin .add (.t 10) (ci 2)), oo 4 (.mv (.t 11))])))))) (.seq (.reg [oo 27 (.load 1 true (.t 3)), oe (.store 1 (.t 2) (.t 27))]) .ret))))
theorem fn_law01_of : FnOK Try.prog 57 28 [.cell 2 1 true] ac_law01_of := ⟨_, _, Try.func57, rfl, Try.ntmps57, by kernel_rfl, ⟨fun r => if r == 5 then [1012] else [], by kernel_rfl⟩, by kernel_rfl⟩
set_option maxHeartbeats 4000000 in
theorem law01_of_ok (p1 : (List Int)) (r : Curve) (h : law01_of p1 = some r) : PCall Try.prog 57 [(.list (List.map eInt_i64 p1))] (.agg [(.list (List.map eSpot r.Pts))]) := by
  refine l_call fn_law01_of (nl rfl) ?_
  unfold law01_of at h
  unfold ac_law01_of
  refine l_sub (s0 := ⟨T [(0, (.d _))], G []⟩) (sbr rfl rfl) ?_
  refine lr (fun u1 hu1 => sn rfl rfl (s_nil (lr (fun u2 hu2 => sn rfl rfl (s_nil (l_seq (lr (fun u3 hu3 => sv rfl (s_nil (bs h fun y1 hy1 h => l_join (fun s => ∃ g1 : Nat, Sb ⟨T [(2, (.ptr (2, u1) 0)), (3, (.ptr (3, u2) 0))], G [((2, u1), some (.box 24 [(.d .nilS)])), ((3, u2), some (.box 24 [(oS y1.Pts (25, g1))])), ((25, g1), oB 43 2 eSpot y1.Pts)]⟩ s) ?_ ?_))))))))))
  · refine l_block (l_loop (law01_of_l1 p1) (fun (x1 : (Int × Curve)) (g2 : Nat) => ⟨T [(0, (dl eInt_i64 p1)), (2, (.ptr (2, u1) 0)), (3, (.ptr (3, u2) 0)), (4, (di x1.1))], G [((2, u1), some (.box 24 [(.d .nilS)])), ((3, u2), some (.box 24 [(oS x1.2.Pts (25, g2))])), ((25, g2), oB 43 2 eSpot x1.2.Pts)]⟩) (0, (Curve.mk [])) 0 _ hy1 (sb_of ⟨.of rfl, .of rfl, .of rfl, .of rfl, trivial⟩ (sbG_some (gq rfl) (.of rfl) (sbG_some G_hit (.of rfl) (sbG_nil trivial)))) ?_)
    intro x1 g2 z1 hz1 ez1
    unfold law01_of_l1 at hz1
    refine l_seq (lr (fun u4 hu4 => sv rfl (sv rfl (sv rfl (sd rfl (v_len rfl) (sv rfl (s_nil (cc rfl hz1 (fun c1 hz1 => ?_) (fun c1 hz1 => ?_)))))))))
    · refine l_skip (l_seq (l_block (l_draw rfl fun u5 hu5 => sp rfl rfl (s_val (oS x1.2.Pts (25, g2)) rfl (v_load rfl (gq rfl) rfl) (sv rfl (sv rfl (bs hz1 fun v1 hv1 hz1 => sd rfl (v_idx rfl rfl hv1 rfl) (sd rfl (v_loadL rfl hv1 rfl) (sv rfl (sv rfl (sv rfl (bs hz1 fun v2 hv2 hz1 => sd rfl (v_idx rfl rfl hv2 rfl) (sd rfl (v_loadL rfl hv2 rfl) (sv rfl (s_val (dl eSpot [(Spot.mk v1 v2)]) rfl rfl (bs hz1 fun v3 hv3 hz1 => s_appendO eSpot (25, g2) x1.2.Pts (Spot.mk v1 v2) [] _ (elems_list (fun _ => rfl)) rfl (gq rfl) hv3 (sp rfl rfl (sst rfl (gq rfl) [(.sl (25, u5))] rfl (s_nil (l_end (l_sub (s0 := ⟨T [(0, (.d _)), (2, (.ptr _ _)), (3, (.ptr _ _)), (4, (.d _))], G [((2, u1), some (.box 24 _)), ((3, u2), some (.box 24 _)), ((25, u5), some _)]⟩) (sbr rfl rfl) ?_)))))))))))))))))))))
      refine l_reg fun u6 hu6 => sv rfl (sv rfl (sv rfl (s_nil (l_nil ?_))))
      obtain rfl := Option.some.inj hz1
      exact ⟨rfl, u5, (sb_of ⟨.of rfl, .of rfl, .of rfl, .of rfl, trivial⟩ (sbG_some G_hit (.of rfl) (sbG_some (gq rfl) (.box (.cons (.of (oS_ne (appc_ne hv3)).symm) .nil)) (sbG_own (gq rfl) trivial))))⟩
    · refine l_exitN rfl ?_
      obtain rfl := Option.some.inj hz1
      obtain rfl := ez1 _ rfl
      refine ⟨nofun, awl_pop rfl (l_j ?_)⟩
      exact ⟨g2, (sb_of ⟨.of rfl, .of rfl, trivial⟩ (sbG_some G_hit (.of rfl) (sbG_some (gq rfl) (.of rfl) (sbG_oB (gq rfl) trivial))))⟩
  · rintro _ ⟨g1, q1⟩
    refine l_sub q1 (lr (fun u7 hu7 => s_val (mkAgg [(oS y1.Pts (25, g1))]) rfl (v_loadG rfl (gq rfl) rfl rfl) (s_store _ _ _ _ _ (cellsV_mkAgg _) rfl rfl G_hit (nl rfl) [(oS y1.Pts (25, g1))] rfl (s_nil (l_ret ?_)))))
    obtain rfl := Option.some.inj h
    exact fin_ok (.inr rfl) (resD1 (res_cellG rfl G_hit (nl rfl) rfl) (rf_mkAgg (rfL_cons (rf_oS (gq rfl)) rfL_nil))) (.agg (.cons ⟨oD_le, rfl⟩ .nil))

noncomputable def law01_bent : Option Curve :=
  (law01_of [0, 0, 3000, 4000, 8000, 4000]).bind fun v1 => some v1

/-- kerbstone/kerbstonelaw01.bent -/
def ac_law01_bent : AC := (.seq (.reg [oo 0 (.alloc 24 [.nilS])]) (.seq (.reg [oo 1 (.dslice 2 1 6 [z0] [(0, 1, (ci 0)), (1, 1, (ci 0)), (2, 1, (ci 3000)), (3, 1, (ci 4000)), (4, 1, (ci 8000)), (5, 1, (ci 4000))]), oo 2 (.call (cf 57) [(.t 1)]), oe (.store 1 (.t 0) (.t 2))]) .ret))
theorem fn_law01_bent : FnOK Try.prog 56 3 [.cell 0 1 true] ac_law01_bent := ⟨_, _, Try.func56, rfl, Try.ntmps56, by kernel_rfl, ⟨fun r => if r == 1 then [1000] else [], by kernel_rfl⟩, by kernel_rfl⟩
theorem law01_bent_ok (r : Curve) (h : law01_bent = some r) : PCall Try.prog 56 [] (.agg [(.list (List.map eSpot r.Pts))]) := by
  refine l_call fn_law01_bent (nl rfl) ?_
  unfold law01_bent at h
  unfold ac_law01_bent
  refine l_sub (s0 := ⟨T [], G []⟩) (sbr rfl rfl) ?_
  refine lr (fun u1 hu1 => sn rfl rfl (s_nil (lr (fun u2 hu2 => s_val (dl eInt_i64 [0, 0, 3000, 4000, 8000, 4000]) rfl rfl (bs h fun v1 hv1 h => s_call rfl rfl all2_refl (law01_of_ok _  _ hv1) (.inl rfl) (sst rfl G_hit [(dl eSpot v1.Pts)] rfl (s_nil (l_ret ?_))))))))
  obtain rfl := Option.some.inj h
  exact fin_ok (.inr rfl) (resD1 (res_cellG rfl G_hit (nl rfl) rfl) rf_d) (.refl _)

noncomputable def curve_fair_l1 (p1 : (List Spot)) (x1 : Int) : Option (Stp Int (Sum Unit Bool)) :=
  cond (decide (x1 < (p1.length : Int))) ((geti p1 x1).bind fun v1 => cond ((decide ((mm2 false v1.X v1.Y) < (-16777216))) || (decide ((mm2 true v1.X v1.Y) > 16777216))) (some (.out (.inr false))) (some (.go (w64 (x1 + 1))))) (some (.out (.inl ())))
noncomputable def curve_fair (p1 : (List Spot)) : Option Bool :=
  thenS (loop (curve_fair_l1 p1) 0) (fun _ => some true) (fun r => some r)

/-- kerbstone/curve.fair -/
def ac_curve_fair : AC := (.seq (.reg [oo 2 (.mv (.c zf))]) (.seq (.seq (.reg [oo 5 (.mv (.t 0)), oo 6 (.len (.t 5)), oo 7 (.mv (ci 0))]) (.block 0 (.loop (.seq (.reg [oo 8 (.bin .lss (.t 7) (.t 6))]) (.seq (.cond (.t 8) .skip (.exit 0)) (.seq (.block 1 (.seq (.reg [oo 9 (.idxS 2 (.t 5) (.t 7)), oo 10 (.load 2 true (.t 9)), oo 4 (.alloc 43 [z0, z0]), oe (.store 2 (.t 4) (.t 10))]) (.seq (.reg [oo 11 (.fieldA 0 (.t 4)), oo 12 (.load 1 false (.t 11)), oo 13 (.fieldA 1 (.t 4)), oo 14 (.load 1 false (.t 13)), oo 15 (.mm false (.t 12) [(.t 14)]), oo 16 (.bin .lss (.t 15) (ci (-16777216))), oo 17 (.mv (.t 16)), oh 18 (.fieldA 0 (.t 4)) 17, oh 19 (.load 1 false (.t 18)) 17, oh 20 (.fieldA 1 (.t 4)) 17, oh 21 (.load 1 false (.t 20)) 17, oh 22 (.mm true (.t 19) [(.t 21)]) 17, oh 23 (.bin .gtr (.t 22) (ci 16777216)) 17, oo 24 (.pick (.t 17) (.c (.v (.bool true))) (.t 23))]) (.cond (.t 24) (.seq (.reg [oo 2 (.mv (.c zf))]) .ret) .skip)))) (.reg [oo 25 (.bin .add (.t 7) (ci 1)), oo 7 (.mv (.t 25))]))))))) (.seq (.reg [oo 2 (.mv (.c (.v (.bool true))))]) .ret)))
theorem fn_curve_fair : FnOK Try.prog 59 26 [.t 2] ac_curve_fair := ⟨_, _, Try.func59, rfl, Try.ntmps59, by kernel_rfl, ⟨fun _ => [], by kernel_rfl⟩, by kernel_rfl⟩
set_option maxHeartbeats 4000000 in
theorem curve_fair_ok (p1 : (List Spot)) (r : Bool) (h : curve_fair p1 = some r) : PCall Try.prog 59 [(.list (List.map eSpot p1))] (bo r) := by
  refine l_call fn_curve_fair (nl rfl) ?_
  unfold curve_fair at h
  unfold ac_curve_fair
  refine l_sub (s0 := ⟨T [(0, (.d _))], G []⟩) (sbr rfl rfl) ?_
  refine lr (fun u1 hu1 => sv rfl (s_nil (l_seq (lr (fun u2 hu2 => sv rfl (sd rfl (v_len rfl) (sv rfl (s_nil (js h fun z1 hz1 h => l_join (fun s => ∃ (y1 : Unit) (g1 : Unit), z1 = .inl y1 ∧ Sb ⟨T [], G []⟩ s) ?_ ?_)))))))))
  · refine l_block (l_loop (curve_fair_l1 p1) (fun (x1 : Int) (g2 : Unit) => ⟨T [(5, (dl eSpot p1)), (6, (di (p1.length : Int))), (7, (di x1))], G []⟩) 0 () _ hz1 (sbr rfl rfl) ?_)
    intro x1 g2 z2 hz2 ez2
    unfold curve_fair_l1 at hz2
    refine lr (fun u3 hu3 => sv rfl (s_nil (l_seq (cc rfl hz2 (fun c1 hz2 => ?_) (fun c1 hz2 => ?_)))))
    · refine l_skip (l_seq (l_block (lr (fun u4 hu4 => bs hz2 fun v1 hv1 hz2 => sd rfl (v_idx rfl rfl hv1 rfl) (sd rfl (v_loadLG rfl hv1 rfl rfl) (sn rfl rfl (sst rfl G_hit [(di v1.X), (di v1.Y)] rfl (s_nil (lr (fun u5 hu5 => sp rfl rfl (sl rfl G_hit rfl (sp rfl rfl (sl rfl G_hit rfl (sv rfl (sv rfl (sv rfl (gp (gw_f rfl) (fun _ => rfl) (gf rfl (vl rfl G_hit rfl) (gp (gw_f rfl) (fun _ => rfl) (gf rfl (vl rfl G_hit rfl) (gf rfl (fun w5 => (by simp only [gd_pos w5]; rfl)) ?_)))))))))))))))))))))
      refine gf rfl (vb rfl rfl rfl) (sd rfl (v_or rfl rfl (fun hc => gd_pos (not_t hc))) (s_nil (cc rfl hz2 (fun c2 hz2 => ?_) (fun c2 hz2 => ?_))))
      · refine l_seq (l_sub (s0 := ⟨T [], G []⟩) (sbr rfl rfl) ?_)
        refine l_reg fun u6 hu6 => sv rfl (s_nil (l_ret ?_))
        obtain rfl := Option.some.inj hz2
        obtain rfl := ez2 _ rfl
        refine ⟨nofun, awl_ret ?_⟩
        rw [Sum.elim_inr] at h
        obtain rfl := Option.some.inj h
        exact fin_ok (.inr rfl) (resD1 (res_t rfl) rf_d) (.refl _)
      · refine l_skip (l_end (l_sub (s0 := ⟨T [(5, (.d _)), (6, (.d _)), (7, (.d _))], G []⟩) (sbr rfl rfl) ?_))
        refine l_reg fun u7 hu7 => sv rfl (sv rfl (s_nil (l_nil ?_)))
        obtain rfl := Option.some.inj hz2
        exact ⟨rfl, (), (sbr rfl rfl)⟩
    · refine l_exitN rfl ?_
      obtain rfl := Option.some.inj hz2
      obtain rfl := ez2 _ rfl
      refine ⟨nofun, awl_pop rfl (l_j ?_)⟩
      exact ⟨_, (), rfl, (sbr rfl rfl)⟩
  · rintro _ ⟨y1, g1, rfl, q1⟩
    rw [Sum.elim_inl] at h
    refine l_sub q1 (lr (fun u8 hu8 => sv rfl (s_nil (l_ret ?_))))
    obtain rfl := Option.some.inj h
    exact fin_ok (.inr rfl) (resD1 (res_t rfl) rf_d) (.refl _)

noncomputable def curve_from (p1 : Spot) (p2 : Spot) : Option CurveVector :=
  some (CurveVector.mk (w64 (p2.X - p1.X)) (w64 (p2.Y - p1.Y)))

/-- kerbstone/curve.from -/
def ac_curve_from : AC := (.seq (.reg [oo 2 (.box 43 true (.t 0)), oo 3 (.box 43 true (.t 1)), oo 4 (.alloc 78 [z0, z0])]) (.seq (.reg [oo 5 (.fieldA 0 (.t 3)), oo 6 (.load 1 false (.t 5)), oo 7 (.fieldA 0 (.t 2)), oo 8 (.load 1 false (.t 7)), oo 9 (.bin .sub (.t 6) (.t 8)), oo 10 (.fieldA 1 (.t 3)), oo 11 (.load 1 false (.t 10)), oo 12 (.fieldA 1 (.t 2)), oo 13 (.load 1 false (.t 12)), oo 14 (.bin .sub (.t 11) (.t 13)), oo 15 (.build [z0, z0] [(0, 1, (.t 9)), (1, 1, (.t 14))]), oe (.store 2 (.t 4) (.t 15))]) .ret))
theorem fn_curve_from : FnOK Try.prog 60 16 [.cell 4 2 true] ac_curve_from := ⟨_, _, Try.func60, rfl, Try.ntmps60, by kernel_rfl, ⟨fun _ => [], by kernel_rfl⟩, by kernel_rfl⟩
theorem curve_from_ok (p1 : Spot) (p2 : Spot) (r : CurveVector) (h : curve_from p1 p2 = some r) : PCall Try.prog 60 [(.agg [(i64 p1.X), (i64 p1.Y)]), (.agg [(i64 p2.X), (i64 p2.Y)])] (.agg [(i64 r.x), (i64 r.y)]) := by
  refine l_call fn_curve_from (nl rfl) ?_
  unfold curve_from at h
  unfold ac_curve_from
  refine l_sub (s0 := ⟨T [(0, (.d _)), (1, (.d _))], G []⟩) (sbr rfl rfl) ?_
  refine lr (fun u1 hu1 => sn rfl rfl (sn rfl rfl (sn rfl rfl (s_nil (lr (fun u2 hu2 => sp rfl rfl (sl rfl (gq rfl) rfl (sp rfl rfl (sl rfl (gq rfl) rfl (sv rfl (sp rfl rfl (sl rfl (gq rfl) rfl (sp rfl rfl (sl rfl (gq rfl) rfl (sv rfl (sv rfl (sst rfl G_hit [(di (w64 (p2.X - p1.X))), (di (w64 (p2.Y - p1.Y)))] rfl (s_nil (l_ret ?_)))))))))))))))))))
  obtain rfl := Option.some.inj h
  exact fin_ok (.inr rfl) (resD1 (res_cellG rfl G_hit (nl rfl) rfl) rf_d) (.refl _)

noncomputable def curve_vector_dot (p1 : CurveVector) (p2 : CurveVector) : Option Int :=
  some (w64 ((w64 (p1.x * p2.x)) + (w64 (p1.y * p2.y))))

/-- (kerbstone/curve.vector).dot -/
def ac_curve_vector_dot : AC := (.seq (.reg [oo 2 (.box 78 true (.t 0)), oo 3 (.box 78 true (.t 1)), oo 4 (.mv (ci 0))]) (.seq (.reg [oo 5 (.fieldA 0 (.t 2)), oo 6 (.load 1 false (.t 5)), oo 7 (.fieldA 0 (.t 3)), oo 8 (.load 1 false (.t 7)), oo 9 (.bin .mul (.t 6) (.t 8)), oo 10 (.fieldA 1 (.t 2)), oo 11 (.load 1 false (.t 10)), oo 12 (.fieldA 1 (.t 3)), oo 13 (.load 1 false (.t 12)), oo 14 (.bin .mul (.t 11) (.t 13)), oo 15 (.bin .add (.t 9) (.t 14)), oo 4 (.mv (.t 15))]) .ret))
theorem fn_curve_vector_dot : FnOK Try.prog 62 16 [.t 4] ac_curve_vector_dot := ⟨_, _, Try.func62, rfl, Try.ntmps62, by kernel_rfl, ⟨fun _ => [], by kernel_rfl⟩, by kernel_rfl⟩
theorem curve_vector_dot_ok (p1 : CurveVector) (p2 : CurveVector) (r : Int) (h : curve_vector_dot p1 p2 = some r) : PCall Try.prog 62 [(.agg [(i64 p1.x), (i64 p1.y)]), (.agg [(i64 p2.x), (i64 p2.y)])] (i64 r) := by
  refine l_call fn_curve_vector_dot (nl rfl) ?_
  unfold curve_vector_dot at h
  unfold ac_curve_vector_dot
  refine l_sub (s0 := ⟨T [(0, (.d _)), (1, (.d _))], G []⟩) (sbr rfl rfl) ?_
  refine lr (fun u1 hu1 => sn rfl rfl (sn rfl rfl (sv rfl (s_nil (lr (fun u2 hu2 => sp rfl rfl (sl rfl (gq rfl) rfl (sp rfl rfl (sl rfl G_hit rfl (sv rfl (sp rfl rfl (sl rfl (gq rfl) rfl (sp rfl rfl (sl rfl G_hit rfl (sv rfl (sv rfl (sv rfl (s_nil (l_ret ?_)))))))))))))))))))
  obtain rfl := Option.some.inj h
  exact fin_ok (.inr rfl) (resD1 (res_t rfl) rf_d) (.refl _)

noncomputable def curve_root_l1 (p1 : Int) (x1 : (Int × Int)) : Option (Stp (Int × Int) Int) :=
  cond (decide (x1.1 < x1.2)) (cond (decide ((w64 ((w64 ((w64 (x1.1 + x1.2)).tdiv 2)) * (w64 ((w64 (x1.1 + x1.2)).tdiv 2)))) < p1)) (some (.go ((w64 ((w64 ((w64 (x1.1 + x1.2)).tdiv 2)) + 1)), x1.2))) (some (.go (x1.1, (w64 ((w64 (x1.1 + x1.2)).tdiv 2)))))) (some (.out x1.1))
noncomputable def curve_root (p1 : Int) : Option (Int × Bool) :=
  (loop (curve_root_l1 p1) (0, 67108864)).bind fun y1 => some (y1, ((w64 (y1 * y1)) == p1))

/-- kerbstone/curve.root -/
def ac_curve_root : AC := (.seq (.reg [oo 2 (.mv (ci 0)), oo 3 (.mv (.c zf))]) (.seq (.reg [oo 4 (.mv (ci 0)), oo 5 (.mv (ci 67108864))]) (.seq (.block 0 (.loop (.seq (.seq (.reg [oo 7 (.mv (.t 4)), oo 8 (.mv (.t 5)), oo 9 (.bin .lss (.t 7) (.t 8))]) (.cond (.t 9) .skip (.exit 0))) (.block 1 (.seq (.reg [oo 10 (.mv (.t 4)), oo 11 (.mv (.t 5)), oo 12 (.bin .add (.t 10) (.t 11)), oo 13 (.bin .quo (.t 12) (ci 2)), oo 6 (.mv (.t 13))]) (.seq (.reg [oo 14 (.mv (.t 6)), oo 15 (.mv (.t 6)), oo 16 (.bin .mul (.t 14) (.t 15)), oo 17 (.mv (.t 0)), oo 18 (.bin .lss (.t 16) (.t 17))]) (.cond (.t 18) (.reg [oo 19 (.mv (.t 6)), oo 20 (.bin .add (.t 19) (ci 1)), oo 4 (.mv (.t 20))]) (.reg [oo 21 (.mv (.t 6)), oo 5 (.mv (.t 21))])))))))) (.seq (.reg [oo 22 (.mv (.t 4)), oo 23 (.mv (.t 4)), oo 24 (.mv (.t 4)), oo 25 (.bin .mul (.t 23) (.t 24)), oo 26 (.mv (.t 0)), oo 27 (.bin .eql (.t 25) (.t 26)), oo 2 (.mv (.t 22)), oo 3 (.mv (.t 27))]) .ret))))
theorem fn_curve_root : FnOK Try.prog 61 28 [.t 2, .t 3] ac_curve_root := ⟨_, _, Try.func61, rfl, Try.ntmps61, by kernel_rfl, ⟨fun _ => [], by kernel_rfl⟩, by kernel_rfl⟩
set_option maxHeartbeats 4000000 in
theorem curve_root_ok (p1 : Int) (r : (Int × Bool)) (h : curve_root p1 = some r) : PCall Try.prog 61 [(i64 p1)] (.tup [(i64 r.1), (bo r.2)]) := by
  refine l_call fn_curve_root (nl rfl) ?_
  unfold curve_root at h
  unfold ac_curve_root
  refine l_sub (s0 := ⟨T [(0, (.d _))], G []⟩) (sbr rfl rfl) ?_
  refine lr (fun u1 hu1 => sv rfl (sv rfl (s_nil (lr (fun u2 hu2 => sv rfl (sv rfl (s_nil (l_seq (bs h fun y1 hy1 h => l_join (fun s => ∃ g1 : Unit, Sb ⟨T [(0, (di p1)), (4, (di y1))], G []⟩ s) ?_ ?_)))))))))
  · refine l_block (l_loop (curve_root_l1 p1) (fun (x1 : (Int × Int)) (g2 : Unit) => ⟨T [(0, (di p1)), (4, (di x1.1)), (5, (di x1.2))], G []⟩) (0, 67108864) () _ hy1 (sbr rfl rfl) ?_)
    intro x1 g2 z1 hz1 ez1
    unfold curve_root_l1 at hz1
    refine l_seq (lr (fun u3 hu3 => sv rfl (sv rfl (sv rfl (s_nil (cc rfl hz1 (fun c1 hz1 => ?_) (fun c1 hz1 => ?_)))))))
    · refine l_skip (l_block (lr (fun u4 hu4 => sv rfl (sv rfl (sv rfl (sv rfl (sv rfl (s_nil (lr (fun u5 hu5 => sv rfl (sv rfl (sv rfl (sv rfl (sv rfl (s_nil (cc rfl hz1 (fun c2 hz1 => ?_) (fun c2 hz1 => ?_)))))))))))))))))
      · refine l_reg fun u6 hu6 => sv rfl (sv rfl (sv rfl (s_nil (l_end (l_nil ?_)))))
        obtain rfl := Option.some.inj hz1
        exact ⟨rfl, (), (sbr rfl rfl)⟩
      · refine l_reg fun u7 hu7 => sv rfl (sv rfl (s_nil (l_end (l_nil ?_))))
        obtain rfl := Option.some.inj hz1
        exact ⟨rfl, (), (sbr rfl rfl)⟩
    · refine l_exitN rfl ?_
      obtain rfl := Option.some.inj hz1
      obtain rfl := ez1 _ rfl
      refine ⟨nofun, awl_pop rfl (l_j ?_)⟩
      exact ⟨(), (sbr rfl rfl)⟩
  · rintro _ ⟨g1, q1⟩
    refine l_sub q1 (lr (fun u8 hu8 => sv rfl (sv rfl (sv rfl (sv rfl (sv rfl (sv rfl (sv rfl (sv rfl (s_nil (l_ret ?_)))))))))))
    obtain rfl := Option.some.inj h
    exact fin_ok (.inr rfl) (resD2 (res_t rfl) (res_t rfl) rf_d rf_d) (.refl _)

noncomputable def curve_Check_l1 (p1 : Curve) (x1 : (Int × CurveVector)) : Option (Stp (Int × CurveVector) (Sum Unit Int)) :=
  cond (decide (x1.1 < (w64 ((p1.Pts.length : Int) - 1)))) ((geti p1.Pts x1.1).bind fun v2 => (geti p1.Pts (w64 (x1.1 + 1))).bind fun v3 => (curve_from v2 v3).bind fun v4 => (curve_vector_dot v4 v4).bind fun v5 => (curve_root v5).bind fun v6 => cond (!v6.2) (some (.out (.inr 3))) (cond ((decide (v6.1 < 1000)) || (decide (v6.1 > 1048576))) (some (.out (.inr 2))) (((cond (decide (x1.1 > 0)) (curve_vector_dot x1.2 v4) (some default))).bind fun v7 => cond ((decide (x1.1 > 0)) && (decide (v7 ≤ 0))) (some (.out (.inr 12))) (some (.go ((w64 (x1.1 + 1)), v4)))))) (some (.out (.inl ())))
noncomputable def curve_Check (p1 : Curve) : Option Int :=
  cond (decide ((p1.Pts.length : Int) < 2)) (some 6) (cond (decide ((p1.Pts.length : Int) > 16)) (some 5) ((curve_fair p1.Pts).bind fun v1 => cond (!v1) (some 2) (thenS (loop (curve_Check_l1 p1) (0, (CurveVector.mk 0 0))) (fun _ => some 0) (fun r => some r))))

/-- kerbstone/curve.Check -/
def ac_curve_Check : AC := (.seq (.reg [oo 1 (.box 24 true (.t 0)), oo 2 (.mv (ci 0))]) (.seq (.block 0 (.seq (.reg [oo 9 (.fieldA 0 (.t 1)), oo 10 (.load 1 false (.t 9)), oo 11 (.len (.t 10)), oo 12 (.bin .lss (.t 11) (ci 2)), oo 8 (.mv (.t 12))]) (.cond (.t 8) (.seq (.reg [oo 2 (.mv (ci 6))]) .ret) (.seq (.reg [oo 14 (.fieldA 0 (.t 1)), oo 15 (.load 1 false (.t 14)), oo 16 (.len (.t 15)), oo 17 (.bin .gtr (.t 16) (ci 16)), oo 13 (.mv (.t 17))]) (.cond (.t 13) (.seq (.reg [oo 2 (.mv (ci 5))]) .ret) (.seq (.reg [oo 19 (.fieldA 0 (.t 1)), oo 20 (.load 1 false (.t 19)), oo 21 (.call (cf 59) [(.t 20)]), oo 22 (.un .not (.t 21)), oo 18 (.mv (.t 22))]) (.cond (.t 18) (.seq (.reg [oo 2 (.mv (ci 2))]) .ret) .skip))))))) (.seq (.reg [oo 3 (.alloc 78 [z0, z0])]) (.seq (.seq (.reg [oo 23 (.fieldA 0 (.t 1)), oo 24 (.load 1 false (.t 23)), oo 25 (.len (.t 24)), oo 26 (.bin .sub (.t 25) (ci 1)), oo 27 (.mv (ci 0))]) (.block 1 (.loop (.seq (.reg [oo 28 (.bin .lss (.t 27) (.t 26))]) (.seq (.cond (.t 28) .skip (.exit 1)) (.seq (.block 2 (.seq (.reg [oo 29 (.mv (.t 27)), oo 4 (.mv (.t 29))]) (.seq (.draw [oo 30 (.fieldA 0 (.t 1)), oo 31 (.load 1 false (.t 30)), oo 32 (.mv (.t 4)), oo 33 (.idxS 2 (.t 31) (.t 32)), oo 34 (.load 2 true (.t 33)), oo 35 (.fieldA 0 (.t 1)), oo 36 (.load 1 false (.t 35)), oo 37 (.mv (.t 4)), oo 38 (.bin .add (.t 37) (ci 1)), oo 39 (.idxS 2 (.t 36) (.t 38)), oo 40 (.load 2 true (.t 39)), oo 41 (.call (cf 60) [(.t 34), (.t 40)]), oo 5 (.alloc 78 [z0, z0]), oe (.store 2 (.t 5) (.t 41))] []) (.seq (.reg [oo 43 (.load 2 true (.t 5)), oo 44 (.load 2 true (.t 5)), oo 45 (.call (cf 62) [(.t 43), (.t 44)]), oo 46 (.call (cf 61) [(.t 45)]), oo 42 (.mv (.t 46)), oo 47 (.ext (.t 42) 0), oo 48 (.ext (.t 42) 1), oo 6 (.mv (.t 47)), oo 7 (.mv (.t 48))]) (.seq (.block 3 (.seq (.reg [oo 50 (.mv (.t 7)), oo 51 (.un .not (.t 50)), oo 49 (.mv (.t 51))]) (.cond (.t 49) (.seq (.reg [oo 2 (.mv (ci 3))]) .ret) (.seq (.reg [oo 53 (.mv (.t 6)), oo 54 (.bin .lss (.t 53) (ci 1000)), oo 55 (.mv (.t 54)), oh 56 (.mv (.t 6)) 55, oh 57 (.bin .gtr (.t 56) (ci 1048576)) 55, oo 58 (.pick (.t 55) (.c (.v (.bool true))) (.t 57)), oo 52 (.mv (.t 58))]) (.cond (.t 52) (.seq (.reg [oo 2 (.mv (ci 2))]) .ret) (.seq (.reg [oo 60 (.mv (.t 4)), oo 61 (.bin .gtr (.t 60) (ci 0)), oo 62 (.mv (.t 61)), og 63 (.load 2 true (.t 3)) 62, og 64 (.load 2 true (.t 5)) 62, og 65 (.call (cf 62) [(.t 63), (.t 64)]) 62, og 66 (.bin .leq (.t 65) (ci 0)) 62, oo 67 (.pick (.t 62) (.t 66) (.c zf)), oo 59 (.mv (.t 67))]) (.cond (.t 59) (.seq (.reg [oo 2 (.mv (ci 12))]) .ret) .skip))))))) (.reg [oo 68 (.load 2 true (.t 5)), oe (.store 2 (.t 3) (.t 68))])))))) (.reg [oo 69 (.bin .add (.t 27) (ci 1)), oo 27 (.mv (.t 69))]))))))) (.seq (.reg [oo 2 (.mv (ci 0))]) .ret)))))
theorem fn_curve_Check : FnOK Try.prog 20 70 [.t 2] ac_curve_Check := ⟨_, _, Try.func20, rfl, Try.ntmps20, by kernel_rfl, ⟨fun _ => [], by kernel_rfl⟩, by kernel_rfl⟩
set_option maxHeartbeats 4000000 in
theorem curve_Check_ok (p1 : Curve) (r : Int) (h : curve_Check p1 = some r) : PCall Try.prog 20 [(.agg [(.list (List.map eSpot p1.Pts))])] (i64 r) := by
  refine l_call fn_curve_Check (nl rfl) ?_
  unfold curve_Check at h
  unfold ac_curve_Check
  refine l_sub (s0 := ⟨T [(0, (.d _))], G []⟩) (sbr rfl rfl) ?_
  refine lr (fun u1 hu1 => sn rfl rfl (sv rfl (s_nil (l_seq (l_block (lr (fun u2 hu2 => sp rfl rfl (sl rfl G_hit rfl (sd rfl (v_len rfl) (sv rfl (sv rfl (s_nil (cc rfl h (fun c1 h => ?_) (fun c1 h => ?_))))))))))))))
  · refine lr (fun u3 hu3 => sv rfl (s_nil (l_ret ?_)))
    obtain rfl := Option.some.inj h
    exact fin_ok (.inr rfl) (resD1 (res_t rfl) rf_d) (.refl _)
  · refine lr (fun u4 hu4 => sp rfl rfl (sl rfl G_hit rfl (sd rfl (v_len rfl) (sv rfl (sv rfl (s_nil (cc rfl h (fun c2 h => ?_) (fun c2 h => ?_))))))))
    · refine lr (fun u5 hu5 => sv rfl (s_nil (l_ret ?_)))
      obtain rfl := Option.some.inj h
      exact fin_ok (.inr rfl) (resD1 (res_t rfl) rf_d) (.refl _)
    · refine lr (fun u6 hu6 => sp rfl rfl (sl rfl G_hit rfl (bs h fun v1 hv1 h => s_call rfl rfl all2_refl (curve_fair_ok _  _ hv1) (.inl rfl) (s_val (.d (bo (!v1))) rfl rfl (sv rfl (s_nil (cc rfl h (fun c3 h => ?_) (fun c3 h => ?_))))))))
      · refine lr (fun u7 hu7 => sv rfl (s_nil (l_ret ?_)))
        obtain rfl := Option.some.inj h
        exact fin_ok (.inr rfl) (resD1 (res_t rfl) rf_d) (.refl _)
      · refine l_skip (l_end (lr (fun u8 hu8 => sn rfl rfl (s_nil (l_seq (lr (fun u9 hu9 => sp rfl rfl (sl rfl (gq rfl) rfl (sd rfl (v_len rfl) (sv rfl (sv rfl (s_nil (js h fun z1 hz1 h => l_join (fun s => ∃ (y1 : Unit) (g1 : Unit), z1 = .inl y1 ∧ Sb ⟨T [], G []⟩ s) ?_ ?_)))))))))))))
        · refine l_block (l_loop (curve_Check_l1 p1) (fun (x1 : (Int × CurveVector)) (g2 : Unit) => ⟨T [(1, (.ptr (1, u1) 0)), (3, (.ptr (3, u8) 0)), (26, (di (w64 ((p1.Pts.length : Int) - 1)))), (27, (di x1.1))], G [((1, u1), some (.box 24 [(dl eSpot p1.Pts)])), ((3, u8), some (.box 78 [(di x1.2.x), (di x1.2.y)]))]⟩) (0, (CurveVector.mk 0 0)) () _ hz1 (sbr rfl rfl) ?_)
          intro x1 g2 z2 hz2 ez2
          unfold curve_Check_l1 at hz2
          refine lr (fun u10 hu10 => sv rfl (s_nil (l_seq (cc rfl hz2 (fun c4 hz2 => ?_) (fun c4 hz2 => ?_)))))
          · refine l_skip (l_seq (l_block (lr (fun u11 hu11 => sv rfl (sv rfl (s_nil (l_seq (l_draw rfl fun u12 hu12 => sp rfl rfl (sl rfl G_hit rfl (sv rfl (bs hz2 fun v2 hv2 hz2 => sd rfl (v_idx rfl rfl hv2 rfl) (sd rfl (v_loadLG rfl hv2 rfl rfl) (sp rfl rfl (sl rfl G_hit rfl (sv rfl (sv rfl (bs hz2 fun v3 hv3 hz2 => sd rfl (v_idx rfl rfl hv3 rfl) (sd rfl (v_loadLG rfl hv3 rfl rfl) (bs hz2 fun v4 hv4 hz2 => s_call rfl rfl all2_refl (curve_from_ok _ _  _ hv4) (.inl rfl) (sn rfl rfl (sst rfl G_hit [(di v4.x), (di v4.y)] rfl (s_nil (l_seq (l_sub (s0 := ⟨T [(1, (.ptr _ _)), (3, (.ptr _ _)), (4, (.d _)), (5, (.ptr _ _)), (26, (.d _)), (27, (.d _))], G [((1, u1), some (.box 24 _)), ((3, u8), some (.box 78 _)), ((5, u12), some (.box 78 _))]⟩) (sbr rfl rfl) ?_))))))))))))))))))))))))
            refine l_reg fun u13 hu13 => sd rfl (v_loadG rfl (gq rfl) rfl rfl) (sd rfl (v_loadG rfl (gq rfl) rfl rfl) (bs hz2 fun v5 hv5 hz2 => s_call rfl rfl all2_refl (curve_vector_dot_ok _ _  _ hv5) (.inl rfl) (bs hz2 fun v6 hv6 hz2 => s_call rfl rfl all2_refl (curve_root_ok _  _ hv6) (.inl rfl) (sv rfl (sv rfl (sv rfl (sv rfl (sv rfl (s_nil (l_seq (l_block (lr (fun u14 hu14 => sv rfl (s_val (.d (bo (!v6.2))) rfl rfl (sv rfl (s_nil (cc rfl hz2 (fun c5 hz2 => ?_) (fun c5 hz2 => ?_))))))))))))))))))
            · refine lr (fun u15 hu15 => sv rfl (s_nil (l_ret ?_)))
              obtain rfl := Option.some.inj hz2
              obtain rfl := ez2 _ rfl
              refine ⟨nofun, awl_ret ?_⟩
              rw [Sum.elim_inr] at h
              obtain rfl := Option.some.inj h
              exact fin_ok (.inr rfl) (resD1 (res_t rfl) rf_d) (.refl _)
            · refine lr (fun u16 hu16 => sv rfl (sv rfl (sv rfl (gf rfl (fun _ => rfl) (gf rfl (vb rfl rfl rfl) (sd rfl (v_or rfl rfl (fun hc => gd_pos (not_t hc))) (sv rfl (s_nil (cc rfl hz2 (fun c6 hz2 => ?_) (fun c6 hz2 => ?_))))))))))
              · refine l_seq (l_sub (s0 := ⟨T [], G []⟩) (sbr rfl rfl) ?_)
                refine l_reg fun u17 hu17 => sv rfl (s_nil (l_ret ?_))
                obtain rfl := Option.some.inj hz2
                obtain rfl := ez2 _ rfl
                refine ⟨nofun, awl_ret ?_⟩
                rw [Sum.elim_inr] at h
                obtain rfl := Option.some.inj h
                exact fin_ok (.inr rfl) (resD1 (res_t rfl) rf_d) (.refl _)
              · refine l_seq (l_sub (s0 := ⟨T [(1, (.ptr _ _)), (3, (.ptr _ _)), (4, (.d _)), (5, (.ptr _ _)), (26, (.d _)), (27, (.d _))], G [((1, u1), some (.box 24 _)), ((3, u8), some (.box 78 _)), ((5, u12), some (.box 78 _))]⟩) (sbr rfl rfl) ?_)
                refine l_reg fun u18 hu18 => sv rfl (sv rfl (sv rfl (gt rfl (fun w3 => (v_loadG rfl (gq rfl) rfl rfl)) (gt rfl (fun w4 => (v_loadG rfl (gq rfl) rfl rfl)) (bs hz2 fun v7 hv7 hz2 => g_call _ (i64 v7) (gw_t rfl) (fun w5 => ⟨_, [(.d (.agg [(i64 x1.2.x), (i64 x1.2.y)])), (.d (.agg [(i64 v4.x), (i64 v4.y)]))], _, _, (by simp only [gd_pos w5]; rfl), rfl, all2_refl, curve_vector_dot_ok _ _  _ (cond_t w5 hv7), (.inl rfl)⟩) ?_)))))
                refine gt rfl (vb rfl rfl rfl) (sa rfl rfl rfl (sv rfl (s_nil (cc rfl hz2 (fun c7 hz2 => ?_) (fun c7 hz2 => ?_)))))
                · refine lr (fun u19 hu19 => sv rfl (s_nil (l_ret ?_)))
                  obtain rfl := Option.some.inj hz2
                  obtain rfl := ez2 _ rfl
                  refine ⟨nofun, awl_ret ?_⟩
                  rw [Sum.elim_inr] at h
                  obtain rfl := Option.some.inj h
                  exact fin_ok (.inr rfl) (resD1 (res_t rfl) rf_d) (.refl _)
                · refine l_skip (l_end (l_reg fun u20 hu20 => sd rfl (v_loadG rfl (gq rfl) rfl rfl) (sst rfl (gq rfl) [(di v4.x), (di v4.y)] rfl (s_nil (l_end (l_reg fun u21 hu21 => sv rfl (sv rfl (s_nil (l_nil ?_)))))))))
                  obtain rfl := Option.some.inj hz2
                  exact ⟨rfl, (), (sbr rfl rfl)⟩
          · refine l_exitN rfl ?_
            obtain rfl := Option.some.inj hz2
            obtain rfl := ez2 _ rfl
            refine ⟨nofun, awl_pop rfl (l_j ?_)⟩
            exact ⟨_, (), rfl, (sbr rfl rfl)⟩
        · rintro _ ⟨y1, g1, rfl, q1⟩
          rw [Sum.elim_inl] at h
          refine l_sub q1 (lr (fun u22 hu22 => sv rfl (s_nil (l_ret ?_))))
          obtain rfl := Option.some.inj h
          exact fin_ok (.inr rfl) (resD1 (res_t rfl) rf_d) (.refl _)


/-- kerbstone/curve.pieces$1 -/
def ac_curve_pieces_1 : AC := (.seq (.reg [oo 3 (.mv (ci 0))]) (.seq (.reg [oo 8 (.fieldA 0 (.t 1)), oo 9 (.load 1 false (.t 8)), oo 10 (.len (.t 9)), oo 11 (.bin .sub (.t 10) (ci 1)), oo 12 (.mv (ci 0))]) (.block 0 (.loop (.seq (.reg [oo 13 (.bin .lss (.t 12) (.t 11))]) (.seq (.cond (.t 13) .skip (.exit 0)) (.seq (.block 1 (.seq (.reg [oo 14 (.mv (.t 12)), oo 4 (.mv (.t 14))]) (.seq (.draw [oo 15 (.fieldA 0 (.t 1)), oo 16 (.load 1 false (.t 15)), oo 17 (.mv (.t 4)), oo 18 (.idxS 2 (.t 16) (.t 17)), oo 19 (.load 2 true (.t 18)), oo 20 (.fieldA 0 (.t 1)), oo 21 (.load 1 false (.t 20)), oo 22 (.mv (.t 4)), oo 23 (.bin .add (.t 22) (ci 1)), oo 24 (.idxS 2 (.t 21) (.t 23)), oo 25 (.load 2 true (.t 24)), oo 26 (.call (cf 60) [(.t 19), (.t 25)]), oo 5 (.alloc 78 [z0, z0]), oe (.store 2 (.t 5) (.t 26))] []) (.seq (.reg [oo 28 (.load 2 true (.t 5)), oo 29 (.load 2 true (.t 5)), oo 30 (.call (cf 62) [(.t 28), (.t 29)]), oo 31 (.call (cf 61) [(.t 30)]), oo 27 (.mv (.t 31)), oo 32 (.ext (.t 27) 0), oo 33 (.ext (.t 27) 1), oo 6 (.mv (.t 32)), oo 7 (.mv (.t 33))]) (.seq (.seq (.drawB [oo 34 (.mv (.t 0)), oo 35 (.mv (.t 4)), oo 36 (.fieldA 0 (.t 1)), oo 37 (.load 1 false (.t 36)), oo 38 (.mv (.t 4)), oo 39 (.idxS 2 (.t 37) (.t 38)), oo 40 (.load 2 true (.t 39)), oo 41 (.load 2 true (.t 5)), oo 42 (.mv (.t 6)), oo 43 (.mv (.t 3)), oo 44 (.build [z0, z0, z0, z0, z0, z0] [(0, 2, (.t 40)), (2, 2, (.t 41)), (4, 1, (.t 42)), (5, 1, (.t 43))]), oo 45 (.icall (.t 34) [(.t 35), (.t 44)]), oo 46 (.un .not (.t 45))] 11 []) (.cond (.t 46) .ret .skip)) (.reg [oo 47 (.mv (.t 3)), oo 48 (.mv (.t 6)), oo 49 (.bin .add (.t 47) (.t 48)), oo 3 (.mv (.t 49))])))))) (.reg [oo 50 (.bin .add (.t 12) (ci 1)), oo 12 (.mv (.t 50))]))))))))
theorem fn_curve_pieces_1 : FnOK Try.prog 86 51 [] ac_curve_pieces_1 := ⟨_, _, Try.func86, rfl, Try.ntmps86, by kernel_rfl, ⟨fun r => if r == 6 then [11] else [], by kernel_rfl⟩, by kernel_rfl⟩

/-- The pieces of a chain of points, from a number on. -/
noncomputable def piecesGo (pts : List Spot) : Nat → Nat → Int → Option (List (Int × CurvePiece))
  | 0, _, _ => some []
  | n + 1, i, start => (pts[i]?).bind fun p => (pts[i + 1]?).bind fun q => (curve_from p q).bind fun v => (curve_vector_dot v v).bind fun d => (curve_root d).bind fun r =>
    (piecesGo pts n (i + 1) (w64 (start + r.1))).bind fun l => some (((i : Int), CurvePiece.mk p v r.1 start) :: l)
noncomputable def piecesC (pts : List Spot) : Option (List (Int × CurvePiece)) := if pts.length ≤ 1000000 then piecesGo pts (pts.length - 1) 0 0 else none

/-- kerbstone/curve.pieces -/
def ac_curve_pieces : AC := (.seq (.reg [oo 1 (.box 24 true (.t 0)), oo 2 (.mv (.c (.v .nilFunc)))]) (.seq (.reg [oo 3 (.mkfn (.func 86) [] [(.t 1)]), oo 2 (.mv (.t 3))]) .ret))
theorem fn_curve_pieces : FnOK Try.prog 66 4 [.t 2] ac_curve_pieces := ⟨_, _, Try.func66, rfl, Try.ntmps66, by kernel_rfl, ⟨fun _ => [], by kernel_rfl⟩, by kernel_rfl⟩
abbrev ePiece (a : Int × CurvePiece) : List D := [i64 a.1, .agg [i64 a.2.p.X, i64 a.2.p.Y, i64 a.2.v.x, i64 a.2.v.y, i64 a.2.l, i64 a.2.start]]
theorem pieces_clos (c : Curve) : PCall Try.prog 66 [.agg [.list (List.map eSpot c.Pts)]] (.fn (.func 86) [] [.bp [.list (List.map eSpot c.Pts)] 0]) := by
  refine pcall_of fn_curve_pieces (by simp) ?_
  unfold ac_curve_pieces
  refine aw_seq (aw_reg fun u hu => ?_)
  refine rw_new (.ptr _ _) _ rfl rfl ?_
  refine rw_val (.d _) rfl rfl ?_
  refine rw_nil ?_
  refine aw_seq (aw_reg fun u' hu' => ?_)
  refine rw_val (.fn _ _ _) rfl rfl ?_
  refine rw_val (.fn _ _ _) rfl rfl ?_
  refine rw_nil ?_
  refine aw_ret ⟨.inr rfl, ?_⟩
  refine resD1 (res_t (v := .fn _ _ _) rfl) ?_
  exact rf_fn rfL_nil (rfL_cons (rf_ptr (by simp only [upd, if_true]; rfl) (rfL_cons rf_d rfL_nil)) rfL_nil)
theorem spot_get (ps : List Spot) (n : Int) (i : Nat) (p : Spot) (hn : n = i) (h : ps[i]? = some p) : (List.map eSpot ps)[n.toNat]? = some (eSpot p) := by
  subst hn
  rw [Int.toNat_natCast, List.getElem?_map, h]; rfl
theorem i64_id {n : Int} (h : -9223372036854775808 ≤ n ∧ n ≤ 9223372036854775807) : w64 n = n := Go.IntWalk.i64_in n h
theorem piecesGo_length (pts : List Spot) : ∀ n i s L, piecesGo pts n i s = some L → L.length = n := by
  intro n
  induction n with
  | zero => intro i s L h; cases h; rfl
  | succ n ih =>
    intro i s L h
    rw [piecesGo] at h
    obtain ⟨p, hp, h⟩ := bind_some h
    obtain ⟨q, hq, h⟩ := bind_some h
    obtain ⟨v, hv, h⟩ := bind_some h
    obtain ⟨d, hd, h⟩ := bind_some h
    obtain ⟨r, hr, h⟩ := bind_some h
    obtain ⟨l, hl, h⟩ := bind_some h
    cases h
    rw [List.length_cons, ih _ _ _ hl]
theorem pieces_iter {pts : List Spot} {L : List (Int × CurvePiece)} (h : piecesC pts = some L) : IterOK Try.prog (.fn (.func 86) [] [.bp [.list (List.map eSpot pts)] 0]) (L.map ePiece) := by
  unfold piecesC at h
  split at h
  case isFalse => cases h
  rename_i hlen
  refine ⟨86, [], _, rfl, ?_⟩
  intro k h0 Inv Stop hi0 hy
  refine icall_of fn_curve_pieces_1 (by simp) ?_
  unfold ac_curve_pieces_1
  refine aw_seq (aw_reg fun u hu => ?_)
  refine rw_val (.d _) rfl rfl ?_
  refine rw_nil ?_
  refine aw_seq (aw_reg fun u hu => ?_)
  refine rw_val (.d _) rfl rfl ?_
  refine rw_val (.d _) rfl rfl ?_
  refine rw_val (.d (i64 pts.length)) rfl (v_len (f := eSpot) rfl) ?_
  refine rw_val (.d _) rfl rfl ?_
  refine rw_val (.d _) rfl rfl ?_
  refine rw_nil ?_
  refine aw_block ?_
  refine aw_loopS (α := Nat × Int × Heap) (fun x => ⟨T [(0, .yld k), (1, .d (.bp [.list (List.map eSpot pts)] 0)), (3, .d (i64 x.2.1)), (11, .d (i64 (w64 (pts.length - 1)))), (12, .d (i64 x.1))], x.2.2⟩) (fun x => pts.length - x.1)
    (fun x => Inv x.1 x.2.2 ∧ x.1 ≤ pts.length - 1 ∧ piecesGo pts (pts.length - 1 - x.1) x.1 x.2.1 = some (L.drop x.1)) (0, 0, h0) ⟨hi0, by omega, h⟩ (sub_eq ⟨rfl, rfl, rfl, rfl, rfl, trivial⟩ fun _ _ h => h) ?_
  rintro ⟨i, start, hh⟩ ⟨hinv, hi, hgo⟩
  dsimp only at hinv hi hgo ⊢
  refine aw_seq (aw_reg fun u hu => ?_)
  refine rw_val (.d _) rfl rfl ?_
  refine rw_nil ?_
  refine aw_seq ?_
  refine aw_condD rfl (fun hlt => ?_) (fun hlt => ?_)
  · refine aw_skip ?_
    have hlen1 : w64 ((pts.length : Int) - 1) = pts.length - 1 := i64_id (by omega)
    rw [hlen1] at hlt
    have hi1 : i + 1 < pts.length := by omega
    have hw1 : IntKind.i64.wrap ((i : Int) + 1) = (i : Int) + 1 := i64_id (by omega)
    obtain ⟨m, hm⟩ : ∃ m, pts.length - 1 - i = m + 1 := ⟨pts.length - 1 - i - 1, by omega⟩
    rw [hm, piecesGo] at hgo
    obtain ⟨p, hp, hgo⟩ := bind_some hgo
    obtain ⟨q, hq, hgo⟩ := bind_some hgo
    obtain ⟨v, hv, hgo⟩ := bind_some hgo
    obtain ⟨d, hd, hgo⟩ := bind_some hgo
    obtain ⟨r, hr, hgo⟩ := bind_some hgo
    obtain ⟨l, hl, hgo⟩ := bind_some hgo
    have hgo : ((i : Int), CurvePiece.mk p v r.1 start) :: l = L.drop i := Option.some.inj hgo
    have hLi : L[i]? = some ((i : Int), CurvePiece.mk p v r.1 start) := by
      have := congrArg (fun z => z[0]?) hgo
      simpa using this.symm
    have hLd : L.drop (i + 1) = l := by
      have := congrArg (fun z => z.drop 1) hgo
      simpa using this.symm
    have hin : ∀ (p : Spot) (n : Int) (j : Nat), n = j → pts[j]? = some p → (List.map eSpot pts)[n.toNat]? = some (eSpot p) := fun p n j => spot_get pts n j p
    refine aw_seq ?_
    refine aw_block ?_
    refine aw_seq (aw_reg fun u hu => ?_)
    refine rw_val (.d _) rfl rfl ?_
    refine rw_val (.d _) rfl rfl ?_
    refine rw_nil ?_
    refine aw_seq (aw_draw rfl fun u hu => ?_)
    refine rw_val (.d _) rfl rfl ?_
    refine rw_val (.d _) rfl rfl ?_
    refine rw_val (.d _) rfl rfl ?_
    refine rw_idx _ _ _ _ rfl rfl (Int.natCast_nonneg i) (hin p _ i rfl hp) rfl ?_
    refine rw_loadLG _ _ _ _ _ rfl (hin p _ i rfl hp) (by simp) rfl ?_
    refine rw_val (.d _) rfl rfl ?_
    refine rw_val (.d _) rfl rfl ?_
    refine rw_val (.d _) rfl rfl ?_
    refine rw_val (.d _) rfl rfl ?_
    refine rw_idx _ _ _ _ rfl rfl (by rw [hw1]; omega) (hin q _ (i + 1) (by rw [hw1]; rfl) hq) rfl ?_
    refine rw_loadLG _ _ _ _ _ rfl (hin q _ (i + 1) (by rw [hw1]; rfl) hq) (by simp) rfl ?_
    refine rw_call rfl rfl (curve_from_ok p q _ hv) (.inl rfl) ?_
    refine rw_new (.ptr _ _) _ rfl rfl ?_
    refine rw_store _ _ _ _ _ rfl rfl rfl (by simp only [upd, if_true]; rfl) (by simp) ?_
    refine rw_nil ?_
    refine aw_seq (aw_reg fun u' hu' => ?_)
    refine rw_loadG _ _ _ _ (.d (.agg [i64 v.x, i64 v.y])) rfl (by simp only [upd, if_true]; rfl) (by simp [setL]) rfl ?_
    refine rw_loadG _ _ _ _ (.d (.agg [i64 v.x, i64 v.y])) rfl (by simp only [upd, if_true]; rfl) (by simp [setL]) rfl ?_
    refine rw_call rfl rfl (curve_vector_dot_ok v v _ hd) (.inl rfl) ?_
    refine rw_call rfl rfl (curve_root_ok d _ hr) (.inl rfl) ?_
    refine rw_val (.d _) rfl rfl ?_
    refine rw_val (.d _) rfl rfl ?_
    refine rw_val (.d _) rfl rfl ?_
    refine rw_val (.d _) rfl rfl ?_
    refine rw_val (.d _) rfl rfl ?_
    refine rw_nil ?_
    refine aw_seq (aw_seq ?_)
    refine aw_drawB rfl fun u2 hu2 => ?_
    simp only [List.take, List.drop]
    refine rw_val (.yld _) rfl rfl ?_
    refine rw_val (.d _) rfl rfl ?_
    refine rw_val (.d _) rfl rfl ?_
    refine rw_val (.d _) rfl rfl ?_
    refine rw_val (.d _) rfl rfl ?_
    refine rw_idx _ _ _ _ rfl rfl (Int.natCast_nonneg i) (hin p _ i rfl hp) rfl ?_
    refine rw_loadLG _ _ _ _ _ rfl (hin p _ i rfl hp) (by simp) rfl ?_
    refine rw_loadG _ _ _ _ (.d (.agg [i64 v.x, i64 v.y])) rfl (by simp only [upd, if_true]; rfl) (by simp [setL]) rfl ?_
    refine rw_val (.d _) rfl rfl ?_
    refine rw_val (.d _) rfl rfl ?_
    refine rw_val (.d _) rfl rfl ?_
    refine rw_nil ?_
    intro u3 hu3
    refine rw_yield k ((ePiece ((i : Int), CurvePiece.mk p v r.1 start)).map .d) rfl rfl ?_
    refine YCall.weak (sub_new hu (sub_new hu fun _ _ h => h)) ((hy i hh _ (by rw [List.getElem?_map, hLi]; rfl) hinv).mono ?_)
    rintro v' h' (⟨rfl, hin⟩ | ⟨rfl, hst⟩)
    · intro u4 hu4
      refine rw_val (.d _) rfl rfl ?_
      refine rw_nil ?_
      refine aw_condE (t := false) rfl (fun h => by cases h) (fun _ => ?_)
      refine aw_skip ?_
      refine aw_reg fun u hu => ?_
      refine rw_val (.d _) rfl rfl ?_
      refine rw_val (.d _) rfl rfl ?_
      refine rw_val (.d _) rfl rfl ?_
      refine rw_val (.d _) rfl rfl ?_
      refine rw_nil ?_
      refine aw_reg fun u hu => ?_
      refine rw_val (.d _) rfl rfl ?_
      refine rw_val (.d _) rfl rfl ?_
      refine rw_nil ?_
      refine ⟨(i + 1, w64 (start + r.1), h'), ⟨hin, by dsimp only; omega, ?_⟩, by dsimp only; omega, sub_eq ⟨rfl, rfl, rfl, rfl, ?_, trivial⟩ fun _ _ h => h⟩
      · dsimp only
        rw [hLd, show pts.length - 1 - (i + 1) = m by omega]; exact hl
      · show AV.d (i64 (IntKind.i64.wrap ((i : Int) + 1))) = _
        rw [hw1]; rfl
    · intro u4 hu4
      refine rw_val (.d _) rfl rfl ?_
      refine rw_nil ?_
      refine aw_condE (t := true) rfl (fun _ => ?_) (fun h => by cases h)
      refine aw_ret ?_
      dsimp only
      exact ⟨Or.inr trivial, AV.tup [], rfl, Or.inr hst⟩
  · refine aw_exit ?_
    have hlen1 : 1 ≤ pts.length → w64 ((pts.length : Int) - 1) = pts.length - 1 := fun _ => i64_id (by omega)
    have : i = pts.length - 1 := by
      by_cases h : 1 ≤ pts.length
      · rw [hlen1 h] at hlt; omega
      · omega
    subst this
    rw [Nat.sub_self, piecesGo] at hgo
    have hL : (L.map ePiece).length = pts.length - 1 := by
      have h1 : L.drop (pts.length - 1) = [] := (Option.some.inj hgo).symm
      have h2 := List.drop_eq_nil_iff.1 h1
      rw [List.length_map]
      refine Nat.le_antisymm h2 ?_
      exact Nat.le_of_eq (piecesGo_length _ _ _ _ _ h).symm
    exact ⟨.inl rfl, _, rfl, .inl (by rw [hL]; exact hinv)⟩

noncomputable def curve_Pieces_l1 (x1 : (List Int)) (a1 : (Int × CurvePiece)) : Option (Stp (List Int) (List Int)) :=
  (appc x1 [a1.2.l]).bind fun v3 => some (.go v3)
noncomputable def curve_Pieces (p1 : Curve) : Option (List Int) :=
  (curve_Check p1).bind fun v1 => cond (v1 != 0) (some []) (((piecesC p1.Pts).bind fun v2 => loopL (curve_Pieces_l1) (fun (x1 : (List Int)) => x1) v2 []).bind fun y1 => some y1)

/-- kerbstone/curve.Pieces -/
def ac_curve_Pieces : AC := (.seq (.reg [oo 1 (.box 24 true (.t 0)), oo 2 (.mv (.c .nilS))]) (.seq (.seq (.reg [oo 6 (.load 1 true (.t 1)), oo 7 (.call (cf 20) [(.t 6)]), oo 8 (.bin .neq (.t 7) (ci 0))]) (.cond (.t 8) (.seq (.reg [oo 2 (.mv (.c .nilS))]) .ret) .skip)) (.seq (.reg [oo 3 (.alloc 32 [.nilS])]) (.seq (.seq (.reg [oo 9 (.load 1 true (.t 1)), oo 10 (.call (cf 66) [(.t 9)])]) (.block 0 (.rangeF (.t 10) [11, 12] (.reg [oo 5 (.alloc 89 [z0, z0, z0, z0, z0, z0]), oe (.store 6 (.t 5) (.t 12))]) (.block 1 (.reg [oo 13 (.load 1 false (.t 3)), oo 14 (.fieldA 4 (.t 5)), oo 15 (.load 1 false (.t 14)), oo 16 (.dslice 2 1 1 [z0] [(0, 1, (.t 15))]), oo 17 (.append 32 2 1 (.t 13) (.t 16)), oe (.store 1 (.t 3) (.t 17))]))))) (.seq (.reg [oo 18 (.load 1 false (.t 3)), oo 2 (.mv (.t 18))]) .ret)))))
theorem fn_curve_Pieces : FnOK Try.prog 25 19 [.t 2] ac_curve_Pieces := ⟨_, _, Try.func25, rfl, Try.ntmps25, by kernel_rfl, ⟨fun r => if r == 6 then [1003] else [], by kernel_rfl⟩, by kernel_rfl⟩
set_option maxHeartbeats 4000000 in
theorem curve_Pieces_ok (p1 : Curve) (r : (List Int)) (h : curve_Pieces p1 = some r) : PCall Try.prog 25 [(.agg [(.list (List.map eSpot p1.Pts))])] (.list (List.map eInt_i64 r)) := by
  refine l_call fn_curve_Pieces (nl rfl) ?_
  unfold curve_Pieces at h
  unfold ac_curve_Pieces
  refine l_sub (s0 := ⟨T [(0, (.d _))], G []⟩) (sbr rfl rfl) ?_
  refine lr (fun u1 hu1 => sn rfl rfl (sv rfl (s_nil (l_seq (lr (fun u2 hu2 => sd rfl (v_loadG rfl G_hit rfl rfl) (bs h fun v1 hv1 h => s_call rfl rfl all2_refl (curve_Check_ok _  _ hv1) (.inl rfl) (sv rfl (s_nil (cc rfl h (fun c1 h => ?_) (fun c1 h => ?_)))))))))))
  · refine lr (fun u3 hu3 => sv rfl (s_nil (l_ret ?_)))
    obtain rfl := Option.some.inj h
    exact fin_ok (.inr rfl) (resD1 (res_t rfl) rf_d) DLe.nil
  · refine l_skip (lr (fun u4 hu4 => sn rfl rfl (s_nil (l_seq (lr (fun u5 hu5 => sd rfl (v_loadG rfl (gq rfl) rfl rfl) (s_call rfl rfl all2_refl (pieces_clos p1) (.inl rfl) (s_nil (bs h fun y1 hy1 h => l_join (fun s => ∃ g1 : Nat, Sb ⟨T [(3, (.ptr (3, u4) 0))], G [((3, u4), some (.box 32 [(oS y1 (17, g1))])), ((17, g1), oB 2 1 eInt_i64 y1)]⟩ s) ?_ ?_)))))))))
    · refine l_block (bs hy1 fun v2 hv2 hy1 => l_sub (s0 := ⟨T [(3, (.ptr _ _)), (10, (.d _))], G [((3, u4), some (.box 32 _))]⟩) (sbr rfl rfl) ?_)
      refine l_rangeL (.fn (.func 86) [] [(.bp [(.list (List.map eSpot p1.Pts))] 0)]) ePiece v2 (curve_Pieces_l1) (fun (x1 : (List Int)) => x1) (fun (x1 : (List Int)) (g2 : Nat) => [((3, u4), some (.box 32 [(oS x1 (17, g2))])), ((17, g2), oB 2 1 eInt_i64 x1)]) [] 0 _ rfl (pieces_iter hv2) (fun _ => rfl) hy1 (sb_of trivial (sbG_some G_hit (.of rfl) (sbG_nil trivial))) nofun ?_ ?_
      · intro u7 hu7 hku7
        refine ⟨fun x1 g2 => (G_skip rfl (G_skip rfl rfl)), ?_⟩
        intro r1 x1 g2 a1 z1 hrr1 hz1 ez1
        unfold curve_Pieces_l1 at hz1
        show AWL _ _ _ _ _ _ ⟨T [(12, (.d (.agg (eCurvePiece a1.2)))), (11, (di a1.1)), (3, (.ptr (3, u4) 0)), (10, (.d (.fn (.func 86) [] [(.bp [(.list (List.map eSpot p1.Pts))] 0)])))], G [((1000000, u7), some (.obj (T [(3, (.ptr (3, u4) 0)), (10, (.d (.fn (.func 86) [] [(.bp [(.list (List.map eSpot p1.Pts))] 0)])))]) r1)), ((3, u4), some (.box 32 [(oS x1 (17, g2))])), ((17, g2), oB 2 1 eInt_i64 x1)]⟩
        refine l_reg fun u8 hu8 => sn rfl rfl (sst rfl G_hit (dCurvePiece a1.2) rfl (s_nil (l_j (mid_ok (gq rfl) ?_))))
        refine l_block (l_reg fun u9 hu9 => s_val (oS x1 (17, g2)) rfl (v_load rfl (gq rfl) rfl) (sp rfl rfl (sl rfl (gq rfl) rfl (s_val (dl eInt_i64 [a1.2.l]) rfl rfl (bs hz1 fun v3 hv3 hz1 => s_appendO eInt_i64 (17, g2) x1 a1.2.l [] _ (elems_list (fun _ => rfl)) rfl (gq rfl) hv3 (sst rfl (gq rfl) [(.sl (17, u9))] rfl (s_nil (l_end (l_nil ?_)))))))))
        obtain rfl := Option.some.inj hz1
        exact rnd_go (gq rfl) u9 (sbG_some G_hit (.box (.cons (.of (oS_ne (appc_ne hv3)).symm) .nil)) (sbG_own (gq rfl) trivial))
      · rintro x1 g2 _ rfl qx1
        refine l_end (l_j ?_)
        exact ⟨g2, (Sb.after qx1 (sb_of ⟨.of rfl, trivial⟩ (sbG_some G_hit (.of rfl) (sbG_oB (gq rfl) trivial))))⟩
    · rintro _ ⟨g1, q1⟩
      refine l_sub q1 (lr (fun u10 hu10 => s_val (oS y1 (17, g1)) rfl (v_load rfl G_hit rfl) (s_val (oS y1 (17, g1)) rfl rfl (s_nil (l_ret ?_)))))
      obtain rfl := Option.some.inj h
      exact fin_ok (.inr rfl) (resD1 (res_t rfl) (rf_oS (gq rfl))) oD_le

noncomputable def curve_Length_l1 (v1 : (List Int)) (x1 : (Int × Int)) : Option (Stp (Int × Int) Int) :=
  cond (decide (x1.2 < (v1.length : Int))) ((geti v1 x1.2).bind fun v2 => some (.go ((w64 (x1.1 + v2)), (w64 (x1.2 + 1))))) (some (.out x1.1))
noncomputable def curve_Length (p1 : Curve) : Option Int :=
  (curve_Pieces p1).bind fun v1 => (loop (curve_Length_l1 v1) (0, 0)).bind fun y1 => some y1

/-- kerbstone/curve.Length -/
def ac_curve_Length : AC := (.seq (.reg [oo 1 (.box 24 true (.t 0)), oo 2 (.mv (ci 0))]) (.seq (.reg [oo 3 (.mv (ci 0))]) (.seq (.seq (.reg [oo 6 (.load 1 true (.t 1)), oo 7 (.call (cf 25) [(.t 6)]), oo 8 (.len (.t 7)), oo 9 (.mv (ci 0))]) (.block 0 (.loop (.seq (.reg [oo 10 (.bin .lss (.t 9) (.t 8))]) (.seq (.cond (.t 10) .skip (.exit 0)) (.seq (.block 1 (.seq (.reg [oo 11 (.idxS 1 (.t 7) (.t 9)), oo 12 (.load 1 false (.t 11)), oo 5 (.mv (.t 12))]) (.reg [oo 13 (.mv (.t 3)), oo 14 (.mv (.t 5)), oo 15 (.bin .add (.t 13) (.t 14)), oo 3 (.mv (.t 15))]))) (.reg [oo 16 (.bin .add (.t 9) (ci 1)), oo 9 (.mv (.t 16))]))))))) (.seq (.reg [oo 17 (.mv (.t 3)), oo 2 (.mv (.t 17))]) .ret))))
theorem fn_curve_Length : FnOK Try.prog 22 18 [.t 2] ac_curve_Length := ⟨_, _, Try.func22, rfl, Try.ntmps22, by kernel_rfl, ⟨fun _ => [], by kernel_rfl⟩, by kernel_rfl⟩
set_option maxHeartbeats 4000000 in
theorem curve_Length_ok (p1 : Curve) (r : Int) (h : curve_Length p1 = some r) : PCall Try.prog 22 [(.agg [(.list (List.map eSpot p1.Pts))])] (i64 r) := by
  refine l_call fn_curve_Length (nl rfl) ?_
  unfold curve_Length at h
  unfold ac_curve_Length
  refine l_sub (s0 := ⟨T [(0, (.d _))], G []⟩) (sbr rfl rfl) ?_
  refine lr (fun u1 hu1 => sn rfl rfl (sv rfl (s_nil (lr (fun u2 hu2 => sv rfl (s_nil (l_seq (lr (fun u3 hu3 => sd rfl (v_loadG rfl G_hit rfl rfl) (bs h fun v1 hv1 h => s_call rfl rfl all2_refl (curve_Pieces_ok _  _ hv1) (.inl rfl) (sd rfl (v_len rfl) (sv rfl (s_nil (bs h fun y1 hy1 h => l_join (fun s => ∃ g1 : Unit, Sb ⟨T [(3, (di y1))], G []⟩ s) ?_ ?_))))))))))))))
  · refine l_block (l_loop (curve_Length_l1 v1) (fun (x1 : (Int × Int)) (g2 : Unit) => ⟨T [(3, (di x1.1)), (7, (dl eInt_i64 v1)), (8, (di (v1.length : Int))), (9, (di x1.2))], G []⟩) (0, 0) () _ hy1 (sbr rfl rfl) ?_)
    intro x1 g2 z1 hz1 ez1
    unfold curve_Length_l1 at hz1
    refine lr (fun u4 hu4 => sv rfl (s_nil (l_seq (cc rfl hz1 (fun c1 hz1 => ?_) (fun c1 hz1 => ?_)))))
    · refine l_skip (l_seq (l_block (lr (fun u5 hu5 => bs hz1 fun v2 hv2 hz1 => sd rfl (v_idx rfl rfl hv2 rfl) (sd rfl (v_loadL rfl hv2 rfl) (sv rfl (s_nil (l_reg fun u6 hu6 => sv rfl (sv rfl (sv rfl (sv rfl (s_nil (l_end (l_reg fun u7 hu7 => sv rfl (sv rfl (s_nil (l_nil ?_)))))))))))))))))
      obtain rfl := Option.some.inj hz1
      exact ⟨rfl, (), (sbr rfl rfl)⟩
    · refine l_exitN rfl ?_
      obtain rfl := Option.some.inj hz1
      obtain rfl := ez1 _ rfl
      refine ⟨nofun, awl_pop rfl (l_j ?_)⟩
      exact ⟨(), (sbr rfl rfl)⟩
  · rintro _ ⟨g1, q1⟩
    refine l_sub q1 (lr (fun u8 hu8 => sv rfl (sv rfl (s_nil (l_ret ?_)))))
    obtain rfl := Option.some.inj h
    exact fin_ok (.inr rfl) (resD1 (res_t rfl) rf_d) (.refl _)

noncomputable def curve_find_l1 (p2 : Int) (x1 : (Int × CurvePiece)) (a1 : (Int × CurvePiece)) : Option (Stp (Int × CurvePiece) (Int × CurvePiece)) :=
  cond ((a1.1 == 0) || (decide (a1.2.start ≤ p2))) (some (.go (a1.1, a1.2))) (some (.go (x1.1, x1.2)))
noncomputable def curve_find (p1 : Curve) (p2 : Int) : Option (Int × CurvePiece × Int) :=
  ((piecesC p1.Pts).bind fun v1 => loopL (curve_find_l1 p2) (fun (x1 : (Int × CurvePiece)) => (x1.1, x1.2)) v1 (0, (CurvePiece.mk (Spot.mk 0 0) (CurveVector.mk 0 0) 0 0))).bind fun y1 => some (y1.1, y1.2, (mm2 true 0 (mm2 false (w64 (p2 - y1.2.start)) y1.2.l)))

/-- kerbstone/curve.find -/
def ac_curve_find : AC := (.seq (.reg [oo 2 (.box 24 true (.t 0)), oo 3 (.box 2 false (.t 1)), oo 4 (.mv (ci 0)), oo 5 (.alloc 89 [z0, z0, z0, z0, z0, z0]), oo 6 (.mv (ci 0))]) (.seq (.reg [oo 7 (.alloc 3 [z0])]) (.seq (.reg [oo 8 (.alloc 89 [z0, z0, z0, z0, z0, z0])]) (.seq (.seq (.reg [oo 11 (.load 1 true (.t 2)), oo 12 (.call (cf 66) [(.t 11)])]) (.block 0 (.rangeF (.t 12) [13, 14] (.seq (.reg [oo 9 (.mv (.t 13))]) (.reg [oo 10 (.alloc 89 [z0, z0, z0, z0, z0, z0]), oe (.store 6 (.t 10) (.t 14))])) (.block 1 (.seq (.reg [oo 15 (.mv (.t 9)), oo 16 (.bin .eql (.t 15) (ci 0)), oo 17 (.mv (.t 16)), oh 18 (.fieldA 5 (.t 10)) 17, oh 19 (.load 1 false (.t 18)) 17, oh 20 (.load 1 false (.t 3)) 17, oh 21 (.bin .leq (.t 19) (.t 20)) 17, oo 22 (.pick (.t 17) (.c (.v (.bool true))) (.t 21))]) (.cond (.t 22) (.draw [oo 23 (.mv (.t 9)), oo 24 (.load 6 true (.t 10)), oe (.store 1 (.t 7) (.t 23)), oe (.store 6 (.t 8) (.t 24))] [(1, 2)]) .skip)))))) (.seq (.draw [oo 25 (.load 1 false (.t 7)), oo 26 (.load 6 true (.t 8)), oo 27 (.load 1 false (.t 3)), oo 28 (.fieldA 5 (.t 8)), oo 29 (.load 1 false (.t 28)), oo 30 (.bin .sub (.t 27) (.t 29)), oo 31 (.fieldA 4 (.t 8)), oo 32 (.load 1 false (.t 31)), oo 33 (.mm false (.t 30) [(.t 32)]), oo 34 (.mm true (ci 0) [(.t 33)]), oo 4 (.mv (.t 25)), oe (.store 6 (.t 5) (.t 26)), oo 6 (.mv (.t 34))] [(2, 11), (4, 11), (7, 11)]) .ret)))))
theorem fn_curve_find : FnOK Try.prog 69 35 [.t 4, .cell 5 6 true, .t 6] ac_curve_find := ⟨_, _, Try.func69, rfl, Try.ntmps69, by kernel_rfl, ⟨fun _ => [], by kernel_rfl⟩, by kernel_rfl⟩
set_option maxHeartbeats 4000000 in
theorem curve_find_ok (p1 : Curve) (p2 : Int) (r : (Int × CurvePiece × Int)) (h : curve_find p1 p2 = some r) : PCall Try.prog 69 [(.agg [(.list (List.map eSpot p1.Pts))]), (i64 p2)] (.tup [(i64 r.1), (.agg (eCurvePiece r.2.1)), (i64 r.2.2)]) := by
  refine l_call fn_curve_find (nl rfl) ?_
  unfold curve_find at h
  unfold ac_curve_find
  refine l_sub (s0 := ⟨T [(0, (.d _)), (1, (.d _))], G []⟩) (sbr rfl rfl) ?_
  refine lr (fun u1 hu1 => sn rfl rfl (sn rfl rfl (sv rfl (sn rfl rfl (sv rfl (s_nil (lr (fun u2 hu2 => sn rfl rfl (s_nil (lr (fun u3 hu3 => sn rfl rfl (s_nil (l_seq (lr (fun u4 hu4 => sd rfl (v_loadG rfl (gq rfl) rfl rfl) (s_call rfl rfl all2_refl (pieces_clos p1) (.inl rfl) (s_nil (bs h fun y1 hy1 h => l_join (fun s => ∃ g1 : Unit, Sb ⟨T [(3, (.ptr (3, u1) 0)), (5, (.ptr (5, u1) 0)), (7, (.ptr (7, u2) 0)), (8, (.ptr (8, u3) 0))], G [((3, u1), some (.box 2 [(di p2)])), ((5, u1), some (.box 89 [(di 0), (di 0), (di 0), (di 0), (di 0), (di 0)])), ((7, u2), some (.box 3 [(di y1.1)])), ((8, u3), some (.box 89 (dCurvePiece y1.2)))]⟩ s) ?_ ?_))))))))))))))))))
  · refine l_block (bs hy1 fun v1 hv1 hy1 => l_sub (s0 := ⟨T [(3, (.ptr _ _)), (5, (.ptr _ _)), (7, (.ptr _ _)), (8, (.ptr _ _)), (12, (.d _))], G [((3, u1), some (.box 2 _)), ((5, u1), some (.box 89 _)), ((7, u2), some (.box 3 _)), ((8, u3), some (.box 89 _))]⟩) (sbr rfl rfl) ?_)
    refine l_rangeL (.fn (.func 86) [] [(.bp [(.list (List.map eSpot p1.Pts))] 0)]) ePiece v1 (curve_find_l1 p2) (fun (x1 : (Int × CurvePiece)) => (x1.1, x1.2)) (fun (x1 : (Int × CurvePiece)) (g2 : Unit) => [((3, u1), some (.box 2 [(di p2)])), ((5, u1), some (.box 89 [(di 0), (di 0), (di 0), (di 0), (di 0), (di 0)])), ((7, u2), some (.box 3 [(di x1.1)])), ((8, u3), some (.box 89 (dCurvePiece x1.2)))]) (0, (CurvePiece.mk (Spot.mk 0 0) (CurveVector.mk 0 0) 0 0)) () _ rfl (pieces_iter hv1) (fun _ => rfl) hy1 (sbr rfl rfl) nofun ?_ ?_
    · intro u6 hu6 hku6
      refine ⟨fun x1 g2 => (G_skip rfl (G_skip rfl (G_skip rfl (G_skip rfl rfl)))), ?_⟩
      intro r1 x1 g2 a1 z1 hrr1 hz1 ez1
      unfold curve_find_l1 at hz1
      show AWL _ _ _ _ _ _ ⟨T [(14, (.d (.agg (eCurvePiece a1.2)))), (13, (di a1.1)), (3, (.ptr (3, u1) 0)), (5, (.ptr (5, u1) 0)), (7, (.ptr (7, u2) 0)), (8, (.ptr (8, u3) 0)), (12, (.d (.fn (.func 86) [] [(.bp [(.list (List.map eSpot p1.Pts))] 0)])))], G [((1000000, u6), some (.obj (T [(3, (.ptr (3, u1) 0)), (5, (.ptr (5, u1) 0)), (7, (.ptr (7, u2) 0)), (8, (.ptr (8, u3) 0)), (12, (.d (.fn (.func 86) [] [(.bp [(.list (List.map eSpot p1.Pts))] 0)])))]) r1)), ((3, u1), some (.box 2 [(di p2)])), ((5, u1), some (.box 89 [(di 0), (di 0), (di 0), (di 0), (di 0), (di 0)])), ((7, u2), some (.box 3 [(di x1.1)])), ((8, u3), some (.box 89 (dCurvePiece x1.2)))]⟩
      refine lr (fun u7 hu7 => sv rfl (s_nil (l_reg fun u8 hu8 => sn rfl rfl (sst rfl G_hit (dCurvePiece a1.2) rfl (s_nil (l_j (mid_ok (gq rfl) ?_)))))))
      refine l_block (lr (fun u9 hu9 => sv rfl (sv rfl (sv rfl (gp (gw_f rfl) (fun _ => rfl) (gf rfl (vl rfl (gq rfl) rfl) (gf rfl (fun w3 => (v_load rfl (gq rfl) rfl)) (gf rfl (fun w4 => (v_bin (gd_pos w4) (gd_pos w4) rfl)) (sd rfl (v_or rfl rfl (fun hc => gd_pos (not_t hc))) (s_nil (cc rfl hz1 (fun c1 hz1 => ?_) (fun c1 hz1 => ?_))))))))))))
      · refine l_sub (s0 := ⟨T [(7, (.ptr _ _)), (8, (.ptr _ _)), (9, (.d _)), (10, (.ptr _ _))], G [((7, u2), some (.box 3 _)), ((8, u3), some (.box 89 _)), ((10, u8), some (.box 89 _)), ((3, u1), some (.box 2 _)), ((5, u1), some (.box 89 _)), ((1000000, u6), some (.obj (T [(3, (.ptr (3, u1) 0)), (5, (.ptr (5, u1) 0)), (7, (.ptr (7, u2) 0)), (8, (.ptr (8, u3) 0)), (12, (.d (.fn (.func 86) [] [(.bp [(.list (List.map eSpot p1.Pts))] 0)])))]) { r1 with state := .busy }))]⟩) (sbr rfl rfl) ?_
        refine l_drawT fun u10 hu10 => t_val (.d _) rfl rfl (t_val (.d _) rfl (v_loadG rfl (gq rfl) rfl rfl) (t_store _ _ _ _ _ rfl rfl rfl G_hit (nl rfl) [(di a1.1)] rfl (t_store _ _ _ _ _ rfl rfl rfl (gq rfl) (nl rfl) (dCurvePiece a1.2) rfl (t_nil ⟨rfl, ?_⟩))))
        refine l_end (l_nil ?_)
        obtain rfl := Option.some.inj hz1
        exact rnd_go (gq rfl) () (sbG_some (gq rfl) (.of rfl) (sbG_some (gq rfl) (.of rfl) (sbG_some (gq rfl) (.of rfl) (sbG_some G_hit (.of rfl) trivial))))
      · refine l_skip (l_end (l_nil ?_))
        obtain rfl := Option.some.inj hz1
        exact rnd_go G_hit () (sbG_some (gq rfl) (.of rfl) (sbG_some (gq rfl) (.of rfl) (sbG_some (gq rfl) (.of rfl) (sbG_some (gq rfl) (.of rfl) trivial))))
    · rintro x1 g2 _ rfl qx1
      refine l_end (l_j ?_)
      exact ⟨(), (Sb.after qx1 (sbr rfl rfl))⟩
  · rintro _ ⟨g1, q1⟩
    refine l_sub q1 (l_seq (l_drawT fun u11 hu11 => t_val (.d _) rfl (v_load rfl (gq rfl) rfl) (t_val (.d _) rfl (v_loadG rfl (gq rfl) rfl rfl) (t_val (.d _) rfl (v_load rfl G_hit rfl) (t_val (.ptr _ _) rfl rfl (t_val (.d _) rfl (v_load rfl (gq rfl) rfl) (t_val (.d _) rfl rfl (t_val (.ptr _ _) rfl rfl (t_val (.d _) rfl (v_load rfl (gq rfl) rfl) (t_val (.d _) rfl rfl (t_val (.d _) rfl rfl (t_val (.d _) rfl rfl (t_store _ _ _ _ _ rfl rfl rfl (gq rfl) (nl rfl) (dCurvePiece y1.2) rfl (t_val (.d _) rfl rfl (t_nil ⟨rfl, ?_⟩)))))))))))))))
    refine l_ret ?_
    obtain rfl := Option.some.inj h
    exact fin_ok (.inr rfl) (resD3 (res_t rfl) (res_cellG rfl G_hit (nl rfl) rfl) (res_t rfl) rf_d rf_d rf_d) (.refl _)

noncomputable def curve_floor (p1 : Int) (p2 : Int) : Option Int :=
  (quoc .i64 p1 p2).bind fun v1 => (remc p1 p2).bind fun v2 => cond (decide (v2 < 0)) (some (w64 (v1 - 1))) (some v1)

/-- kerbstone/curve.floor -/
def ac_curve_floor : AC := (.seq (.reg [oo 4 (.mv (ci 0))]) (.seq (.reg [oo 6 (.mv (.t 0)), oo 7 (.mv (.t 1)), oo 8 (.bin .quo (.t 6) (.t 7)), oo 5 (.mv (.t 8))]) (.seq (.seq (.reg [oo 9 (.mv (.t 0)), oo 10 (.mv (.t 1)), oo 11 (.bin .rem (.t 9) (.t 10)), oo 12 (.bin .lss (.t 11) (ci 0))]) (.cond (.t 12) (.reg [oo 13 (.mv (.t 5)), oo 14 (.bin .sub (.t 13) (ci 1)), oo 5 (.mv (.t 14))]) .skip)) (.seq (.reg [oo 15 (.mv (.t 5)), oo 4 (.mv (.t 15))]) .ret))))
theorem fn_curve_floor : FnOK Try.prog 70 16 [.t 4] ac_curve_floor := ⟨_, _, Try.func70, rfl, Try.ntmps70, by kernel_rfl, ⟨fun _ => [], by kernel_rfl⟩, by kernel_rfl⟩
theorem curve_floor_ok (p1 : Int) (p2 : Int) (r : Int) (h : curve_floor p1 p2 = some r) : PCall Try.prog 70 [(i64 p1), (i64 p2)] (i64 r) := by
  refine l_call fn_curve_floor (nl rfl) ?_
  unfold curve_floor at h
  unfold ac_curve_floor
  refine l_sub (s0 := ⟨T [(0, (.d _)), (1, (.d _))], G []⟩) (sbr rfl rfl) ?_
  refine lr (fun u1 hu1 => sv rfl (s_nil (lr (fun u2 hu2 => sv rfl (sv rfl (bs h fun v1 hv1 h => sd rfl (v_quo rfl rfl hv1) (sv rfl (s_nil (l_seq (lr (fun u3 hu3 => sv rfl (sv rfl (bs h fun v2 hv2 h => sd rfl (v_rem rfl rfl hv2) (sv rfl (s_nil (cc rfl h (fun c1 h => ?_) (fun c1 h => ?_)))))))))))))))))
  · refine l_reg fun u4 hu4 => sv rfl (sv rfl (sv rfl (s_nil (lr (fun u5 hu5 => sv rfl (sv rfl (s_nil (l_ret ?_))))))))
    obtain rfl := Option.some.inj h
    exact fin_ok (.inr rfl) (resD1 (res_t rfl) rf_d) (.refl _)
  · refine l_skip (lr (fun u6 hu6 => sv rfl (sv rfl (s_nil (l_ret ?_)))))
    obtain rfl := Option.some.inj h
    exact fin_ok (.inr rfl) (resD1 (res_t rfl) rf_d) (.refl _)

noncomputable def curve_At (p1 : Curve) (p2 : Int) : Option Spot :=
  (curve_Check p1).bind fun v1 => cond (v1 != 0) (some (Spot.mk 0 0)) ((curve_find p1 (mm2 true 0 p2)).bind fun v2 => (curve_floor (w64 (v2.2.1.v.x * v2.2.2)) v2.2.1.l).bind fun v3 => (curve_floor (w64 (v2.2.1.v.y * v2.2.2)) v2.2.1.l).bind fun v4 => some (Spot.mk (w64 (v2.2.1.p.X + v3)) (w64 (v2.2.1.p.Y + v4))))

/-- kerbstone/curve.At -/
def ac_curve_At : AC := (.seq (.reg [oo 2 (.box 24 true (.t 0)), oo 4 (.alloc 43 [z0, z0])]) (.seq (.seq (.reg [oo 8 (.load 1 true (.t 2)), oo 9 (.call (cf 20) [(.t 8)]), oo 10 (.bin .neq (.t 9) (ci 0))]) (.cond (.t 10) (.seq (.reg [oo 11 (.build [z0, z0] []), oe (.store 2 (.t 4) (.t 11))]) .ret) .skip)) (.seq (.reg [oo 13 (.load 1 true (.t 2)), oo 14 (.mv (.t 1)), oo 15 (.mm true (ci 0) [(.t 14)]), oo 16 (.call (cf 69) [(.t 13), (.t 15)]), oo 12 (.mv (.t 16)), oo 17 (.ext (.t 12) 0), oo 18 (.ext (.t 12) 1), oo 19 (.ext (.t 12) 2), oo 6 (.alloc 89 [z0, z0, z0, z0, z0, z0]), oo 5 (.mv (.t 17)), oe (.store 6 (.t 6) (.t 18)), oo 7 (.mv (.t 19))]) (.seq (.draw [oo 20 (.fieldA 0 (.t 6)), oo 21 (.fieldA 0 (.t 20)), oo 22 (.load 1 false (.t 21)), oo 23 (.fieldA 2 (.t 6)), oo 24 (.fieldA 0 (.t 23)), oo 25 (.load 1 false (.t 24)), oo 26 (.mv (.t 7)), oo 27 (.bin .mul (.t 25) (.t 26)), oo 28 (.fieldA 4 (.t 6)), oo 29 (.load 1 false (.t 28)), oo 30 (.call (cf 70) [(.t 27), (.t 29)]), oo 31 (.bin .add (.t 22) (.t 30)), oo 32 (.fieldA 0 (.t 6)), oo 33 (.fieldA 1 (.t 32)), oo 34 (.load 1 false (.t 33)), oo 35 (.fieldA 2 (.t 6)), oo 36 (.fieldA 1 (.t 35)), oo 37 (.load 1 false (.t 36)), oo 38 (.mv (.t 7)), oo 39 (.bin .mul (.t 37) (.t 38)), oo 40 (.fieldA 4 (.t 6)), oo 41 (.load 1 false (.t 40)), oo 42 (.call (cf 70) [(.t 39), (.t 41)]), oo 43 (.bin .add (.t 34) (.t 42)), oo 44 (.build [z0, z0] [(0, 1, (.t 31)), (1, 1, (.t 43))]), oe (.store 2 (.t 4) (.t 44))] []) .ret))))
theorem fn_curve_At : FnOK Try.prog 31 45 [.cell 4 2 true] ac_curve_At := ⟨_, _, Try.func31, rfl, Try.ntmps31, by kernel_rfl, ⟨fun _ => [], by kernel_rfl⟩, by kernel_rfl⟩
set_option maxHeartbeats 4000000 in
theorem curve_At_ok (p1 : Curve) (p2 : Int) (r : Spot) (h : curve_At p1 p2 = some r) : PCall Try.prog 31 [(.agg [(.list (List.map eSpot p1.Pts))]), (i64 p2)] (.agg [(i64 r.X), (i64 r.Y)]) := by
  refine l_call fn_curve_At (nl rfl) ?_
  unfold curve_At at h
  unfold ac_curve_At
  refine l_sub (s0 := ⟨T [(0, (.d _)), (1, (.d _))], G []⟩) (sbr rfl rfl) ?_
  refine lr (fun u1 hu1 => sn rfl rfl (sn rfl rfl (s_nil (l_seq (lr (fun u2 hu2 => sd rfl (v_loadG rfl (gq rfl) rfl rfl) (bs h fun v1 hv1 h => s_call rfl rfl all2_refl (curve_Check_ok _  _ hv1) (.inl rfl) (sv rfl (s_nil (cc rfl h (fun c1 h => ?_) (fun c1 h => ?_)))))))))))
  · refine lr (fun u3 hu3 => sv rfl (sst rfl G_hit [(di 0), (di 0)] rfl (s_nil (l_ret ?_))))
    obtain rfl := Option.some.inj h
    exact fin_ok (.inr rfl) (resD1 (res_cellG rfl G_hit (nl rfl) rfl) rf_d) (.refl _)
  · refine l_skip (lr (fun u4 hu4 => sd rfl (v_loadG rfl (gq rfl) rfl rfl) (sv rfl (sv rfl (bs h fun v2 hv2 h => s_call rfl rfl all2_refl (curve_find_ok _ _  _ hv2) (.inl rfl) (sv rfl (sv rfl (sv rfl (sv rfl (sn rfl rfl (sv rfl (sst rfl G_hit (dCurvePiece v2.2.1) rfl (sv rfl (s_nil (l_seq (l_draw rfl fun u5 hu5 => sp rfl rfl (sp rfl rfl (sl rfl G_hit rfl (sp rfl rfl (sp rfl rfl (sl rfl G_hit rfl (sv rfl (sv rfl (sp rfl rfl (sl rfl G_hit rfl (bs h fun v3 hv3 h => s_call rfl rfl all2_refl (curve_floor_ok _ _  _ hv3) (.inl rfl) (sv rfl (sp rfl rfl (sp rfl rfl (sl rfl G_hit rfl (sp rfl rfl (sp rfl rfl (sl rfl G_hit rfl (sv rfl (sv rfl (sp rfl rfl (sl rfl G_hit rfl (bs h fun v4 hv4 h => s_call rfl rfl all2_refl (curve_floor_ok _ _  _ hv4) (.inl rfl) (sv rfl (sv rfl (sst rfl (gq rfl) [(di (w64 (v2.2.1.p.X + v3))), (di (w64 (v2.2.1.p.Y + v4)))] rfl (s_nil (l_ret ?_)))))))))))))))))))))))))))))))))))))))))))
    obtain rfl := Option.some.inj h
    exact fin_ok (.inr rfl) (resD1 (res_cellG rfl G_hit (nl rfl) rfl) rf_d) (.refl _)

noncomputable def law01_awake : Option Bool :=
  (law01_bent).bind fun v1 => (curve_Length v1).bind fun v2 => ((cond (v2 == 10000) (law01_bent) (some default))).bind fun v3 => ((cond (v2 == 10000) (curve_At v3 2500) (some default))).bind fun v4 => ((cond ((v2 == 10000) && (v4.X == 1500 && (v4.Y == 2000 && true))) (law01_of [0, 0, 1000, 1000]) (some default))).bind fun v5 => ((cond ((v2 == 10000) && (v4.X == 1500 && (v4.Y == 2000 && true))) (curve_Check v5) (some default))).bind fun v6 => some (((v2 == 10000) && (v4.X == 1500 && (v4.Y == 2000 && true))) && (v6 == 3))

/-- kerbstone/kerbstonelaw01.awake -/
def ac_law01_awake : AC := (.seq (.reg [oo 0 (.mv (.c zf))]) (.seq (.reg [oo 1 (.call (cf 56) []), oo 2 (.call (cf 22) [(.t 1)]), oo 3 (.bin .eql (.t 2) (ci 10000)), oo 4 (.mv (.t 3)), og 5 (.call (cf 56) []) 4, og 6 (.call (cf 31) [(.t 5), (ci 2500)]) 4, og 7 (.build [z0, z0] [(0, 1, (ci 1500)), (1, 1, (ci 2000))]) 4, og 8 (.eqA false [false, false] (.t 6) (.t 7)) 4, oo 9 (.pick (.t 4) (.t 8) (.c zf)), oo 10 (.mv (.t 9)), og 11 (.dslice 2 1 4 [z0] [(0, 1, (ci 0)), (1, 1, (ci 0)), (2, 1, (ci 1000)), (3, 1, (ci 1000))]) 10, og 12 (.call (cf 57) [(.t 11)]) 10, og 13 (.call (cf 20) [(.t 12)]) 10, og 14 (.bin .eql (.t 13) (ci 3)) 10, oo 15 (.pick (.t 10) (.t 14) (.c zf)), oo 0 (.mv (.t 15))]) .ret))
theorem fn_law01_awake : FnOK Try.prog 18 16 [.t 0] ac_law01_awake := ⟨_, _, Try.func18, rfl, Try.ntmps18, by kernel_rfl, ⟨fun r => if r == 1 then [1010] else [], by kernel_rfl⟩, by kernel_rfl⟩
theorem law01_awake_ok (r : Bool) (h : law01_awake = some r) : PCall Try.prog 18 [] (bo r) := by
  refine l_call fn_law01_awake (nl rfl) ?_
  unfold law01_awake at h
  unfold ac_law01_awake
  refine l_sub (s0 := ⟨T [], G []⟩) (sbr rfl rfl) ?_
  refine lr (fun u1 hu1 => sv rfl (s_nil (lr (fun u2 hu2 => bs h fun v1 hv1 h => s_call rfl rfl all2_refl (law01_bent_ok  _ hv1) (.inl rfl) (bs h fun v2 hv2 h => s_call rfl rfl all2_refl (curve_Length_ok _  _ hv2) (.inl rfl) (sv rfl (sv rfl (bs h fun v3 hv3 h => g_call _ (.agg [(.list (List.map eSpot v3.Pts))]) (gw_t rfl) (fun w1 => ⟨_, _, _, _, rfl, rfl, all2_refl, law01_bent_ok  _ (cond_t w1 hv3), (.inl rfl)⟩) (bs h fun v4 hv4 h => g_call _ (.agg [(i64 v4.X), (i64 v4.Y)]) (gw_t rfl) (fun w2 => ⟨_, [(.d (.agg [(.list (List.map eSpot v3.Pts))])), (di 2500)], _, _, (by simp only [gd_pos w2]; rfl), rfl, all2_refl, curve_At_ok _ _  _ (cond_t w2 hv4), (.inl rfl)⟩) ?_)))))))))
  refine gt rfl (fun _ => rfl) (g_val _ (.d (bo (v4.X == 1500 && (v4.Y == 2000 && true)))) rfl (gw_t rfl) (fun w4 => (by simp only [gd_pos w4]; rfl)) ?_)
  refine sa rfl rfl rfl (sv rfl (g_val _ (dl eInt_i64 [0, 0, 1000, 1000]) rfl (gw_t rfl) (fun _ => rfl) (bs h fun v5 hv5 h => g_call _ (.agg [(.list (List.map eSpot v5.Pts))]) (gw_t rfl) (fun w6 => ⟨_, [(dl eInt_i64 [0, 0, 1000, 1000])], _, _, (by simp only [gd_pos w6]; rfl), rfl, all2_refl, law01_of_ok _  _ (cond_t w6 hv5), (.inl rfl)⟩) ?_)))
  refine bs h fun v6 hv6 h => g_call _ (i64 v6) (gw_t rfl) (fun w7 => ⟨_, [(.d (.agg [(.list (List.map eSpot v5.Pts))]))], _, _, (by simp only [gd_pos w7]; rfl), rfl, all2_refl, curve_Check_ok _  _ (cond_t w7 hv6), (.inl rfl)⟩) ?_
  refine gt rfl (vb rfl rfl rfl) (sa rfl rfl rfl (sv rfl (s_nil (l_ret ?_))))
  obtain rfl := Option.some.inj h
  exact fin_ok (.inr rfl) (resD1 (res_t rfl) rf_d) (.refl _)

noncomputable def kit_triples : Option (List (Int × Int × Int)) :=
  some [(1, 0, 1), (3, 4, 5), (4, 3, 5), (5, 12, 13), (12, 5, 13), (8, 15, 17), (15, 8, 17), (7, 24, 25), (24, 7, 25), (20, 21, 29), (21, 20, 29), (0, 1, 1)]

/-- kerbstone/kerbstonekit.triples -/
def ac_kit_triples : AC := (.seq (.reg [oo 0 (.mv (.c .nilS))]) (.seq (.reg [oo 1 (.build [z0, z0, z0] [(0, 1, (ci 1)), (1, 1, (ci 0)), (2, 1, (ci 1))]), oo 2 (.build [z0, z0, z0] [(0, 1, (ci 3)), (1, 1, (ci 4)), (2, 1, (ci 5))]), oo 3 (.build [z0, z0, z0] [(0, 1, (ci 4)), (1, 1, (ci 3)), (2, 1, (ci 5))]), oo 4 (.build [z0, z0, z0] [(0, 1, (ci 5)), (1, 1, (ci 12)), (2, 1, (ci 13))]), oo 5 (.build [z0, z0, z0] [(0, 1, (ci 12)), (1, 1, (ci 5)), (2, 1, (ci 13))]), oo 6 (.build [z0, z0, z0] [(0, 1, (ci 8)), (1, 1, (ci 15)), (2, 1, (ci 17))]), oo 7 (.build [z0, z0, z0] [(0, 1, (ci 15)), (1, 1, (ci 8)), (2, 1, (ci 17))]), oo 8 (.build [z0, z0, z0] [(0, 1, (ci 7)), (1, 1, (ci 24)), (2, 1, (ci 25))]), oo 9 (.build [z0, z0, z0] [(0, 1, (ci 24)), (1, 1, (ci 7)), (2, 1, (ci 25))]), oo 10 (.build [z0, z0, z0] [(0, 1, (ci 20)), (1, 1, (ci 21)), (2, 1, (ci 29))]), oo 11 (.build [z0, z0, z0] [(0, 1, (ci 21)), (1, 1, (ci 20)), (2, 1, (ci 29))]), oo 12 (.build [z0, z0, z0] [(0, 1, (ci 0)), (1, 1, (ci 1)), (2, 1, (ci 1))]), oo 13 (.dslice 93 3 12 [z0, z0, z0] [(0, 3, (.t 1)), (3, 3, (.t 2)), (6, 3, (.t 3)), (9, 3, (.t 4)), (12, 3, (.t 5)), (15, 3, (.t 6)), (18, 3, (.t 7)), (21, 3, (.t 8)), (24, 3, (.t 9)), (27, 3, (.t 10)), (30, 3, (.t 11)), (33, 3, (.t 12))]), oo 0 (.mv (.t 13))]) .ret))
theorem fn_kit_triples : FnOK Try.prog 67 14 [.t 0] ac_kit_triples := ⟨_, _, Try.func67, rfl, Try.ntmps67, by kernel_rfl, ⟨fun r => if r == 1 then [1012] else [], by kernel_rfl⟩, by kernel_rfl⟩
theorem kit_triples_ok (r : (List (Int × Int × Int))) (h : kit_triples = some r) : PCall Try.prog 67 [] (.list (List.map eA93 r)) := by
  refine l_call fn_kit_triples (nl rfl) ?_
  unfold kit_triples at h
  unfold ac_kit_triples
  refine l_sub (s0 := ⟨T [], G []⟩) (sbr rfl rfl) ?_
  refine lr (fun u1 hu1 => sv rfl (s_nil (lr (fun u2 hu2 => sv rfl (sv rfl (sv rfl (sv rfl (sv rfl (sv rfl (sv rfl (sv rfl (sv rfl (sv rfl (sv rfl (sv rfl (s_val (dl eA93 [(1, 0, 1), (3, 4, 5), (4, 3, 5), (5, 12, 13), (12, 5, 13), (8, 15, 17), (15, 8, 17), (7, 24, 25), (24, 7, 25), (20, 21, 29), (21, 20, 29), (0, 1, 1)]) rfl (v_dsliceN eA93 ([(1, 0, 1), (3, 4, 5), (4, 3, 5), (5, 12, 13), (12, 5, 13), (8, 15, 17), (15, 8, 17), (7, 24, 25), (24, 7, 25), (20, 21, 29), (21, 20, 29), (0, 1, 1)] : List (Int × Int × Int)) (fun _ => rfl) rfl rfl ⟨rfl, rfl, rfl, rfl, rfl, rfl, rfl, rfl, rfl, rfl, rfl, rfl, rfl, rfl, rfl, rfl, rfl, rfl, rfl, rfl, rfl, rfl, rfl, rfl, rfl, rfl, rfl, rfl, rfl, rfl, rfl, rfl, rfl, rfl, rfl, rfl, trivial⟩) (s_val (dl eA93 [(1, 0, 1), (3, 4, 5), (4, 3, 5), (5, 12, 13), (12, 5, 13), (8, 15, 17), (15, 8, 17), (7, 24, 25), (24, 7, 25), (20, 21, 29), (21, 20, 29), (0, 1, 1)]) rfl rfl (s_nil (l_ret ?_)))))))))))))))))))
  obtain rfl := Option.some.inj h
  exact fin_ok (.inr rfl) (resD1 (res_t rfl) rf_d) (.refl _)

noncomputable def kit_Mod (p1 : Int) (p2 : Int) : Option Int :=
  (remc p1 p2).bind fun v1 => cond (decide (v1 < 0)) (some (w64 (v1 + p2))) (some v1)

/-- kerbstone/kerbstonekit.Mod -/
def ac_kit_Mod : AC := (.seq (.reg [oo 4 (.mv (ci 0))]) (.seq (.reg [oo 5 (.mv (.t 0)), oo 6 (.mv (.t 1)), oo 7 (.bin .rem (.t 5) (.t 6)), oo 0 (.mv (.t 7))]) (.seq (.seq (.reg [oo 8 (.mv (.t 0)), oo 9 (.bin .lss (.t 8) (ci 0))]) (.cond (.t 9) (.reg [oo 10 (.mv (.t 0)), oo 11 (.mv (.t 1)), oo 12 (.bin .add (.t 10) (.t 11)), oo 0 (.mv (.t 12))]) .skip)) (.seq (.reg [oo 13 (.mv (.t 0)), oo 4 (.mv (.t 13))]) .ret))))
theorem fn_kit_Mod : FnOK Try.prog 68 14 [.t 4] ac_kit_Mod := ⟨_, _, Try.func68, rfl, Try.ntmps68, by kernel_rfl, ⟨fun _ => [], by kernel_rfl⟩, by kernel_rfl⟩
theorem kit_Mod_ok (p1 : Int) (p2 : Int) (r : Int) (h : kit_Mod p1 p2 = some r) : PCall Try.prog 68 [(i64 p1), (i64 p2)] (i64 r) := by
  refine l_call fn_kit_Mod (nl rfl) ?_
  unfold kit_Mod at h
  unfold ac_kit_Mod
  refine l_sub (s0 := ⟨T [(0, (.d _)), (1, (.d _))], G []⟩) (sbr rfl rfl) ?_
  refine lr (fun u1 hu1 => sv rfl (s_nil (lr (fun u2 hu2 => sv rfl (sv rfl (bs h fun v1 hv1 h => sd rfl (v_rem rfl rfl hv1) (sv rfl (s_nil (l_seq (lr (fun u3 hu3 => sv rfl (sv rfl (s_nil (cc rfl h (fun c1 h => ?_) (fun c1 h => ?_)))))))))))))))
  · refine l_reg fun u4 hu4 => sv rfl (sv rfl (sv rfl (sv rfl (s_nil (lr (fun u5 hu5 => sv rfl (sv rfl (s_nil (l_ret ?_)))))))))
    obtain rfl := Option.some.inj h
    exact fin_ok (.inr rfl) (resD1 (res_t rfl) rf_d) (.refl _)
  · refine l_skip (lr (fun u6 hu6 => sv rfl (sv rfl (s_nil (l_ret ?_)))))
    obtain rfl := Option.some.inj h
    exact fin_ok (.inr rfl) (resD1 (res_t rfl) rf_d) (.refl _)

noncomputable def kit_Curve_l2 (x2 : (Int × Spot)) : Option (Stp (Int × Spot) Spot) :=
  cond (decide (x2.1 > 0)) (some (.go ((w64 (x2.1 - 1)), (Spot.mk (w64 (0 - x2.2.Y)) x2.2.X)))) (some (.out x2.2))
noncomputable def kit_Curve_l1 (p1 : KitChain) (v1 : (List (Int × Int × Int))) (y1 : Int) (x1 : (Int × Spot × Curve)) : Option (Stp (Int × Spot × Curve) Curve) :=
  cond (decide (x1.1 < (mm2 true 1 (mm2 false (p1.Steps.length : Int) 5)))) ((cond (decide (x1.1 < (p1.Steps.length : Int))) ((geti p1.Steps x1.1).bind fun v4 => (kit_Mod v4 1048576).bind fun v5 => some v5) (some 0)).bind fun y3 => (geti v1 (y3.tmod 11)).bind fun v6 => (quoc .i64 1000 v6.2.2).bind fun v7 => (quoc .i64 ((w64 (y3.tdiv 11)).tmod 2000) v6.2.2).bind fun v8 => (loop (kit_Curve_l2) ((y1.tmod 4), (Spot.mk (w64 (v6.1 * (w64 ((w64 (v7 + 1)) + v8)))) (w64 (v6.2.1 * (w64 ((w64 (v7 + 1)) + v8))))))).bind fun y4 => (appc x1.2.2.Pts [(Spot.mk (w64 (x1.2.1.X + y4.X)) (w64 (x1.2.1.Y + y4.Y)))]).bind fun v9 => some (.go ((w64 (x1.1 + 1)), (Spot.mk (w64 (x1.2.1.X + y4.X)) (w64 (x1.2.1.Y + y4.Y))), (Curve.mk v9)))) (some (.out x1.2.2))
noncomputable def kit_Curve (p1 : KitChain) : Option Curve :=
  (kit_triples).bind fun v1 => (cond (decide ((p1.Steps.length : Int) > 0)) ((geti p1.Steps 0).bind fun v2 => (kit_Mod v2 48).bind fun v3 => some v3) (some 0)).bind fun y1 => (loop (kit_Curve_l1 p1 v1 y1) (0, (Spot.mk (p1.X.tmod 20001) (p1.Y.tmod 20001)), (Curve.mk [(Spot.mk (p1.X.tmod 20001) (p1.Y.tmod 20001))]))).bind fun y2 => some y2

/-- kerbstone/kerbstonekit.Curve -/
def ac_kit_Curve : AC := (.seq (.reg [oo 1 (.box 37 true (.t 0)), oo 2 (.alloc 24 [.nilS])]) (.seq (.reg [oo 13 (.fieldA 0 (.t 1)), oo 14 (.load 1 false (.t 13)), oo 15 (.bin .rem (.t 14) (ci 20001)), oo 16 (.fieldA 1 (.t 1)), oo 17 (.load 1 false (.t 16)), oo 18 (.bin .rem (.t 17) (ci 20001)), oo 19 (.build [z0, z0] [(0, 1, (.t 15)), (1, 1, (.t 18))]), oo 3 (.alloc 43 [z0, z0]), oe (.store 2 (.t 3) (.t 19))]) (.seq (.reg [oo 20 (.load 2 true (.t 3)), oo 21 (.bslice 43 2 1 [z0, z0] [(0, 2, (.t 20))]), oo 22 (.build [.nilS] [(0, 1, (.t 21))]), oo 4 (.alloc 24 [.nilS]), oe (.store 1 (.t 4) (.t 22))]) (.seq (.reg [oo 23 (.call (cf 67) []), oo 5 (.mv (.t 23))]) (.seq (.reg [oo 6 (.mv (ci 0))]) (.seq (.seq (.reg [oo 24 (.fieldA 2 (.t 1)), oo 25 (.load 1 false (.t 24)), oo 26 (.len (.t 25)), oo 27 (.bin .gtr (.t 26) (ci 0))]) (.cond (.t 27) (.reg [oo 28 (.fieldA 2 (.t 1)), oo 29 (.load 1 false (.t 28)), oo 30 (.idxS 1 (.t 29) (ci 0)), oo 31 (.load 1 false (.t 30)), oo 32 (.call (cf 68) [(.t 31), (ci 48)]), oo 6 (.mv (.t 32))]) .skip)) (.seq (.seq (.reg [oo 7 (.mv (ci 0))]) (.block 0 (.loop (.seq (.seq (.reg [oo 33 (.mv (.t 7)), oo 34 (.fieldA 2 (.t 1)), oo 35 (.load 1 false (.t 34)), oo 36 (.len (.t 35)), oo 37 (.mm false (.t 36) [(ci 5)]), oo 38 (.mm true (ci 1) [(.t 37)]), oo 39 (.bin .lss (.t 33) (.t 38))]) (.cond (.t 39) .skip (.exit 0))) (.seq (.block 1 (.seq (.reg [oo 8 (.mv (ci 0))]) (.seq (.seq (.reg [oo 42 (.mv (.t 7)), oo 43 (.fieldA 2 (.t 1)), oo 44 (.load 1 false (.t 43)), oo 45 (.len (.t 44)), oo 46 (.bin .lss (.t 42) (.t 45))]) (.cond (.t 46) (.reg [oo 47 (.fieldA 2 (.t 1)), oo 48 (.load 1 false (.t 47)), oo 49 (.mv (.t 7)), oo 50 (.idxS 1 (.t 48) (.t 49)), oo 51 (.load 1 false (.t 50)), oo 52 (.call (cf 68) [(.t 51), (ci 1048576)]), oo 8 (.mv (.t 52))]) .skip)) (.seq (.reg [oo 53 (.mv (.t 5)), oo 54 (.mv (.t 8)), oo 55 (.bin .rem (.t 54) (ci 11)), oo 56 (.idxS 3 (.t 53) (.t 55)), oo 57 (.load 3 true (.t 56)), oo 9 (.alloc 93 [z0, z0, z0]), oe (.store 3 (.t 9) (.t 57))]) (.seq (.draw [oo 58 (.idxP 3 1 (.t 9) (ci 2)), oo 59 (.load 1 false (.t 58)), oo 60 (.bin .quo (ci 1000) (.t 59)), oo 61 (.bin .add (.t 60) (ci 1)), oo 62 (.mv (.t 8)), oo 63 (.bin .quo (.t 62) (ci 11)), oo 64 (.bin .rem (.t 63) (ci 2000)), oo 65 (.idxP 3 1 (.t 9) (ci 2)), oo 66 (.load 1 false (.t 65)), oo 67 (.bin .quo (.t 64) (.t 66)), oo 68 (.bin .add (.t 61) (.t 67)), oo 10 (.mv (.t 68))] []) (.seq (.reg [oo 69 (.idxP 3 1 (.t 9) (ci 0)), oo 70 (.load 1 false (.t 69)), oo 71 (.mv (.t 10)), oo 72 (.bin .mul (.t 70) (.t 71)), oo 73 (.idxP 3 1 (.t 9) (ci 1)), oo 74 (.load 1 false (.t 73)), oo 75 (.mv (.t 10)), oo 76 (.bin .mul (.t 74) (.t 75)), oo 77 (.build [z0, z0] [(0, 1, (.t 72)), (1, 1, (.t 76))]), oo 11 (.alloc 43 [z0, z0]), oe (.store 2 (.t 11) (.t 77))]) (.seq (.seq (.reg [oo 78 (.mv (.t 6)), oo 79 (.bin .rem (.t 78) (ci 4)), oo 12 (.mv (.t 79))]) (.block 2 (.loop (.seq (.seq (.reg [oo 80 (.mv (.t 12)), oo 81 (.bin .gtr (.t 80) (ci 0))]) (.cond (.t 81) .skip (.exit 2))) (.seq (.block 3 (.reg [oo 84 (.fieldA 1 (.t 11)), oo 85 (.load 1 false (.t 84)), oo 86 (.un .neg (.t 85)), oo 87 (.fieldA 0 (.t 11)), oo 88 (.load 1 false (.t 87)), oo 89 (.build [z0, z0] [(0, 1, (.t 86)), (1, 1, (.t 88))]), oe (.store 2 (.t 11) (.t 89))])) (.reg [oo 82 (.mv (.t 12)), oo 83 (.bin .sub (.t 82) (ci 1)), oo 12 (.mv (.t 83))])))))) (.seq (.reg [oo 90 (.fieldA 0 (.t 3)), oo 91 (.load 1 false (.t 90)), oo 92 (.fieldA 0 (.t 11)), oo 93 (.load 1 false (.t 92)), oo 94 (.bin .add (.t 91) (.t 93)), oo 95 (.fieldA 1 (.t 3)), oo 96 (.load 1 false (.t 95)), oo 97 (.fieldA 1 (.t 11)), oo 98 (.load 1 false (.t 97)), oo 99 (.bin .add (.t 96) (.t 98)), oo 100 (.build [z0, z0] [(0, 1, (.t 94)), (1, 1, (.t 99))]), oe (.store 2 (.t 3) (.t 100))]) (.reg [oo 101 (.fieldA 0 (.t 4)), oo 102 (.load 1 false (.t 101)), oo 103 (.load 2 true (.t 3)), oo 104 (.dslice 43 2 1 [z0, z0] [(0, 2, (.t 103))]), oo 105 (.append 22 43 2 (.t 102) (.t 104)), oo 106 (.fieldA 0 (.t 4)), oe (.store 1 (.t 106) (.t 105))]))))))))) (.reg [oo 40 (.mv (.t 7)), oo 41 (.bin .add (.t 40) (ci 1)), oo 7 (.mv (.t 41))])))))) (.seq (.reg [oo 107 (.load 1 true (.t 4)), oe (.store 1 (.t 2) (.t 107))]) .ret))))))))
theorem fn_kit_Curve : FnOK Try.prog 28 108 [.cell 2 1 true] ac_kit_Curve := ⟨_, _, Try.func28, rfl, Try.ntmps28, by kernel_rfl, ⟨fun r => if r == 21 then [1003] else [], by kernel_rfl⟩, by kernel_rfl⟩
set_option maxHeartbeats 4000000 in
theorem kit_Curve_ok (p1 : KitChain) (r : Curve) (h : kit_Curve p1 = some r) : PCall Try.prog 28 [(.agg (eKitChain p1))] (.agg [(.list (List.map eSpot r.Pts))]) := by
  refine l_call fn_kit_Curve (nl rfl) ?_
  unfold kit_Curve at h
  unfold ac_kit_Curve
  refine l_sub (s0 := ⟨T [(0, (.d _))], G []⟩) (sbr rfl rfl) ?_
  refine lr (fun u1 hu1 => sn rfl rfl (sn rfl rfl (s_nil (lr (fun u2 hu2 => sp rfl rfl (sl rfl (gq rfl) rfl (sv rfl (sp rfl rfl (sl rfl (gq rfl) rfl (sv rfl (sv rfl (sn rfl rfl (sst rfl G_hit [(di (p1.X.tmod 20001)), (di (p1.Y.tmod 20001))] rfl (s_nil (lr (fun u3 hu3 => sd rfl (v_loadG rfl G_hit rfl rfl) (s_new (.sl _) (.arr 43 2 (List.map eSpot ([(Spot.mk (p1.X.tmod 20001) (p1.Y.tmod 20001))] : List Spot))) rfl rfl (s_val (.agg _) rfl rfl (sn rfl rfl (sst rfl G_hit [(.sl (21, u3))] rfl (s_nil (lr (fun u4 hu4 => bs h fun v1 hv1 h => s_call rfl rfl all2_refl (kit_triples_ok  _ hv1) (.inl rfl) (sv rfl (s_nil (l_seq (l_sub (s0 := ⟨T [(1, (.ptr _ _)), (2, (.ptr _ _)), (3, (.ptr _ _)), (4, (.ptr _ _)), (5, (.d _))], G [((1, u1), some (.box 37 _)), ((2, u1), some (.box 24 _)), ((3, u2), some (.box 43 _)), ((4, u3), some (.box 24 _)), ((21, u3), some _)]⟩) (sbr rfl rfl) ?_)))))))))))))))))))))))))))
  refine l_reg fun u5 hu5 => sv rfl (s_nil (l_seq (lr (fun u6 hu6 => sp rfl rfl (sl rfl G_hit rfl (sd rfl (v_len rfl) (sv rfl (s_nil (bs h fun y1 hy1 h => l_join (fun s => ∃ g1 : Unit, Sb ⟨T [(1, (.ptr (1, u1) 0)), (2, (.ptr (2, u1) 0)), (3, (.ptr (3, u2) 0)), (4, (.ptr (4, u3) 0)), (5, (dl eA93 v1)), (6, (di y1))], G [((1, u1), some (.box 37 (dKitChain p1))), ((2, u1), some (.box 24 [(.d .nilS)])), ((3, u2), some (.box 43 [(di (p1.X.tmod 20001)), (di (p1.Y.tmod 20001))])), ((4, u3), some (.box 24 [(.sl (21, u3))])), ((21, u3), some (.arr 43 2 (List.map eSpot [(Spot.mk (p1.X.tmod 20001) (p1.Y.tmod 20001))])))]⟩ s) ?_ ?_)))))))))
  · refine cc rfl hy1 (fun c1 hy1 => ?_) (fun c1 hy1 => ?_)
    · refine l_reg fun u7 hu7 => sp rfl rfl (sl rfl G_hit rfl (bs hy1 fun v2 hv2 hy1 => sd rfl (v_idx rfl rfl hv2 rfl) (sd rfl (v_loadL rfl hv2 rfl) (bs hy1 fun v3 hv3 hy1 => s_call rfl rfl all2_refl (kit_Mod_ok _ _  _ hv3) (.inl rfl) (sv rfl (s_nil ?_))))))
      obtain rfl := Option.some.inj hy1
      exact l_j ⟨(), (sbr rfl rfl)⟩
    · refine l_skip ?_
      obtain rfl := Option.some.inj hy1
      exact l_j ⟨(), (sbr rfl rfl)⟩
  · rintro _ ⟨g1, q1⟩
    refine l_sub q1 (l_seq (lr (fun u8 hu8 => sv rfl (s_nil (bs h fun y2 hy2 h => l_join (fun s => ∃ g2 : ({d : Nat // d ∈ [21, 105]} × Nat), Sb ⟨T [(2, (.ptr (2, u1) 0)), (4, (.ptr (4, u3) 0))], G [((2, u1), some (.box 24 [(.d .nilS)])), ((4, u3), some (.box 24 [(oS y2.Pts (g2.1.val, g2.2))])), ((g2.1.val, g2.2), oB 43 2 eSpot y2.Pts)]⟩ s) ?_ ?_)))))
    · refine l_block (l_loop (kit_Curve_l1 p1 v1 y1) (fun (x1 : (Int × Spot × Curve)) (g3 : ({d : Nat // d ∈ [21, 105]} × Nat)) => ⟨T [(1, (.ptr (1, u1) 0)), (2, (.ptr (2, u1) 0)), (3, (.ptr (3, u2) 0)), (4, (.ptr (4, u3) 0)), (5, (dl eA93 v1)), (6, (di y1)), (7, (di x1.1))], G [((1, u1), some (.box 37 (dKitChain p1))), ((2, u1), some (.box 24 [(.d .nilS)])), ((3, u2), some (.box 43 [(di x1.2.1.X), (di x1.2.1.Y)])), ((4, u3), some (.box 24 [(oS x1.2.2.Pts (g3.1.val, g3.2))])), ((g3.1.val, g3.2), oB 43 2 eSpot x1.2.2.Pts)]⟩) (0, (Spot.mk (p1.X.tmod 20001) (p1.Y.tmod 20001)), (Curve.mk [(Spot.mk (p1.X.tmod 20001) (p1.Y.tmod 20001))])) (⟨21, .head _⟩, u3) _ hy2 (sb_of ⟨.of rfl, .of rfl, .of rfl, .of rfl, .of rfl, .of rfl, .of rfl, trivial⟩ (sbG_some G_hit (.of rfl) (sbG_some (gq rfl) (.of rfl) (sbG_some (gq rfl) (.of rfl) (sbG_some (gq rfl) (.box (.cons (.of (oS_ne (List.cons_ne_nil _ _)).symm) .nil)) (sbG_own (gq rfl) trivial)))))) ?_)
      intro x1 g3 z1 hz1 ez1
      unfold kit_Curve_l1 at hz1
      refine l_seq (lr (fun u9 hu9 => sv rfl (sp rfl rfl (sl rfl G_hit rfl (sd rfl (v_len rfl) (sv rfl (sv rfl (sv rfl (s_nil (cc rfl hz1 (fun c2 hz1 => ?_) (fun c2 hz1 => ?_)))))))))))
      · refine l_skip (l_seq (l_block (lr (fun u10 hu10 => sv rfl (s_nil (l_seq (lr (fun u11 hu11 => sv rfl (sp rfl rfl (sl rfl G_hit rfl (sd rfl (v_len rfl) (sv rfl (s_nil (bs hz1 fun y3 hy3 hz1 => l_join (fun s => ∃ g4 : Unit, Sb ⟨T [(1, (.ptr (1, u1) 0)), (2, (.ptr (2, u1) 0)), (3, (.ptr (3, u2) 0)), (4, (.ptr (4, u3) 0)), (5, (dl eA93 v1)), (6, (di y1)), (7, (di x1.1)), (8, (di y3))], G [((1, u1), some (.box 37 (dKitChain p1))), ((2, u1), some (.box 24 [(.d .nilS)])), ((3, u2), some (.box 43 [(di x1.2.1.X), (di x1.2.1.Y)])), ((4, u3), some (.box 24 [(oS x1.2.2.Pts (g3.1.val, g3.2))])), ((g3.1.val, g3.2), oB 43 2 eSpot x1.2.2.Pts)]⟩ s) ?_ ?_))))))))))))))
        · refine cc rfl hy3 (fun c3 hy3 => ?_) (fun c3 hy3 => ?_)
          · refine l_sub (s0 := ⟨T [(1, (.ptr (1, u1) 0)), (2, (.ptr (2, u1) 0)), (3, (.ptr (3, u2) 0)), (4, (.ptr (4, u3) 0)), (5, (dl eA93 v1)), (6, (di y1)), (7, (di x1.1))], G [((1, u1), some (.box 37 (dKitChain p1))), ((2, u1), some (.box 24 [(.d .nilS)])), ((3, u2), some (.box 43 [(di x1.2.1.X), (di x1.2.1.Y)])), ((4, u3), some (.box 24 [(oS x1.2.2.Pts (g3.1.val, g3.2))])), ((g3.1.val, g3.2), oB 43 2 eSpot x1.2.2.Pts)]⟩) (sb_of ⟨.of rfl, .of rfl, .of rfl, .of rfl, .of rfl, .of rfl, .of rfl, trivial⟩ (sbG_some G_hit (.of rfl) (sbG_some (gq rfl) (.of rfl) (sbG_some (gq rfl) (.of rfl) (sbG_some (gq rfl) (.of rfl) (sbG_oB (G_skip (neL g3.1.property rfl) (G_skip (neL g3.1.property rfl) (G_skip (neL g3.1.property rfl) (G_skip (neL g3.1.property rfl) G_hit)))) trivial)))))) ?_
            refine l_reg fun u12 hu12 => sp rfl rfl (sl rfl G_hit rfl (sv rfl (bs hy3 fun v4 hv4 hy3 => sd rfl (v_idx rfl rfl hv4 rfl) (sd rfl (v_loadL rfl hv4 rfl) (bs hy3 fun v5 hv5 hy3 => s_call rfl rfl all2_refl (kit_Mod_ok _ _  _ hv5) (.inl rfl) (sv rfl (s_nil ?_)))))))
            obtain rfl := Option.some.inj hy3
            exact l_j ⟨(), (sb_of ⟨.of rfl, .of rfl, .of rfl, .of rfl, .of rfl, .of rfl, .of rfl, .of rfl, trivial⟩ (sbG_some G_hit (.of rfl) (sbG_some (gq rfl) (.of rfl) (sbG_some (gq rfl) (.of rfl) (sbG_some (gq rfl) (.of rfl) (sbG_oB (G_skip (neL g3.1.property rfl) (G_skip (neL g3.1.property rfl) (G_skip (neL g3.1.property rfl) (G_skip (neL g3.1.property rfl) G_hit)))) trivial))))))⟩
          · refine l_skip ?_
            obtain rfl := Option.some.inj hy3
            exact l_j ⟨(), (sb_of ⟨.of rfl, .of rfl, .of rfl, .of rfl, .of rfl, .of rfl, .of rfl, .of rfl, trivial⟩ (sbG_some G_hit (.of rfl) (sbG_some (gq rfl) (.of rfl) (sbG_some (gq rfl) (.of rfl) (sbG_some (gq rfl) (.of rfl) (sbG_oB (G_skip (neL g3.1.property rfl) (G_skip (neL g3.1.property rfl) (G_skip (neL g3.1.property rfl) (G_skip (neL g3.1.property rfl) G_hit)))) trivial))))))⟩
        · rintro _ ⟨g4, q2⟩
          refine l_sub q2 (lr (fun u13 hu13 => sv rfl (sv rfl (sv rfl (bs hz1 fun v6 hv6 hz1 => sd rfl (v_idx rfl rfl hv6 rfl) (sd rfl (v_loadLG rfl hv6 rfl rfl) (sn rfl rfl (sst rfl G_hit [(di v6.1), (di v6.2.1), (di v6.2.2)] rfl (s_nil (l_seq (l_draw rfl fun u14 hu14 => sp rfl rfl (sl rfl G_hit rfl (bs hz1 fun v7 hv7 hz1 => sd rfl (v_quo rfl rfl hv7) (sv rfl (sv rfl (sv rfl (sv rfl (sp rfl rfl (sl rfl G_hit rfl (bs hz1 fun v8 hv8 hz1 => sd rfl (v_quo rfl rfl hv8) (sv rfl (sv rfl (s_nil (l_seq (l_sub (s0 := ⟨T [(1, (.ptr (1, u1) 0)), (2, (.ptr (2, u1) 0)), (3, (.ptr (3, u2) 0)), (4, (.ptr (4, u3) 0)), (5, (dl eA93 v1)), (6, (di y1)), (7, (di x1.1)), (9, (.ptr (9, u13) 0)), (10, (di (w64 ((w64 (v7 + 1)) + v8))))], G [((1, u1), some (.box 37 (dKitChain p1))), ((2, u1), some (.box 24 [(.d .nilS)])), ((3, u2), some (.box 43 [(di x1.2.1.X), (di x1.2.1.Y)])), ((4, u3), some (.box 24 [(oS x1.2.2.Pts (g3.1.val, g3.2))])), ((g3.1.val, g3.2), oB 43 2 eSpot x1.2.2.Pts), ((9, u13), some (.box 93 [(di v6.1), (di v6.2.1), (di v6.2.2)]))]⟩) (sb_of ⟨.of rfl, .of rfl, .of rfl, .of rfl, .of rfl, .of rfl, .of rfl, .of rfl, .of rfl, trivial⟩ (sbG_some (gq rfl) (.of rfl) (sbG_some (gq rfl) (.of rfl) (sbG_some (gq rfl) (.of rfl) (sbG_some (gq rfl) (.of rfl) (sbG_oB (G_skip (neL g3.1.property rfl) (G_skip (neL g3.1.property rfl) (G_skip (neL g3.1.property rfl) (G_skip (neL g3.1.property rfl) (G_skip (neL g3.1.property rfl) (G_skip (neL g3.1.property rfl) G_hit)))))) (sbG_some G_hit (.of rfl) trivial))))))) ?_)))))))))))))))))))))))))
          refine l_reg fun u15 hu15 => sp rfl rfl (sd rfl (v_load rfl (G_skip rfl (G_skip rfl (G_skip rfl (G_skip rfl (G_skip (neR g3.1.property rfl) G_hit))))) rfl) (sv rfl (sv rfl (sp rfl rfl (sd rfl (v_load rfl (G_skip rfl (G_skip rfl (G_skip rfl (G_skip rfl (G_skip (neR g3.1.property rfl) G_hit))))) rfl) (sv rfl (sv rfl (sv rfl (sn rfl rfl (sst rfl G_hit [(di (w64 (v6.1 * (w64 ((w64 (v7 + 1)) + v8))))), (di (w64 (v6.2.1 * (w64 ((w64 (v7 + 1)) + v8)))))] rfl (s_nil (l_seq (l_seq (l_sub (s0 := ⟨T [(1, (.ptr (1, u1) 0)), (2, (.ptr (2, u1) 0)), (3, (.ptr (3, u2) 0)), (4, (.ptr (4, u3) 0)), (5, (dl eA93 v1)), (6, (di y1)), (7, (di x1.1)), (11, (.ptr (11, u15) 0))], G [((1, u1), some (.box 37 (dKitChain p1))), ((2, u1), some (.box 24 [(.d .nilS)])), ((3, u2), some (.box 43 [(di x1.2.1.X), (di x1.2.1.Y)])), ((4, u3), some (.box 24 [(oS x1.2.2.Pts (g3.1.val, g3.2))])), ((g3.1.val, g3.2), oB 43 2 eSpot x1.2.2.Pts), ((11, u15), some (.box 43 [(di (w64 (v6.1 * (w64 ((w64 (v7 + 1)) + v8))))), (di (w64 (v6.2.1 * (w64 ((w64 (v7 + 1)) + v8)))))]))]⟩) (sb_of ⟨.of rfl, .of rfl, .of rfl, .of rfl, .of rfl, .of rfl, .of rfl, .of rfl, trivial⟩ (sbG_some (gq rfl) (.of rfl) (sbG_some (gq rfl) (.of rfl) (sbG_some (gq rfl) (.of rfl) (sbG_some (gq rfl) (.of rfl) (sbG_oB (G_skip (neL g3.1.property rfl) (G_skip (neL g3.1.property rfl) (G_skip (neL g3.1.property rfl) (G_skip (neL g3.1.property rfl) (G_skip (neL g3.1.property rfl) (G_skip (neL g3.1.property rfl) G_hit)))))) (sbG_some G_hit (.of rfl) trivial))))))) ?_))))))))))))))
          refine l_reg fun u16 hu16 => sv rfl (sv rfl (sv rfl (s_nil (bs hz1 fun y4 hy4 hz1 => l_join (fun s => ∃ g5 : Unit, Sb ⟨T [(1, (.ptr (1, u1) 0)), (2, (.ptr (2, u1) 0)), (3, (.ptr (3, u2) 0)), (4, (.ptr (4, u3) 0)), (5, (dl eA93 v1)), (6, (di y1)), (7, (di x1.1)), (11, (.ptr (11, u15) 0))], G [((1, u1), some (.box 37 (dKitChain p1))), ((2, u1), some (.box 24 [(.d .nilS)])), ((3, u2), some (.box 43 [(di x1.2.1.X), (di x1.2.1.Y)])), ((4, u3), some (.box 24 [(oS x1.2.2.Pts (g3.1.val, g3.2))])), ((11, u15), some (.box 43 [(di y4.X), (di y4.Y)])), ((g3.1.val, g3.2), oB 43 2 eSpot x1.2.2.Pts)]⟩ s) ?_ ?_))))
          · refine l_block (l_loop (kit_Curve_l2) (fun (x2 : (Int × Spot)) (g6 : Unit) => ⟨T [(1, (.ptr (1, u1) 0)), (2, (.ptr (2, u1) 0)), (3, (.ptr (3, u2) 0)), (4, (.ptr (4, u3) 0)), (5, (dl eA93 v1)), (6, (di y1)), (7, (di x1.1)), (11, (.ptr (11, u15) 0)), (12, (di x2.1))], G [((1, u1), some (.box 37 (dKitChain p1))), ((2, u1), some (.box 24 [(.d .nilS)])), ((3, u2), some (.box 43 [(di x1.2.1.X), (di x1.2.1.Y)])), ((4, u3), some (.box 24 [(oS x1.2.2.Pts (g3.1.val, g3.2))])), ((11, u15), some (.box 43 [(di x2.2.X), (di x2.2.Y)])), ((g3.1.val, g3.2), oB 43 2 eSpot x1.2.2.Pts)]⟩) ((y1.tmod 4), (Spot.mk (w64 (v6.1 * (w64 ((w64 (v7 + 1)) + v8)))) (w64 (v6.2.1 * (w64 ((w64 (v7 + 1)) + v8)))))) () _ hy4 (sb_of ⟨.of rfl, .of rfl, .of rfl, .of rfl, .of rfl, .of rfl, .of rfl, .of rfl, .of rfl, trivial⟩ (sbG_some G_hit (.of rfl) (sbG_some (gq rfl) (.of rfl) (sbG_some (gq rfl) (.of rfl) (sbG_some (gq rfl) (.of rfl) (sbG_some (G_skip rfl (G_skip rfl (G_skip rfl (G_skip rfl (G_skip (neR g3.1.property rfl) G_hit))))) (.of rfl) (sbG_oB (G_skip (neL g3.1.property rfl) (G_skip (neL g3.1.property rfl) (G_skip (neL g3.1.property rfl) (G_skip (neL g3.1.property rfl) G_hit)))) trivial))))))) ?_)
            intro x2 g6 z2 hz2 ez2
            unfold kit_Curve_l2 at hz2
            refine l_seq (lr (fun u17 hu17 => sv rfl (sv rfl (s_nil (cc rfl hz2 (fun c4 hz2 => ?_) (fun c4 hz2 => ?_))))))
            · refine l_skip (l_seq (l_block (l_reg fun u18 hu18 => sp rfl rfl (sl rfl (gq rfl) rfl (s_val (di (w64 (0 - x2.2.Y))) rfl rfl (sp rfl rfl (sl rfl (gq rfl) rfl (sv rfl (sst rfl (gq rfl) [(di (w64 (0 - x2.2.Y))), (di x2.2.X)] rfl (s_nil (l_end (l_sub (s0 := ⟨T [(1, (.ptr (1, u1) 0)), (2, (.ptr (2, u1) 0)), (3, (.ptr (3, u2) 0)), (4, (.ptr (4, u3) 0)), (5, (dl eA93 v1)), (6, (di y1)), (7, (di x1.1)), (11, (.ptr (11, u15) 0)), (12, (di x2.1))], G [((1, u1), some (.box 37 (dKitChain p1))), ((2, u1), some (.box 24 [(.d .nilS)])), ((3, u2), some (.box 43 [(di x1.2.1.X), (di x1.2.1.Y)])), ((4, u3), some (.box 24 [(oS x1.2.2.Pts (g3.1.val, g3.2))])), ((g3.1.val, g3.2), oB 43 2 eSpot x1.2.2.Pts), ((11, u15), some (.box 43 [(di (w64 (0 - x2.2.Y))), (di x2.2.X)]))]⟩) (sb_of ⟨.of rfl, .of rfl, .of rfl, .of rfl, .of rfl, .of rfl, .of rfl, .of rfl, .of rfl, trivial⟩ (sbG_some (gq rfl) (.of rfl) (sbG_some (gq rfl) (.of rfl) (sbG_some (gq rfl) (.of rfl) (sbG_some (gq rfl) (.of rfl) (sbG_oB (G_skip (neL g3.1.property rfl) (G_skip (neL g3.1.property rfl) (G_skip (neL g3.1.property rfl) (G_skip (neL g3.1.property rfl) (G_skip (neL g3.1.property rfl) (G_skip (neL g3.1.property rfl) G_hit)))))) (sbG_some G_hit (.of rfl) trivial))))))) ?_))))))))))))
              refine l_reg fun u19 hu19 => sv rfl (sv rfl (sv rfl (s_nil (l_nil ?_))))
              obtain rfl := Option.some.inj hz2
              exact ⟨rfl, (), (sb_of ⟨.of rfl, .of rfl, .of rfl, .of rfl, .of rfl, .of rfl, .of rfl, .of rfl, .of rfl, trivial⟩ (sbG_some G_hit (.of rfl) (sbG_some (gq rfl) (.of rfl) (sbG_some (gq rfl) (.of rfl) (sbG_some (gq rfl) (.of rfl) (sbG_some (G_skip rfl (G_skip rfl (G_skip rfl (G_skip rfl (G_skip (neR g3.1.property rfl) G_hit))))) (.of rfl) (sbG_oB (G_skip (neL g3.1.property rfl) (G_skip (neL g3.1.property rfl) (G_skip (neL g3.1.property rfl) (G_skip (neL g3.1.property rfl) G_hit)))) trivial)))))))⟩
            · refine l_exitN rfl ?_
              obtain rfl := Option.some.inj hz2
              obtain rfl := ez2 _ rfl
              refine ⟨nofun, awl_pop rfl (l_j ?_)⟩
              exact ⟨(), (sb_of ⟨.of rfl, .of rfl, .of rfl, .of rfl, .of rfl, .of rfl, .of rfl, .of rfl, trivial⟩ (sbG_some G_hit (.of rfl) (sbG_some (gq rfl) (.of rfl) (sbG_some (gq rfl) (.of rfl) (sbG_some (gq rfl) (.of rfl) (sbG_some (gq rfl) (.of rfl) (sbG_oB (G_skip (neL g3.1.property rfl) (G_skip (neL g3.1.property rfl) (G_skip (neL g3.1.property rfl) (G_skip (neL g3.1.property rfl) (G_skip (neL g3.1.property rfl) G_hit))))) trivial)))))))⟩
          · rintro _ ⟨g5, q3⟩
            refine l_sub q3 (lr (fun u20 hu20 => sp rfl rfl (sl rfl (gq rfl) rfl (sp rfl rfl (sl rfl (gq rfl) rfl (sv rfl (sp rfl rfl (sl rfl (gq rfl) rfl (sp rfl rfl (sl rfl (gq rfl) rfl (sv rfl (sv rfl (sst rfl (gq rfl) [(di (w64 (x1.2.1.X + y4.X))), (di (w64 (x1.2.1.Y + y4.Y)))] rfl (s_nil (l_sub (s0 := ⟨T [(1, (.ptr (1, u1) 0)), (2, (.ptr (2, u1) 0)), (3, (.ptr (3, u2) 0)), (4, (.ptr (4, u3) 0)), (5, (dl eA93 v1)), (6, (di y1)), (7, (di x1.1))], G [((1, u1), some (.box 37 (dKitChain p1))), ((2, u1), some (.box 24 [(.d .nilS)])), ((3, u2), some (.box 43 [(di (w64 (x1.2.1.X + y4.X))), (di (w64 (x1.2.1.Y + y4.Y)))])), ((4, u3), some (.box 24 [(oS x1.2.2.Pts (g3.1.val, g3.2))])), ((g3.1.val, g3.2), oB 43 2 eSpot x1.2.2.Pts)]⟩) (sb_of ⟨.of rfl, .of rfl, .of rfl, .of rfl, .of rfl, .of rfl, .of rfl, trivial⟩ (sbG_some (gq rfl) (.of rfl) (sbG_some (gq rfl) (.of rfl) (sbG_some G_hit (.of rfl) (sbG_some (gq rfl) (.of rfl) (sbG_oB (G_skip (neL g3.1.property rfl) (G_skip (neL g3.1.property rfl) (G_skip (neL g3.1.property rfl) (G_skip (neL g3.1.property rfl) (G_skip (neL g3.1.property rfl) (G_skip (neL g3.1.property rfl) G_hit)))))) trivial)))))) ?_)))))))))))))))
            refine l_reg fun u21 hu21 => sp rfl rfl (s_val (oS x1.2.2.Pts (g3.1.val, g3.2)) rfl (v_load rfl (gq rfl) rfl) (sd rfl (v_loadG rfl (gq rfl) rfl rfl) (s_val (dl eSpot [(Spot.mk (w64 (x1.2.1.X + y4.X)) (w64 (x1.2.1.Y + y4.Y)))]) rfl rfl (bs hz1 fun v9 hv9 hz1 => s_appendO eSpot (g3.1.val, g3.2) x1.2.2.Pts (Spot.mk (w64 (x1.2.1.X + y4.X)) (w64 (x1.2.1.Y + y4.Y))) [] _ (elems_list (fun _ => rfl)) rfl (G_skip (neL g3.1.property rfl) (G_skip (neL g3.1.property rfl) (G_skip (neL g3.1.property rfl) (G_skip (neL g3.1.property rfl) G_hit)))) hv9 (sp rfl rfl (s_store _ _ _ _ _ rfl rfl rfl (G_skip rfl (G_skip (neR g3.1.property rfl) (gq rfl))) (nl rfl) [(.sl (105, u21))] rfl (s_nil (l_end (l_reg fun u22 hu22 => sv rfl (sv rfl (sv rfl (s_nil (l_nil ?_)))))))))))))
            obtain rfl := Option.some.inj hz1
            exact ⟨rfl, (⟨105, .tail _ (.head _)⟩, u21), (sb_of ⟨.of rfl, .of rfl, .of rfl, .of rfl, .of rfl, .of rfl, .of rfl, trivial⟩ (sbG_some (G_skip rfl (G_skip rfl (G_skip (neR g3.1.property rfl) G_hit))) (.of rfl) (sbG_some (G_skip rfl (G_skip rfl (G_skip (neR g3.1.property rfl) (gq rfl)))) (.of rfl) (sbG_some (G_skip rfl (G_skip rfl (G_skip (neR g3.1.property rfl) (gq rfl)))) (.of rfl) (sbG_some G_hit (.box (.cons (.of (oS_ne (appc_ne hv9)).symm) .nil)) (sbG_own (gq rfl) trivial))))))⟩
      · refine l_exitN rfl ?_
        obtain rfl := Option.some.inj hz1
        obtain rfl := ez1 _ rfl
        refine ⟨nofun, awl_pop rfl (l_j ?_)⟩
        exact ⟨(g3.1, g3.2), (sb_of ⟨.of rfl, .of rfl, trivial⟩ (sbG_some (gq rfl) (.of rfl) (sbG_some (gq rfl) (.of rfl) (sbG_oB (G_skip (neL g3.1.property rfl) (G_skip (neL g3.1.property rfl) (G_skip (neL g3.1.property rfl) (G_skip (neL g3.1.property rfl) G_hit)))) trivial))))⟩
    · rintro _ ⟨g2, q4⟩
      refine l_sub q4 (lr (fun u23 hu23 => s_val (mkAgg [(oS y2.Pts (g2.1.val, g2.2))]) rfl (v_loadG rfl (gq rfl) rfl rfl) (s_store _ _ _ _ _ (cellsV_mkAgg _) rfl rfl G_hit (nl rfl) [(oS y2.Pts (g2.1.val, g2.2))] rfl (s_nil (l_ret ?_)))))
      obtain rfl := Option.some.inj h
      exact fin_ok (.inr rfl) (resD1 (res_cellG rfl G_hit (nl rfl) rfl) (rf_mkAgg (rfL_cons (rf_oS (G_skip (neL g2.1.property rfl) (G_skip (neL g2.1.property rfl) (G_skip (neL g2.1.property rfl) G_hit)))) rfL_nil))) (.agg (.cons ⟨oD_le, rfl⟩ .nil))

noncomputable def ref01_Minus (p1 : Spot) (p2 : Spot) : Option Spot :=
  some (Spot.mk (w64 (p1.X - p2.X)) (w64 (p1.Y - p2.Y)))

/-- kerbstone/kerbstoneref01.Minus -/
def ac_ref01_Minus : AC := (.seq (.reg [oo 2 (.box 43 true (.t 0)), oo 3 (.box 43 true (.t 1)), oo 4 (.alloc 43 [z0, z0])]) (.seq (.reg [oo 5 (.fieldA 0 (.t 2)), oo 6 (.load 1 false (.t 5)), oo 7 (.fieldA 0 (.t 3)), oo 8 (.load 1 false (.t 7)), oo 9 (.bin .sub (.t 6) (.t 8)), oo 10 (.fieldA 1 (.t 2)), oo 11 (.load 1 false (.t 10)), oo 12 (.fieldA 1 (.t 3)), oo 13 (.load 1 false (.t 12)), oo 14 (.bin .sub (.t 11) (.t 13)), oo 15 (.build [z0, z0] [(0, 1, (.t 9)), (1, 1, (.t 14))]), oe (.store 2 (.t 4) (.t 15))]) .ret))
theorem fn_ref01_Minus : FnOK Try.prog 40 16 [.cell 4 2 true] ac_ref01_Minus := ⟨_, _, Try.func40, rfl, Try.ntmps40, by kernel_rfl, ⟨fun _ => [], by kernel_rfl⟩, by kernel_rfl⟩
theorem ref01_Minus_ok (p1 : Spot) (p2 : Spot) (r : Spot) (h : ref01_Minus p1 p2 = some r) : PCall Try.prog 40 [(.agg [(i64 p1.X), (i64 p1.Y)]), (.agg [(i64 p2.X), (i64 p2.Y)])] (.agg [(i64 r.X), (i64 r.Y)]) := by
  refine l_call fn_ref01_Minus (nl rfl) ?_
  unfold ref01_Minus at h
  unfold ac_ref01_Minus
  refine l_sub (s0 := ⟨T [(0, (.d _)), (1, (.d _))], G []⟩) (sbr rfl rfl) ?_
  refine lr (fun u1 hu1 => sn rfl rfl (sn rfl rfl (sn rfl rfl (s_nil (lr (fun u2 hu2 => sp rfl rfl (sl rfl (gq rfl) rfl (sp rfl rfl (sl rfl (gq rfl) rfl (sv rfl (sp rfl rfl (sl rfl (gq rfl) rfl (sp rfl rfl (sl rfl (gq rfl) rfl (sv rfl (sv rfl (sst rfl G_hit [(di (w64 (p1.X - p2.X))), (di (w64 (p1.Y - p2.Y)))] rfl (s_nil (l_ret ?_)))))))))))))))))))
  obtain rfl := Option.some.inj h
  exact fin_ok (.inr rfl) (resD1 (res_cellG rfl G_hit (nl rfl) rfl) rf_d) (.refl _)

noncomputable def kit_Curve_mk_l2 (x2 : (Int × Spot)) : Option (Stp (Int × Spot) Spot) :=
  cond (decide (x2.1 > 0)) (some (.go ((w64 (x2.1 - 1)), (Spot.mk (w64 (0 - x2.2.Y)) x2.2.X)))) (some (.out x2.2))
noncomputable def kit_Curve_mk_l1 (p1 : KitChain) (v1 : (List (Int × Int × Int))) (y1 : Int) (x1 : (Int × Spot × Curve)) : Option (Stp (Int × Spot × Curve) Curve) :=
  cond (decide (x1.1 < (mm2 true 1 (mm2 false (p1.Steps.length : Int) 5)))) ((cond (decide (x1.1 < (p1.Steps.length : Int))) ((geti p1.Steps x1.1).bind fun v4 => (kit_Mod v4 1048576).bind fun v5 => some v5) (some 0)).bind fun y3 => (geti v1 (y3.tmod 11)).bind fun v6 => (quoc .i64 1000 v6.2.2).bind fun v7 => (quoc .i64 ((w64 (y3.tdiv 11)).tmod 2000) v6.2.2).bind fun v8 => (loop (kit_Curve_mk_l2) ((y1.tmod 4), (Spot.mk (w64 (v6.1 * (w64 ((w64 (v7 + 1)) + v8)))) (w64 (v6.2.1 * (w64 ((w64 (v7 + 1)) + v8))))))).bind fun y4 => (appc x1.2.2.Pts [(Spot.mk (w64 (x1.2.1.X + y4.X)) (w64 (x1.2.1.Y + y4.Y)))]).bind fun v9 => some (.go ((w64 (x1.1 + 1)), (Spot.mk (w64 (x1.2.1.X + y4.X)) (w64 (x1.2.1.Y + y4.Y))), (Curve.mk v9)))) (some (.out x1.2.2))
noncomputable def kit_Curve_mk (p1 : KitChain) : Option Curve :=
  (kit_triples).bind fun v1 => (cond (decide ((p1.Steps.length : Int) > 0)) ((geti p1.Steps 0).bind fun v2 => (kit_Mod v2 48).bind fun v3 => some v3) (some 0)).bind fun y1 => (loop (kit_Curve_mk_l1 p1 v1 y1) (0, (Spot.mk (p1.X.tmod 20001) (p1.Y.tmod 20001)), (Curve.mk [(Spot.mk (p1.X.tmod 20001) (p1.Y.tmod 20001))]))).bind fun y2 => some y2

/-- kerbstone/kerbstonekit.Curve -/
def ac_kit_Curve_mk : AC := (.seq (.reg [oo 1 (.box 37 true (.t 0)), oo 2 (.alloc 24 [.nilS])]) (.seq (.reg [oo 13 (.fieldA 0 (.t 1)), oo 14 (.load 1 false (.t 13)), oo 15 (.bin .rem (.t 14) (ci 20001)), oo 16 (.fieldA 1 (.t 1)), oo 17 (.load 1 false (.t 16)), oo 18 (.bin .rem (.t 17) (ci 20001)), oo 19 (.build [z0, z0] [(0, 1, (.t 15)), (1, 1, (.t 18))]), oo 3 (.alloc 43 [z0, z0]), oe (.store 2 (.t 3) (.t 19))]) (.seq (.reg [oo 20 (.load 2 true (.t 3)), oo 21 (.bslice 43 2 1 [z0, z0] [(0, 2, (.t 20))]), oo 22 (.build [.nilS] [(0, 1, (.t 21))]), oo 4 (.alloc 24 [.nilS]), oe (.store 1 (.t 4) (.t 22))]) (.seq (.reg [oo 23 (.call (cf 67) []), oo 5 (.mv (.t 23))]) (.seq (.reg [oo 6 (.mv (ci 0))]) (.seq (.seq (.reg [oo 24 (.fieldA 2 (.t 1)), oo 25 (.load 1 false (.t 24)), oo 26 (.len (.t 25)), oo 27 (.bin .gtr (.t 26) (ci 0))]) (.cond (.t 27) (.reg [oo 28 (.fieldA 2 (.t 1)), oo 29 (.load 1 false (.t 28)), oo 30 (.idxS 1 (.t 29) (ci 0)), oo 31 (.load 1 false (.t 30)), oo 32 (.call (cf 68) [(.t 31), (ci 48)]), oo 6 (.mv (.t 32))]) .skip)) (.seq (.seq (.reg [oo 7 (.mv (ci 0))]) (.block 0 (.loop (.seq (.seq (.reg [oo 33 (.mv (.t 7)), oo 34 (.fieldA 2 (.t 1)), oo 35 (.load 1 false (.t 34)), oo 36 (.len (.t 35)), oo 37 (.mm false (.t 36) [(ci 5)]), oo 38 (.mm true (ci 1) [(.t 37)]), oo 39 (.bin .lss (.t 33) (.t 38))]) (.cond (.t 39) .skip (.exit 0))) (.seq (.block 1 (.seq (.reg [oo 8 (.mv (ci 0))]) (.seq (.seq (.reg [oo 42 (.mv (.t 7)), oo 43 (.fieldA 2 (.t 1)), oo 44 (.load 1 false (.t 43)), oo 45 (.len (.t 44)), oo 46 (.bin .lss (.t 42) (.t 45))]) (.cond (.t 46) (.reg [oo 47 (.fieldA 2 (.t 1)), oo 48 (.load 1 false (.t 47)), oo 49 (.mv (.t 7)), oo 50 (.idxS 1 (.t 48) (.t 49)), oo 51 (.load 1 false (.t 50)), oo 52 (.call (cf 68) [(.t 51), (ci 1048576)]), oo 8 (.mv (.t 52))]) .skip)) (.seq (.reg [oo 53 (.mv (.t 5)), oo 54 (.mv (.t 8)), oo 55 (.bin .rem (.t 54) (ci 11)), oo 56 (.idxS 3 (.t 53) (.t 55)), oo 57 (.load 3 true (.t 56)), oo 9 (.alloc 93 [z0, z0, z0]), oe (.store 3 (.t 9) (.t 57))]) (.seq (.draw [oo 58 (.idxP 3 1 (.t 9) (ci 2)), oo 59 (.load 1 false (.t 58)), oo 60 (.bin .quo (ci 1000) (.t 59)), oo 61 (.bin .add (.t 60) (ci 1)), oo 62 (.mv (.t 8)), oo 63 (.bin .quo (.t 62) (ci 11)), oo 64 (.bin .rem (.t 63) (ci 2000)), oo 65 (.idxP 3 1 (.t 9) (ci 2)), oo 66 (.load 1 false (.t 65)), oo 67 (.bin .quo (.t 64) (.t 66)), oo 68 (.bin .add (.t 61) (.t 67)), oo 10 (.mv (.t 68))] []) (.seq (.reg [oo 69 (.idxP 3 1 (.t 9) (ci 0)), oo 70 (.load 1 false (.t 69)), oo 71 (.mv (.t 10)), oo 72 (.bin .mul (.t 70) (.t 71)), oo 73 (.idxP 3 1 (.t 9) (ci 1)), oo 74 (.load 1 false (.t 73)), oo 75 (.mv (.t 10)), oo 76 (.bin .mul (.t 74) (.t 75)), oo 77 (.build [z0, z0] [(0, 1, (.t 72)), (1, 1, (.t 76))]), oo 11 (.alloc 43 [z0, z0]), oe (.store 2 (.t 11) (.t 77))]) (.seq (.seq (.reg [oo 78 (.mv (.t 6)), oo 79 (.bin .rem (.t 78) (ci 4)), oo 12 (.mv (.t 79))]) (.block 2 (.loop (.seq (.seq (.reg [oo 80 (.mv (.t 12)), oo 81 (.bin .gtr (.t 80) (ci 0))]) (.cond (.t 81) .skip (.exit 2))) (.seq (.block 3 (.reg [oo 84 (.fieldA 1 (.t 11)), oo 85 (.load 1 false (.t 84)), oo 86 (.un .neg (.t 85)), oo 87 (.fieldA 0 (.t 11)), oo 88 (.load 1 false (.t 87)), oo 89 (.build [z0, z0] [(0, 1, (.t 86)), (1, 1, (.t 88))]), oe (.store 2 (.t 11) (.t 89))])) (.reg [oo 82 (.mv (.t 12)), oo 83 (.bin .sub (.t 82) (ci 1)), oo 12 (.mv (.t 83))])))))) (.seq (.reg [oo 90 (.fieldA 0 (.t 3)), oo 91 (.load 1 false (.t 90)), oo 92 (.fieldA 0 (.t 11)), oo 93 (.load 1 false (.t 92)), oo 94 (.bin .add (.t 91) (.t 93)), oo 95 (.fieldA 1 (.t 3)), oo 96 (.load 1 false (.t 95)), oo 97 (.fieldA 1 (.t 11)), oo 98 (.load 1 false (.t 97)), oo 99 (.bin .add (.t 96) (.t 98)), oo 100 (.build [z0, z0] [(0, 1, (.t 94)), (1, 1, (.t 99))]), oe (.store 2 (.t 3) (.t 100))]) (.reg [oo 101 (.fieldA 0 (.t 4)), oo 102 (.load 1 false (.t 101)), oo 103 (.load 2 true (.t 3)), oo 104 (.dslice 43 2 1 [z0, z0] [(0, 2, (.t 103))]), oo 105 (.append 22 43 2 (.t 102) (.t 104)), oo 106 (.fieldA 0 (.t 4)), oe (.store 1 (.t 106) (.t 105))]))))))))) (.reg [oo 40 (.mv (.t 7)), oo 41 (.bin .add (.t 40) (ci 1)), oo 7 (.mv (.t 41))])))))) (.seq (.reg [oo 107 (.load 1 true (.t 4)), oe (.store 1 (.t 2) (.t 107))]) .ret))))))))
theorem fn_kit_Curve_mk : FnOK Try.prog 28 108 [.cell 2 1 true] ac_kit_Curve_mk := ⟨_, _, Try.func28, rfl, Try.ntmps28, by kernel_rfl, ⟨fun r => if r == 21 then [1003] else [], by kernel_rfl⟩, by kernel_rfl⟩
set_option maxHeartbeats 4000000 in
theorem kit_Curve_mk_ok (p1 : KitChain) (r : Curve) (h : kit_Curve_mk p1 = some r) : MCall Try.prog 28 [(.d (.agg (eKitChain p1)))] [] (mkAgg [(oS r.Pts (800000, 0))]) [] [oB 43 2 eSpot r.Pts] := by
  refine m_callT fn_kit_Curve_mk (by generalize r.Pts = x1; cases x1 <;> rfl) (nl rfl) ?_
  unfold kit_Curve_mk at h
  unfold ac_kit_Curve_mk
  refine l_sub (s0 := ⟨T [(0, (.d _))], G []⟩) (sbr rfl rfl) ?_
  refine lr (fun u1 hu1 => sn rfl rfl (sn rfl rfl (s_nil (lr (fun u2 hu2 => sp rfl rfl (sl rfl (gq rfl) rfl (sv rfl (sp rfl rfl (sl rfl (gq rfl) rfl (sv rfl (sv rfl (sn rfl rfl (sst rfl G_hit [(di (p1.X.tmod 20001)), (di (p1.Y.tmod 20001))] rfl (s_nil (lr (fun u3 hu3 => sd rfl (v_loadG rfl G_hit rfl rfl) (s_new (.sl _) (.arr 43 2 (List.map eSpot ([(Spot.mk (p1.X.tmod 20001) (p1.Y.tmod 20001))] : List Spot))) rfl rfl (s_val (.agg _) rfl rfl (sn rfl rfl (sst rfl G_hit [(.sl (21, u3))] rfl (s_nil (lr (fun u4 hu4 => bs h fun v1 hv1 h => s_call rfl rfl all2_refl (kit_triples_ok  _ hv1) (.inl rfl) (sv rfl (s_nil (l_seq (l_sub (s0 := ⟨T [(1, (.ptr _ _)), (2, (.ptr _ _)), (3, (.ptr _ _)), (4, (.ptr _ _)), (5, (.d _))], G [((1, u1), some (.box 37 _)), ((2, u1), some (.box 24 _)), ((3, u2), some (.box 43 _)), ((4, u3), some (.box 24 _)), ((21, u3), some _)]⟩) (sbr rfl rfl) ?_)))))))))))))))))))))))))))
  refine l_reg fun u5 hu5 => sv rfl (s_nil (l_seq (lr (fun u6 hu6 => sp rfl rfl (sl rfl G_hit rfl (sd rfl (v_len rfl) (sv rfl (s_nil (bs h fun y1 hy1 h => l_join (fun s => ∃ g1 : Unit, Sb ⟨T [(1, (.ptr (1, u1) 0)), (2, (.ptr (2, u1) 0)), (3, (.ptr (3, u2) 0)), (4, (.ptr (4, u3) 0)), (5, (dl eA93 v1)), (6, (di y1))], G [((1, u1), some (.box 37 (dKitChain p1))), ((2, u1), some (.box 24 [(.d .nilS)])), ((3, u2), some (.box 43 [(di (p1.X.tmod 20001)), (di (p1.Y.tmod 20001))])), ((4, u3), some (.box 24 [(.sl (21, u3))])), ((21, u3), some (.arr 43 2 (List.map eSpot [(Spot.mk (p1.X.tmod 20001) (p1.Y.tmod 20001))])))]⟩ s) ?_ ?_)))))))))
  · refine cc rfl hy1 (fun c1 hy1 => ?_) (fun c1 hy1 => ?_)
    · refine l_reg fun u7 hu7 => sp rfl rfl (sl rfl G_hit rfl (bs hy1 fun v2 hv2 hy1 => sd rfl (v_idx rfl rfl hv2 rfl) (sd rfl (v_loadL rfl hv2 rfl) (bs hy1 fun v3 hv3 hy1 => s_call rfl rfl all2_refl (kit_Mod_ok _ _  _ hv3) (.inl rfl) (sv rfl (s_nil ?_))))))
      obtain rfl := Option.some.inj hy1
      exact l_j ⟨(), (sbr rfl rfl)⟩
    · refine l_skip ?_
      obtain rfl := Option.some.inj hy1
      exact l_j ⟨(), (sbr rfl rfl)⟩
  · rintro _ ⟨g1, q1⟩
    refine l_sub q1 (l_seq (lr (fun u8 hu8 => sv rfl (s_nil (bs h fun y2 hy2 h => l_join (fun s => ∃ g2 : ({d : Nat // d ∈ [21, 105]} × Nat), Sb ⟨T [(2, (.ptr (2, u1) 0)), (4, (.ptr (4, u3) 0))], G [((2, u1), some (.box 24 [(.d .nilS)])), ((4, u3), some (.box 24 [(oS y2.Pts (g2.1.val, g2.2))])), ((g2.1.val, g2.2), oB 43 2 eSpot y2.Pts)]⟩ s) ?_ ?_)))))
    · refine l_block (l_loop (kit_Curve_mk_l1 p1 v1 y1) (fun (x1 : (Int × Spot × Curve)) (g3 : ({d : Nat // d ∈ [21, 105]} × Nat)) => ⟨T [(1, (.ptr (1, u1) 0)), (2, (.ptr (2, u1) 0)), (3, (.ptr (3, u2) 0)), (4, (.ptr (4, u3) 0)), (5, (dl eA93 v1)), (6, (di y1)), (7, (di x1.1))], G [((1, u1), some (.box 37 (dKitChain p1))), ((2, u1), some (.box 24 [(.d .nilS)])), ((3, u2), some (.box 43 [(di x1.2.1.X), (di x1.2.1.Y)])), ((4, u3), some (.box 24 [(oS x1.2.2.Pts (g3.1.val, g3.2))])), ((g3.1.val, g3.2), oB 43 2 eSpot x1.2.2.Pts)]⟩) (0, (Spot.mk (p1.X.tmod 20001) (p1.Y.tmod 20001)), (Curve.mk [(Spot.mk (p1.X.tmod 20001) (p1.Y.tmod 20001))])) (⟨21, .head _⟩, u3) _ hy2 (sb_of ⟨.of rfl, .of rfl, .of rfl, .of rfl, .of rfl, .of rfl, .of rfl, trivial⟩ (sbG_some G_hit (.of rfl) (sbG_some (gq rfl) (.of rfl) (sbG_some (gq rfl) (.of rfl) (sbG_some (gq rfl) (.box (.cons (.of (oS_ne (List.cons_ne_nil _ _)).symm) .nil)) (sbG_own (gq rfl) trivial)))))) ?_)
      intro x1 g3 z1 hz1 ez1
      unfold kit_Curve_mk_l1 at hz1
      refine l_seq (lr (fun u9 hu9 => sv rfl (sp rfl rfl (sl rfl G_hit rfl (sd rfl (v_len rfl) (sv rfl (sv rfl (sv rfl (s_nil (cc rfl hz1 (fun c2 hz1 => ?_) (fun c2 hz1 => ?_)))))))))))
      · refine l_skip (l_seq (l_block (lr (fun u10 hu10 => sv rfl (s_nil (l_seq (lr (fun u11 hu11 => sv rfl (sp rfl rfl (sl rfl G_hit rfl (sd rfl (v_len rfl) (sv rfl (s_nil (bs hz1 fun y3 hy3 hz1 => l_join (fun s => ∃ g4 : Unit, Sb ⟨T [(1, (.ptr (1, u1) 0)), (2, (.ptr (2, u1) 0)), (3, (.ptr (3, u2) 0)), (4, (.ptr (4, u3) 0)), (5, (dl eA93 v1)), (6, (di y1)), (7, (di x1.1)), (8, (di y3))], G [((1, u1), some (.box 37 (dKitChain p1))), ((2, u1), some (.box 24 [(.d .nilS)])), ((3, u2), some (.box 43 [(di x1.2.1.X), (di x1.2.1.Y)])), ((4, u3), some (.box 24 [(oS x1.2.2.Pts (g3.1.val, g3.2))])), ((g3.1.val, g3.2), oB 43 2 eSpot x1.2.2.Pts)]⟩ s) ?_ ?_))))))))))))))
        · refine cc rfl hy3 (fun c3 hy3 => ?_) (fun c3 hy3 => ?_)
          · refine l_sub (s0 := ⟨T [(1, (.ptr (1, u1) 0)), (2, (.ptr (2, u1) 0)), (3, (.ptr (3, u2) 0)), (4, (.ptr (4, u3) 0)), (5, (dl eA93 v1)), (6, (di y1)), (7, (di x1.1))], G [((1, u1), some (.box 37 (dKitChain p1))), ((2, u1), some (.box 24 [(.d .nilS)])), ((3, u2), some (.box 43 [(di x1.2.1.X), (di x1.2.1.Y)])), ((4, u3), some (.box 24 [(oS x1.2.2.Pts (g3.1.val, g3.2))])), ((g3.1.val, g3.2), oB 43 2 eSpot x1.2.2.Pts)]⟩) (sb_of ⟨.of rfl, .of rfl, .of rfl, .of rfl, .of rfl, .of rfl, .of rfl, trivial⟩ (sbG_some G_hit (.of rfl) (sbG_some (gq rfl) (.of rfl) (sbG_some (gq rfl) (.of rfl) (sbG_some (gq rfl) (.of rfl) (sbG_oB (G_skip (neL g3.1.property rfl) (G_skip (neL g3.1.property rfl) (G_skip (neL g3.1.property rfl) (G_skip (neL g3.1.property rfl) G_hit)))) trivial)))))) ?_
            refine l_reg fun u12 hu12 => sp rfl rfl (sl rfl G_hit rfl (sv rfl (bs hy3 fun v4 hv4 hy3 => sd rfl (v_idx rfl rfl hv4 rfl) (sd rfl (v_loadL rfl hv4 rfl) (bs hy3 fun v5 hv5 hy3 => s_call rfl rfl all2_refl (kit_Mod_ok _ _  _ hv5) (.inl rfl) (sv rfl (s_nil ?_)))))))
            obtain rfl := Option.some.inj hy3
            exact l_j ⟨(), (sb_of ⟨.of rfl, .of rfl, .of rfl, .of rfl, .of rfl, .of rfl, .of rfl, .of rfl, trivial⟩ (sbG_some G_hit (.of rfl) (sbG_some (gq rfl) (.of rfl) (sbG_some (gq rfl) (.of rfl) (sbG_some (gq rfl) (.of rfl) (sbG_oB (G_skip (neL g3.1.property rfl) (G_skip (neL g3.1.property rfl) (G_skip (neL g3.1.property rfl) (G_skip (neL g3.1.property rfl) G_hit)))) trivial))))))⟩
          · refine l_skip ?_
            obtain rfl := Option.some.inj hy3
            exact l_j ⟨(), (sb_of ⟨.of rfl, .of rfl, .of rfl, .of rfl, .of rfl, .of rfl, .of rfl, .of rfl, trivial⟩ (sbG_some G_hit (.of rfl) (sbG_some (gq rfl) (.of rfl) (sbG_some (gq rfl) (.of rfl) (sbG_some (gq rfl) (.of rfl) (sbG_oB (G_skip (neL g3.1.property rfl) (G_skip (neL g3.1.property rfl) (G_skip (neL g3.1.property rfl) (G_skip (neL g3.1.property rfl) G_hit)))) trivial))))))⟩
        · rintro _ ⟨g4, q2⟩
          refine l_sub q2 (lr (fun u13 hu13 => sv rfl (sv rfl (sv rfl (bs hz1 fun v6 hv6 hz1 => sd rfl (v_idx rfl rfl hv6 rfl) (sd rfl (v_loadLG rfl hv6 rfl rfl) (sn rfl rfl (sst rfl G_hit [(di v6.1), (di v6.2.1), (di v6.2.2)] rfl (s_nil (l_seq (l_draw rfl fun u14 hu14 => sp rfl rfl (sl rfl G_hit rfl (bs hz1 fun v7 hv7 hz1 => sd rfl (v_quo rfl rfl hv7) (sv rfl (sv rfl (sv rfl (sv rfl (sp rfl rfl (sl rfl G_hit rfl (bs hz1 fun v8 hv8 hz1 => sd rfl (v_quo rfl rfl hv8) (sv rfl (sv rfl (s_nil (l_seq (l_sub (s0 := ⟨T [(1, (.ptr (1, u1) 0)), (2, (.ptr (2, u1) 0)), (3, (.ptr (3, u2) 0)), (4, (.ptr (4, u3) 0)), (5, (dl eA93 v1)), (6, (di y1)), (7, (di x1.1)), (9, (.ptr (9, u13) 0)), (10, (di (w64 ((w64 (v7 + 1)) + v8))))], G [((1, u1), some (.box 37 (dKitChain p1))), ((2, u1), some (.box 24 [(.d .nilS)])), ((3, u2), some (.box 43 [(di x1.2.1.X), (di x1.2.1.Y)])), ((4, u3), some (.box 24 [(oS x1.2.2.Pts (g3.1.val, g3.2))])), ((g3.1.val, g3.2), oB 43 2 eSpot x1.2.2.Pts), ((9, u13), some (.box 93 [(di v6.1), (di v6.2.1), (di v6.2.2)]))]⟩) (sb_of ⟨.of rfl, .of rfl, .of rfl, .of rfl, .of rfl, .of rfl, .of rfl, .of rfl, .of rfl, trivial⟩ (sbG_some (gq rfl) (.of rfl) (sbG_some (gq rfl) (.of rfl) (sbG_some (gq rfl) (.of rfl) (sbG_some (gq rfl) (.of rfl) (sbG_oB (G_skip (neL g3.1.property rfl) (G_skip (neL g3.1.property rfl) (G_skip (neL g3.1.property rfl) (G_skip (neL g3.1.property rfl) (G_skip (neL g3.1.property rfl) (G_skip (neL g3.1.property rfl) G_hit)))))) (sbG_some G_hit (.of rfl) trivial))))))) ?_)))))))))))))))))))))))))
          refine l_reg fun u15 hu15 => sp rfl rfl (sd rfl (v_load rfl (G_skip rfl (G_skip rfl (G_skip rfl (G_skip rfl (G_skip (neR g3.1.property rfl) G_hit))))) rfl) (sv rfl (sv rfl (sp rfl rfl (sd rfl (v_load rfl (G_skip rfl (G_skip rfl (G_skip rfl (G_skip rfl (G_skip (neR g3.1.property rfl) G_hit))))) rfl) (sv rfl (sv rfl (sv rfl (sn rfl rfl (sst rfl G_hit [(di (w64 (v6.1 * (w64 ((w64 (v7 + 1)) + v8))))), (di (w64 (v6.2.1 * (w64 ((w64 (v7 + 1)) + v8)))))] rfl (s_nil (l_seq (l_seq (l_sub (s0 := ⟨T [(1, (.ptr (1, u1) 0)), (2, (.ptr (2, u1) 0)), (3, (.ptr (3, u2) 0)), (4, (.ptr (4, u3) 0)), (5, (dl eA93 v1)), (6, (di y1)), (7, (di x1.1)), (11, (.ptr (11, u15) 0))], G [((1, u1), some (.box 37 (dKitChain p1))), ((2, u1), some (.box 24 [(.d .nilS)])), ((3, u2), some (.box 43 [(di x1.2.1.X), (di x1.2.1.Y)])), ((4, u3), some (.box 24 [(oS x1.2.2.Pts (g3.1.val, g3.2))])), ((g3.1.val, g3.2), oB 43 2 eSpot x1.2.2.Pts), ((11, u15), some (.box 43 [(di (w64 (v6.1 * (w64 ((w64 (v7 + 1)) + v8))))), (di (w64 (v6.2.1 * (w64 ((w64 (v7 + 1)) + v8)))))]))]⟩) (sb_of ⟨.of rfl, .of rfl, .of rfl, .of rfl, .of rfl, .of rfl, .of rfl, .of rfl, trivial⟩ (sbG_some (gq rfl) (.of rfl) (sbG_some (gq rfl) (.of rfl) (sbG_some (gq rfl) (.of rfl) (sbG_some (gq rfl) (.of rfl) (sbG_oB (G_skip (neL g3.1.property rfl) (G_skip (neL g3.1.property rfl) (G_skip (neL g3.1.property rfl) (G_skip (neL g3.1.property rfl) (G_skip (neL g3.1.property rfl) (G_skip (neL g3.1.property rfl) G_hit)))))) (sbG_some G_hit (.of rfl) trivial))))))) ?_))))))))))))))
          refine l_reg fun u16 hu16 => sv rfl (sv rfl (sv rfl (s_nil (bs hz1 fun y4 hy4 hz1 => l_join (fun s => ∃ g5 : Unit, Sb ⟨T [(1, (.ptr (1, u1) 0)), (2, (.ptr (2, u1) 0)), (3, (.ptr (3, u2) 0)), (4, (.ptr (4, u3) 0)), (5, (dl eA93 v1)), (6, (di y1)), (7, (di x1.1)), (11, (.ptr (11, u15) 0))], G [((1, u1), some (.box 37 (dKitChain p1))), ((2, u1), some (.box 24 [(.d .nilS)])), ((3, u2), some (.box 43 [(di x1.2.1.X), (di x1.2.1.Y)])), ((4, u3), some (.box 24 [(oS x1.2.2.Pts (g3.1.val, g3.2))])), ((11, u15), some (.box 43 [(di y4.X), (di y4.Y)])), ((g3.1.val, g3.2), oB 43 2 eSpot x1.2.2.Pts)]⟩ s) ?_ ?_))))
          · refine l_block (l_loop (kit_Curve_mk_l2) (fun (x2 : (Int × Spot)) (g6 : Unit) => ⟨T [(1, (.ptr (1, u1) 0)), (2, (.ptr (2, u1) 0)), (3, (.ptr (3, u2) 0)), (4, (.ptr (4, u3) 0)), (5, (dl eA93 v1)), (6, (di y1)), (7, (di x1.1)), (11, (.ptr (11, u15) 0)), (12, (di x2.1))], G [((1, u1), some (.box 37 (dKitChain p1))), ((2, u1), some (.box 24 [(.d .nilS)])), ((3, u2), some (.box 43 [(di x1.2.1.X), (di x1.2.1.Y)])), ((4, u3), some (.box 24 [(oS x1.2.2.Pts (g3.1.val, g3.2))])), ((11, u15), some (.box 43 [(di x2.2.X), (di x2.2.Y)])), ((g3.1.val, g3.2), oB 43 2 eSpot x1.2.2.Pts)]⟩) ((y1.tmod 4), (Spot.mk (w64 (v6.1 * (w64 ((w64 (v7 + 1)) + v8)))) (w64 (v6.2.1 * (w64 ((w64 (v7 + 1)) + v8)))))) () _ hy4 (sb_of ⟨.of rfl, .of rfl, .of rfl, .of rfl, .of rfl, .of rfl, .of rfl, .of rfl, .of rfl, trivial⟩ (sbG_some G_hit (.of rfl) (sbG_some (gq rfl) (.of rfl) (sbG_some (gq rfl) (.of rfl) (sbG_some (gq rfl) (.of rfl) (sbG_some (G_skip rfl (G_skip rfl (G_skip rfl (G_skip rfl (G_skip (neR g3.1.property rfl) G_hit))))) (.of rfl) (sbG_oB (G_skip (neL g3.1.property rfl) (G_skip (neL g3.1.property rfl) (G_skip (neL g3.1.property rfl) (G_skip (neL g3.1.property rfl) G_hit)))) trivial))))))) ?_)
            intro x2 g6 z2 hz2 ez2
            unfold kit_Curve_mk_l2 at hz2
            refine l_seq (lr (fun u17 hu17 => sv rfl (sv rfl (s_nil (cc rfl hz2 (fun c4 hz2 => ?_) (fun c4 hz2 => ?_))))))
            · refine l_skip (l_seq (l_block (l_reg fun u18 hu18 => sp rfl rfl (sl rfl (gq rfl) rfl (s_val (di (w64 (0 - x2.2.Y))) rfl rfl (sp rfl rfl (sl rfl (gq rfl) rfl (sv rfl (sst rfl (gq rfl) [(di (w64 (0 - x2.2.Y))), (di x2.2.X)] rfl (s_nil (l_end (l_sub (s0 := ⟨T [(1, (.ptr (1, u1) 0)), (2, (.ptr (2, u1) 0)), (3, (.ptr (3, u2) 0)), (4, (.ptr (4, u3) 0)), (5, (dl eA93 v1)), (6, (di y1)), (7, (di x1.1)), (11, (.ptr (11, u15) 0)), (12, (di x2.1))], G [((1, u1), some (.box 37 (dKitChain p1))), ((2, u1), some (.box 24 [(.d .nilS)])), ((3, u2), some (.box 43 [(di x1.2.1.X), (di x1.2.1.Y)])), ((4, u3), some (.box 24 [(oS x1.2.2.Pts (g3.1.val, g3.2))])), ((g3.1.val, g3.2), oB 43 2 eSpot x1.2.2.Pts), ((11, u15), some (.box 43 [(di (w64 (0 - x2.2.Y))), (di x2.2.X)]))]⟩) (sb_of ⟨.of rfl, .of rfl, .of rfl, .of rfl, .of rfl, .of rfl, .of rfl, .of rfl, .of rfl, trivial⟩ (sbG_some (gq rfl) (.of rfl) (sbG_some (gq rfl) (.of rfl) (sbG_some (gq rfl) (.of rfl) (sbG_some (gq rfl) (.of rfl) (sbG_oB (G_skip (neL g3.1.property rfl) (G_skip (neL g3.1.property rfl) (G_skip (neL g3.1.property rfl) (G_skip (neL g3.1.property rfl) (G_skip (neL g3.1.property rfl) (G_skip (neL g3.1.property rfl) G_hit)))))) (sbG_some G_hit (.of rfl) trivial))))))) ?_))))))))))))
              refine l_reg fun u19 hu19 => sv rfl (sv rfl (sv rfl (s_nil (l_nil ?_))))
              obtain rfl := Option.some.inj hz2
              exact ⟨rfl, (), (sb_of ⟨.of rfl, .of rfl, .of rfl, .of rfl, .of rfl, .of rfl, .of rfl, .of rfl, .of rfl, trivial⟩ (sbG_some G_hit (.of rfl) (sbG_some (gq rfl) (.of rfl) (sbG_some (gq rfl) (.of rfl) (sbG_some (gq rfl) (.of rfl) (sbG_some (G_skip rfl (G_skip rfl (G_skip rfl (G_skip rfl (G_skip (neR g3.1.property rfl) G_hit))))) (.of rfl) (sbG_oB (G_skip (neL g3.1.property rfl) (G_skip (neL g3.1.property rfl) (G_skip (neL g3.1.property rfl) (G_skip (neL g3.1.property rfl) G_hit)))) trivial)))))))⟩
            · refine l_exitN rfl ?_
              obtain rfl := Option.some.inj hz2
              obtain rfl := ez2 _ rfl
              refine ⟨nofun, awl_pop rfl (l_j ?_)⟩
              exact ⟨(), (sb_of ⟨.of rfl, .of rfl, .of rfl, .of rfl, .of rfl, .of rfl, .of rfl, .of rfl, trivial⟩ (sbG_some G_hit (.of rfl) (sbG_some (gq rfl) (.of rfl) (sbG_some (gq rfl) (.of rfl) (sbG_some (gq rfl) (.of rfl) (sbG_some (gq rfl) (.of rfl) (sbG_oB (G_skip (neL g3.1.property rfl) (G_skip (neL g3.1.property rfl) (G_skip (neL g3.1.property rfl) (G_skip (neL g3.1.property rfl) (G_skip (neL g3.1.property rfl) G_hit))))) trivial)))))))⟩
          · rintro _ ⟨g5, q3⟩
            refine l_sub q3 (lr (fun u20 hu20 => sp rfl rfl (sl rfl (gq rfl) rfl (sp rfl rfl (sl rfl (gq rfl) rfl (sv rfl (sp rfl rfl (sl rfl (gq rfl) rfl (sp rfl rfl (sl rfl (gq rfl) rfl (sv rfl (sv rfl (sst rfl (gq rfl) [(di (w64 (x1.2.1.X + y4.X))), (di (w64 (x1.2.1.Y + y4.Y)))] rfl (s_nil (l_sub (s0 := ⟨T [(1, (.ptr (1, u1) 0)), (2, (.ptr (2, u1) 0)), (3, (.ptr (3, u2) 0)), (4, (.ptr (4, u3) 0)), (5, (dl eA93 v1)), (6, (di y1)), (7, (di x1.1))], G [((1, u1), some (.box 37 (dKitChain p1))), ((2, u1), some (.box 24 [(.d .nilS)])), ((3, u2), some (.box 43 [(di (w64 (x1.2.1.X + y4.X))), (di (w64 (x1.2.1.Y + y4.Y)))])), ((4, u3), some (.box 24 [(oS x1.2.2.Pts (g3.1.val, g3.2))])), ((g3.1.val, g3.2), oB 43 2 eSpot x1.2.2.Pts)]⟩) (sb_of ⟨.of rfl, .of rfl, .of rfl, .of rfl, .of rfl, .of rfl, .of rfl, trivial⟩ (sbG_some (gq rfl) (.of rfl) (sbG_some (gq rfl) (.of rfl) (sbG_some G_hit (.of rfl) (sbG_some (gq rfl) (.of rfl) (sbG_oB (G_skip (neL g3.1.property rfl) (G_skip (neL g3.1.property rfl) (G_skip (neL g3.1.property rfl) (G_skip (neL g3.1.property rfl) (G_skip (neL g3.1.property rfl) (G_skip (neL g3.1.property rfl) G_hit)))))) trivial)))))) ?_)))))))))))))))
            refine l_reg fun u21 hu21 => sp rfl rfl (s_val (oS x1.2.2.Pts (g3.1.val, g3.2)) rfl (v_load rfl (gq rfl) rfl) (sd rfl (v_loadG rfl (gq rfl) rfl rfl) (s_val (dl eSpot [(Spot.mk (w64 (x1.2.1.X + y4.X)) (w64 (x1.2.1.Y + y4.Y)))]) rfl rfl (bs hz1 fun v9 hv9 hz1 => s_appendO eSpot (g3.1.val, g3.2) x1.2.2.Pts (Spot.mk (w64 (x1.2.1.X + y4.X)) (w64 (x1.2.1.Y + y4.Y))) [] _ (elems_list (fun _ => rfl)) rfl (G_skip (neL g3.1.property rfl) (G_skip (neL g3.1.property rfl) (G_skip (neL g3.1.property rfl) (G_skip (neL g3.1.property rfl) G_hit)))) hv9 (sp rfl rfl (s_store _ _ _ _ _ rfl rfl rfl (G_skip rfl (G_skip (neR g3.1.property rfl) (gq rfl))) (nl rfl) [(.sl (105, u21))] rfl (s_nil (l_end (l_reg fun u22 hu22 => sv rfl (sv rfl (sv rfl (s_nil (l_nil ?_)))))))))))))
            obtain rfl := Option.some.inj hz1
            exact ⟨rfl, (⟨105, .tail _ (.head _)⟩, u21), (sb_of ⟨.of rfl, .of rfl, .of rfl, .of rfl, .of rfl, .of rfl, .of rfl, trivial⟩ (sbG_some (G_skip rfl (G_skip rfl (G_skip (neR g3.1.property rfl) G_hit))) (.of rfl) (sbG_some (G_skip rfl (G_skip rfl (G_skip (neR g3.1.property rfl) (gq rfl)))) (.of rfl) (sbG_some (G_skip rfl (G_skip rfl (G_skip (neR g3.1.property rfl) (gq rfl)))) (.of rfl) (sbG_some G_hit (.box (.cons (.of (oS_ne (appc_ne hv9)).symm) .nil)) (sbG_own (gq rfl) trivial))))))⟩
      · refine l_exitN rfl ?_
        obtain rfl := Option.some.inj hz1
        obtain rfl := ez1 _ rfl
        refine ⟨nofun, awl_pop rfl (l_j ?_)⟩
        exact ⟨(g3.1, g3.2), (sb_of ⟨.of rfl, .of rfl, trivial⟩ (sbG_some (gq rfl) (.of rfl) (sbG_some (gq rfl) (.of rfl) (sbG_oB (G_skip (neL g3.1.property rfl) (G_skip (neL g3.1.property rfl) (G_skip (neL g3.1.property rfl) (G_skip (neL g3.1.property rfl) G_hit)))) trivial))))⟩
    · rintro _ ⟨g2, q4⟩
      refine l_sub q4 (lr (fun u23 hu23 => s_val (mkAgg [(oS y2.Pts (g2.1.val, g2.2))]) rfl (v_loadG rfl (gq rfl) rfl rfl) (s_store _ _ _ _ _ (cellsV_mkAgg _) rfl rfl G_hit (nl rfl) [(oS y2.Pts (g2.1.val, g2.2))] rfl (s_nil (l_ret ?_)))))
      obtain rfl := Option.some.inj h
      exact fin_m (v1 := (mkAgg [(oS y2.Pts (g2.1.val, g2.2))])) (.inr rfl) (resA1 (res_cellG rfl G_hit (Nat.le_of_ble_eq_true rfl) rfl)) (.of rfl) [((g2.1.val, g2.2), oB 43 2 eSpot y2.Pts)] (sbG_oB (G_skip (neL g2.1.property rfl) (G_skip (neL g2.1.property rfl) (G_skip (neL g2.1.property rfl) G_hit))) trivial) (mpost_o [(g2.1.val, g2.2)] (by generalize y2.Pts = x1; cases x1 <;> rfl) trivial ⟨(G_hit).trans oB_ren.symm, trivial⟩ rfl (List.forall_mem_cons.2 ⟨fun i hi => old_farG g2.1.property rfl hi, (fun _ h => nomatch h)⟩) nd1)

noncomputable def kit_OwnSpots (p1 : (List Spot)) : Option (List Spot) :=
  (appc ([] : List Spot) p1).bind fun v1 => some v1

/-- kerbstone/kerbstonekit.OwnSpots -/
def ac_kit_OwnSpots : AC := (.seq (.reg [oo 2 (.mv (.c .nilS))]) (.seq (.reg [oo 3 (.bslice 43 2 0 [z0, z0] []), oo 4 (.mv (.t 0)), oo 5 (.append 22 43 2 (.t 3) (.t 4)), oo 2 (.mv (.t 5))]) .ret))
theorem fn_kit_OwnSpots : FnOK Try.prog 58 6 [.t 2] ac_kit_OwnSpots := ⟨_, _, Try.func58, rfl, Try.ntmps58, by kernel_rfl, ⟨fun _ => [], by kernel_rfl⟩, by kernel_rfl⟩
theorem kit_OwnSpots_ok (p1 : (List Spot)) (r : (List Spot)) (h : kit_OwnSpots p1 = some r) : PCall Try.prog 58 [(.list (List.map eSpot p1))] (.list (List.map eSpot r)) := by
  refine l_call fn_kit_OwnSpots (nl rfl) ?_
  unfold kit_OwnSpots at h
  unfold ac_kit_OwnSpots
  refine l_sub (s0 := ⟨T [(0, (.d _))], G []⟩) (sbr rfl rfl) ?_
  refine lr (fun u1 hu1 => sv rfl (s_nil (lr (fun u2 hu2 => s_new (.sl _) (.arr 43 2 (List.map eSpot ([] : List Spot))) rfl rfl (sv rfl (bs h fun v1 hv1 h => s_append eSpot _ _ _ _ (elems_list (fun _ => rfl)) rfl G_hit hv1 (ss rfl (s_nil (l_ret ?_)))))))))
  obtain rfl := Option.some.inj h
  exact fin_ok (.inr rfl) (resD1 (res_t rfl) (rf_sl G_hit)) (.refl _)

noncomputable def law01_own (p1 : Curve) : Option Curve :=
  (kit_OwnSpots p1.Pts).bind fun v1 => some (Curve.mk v1)

/-- kerbstone/kerbstonelaw01.own -/
def ac_law01_own : AC := (.seq (.reg [oo 1 (.box 24 true (.t 0)), oo 2 (.alloc 24 [.nilS])]) (.seq (.reg [oo 3 (.fieldA 0 (.t 1)), oo 4 (.load 1 false (.t 3)), oo 5 (.call (cf 58) [(.t 4)]), oo 6 (.build [.nilS] [(0, 1, (.t 5))]), oe (.store 1 (.t 2) (.t 6))]) .ret))
theorem fn_law01_own : FnOK Try.prog 19 7 [.cell 2 1 true] ac_law01_own := ⟨_, _, Try.func19, rfl, Try.ntmps19, by kernel_rfl, ⟨fun _ => [], by kernel_rfl⟩, by kernel_rfl⟩
theorem law01_own_ok (p1 : Curve) (r : Curve) (h : law01_own p1 = some r) : PCall Try.prog 19 [(.agg [(.list (List.map eSpot p1.Pts))])] (.agg [(.list (List.map eSpot r.Pts))]) := by
  refine l_call fn_law01_own (nl rfl) ?_
  unfold law01_own at h
  unfold ac_law01_own
  refine l_sub (s0 := ⟨T [(0, (.d _))], G []⟩) (sbr rfl rfl) ?_
  refine lr (fun u1 hu1 => sn rfl rfl (sn rfl rfl (s_nil (lr (fun u2 hu2 => sp rfl rfl (sl rfl (gq rfl) rfl (bs h fun v1 hv1 h => s_call rfl rfl all2_refl (kit_OwnSpots_ok _  _ hv1) (.inl rfl) (sv rfl (sst rfl G_hit [(dl eSpot v1)] rfl (s_nil (l_ret ?_)))))))))))
  obtain rfl := Option.some.inj h
  exact fin_ok (.inr rfl) (resD1 (res_cellG rfl G_hit (nl rfl) rfl) rf_d) (.refl _)

noncomputable def slices_Clone_Spot_Spot (p1 : List Spot) : Option (List Spot) := appc [] p1

/-- slices.Clone[[]kerbstone/api.Spot,kerbstone/api.Spot] -/
def ac_slices_Clone_Spot_Spot : AC := (.seq (.reg [oo 2 (.mv (.c .nilS))]) (.seq (.seq (.reg [oo 3 (.mv (.t 0)), oo 4 (.isnil false (.t 3))]) (.cond (.t 4) (.seq (.reg [oo 2 (.mv (.c .nilS))]) .ret) .skip)) (.seq (.reg [oo 5 (.bslice 43 2 0 [z0, z0] []), oo 6 (.mv (.t 0)), oo 7 (.append 22 43 2 (.t 5) (.t 6)), oo 2 (.mv (.t 7))]) .ret)))
theorem fn_slices_Clone_Spot_Spot : FnOK Try.prog 75 8 [.t 2] ac_slices_Clone_Spot_Spot := ⟨_, _, Try.func75, rfl, Try.ntmps75, by kernel_rfl, ⟨fun _ => [], by kernel_rfl⟩, by kernel_rfl⟩
theorem slices_Clone_Spot_Spot_walk (p1 : List Spot) (a0 : D) (hl : appc ([] : List Spot) p1 = some p1) (hn : ∀ h, val1 (T [(3, .d a0), (2, .d .nilS), (0, .d a0)]) h (.isnil false (.t 3)) = some (.d (bo false))) (he : ∀ h, elemsOf h 2 (.d a0) = some (List.map eSpot p1)) :
    PCall Try.prog 75 [a0] (.list (List.map eSpot p1)) := by
  refine l_call fn_slices_Clone_Spot_Spot (Nat.le_of_ble_eq_true rfl) ?_
  unfold ac_slices_Clone_Spot_Spot
  refine (l_sub (s0 := ⟨T [(0, .d a0)], G []⟩) (sb_of ⟨.of rfl, trivial⟩ trivial) ?_)
  refine l_seq ?_
  refine l_reg fun u1 hu1 => ?_
  refine s_val (.d .nilS) rfl rfl ?_
  refine s_nil ?_
  refine l_seq ?_
  refine l_seq ?_
  refine l_reg fun u2 hu2 => ?_
  refine s_val (.d a0) rfl rfl ?_
  refine s_val (.d (bo false)) rfl (hn _) ?_
  refine s_nil ?_
  refine l_condF rfl ?_
  refine l_skip ?_
  refine l_seq ?_
  refine l_reg fun u3 hu3 => ?_
  refine s_new (.sl _) (.arr 43 2 (List.map eSpot ([] : List Spot))) rfl rfl ?_
  refine s_val (.d a0) rfl rfl ?_
  refine s_append eSpot _ [] p1 _ (he _) rfl G_hit hl ?_
  refine s_val (.sl _) rfl rfl ?_
  refine s_nil ?_
  refine l_ret ?_
  exact fin_ok (.inr rfl) (resD1 (res_t rfl) (rf_sl G_hit)) (.refl _)
theorem slices_Clone_Spot_Spot_ok (p1 : List Spot) (r : List Spot) (h : slices_Clone_Spot_Spot p1 = some r) : PCall Try.prog 75 [.list (List.map eSpot p1)] (.list (List.map eSpot r)) := by
  have hr : r = p1 := by obtain ⟨_, rfl⟩ := appc_some h; rfl
  subst hr
  cases r with
  | cons x xs => exact slices_Clone_Spot_Spot_walk (x :: xs) _ h (fun _ => rfl) fun _ => elems_list (fun _ => rfl)
  | nil =>
    refine PCall.nil fun A cap => ?_
    cases A with
    | some A => exact slices_Clone_Spot_Spot_walk [] (.v (.slice (some A) 0 cap)) h (fun _ => rfl) fun _ => rfl
    | none =>
      refine l_call fn_slices_Clone_Spot_Spot (Nat.le_of_ble_eq_true rfl) ?_
      unfold ac_slices_Clone_Spot_Spot
      refine (l_sub (s0 := ⟨T [(0, .d (.v (.slice none 0 cap)))], G []⟩) (sb_of ⟨.of rfl, trivial⟩ trivial) ?_)
      refine l_seq ?_
      refine l_reg fun u1 hu1 => ?_
      refine s_val (.d .nilS) rfl rfl ?_
      refine s_nil ?_
      refine l_seq ?_
      refine l_seq ?_
      refine l_reg fun u2 hu2 => ?_
      refine s_val (.d _) rfl rfl ?_
      refine s_val (.d (bo true)) rfl rfl ?_
      refine s_nil ?_
      refine l_condT rfl ?_
      refine l_seq ?_
      refine l_reg fun u3 hu3 => ?_
      refine s_val (.d .nilS) rfl rfl ?_
      refine s_nil ?_
      refine l_ret ?_
      exact fin_ok (.inr rfl) (resD1 (res_t rfl) rf_d) .nil

noncomputable def slices_Clone_Spot_Spoto (p1 : List Spot) : Option (List Spot) := match p1 with
  | [] => none
  | _ => appc [] p1
theorem slices_Clone_Spot_Spoto_ne {p1 r : List Spot} (h : slices_Clone_Spot_Spoto p1 = some r) : r ≠ [] := by
  cases p1 with
  | nil => cases h
  | cons x xs => have := appc_ne (xs := []) h; exact this

theorem slices_Clone_Spot_Spoto_ok (p1 : List Spot) (r : List Spot) (h : slices_Clone_Spot_Spoto p1 = some r) : MCall Try.prog 75 [.d (.list (List.map eSpot p1))] [] (.sl (800000, 0)) [] [some (.arr 43 2 (List.map eSpot r))] := by
  cases p1 with
  | nil => cases h
  | cons x xs =>
  have hr : appc ([] : List Spot) (x :: xs) = some r := h
  refine m_callT fn_slices_Clone_Spot_Spot rfl (Nat.le_of_ble_eq_true rfl) ?_
  unfold ac_slices_Clone_Spot_Spot
  refine (l_sub (s0 := ⟨T [(0, .d (.list (List.map eSpot (x :: xs))))], G []⟩) (sb_of ⟨.of rfl, trivial⟩ trivial) ?_)
  refine l_seq ?_
  refine l_reg fun u1 hu1 => ?_
  refine s_val (.d .nilS) rfl rfl ?_
  refine s_nil ?_
  refine l_seq ?_
  refine l_seq ?_
  refine l_reg fun u2 hu2 => ?_
  refine s_val (.d (.list (List.map eSpot (x :: xs)))) rfl rfl ?_
  refine s_val (.d (bo false)) rfl rfl ?_
  refine s_nil ?_
  refine l_condF rfl ?_
  refine l_skip ?_
  refine l_seq ?_
  refine l_reg fun u3 hu3 => ?_
  refine s_new (.sl _) (.arr 43 2 (List.map eSpot ([] : List Spot))) rfl rfl ?_
  refine s_val (.d (.list (List.map eSpot (x :: xs)))) rfl rfl ?_
  refine s_append eSpot _ [] (x :: xs) _ (elems_list (fun _ => rfl)) rfl G_hit hr ?_
  refine s_val (.sl _) rfl rfl ?_
  refine s_nil ?_
  refine l_ret ?_
  exact fin_m (v1 := .sl (7, u3)) (.inr rfl) (resA1 (res_t rfl)) (.of rfl) [((7, u3), some (.arr 43 2 (List.map eSpot r)))] (sbG_some G_hit (.of rfl) trivial) (mpost_of [(7, u3)] rfl trivial ⟨G_hit, trivial⟩ rfl (by simp only [List.mem_cons, List.not_mem_nil, or_false, forall_eq]; exact fun i => old_ne rfl i) nd1)

noncomputable def curve_through (p1 : (List Spot)) : Option Curve :=
  (slices_Clone_Spot_Spot p1).bind fun v1 => some (Curve.mk v1)

/-- kerbstone/curve.through -/
def ac_curve_through : AC := (.seq (.reg [oo 2 (.alloc 24 [.nilS])]) (.seq (.reg [oo 3 (.mv (.t 0)), oo 4 (.call (cf 75) [(.t 3)]), oo 5 (.build [.nilS] [(0, 1, (.t 4))]), oe (.store 1 (.t 2) (.t 5))]) .ret))
theorem fn_curve_through : FnOK Try.prog 74 6 [.cell 2 1 true] ac_curve_through := ⟨_, _, Try.func74, rfl, Try.ntmps74, by kernel_rfl, ⟨fun _ => [], by kernel_rfl⟩, by kernel_rfl⟩
theorem curve_through_ok (p1 : (List Spot)) (r : Curve) (h : curve_through p1 = some r) : PCall Try.prog 74 [(.list (List.map eSpot p1))] (.agg [(.list (List.map eSpot r.Pts))]) := by
  refine l_call fn_curve_through (nl rfl) ?_
  unfold curve_through at h
  unfold ac_curve_through
  refine l_sub (s0 := ⟨T [(0, (.d _))], G []⟩) (sbr rfl rfl) ?_
  refine lr (fun u1 hu1 => sn rfl rfl (s_nil (lr (fun u2 hu2 => sv rfl (bs h fun v1 hv1 h => s_call rfl rfl all2_refl (slices_Clone_Spot_Spot_ok _  _ hv1) (.inl rfl) (sv rfl (sst rfl G_hit [(dl eSpot v1)] rfl (s_nil (l_ret ?_)))))))))
  obtain rfl := Option.some.inj h
  exact fin_ok (.inr rfl) (resD1 (res_cellG rfl G_hit (nl rfl) rfl) rf_d) (.refl _)

noncomputable def curve_Join (p1 : Curve) (p2 : Curve) : Option (Curve × Int) :=
  thenS ((curve_Check p1).bind fun v1 => cond (v1 != 0) (some (.inr ((Curve.mk []), v1))) ((curve_Check p2).bind fun v2 => cond (v2 != 0) (some (.inr ((Curve.mk []), v2))) (some (.inl ())))) (fun _ => (geti p1.Pts (w64 ((p1.Pts.length : Int) - 1))).bind fun v3 => (geti p2.Pts 0).bind fun v4 => cond (!(v3.X == v4.X && (v3.Y == v4.Y && true))) (some ((Curve.mk []), 7)) ((slices_Clone_Spot_Spoto p1.Pts).bind fun v5 => (subl p2.Pts 1 (p2.Pts.length : Int)).bind fun v6 => (appc v5 v6).bind fun v7 => (curve_through v7).bind fun v8 => (curve_Check v8).bind fun v9 => cond (v9 != 0) (some ((Curve.mk []), v9)) (some (v8, 0)))) (fun r => some r)

/-- kerbstone/curve.Join -/
def ac_curve_Join : AC := (.seq (.reg [oo 2 (.box 24 true (.t 0)), oo 3 (.box 24 true (.t 1)), oo 4 (.alloc 24 [.nilS]), oo 5 (.mv (ci 0))]) (.seq (.seq (.reg [oo 11 (.load 1 true (.t 2)), oo 12 (.load 1 true (.t 3)), oo 13 (.build [.nilS, .nilS] [(0, 1, (.t 11)), (1, 1, (.t 12))]), oo 14 (.mv (ci 0))]) (.block 0 (.loop (.seq (.reg [oo 15 (.bin .lss (.t 14) (ci 2))]) (.seq (.cond (.t 15) .skip (.exit 0)) (.seq (.block 1 (.seq (.reg [oo 16 (.idxA 2 1 true (.t 13) (.t 14)), oo 7 (.alloc 24 [.nilS]), oe (.store 1 (.t 7) (.t 16))]) (.seq (.reg [oo 17 (.load 1 true (.t 7)), oo 18 (.call (cf 20) [(.t 17)]), oo 8 (.mv (.t 18))]) (.seq (.reg [oo 19 (.mv (.t 8)), oo 20 (.bin .neq (.t 19) (ci 0))]) (.cond (.t 20) (.seq (.reg [oo 21 (.build [.nilS] []), oo 22 (.mv (.t 8)), oe (.store 1 (.t 4) (.t 21)), oo 5 (.mv (.t 22))]) .ret) .skip))))) (.reg [oo 23 (.bin .add (.t 14) (ci 1)), oo 14 (.mv (.t 23))]))))))) (.seq (.seq (.draw [oo 24 (.fieldA 0 (.t 2)), oo 25 (.load 1 false (.t 24)), oo 26 (.fieldA 0 (.t 2)), oo 27 (.load 1 false (.t 26)), oo 28 (.len (.t 27)), oo 29 (.bin .sub (.t 28) (ci 1)), oo 30 (.idxS 2 (.t 25) (.t 29)), oo 31 (.load 2 true (.t 30)), oo 32 (.fieldA 0 (.t 3)), oo 33 (.load 1 false (.t 32)), oo 34 (.idxS 2 (.t 33) (ci 0)), oo 35 (.load 2 true (.t 34)), oo 36 (.eqA true [false, false] (.t 31) (.t 35))] []) (.cond (.t 36) (.seq (.reg [oo 37 (.build [.nilS] []), oe (.store 1 (.t 4) (.t 37)), oo 5 (.mv (ci 7))]) .ret) .skip)) (.seq (.draw [oo 38 (.fieldA 0 (.t 2)), oo 39 (.load 1 false (.t 38)), oo 40 (.ocall 10100020 (cf 75) [(.t 39)]), oo 41 (.fieldA 0 (.t 3)), oo 42 (.load 1 false (.t 41)), oo 43 (.slice 2 (.t 42) (some (ci 1)) none none), oo 44 (.append 22 43 2 (.t 40) (.t 43)), oo 45 (.ocall 10100070 (cf 74) [(.t 44)]), oo 9 (.alloc 24 [.nilS]), oe (.store 1 (.t 9) (.t 45))] [(2, 4), (2, 8), (6, 8), (7, 8)]) (.seq (.seq (.reg [oo 46 (.load 1 true (.t 9)), oo 47 (.call (cf 20) [(.t 46)]), oo 10 (.mv (.t 47))]) (.seq (.reg [oo 48 (.mv (.t 10)), oo 49 (.bin .neq (.t 48) (ci 0))]) (.cond (.t 49) (.seq (.reg [oo 50 (.build [.nilS] []), oo 51 (.mv (.t 10)), oe (.store 1 (.t 4) (.t 50)), oo 5 (.mv (.t 51))]) .ret) .skip))) (.seq (.reg [oo 52 (.load 1 true (.t 9)), oe (.store 1 (.t 4) (.t 52)), oo 5 (.mv (ci 0))]) .ret))))))
theorem fn_curve_Join : FnOK Try.prog 36 53 [.cell 4 1 true, .t 5] ac_curve_Join := ⟨_, _, Try.func36, rfl, Try.ntmps36, by kernel_rfl, ⟨fun r => if r == 10 then [1010002, 1010007] else [], by kernel_rfl⟩, by kernel_rfl⟩
set_option maxHeartbeats 4000000 in
theorem curve_Join_ok (p1 : Curve) (p2 : Curve) (r : (Curve × Int)) (h : curve_Join p1 p2 = some r) : PCall Try.prog 36 [(.agg [(.list (List.map eSpot p1.Pts))]), (.agg [(.list (List.map eSpot p2.Pts))])] (.tup [(.agg [(.list (List.map eSpot r.1.Pts))]), (i64 r.2)]) := by
  refine l_call fn_curve_Join (nl rfl) ?_
  unfold curve_Join at h
  unfold ac_curve_Join
  refine l_sub (s0 := ⟨T [(0, (.d _)), (1, (.d _))], G []⟩) (sbr rfl rfl) ?_
  refine lr (fun u1 hu1 => sn rfl rfl (sn rfl rfl (sn rfl rfl (sv rfl (s_nil (l_seq (lr (fun u2 hu2 => sd rfl (v_loadG rfl (gq rfl) rfl rfl) (sd rfl (v_loadG rfl (gq rfl) rfl rfl) (sv rfl (sv rfl (s_nil (js h fun z1 hz1 h => l_join (fun s => ∃ (y1 : Unit) (g1 : Unit), z1 = .inl y1 ∧ Sb ⟨T [(2, (.ptr (2, u1) 0)), (3, (.ptr (3, u1) 0)), (4, (.ptr (4, u1) 0))], G [((2, u1), some (.box 24 [(dl eSpot p1.Pts)])), ((3, u1), some (.box 24 [(dl eSpot p2.Pts)])), ((4, u1), some (.box 24 [(.d .nilS)]))]⟩ s) ?_ ?_)))))))))))))
  · refine l_block (l_unroll (lr (fun u3 hu3 => sv rfl (s_nil (l_seq (l_condT rfl (l_skip (l_seq (l_block (lr (fun u4 hu4 => sv rfl (sn rfl rfl (sst rfl G_hit [(dl eSpot p1.Pts)] rfl (s_nil (lr (fun u5 hu5 => sd rfl (v_loadG rfl G_hit rfl rfl) (bs hz1 fun v1 hv1 hz1 => s_call rfl rfl all2_refl (curve_Check_ok _  _ hv1) (.inl rfl) (sv rfl (s_nil (lr (fun u6 hu6 => sv rfl (sv rfl (s_nil (cc rfl hz1 (fun c1 hz1 => ?_) (fun c1 hz1 => ?_)))))))))))))))))))))))))
    · refine l_seq (l_sub (s0 := ⟨T [(4, (.ptr _ _)), (8, (.d _))], G [((4, u1), some (.box 24 _))]⟩) (sbr rfl rfl) ?_)
      refine l_reg fun u7 hu7 => sv rfl (sv rfl (sst rfl G_hit [(.d .nilS)] rfl (sv rfl (s_nil (l_ret ?_)))))
      obtain rfl := Option.some.inj hz1
      rw [Sum.elim_inr] at h
      obtain rfl := Option.some.inj h
      exact fin_ok (.inr rfl) (resD2 (res_cellG rfl G_hit (nl rfl) rfl) (res_t rfl) rf_d rf_d) (.tup (.cons (.agg (.cons ⟨DLe.nil, rfl⟩ .nil)) (.cons (.refl _) .nil)))
    · refine l_skip (l_end (l_sub (s0 := ⟨T [(2, (.ptr _ _)), (3, (.ptr _ _)), (4, (.ptr _ _)), (13, (.d _)), (14, (.d _))], G [((2, u1), some (.box 24 _)), ((3, u1), some (.box 24 _)), ((4, u1), some (.box 24 _))]⟩) (sbr rfl rfl) ?_))
      refine l_reg fun u8 hu8 => sv rfl (sv rfl (s_nil (l_unroll (lr (fun u9 hu9 => sv rfl (s_nil (l_seq (l_condT rfl (l_skip (l_seq (l_block (lr (fun u10 hu10 => sv rfl (sn rfl rfl (sst rfl G_hit [(dl eSpot p2.Pts)] rfl (s_nil (lr (fun u11 hu11 => sd rfl (v_loadG rfl G_hit rfl rfl) (bs hz1 fun v2 hv2 hz1 => s_call rfl rfl all2_refl (curve_Check_ok _  _ hv2) (.inl rfl) (sv rfl (s_nil (lr (fun u12 hu12 => sv rfl (sv rfl (s_nil (cc rfl hz1 (fun c2 hz1 => ?_) (fun c2 hz1 => ?_)))))))))))))))))))))))))))
      · refine lr (fun u13 hu13 => sv rfl (sv rfl (sst rfl (gq rfl) [(.d .nilS)] rfl (sv rfl (s_nil (l_ret ?_))))))
        obtain rfl := Option.some.inj hz1
        rw [Sum.elim_inr] at h
        obtain rfl := Option.some.inj h
        exact fin_ok (.inr rfl) (resD2 (res_cellG rfl G_hit (nl rfl) rfl) (res_t rfl) rf_d rf_d) (.tup (.cons (.agg (.cons ⟨DLe.nil, rfl⟩ .nil)) (.cons (.refl _) .nil)))
      · refine l_skip (l_end (l_reg fun u14 hu14 => sv rfl (sv rfl (s_nil (l_unroll (lr (fun u15 hu15 => sv rfl (s_nil (l_seq (l_condF rfl (l_exit rfl ?_)))))))))))
        obtain rfl := Option.some.inj hz1
        exact l_j ⟨_, (), rfl, (sbr rfl rfl)⟩
  · rintro _ ⟨y1, g1, rfl, q1⟩
    rw [Sum.elim_inl] at h
    refine l_sub q1 (l_seq (l_seq (l_draw rfl fun u16 hu16 => sp rfl rfl (sl rfl G_hit rfl (sp rfl rfl (sl rfl G_hit rfl (sd rfl (v_len rfl) (sv rfl (bs h fun v3 hv3 h => sd rfl (v_idx rfl rfl hv3 rfl) (sd rfl (v_loadLG rfl hv3 rfl rfl) (sp rfl rfl (sl rfl (gq rfl) rfl (bs h fun v4 hv4 h => sd rfl (v_idx rfl rfl hv4 rfl) (sd rfl (v_loadLG rfl hv4 rfl rfl) (s_val (.d (bo (!(v3.X == v4.X && (v3.Y == v4.Y && true))))) rfl rfl (s_nil (cc rfl h (fun c3 h => ?_) (fun c3 h => ?_))))))))))))))))))
    · refine lr (fun u17 hu17 => sv rfl (sst rfl (gq rfl) [(.d .nilS)] rfl (sv rfl (s_nil (l_ret ?_)))))
      obtain rfl := Option.some.inj h
      exact fin_ok (.inr rfl) (resD2 (res_cellG rfl G_hit (nl rfl) rfl) (res_t rfl) rf_d rf_d) (.tup (.cons (.agg (.cons ⟨DLe.nil, rfl⟩ .nil)) (.cons (.refl _) .nil)))
    · refine l_skip (l_seq (l_drawT fun u18 hu18 => t_val (.ptr _ _) rfl rfl (t_val (.d _) rfl (v_load rfl G_hit rfl) (bs h fun v5 hv5 h => t_oc (v := .sl (10100020, u18)) (us := [(10100020, u18)]) (oc_m (slices_Clone_Spot_Spoto_ok _ _ hv5) [] [] _ (((10100020, u18), some (.arr 43 2 (List.map eSpot v5))) :: _) rfl all2_av rfl live_nil trivial (fun _ h => h) List.nodup_nil rfl rfl rfl) (t_val (.ptr _ _) rfl rfl (t_val (.d _) rfl (v_load rfl (gq rfl) rfl) (bs h fun v6 hv6 h => t_val (.d _) rfl (v_sub rfl (fun _ => rfl) (bd_x rfl) bd_end hv6) (bs h fun v7 hv7 h => t_append eSpot _ _ _ _ (elems_list (fun _ => rfl)) rfl G_hit hv7 (bs h fun v8 hv8 h => t_oc (v := .d (.agg [(.list (List.map eSpot v8.Pts))])) (us := [(44, u18)]) (oc_f [(44, u18)] (((44, u18), none) :: _) rfl (rfL_cons (rf_sl G_hit) rfL_nil) all2_refl (curve_through_ok _ _ hv8) (kl_cons kr_sl kl_nil) rfl) (t_new (.ptr _ _) (.box _ _) rfl rfl (t_store _ _ _ _ _ rfl rfl rfl G_hit (nl rfl) [(dl eSpot v8.Pts)] rfl (t_nil ⟨rfl, ?_⟩))))))))))))
      refine l_seq (l_seq (l_sub (s0 := ⟨T [(4, (.ptr _ _)), (9, (.ptr _ _))], G [((4, u1), some (.box 24 _)), ((9, u18), some (.box 24 _))]⟩) (sbr rfl rfl) ?_))
      refine l_reg fun u19 hu19 => sd rfl (v_loadG rfl (gq rfl) rfl rfl) (bs h fun v9 hv9 h => s_call rfl rfl all2_refl (curve_Check_ok _  _ hv9) (.inl rfl) (sv rfl (s_nil (lr (fun u20 hu20 => sv rfl (sv rfl (s_nil (cc rfl h (fun c4 h => ?_) (fun c4 h => ?_)))))))))
      · refine lr (fun u21 hu21 => sv rfl (sv rfl (sst rfl G_hit [(.d .nilS)] rfl (sv rfl (s_nil (l_ret ?_))))))
        obtain rfl := Option.some.inj h
        exact fin_ok (.inr rfl) (resD2 (res_cellG rfl G_hit (nl rfl) rfl) (res_t rfl) rf_d rf_d) (.tup (.cons (.agg (.cons ⟨DLe.nil, rfl⟩ .nil)) (.cons (.refl _) .nil)))
      · refine l_skip (lr (fun u22 hu22 => sd rfl (v_loadG rfl (gq rfl) rfl rfl) (sst rfl G_hit [(dl eSpot v8.Pts)] rfl (sv rfl (s_nil (l_ret ?_))))))
        obtain rfl := Option.some.inj h
        exact fin_ok (.inr rfl) (resD2 (res_cellG rfl G_hit (nl rfl) rfl) (res_t rfl) rf_d rf_d) (.refl _)

noncomputable def ref01_Valid (p1 : Spot) : Option Bool :=
  some ((((decide (p1.X ≥ (-16777216))) && (decide (p1.X ≤ 16777216))) && (decide (p1.Y ≥ (-16777216)))) && (decide (p1.Y ≤ 16777216)))

/-- kerbstone/kerbstoneref01.Valid -/
def ac_ref01_Valid : AC := (.seq (.reg [oo 1 (.box 43 true (.t 0)), oo 2 (.mv (.c zf))]) (.seq (.reg [oo 3 (.fieldA 0 (.t 1)), oo 4 (.load 1 false (.t 3)), oo 5 (.bin .geq (.t 4) (ci (-16777216))), oo 6 (.mv (.t 5)), og 7 (.fieldA 0 (.t 1)) 6, og 8 (.load 1 false (.t 7)) 6, og 9 (.bin .leq (.t 8) (ci 16777216)) 6, oo 10 (.pick (.t 6) (.t 9) (.c zf)), oo 11 (.mv (.t 10)), og 12 (.fieldA 1 (.t 1)) 11, og 13 (.load 1 false (.t 12)) 11, og 14 (.bin .geq (.t 13) (ci (-16777216))) 11, oo 15 (.pick (.t 11) (.t 14) (.c zf)), oo 16 (.mv (.t 15)), og 17 (.fieldA 1 (.t 1)) 16, og 18 (.load 1 false (.t 17)) 16, og 19 (.bin .leq (.t 18) (ci 16777216)) 16, oo 20 (.pick (.t 16) (.t 19) (.c zf)), oo 2 (.mv (.t 20))]) .ret))
theorem fn_ref01_Valid : FnOK Try.prog 63 21 [.t 2] ac_ref01_Valid := ⟨_, _, Try.func63, rfl, Try.ntmps63, by kernel_rfl, ⟨fun _ => [], by kernel_rfl⟩, by kernel_rfl⟩
theorem ref01_Valid_ok (p1 : Spot) (r : Bool) (h : ref01_Valid p1 = some r) : PCall Try.prog 63 [(.agg [(i64 p1.X), (i64 p1.Y)])] (bo r) := by
  refine l_call fn_ref01_Valid (nl rfl) ?_
  unfold ref01_Valid at h
  unfold ac_ref01_Valid
  refine l_sub (s0 := ⟨T [(0, (.d _))], G []⟩) (sbr rfl rfl) ?_
  refine lr (fun u1 hu1 => sn rfl rfl (sv rfl (s_nil (lr (fun u2 hu2 => sp rfl rfl (sl rfl G_hit rfl (sv rfl (sv rfl (gp (gw_t rfl) (fun _ => rfl) (gt rfl (vl rfl G_hit rfl) (gt rfl (vb rfl rfl rfl) (sa rfl rfl rfl (sv rfl (gp (gw_t rfl) (fun _ => rfl) (gt rfl (vl rfl G_hit rfl) (gt rfl (vb rfl rfl rfl) (sa rfl rfl rfl (sv rfl (gp (gw_t rfl) (fun _ => rfl) (gt rfl (vl rfl G_hit rfl) (gt rfl (vb rfl rfl rfl) (sa rfl rfl rfl (sv rfl (s_nil (l_ret ?_)))))))))))))))))))))))))
  obtain rfl := Option.some.inj h
  exact fin_ok (.inr rfl) (resD1 (res_t rfl) rf_d) (.refl _)

noncomputable def ref01_Dot (p1 : Spot) (p2 : Spot) : Option Int :=
  some (w64 ((w64 (p1.X * p2.X)) + (w64 (p1.Y * p2.Y))))

/-- kerbstone/kerbstoneref01.Dot -/
def ac_ref01_Dot : AC := (.seq (.reg [oo 2 (.box 43 true (.t 0)), oo 3 (.box 43 true (.t 1)), oo 4 (.mv (ci 0))]) (.seq (.reg [oo 5 (.fieldA 0 (.t 2)), oo 6 (.load 1 false (.t 5)), oo 7 (.fieldA 0 (.t 3)), oo 8 (.load 1 false (.t 7)), oo 9 (.bin .mul (.t 6) (.t 8)), oo 10 (.fieldA 1 (.t 2)), oo 11 (.load 1 false (.t 10)), oo 12 (.fieldA 1 (.t 3)), oo 13 (.load 1 false (.t 12)), oo 14 (.bin .mul (.t 11) (.t 13)), oo 15 (.bin .add (.t 9) (.t 14)), oo 4 (.mv (.t 15))]) .ret))
theorem fn_ref01_Dot : FnOK Try.prog 65 16 [.t 4] ac_ref01_Dot := ⟨_, _, Try.func65, rfl, Try.ntmps65, by kernel_rfl, ⟨fun _ => [], by kernel_rfl⟩, by kernel_rfl⟩
theorem ref01_Dot_ok (p1 : Spot) (p2 : Spot) (r : Int) (h : ref01_Dot p1 p2 = some r) : PCall Try.prog 65 [(.agg [(i64 p1.X), (i64 p1.Y)]), (.agg [(i64 p2.X), (i64 p2.Y)])] (i64 r) := by
  refine l_call fn_ref01_Dot (nl rfl) ?_
  unfold ref01_Dot at h
  unfold ac_ref01_Dot
  refine l_sub (s0 := ⟨T [(0, (.d _)), (1, (.d _))], G []⟩) (sbr rfl rfl) ?_
  refine lr (fun u1 hu1 => sn rfl rfl (sn rfl rfl (sv rfl (s_nil (lr (fun u2 hu2 => sp rfl rfl (sl rfl (gq rfl) rfl (sp rfl rfl (sl rfl G_hit rfl (sv rfl (sp rfl rfl (sl rfl (gq rfl) rfl (sp rfl rfl (sl rfl G_hit rfl (sv rfl (sv rfl (sv rfl (s_nil (l_ret ?_)))))))))))))))))))
  obtain rfl := Option.some.inj h
  exact fin_ok (.inr rfl) (resD1 (res_t rfl) rf_d) (.refl _)

noncomputable def ref01_root_l1 (p1 : Int) (x1 : (Int × Int)) : Option (Stp (Int × Int) Int) :=
  cond (decide (x1.2 > 0)) (cond (decide ((w64 ((w64 (x1.1 + x1.2)) * (w64 (x1.1 + x1.2)))) ≤ p1)) (some (.go ((w64 (x1.1 + x1.2)), (w64 (x1.2.tdiv 2))))) (some (.go (x1.1, (w64 (x1.2.tdiv 2)))))) (some (.out x1.1))
noncomputable def ref01_root (p1 : Int) : Option Int :=
  (loop (ref01_root_l1 p1) (0, 67108864)).bind fun y1 => some y1

/-- kerbstone/kerbstoneref01.root -/
def ac_ref01_root : AC := (.seq (.reg [oo 2 (.mv (ci 0))]) (.seq (.reg [oo 3 (.mv (ci 0))]) (.seq (.seq (.reg [oo 4 (.mv (ci 67108864))]) (.block 0 (.loop (.seq (.seq (.reg [oo 5 (.mv (.t 4)), oo 6 (.bin .gtr (.t 5) (ci 0))]) (.cond (.t 6) .skip (.exit 0))) (.seq (.block 1 (.seq (.reg [oo 9 (.mv (.t 3)), oo 10 (.mv (.t 4)), oo 11 (.bin .add (.t 9) (.t 10)), oo 12 (.mv (.t 3)), oo 13 (.mv (.t 4)), oo 14 (.bin .add (.t 12) (.t 13)), oo 15 (.bin .mul (.t 11) (.t 14)), oo 16 (.mv (.t 0)), oo 17 (.bin .leq (.t 15) (.t 16))]) (.cond (.t 17) (.reg [oo 18 (.mv (.t 3)), oo 19 (.mv (.t 4)), oo 20 (.bin .add (.t 18) (.t 19)), oo 3 (.mv (.t 20))]) .skip))) (.reg [oo 7 (.mv (.t 4)), oo 8 (.bin .quo (.t 7) (ci 2)), oo 4 (.mv (.t 8))])))))) (.seq (.reg [oo 21 (.mv (.t 3)), oo 2 (.mv (.t 21))]) .ret))))
theorem fn_ref01_root : FnOK Try.prog 64 22 [.t 2] ac_ref01_root := ⟨_, _, Try.func64, rfl, Try.ntmps64, by kernel_rfl, ⟨fun _ => [], by kernel_rfl⟩, by kernel_rfl⟩
set_option maxHeartbeats 4000000 in
theorem ref01_root_ok (p1 : Int) (r : Int) (h : ref01_root p1 = some r) : PCall Try.prog 64 [(i64 p1)] (i64 r) := by
  refine l_call fn_ref01_root (nl rfl) ?_
  unfold ref01_root at h
  unfold ac_ref01_root
  refine l_sub (s0 := ⟨T [(0, (.d _))], G []⟩) (sbr rfl rfl) ?_
  refine lr (fun u1 hu1 => sv rfl (s_nil (lr (fun u2 hu2 => sv rfl (s_nil (l_seq (lr (fun u3 hu3 => sv rfl (s_nil (bs h fun y1 hy1 h => l_join (fun s => ∃ g1 : Unit, Sb ⟨T [(3, (di y1))], G []⟩ s) ?_ ?_))))))))))
  · refine l_block (l_loop (ref01_root_l1 p1) (fun (x1 : (Int × Int)) (g2 : Unit) => ⟨T [(0, (di p1)), (3, (di x1.1)), (4, (di x1.2))], G []⟩) (0, 67108864) () _ hy1 (sbr rfl rfl) ?_)
    intro x1 g2 z1 hz1 ez1
    unfold ref01_root_l1 at hz1
    refine l_seq (lr (fun u4 hu4 => sv rfl (sv rfl (s_nil (cc rfl hz1 (fun c1 hz1 => ?_) (fun c1 hz1 => ?_))))))
    · refine l_skip (l_seq (l_block (lr (fun u5 hu5 => sv rfl (sv rfl (sv rfl (sv rfl (sv rfl (sv rfl (sv rfl (sv rfl (sv rfl (s_nil (cc rfl hz1 (fun c2 hz1 => ?_) (fun c2 hz1 => ?_)))))))))))))))
      · refine l_reg fun u6 hu6 => sv rfl (sv rfl (sv rfl (sv rfl (s_nil (l_end (l_reg fun u7 hu7 => sv rfl (sv rfl (sv rfl (s_nil (l_nil ?_))))))))))
        obtain rfl := Option.some.inj hz1
        exact ⟨rfl, (), (sbr rfl rfl)⟩
      · refine l_skip (l_end (l_reg fun u8 hu8 => sv rfl (sv rfl (sv rfl (s_nil (l_nil ?_))))))
        obtain rfl := Option.some.inj hz1
        exact ⟨rfl, (), (sbr rfl rfl)⟩
    · refine l_exitN rfl ?_
      obtain rfl := Option.some.inj hz1
      obtain rfl := ez1 _ rfl
      refine ⟨nofun, awl_pop rfl (l_j ?_)⟩
      exact ⟨(), (sbr rfl rfl)⟩
  · rintro _ ⟨g1, q1⟩
    refine l_sub q1 (lr (fun u9 hu9 => sv rfl (sv rfl (s_nil (l_ret ?_)))))
    obtain rfl := Option.some.inj h
    exact fin_ok (.inr rfl) (resD1 (res_t rfl) rf_d) (.refl _)

noncomputable def ref01_Check_l2 (p1 : Curve) (x2 : Int) : Option (Stp Int (Sum Unit Int)) :=
  cond (decide ((w64 (x2 + 1)) < (p1.Pts.length : Int))) ((geti p1.Pts (w64 (x2 + 1))).bind fun v3 => (geti p1.Pts x2).bind fun v4 => (ref01_Minus v3 v4).bind fun v5 => (ref01_Dot v5 v5).bind fun v6 => (ref01_root v6).bind fun v7 => (ref01_Dot v5 v5).bind fun v8 => cond ((w64 (v7 * v7)) != v8) (some (.out (.inr 3))) (cond ((decide (v7 < 1000)) || (decide (v7 > 1048576))) (some (.out (.inr 2))) (((cond (decide (x2 > 0)) (geti p1.Pts x2) (some default))).bind fun v9 => ((cond (decide (x2 > 0)) (geti p1.Pts (w64 (x2 - 1))) (some default))).bind fun v10 => ((cond (decide (x2 > 0)) (ref01_Minus v9 v10) (some default))).bind fun v11 => ((cond (decide (x2 > 0)) (ref01_Dot v5 v11) (some default))).bind fun v12 => cond ((decide (x2 > 0)) && (decide (v12 ≤ 0))) (some (.out (.inr 12))) (some (.go (w64 (x2 + 1))))))) (some (.out (.inl ())))
noncomputable def ref01_Check_l1 (p1 : Curve) (x1 : Int) : Option (Stp Int (Sum Unit Int)) :=
  cond (decide (x1 < (p1.Pts.length : Int))) ((geti p1.Pts x1).bind fun v1 => (ref01_Valid v1).bind fun v2 => cond (!v2) (some (.out (.inr 2))) (some (.go (w64 (x1 + 1))))) (some (.out (.inl ())))
noncomputable def ref01_Check (p1 : Curve) : Option Int :=
  cond (decide ((p1.Pts.length : Int) < 2)) (some 6) (cond (decide ((p1.Pts.length : Int) > 16)) (some 5) (thenS (loop (ref01_Check_l1 p1) 0) (fun _ => thenS (loop (ref01_Check_l2 p1) 0) (fun _ => some 0) (fun r => some r)) (fun r => some r)))

/-- kerbstone/kerbstoneref01.Check -/
def ac_ref01_Check : AC := (.seq (.reg [oo 1 (.box 24 true (.t 0)), oo 2 (.mv (ci 0))]) (.seq (.seq (.reg [oo 7 (.fieldA 0 (.t 1)), oo 8 (.load 1 false (.t 7)), oo 9 (.len (.t 8)), oo 10 (.bin .lss (.t 9) (ci 2))]) (.cond (.t 10) (.seq (.reg [oo 2 (.mv (ci 6))]) .ret) .skip)) (.seq (.seq (.reg [oo 11 (.fieldA 0 (.t 1)), oo 12 (.load 1 false (.t 11)), oo 13 (.len (.t 12)), oo 14 (.bin .gtr (.t 13) (ci 16))]) (.cond (.t 14) (.seq (.reg [oo 2 (.mv (ci 5))]) .ret) .skip)) (.seq (.seq (.reg [oo 3 (.mv (ci 0))]) (.block 0 (.loop (.seq (.seq (.reg [oo 15 (.mv (.t 3)), oo 16 (.fieldA 0 (.t 1)), oo 17 (.load 1 false (.t 16)), oo 18 (.len (.t 17)), oo 19 (.bin .lss (.t 15) (.t 18))]) (.cond (.t 19) .skip (.exit 0))) (.seq (.block 1 (.seq (.reg [oo 22 (.fieldA 0 (.t 1)), oo 23 (.load 1 false (.t 22)), oo 24 (.mv (.t 3)), oo 25 (.idxS 2 (.t 23) (.t 24)), oo 26 (.load 2 true (.t 25)), oo 27 (.call (cf 63) [(.t 26)]), oo 28 (.un .not (.t 27))]) (.cond (.t 28) (.seq (.reg [oo 2 (.mv (ci 2))]) .ret) .skip))) (.reg [oo 20 (.mv (.t 3)), oo 21 (.bin .add (.t 20) (ci 1)), oo 3 (.mv (.t 21))])))))) (.seq (.seq (.reg [oo 4 (.mv (ci 0))]) (.block 2 (.loop (.seq (.seq (.reg [oo 29 (.mv (.t 4)), oo 30 (.bin .add (.t 29) (ci 1)), oo 31 (.fieldA 0 (.t 1)), oo 32 (.load 1 false (.t 31)), oo 33 (.len (.t 32)), oo 34 (.bin .lss (.t 30) (.t 33))]) (.cond (.t 34) .skip (.exit 2))) (.seq (.block 3 (.seq (.draw [oo 37 (.fieldA 0 (.t 1)), oo 38 (.load 1 false (.t 37)), oo 39 (.mv (.t 4)), oo 40 (.bin .add (.t 39) (ci 1)), oo 41 (.idxS 2 (.t 38) (.t 40)), oo 42 (.load 2 true (.t 41)), oo 43 (.fieldA 0 (.t 1)), oo 44 (.load 1 false (.t 43)), oo 45 (.mv (.t 4)), oo 46 (.idxS 2 (.t 44) (.t 45)), oo 47 (.load 2 true (.t 46)), oo 48 (.call (cf 40) [(.t 42), (.t 47)]), oo 5 (.alloc 43 [z0, z0]), oe (.store 2 (.t 5) (.t 48))] []) (.seq (.reg [oo 49 (.load 2 true (.t 5)), oo 50 (.load 2 true (.t 5)), oo 51 (.call (cf 65) [(.t 49), (.t 50)]), oo 52 (.call (cf 64) [(.t 51)]), oo 6 (.mv (.t 52))]) (.seq (.seq (.reg [oo 53 (.mv (.t 6)), oo 54 (.mv (.t 6)), oo 55 (.bin .mul (.t 53) (.t 54)), oo 56 (.load 2 true (.t 5)), oo 57 (.load 2 true (.t 5)), oo 58 (.call (cf 65) [(.t 56), (.t 57)]), oo 59 (.bin .neq (.t 55) (.t 58))]) (.cond (.t 59) (.seq (.reg [oo 2 (.mv (ci 3))]) .ret) .skip)) (.seq (.seq (.reg [oo 60 (.mv (.t 6)), oo 61 (.bin .lss (.t 60) (ci 1000)), oo 62 (.mv (.t 61)), oh 63 (.mv (.t 6)) 62, oh 64 (.bin .gtr (.t 63) (ci 1048576)) 62, oo 65 (.pick (.t 62) (.c (.v (.bool true))) (.t 64))]) (.cond (.t 65) (.seq (.reg [oo 2 (.mv (ci 2))]) .ret) .skip)) (.seq (.draw [oo 66 (.mv (.t 4)), oo 67 (.bin .gtr (.t 66) (ci 0)), oo 68 (.mv (.t 67)), og 69 (.load 2 true (.t 5)) 68, og 70 (.fieldA 0 (.t 1)) 68, og 71 (.load 1 false (.t 70)) 68, og 72 (.mv (.t 4)) 68, og 73 (.idxS 2 (.t 71) (.t 72)) 68, og 74 (.load 2 true (.t 73)) 68, og 75 (.fieldA 0 (.t 1)) 68, og 76 (.load 1 false (.t 75)) 68, og 77 (.mv (.t 4)) 68, og 78 (.bin .sub (.t 77) (ci 1)) 68, og 79 (.idxS 2 (.t 76) (.t 78)) 68, og 80 (.load 2 true (.t 79)) 68, og 81 (.call (cf 40) [(.t 74), (.t 80)]) 68, og 82 (.call (cf 65) [(.t 69), (.t 81)]) 68, og 83 (.bin .leq (.t 82) (ci 0)) 68, oo 84 (.pick (.t 68) (.t 83) (.c zf))] []) (.cond (.t 84) (.seq (.reg [oo 2 (.mv (ci 12))]) .ret) .skip))))))) (.reg [oo 35 (.mv (.t 4)), oo 36 (.bin .add (.t 35) (ci 1)), oo 4 (.mv (.t 36))])))))) (.seq (.reg [oo 2 (.mv (ci 0))]) .ret))))))
theorem fn_ref01_Check : FnOK Try.prog 21 85 [.t 2] ac_ref01_Check := ⟨_, _, Try.func21, rfl, Try.ntmps21, by kernel_rfl, ⟨fun _ => [], by kernel_rfl⟩, by kernel_rfl⟩
set_option maxHeartbeats 4000000 in
theorem ref01_Check_ok (p1 : Curve) (r : Int) (h : ref01_Check p1 = some r) : PCall Try.prog 21 [(.agg [(.list (List.map eSpot p1.Pts))])] (i64 r) := by
  refine l_call fn_ref01_Check (nl rfl) ?_
  unfold ref01_Check at h
  unfold ac_ref01_Check
  refine l_sub (s0 := ⟨T [(0, (.d _))], G []⟩) (sbr rfl rfl) ?_
  refine lr (fun u1 hu1 => sn rfl rfl (sv rfl (s_nil (l_seq (lr (fun u2 hu2 => sp rfl rfl (sl rfl G_hit rfl (sd rfl (v_len rfl) (sv rfl (s_nil (cc rfl h (fun c1 h => ?_) (fun c1 h => ?_))))))))))))
  · refine lr (fun u3 hu3 => sv rfl (s_nil (l_ret ?_)))
    obtain rfl := Option.some.inj h
    exact fin_ok (.inr rfl) (resD1 (res_t rfl) rf_d) (.refl _)
  · refine l_skip (l_seq (lr (fun u4 hu4 => sp rfl rfl (sl rfl G_hit rfl (sd rfl (v_len rfl) (sv rfl (s_nil (cc rfl h (fun c2 h => ?_) (fun c2 h => ?_)))))))))
    · refine lr (fun u5 hu5 => sv rfl (s_nil (l_ret ?_)))
      obtain rfl := Option.some.inj h
      exact fin_ok (.inr rfl) (resD1 (res_t rfl) rf_d) (.refl _)
    · refine l_skip (l_seq (lr (fun u6 hu6 => sv rfl (s_nil (js h fun z1 hz1 h => l_join (fun s => ∃ (y1 : Unit) (g1 : Unit), z1 = .inl y1 ∧ Sb ⟨T [(1, (.ptr (1, u1) 0))], G [((1, u1), some (.box 24 [(dl eSpot p1.Pts)]))]⟩ s) ?_ ?_)))))
      · refine l_block (l_loop (ref01_Check_l1 p1) (fun (x1 : Int) (g2 : Unit) => ⟨T [(1, (.ptr (1, u1) 0)), (3, (di x1))], G [((1, u1), some (.box 24 [(dl eSpot p1.Pts)]))]⟩) 0 () _ hz1 (sbr rfl rfl) ?_)
        intro x1 g2 z2 hz2 ez2
        unfold ref01_Check_l1 at hz2
        refine l_seq (lr (fun u7 hu7 => sv rfl (sp rfl rfl (sl rfl G_hit rfl (sd rfl (v_len rfl) (sv rfl (s_nil (cc rfl hz2 (fun c3 hz2 => ?_) (fun c3 hz2 => ?_)))))))))
        · refine l_skip (l_seq (l_block (lr (fun u8 hu8 => sp rfl rfl (sl rfl G_hit rfl (sv rfl (bs hz2 fun v1 hv1 hz2 => sd rfl (v_idx rfl rfl hv1 rfl) (sd rfl (v_loadLG rfl hv1 rfl rfl) (bs hz2 fun v2 hv2 hz2 => s_call rfl rfl all2_refl (ref01_Valid_ok _  _ hv2) (.inl rfl) (s_val (.d (bo (!v2))) rfl rfl (s_nil (cc rfl hz2 (fun c4 hz2 => ?_) (fun c4 hz2 => ?_)))))))))))))
          · refine lr (fun u9 hu9 => sv rfl (s_nil (l_ret ?_)))
            obtain rfl := Option.some.inj hz2
            obtain rfl := ez2 _ rfl
            refine ⟨nofun, awl_ret ?_⟩
            rw [Sum.elim_inr] at h
            obtain rfl := Option.some.inj h
            exact fin_ok (.inr rfl) (resD1 (res_t rfl) rf_d) (.refl _)
          · refine l_skip (l_end (l_reg fun u10 hu10 => sv rfl (sv rfl (sv rfl (s_nil (l_nil ?_))))))
            obtain rfl := Option.some.inj hz2
            exact ⟨rfl, (), (sbr rfl rfl)⟩
        · refine l_exitN rfl ?_
          obtain rfl := Option.some.inj hz2
          obtain rfl := ez2 _ rfl
          refine ⟨nofun, awl_pop rfl (l_j ?_)⟩
          exact ⟨_, (), rfl, (sbr rfl rfl)⟩
      · rintro _ ⟨y1, g1, rfl, q1⟩
        rw [Sum.elim_inl] at h
        refine l_sub q1 (l_seq (lr (fun u11 hu11 => sv rfl (s_nil (js h fun z3 hz3 h => l_join (fun s => ∃ (y2 : Unit) (g3 : Unit), z3 = .inl y2 ∧ Sb ⟨T [], G []⟩ s) ?_ ?_)))))
        · refine l_block (l_loop (ref01_Check_l2 p1) (fun (x2 : Int) (g4 : Unit) => ⟨T [(1, (.ptr (1, u1) 0)), (4, (di x2))], G [((1, u1), some (.box 24 [(dl eSpot p1.Pts)]))]⟩) 0 () _ hz3 (sbr rfl rfl) ?_)
          intro x2 g4 z4 hz4 ez4
          unfold ref01_Check_l2 at hz4
          refine l_seq (lr (fun u12 hu12 => sv rfl (sv rfl (sp rfl rfl (sl rfl G_hit rfl (sd rfl (v_len rfl) (sv rfl (s_nil (cc rfl hz4 (fun c5 hz4 => ?_) (fun c5 hz4 => ?_))))))))))
          · refine l_skip (l_seq (l_block (l_seq (l_draw rfl fun u13 hu13 => sp rfl rfl (sl rfl G_hit rfl (sv rfl (sv rfl (bs hz4 fun v3 hv3 hz4 => sd rfl (v_idx rfl rfl hv3 rfl) (sd rfl (v_loadLG rfl hv3 rfl rfl) (sp rfl rfl (sl rfl G_hit rfl (sv rfl (bs hz4 fun v4 hv4 hz4 => sd rfl (v_idx rfl rfl hv4 rfl) (sd rfl (v_loadLG rfl hv4 rfl rfl) (bs hz4 fun v5 hv5 hz4 => s_call rfl rfl all2_refl (ref01_Minus_ok _ _  _ hv5) (.inl rfl) (sn rfl rfl (sst rfl G_hit [(di v5.X), (di v5.Y)] rfl (s_nil (l_seq (l_sub (s0 := ⟨T [(1, (.ptr _ _)), (4, (.d _)), (5, (.ptr _ _))], G [((1, u1), some (.box 24 _)), ((5, u13), some (.box 43 _))]⟩) (sbr rfl rfl) ?_))))))))))))))))))))
            refine l_reg fun u14 hu14 => sd rfl (v_loadG rfl (gq rfl) rfl rfl) (sd rfl (v_loadG rfl (gq rfl) rfl rfl) (bs hz4 fun v6 hv6 hz4 => s_call rfl rfl all2_refl (ref01_Dot_ok _ _  _ hv6) (.inl rfl) (bs hz4 fun v7 hv7 hz4 => s_call rfl rfl all2_refl (ref01_root_ok _  _ hv7) (.inl rfl) (sv rfl (s_nil (l_seq (lr (fun u15 hu15 => sv rfl (sv rfl (sv rfl (sd rfl (v_loadG rfl (gq rfl) rfl rfl) (sd rfl (v_loadG rfl (gq rfl) rfl rfl) (bs hz4 fun v8 hv8 hz4 => s_call rfl rfl all2_refl (ref01_Dot_ok _ _  _ hv8) (.inl rfl) (sv rfl (s_nil (cc rfl hz4 (fun c6 hz4 => ?_) (fun c6 hz4 => ?_)))))))))))))))))
            · refine lr (fun u16 hu16 => sv rfl (s_nil (l_ret ?_)))
              obtain rfl := Option.some.inj hz4
              obtain rfl := ez4 _ rfl
              refine ⟨nofun, awl_ret ?_⟩
              rw [Sum.elim_inr] at h
              obtain rfl := Option.some.inj h
              exact fin_ok (.inr rfl) (resD1 (res_t rfl) rf_d) (.refl _)
            · refine l_skip (l_seq (lr (fun u17 hu17 => sv rfl (sv rfl (sv rfl (gf rfl (fun _ => rfl) (gf rfl (vb rfl rfl rfl) (sd rfl (v_or rfl rfl (fun hc => gd_pos (not_t hc))) (s_nil (cc rfl hz4 (fun c7 hz4 => ?_) (fun c7 hz4 => ?_)))))))))))
              · refine l_seq (l_sub (s0 := ⟨T [], G []⟩) (sbr rfl rfl) ?_)
                refine l_reg fun u18 hu18 => sv rfl (s_nil (l_ret ?_))
                obtain rfl := Option.some.inj hz4
                obtain rfl := ez4 _ rfl
                refine ⟨nofun, awl_ret ?_⟩
                rw [Sum.elim_inr] at h
                obtain rfl := Option.some.inj h
                exact fin_ok (.inr rfl) (resD1 (res_t rfl) rf_d) (.refl _)
              · refine l_skip (l_seq (l_sub (s0 := ⟨T [(1, (.ptr _ _)), (4, (.d _)), (5, (.ptr _ _))], G [((1, u1), some (.box 24 _)), ((5, u13), some (.box 43 _))]⟩) (sbr rfl rfl) ?_))
                refine l_draw rfl fun u19 hu19 => sv rfl (sv rfl (sv rfl (gt rfl (fun w3 => (v_loadG rfl (gq rfl) rfl rfl)) (gp (gw_t rfl) (fun _ => rfl) (gt rfl (vl rfl G_hit rfl) (gt rfl (fun _ => rfl) (bs hz4 fun v9 hv9 hz4 => gt rfl (fun w7 => (v_idx (gd_pos w7) (gd_pos w7) (cond_t w7 hv9) rfl)) (gt rfl (fun w8 => (v_loadLG (gd_pos w8) (cond_t w8 hv9) rfl rfl)) (gp (gw_t rfl) (fun _ => rfl) (gt rfl (vl rfl G_hit rfl) (gt rfl (fun _ => rfl) (gt rfl (vb rfl rfl rfl) (bs hz4 fun v10 hv10 hz4 => gt rfl (fun w13 => (v_idx (gd_pos w13) (gd_pos w13) (cond_t w13 hv10) rfl)) (gt rfl (fun w14 => (v_loadLG (gd_pos w14) (cond_t w14 hv10) rfl rfl)) (bs hz4 fun v11 hv11 hz4 => g_call _ (.agg [(i64 v11.X), (i64 v11.Y)]) (gw_t rfl) (fun w15 => ⟨_, [(.d (.agg [(i64 v9.X), (i64 v9.Y)])), (.d (.agg [(i64 v10.X), (i64 v10.Y)]))], _, _, (by simp only [gd_pos w15]; rfl), rfl, all2_refl, ref01_Minus_ok _ _  _ (cond_t w15 hv11), (.inl rfl)⟩) ?_)))))))))))))))
                refine bs hz4 fun v12 hv12 hz4 => g_call _ (i64 v12) (gw_t rfl) (fun w16 => ⟨_, [(.d (.agg [(i64 v5.X), (i64 v5.Y)])), (.d (.agg [(i64 v11.X), (i64 v11.Y)]))], _, _, (by simp only [gd_pos w16]; rfl), rfl, all2_refl, ref01_Dot_ok _ _  _ (cond_t w16 hv12), (.inl rfl)⟩) ?_
                refine gt rfl (vb rfl rfl rfl) (sa rfl rfl rfl (s_nil (cc rfl hz4 (fun c8 hz4 => ?_) (fun c8 hz4 => ?_))))
                · refine l_seq (l_sub (s0 := ⟨T [], G []⟩) (sbr rfl rfl) ?_)
                  refine l_reg fun u20 hu20 => sv rfl (s_nil (l_ret ?_))
                  obtain rfl := Option.some.inj hz4
                  obtain rfl := ez4 _ rfl
                  refine ⟨nofun, awl_ret ?_⟩
                  rw [Sum.elim_inr] at h
                  obtain rfl := Option.some.inj h
                  exact fin_ok (.inr rfl) (resD1 (res_t rfl) rf_d) (.refl _)
                · refine l_skip (l_end (l_sub (s0 := ⟨T [(1, (.ptr _ _)), (4, (.d _))], G [((1, u1), some (.box 24 _))]⟩) (sbr rfl rfl) ?_))
                  refine l_reg fun u21 hu21 => sv rfl (sv rfl (sv rfl (s_nil (l_nil ?_))))
                  obtain rfl := Option.some.inj hz4
                  exact ⟨rfl, (), (sbr rfl rfl)⟩
          · refine l_exitN rfl ?_
            obtain rfl := Option.some.inj hz4
            obtain rfl := ez4 _ rfl
            refine ⟨nofun, awl_pop rfl (l_j ?_)⟩
            exact ⟨_, (), rfl, (sbr rfl rfl)⟩
        · rintro _ ⟨y2, g3, rfl, q2⟩
          rw [Sum.elim_inl] at h
          refine l_sub q2 (lr (fun u22 hu22 => sv rfl (s_nil (l_ret ?_))))
          obtain rfl := Option.some.inj h
          exact fin_ok (.inr rfl) (resD1 (res_t rfl) rf_d) (.refl _)

noncomputable def ref01_Join (p1 : Curve) (p2 : Curve) : Option (Curve × Int) :=
  (ref01_Check p1).bind fun v1 => cond (v1 != 0) (some ((Curve.mk []), v1)) ((ref01_Check p2).bind fun v2 => cond (v2 != 0) (some ((Curve.mk []), v2)) ((geti p1.Pts (w64 ((p1.Pts.length : Int) - 1))).bind fun v3 => (geti p2.Pts 0).bind fun v4 => cond (!(v3.X == v4.X && (v3.Y == v4.Y && true))) (some ((Curve.mk []), 7)) ((appc ([] : List Spot) p1.Pts).bind fun v5 => (subl p2.Pts 1 (p2.Pts.length : Int)).bind fun v6 => (appc v5 v6).bind fun v7 => (ref01_Check (Curve.mk v7)).bind fun v8 => cond (v8 != 0) (some ((Curve.mk []), v8)) (some ((Curve.mk v7), 0)))))

/-- kerbstone/kerbstoneref01.Join -/
def ac_ref01_Join : AC := (.seq (.reg [oo 2 (.box 24 true (.t 0)), oo 3 (.box 24 true (.t 1)), oo 4 (.alloc 24 [.nilS]), oo 5 (.mv (ci 0))]) (.seq (.seq (.reg [oo 10 (.load 1 true (.t 2)), oo 11 (.call (cf 21) [(.t 10)]), oo 6 (.mv (.t 11))]) (.seq (.reg [oo 12 (.mv (.t 6)), oo 13 (.bin .neq (.t 12) (ci 0))]) (.cond (.t 13) (.seq (.reg [oo 14 (.build [.nilS] []), oo 15 (.mv (.t 6)), oe (.store 1 (.t 4) (.t 14)), oo 5 (.mv (.t 15))]) .ret) .skip))) (.seq (.seq (.reg [oo 16 (.load 1 true (.t 3)), oo 17 (.call (cf 21) [(.t 16)]), oo 7 (.mv (.t 17))]) (.seq (.reg [oo 18 (.mv (.t 7)), oo 19 (.bin .neq (.t 18) (ci 0))]) (.cond (.t 19) (.seq (.reg [oo 20 (.build [.nilS] []), oo 21 (.mv (.t 7)), oe (.store 1 (.t 4) (.t 20)), oo 5 (.mv (.t 21))]) .ret) .skip))) (.seq (.seq (.draw [oo 22 (.fieldA 0 (.t 2)), oo 23 (.load 1 false (.t 22)), oo 24 (.fieldA 0 (.t 2)), oo 25 (.load 1 false (.t 24)), oo 26 (.len (.t 25)), oo 27 (.bin .sub (.t 26) (ci 1)), oo 28 (.idxS 2 (.t 23) (.t 27)), oo 29 (.load 2 true (.t 28)), oo 30 (.fieldA 0 (.t 3)), oo 31 (.load 1 false (.t 30)), oo 32 (.idxS 2 (.t 31) (ci 0)), oo 33 (.load 2 true (.t 32)), oo 34 (.eqA true [false, false] (.t 29) (.t 33))] []) (.cond (.t 34) (.seq (.reg [oo 35 (.build [.nilS] []), oe (.store 1 (.t 4) (.t 35)), oo 5 (.mv (ci 7))]) .ret) .skip)) (.seq (.draw [oo 36 (.bslice 43 2 0 [z0, z0] []), oo 37 (.fieldA 0 (.t 2)), oo 38 (.load 1 false (.t 37)), oo 39 (.append 22 43 2 (.t 36) (.t 38)), oo 40 (.fieldA 0 (.t 3)), oo 41 (.load 1 false (.t 40)), oo 42 (.slice 2 (.t 41) (some (ci 1)) none none), oo 43 (.append 22 43 2 (.t 39) (.t 42)), oo 44 (.build [.nilS] [(0, 1, (.t 43))]), oo 8 (.alloc 24 [.nilS]), oe (.store 1 (.t 8) (.t 44))] [(0, 2), (0, 5), (3, 5), (3, 9), (7, 9)]) (.seq (.seq (.reg [oo 45 (.load 1 true (.t 8)), oo 46 (.call (cf 21) [(.t 45)]), oo 9 (.mv (.t 46))]) (.seq (.reg [oo 47 (.mv (.t 9)), oo 48 (.bin .neq (.t 47) (ci 0))]) (.cond (.t 48) (.seq (.reg [oo 49 (.build [.nilS] []), oo 50 (.mv (.t 9)), oe (.store 1 (.t 4) (.t 49)), oo 5 (.mv (.t 50))]) .ret) .skip))) (.seq (.reg [oo 51 (.load 1 true (.t 8)), oe (.store 1 (.t 4) (.t 51)), oo 5 (.mv (ci 0))]) .ret)))))))
theorem fn_ref01_Join : FnOK Try.prog 41 52 [.cell 4 1 true, .t 5] ac_ref01_Join := ⟨_, _, Try.func41, rfl, Try.ntmps41, by kernel_rfl, ⟨fun _ => [], by kernel_rfl⟩, by kernel_rfl⟩
set_option maxHeartbeats 4000000 in
theorem ref01_Join_ok (p1 : Curve) (p2 : Curve) (r : (Curve × Int)) (h : ref01_Join p1 p2 = some r) : PCall Try.prog 41 [(.agg [(.list (List.map eSpot p1.Pts))]), (.agg [(.list (List.map eSpot p2.Pts))])] (.tup [(.agg [(.list (List.map eSpot r.1.Pts))]), (i64 r.2)]) := by
  refine l_call fn_ref01_Join (nl rfl) ?_
  unfold ref01_Join at h
  unfold ac_ref01_Join
  refine l_sub (s0 := ⟨T [(0, (.d _)), (1, (.d _))], G []⟩) (sbr rfl rfl) ?_
  refine lr (fun u1 hu1 => sn rfl rfl (sn rfl rfl (sn rfl rfl (sv rfl (s_nil (l_seq (lr (fun u2 hu2 => sd rfl (v_loadG rfl (gq rfl) rfl rfl) (bs h fun v1 hv1 h => s_call rfl rfl all2_refl (ref01_Check_ok _  _ hv1) (.inl rfl) (sv rfl (s_nil (lr (fun u3 hu3 => sv rfl (sv rfl (s_nil (cc rfl h (fun c1 h => ?_) (fun c1 h => ?_)))))))))))))))))
  · refine lr (fun u4 hu4 => sv rfl (sv rfl (sst rfl G_hit [(.d .nilS)] rfl (sv rfl (s_nil (l_ret ?_))))))
    obtain rfl := Option.some.inj h
    exact fin_ok (.inr rfl) (resD2 (res_cellG rfl G_hit (nl rfl) rfl) (res_t rfl) rf_d rf_d) (.tup (.cons (.agg (.cons ⟨DLe.nil, rfl⟩ .nil)) (.cons (.refl _) .nil)))
  · refine l_skip (l_seq (lr (fun u5 hu5 => sd rfl (v_loadG rfl (gq rfl) rfl rfl) (bs h fun v2 hv2 h => s_call rfl rfl all2_refl (ref01_Check_ok _  _ hv2) (.inl rfl) (sv rfl (s_nil (lr (fun u6 hu6 => sv rfl (sv rfl (s_nil (cc rfl h (fun c2 h => ?_) (fun c2 h => ?_))))))))))))
    · refine lr (fun u7 hu7 => sv rfl (sv rfl (sst rfl G_hit [(.d .nilS)] rfl (sv rfl (s_nil (l_ret ?_))))))
      obtain rfl := Option.some.inj h
      exact fin_ok (.inr rfl) (resD2 (res_cellG rfl G_hit (nl rfl) rfl) (res_t rfl) rf_d rf_d) (.tup (.cons (.agg (.cons ⟨DLe.nil, rfl⟩ .nil)) (.cons (.refl _) .nil)))
    · refine l_skip (l_seq (l_seq (l_draw rfl fun u8 hu8 => sp rfl rfl (sl rfl (gq rfl) rfl (sp rfl rfl (sl rfl (gq rfl) rfl (sd rfl (v_len rfl) (sv rfl (bs h fun v3 hv3 h => sd rfl (v_idx rfl rfl hv3 rfl) (sd rfl (v_loadLG rfl hv3 rfl rfl) (sp rfl rfl (sl rfl (gq rfl) rfl (bs h fun v4 hv4 h => sd rfl (v_idx rfl rfl hv4 rfl) (sd rfl (v_loadLG rfl hv4 rfl rfl) (s_val (.d (bo (!(v3.X == v4.X && (v3.Y == v4.Y && true))))) rfl rfl (s_nil (cc rfl h (fun c3 h => ?_) (fun c3 h => ?_))))))))))))))))))
      · refine l_seq (l_sub (s0 := ⟨T [(4, (.ptr _ _))], G [((4, u1), some (.box 24 _))]⟩) (sbr rfl rfl) ?_)
        refine l_reg fun u9 hu9 => sv rfl (sst rfl G_hit [(.d .nilS)] rfl (sv rfl (s_nil (l_ret ?_))))
        obtain rfl := Option.some.inj h
        exact fin_ok (.inr rfl) (resD2 (res_cellG rfl G_hit (nl rfl) rfl) (res_t rfl) rf_d rf_d) (.tup (.cons (.agg (.cons ⟨DLe.nil, rfl⟩ .nil)) (.cons (.refl _) .nil)))
      · refine l_skip (l_seq (l_sub (s0 := ⟨T [(2, (.ptr _ _)), (3, (.ptr _ _)), (4, (.ptr _ _))], G [((2, u1), some (.box 24 _)), ((3, u1), some (.box 24 _)), ((4, u1), some (.box 24 _))]⟩) (sbr rfl rfl) ?_))
        refine l_drawT fun u10 hu10 => t_new (.sl _) (.arr 43 2 (List.map eSpot ([] : List Spot))) rfl rfl (t_val (.ptr _ _) rfl rfl (t_val (.d _) rfl (v_load rfl (gq rfl) rfl) (bs h fun v5 hv5 h => t_append eSpot _ _ _ _ (elems_list (fun _ => rfl)) rfl G_hit hv5 (t_val (.ptr _ _) rfl rfl (t_val (.d _) rfl (v_load rfl (gq rfl) rfl) (bs h fun v6 hv6 h => t_val (.d _) rfl (v_sub rfl (fun _ => rfl) (bd_x rfl) bd_end hv6) (bs h fun v7 hv7 h => t_append eSpot _ _ _ _ (elems_list (fun _ => rfl)) rfl G_hit hv7 (t_val (.agg _) rfl rfl (t_new (.ptr _ _) (.box _ _) rfl rfl (t_store _ _ _ _ _ rfl rfl rfl G_hit (nl rfl) [(.sl (43, u10))] rfl (t_nil ⟨rfl, ?_⟩)))))))))))
        refine l_seq (l_seq (l_sub (s0 := ⟨T [(4, (.ptr _ _)), (8, (.ptr _ _))], G [((4, u1), some (.box 24 _)), ((8, u10), some (.box 24 _)), ((43, u10), some _)]⟩) (sbr rfl rfl) ?_))
        refine l_reg fun u11 hu11 => s_val (.agg _) rfl (v_loadG rfl (gq rfl) rfl rfl) (bs h fun v8 hv8 h => s_call rfl (rfL_cons (rf_agg (rfL_cons (rf_sl (gq rfl)) rfL_nil)) rfL_nil) all2_refl (ref01_Check_ok _  _ hv8) (.inr rfl) (sv rfl (s_nil (lr (fun u12 hu12 => sv rfl (sv rfl (s_nil (cc rfl h (fun c4 h => ?_) (fun c4 h => ?_)))))))))
        · refine lr (fun u13 hu13 => sv rfl (sv rfl (sst rfl G_hit [(.d .nilS)] rfl (sv rfl (s_nil (l_ret ?_))))))
          obtain rfl := Option.some.inj h
          exact fin_ok (.inr rfl) (resD2 (res_cellG rfl G_hit (nl rfl) rfl) (res_t rfl) rf_d rf_d) (.tup (.cons (.agg (.cons ⟨DLe.nil, rfl⟩ .nil)) (.cons (.refl _) .nil)))
        · refine l_skip (lr (fun u14 hu14 => s_val (.agg _) rfl (v_loadG rfl (gq rfl) rfl rfl) (sst rfl G_hit [(.sl (43, u10))] rfl (sv rfl (s_nil (l_ret ?_))))))
          obtain rfl := Option.some.inj h
          exact fin_ok (.inr rfl) (resD2 (res_cellG rfl G_hit (nl rfl) rfl) (res_t rfl) (rf_agg (rfL_cons (rf_sl (gq rfl)) rfL_nil)) rf_d) (.refl _)

noncomputable def ref01_Same_l1 (p1 : Curve) (p2 : Curve) (x1 : Int) : Option (Stp Int (Sum Unit Bool)) :=
  cond (decide (x1 < (p1.Pts.length : Int))) ((geti p1.Pts x1).bind fun v1 => (geti p2.Pts x1).bind fun v2 => cond (!(v1.X == v2.X && (v1.Y == v2.Y && true))) (some (.out (.inr false))) (some (.go (w64 (x1 + 1))))) (some (.out (.inl ())))
noncomputable def ref01_Same (p1 : Curve) (p2 : Curve) : Option Bool :=
  cond ((p1.Pts.length : Int) != (p2.Pts.length : Int)) (some false) (thenS (loop (ref01_Same_l1 p1 p2) 0) (fun _ => some true) (fun r => some r))

/-- kerbstone/kerbstoneref01.Same -/
def ac_ref01_Same : AC := (.seq (.reg [oo 2 (.box 24 true (.t 0)), oo 3 (.box 24 true (.t 1)), oo 4 (.mv (.c zf))]) (.seq (.seq (.reg [oo 6 (.fieldA 0 (.t 2)), oo 7 (.load 1 false (.t 6)), oo 8 (.len (.t 7)), oo 9 (.fieldA 0 (.t 3)), oo 10 (.load 1 false (.t 9)), oo 11 (.len (.t 10)), oo 12 (.bin .neq (.t 8) (.t 11))]) (.cond (.t 12) (.seq (.reg [oo 4 (.mv (.c zf))]) .ret) .skip)) (.seq (.seq (.reg [oo 5 (.mv (ci 0))]) (.block 0 (.loop (.seq (.seq (.reg [oo 13 (.mv (.t 5)), oo 14 (.fieldA 0 (.t 2)), oo 15 (.load 1 false (.t 14)), oo 16 (.len (.t 15)), oo 17 (.bin .lss (.t 13) (.t 16))]) (.cond (.t 17) .skip (.exit 0))) (.seq (.block 1 (.seq (.draw [oo 20 (.fieldA 0 (.t 2)), oo 21 (.load 1 false (.t 20)), oo 22 (.mv (.t 5)), oo 23 (.idxS 2 (.t 21) (.t 22)), oo 24 (.load 2 true (.t 23)), oo 25 (.fieldA 0 (.t 3)), oo 26 (.load 1 false (.t 25)), oo 27 (.mv (.t 5)), oo 28 (.idxS 2 (.t 26) (.t 27)), oo 29 (.load 2 true (.t 28)), oo 30 (.eqA true [false, false] (.t 24) (.t 29))] []) (.cond (.t 30) (.seq (.reg [oo 4 (.mv (.c zf))]) .ret) .skip))) (.reg [oo 18 (.mv (.t 5)), oo 19 (.bin .add (.t 18) (ci 1)), oo 5 (.mv (.t 19))])))))) (.seq (.reg [oo 4 (.mv (.c (.v (.bool true))))]) .ret))))
theorem fn_ref01_Same : FnOK Try.prog 42 31 [.t 4] ac_ref01_Same := ⟨_, _, Try.func42, rfl, Try.ntmps42, by kernel_rfl, ⟨fun _ => [], by kernel_rfl⟩, by kernel_rfl⟩
set_option maxHeartbeats 4000000 in
theorem ref01_Same_ok (p1 : Curve) (p2 : Curve) (r : Bool) (h : ref01_Same p1 p2 = some r) : PCall Try.prog 42 [(.agg [(.list (List.map eSpot p1.Pts))]), (.agg [(.list (List.map eSpot p2.Pts))])] (bo r) := by
  refine l_call fn_ref01_Same (nl rfl) ?_
  unfold ref01_Same at h
  unfold ac_ref01_Same
  refine l_sub (s0 := ⟨T [(0, (.d _)), (1, (.d _))], G []⟩) (sbr rfl rfl) ?_
  refine lr (fun u1 hu1 => sn rfl rfl (sn rfl rfl (sv rfl (s_nil (l_seq (lr (fun u2 hu2 => sp rfl rfl (sl rfl (gq rfl) rfl (sd rfl (v_len rfl) (sp rfl rfl (sl rfl G_hit rfl (sd rfl (v_len rfl) (sv rfl (s_nil (cc rfl h (fun c1 h => ?_) (fun c1 h => ?_))))))))))))))))
  · refine lr (fun u3 hu3 => sv rfl (s_nil (l_ret ?_)))
    obtain rfl := Option.some.inj h
    exact fin_ok (.inr rfl) (resD1 (res_t rfl) rf_d) (.refl _)
  · refine l_skip (l_seq (lr (fun u4 hu4 => sv rfl (s_nil (js h fun z1 hz1 h => l_join (fun s => ∃ (y1 : Unit) (g1 : Unit), z1 = .inl y1 ∧ Sb ⟨T [], G []⟩ s) ?_ ?_)))))
    · refine l_block (l_loop (ref01_Same_l1 p1 p2) (fun (x1 : Int) (g2 : Unit) => ⟨T [(2, (.ptr (2, u1) 0)), (3, (.ptr (3, u1) 0)), (5, (di x1))], G [((2, u1), some (.box 24 [(dl eSpot p1.Pts)])), ((3, u1), some (.box 24 [(dl eSpot p2.Pts)]))]⟩) 0 () _ hz1 (sbr rfl rfl) ?_)
      intro x1 g2 z2 hz2 ez2
      unfold ref01_Same_l1 at hz2
      refine l_seq (lr (fun u5 hu5 => sv rfl (sp rfl rfl (sl rfl G_hit rfl (sd rfl (v_len rfl) (sv rfl (s_nil (cc rfl hz2 (fun c2 hz2 => ?_) (fun c2 hz2 => ?_)))))))))
      · refine l_skip (l_seq (l_block (l_seq (l_draw rfl fun u6 hu6 => sp rfl rfl (sl rfl G_hit rfl (sv rfl (bs hz2 fun v1 hv1 hz2 => sd rfl (v_idx rfl rfl hv1 rfl) (sd rfl (v_loadLG rfl hv1 rfl rfl) (sp rfl rfl (sl rfl (gq rfl) rfl (sv rfl (bs hz2 fun v2 hv2 hz2 => sd rfl (v_idx rfl rfl hv2 rfl) (sd rfl (v_loadLG rfl hv2 rfl rfl) (s_val (.d (bo (!(v1.X == v2.X && (v1.Y == v2.Y && true))))) rfl rfl (s_nil (cc rfl hz2 (fun c3 hz2 => ?_) (fun c3 hz2 => ?_)))))))))))))))))
        · refine lr (fun u7 hu7 => sv rfl (s_nil (l_ret ?_)))
          obtain rfl := Option.some.inj hz2
          obtain rfl := ez2 _ rfl
          refine ⟨nofun, awl_ret ?_⟩
          rw [Sum.elim_inr] at h
          obtain rfl := Option.some.inj h
          exact fin_ok (.inr rfl) (resD1 (res_t rfl) rf_d) (.refl _)
        · refine l_skip (l_end (l_reg fun u8 hu8 => sv rfl (sv rfl (sv rfl (s_nil (l_nil ?_))))))
          obtain rfl := Option.some.inj hz2
          exact ⟨rfl, (), (sbr rfl rfl)⟩
      · refine l_exitN rfl ?_
        obtain rfl := Option.some.inj hz2
        obtain rfl := ez2 _ rfl
        refine ⟨nofun, awl_pop rfl (l_j ?_)⟩
        exact ⟨_, (), rfl, (sbr rfl rfl)⟩
    · rintro _ ⟨y1, g1, rfl, q1⟩
      rw [Sum.elim_inl] at h
      refine l_sub q1 (lr (fun u9 hu9 => sv rfl (s_nil (l_ret ?_))))
      obtain rfl := Option.some.inj h
      exact fin_ok (.inr rfl) (resD1 (res_t rfl) rf_d) (.refl _)
end Go.Abs.Curve
