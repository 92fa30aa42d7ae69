/-
  The Go functions that CurveTogether reaches, as plain Lean functions, and the proofs that the program computes them.
-/
import Derived.Test.YtkpmfcpgmhkleaaCoreD
import Derived.Test.YtkpmfcpgmhkleaaProg
import Derived.KernelRfl
import Derived.IntWalk
set_option maxRecDepth 20000
set_option linter.unusedVariables false
namespace Go.Abs.Curve
open Go Go.Abs Go.Proofs
attribute [local irreducible] regW regT AWL
structure Spot where
  X : Int
  Y : Int
  deriving Inhabited
structure CurveVector where
  x : Int
  y : Int
  deriving Inhabited
structure CurvePiece where
  p : Spot
  v : CurveVector
  l : Int
  start : Int
  deriving Inhabited
abbrev eSpot : Spot → List D := fun x => [(i64 x.X), (i64 x.Y)]
structure Curve where
  Pts : (List Spot)
  deriving Inhabited
abbrev eCurve : Curve → List D := fun x => [(.list (List.map eSpot x.Pts))]
structure KitChain where
  X : Int
  Y : Int
  Steps : (List Int)
  deriving Inhabited
abbrev eInt_i64 : Int → List D := fun x => [.v (.int .i64 x)]
abbrev eKitChain : KitChain → List D := fun x => [(i64 x.X), (i64 x.Y), (.list (List.map eInt_i64 x.Steps))]
abbrev eL_Int_i64 : (List Int) → List D := fun x => [.list (List.map eInt_i64 x)]
abbrev eA93 : (Int × Int × Int) → List D := fun x => [(i64 x.1), (i64 x.2.1), (i64 x.2.2)]


noncomputable def kit_triples : Option (List (Int × Int × Int)) :=
  some [(1, 0, 1), (3, 4, 5), (4, 3, 5), (5, 12, 13), (12, 5, 13), (8, 15, 17), (15, 8, 17), (7, 24, 25), (24, 7, 25), (20, 21, 29), (21, 20, 29), (0, 1, 1)]

/-- kerbstone/kerbstonekit.triples -/
def ac_kit_triples : AC :=
  (.seq (.reg [⟨(some 0), .mv (.c .nilS), none⟩])
  (.seq (.reg [⟨(some 1), .build [(.v (.int .i64 0)), (.v (.int .i64 0)), (.v (.int .i64 0))] [(0, 1, (.c (.v (.int .i64 1)))), (1, 1, (.c (.v (.int .i64 0)))), (2, 1, (.c (.v (.int .i64 1))))], none⟩, ⟨(some 2), .build [(.v (.int .i64 0)), (.v (.int .i64 0)), (.v (.int .i64 0))] [(0, 1, (.c (.v (.int .i64 3)))), (1, 1, (.c (.v (.int .i64 4)))), (2, 1, (.c (.v (.int .i64 5))))], none⟩, ⟨(some 3), .build [(.v (.int .i64 0)), (.v (.int .i64 0)), (.v (.int .i64 0))] [(0, 1, (.c (.v (.int .i64 4)))), (1, 1, (.c (.v (.int .i64 3)))), (2, 1, (.c (.v (.int .i64 5))))], none⟩, ⟨(some 4), .build [(.v (.int .i64 0)), (.v (.int .i64 0)), (.v (.int .i64 0))] [(0, 1, (.c (.v (.int .i64 5)))), (1, 1, (.c (.v (.int .i64 12)))), (2, 1, (.c (.v (.int .i64 13))))], none⟩, ⟨(some 5), .build [(.v (.int .i64 0)), (.v (.int .i64 0)), (.v (.int .i64 0))] [(0, 1, (.c (.v (.int .i64 12)))), (1, 1, (.c (.v (.int .i64 5)))), (2, 1, (.c (.v (.int .i64 13))))], none⟩, ⟨(some 6), .build [(.v (.int .i64 0)), (.v (.int .i64 0)), (.v (.int .i64 0))] [(0, 1, (.c (.v (.int .i64 8)))), (1, 1, (.c (.v (.int .i64 15)))), (2, 1, (.c (.v (.int .i64 17))))], none⟩, ⟨(some 7), .build [(.v (.int .i64 0)), (.v (.int .i64 0)), (.v (.int .i64 0))] [(0, 1, (.c (.v (.int .i64 15)))), (1, 1, (.c (.v (.int .i64 8)))), (2, 1, (.c (.v (.int .i64 17))))], none⟩, ⟨(some 8), .build [(.v (.int .i64 0)), (.v (.int .i64 0)), (.v (.int .i64 0))] [(0, 1, (.c (.v (.int .i64 7)))), (1, 1, (.c (.v (.int .i64 24)))), (2, 1, (.c (.v (.int .i64 25))))], none⟩, ⟨(some 9), .build [(.v (.int .i64 0)), (.v (.int .i64 0)), (.v (.int .i64 0))] [(0, 1, (.c (.v (.int .i64 24)))), (1, 1, (.c (.v (.int .i64 7)))), (2, 1, (.c (.v (.int .i64 25))))], none⟩, ⟨(some 10), .build [(.v (.int .i64 0)), (.v (.int .i64 0)), (.v (.int .i64 0))] [(0, 1, (.c (.v (.int .i64 20)))), (1, 1, (.c (.v (.int .i64 21)))), (2, 1, (.c (.v (.int .i64 29))))], none⟩, ⟨(some 11), .build [(.v (.int .i64 0)), (.v (.int .i64 0)), (.v (.int .i64 0))] [(0, 1, (.c (.v (.int .i64 21)))), (1, 1, (.c (.v (.int .i64 20)))), (2, 1, (.c (.v (.int .i64 29))))], none⟩, ⟨(some 12), .build [(.v (.int .i64 0)), (.v (.int .i64 0)), (.v (.int .i64 0))] [(0, 1, (.c (.v (.int .i64 0)))), (1, 1, (.c (.v (.int .i64 1)))), (2, 1, (.c (.v (.int .i64 1))))], none⟩, ⟨(some 13), .dslice 93 3 12 [(.v (.int .i64 0)), (.v (.int .i64 0)), (.v (.int .i64 0))] [(0, 3, (.t 1)), (3, 3, (.t 2)), (6, 3, (.t 3)), (9, 3, (.t 4)), (12, 3, (.t 5)), (15, 3, (.t 6)), (18, 3, (.t 7)), (21, 3, (.t 8)), (24, 3, (.t 9)), (27, 3, (.t 10)), (30, 3, (.t 11)), (33, 3, (.t 12))], none⟩, ⟨(some 0), .mv (.t 13), none⟩])
  .ret))
theorem fn_kit_triples : FnOK Try.prog 67 14 [.t 0] ac_kit_triples := ⟨_, _, Try.func67, rfl, Try.ntmps67, by kernel_rfl, ⟨fun r => if r == 1 then [1012] else [], by kernel_rfl⟩, by kernel_rfl⟩
theorem kit_triples_ok (r : (List (Int × Int × Int))) (h : kit_triples = some r) : PCall Try.prog 67 [] (.list (List.map eA93 r)) := by
  refine l_call fn_kit_triples (Nat.le_of_ble_eq_true rfl) ?_
  unfold kit_triples at h
  unfold ac_kit_triples
  refine (l_sub (s0 := ⟨T [], G []⟩) (sb_of trivial trivial) ?_)
  refine l_seq ?_
  refine l_reg fun u1 hu1 => ?_
  refine s_val (.d _) rfl rfl ?_
  refine s_nil ?_
  refine l_seq ?_
  refine l_reg fun u2 hu2 => ?_
  refine s_val (.d _) rfl rfl ?_
  refine s_val (.d _) rfl rfl ?_
  refine s_val (.d _) rfl rfl ?_
  refine s_val (.d _) rfl rfl ?_
  refine s_val (.d _) rfl rfl ?_
  refine s_val (.d _) rfl rfl ?_
  refine s_val (.d _) rfl rfl ?_
  refine s_val (.d _) rfl rfl ?_
  refine s_val (.d _) rfl rfl ?_
  refine s_val (.d _) rfl rfl ?_
  refine s_val (.d _) rfl rfl ?_
  refine s_val (.d _) rfl rfl ?_
  refine s_val (.d (.list (List.map eA93 [(1, 0, 1), (3, 4, 5), (4, 3, 5), (5, 12, 13), (12, 5, 13), (8, 15, 17), (15, 8, 17), (7, 24, 25), (24, 7, 25), (20, 21, 29), (21, 20, 29), (0, 1, 1)]))) rfl (v_dsliceN eA93 ([(1, 0, 1), (3, 4, 5), (4, 3, 5), (5, 12, 13), (12, 5, 13), (8, 15, 17), (15, 8, 17), (7, 24, 25), (24, 7, 25), (20, 21, 29), (21, 20, 29), (0, 1, 1)] : List (Int × Int × Int)) (fun _ => rfl) rfl rfl ⟨rfl, rfl, rfl, rfl, rfl, rfl, rfl, rfl, rfl, rfl, rfl, rfl, rfl, rfl, rfl, rfl, rfl, rfl, rfl, rfl, rfl, rfl, rfl, rfl, rfl, rfl, rfl, rfl, rfl, rfl, rfl, rfl, rfl, rfl, rfl, rfl, trivial⟩) ?_
  refine s_val (.d (.list (List.map eA93 [(1, 0, 1), (3, 4, 5), (4, 3, 5), (5, 12, 13), (12, 5, 13), (8, 15, 17), (15, 8, 17), (7, 24, 25), (24, 7, 25), (20, 21, 29), (21, 20, 29), (0, 1, 1)]))) rfl rfl ?_
  refine s_nil ?_
  refine l_ret ?_
  obtain rfl := Option.some.inj h
  refine fin_ok (.inr rfl) (resD1 (res_t rfl) rf_d) ?_
  exact (.refl _)

noncomputable def kit_Mod (p1 : Int) (p2 : Int) : Option Int :=
  (remc p1 p2).bind fun v1 => cond (decide (v1 < 0)) (some (w64 (v1 + p2))) (some v1)

/-- kerbstone/kerbstonekit.Mod -/
def ac_kit_Mod : AC :=
  (.seq (.reg [⟨(some 4), .mv (.c (.v (.int .i64 0))), none⟩])
  (.seq (.reg [⟨(some 5), .mv (.t 0), none⟩, ⟨(some 6), .mv (.t 1), none⟩, ⟨(some 7), .bin .rem (.t 5) (.t 6), none⟩, ⟨(some 0), .mv (.t 7), none⟩])
  (.seq (.seq (.reg [⟨(some 8), .mv (.t 0), none⟩, ⟨(some 9), .bin .lss (.t 8) (.c (.v (.int .i64 0))), none⟩])
  (.cond (.t 9)
    (.reg [⟨(some 10), .mv (.t 0), none⟩, ⟨(some 11), .mv (.t 1), none⟩, ⟨(some 12), .bin .add (.t 10) (.t 11), none⟩, ⟨(some 0), .mv (.t 12), none⟩])
    .skip))
  (.seq (.reg [⟨(some 13), .mv (.t 0), none⟩, ⟨(some 4), .mv (.t 13), none⟩])
  .ret))))
theorem fn_kit_Mod : FnOK Try.prog 68 14 [.t 4] ac_kit_Mod := ⟨_, _, Try.func68, rfl, Try.ntmps68, by kernel_rfl, ⟨fun _ => [], by kernel_rfl⟩, by kernel_rfl⟩
theorem kit_Mod_ok (p1 : Int) (p2 : Int) (r : Int) (h : kit_Mod p1 p2 = some r) : PCall Try.prog 68 [(i64 p1), (i64 p2)] (i64 r) := by
  refine l_call fn_kit_Mod (Nat.le_of_ble_eq_true rfl) ?_
  unfold kit_Mod at h
  unfold ac_kit_Mod
  refine (l_sub (s0 := ⟨T [(0, (.d (i64 p1))), (1, (.d (i64 p2)))], G []⟩) (sb_of ⟨.of rfl, .of rfl, trivial⟩ trivial) ?_)
  refine l_seq ?_
  refine l_reg fun u1 hu1 => ?_
  refine s_val (.d _) rfl rfl ?_
  refine s_nil ?_
  refine l_seq ?_
  refine l_reg fun u2 hu2 => ?_
  refine s_val (.d _) rfl rfl ?_
  refine s_val (.d _) rfl rfl ?_
  obtain ⟨v1, hv1, h⟩ := bind_some h
  refine s_val (.d _) rfl (v_rem rfl rfl hv1) ?_
  refine s_val (.d _) rfl rfl ?_
  refine s_nil ?_
  refine l_seq ?_
  refine l_seq ?_
  refine l_reg fun u3 hu3 => ?_
  refine s_val (.d _) rfl rfl ?_
  refine s_val (.d _) rfl rfl ?_
  refine s_nil ?_
  refine l_cond (decide (v1 < 0)) rfl (fun c1 => ?_) (fun c1 => ?_)
  · replace h := cond_t c1 h
    refine l_reg fun u4 hu4 => ?_
    refine s_val (.d _) rfl rfl ?_
    refine s_val (.d _) rfl rfl ?_
    refine s_val (.d _) rfl rfl ?_
    refine s_val (.d _) rfl rfl ?_
    refine s_nil ?_
    refine l_seq ?_
    refine l_reg fun u5 hu5 => ?_
    refine s_val (.d _) rfl rfl ?_
    refine s_val (.d _) rfl rfl ?_
    refine s_nil ?_
    refine l_ret ?_
    obtain rfl := Option.some.inj h
    refine fin_ok (.inr rfl) (resD1 (res_t rfl) rf_d) ?_
    exact (.refl _)
  · replace h := cond_f c1 h
    refine l_skip ?_
    refine l_seq ?_
    refine l_reg fun u6 hu6 => ?_
    refine s_val (.d _) rfl rfl ?_
    refine s_val (.d _) rfl rfl ?_
    refine s_nil ?_
    refine l_ret ?_
    obtain rfl := Option.some.inj h
    refine fin_ok (.inr rfl) (resD1 (res_t rfl) rf_d) ?_
    exact (.refl _)

noncomputable def kit_Curve_l2 (x2 : (Int × Spot)) : Option (Stp (Int × Spot) Spot) :=
  cond (decide (x2.1 > 0)) (some (.go ((w64 (x2.1 - 1)), (Spot.mk (w64 (0 - x2.2.Y)) x2.2.X)))) (some (.out x2.2))
noncomputable def kit_Curve_l1 (p1 : KitChain) (v1 : (List (Int × Int × Int))) (y1 : Int) (x1 : (Int × Spot × Curve)) : Option (Stp (Int × Spot × Curve) Curve) :=
  cond (decide (x1.1 < (mm2 true 1 (mm2 false (p1.Steps.length : Int) 5)))) ((cond (decide (x1.1 < (p1.Steps.length : Int))) ((geti p1.Steps x1.1).bind fun v4 => (kit_Mod v4 1048576).bind fun v5 => some v5) (some 0)).bind fun y3 => (geti v1 (y3.tmod 11)).bind fun v6 => (quoc .i64 1000 v6.2.2).bind fun v7 => (quoc .i64 ((w64 (y3.tdiv 11)).tmod 2000) v6.2.2).bind fun v8 => (loop (kit_Curve_l2) ((y1.tmod 4), (Spot.mk (w64 (v6.1 * (w64 ((w64 (v7 + 1)) + v8)))) (w64 (v6.2.1 * (w64 ((w64 (v7 + 1)) + v8))))))).bind fun y4 => (appc x1.2.2.Pts [(Spot.mk (w64 (x1.2.1.X + y4.X)) (w64 (x1.2.1.Y + y4.Y)))]).bind fun v9 => some (.go ((w64 (x1.1 + 1)), (Spot.mk (w64 (x1.2.1.X + y4.X)) (w64 (x1.2.1.Y + y4.Y))), (Curve.mk v9)))) (some (.out x1.2.2))
noncomputable def kit_Curve (p1 : KitChain) : Option Curve :=
  (kit_triples).bind fun v1 => (cond (decide ((p1.Steps.length : Int) > 0)) ((geti p1.Steps 0).bind fun v2 => (kit_Mod v2 48).bind fun v3 => some v3) (some 0)).bind fun y1 => (loop (kit_Curve_l1 p1 v1 y1) (0, (Spot.mk (p1.X.tmod 20001) (p1.Y.tmod 20001)), (Curve.mk [(Spot.mk (p1.X.tmod 20001) (p1.Y.tmod 20001))]))).bind fun y2 => some y2

/-- kerbstone/kerbstonekit.Curve -/
def ac_kit_Curve : AC :=
  (.seq (.reg [⟨(some 1), .box 37 true (.t 0), none⟩, ⟨(some 2), .alloc 24 [.nilS], none⟩])
  (.seq (.reg [⟨(some 13), .fieldA 0 (.t 1), none⟩, ⟨(some 14), .load 1 false (.t 13), none⟩, ⟨(some 15), .bin .rem (.t 14) (.c (.v (.int .i64 20001))), none⟩, ⟨(some 16), .fieldA 1 (.t 1), none⟩, ⟨(some 17), .load 1 false (.t 16), none⟩, ⟨(some 18), .bin .rem (.t 17) (.c (.v (.int .i64 20001))), none⟩, ⟨(some 19), .build [(.v (.int .i64 0)), (.v (.int .i64 0))] [(0, 1, (.t 15)), (1, 1, (.t 18))], none⟩, ⟨(some 3), .alloc 43 [(.v (.int .i64 0)), (.v (.int .i64 0))], none⟩, ⟨none, .store 2 (.t 3) (.t 19), none⟩])
  (.seq (.reg [⟨(some 20), .load 2 true (.t 3), none⟩, ⟨(some 21), .bslice 43 2 1 [(.v (.int .i64 0)), (.v (.int .i64 0))] [(0, 2, (.t 20))], none⟩, ⟨(some 22), .build [.nilS] [(0, 1, (.t 21))], none⟩, ⟨(some 4), .alloc 24 [.nilS], none⟩, ⟨none, .store 1 (.t 4) (.t 22), none⟩])
  (.seq (.reg [⟨(some 23), .call (.c (.fn (.func 67) [] [])) [], none⟩, ⟨(some 5), .mv (.t 23), none⟩])
  (.seq (.reg [⟨(some 6), .mv (.c (.v (.int .i64 0))), none⟩])
  (.seq (.seq (.reg [⟨(some 24), .fieldA 2 (.t 1), none⟩, ⟨(some 25), .load 1 false (.t 24), none⟩, ⟨(some 26), .len (.t 25), none⟩, ⟨(some 27), .bin .gtr (.t 26) (.c (.v (.int .i64 0))), none⟩])
  (.cond (.t 27)
    (.reg [⟨(some 28), .fieldA 2 (.t 1), none⟩, ⟨(some 29), .load 1 false (.t 28), none⟩, ⟨(some 30), .idxS 1 (.t 29) (.c (.v (.int .i64 0))), none⟩, ⟨(some 31), .load 1 false (.t 30), none⟩, ⟨(some 32), .call (.c (.fn (.func 68) [] [])) [(.t 31), (.c (.v (.int .i64 48)))], none⟩, ⟨(some 6), .mv (.t 32), none⟩])
    .skip))
  (.seq (.seq (.reg [⟨(some 7), .mv (.c (.v (.int .i64 0))), none⟩])
  (.block 0
    (.loop
      (.seq (.seq (.reg [⟨(some 33), .mv (.t 7), none⟩, ⟨(some 34), .fieldA 2 (.t 1), none⟩, ⟨(some 35), .load 1 false (.t 34), none⟩, ⟨(some 36), .len (.t 35), none⟩, ⟨(some 37), .mm false (.t 36) [(.c (.v (.int .i64 5)))], none⟩, ⟨(some 38), .mm true (.c (.v (.int .i64 1))) [(.t 37)], none⟩, ⟨(some 39), .bin .lss (.t 33) (.t 38), none⟩])
      (.cond (.t 39)
        .skip
        (.exit 0)))
      (.seq (.block 1
        (.seq (.reg [⟨(some 8), .mv (.c (.v (.int .i64 0))), none⟩])
        (.seq (.seq (.reg [⟨(some 42), .mv (.t 7), none⟩, ⟨(some 43), .fieldA 2 (.t 1), none⟩, ⟨(some 44), .load 1 false (.t 43), none⟩, ⟨(some 45), .len (.t 44), none⟩, ⟨(some 46), .bin .lss (.t 42) (.t 45), none⟩])
        (.cond (.t 46)
          (.reg [⟨(some 47), .fieldA 2 (.t 1), none⟩, ⟨(some 48), .load 1 false (.t 47), none⟩, ⟨(some 49), .mv (.t 7), none⟩, ⟨(some 50), .idxS 1 (.t 48) (.t 49), none⟩, ⟨(some 51), .load 1 false (.t 50), none⟩, ⟨(some 52), .call (.c (.fn (.func 68) [] [])) [(.t 51), (.c (.v (.int .i64 1048576)))], none⟩, ⟨(some 8), .mv (.t 52), none⟩])
          .skip))
        (.seq (.reg [⟨(some 53), .mv (.t 5), none⟩, ⟨(some 54), .mv (.t 8), none⟩, ⟨(some 55), .bin .rem (.t 54) (.c (.v (.int .i64 11))), none⟩, ⟨(some 56), .idxS 3 (.t 53) (.t 55), none⟩, ⟨(some 57), .load 3 true (.t 56), none⟩, ⟨(some 9), .alloc 93 [(.v (.int .i64 0)), (.v (.int .i64 0)), (.v (.int .i64 0))], none⟩, ⟨none, .store 3 (.t 9) (.t 57), none⟩])
        (.seq (.draw [⟨(some 58), .idxP 3 1 (.t 9) (.c (.v (.int .i64 2))), none⟩, ⟨(some 59), .load 1 false (.t 58), none⟩, ⟨(some 60), .bin .quo (.c (.v (.int .i64 1000))) (.t 59), none⟩, ⟨(some 61), .bin .add (.t 60) (.c (.v (.int .i64 1))), none⟩, ⟨(some 62), .mv (.t 8), none⟩, ⟨(some 63), .bin .quo (.t 62) (.c (.v (.int .i64 11))), none⟩, ⟨(some 64), .bin .rem (.t 63) (.c (.v (.int .i64 2000))), none⟩, ⟨(some 65), .idxP 3 1 (.t 9) (.c (.v (.int .i64 2))), none⟩, ⟨(some 66), .load 1 false (.t 65), none⟩, ⟨(some 67), .bin .quo (.t 64) (.t 66), none⟩, ⟨(some 68), .bin .add (.t 61) (.t 67), none⟩, ⟨(some 10), .mv (.t 68), none⟩] [])
        (.seq (.reg [⟨(some 69), .idxP 3 1 (.t 9) (.c (.v (.int .i64 0))), none⟩, ⟨(some 70), .load 1 false (.t 69), none⟩, ⟨(some 71), .mv (.t 10), none⟩, ⟨(some 72), .bin .mul (.t 70) (.t 71), none⟩, ⟨(some 73), .idxP 3 1 (.t 9) (.c (.v (.int .i64 1))), none⟩, ⟨(some 74), .load 1 false (.t 73), none⟩, ⟨(some 75), .mv (.t 10), none⟩, ⟨(some 76), .bin .mul (.t 74) (.t 75), none⟩, ⟨(some 77), .build [(.v (.int .i64 0)), (.v (.int .i64 0))] [(0, 1, (.t 72)), (1, 1, (.t 76))], none⟩, ⟨(some 11), .alloc 43 [(.v (.int .i64 0)), (.v (.int .i64 0))], none⟩, ⟨none, .store 2 (.t 11) (.t 77), none⟩])
        (.seq (.seq (.reg [⟨(some 78), .mv (.t 6), none⟩, ⟨(some 79), .bin .rem (.t 78) (.c (.v (.int .i64 4))), none⟩, ⟨(some 12), .mv (.t 79), none⟩])
        (.block 2
          (.loop
            (.seq (.seq (.reg [⟨(some 80), .mv (.t 12), none⟩, ⟨(some 81), .bin .gtr (.t 80) (.c (.v (.int .i64 0))), none⟩])
            (.cond (.t 81)
              .skip
              (.exit 2)))
            (.seq (.block 3
              (.reg [⟨(some 84), .fieldA 1 (.t 11), none⟩, ⟨(some 85), .load 1 false (.t 84), none⟩, ⟨(some 86), .un .neg (.t 85), none⟩, ⟨(some 87), .fieldA 0 (.t 11), none⟩, ⟨(some 88), .load 1 false (.t 87), none⟩, ⟨(some 89), .build [(.v (.int .i64 0)), (.v (.int .i64 0))] [(0, 1, (.t 86)), (1, 1, (.t 88))], none⟩, ⟨none, .store 2 (.t 11) (.t 89), none⟩]))
            (.reg [⟨(some 82), .mv (.t 12), none⟩, ⟨(some 83), .bin .sub (.t 82) (.c (.v (.int .i64 1))), none⟩, ⟨(some 12), .mv (.t 83), none⟩]))))))
        (.seq (.reg [⟨(some 90), .fieldA 0 (.t 3), none⟩, ⟨(some 91), .load 1 false (.t 90), none⟩, ⟨(some 92), .fieldA 0 (.t 11), none⟩, ⟨(some 93), .load 1 false (.t 92), none⟩, ⟨(some 94), .bin .add (.t 91) (.t 93), none⟩, ⟨(some 95), .fieldA 1 (.t 3), none⟩, ⟨(some 96), .load 1 false (.t 95), none⟩, ⟨(some 97), .fieldA 1 (.t 11), none⟩, ⟨(some 98), .load 1 false (.t 97), none⟩, ⟨(some 99), .bin .add (.t 96) (.t 98), none⟩, ⟨(some 100), .build [(.v (.int .i64 0)), (.v (.int .i64 0))] [(0, 1, (.t 94)), (1, 1, (.t 99))], none⟩, ⟨none, .store 2 (.t 3) (.t 100), none⟩])
        (.reg [⟨(some 101), .fieldA 0 (.t 4), none⟩, ⟨(some 102), .load 1 false (.t 101), none⟩, ⟨(some 103), .load 2 true (.t 3), none⟩, ⟨(some 104), .dslice 43 2 1 [(.v (.int .i64 0)), (.v (.int .i64 0))] [(0, 2, (.t 103))], none⟩, ⟨(some 105), .append 22 43 2 (.t 102) (.t 104), none⟩, ⟨(some 106), .fieldA 0 (.t 4), none⟩, ⟨none, .store 1 (.t 106) (.t 105), none⟩])))))))))
      (.reg [⟨(some 40), .mv (.t 7), none⟩, ⟨(some 41), .bin .add (.t 40) (.c (.v (.int .i64 1))), none⟩, ⟨(some 7), .mv (.t 41), none⟩]))))))
  (.seq (.reg [⟨(some 107), .load 1 true (.t 4), none⟩, ⟨none, .store 1 (.t 2) (.t 107), none⟩])
  .ret))))))))
theorem fn_kit_Curve : FnOK Try.prog 28 108 [.cell 2 1 true] ac_kit_Curve := ⟨_, _, Try.func28, rfl, Try.ntmps28, by kernel_rfl, ⟨fun r => if r == 21 then [1003] else [], by kernel_rfl⟩, by kernel_rfl⟩
set_option maxHeartbeats 4000000 in
theorem kit_Curve_ok (p1 : KitChain) (r : Curve) (h : kit_Curve p1 = some r) : PCall Try.prog 28 [(.agg [(i64 p1.X), (i64 p1.Y), (.list (List.map eInt_i64 p1.Steps))])] (.agg [(.list (List.map eSpot r.Pts))]) := by
  refine l_call fn_kit_Curve (Nat.le_of_ble_eq_true rfl) ?_
  unfold kit_Curve at h
  unfold ac_kit_Curve
  refine (l_sub (s0 := ⟨T [(0, (.d (.agg [(i64 p1.X), (i64 p1.Y), (.list (List.map eInt_i64 p1.Steps))])))], G []⟩) (sb_of ⟨.of rfl, trivial⟩ trivial) ?_)
  refine l_seq ?_
  refine l_reg fun u1 hu1 => ?_
  refine s_new (.ptr _ _) (.box _ _) rfl rfl ?_
  refine s_new (.ptr _ _) (.box _ _) rfl rfl ?_
  refine s_nil ?_
  refine l_seq ?_
  refine l_reg fun u2 hu2 => ?_
  refine s_val (.ptr _ _) rfl rfl ?_
  refine s_val (.d _) rfl (v_load rfl (G_skip rfl G_hit) rfl) ?_
  refine s_val (.d _) rfl rfl ?_
  refine s_val (.ptr _ _) rfl rfl ?_
  refine s_val (.d _) rfl (v_load rfl (G_skip rfl G_hit) rfl) ?_
  refine s_val (.d _) rfl rfl ?_
  refine s_val (.d _) rfl rfl ?_
  refine s_new (.ptr _ _) (.box _ _) rfl rfl ?_
  refine s_store _ _ _ _ _ rfl rfl rfl G_hit (Nat.le_of_ble_eq_true rfl) [(.d (i64 (p1.X.tmod 20001))), (.d (i64 (p1.Y.tmod 20001)))] rfl ?_
  refine s_nil ?_
  refine l_seq ?_
  refine l_reg fun u3 hu3 => ?_
  refine s_val (.d _) rfl (v_loadG rfl G_hit rfl rfl) ?_
  refine s_new (.sl _) (.arr 43 2 (List.map eSpot ([(Spot.mk (p1.X.tmod 20001) (p1.Y.tmod 20001))] : List Spot))) rfl rfl ?_
  refine s_val (.agg _) rfl rfl ?_
  refine s_new (.ptr _ _) (.box _ _) rfl rfl ?_
  refine s_store _ _ _ _ _ rfl rfl rfl G_hit (Nat.le_of_ble_eq_true rfl) [(.sl (21, u3))] rfl ?_
  refine s_nil ?_
  refine l_seq ?_
  refine l_reg fun u4 hu4 => ?_
  obtain ⟨v1, hv1, h⟩ := bind_some h
  refine s_call rfl rfl all2_refl (kit_triples_ok  _ hv1) (.inl rfl) ?_
  refine s_val (.d _) rfl rfl ?_
  refine s_nil ?_
  refine l_seq ?_
  refine l_sub (s0 := ⟨T [(1, (.ptr (1, u1) 0)), (2, (.ptr (2, u1) 0)), (3, (.ptr (3, u2) 0)), (4, (.ptr (4, u3) 0)), (5, (.d (.list (List.map eA93 v1))))], G [((1, u1), some (.box 37 [(.d (i64 p1.X)), (.d (i64 p1.Y)), (.d (.list (List.map eInt_i64 p1.Steps)))])), ((2, u1), some (.box 24 [(.d .nilS)])), ((3, u2), some (.box 43 [(.d (i64 (p1.X.tmod 20001))), (.d (i64 (p1.Y.tmod 20001)))])), ((4, u3), some (.box 24 [(.sl (21, u3))])), ((21, u3), some (.arr 43 2 (List.map eSpot [(Spot.mk (p1.X.tmod 20001) (p1.Y.tmod 20001))])))]⟩) (sb_of ⟨.of rfl, .of rfl, .of rfl, .of rfl, .of rfl, trivial⟩ (sbG_some (G_skip rfl (G_skip rfl (G_skip rfl (G_skip rfl (G_skip rfl (G_skip rfl G_hit)))))) (.of rfl) (sbG_some (G_skip rfl (G_skip rfl (G_skip rfl (G_skip rfl (G_skip rfl G_hit))))) (.of rfl) (sbG_some (G_skip rfl (G_skip rfl (G_skip rfl G_hit))) (.of rfl) (sbG_some G_hit (.of rfl) (sbG_some (G_skip rfl (G_skip rfl G_hit)) (.of rfl) trivial)))))) ?_
  refine l_reg fun u5 hu5 => ?_
  refine s_val (.d _) rfl rfl ?_
  refine s_nil ?_
  refine l_seq ?_
  refine l_seq ?_
  refine l_reg fun u6 hu6 => ?_
  refine s_val (.ptr _ _) rfl rfl ?_
  refine s_val (.d _) rfl (v_load rfl G_hit rfl) ?_
  refine s_val (.d _) rfl (v_len rfl) ?_
  refine s_val (.d _) rfl rfl ?_
  refine s_nil ?_
  obtain ⟨y1, hy1, h⟩ := bind_some h
  refine l_join (fun s => ∃ g1 : Unit, Sb ⟨T [(1, (.ptr (1, u1) 0)), (2, (.ptr (2, u1) 0)), (3, (.ptr (3, u2) 0)), (4, (.ptr (4, u3) 0)), (5, (.d (.list (List.map eA93 v1)))), (6, (.d (i64 y1)))], G [((1, u1), some (.box 37 [(.d (i64 p1.X)), (.d (i64 p1.Y)), (.d (.list (List.map eInt_i64 p1.Steps)))])), ((2, u1), some (.box 24 [(.d .nilS)])), ((3, u2), some (.box 43 [(.d (i64 (p1.X.tmod 20001))), (.d (i64 (p1.Y.tmod 20001)))])), ((4, u3), some (.box 24 [(.sl (21, u3))])), ((21, u3), some (.arr 43 2 (List.map eSpot [(Spot.mk (p1.X.tmod 20001) (p1.Y.tmod 20001))])))]⟩ s) ?_ ?_
  · skip
    refine l_cond (decide ((p1.Steps.length : Int) > 0)) rfl (fun c1 => ?_) (fun c1 => ?_)
    · replace hy1 := cond_t c1 hy1
      refine l_reg fun u7 hu7 => ?_
      refine s_val (.ptr _ _) rfl rfl ?_
      refine s_val (.d _) rfl (v_load rfl G_hit rfl) ?_
      obtain ⟨v2, hv2, hy1⟩ := bind_some hy1
      refine s_val (.d _) rfl (v_idx rfl rfl hv2 rfl) ?_
      refine s_val (.d _) rfl (v_loadL rfl hv2 rfl) ?_
      obtain ⟨v3, hv3, hy1⟩ := bind_some hy1
      refine s_call rfl rfl all2_refl (kit_Mod_ok _ _  _ hv3) (.inl rfl) ?_
      refine s_val (.d _) rfl rfl ?_
      refine s_nil ?_
      obtain rfl := Option.some.inj hy1
      exact l_j ⟨(), (sb_of ⟨.of rfl, .of rfl, .of rfl, .of rfl, .of rfl, .of rfl, trivial⟩ (sbG_some G_hit (.of rfl) (sbG_some (G_skip rfl G_hit) (.of rfl) (sbG_some (G_skip rfl (G_skip rfl G_hit)) (.of rfl) (sbG_some (G_skip rfl (G_skip rfl (G_skip rfl G_hit))) (.of rfl) (sbG_some (G_skip rfl (G_skip rfl (G_skip rfl (G_skip rfl G_hit)))) (.of rfl) trivial))))))⟩
    · replace hy1 := cond_f c1 hy1
      refine l_skip ?_
      obtain rfl := Option.some.inj hy1
      exact l_j ⟨(), (sb_of ⟨.of rfl, .of rfl, .of rfl, .of rfl, .of rfl, .of rfl, trivial⟩ (sbG_some G_hit (.of rfl) (sbG_some (G_skip rfl G_hit) (.of rfl) (sbG_some (G_skip rfl (G_skip rfl G_hit)) (.of rfl) (sbG_some (G_skip rfl (G_skip rfl (G_skip rfl G_hit))) (.of rfl) (sbG_some (G_skip rfl (G_skip rfl (G_skip rfl (G_skip rfl G_hit)))) (.of rfl) trivial))))))⟩
  · rintro _ ⟨g1, q1⟩
    refine l_sub q1 ?_
    refine l_seq ?_
    refine l_seq ?_
    refine l_reg fun u8 hu8 => ?_
    refine s_val (.d _) rfl rfl ?_
    refine s_nil ?_
    obtain ⟨y2, hy2, h⟩ := bind_some h
    refine l_join (fun s => ∃ g2 : ({d : Nat // d ∈ [21, 105]} × Nat), Sb ⟨T [(2, (.ptr (2, u1) 0)), (4, (.ptr (4, u3) 0))], G [((2, u1), some (.box 24 [(.d .nilS)])), ((4, u3), some (.box 24 [(oS y2.Pts (g2.1.val, g2.2))])), ((g2.1.val, g2.2), oB 43 2 eSpot y2.Pts)]⟩ s) ?_ ?_
    · skip
      refine l_block ?_
      refine l_loop (kit_Curve_l1 p1 v1 y1) (fun (x1 : (Int × Spot × Curve)) (g3 : ({d : Nat // d ∈ [21, 105]} × Nat)) => ⟨T [(1, (.ptr (1, u1) 0)), (2, (.ptr (2, u1) 0)), (3, (.ptr (3, u2) 0)), (4, (.ptr (4, u3) 0)), (5, (.d (.list (List.map eA93 v1)))), (6, (.d (i64 y1))), (7, (.d (i64 x1.1)))], G [((1, u1), some (.box 37 [(.d (i64 p1.X)), (.d (i64 p1.Y)), (.d (.list (List.map eInt_i64 p1.Steps)))])), ((2, u1), some (.box 24 [(.d .nilS)])), ((3, u2), some (.box 43 [(.d (i64 x1.2.1.X)), (.d (i64 x1.2.1.Y))])), ((4, u3), some (.box 24 [(oS x1.2.2.Pts (g3.1.val, g3.2))])), ((g3.1.val, g3.2), oB 43 2 eSpot x1.2.2.Pts)]⟩) (0, (Spot.mk (p1.X.tmod 20001) (p1.Y.tmod 20001)), (Curve.mk [(Spot.mk (p1.X.tmod 20001) (p1.Y.tmod 20001))])) (⟨21, .head _⟩, u3) _ hy2 (sb_of ⟨.of rfl, .of rfl, .of rfl, .of rfl, .of rfl, .of rfl, .of rfl, trivial⟩ (sbG_some G_hit (.of rfl) (sbG_some (G_skip rfl G_hit) (.of rfl) (sbG_some (G_skip rfl (G_skip rfl G_hit)) (.of rfl) (sbG_some (G_skip rfl (G_skip rfl (G_skip rfl G_hit))) (.box (.cons (.of (oS_ne (List.cons_ne_nil _ _)).symm) .nil)) (sbG_own (G_skip rfl (G_skip rfl (G_skip rfl (G_skip rfl G_hit)))) trivial)))))) ?_
      intro x1 g3 z1 hz1 ez1
      unfold kit_Curve_l1 at hz1
      refine l_seq ?_
      refine l_seq ?_
      refine l_reg fun u9 hu9 => ?_
      refine s_val (.d _) rfl rfl ?_
      refine s_val (.ptr _ _) rfl rfl ?_
      refine s_val (.d _) rfl (v_load rfl G_hit rfl) ?_
      refine s_val (.d _) rfl (v_len rfl) ?_
      refine s_val (.d _) rfl rfl ?_
      refine s_val (.d _) rfl rfl ?_
      refine s_val (.d _) rfl rfl ?_
      refine s_nil ?_
      refine l_cond (decide (x1.1 < (mm2 true 1 (mm2 false (p1.Steps.length : Int) 5)))) rfl (fun c2 => ?_) (fun c2 => ?_)
      · replace hz1 := cond_t c2 hz1
        refine l_skip ?_
        refine l_seq ?_
        refine l_block ?_
        refine l_seq ?_
        refine l_reg fun u10 hu10 => ?_
        refine s_val (.d _) rfl rfl ?_
        refine s_nil ?_
        refine l_seq ?_
        refine l_seq ?_
        refine l_reg fun u11 hu11 => ?_
        refine s_val (.d _) rfl rfl ?_
        refine s_val (.ptr _ _) rfl rfl ?_
        refine s_val (.d _) rfl (v_load rfl G_hit rfl) ?_
        refine s_val (.d _) rfl (v_len rfl) ?_
        refine s_val (.d _) rfl rfl ?_
        refine s_nil ?_
        obtain ⟨y3, hy3, hz1⟩ := bind_some hz1
        refine l_join (fun s => ∃ g4 : Unit, Sb ⟨T [(1, (.ptr (1, u1) 0)), (2, (.ptr (2, u1) 0)), (3, (.ptr (3, u2) 0)), (4, (.ptr (4, u3) 0)), (5, (.d (.list (List.map eA93 v1)))), (6, (.d (i64 y1))), (7, (.d (i64 x1.1))), (8, (.d (i64 y3)))], G [((1, u1), some (.box 37 [(.d (i64 p1.X)), (.d (i64 p1.Y)), (.d (.list (List.map eInt_i64 p1.Steps)))])), ((2, u1), some (.box 24 [(.d .nilS)])), ((3, u2), some (.box 43 [(.d (i64 x1.2.1.X)), (.d (i64 x1.2.1.Y))])), ((4, u3), some (.box 24 [(oS x1.2.2.Pts (g3.1.val, g3.2))])), ((g3.1.val, g3.2), oB 43 2 eSpot x1.2.2.Pts)]⟩ s) ?_ ?_
        · skip
          refine l_cond (decide (x1.1 < (p1.Steps.length : Int))) rfl (fun c3 => ?_) (fun c3 => ?_)
          · replace hy3 := cond_t c3 hy3
            refine l_sub (s0 := ⟨T [(1, (.ptr (1, u1) 0)), (2, (.ptr (2, u1) 0)), (3, (.ptr (3, u2) 0)), (4, (.ptr (4, u3) 0)), (5, (.d (.list (List.map eA93 v1)))), (6, (.d (i64 y1))), (7, (.d (i64 x1.1)))], G [((1, u1), some (.box 37 [(.d (i64 p1.X)), (.d (i64 p1.Y)), (.d (.list (List.map eInt_i64 p1.Steps)))])), ((2, u1), some (.box 24 [(.d .nilS)])), ((3, u2), some (.box 43 [(.d (i64 x1.2.1.X)), (.d (i64 x1.2.1.Y))])), ((4, u3), some (.box 24 [(oS x1.2.2.Pts (g3.1.val, g3.2))])), ((g3.1.val, g3.2), oB 43 2 eSpot x1.2.2.Pts)]⟩) (sb_of ⟨.of rfl, .of rfl, .of rfl, .of rfl, .of rfl, .of rfl, .of rfl, trivial⟩ (sbG_some G_hit (.of rfl) (sbG_some (G_skip rfl G_hit) (.of rfl) (sbG_some (G_skip rfl (G_skip rfl G_hit)) (.of rfl) (sbG_some (G_skip rfl (G_skip rfl (G_skip rfl G_hit))) (.of rfl) (sbG_oB (G_skip (neL g3.1.property rfl) (G_skip (neL g3.1.property rfl) (G_skip (neL g3.1.property rfl) (G_skip (neL g3.1.property rfl) G_hit)))) trivial)))))) ?_
            refine l_reg fun u12 hu12 => ?_
            refine s_val (.ptr _ _) rfl rfl ?_
            refine s_val (.d _) rfl (v_load rfl G_hit rfl) ?_
            refine s_val (.d _) rfl rfl ?_
            obtain ⟨v4, hv4, hy3⟩ := bind_some hy3
            refine s_val (.d _) rfl (v_idx rfl rfl hv4 rfl) ?_
            refine s_val (.d _) rfl (v_loadL rfl hv4 rfl) ?_
            obtain ⟨v5, hv5, hy3⟩ := bind_some hy3
            refine s_call rfl rfl all2_refl (kit_Mod_ok _ _  _ hv5) (.inl rfl) ?_
            refine s_val (.d _) rfl rfl ?_
            refine s_nil ?_
            obtain rfl := Option.some.inj hy3
            exact l_j ⟨(), (sb_of ⟨.of rfl, .of rfl, .of rfl, .of rfl, .of rfl, .of rfl, .of rfl, .of rfl, trivial⟩ (sbG_some G_hit (.of rfl) (sbG_some (G_skip rfl G_hit) (.of rfl) (sbG_some (G_skip rfl (G_skip rfl G_hit)) (.of rfl) (sbG_some (G_skip rfl (G_skip rfl (G_skip rfl G_hit))) (.of rfl) (sbG_oB (G_skip (neL g3.1.property rfl) (G_skip (neL g3.1.property rfl) (G_skip (neL g3.1.property rfl) (G_skip (neL g3.1.property rfl) G_hit)))) trivial))))))⟩
          · replace hy3 := cond_f c3 hy3
            refine l_skip ?_
            obtain rfl := Option.some.inj hy3
            exact l_j ⟨(), (sb_of ⟨.of rfl, .of rfl, .of rfl, .of rfl, .of rfl, .of rfl, .of rfl, .of rfl, trivial⟩ (sbG_some G_hit (.of rfl) (sbG_some (G_skip rfl G_hit) (.of rfl) (sbG_some (G_skip rfl (G_skip rfl G_hit)) (.of rfl) (sbG_some (G_skip rfl (G_skip rfl (G_skip rfl G_hit))) (.of rfl) (sbG_oB (G_skip (neL g3.1.property rfl) (G_skip (neL g3.1.property rfl) (G_skip (neL g3.1.property rfl) (G_skip (neL g3.1.property rfl) G_hit)))) trivial))))))⟩
        · rintro _ ⟨g4, q2⟩
          refine l_sub q2 ?_
          refine l_seq ?_
          refine l_reg fun u13 hu13 => ?_
          refine s_val (.d _) rfl rfl ?_
          refine s_val (.d _) rfl rfl ?_
          refine s_val (.d _) rfl rfl ?_
          obtain ⟨v6, hv6, hz1⟩ := bind_some hz1
          refine s_val (.d _) rfl (v_idx rfl rfl hv6 rfl) ?_
          refine s_val (.d _) rfl (v_loadLG rfl hv6 rfl rfl) ?_
          refine s_new (.ptr _ _) (.box _ _) rfl rfl ?_
          refine s_store _ _ _ _ _ rfl rfl rfl G_hit (Nat.le_of_ble_eq_true rfl) [(.d (i64 v6.1)), (.d (i64 v6.2.1)), (.d (i64 v6.2.2))] rfl ?_
          refine s_nil ?_
          refine l_seq ?_
          refine l_draw rfl fun u14 hu14 => ?_
          refine s_val (.ptr _ _) rfl rfl ?_
          refine s_val (.d _) rfl (v_load rfl G_hit rfl) ?_
          obtain ⟨v7, hv7, hz1⟩ := bind_some hz1
          refine s_val (.d _) rfl (v_quo rfl rfl hv7) ?_
          refine s_val (.d _) rfl rfl ?_
          refine s_val (.d _) rfl rfl ?_
          refine s_val (.d _) rfl rfl ?_
          refine s_val (.d _) rfl rfl ?_
          refine s_val (.ptr _ _) rfl rfl ?_
          refine s_val (.d _) rfl (v_load rfl G_hit rfl) ?_
          obtain ⟨v8, hv8, hz1⟩ := bind_some hz1
          refine s_val (.d _) rfl (v_quo rfl rfl hv8) ?_
          refine s_val (.d _) rfl rfl ?_
          refine s_val (.d _) rfl rfl ?_
          refine s_nil ?_
          refine l_seq ?_
          refine l_sub (s0 := ⟨T [(1, (.ptr (1, u1) 0)), (2, (.ptr (2, u1) 0)), (3, (.ptr (3, u2) 0)), (4, (.ptr (4, u3) 0)), (5, (.d (.list (List.map eA93 v1)))), (6, (.d (i64 y1))), (7, (.d (i64 x1.1))), (9, (.ptr (9, u13) 0)), (10, (.d (i64 (w64 ((w64 (v7 + 1)) + v8)))))], G [((1, u1), some (.box 37 [(.d (i64 p1.X)), (.d (i64 p1.Y)), (.d (.list (List.map eInt_i64 p1.Steps)))])), ((2, u1), some (.box 24 [(.d .nilS)])), ((3, u2), some (.box 43 [(.d (i64 x1.2.1.X)), (.d (i64 x1.2.1.Y))])), ((4, u3), some (.box 24 [(oS x1.2.2.Pts (g3.1.val, g3.2))])), ((g3.1.val, g3.2), oB 43 2 eSpot x1.2.2.Pts), ((9, u13), some (.box 93 [(.d (i64 v6.1)), (.d (i64 v6.2.1)), (.d (i64 v6.2.2))]))]⟩) (sb_of ⟨.of rfl, .of rfl, .of rfl, .of rfl, .of rfl, .of rfl, .of rfl, .of rfl, .of rfl, trivial⟩ (sbG_some (G_skip rfl (G_skip rfl G_hit)) (.of rfl) (sbG_some (G_skip rfl (G_skip rfl (G_skip rfl G_hit))) (.of rfl) (sbG_some (G_skip rfl (G_skip rfl (G_skip rfl (G_skip rfl G_hit)))) (.of rfl) (sbG_some (G_skip rfl (G_skip rfl (G_skip rfl (G_skip rfl (G_skip rfl G_hit))))) (.of rfl) (sbG_oB (G_skip (neL g3.1.property rfl) (G_skip (neL g3.1.property rfl) (G_skip (neL g3.1.property rfl) (G_skip (neL g3.1.property rfl) (G_skip (neL g3.1.property rfl) (G_skip (neL g3.1.property rfl) G_hit)))))) (sbG_some G_hit (.of rfl) trivial))))))) ?_
          refine l_reg fun u15 hu15 => ?_
          refine s_val (.ptr _ _) rfl rfl ?_
          refine s_val (.d _) rfl (v_load rfl (G_skip rfl (G_skip rfl (G_skip rfl (G_skip rfl (G_skip (neR g3.1.property rfl) G_hit))))) rfl) ?_
          refine s_val (.d _) rfl rfl ?_
          refine s_val (.d _) rfl rfl ?_
          refine s_val (.ptr _ _) rfl rfl ?_
          refine s_val (.d _) rfl (v_load rfl (G_skip rfl (G_skip rfl (G_skip rfl (G_skip rfl (G_skip (neR g3.1.property rfl) G_hit))))) rfl) ?_
          refine s_val (.d _) rfl rfl ?_
          refine s_val (.d _) rfl rfl ?_
          refine s_val (.d _) rfl rfl ?_
          refine s_new (.ptr _ _) (.box _ _) rfl rfl ?_
          refine s_store _ _ _ _ _ rfl rfl rfl G_hit (Nat.le_of_ble_eq_true rfl) [(.d (i64 (w64 (v6.1 * (w64 ((w64 (v7 + 1)) + v8)))))), (.d (i64 (w64 (v6.2.1 * (w64 ((w64 (v7 + 1)) + v8))))))] rfl ?_
          refine s_nil ?_
          refine l_seq ?_
          refine l_seq ?_
          refine l_sub (s0 := ⟨T [(1, (.ptr (1, u1) 0)), (2, (.ptr (2, u1) 0)), (3, (.ptr (3, u2) 0)), (4, (.ptr (4, u3) 0)), (5, (.d (.list (List.map eA93 v1)))), (6, (.d (i64 y1))), (7, (.d (i64 x1.1))), (11, (.ptr (11, u15) 0))], G [((1, u1), some (.box 37 [(.d (i64 p1.X)), (.d (i64 p1.Y)), (.d (.list (List.map eInt_i64 p1.Steps)))])), ((2, u1), some (.box 24 [(.d .nilS)])), ((3, u2), some (.box 43 [(.d (i64 x1.2.1.X)), (.d (i64 x1.2.1.Y))])), ((4, u3), some (.box 24 [(oS x1.2.2.Pts (g3.1.val, g3.2))])), ((g3.1.val, g3.2), oB 43 2 eSpot x1.2.2.Pts), ((11, u15), some (.box 43 [(.d (i64 (w64 (v6.1 * (w64 ((w64 (v7 + 1)) + v8)))))), (.d (i64 (w64 (v6.2.1 * (w64 ((w64 (v7 + 1)) + v8))))))]))]⟩) (sb_of ⟨.of rfl, .of rfl, .of rfl, .of rfl, .of rfl, .of rfl, .of rfl, .of rfl, trivial⟩ (sbG_some (G_skip rfl (G_skip rfl G_hit)) (.of rfl) (sbG_some (G_skip rfl (G_skip rfl (G_skip rfl G_hit))) (.of rfl) (sbG_some (G_skip rfl (G_skip rfl (G_skip rfl (G_skip rfl G_hit)))) (.of rfl) (sbG_some (G_skip rfl (G_skip rfl (G_skip rfl (G_skip rfl (G_skip rfl G_hit))))) (.of rfl) (sbG_oB (G_skip (neL g3.1.property rfl) (G_skip (neL g3.1.property rfl) (G_skip (neL g3.1.property rfl) (G_skip (neL g3.1.property rfl) (G_skip (neL g3.1.property rfl) (G_skip (neL g3.1.property rfl) G_hit)))))) (sbG_some G_hit (.of rfl) trivial))))))) ?_
          refine l_reg fun u16 hu16 => ?_
          refine s_val (.d _) rfl rfl ?_
          refine s_val (.d _) rfl rfl ?_
          refine s_val (.d _) rfl rfl ?_
          refine s_nil ?_
          obtain ⟨y4, hy4, hz1⟩ := bind_some hz1
          refine l_join (fun s => ∃ g5 : Unit, Sb ⟨T [(1, (.ptr (1, u1) 0)), (2, (.ptr (2, u1) 0)), (3, (.ptr (3, u2) 0)), (4, (.ptr (4, u3) 0)), (5, (.d (.list (List.map eA93 v1)))), (6, (.d (i64 y1))), (7, (.d (i64 x1.1))), (11, (.ptr (11, u15) 0))], G [((1, u1), some (.box 37 [(.d (i64 p1.X)), (.d (i64 p1.Y)), (.d (.list (List.map eInt_i64 p1.Steps)))])), ((2, u1), some (.box 24 [(.d .nilS)])), ((3, u2), some (.box 43 [(.d (i64 x1.2.1.X)), (.d (i64 x1.2.1.Y))])), ((4, u3), some (.box 24 [(oS x1.2.2.Pts (g3.1.val, g3.2))])), ((11, u15), some (.box 43 [(.d (i64 y4.X)), (.d (i64 y4.Y))])), ((g3.1.val, g3.2), oB 43 2 eSpot x1.2.2.Pts)]⟩ s) ?_ ?_
          · skip
            refine l_block ?_
            refine l_loop (kit_Curve_l2) (fun (x2 : (Int × Spot)) (g6 : Unit) => ⟨T [(1, (.ptr (1, u1) 0)), (2, (.ptr (2, u1) 0)), (3, (.ptr (3, u2) 0)), (4, (.ptr (4, u3) 0)), (5, (.d (.list (List.map eA93 v1)))), (6, (.d (i64 y1))), (7, (.d (i64 x1.1))), (11, (.ptr (11, u15) 0)), (12, (.d (i64 x2.1)))], G [((1, u1), some (.box 37 [(.d (i64 p1.X)), (.d (i64 p1.Y)), (.d (.list (List.map eInt_i64 p1.Steps)))])), ((2, u1), some (.box 24 [(.d .nilS)])), ((3, u2), some (.box 43 [(.d (i64 x1.2.1.X)), (.d (i64 x1.2.1.Y))])), ((4, u3), some (.box 24 [(oS x1.2.2.Pts (g3.1.val, g3.2))])), ((11, u15), some (.box 43 [(.d (i64 x2.2.X)), (.d (i64 x2.2.Y))])), ((g3.1.val, g3.2), oB 43 2 eSpot x1.2.2.Pts)]⟩) ((y1.tmod 4), (Spot.mk (w64 (v6.1 * (w64 ((w64 (v7 + 1)) + v8)))) (w64 (v6.2.1 * (w64 ((w64 (v7 + 1)) + v8)))))) () _ hy4 (sb_of ⟨.of rfl, .of rfl, .of rfl, .of rfl, .of rfl, .of rfl, .of rfl, .of rfl, .of rfl, trivial⟩ (sbG_some G_hit (.of rfl) (sbG_some (G_skip rfl G_hit) (.of rfl) (sbG_some (G_skip rfl (G_skip rfl G_hit)) (.of rfl) (sbG_some (G_skip rfl (G_skip rfl (G_skip rfl G_hit))) (.of rfl) (sbG_some (G_skip rfl (G_skip rfl (G_skip rfl (G_skip rfl (G_skip (neR g3.1.property rfl) G_hit))))) (.of rfl) (sbG_oB (G_skip (neL g3.1.property rfl) (G_skip (neL g3.1.property rfl) (G_skip (neL g3.1.property rfl) (G_skip (neL g3.1.property rfl) G_hit)))) trivial))))))) ?_
            intro x2 g6 z2 hz2 ez2
            unfold kit_Curve_l2 at hz2
            refine l_seq ?_
            refine l_seq ?_
            refine l_reg fun u17 hu17 => ?_
            refine s_val (.d _) rfl rfl ?_
            refine s_val (.d _) rfl rfl ?_
            refine s_nil ?_
            refine l_cond (decide (x2.1 > 0)) rfl (fun c4 => ?_) (fun c4 => ?_)
            · replace hz2 := cond_t c4 hz2
              refine l_skip ?_
              refine l_seq ?_
              refine l_block ?_
              refine l_reg fun u18 hu18 => ?_
              refine s_val (.ptr _ _) rfl rfl ?_
              refine s_val (.d _) rfl (v_load rfl (G_skip rfl (G_skip rfl (G_skip rfl (G_skip rfl G_hit)))) rfl) ?_
              refine s_val (.d _) rfl rfl ?_
              refine s_val (.ptr _ _) rfl rfl ?_
              refine s_val (.d _) rfl (v_load rfl (G_skip rfl (G_skip rfl (G_skip rfl (G_skip rfl G_hit)))) rfl) ?_
              refine s_val (.d _) rfl rfl ?_
              refine s_store _ _ _ _ _ rfl rfl rfl (G_skip rfl (G_skip rfl (G_skip rfl (G_skip rfl G_hit)))) (Nat.le_of_ble_eq_true rfl) [(.d (i64 (w64 (0 - x2.2.Y)))), (.d (i64 x2.2.X))] rfl ?_
              refine s_nil ?_
              refine l_end ?_
              refine l_sub (s0 := ⟨T [(1, (.ptr (1, u1) 0)), (2, (.ptr (2, u1) 0)), (3, (.ptr (3, u2) 0)), (4, (.ptr (4, u3) 0)), (5, (.d (.list (List.map eA93 v1)))), (6, (.d (i64 y1))), (7, (.d (i64 x1.1))), (11, (.ptr (11, u15) 0)), (12, (.d (i64 x2.1)))], G [((1, u1), some (.box 37 [(.d (i64 p1.X)), (.d (i64 p1.Y)), (.d (.list (List.map eInt_i64 p1.Steps)))])), ((2, u1), some (.box 24 [(.d .nilS)])), ((3, u2), some (.box 43 [(.d (i64 x1.2.1.X)), (.d (i64 x1.2.1.Y))])), ((4, u3), some (.box 24 [(oS x1.2.2.Pts (g3.1.val, g3.2))])), ((g3.1.val, g3.2), oB 43 2 eSpot x1.2.2.Pts), ((11, u15), some (.box 43 [(.d (i64 (w64 (0 - x2.2.Y)))), (.d (i64 x2.2.X))]))]⟩) (sb_of ⟨.of rfl, .of rfl, .of rfl, .of rfl, .of rfl, .of rfl, .of rfl, .of rfl, .of rfl, trivial⟩ (sbG_some (G_skip rfl G_hit) (.of rfl) (sbG_some (G_skip rfl (G_skip rfl G_hit)) (.of rfl) (sbG_some (G_skip rfl (G_skip rfl (G_skip rfl G_hit))) (.of rfl) (sbG_some (G_skip rfl (G_skip rfl (G_skip rfl (G_skip rfl G_hit)))) (.of rfl) (sbG_oB (G_skip (neL g3.1.property rfl) (G_skip (neL g3.1.property rfl) (G_skip (neL g3.1.property rfl) (G_skip (neL g3.1.property rfl) (G_skip (neL g3.1.property rfl) (G_skip (neL g3.1.property rfl) G_hit)))))) (sbG_some G_hit (.of rfl) trivial))))))) ?_
              refine l_reg fun u19 hu19 => ?_
              refine s_val (.d _) rfl rfl ?_
              refine s_val (.d _) rfl rfl ?_
              refine s_val (.d _) rfl rfl ?_
              refine s_nil ?_
              refine l_nil ?_
              obtain rfl := Option.some.inj hz2
              exact ⟨rfl, (), (sb_of ⟨.of rfl, .of rfl, .of rfl, .of rfl, .of rfl, .of rfl, .of rfl, .of rfl, .of rfl, trivial⟩ (sbG_some G_hit (.of rfl) (sbG_some (G_skip rfl G_hit) (.of rfl) (sbG_some (G_skip rfl (G_skip rfl G_hit)) (.of rfl) (sbG_some (G_skip rfl (G_skip rfl (G_skip rfl G_hit))) (.of rfl) (sbG_some (G_skip rfl (G_skip rfl (G_skip rfl (G_skip rfl (G_skip (neR g3.1.property rfl) G_hit))))) (.of rfl) (sbG_oB (G_skip (neL g3.1.property rfl) (G_skip (neL g3.1.property rfl) (G_skip (neL g3.1.property rfl) (G_skip (neL g3.1.property rfl) G_hit)))) trivial)))))))⟩
            · replace hz2 := cond_f c4 hz2
              refine l_exitN rfl ?_
              obtain rfl := Option.some.inj hz2
              obtain rfl := ez2 _ rfl
              refine ⟨nofun, awl_pop rfl (l_j ?_)⟩
              exact ⟨(), (sb_of ⟨.of rfl, .of rfl, .of rfl, .of rfl, .of rfl, .of rfl, .of rfl, .of rfl, trivial⟩ (sbG_some G_hit (.of rfl) (sbG_some (G_skip rfl G_hit) (.of rfl) (sbG_some (G_skip rfl (G_skip rfl G_hit)) (.of rfl) (sbG_some (G_skip rfl (G_skip rfl (G_skip rfl G_hit))) (.of rfl) (sbG_some (G_skip rfl (G_skip rfl (G_skip rfl (G_skip rfl G_hit)))) (.of rfl) (sbG_oB (G_skip (neL g3.1.property rfl) (G_skip (neL g3.1.property rfl) (G_skip (neL g3.1.property rfl) (G_skip (neL g3.1.property rfl) (G_skip (neL g3.1.property rfl) G_hit))))) trivial)))))))⟩
          · rintro _ ⟨g5, q3⟩
            refine l_sub q3 ?_
            refine l_seq ?_
            refine l_reg fun u20 hu20 => ?_
            refine s_val (.ptr _ _) rfl rfl ?_
            refine s_val (.d _) rfl (v_load rfl (G_skip rfl (G_skip rfl G_hit)) rfl) ?_
            refine s_val (.ptr _ _) rfl rfl ?_
            refine s_val (.d _) rfl (v_load rfl (G_skip rfl (G_skip rfl (G_skip rfl (G_skip rfl G_hit)))) rfl) ?_
            refine s_val (.d _) rfl rfl ?_
            refine s_val (.ptr _ _) rfl rfl ?_
            refine s_val (.d _) rfl (v_load rfl (G_skip rfl (G_skip rfl G_hit)) rfl) ?_
            refine s_val (.ptr _ _) rfl rfl ?_
            refine s_val (.d _) rfl (v_load rfl (G_skip rfl (G_skip rfl (G_skip rfl (G_skip rfl G_hit)))) rfl) ?_
            refine s_val (.d _) rfl rfl ?_
            refine s_val (.d _) rfl rfl ?_
            refine s_store _ _ _ _ _ rfl rfl rfl (G_skip rfl (G_skip rfl G_hit)) (Nat.le_of_ble_eq_true rfl) [(.d (i64 (w64 (x1.2.1.X + y4.X)))), (.d (i64 (w64 (x1.2.1.Y + y4.Y))))] rfl ?_
            refine s_nil ?_
            refine l_sub (s0 := ⟨T [(1, (.ptr (1, u1) 0)), (2, (.ptr (2, u1) 0)), (3, (.ptr (3, u2) 0)), (4, (.ptr (4, u3) 0)), (5, (.d (.list (List.map eA93 v1)))), (6, (.d (i64 y1))), (7, (.d (i64 x1.1)))], G [((1, u1), some (.box 37 [(.d (i64 p1.X)), (.d (i64 p1.Y)), (.d (.list (List.map eInt_i64 p1.Steps)))])), ((2, u1), some (.box 24 [(.d .nilS)])), ((3, u2), some (.box 43 [(.d (i64 (w64 (x1.2.1.X + y4.X)))), (.d (i64 (w64 (x1.2.1.Y + y4.Y))))])), ((4, u3), some (.box 24 [(oS x1.2.2.Pts (g3.1.val, g3.2))])), ((g3.1.val, g3.2), oB 43 2 eSpot x1.2.2.Pts)]⟩) (sb_of ⟨.of rfl, .of rfl, .of rfl, .of rfl, .of rfl, .of rfl, .of rfl, trivial⟩ (sbG_some (G_skip rfl G_hit) (.of rfl) (sbG_some (G_skip rfl (G_skip rfl G_hit)) (.of rfl) (sbG_some G_hit (.of rfl) (sbG_some (G_skip rfl (G_skip rfl (G_skip rfl (G_skip rfl G_hit)))) (.of rfl) (sbG_oB (G_skip (neL g3.1.property rfl) (G_skip (neL g3.1.property rfl) (G_skip (neL g3.1.property rfl) (G_skip (neL g3.1.property rfl) (G_skip (neL g3.1.property rfl) (G_skip (neL g3.1.property rfl) G_hit)))))) trivial)))))) ?_
            refine l_reg fun u21 hu21 => ?_
            refine s_val (.ptr _ _) rfl rfl ?_
            refine s_val (oS x1.2.2.Pts (g3.1.val, g3.2)) rfl (v_load rfl (G_skip rfl (G_skip rfl (G_skip rfl G_hit))) rfl) ?_
            refine s_val (.d _) rfl (v_loadG rfl (G_skip rfl (G_skip rfl G_hit)) rfl rfl) ?_
            refine s_val (.d (.list (List.map eSpot [(Spot.mk (w64 (x1.2.1.X + y4.X)) (w64 (x1.2.1.Y + y4.Y)))]))) rfl rfl ?_
            obtain ⟨v9, hv9, hz1⟩ := bind_some hz1
            refine s_appendO eSpot (g3.1.val, g3.2) x1.2.2.Pts (Spot.mk (w64 (x1.2.1.X + y4.X)) (w64 (x1.2.1.Y + y4.Y))) [] _ (elems_list (fun _ => rfl)) rfl (G_skip (neL g3.1.property rfl) (G_skip (neL g3.1.property rfl) (G_skip (neL g3.1.property rfl) (G_skip (neL g3.1.property rfl) G_hit)))) hv9 ?_
            refine s_val (.ptr _ _) rfl rfl ?_
            refine s_store _ _ _ _ _ rfl rfl rfl (G_skip rfl (G_skip (neR g3.1.property rfl) (G_skip rfl (G_skip rfl (G_skip rfl G_hit))))) (Nat.le_of_ble_eq_true rfl) [(.sl (105, u21))] rfl ?_
            refine s_nil ?_
            refine l_end ?_
            refine l_reg fun u22 hu22 => ?_
            refine s_val (.d _) rfl rfl ?_
            refine s_val (.d _) rfl rfl ?_
            refine s_val (.d _) rfl rfl ?_
            refine s_nil ?_
            refine l_nil ?_
            obtain rfl := Option.some.inj hz1
            exact ⟨rfl, (⟨105, .tail _ (.head _)⟩, u21), (sb_of ⟨.of rfl, .of rfl, .of rfl, .of rfl, .of rfl, .of rfl, .of rfl, trivial⟩ (sbG_some (G_skip rfl (G_skip rfl (G_skip (neR g3.1.property rfl) G_hit))) (.of rfl) (sbG_some (G_skip rfl (G_skip rfl (G_skip (neR g3.1.property rfl) (G_skip rfl G_hit)))) (.of rfl) (sbG_some (G_skip rfl (G_skip rfl (G_skip (neR g3.1.property rfl) (G_skip rfl (G_skip rfl G_hit))))) (.of rfl) (sbG_some G_hit (.box (.cons (.of (oS_ne (appc_ne hv9)).symm) .nil)) (sbG_own (G_skip rfl G_hit) trivial))))))⟩
      · replace hz1 := cond_f c2 hz1
        refine l_exitN rfl ?_
        obtain rfl := Option.some.inj hz1
        obtain rfl := ez1 _ rfl
        refine ⟨nofun, awl_pop rfl (l_j ?_)⟩
        exact ⟨(g3.1, g3.2), (sb_of ⟨.of rfl, .of rfl, trivial⟩ (sbG_some (G_skip rfl G_hit) (.of rfl) (sbG_some (G_skip rfl (G_skip rfl (G_skip rfl G_hit))) (.of rfl) (sbG_oB (G_skip (neL g3.1.property rfl) (G_skip (neL g3.1.property rfl) (G_skip (neL g3.1.property rfl) (G_skip (neL g3.1.property rfl) G_hit)))) trivial))))⟩
    · rintro _ ⟨g2, q4⟩
      refine l_sub q4 ?_
      refine l_seq ?_
      refine l_reg fun u23 hu23 => ?_
      refine s_val (mkAgg [(oS y2.Pts (g2.1.val, g2.2))]) rfl (v_loadG rfl (G_skip rfl G_hit) rfl rfl) ?_
      refine s_store _ _ _ _ _ (cellsV_mkAgg _) rfl rfl G_hit (Nat.le_of_ble_eq_true rfl) [(oS y2.Pts (g2.1.val, g2.2))] rfl ?_
      refine s_nil ?_
      refine l_ret ?_
      obtain rfl := Option.some.inj h
      refine fin_ok (.inr rfl) (resD1 (res_cellG rfl G_hit (Nat.le_of_ble_eq_true rfl) rfl) (rf_mkAgg (rfL_cons (rf_oS (G_skip (neL g2.1.property rfl) (G_skip (neL g2.1.property rfl) (G_skip (neL g2.1.property rfl) G_hit)))) rfL_nil))) ?_
      exact (.agg (.cons ⟨oD_le, rfl⟩ .nil))

noncomputable def law01_moved_l1 (p1 : Curve) (p2 : Spot) (x1 : (Int × Curve)) : Option (Stp (Int × Curve) Curve) :=
  cond (decide (x1.1 < (p1.Pts.length : Int))) ((geti p1.Pts x1.1).bind fun v1 => (geti p1.Pts x1.1).bind fun v2 => (appc x1.2.Pts [(Spot.mk (w64 (v1.X + p2.X)) (w64 (v2.Y + p2.Y)))]).bind fun v3 => some (.go ((w64 (x1.1 + 1)), (Curve.mk v3)))) (some (.out x1.2))
noncomputable def law01_moved (p1 : Curve) (p2 : Spot) : Option Curve :=
  (loop (law01_moved_l1 p1 p2) (0, (Curve.mk []))).bind fun y1 => some y1

/-- kerbstone/kerbstonelaw01.moved -/
def ac_law01_moved : AC :=
  (.seq (.reg [⟨(some 2), .box 24 true (.t 0), none⟩, ⟨(some 3), .box 43 true (.t 1), none⟩, ⟨(some 4), .alloc 24 [.nilS], none⟩])
  (.seq (.reg [⟨(some 5), .alloc 24 [.nilS], none⟩])
  (.seq (.seq (.reg [⟨(some 6), .mv (.c (.v (.int .i64 0))), none⟩])
  (.block 0
    (.loop
      (.seq (.seq (.reg [⟨(some 7), .mv (.t 6), none⟩, ⟨(some 8), .fieldA 0 (.t 2), none⟩, ⟨(some 9), .load 1 false (.t 8), none⟩, ⟨(some 10), .len (.t 9), none⟩, ⟨(some 11), .bin .lss (.t 7) (.t 10), none⟩])
      (.cond (.t 11)
        .skip
        (.exit 0)))
      (.seq (.block 1
        (.draw [⟨(some 14), .fieldA 0 (.t 5), none⟩, ⟨(some 15), .load 1 false (.t 14), none⟩, ⟨(some 16), .fieldA 0 (.t 2), none⟩, ⟨(some 17), .load 1 false (.t 16), none⟩, ⟨(some 18), .mv (.t 6), none⟩, ⟨(some 19), .idxS 2 (.t 17) (.t 18), none⟩, ⟨(some 20), .fieldA 0 (.t 19), none⟩, ⟨(some 21), .load 1 false (.t 20), none⟩, ⟨(some 22), .fieldA 0 (.t 3), none⟩, ⟨(some 23), .load 1 false (.t 22), none⟩, ⟨(some 24), .bin .add (.t 21) (.t 23), none⟩, ⟨(some 25), .fieldA 0 (.t 2), none⟩, ⟨(some 26), .load 1 false (.t 25), none⟩, ⟨(some 27), .mv (.t 6), none⟩, ⟨(some 28), .idxS 2 (.t 26) (.t 27), none⟩, ⟨(some 29), .fieldA 1 (.t 28), none⟩, ⟨(some 30), .load 1 false (.t 29), none⟩, ⟨(some 31), .fieldA 1 (.t 3), none⟩, ⟨(some 32), .load 1 false (.t 31), none⟩, ⟨(some 33), .bin .add (.t 30) (.t 32), none⟩, ⟨(some 34), .build [(.v (.int .i64 0)), (.v (.int .i64 0))] [(0, 1, (.t 24)), (1, 1, (.t 33))], none⟩, ⟨(some 35), .dslice 43 2 1 [(.v (.int .i64 0)), (.v (.int .i64 0))] [(0, 2, (.t 34))], none⟩, ⟨(some 36), .append 22 43 2 (.t 15) (.t 35), none⟩, ⟨(some 37), .fieldA 0 (.t 5), none⟩, ⟨none, .store 1 (.t 37) (.t 36), none⟩] []))
      (.reg [⟨(some 12), .mv (.t 6), none⟩, ⟨(some 13), .bin .add (.t 12) (.c (.v (.int .i64 1))), none⟩, ⟨(some 6), .mv (.t 13), none⟩]))))))
  (.seq (.reg [⟨(some 38), .load 1 true (.t 5), none⟩, ⟨none, .store 1 (.t 4) (.t 38), none⟩])
  .ret))))
theorem fn_law01_moved : FnOK Try.prog 35 39 [.cell 4 1 true] ac_law01_moved := ⟨_, _, Try.func35, rfl, Try.ntmps35, by kernel_rfl, ⟨fun r => if r == 5 then [1021] else [], by kernel_rfl⟩, by kernel_rfl⟩
set_option maxHeartbeats 4000000 in
theorem law01_moved_ok (p1 : Curve) (p2 : Spot) (r : Curve) (h : law01_moved p1 p2 = some r) : PCall Try.prog 35 [(.agg [(.list (List.map eSpot p1.Pts))]), (.agg [(i64 p2.X), (i64 p2.Y)])] (.agg [(.list (List.map eSpot r.Pts))]) := by
  refine l_call fn_law01_moved (Nat.le_of_ble_eq_true rfl) ?_
  unfold law01_moved at h
  unfold ac_law01_moved
  refine (l_sub (s0 := ⟨T [(0, (.d (.agg [(.list (List.map eSpot p1.Pts))]))), (1, (.d (.agg [(i64 p2.X), (i64 p2.Y)])))], G []⟩) (sb_of ⟨.of rfl, .of rfl, trivial⟩ trivial) ?_)
  refine l_seq ?_
  refine l_reg fun u1 hu1 => ?_
  refine s_new (.ptr _ _) (.box _ _) rfl rfl ?_
  refine s_new (.ptr _ _) (.box _ _) rfl rfl ?_
  refine s_new (.ptr _ _) (.box _ _) rfl rfl ?_
  refine s_nil ?_
  refine l_seq ?_
  refine l_reg fun u2 hu2 => ?_
  refine s_new (.ptr _ _) (.box _ _) rfl rfl ?_
  refine s_nil ?_
  refine l_seq ?_
  refine l_seq ?_
  refine l_reg fun u3 hu3 => ?_
  refine s_val (.d _) rfl rfl ?_
  refine s_nil ?_
  obtain ⟨y1, hy1, h⟩ := bind_some h
  refine l_join (fun s => ∃ g1 : Nat, Sb ⟨T [(4, (.ptr (4, u1) 0)), (5, (.ptr (5, u2) 0))], G [((4, u1), some (.box 24 [(.d .nilS)])), ((5, u2), some (.box 24 [(oS y1.Pts (36, g1))])), ((36, g1), oB 43 2 eSpot y1.Pts)]⟩ s) ?_ ?_
  · skip
    refine l_block ?_
    refine l_loop (law01_moved_l1 p1 p2) (fun (x1 : (Int × Curve)) (g2 : Nat) => ⟨T [(2, (.ptr (2, u1) 0)), (3, (.ptr (3, u1) 0)), (4, (.ptr (4, u1) 0)), (5, (.ptr (5, u2) 0)), (6, (.d (i64 x1.1)))], G [((2, u1), some (.box 24 [(.d (.list (List.map eSpot p1.Pts)))])), ((3, u1), some (.box 43 [(.d (i64 p2.X)), (.d (i64 p2.Y))])), ((4, u1), some (.box 24 [(.d .nilS)])), ((5, u2), some (.box 24 [(oS x1.2.Pts (36, g2))])), ((36, g2), oB 43 2 eSpot x1.2.Pts)]⟩) (0, (Curve.mk [])) 0 _ hy1 (sb_of ⟨.of rfl, .of rfl, .of rfl, .of rfl, .of rfl, trivial⟩ (sbG_some (G_skip rfl (G_skip rfl (G_skip rfl G_hit))) (.of rfl) (sbG_some (G_skip rfl (G_skip rfl G_hit)) (.of rfl) (sbG_some (G_skip rfl G_hit) (.of rfl) (sbG_some G_hit (.of rfl) (sbG_nil trivial)))))) ?_
    intro x1 g2 z1 hz1 ez1
    unfold law01_moved_l1 at hz1
    refine l_seq ?_
    refine l_seq ?_
    refine l_reg fun u4 hu4 => ?_
    refine s_val (.d _) rfl rfl ?_
    refine s_val (.ptr _ _) rfl rfl ?_
    refine s_val (.d _) rfl (v_load rfl G_hit rfl) ?_
    refine s_val (.d _) rfl (v_len rfl) ?_
    refine s_val (.d _) rfl rfl ?_
    refine s_nil ?_
    refine l_cond (decide (x1.1 < (p1.Pts.length : Int))) rfl (fun c1 => ?_) (fun c1 => ?_)
    · replace hz1 := cond_t c1 hz1
      refine l_skip ?_
      refine l_seq ?_
      refine l_block ?_
      refine l_draw rfl fun u5 hu5 => ?_
      refine s_val (.ptr _ _) rfl rfl ?_
      refine s_val (oS x1.2.Pts (36, g2)) rfl (v_load rfl (G_skip rfl (G_skip rfl (G_skip rfl G_hit))) rfl) ?_
      refine s_val (.ptr _ _) rfl rfl ?_
      refine s_val (.d _) rfl (v_load rfl G_hit rfl) ?_
      refine s_val (.d _) rfl rfl ?_
      obtain ⟨v1, hv1, hz1⟩ := bind_some hz1
      refine s_val (.d _) rfl (v_idx rfl rfl hv1 rfl) ?_
      refine s_val (.d _) rfl rfl ?_
      refine s_val (.d _) rfl (v_loadL rfl hv1 rfl) ?_
      refine s_val (.ptr _ _) rfl rfl ?_
      refine s_val (.d _) rfl (v_load rfl (G_skip rfl G_hit) rfl) ?_
      refine s_val (.d _) rfl rfl ?_
      refine s_val (.ptr _ _) rfl rfl ?_
      refine s_val (.d _) rfl (v_load rfl G_hit rfl) ?_
      refine s_val (.d _) rfl rfl ?_
      obtain ⟨v2, hv2, hz1⟩ := bind_some hz1
      refine s_val (.d _) rfl (v_idx rfl rfl hv2 rfl) ?_
      refine s_val (.d _) rfl rfl ?_
      refine s_val (.d _) rfl (v_loadL rfl hv2 rfl) ?_
      refine s_val (.ptr _ _) rfl rfl ?_
      refine s_val (.d _) rfl (v_load rfl (G_skip rfl G_hit) rfl) ?_
      refine s_val (.d _) rfl rfl ?_
      refine s_val (.d _) rfl rfl ?_
      refine s_val (.d (.list (List.map eSpot [(Spot.mk (w64 (v1.X + p2.X)) (w64 (v2.Y + p2.Y)))]))) rfl rfl ?_
      obtain ⟨v3, hv3, hz1⟩ := bind_some hz1
      refine s_appendO eSpot (36, g2) x1.2.Pts (Spot.mk (w64 (v1.X + p2.X)) (w64 (v2.Y + p2.Y))) [] _ (elems_list (fun _ => rfl)) rfl (G_skip rfl (G_skip rfl (G_skip rfl (G_skip rfl G_hit)))) hv3 ?_
      refine s_val (.ptr _ _) rfl rfl ?_
      refine s_store _ _ _ _ _ rfl rfl rfl (G_skip rfl (G_skip rfl (G_skip rfl (G_skip rfl (G_skip rfl G_hit))))) (Nat.le_of_ble_eq_true rfl) [(.sl (36, u5))] rfl ?_
      refine s_nil ?_
      refine l_end ?_
      refine l_sub (s0 := ⟨T [(2, (.ptr (2, u1) 0)), (3, (.ptr (3, u1) 0)), (4, (.ptr (4, u1) 0)), (5, (.ptr (5, u2) 0)), (6, (.d (i64 x1.1)))], G [((2, u1), some (.box 24 [(.d (.list (List.map eSpot p1.Pts)))])), ((3, u1), some (.box 43 [(.d (i64 p2.X)), (.d (i64 p2.Y))])), ((4, u1), some (.box 24 [(.d .nilS)])), ((5, u2), some (.box 24 [(.sl (36, u5))])), ((36, u5), some (.arr 43 2 (List.map eSpot v3)))]⟩) (sb_of ⟨.of rfl, .of rfl, .of rfl, .of rfl, .of rfl, trivial⟩ (sbG_some (G_skip rfl (G_skip rfl (G_skip rfl G_hit))) (.of rfl) (sbG_some (G_skip rfl (G_skip rfl (G_skip rfl (G_skip rfl G_hit)))) (.of rfl) (sbG_some (G_skip rfl (G_skip rfl (G_skip rfl (G_skip rfl (G_skip rfl G_hit))))) (.of rfl) (sbG_some G_hit (.of rfl) (sbG_some (G_skip rfl G_hit) (.of rfl) trivial)))))) ?_
      refine l_reg fun u6 hu6 => ?_
      refine s_val (.d _) rfl rfl ?_
      refine s_val (.d _) rfl rfl ?_
      refine s_val (.d _) rfl rfl ?_
      refine s_nil ?_
      refine l_nil ?_
      obtain rfl := Option.some.inj hz1
      exact ⟨rfl, u5, (sb_of ⟨.of rfl, .of rfl, .of rfl, .of rfl, .of rfl, trivial⟩ (sbG_some G_hit (.of rfl) (sbG_some (G_skip rfl G_hit) (.of rfl) (sbG_some (G_skip rfl (G_skip rfl G_hit)) (.of rfl) (sbG_some (G_skip rfl (G_skip rfl (G_skip rfl G_hit))) (.box (.cons (.of (oS_ne (appc_ne hv3)).symm) .nil)) (sbG_own (G_skip rfl (G_skip rfl (G_skip rfl (G_skip rfl G_hit)))) trivial))))))⟩
    · replace hz1 := cond_f c1 hz1
      refine l_exitN rfl ?_
      obtain rfl := Option.some.inj hz1
      obtain rfl := ez1 _ rfl
      refine ⟨nofun, awl_pop rfl (l_j ?_)⟩
      exact ⟨g2, (sb_of ⟨.of rfl, .of rfl, trivial⟩ (sbG_some (G_skip rfl (G_skip rfl G_hit)) (.of rfl) (sbG_some (G_skip rfl (G_skip rfl (G_skip rfl G_hit))) (.of rfl) (sbG_oB (G_skip rfl (G_skip rfl (G_skip rfl (G_skip rfl G_hit)))) trivial))))⟩
  · rintro _ ⟨g1, q1⟩
    refine l_sub q1 ?_
    refine l_seq ?_
    refine l_reg fun u7 hu7 => ?_
    refine s_val (mkAgg [(oS y1.Pts (36, g1))]) rfl (v_loadG rfl (G_skip rfl G_hit) rfl rfl) ?_
    refine s_store _ _ _ _ _ (cellsV_mkAgg _) rfl rfl G_hit (Nat.le_of_ble_eq_true rfl) [(oS y1.Pts (36, g1))] rfl ?_
    refine s_nil ?_
    refine l_ret ?_
    obtain rfl := Option.some.inj h
    refine fin_ok (.inr rfl) (resD1 (res_cellG rfl G_hit (Nat.le_of_ble_eq_true rfl) rfl) (rf_mkAgg (rfL_cons (rf_oS (G_skip rfl (G_skip rfl (G_skip rfl G_hit)))) rfL_nil))) ?_
    exact (.agg (.cons ⟨oD_le, rfl⟩ .nil))

noncomputable def curve_fair_l1 (p1 : (List Spot)) (x1 : Int) : Option (Stp Int (Sum Unit Bool)) :=
  cond (decide (x1 < (p1.length : Int))) ((geti p1 x1).bind fun v1 => cond ((decide ((mm2 false v1.X v1.Y) < (-16777216))) || (decide ((mm2 true v1.X v1.Y) > 16777216))) (some (.out (.inr false))) (some (.go (w64 (x1 + 1))))) (some (.out (.inl ())))
noncomputable def curve_fair (p1 : (List Spot)) : Option Bool :=
  thenS (loop (curve_fair_l1 p1) 0) (fun _ => some true) (fun r => some r)

/-- kerbstone/curve.fair -/
def ac_curve_fair : AC :=
  (.seq (.reg [⟨(some 2), .mv (.c (.v (.bool false))), none⟩])
  (.seq (.seq (.reg [⟨(some 5), .mv (.t 0), none⟩, ⟨(some 6), .len (.t 5), none⟩, ⟨(some 7), .mv (.c (.v (.int .i64 0))), none⟩])
  (.block 0
    (.loop
      (.seq (.reg [⟨(some 8), .bin .lss (.t 7) (.t 6), none⟩])
      (.seq (.cond (.t 8)
        .skip
        (.exit 0))
      (.seq (.block 1
        (.seq (.reg [⟨(some 9), .idxS 2 (.t 5) (.t 7), none⟩, ⟨(some 10), .load 2 true (.t 9), none⟩, ⟨(some 4), .alloc 43 [(.v (.int .i64 0)), (.v (.int .i64 0))], none⟩, ⟨none, .store 2 (.t 4) (.t 10), none⟩])
        (.seq (.reg [⟨(some 11), .fieldA 0 (.t 4), none⟩, ⟨(some 12), .load 1 false (.t 11), none⟩, ⟨(some 13), .fieldA 1 (.t 4), none⟩, ⟨(some 14), .load 1 false (.t 13), none⟩, ⟨(some 15), .mm false (.t 12) [(.t 14)], none⟩, ⟨(some 16), .bin .lss (.t 15) (.c (.v (.int .i64 (-16777216)))), none⟩, ⟨(some 17), .mv (.t 16), none⟩, ⟨(some 18), .fieldA 0 (.t 4), (some (17, false))⟩, ⟨(some 19), .load 1 false (.t 18), (some (17, false))⟩, ⟨(some 20), .fieldA 1 (.t 4), (some (17, false))⟩, ⟨(some 21), .load 1 false (.t 20), (some (17, false))⟩, ⟨(some 22), .mm true (.t 19) [(.t 21)], (some (17, false))⟩, ⟨(some 23), .bin .gtr (.t 22) (.c (.v (.int .i64 16777216))), (some (17, false))⟩, ⟨(some 24), .pick (.t 17) (.c (.v (.bool true))) (.t 23), none⟩])
        (.cond (.t 24)
          (.seq (.reg [⟨(some 2), .mv (.c (.v (.bool false))), none⟩])
          .ret)
          .skip))))
      (.reg [⟨(some 25), .bin .add (.t 7) (.c (.v (.int .i64 1))), none⟩, ⟨(some 7), .mv (.t 25), none⟩])))))))
  (.seq (.reg [⟨(some 2), .mv (.c (.v (.bool true))), none⟩])
  .ret)))
theorem fn_curve_fair : FnOK Try.prog 59 26 [.t 2] ac_curve_fair := ⟨_, _, Try.func59, rfl, Try.ntmps59, by kernel_rfl, ⟨fun _ => [], by kernel_rfl⟩, by kernel_rfl⟩
set_option maxHeartbeats 4000000 in
theorem curve_fair_ok (p1 : (List Spot)) (r : Bool) (h : curve_fair p1 = some r) : PCall Try.prog 59 [(.list (List.map eSpot p1))] (bo r) := by
  refine l_call fn_curve_fair (Nat.le_of_ble_eq_true rfl) ?_
  unfold curve_fair at h
  unfold ac_curve_fair
  refine (l_sub (s0 := ⟨T [(0, (.d (.list (List.map eSpot p1))))], G []⟩) (sb_of ⟨.of rfl, trivial⟩ trivial) ?_)
  refine l_seq ?_
  refine l_reg fun u1 hu1 => ?_
  refine s_val (.d _) rfl rfl ?_
  refine s_nil ?_
  refine l_seq ?_
  refine l_seq ?_
  refine l_reg fun u2 hu2 => ?_
  refine s_val (.d _) rfl rfl ?_
  refine s_val (.d _) rfl (v_len rfl) ?_
  refine s_val (.d _) rfl rfl ?_
  refine s_nil ?_
  obtain ⟨z1, hz1, h⟩ := thenS_some h
  refine l_join (fun s => ∃ (y1 : Unit) (g1 : Unit), z1 = .inl y1 ∧ Sb ⟨T [], G []⟩ s) ?_ ?_
  · skip
    refine l_block ?_
    refine l_loop (curve_fair_l1 p1) (fun (x1 : Int) (g2 : Unit) => ⟨T [(5, (.d (.list (List.map eSpot p1)))), (6, (.d (i64 (p1.length : Int)))), (7, (.d (i64 x1)))], G []⟩) 0 () _ hz1 (sb_of ⟨.of rfl, .of rfl, .of rfl, trivial⟩ trivial) ?_
    intro x1 g2 z2 hz2 ez2
    unfold curve_fair_l1 at hz2
    refine l_seq ?_
    refine l_reg fun u3 hu3 => ?_
    refine s_val (.d _) rfl rfl ?_
    refine s_nil ?_
    refine l_seq ?_
    refine l_cond (decide (x1 < (p1.length : Int))) rfl (fun c1 => ?_) (fun c1 => ?_)
    · replace hz2 := cond_t c1 hz2
      refine l_skip ?_
      refine l_seq ?_
      refine l_block ?_
      refine l_seq ?_
      refine l_reg fun u4 hu4 => ?_
      obtain ⟨v1, hv1, hz2⟩ := bind_some hz2
      refine s_val (.d _) rfl (v_idx rfl rfl hv1 rfl) ?_
      refine s_val (.d _) rfl (v_loadLG rfl hv1 rfl rfl) ?_
      refine s_new (.ptr _ _) (.box _ _) rfl rfl ?_
      refine s_store _ _ _ _ _ rfl rfl rfl G_hit (Nat.le_of_ble_eq_true rfl) [(.d (i64 v1.X)), (.d (i64 v1.Y))] rfl ?_
      refine s_nil ?_
      refine l_seq ?_
      refine l_reg fun u5 hu5 => ?_
      refine s_val (.ptr _ _) rfl rfl ?_
      refine s_val (.d _) rfl (v_load rfl G_hit rfl) ?_
      refine s_val (.ptr _ _) rfl rfl ?_
      refine s_val (.d _) rfl (v_load rfl G_hit rfl) ?_
      refine s_val (.d _) rfl rfl ?_
      refine s_val (.d _) rfl rfl ?_
      refine s_val (.d _) rfl rfl ?_
      refine g_val (!(decide ((mm2 false v1.X v1.Y) < (-16777216)))) (.ptr _ _) rfl (gw_f rfl) (fun w1 => rfl) ?_
      refine g_val (!(decide ((mm2 false v1.X v1.Y) < (-16777216)))) (.d _) rfl (gw_f rfl) (fun w2 => (v_load (gd_pos w2) G_hit rfl)) ?_
      refine g_val (!(decide ((mm2 false v1.X v1.Y) < (-16777216)))) (.ptr _ _) rfl (gw_f rfl) (fun w3 => rfl) ?_
      refine g_val (!(decide ((mm2 false v1.X v1.Y) < (-16777216)))) (.d _) rfl (gw_f rfl) (fun w4 => (v_load (gd_pos w4) G_hit rfl)) ?_
      refine g_val (!(decide ((mm2 false v1.X v1.Y) < (-16777216)))) (.d _) rfl (gw_f rfl) (fun w5 => (by simp only [gd_pos w5]; rfl)) ?_
      refine g_val (!(decide ((mm2 false v1.X v1.Y) < (-16777216)))) (.d _) rfl (gw_f rfl) (fun w6 => (v_bin (gd_pos w6) rfl rfl)) ?_
      refine s_val (.d _) rfl (v_or rfl rfl (fun hc => gd_pos (not_t hc))) ?_
      refine s_nil ?_
      refine l_cond ((decide ((mm2 false v1.X v1.Y) < (-16777216))) || (decide ((mm2 true v1.X v1.Y) > 16777216))) rfl (fun c2 => ?_) (fun c2 => ?_)
      · replace hz2 := cond_t c2 hz2
        refine l_seq ?_
        refine l_sub (s0 := ⟨T [], G []⟩) (sb_of trivial trivial) ?_
        refine l_reg fun u6 hu6 => ?_
        refine s_val (.d _) rfl rfl ?_
        refine s_nil ?_
        refine l_ret ?_
        obtain rfl := Option.some.inj hz2
        obtain rfl := ez2 _ rfl
        refine ⟨nofun, awl_ret ?_⟩
        rw [Sum.elim_inr] at h
        obtain rfl := Option.some.inj h
        refine fin_ok (.inr rfl) (resD1 (res_t rfl) rf_d) ?_
        exact (.refl _)
      · replace hz2 := cond_f c2 hz2
        refine l_skip ?_
        refine l_end ?_
        refine l_sub (s0 := ⟨T [(5, (.d (.list (List.map eSpot p1)))), (6, (.d (i64 (p1.length : Int)))), (7, (.d (i64 x1))), (18, (gd (!(decide ((mm2 false v1.X v1.Y) < (-16777216)))) true (.ptr (4, u4) 0))), (19, (gd (!(decide ((mm2 false v1.X v1.Y) < (-16777216)))) true (.d (i64 v1.X)))), (20, (gd (!(decide ((mm2 false v1.X v1.Y) < (-16777216)))) true (.ptr (4, u4) 1))), (21, (gd (!(decide ((mm2 false v1.X v1.Y) < (-16777216)))) true (.d (i64 v1.Y)))), (22, (gd (!(decide ((mm2 false v1.X v1.Y) < (-16777216)))) true (.d (i64 (mm2 true v1.X v1.Y))))), (23, (gd (!(decide ((mm2 false v1.X v1.Y) < (-16777216)))) true (.d (bo (decide ((mm2 true v1.X v1.Y) > 16777216))))))], G [((4, u4), some (.box 43 [(.d (i64 v1.X)), (.d (i64 v1.Y))]))]⟩) (sb_of ⟨.of rfl, .of rfl, .of rfl, .of rfl, .of rfl, .of rfl, .of rfl, .of rfl, .of rfl, trivial⟩ (sbG_some G_hit (.of rfl) trivial)) ?_
        refine l_reg fun u7 hu7 => ?_
        refine s_val (.d _) rfl rfl ?_
        refine s_val (.d _) rfl rfl ?_
        refine s_nil ?_
        refine l_nil ?_
        obtain rfl := Option.some.inj hz2
        exact ⟨rfl, (), (sb_of ⟨.of rfl, .of rfl, .of rfl, trivial⟩ trivial)⟩
    · replace hz2 := cond_f c1 hz2
      refine l_exitN rfl ?_
      obtain rfl := Option.some.inj hz2
      obtain rfl := ez2 _ rfl
      refine ⟨nofun, awl_pop rfl (l_j ?_)⟩
      exact ⟨_, (), rfl, (sb_of trivial trivial)⟩
  · rintro _ ⟨y1, g1, rfl, q1⟩
    rw [Sum.elim_inl] at h
    refine l_sub q1 ?_
    refine l_seq ?_
    refine l_reg fun u8 hu8 => ?_
    refine s_val (.d _) rfl rfl ?_
    refine s_nil ?_
    refine l_ret ?_
    obtain rfl := Option.some.inj h
    refine fin_ok (.inr rfl) (resD1 (res_t rfl) rf_d) ?_
    exact (.refl _)

noncomputable def curve_from (p1 : Spot) (p2 : Spot) : Option CurveVector :=
  some (CurveVector.mk (w64 (p2.X - p1.X)) (w64 (p2.Y - p1.Y)))

/-- kerbstone/curve.from -/
def ac_curve_from : AC :=
  (.seq (.reg [⟨(some 2), .box 43 true (.t 0), none⟩, ⟨(some 3), .box 43 true (.t 1), none⟩, ⟨(some 4), .alloc 78 [(.v (.int .i64 0)), (.v (.int .i64 0))], none⟩])
  (.seq (.reg [⟨(some 5), .fieldA 0 (.t 3), none⟩, ⟨(some 6), .load 1 false (.t 5), none⟩, ⟨(some 7), .fieldA 0 (.t 2), none⟩, ⟨(some 8), .load 1 false (.t 7), none⟩, ⟨(some 9), .bin .sub (.t 6) (.t 8), none⟩, ⟨(some 10), .fieldA 1 (.t 3), none⟩, ⟨(some 11), .load 1 false (.t 10), none⟩, ⟨(some 12), .fieldA 1 (.t 2), none⟩, ⟨(some 13), .load 1 false (.t 12), none⟩, ⟨(some 14), .bin .sub (.t 11) (.t 13), none⟩, ⟨(some 15), .build [(.v (.int .i64 0)), (.v (.int .i64 0))] [(0, 1, (.t 9)), (1, 1, (.t 14))], none⟩, ⟨none, .store 2 (.t 4) (.t 15), none⟩])
  .ret))
theorem fn_curve_from : FnOK Try.prog 60 16 [.cell 4 2 true] ac_curve_from := ⟨_, _, Try.func60, rfl, Try.ntmps60, by kernel_rfl, ⟨fun _ => [], by kernel_rfl⟩, by kernel_rfl⟩
theorem curve_from_ok (p1 : Spot) (p2 : Spot) (r : CurveVector) (h : curve_from p1 p2 = some r) : PCall Try.prog 60 [(.agg [(i64 p1.X), (i64 p1.Y)]), (.agg [(i64 p2.X), (i64 p2.Y)])] (.agg [(i64 r.x), (i64 r.y)]) := by
  refine l_call fn_curve_from (Nat.le_of_ble_eq_true rfl) ?_
  unfold curve_from at h
  unfold ac_curve_from
  refine (l_sub (s0 := ⟨T [(0, (.d (.agg [(i64 p1.X), (i64 p1.Y)]))), (1, (.d (.agg [(i64 p2.X), (i64 p2.Y)])))], G []⟩) (sb_of ⟨.of rfl, .of rfl, trivial⟩ trivial) ?_)
  refine l_seq ?_
  refine l_reg fun u1 hu1 => ?_
  refine s_new (.ptr _ _) (.box _ _) rfl rfl ?_
  refine s_new (.ptr _ _) (.box _ _) rfl rfl ?_
  refine s_new (.ptr _ _) (.box _ _) rfl rfl ?_
  refine s_nil ?_
  refine l_seq ?_
  refine l_reg fun u2 hu2 => ?_
  refine s_val (.ptr _ _) rfl rfl ?_
  refine s_val (.d _) rfl (v_load rfl (G_skip rfl G_hit) rfl) ?_
  refine s_val (.ptr _ _) rfl rfl ?_
  refine s_val (.d _) rfl (v_load rfl (G_skip rfl (G_skip rfl G_hit)) rfl) ?_
  refine s_val (.d _) rfl rfl ?_
  refine s_val (.ptr _ _) rfl rfl ?_
  refine s_val (.d _) rfl (v_load rfl (G_skip rfl G_hit) rfl) ?_
  refine s_val (.ptr _ _) rfl rfl ?_
  refine s_val (.d _) rfl (v_load rfl (G_skip rfl (G_skip rfl G_hit)) rfl) ?_
  refine s_val (.d _) rfl rfl ?_
  refine s_val (.d _) rfl rfl ?_
  refine s_store _ _ _ _ _ rfl rfl rfl G_hit (Nat.le_of_ble_eq_true rfl) [(.d (i64 (w64 (p2.X - p1.X)))), (.d (i64 (w64 (p2.Y - p1.Y))))] rfl ?_
  refine s_nil ?_
  refine l_ret ?_
  obtain rfl := Option.some.inj h
  refine fin_ok (.inr rfl) (resD1 (res_cellG rfl G_hit (Nat.le_of_ble_eq_true rfl) rfl) rf_d) ?_
  exact (.refl _)

noncomputable def curve_vector_dot (p1 : CurveVector) (p2 : CurveVector) : Option Int :=
  some (w64 ((w64 (p1.x * p2.x)) + (w64 (p1.y * p2.y))))

/-- (kerbstone/curve.vector).dot -/
def ac_curve_vector_dot : AC :=
  (.seq (.reg [⟨(some 2), .box 78 true (.t 0), none⟩, ⟨(some 3), .box 78 true (.t 1), none⟩, ⟨(some 4), .mv (.c (.v (.int .i64 0))), none⟩])
  (.seq (.reg [⟨(some 5), .fieldA 0 (.t 2), none⟩, ⟨(some 6), .load 1 false (.t 5), none⟩, ⟨(some 7), .fieldA 0 (.t 3), none⟩, ⟨(some 8), .load 1 false (.t 7), none⟩, ⟨(some 9), .bin .mul (.t 6) (.t 8), none⟩, ⟨(some 10), .fieldA 1 (.t 2), none⟩, ⟨(some 11), .load 1 false (.t 10), none⟩, ⟨(some 12), .fieldA 1 (.t 3), none⟩, ⟨(some 13), .load 1 false (.t 12), none⟩, ⟨(some 14), .bin .mul (.t 11) (.t 13), none⟩, ⟨(some 15), .bin .add (.t 9) (.t 14), none⟩, ⟨(some 4), .mv (.t 15), none⟩])
  .ret))
theorem fn_curve_vector_dot : FnOK Try.prog 62 16 [.t 4] ac_curve_vector_dot := ⟨_, _, Try.func62, rfl, Try.ntmps62, by kernel_rfl, ⟨fun _ => [], by kernel_rfl⟩, by kernel_rfl⟩
theorem curve_vector_dot_ok (p1 : CurveVector) (p2 : CurveVector) (r : Int) (h : curve_vector_dot p1 p2 = some r) : PCall Try.prog 62 [(.agg [(i64 p1.x), (i64 p1.y)]), (.agg [(i64 p2.x), (i64 p2.y)])] (i64 r) := by
  refine l_call fn_curve_vector_dot (Nat.le_of_ble_eq_true rfl) ?_
  unfold curve_vector_dot at h
  unfold ac_curve_vector_dot
  refine (l_sub (s0 := ⟨T [(0, (.d (.agg [(i64 p1.x), (i64 p1.y)]))), (1, (.d (.agg [(i64 p2.x), (i64 p2.y)])))], G []⟩) (sb_of ⟨.of rfl, .of rfl, trivial⟩ trivial) ?_)
  refine l_seq ?_
  refine l_reg fun u1 hu1 => ?_
  refine s_new (.ptr _ _) (.box _ _) rfl rfl ?_
  refine s_new (.ptr _ _) (.box _ _) rfl rfl ?_
  refine s_val (.d _) rfl rfl ?_
  refine s_nil ?_
  refine l_seq ?_
  refine l_reg fun u2 hu2 => ?_
  refine s_val (.ptr _ _) rfl rfl ?_
  refine s_val (.d _) rfl (v_load rfl (G_skip rfl G_hit) rfl) ?_
  refine s_val (.ptr _ _) rfl rfl ?_
  refine s_val (.d _) rfl (v_load rfl G_hit rfl) ?_
  refine s_val (.d _) rfl rfl ?_
  refine s_val (.ptr _ _) rfl rfl ?_
  refine s_val (.d _) rfl (v_load rfl (G_skip rfl G_hit) rfl) ?_
  refine s_val (.ptr _ _) rfl rfl ?_
  refine s_val (.d _) rfl (v_load rfl G_hit rfl) ?_
  refine s_val (.d _) rfl rfl ?_
  refine s_val (.d _) rfl rfl ?_
  refine s_val (.d _) rfl rfl ?_
  refine s_nil ?_
  refine l_ret ?_
  obtain rfl := Option.some.inj h
  refine fin_ok (.inr rfl) (resD1 (res_t rfl) rf_d) ?_
  exact (.refl _)

noncomputable def curve_root_l1 (p1 : Int) (x1 : (Int × Int)) : Option (Stp (Int × Int) Int) :=
  cond (decide (x1.1 < x1.2)) (cond (decide ((w64 ((w64 ((w64 (x1.1 + x1.2)).tdiv 2)) * (w64 ((w64 (x1.1 + x1.2)).tdiv 2)))) < p1)) (some (.go ((w64 ((w64 ((w64 (x1.1 + x1.2)).tdiv 2)) + 1)), x1.2))) (some (.go (x1.1, (w64 ((w64 (x1.1 + x1.2)).tdiv 2)))))) (some (.out x1.1))
noncomputable def curve_root (p1 : Int) : Option (Int × Bool) :=
  (loop (curve_root_l1 p1) (0, 67108864)).bind fun y1 => some (y1, ((w64 (y1 * y1)) == p1))

/-- kerbstone/curve.root -/
def ac_curve_root : AC :=
  (.seq (.reg [⟨(some 2), .mv (.c (.v (.int .i64 0))), none⟩, ⟨(some 3), .mv (.c (.v (.bool false))), none⟩])
  (.seq (.reg [⟨(some 4), .mv (.c (.v (.int .i64 0))), none⟩, ⟨(some 5), .mv (.c (.v (.int .i64 67108864))), none⟩])
  (.seq (.block 0
    (.loop
      (.seq (.seq (.reg [⟨(some 7), .mv (.t 4), none⟩, ⟨(some 8), .mv (.t 5), none⟩, ⟨(some 9), .bin .lss (.t 7) (.t 8), none⟩])
      (.cond (.t 9)
        .skip
        (.exit 0)))
      (.block 1
        (.seq (.reg [⟨(some 10), .mv (.t 4), none⟩, ⟨(some 11), .mv (.t 5), none⟩, ⟨(some 12), .bin .add (.t 10) (.t 11), none⟩, ⟨(some 13), .bin .quo (.t 12) (.c (.v (.int .i64 2))), none⟩, ⟨(some 6), .mv (.t 13), none⟩])
        (.seq (.reg [⟨(some 14), .mv (.t 6), none⟩, ⟨(some 15), .mv (.t 6), none⟩, ⟨(some 16), .bin .mul (.t 14) (.t 15), none⟩, ⟨(some 17), .mv (.t 0), none⟩, ⟨(some 18), .bin .lss (.t 16) (.t 17), none⟩])
        (.cond (.t 18)
          (.reg [⟨(some 19), .mv (.t 6), none⟩, ⟨(some 20), .bin .add (.t 19) (.c (.v (.int .i64 1))), none⟩, ⟨(some 4), .mv (.t 20), none⟩])
          (.reg [⟨(some 21), .mv (.t 6), none⟩, ⟨(some 5), .mv (.t 21), none⟩]))))))))
  (.seq (.reg [⟨(some 22), .mv (.t 4), none⟩, ⟨(some 23), .mv (.t 4), none⟩, ⟨(some 24), .mv (.t 4), none⟩, ⟨(some 25), .bin .mul (.t 23) (.t 24), none⟩, ⟨(some 26), .mv (.t 0), none⟩, ⟨(some 27), .bin .eql (.t 25) (.t 26), none⟩, ⟨(some 2), .mv (.t 22), none⟩, ⟨(some 3), .mv (.t 27), none⟩])
  .ret))))
theorem fn_curve_root : FnOK Try.prog 61 28 [.t 2, .t 3] ac_curve_root := ⟨_, _, Try.func61, rfl, Try.ntmps61, by kernel_rfl, ⟨fun _ => [], by kernel_rfl⟩, by kernel_rfl⟩
set_option maxHeartbeats 4000000 in
theorem curve_root_ok (p1 : Int) (r : (Int × Bool)) (h : curve_root p1 = some r) : PCall Try.prog 61 [(i64 p1)] (.tup [(i64 r.1), (bo r.2)]) := by
  refine l_call fn_curve_root (Nat.le_of_ble_eq_true rfl) ?_
  unfold curve_root at h
  unfold ac_curve_root
  refine (l_sub (s0 := ⟨T [(0, (.d (i64 p1)))], G []⟩) (sb_of ⟨.of rfl, trivial⟩ trivial) ?_)
  refine l_seq ?_
  refine l_reg fun u1 hu1 => ?_
  refine s_val (.d _) rfl rfl ?_
  refine s_val (.d _) rfl rfl ?_
  refine s_nil ?_
  refine l_seq ?_
  refine l_reg fun u2 hu2 => ?_
  refine s_val (.d _) rfl rfl ?_
  refine s_val (.d _) rfl rfl ?_
  refine s_nil ?_
  refine l_seq ?_
  obtain ⟨y1, hy1, h⟩ := bind_some h
  refine l_join (fun s => ∃ g1 : Unit, Sb ⟨T [(0, (.d (i64 p1))), (4, (.d (i64 y1)))], G []⟩ s) ?_ ?_
  · skip
    refine l_block ?_
    refine l_loop (curve_root_l1 p1) (fun (x1 : (Int × Int)) (g2 : Unit) => ⟨T [(0, (.d (i64 p1))), (4, (.d (i64 x1.1))), (5, (.d (i64 x1.2)))], G []⟩) (0, 67108864) () _ hy1 (sb_of ⟨.of rfl, .of rfl, .of rfl, trivial⟩ trivial) ?_
    intro x1 g2 z1 hz1 ez1
    unfold curve_root_l1 at hz1
    refine l_seq ?_
    refine l_seq ?_
    refine l_reg fun u3 hu3 => ?_
    refine s_val (.d _) rfl rfl ?_
    refine s_val (.d _) rfl rfl ?_
    refine s_val (.d _) rfl rfl ?_
    refine s_nil ?_
    refine l_cond (decide (x1.1 < x1.2)) rfl (fun c1 => ?_) (fun c1 => ?_)
    · replace hz1 := cond_t c1 hz1
      refine l_skip ?_
      refine l_block ?_
      refine l_seq ?_
      refine l_reg fun u4 hu4 => ?_
      refine s_val (.d _) rfl rfl ?_
      refine s_val (.d _) rfl rfl ?_
      refine s_val (.d _) rfl rfl ?_
      refine s_val (.d _) rfl rfl ?_
      refine s_val (.d _) rfl rfl ?_
      refine s_nil ?_
      refine l_seq ?_
      refine l_reg fun u5 hu5 => ?_
      refine s_val (.d _) rfl rfl ?_
      refine s_val (.d _) rfl rfl ?_
      refine s_val (.d _) rfl rfl ?_
      refine s_val (.d _) rfl rfl ?_
      refine s_val (.d _) rfl rfl ?_
      refine s_nil ?_
      refine l_cond (decide ((w64 ((w64 ((w64 (x1.1 + x1.2)).tdiv 2)) * (w64 ((w64 (x1.1 + x1.2)).tdiv 2)))) < p1)) rfl (fun c2 => ?_) (fun c2 => ?_)
      · replace hz1 := cond_t c2 hz1
        refine l_reg fun u6 hu6 => ?_
        refine s_val (.d _) rfl rfl ?_
        refine s_val (.d _) rfl rfl ?_
        refine s_val (.d _) rfl rfl ?_
        refine s_nil ?_
        refine l_end ?_
        refine l_nil ?_
        obtain rfl := Option.some.inj hz1
        exact ⟨rfl, (), (sb_of ⟨.of rfl, .of rfl, .of rfl, trivial⟩ trivial)⟩
      · replace hz1 := cond_f c2 hz1
        refine l_reg fun u7 hu7 => ?_
        refine s_val (.d _) rfl rfl ?_
        refine s_val (.d _) rfl rfl ?_
        refine s_nil ?_
        refine l_end ?_
        refine l_nil ?_
        obtain rfl := Option.some.inj hz1
        exact ⟨rfl, (), (sb_of ⟨.of rfl, .of rfl, .of rfl, trivial⟩ trivial)⟩
    · replace hz1 := cond_f c1 hz1
      refine l_exitN rfl ?_
      obtain rfl := Option.some.inj hz1
      obtain rfl := ez1 _ rfl
      refine ⟨nofun, awl_pop rfl (l_j ?_)⟩
      exact ⟨(), (sb_of ⟨.of rfl, .of rfl, trivial⟩ trivial)⟩
  · rintro _ ⟨g1, q1⟩
    refine l_sub q1 ?_
    refine l_seq ?_
    refine l_reg fun u8 hu8 => ?_
    refine s_val (.d _) rfl rfl ?_
    refine s_val (.d _) rfl rfl ?_
    refine s_val (.d _) rfl rfl ?_
    refine s_val (.d _) rfl rfl ?_
    refine s_val (.d _) rfl rfl ?_
    refine s_val (.d _) rfl rfl ?_
    refine s_val (.d _) rfl rfl ?_
    refine s_val (.d _) rfl rfl ?_
    refine s_nil ?_
    refine l_ret ?_
    obtain rfl := Option.some.inj h
    refine fin_ok (.inr rfl) (resD2 (res_t rfl) (res_t rfl) rf_d rf_d) ?_
    exact .refl _

noncomputable def curve_Check_l1 (p1 : Curve) (x1 : (Int × CurveVector)) : Option (Stp (Int × CurveVector) (Sum Unit Int)) :=
  cond (decide (x1.1 < (w64 ((p1.Pts.length : Int) - 1)))) ((geti p1.Pts x1.1).bind fun v2 => (geti p1.Pts (w64 (x1.1 + 1))).bind fun v3 => (curve_from v2 v3).bind fun v4 => (curve_vector_dot v4 v4).bind fun v5 => (curve_root v5).bind fun v6 => cond (!v6.2) (some (.out (.inr 3))) (cond ((decide (v6.1 < 1000)) || (decide (v6.1 > 1048576))) (some (.out (.inr 2))) (((cond (decide (x1.1 > 0)) (curve_vector_dot x1.2 v4) (some default))).bind fun v7 => cond ((decide (x1.1 > 0)) && (decide (v7 ≤ 0))) (some (.out (.inr 12))) (some (.go ((w64 (x1.1 + 1)), v4)))))) (some (.out (.inl ())))
noncomputable def curve_Check (p1 : Curve) : Option Int :=
  cond (decide ((p1.Pts.length : Int) < 2)) (some 6) (cond (decide ((p1.Pts.length : Int) > 16)) (some 5) ((curve_fair p1.Pts).bind fun v1 => cond (!v1) (some 2) (thenS (loop (curve_Check_l1 p1) (0, (CurveVector.mk 0 0))) (fun _ => some 0) (fun r => some r))))

/-- kerbstone/curve.Check -/
def ac_curve_Check : AC :=
  (.seq (.reg [⟨(some 1), .box 24 true (.t 0), none⟩, ⟨(some 2), .mv (.c (.v (.int .i64 0))), none⟩])
  (.seq (.block 0
    (.seq (.reg [⟨(some 9), .fieldA 0 (.t 1), none⟩, ⟨(some 10), .load 1 false (.t 9), none⟩, ⟨(some 11), .len (.t 10), none⟩, ⟨(some 12), .bin .lss (.t 11) (.c (.v (.int .i64 2))), none⟩, ⟨(some 8), .mv (.t 12), none⟩])
    (.cond (.t 8)
      (.seq (.reg [⟨(some 2), .mv (.c (.v (.int .i64 6))), none⟩])
      .ret)
      (.seq (.reg [⟨(some 14), .fieldA 0 (.t 1), none⟩, ⟨(some 15), .load 1 false (.t 14), none⟩, ⟨(some 16), .len (.t 15), none⟩, ⟨(some 17), .bin .gtr (.t 16) (.c (.v (.int .i64 16))), none⟩, ⟨(some 13), .mv (.t 17), none⟩])
      (.cond (.t 13)
        (.seq (.reg [⟨(some 2), .mv (.c (.v (.int .i64 5))), none⟩])
        .ret)
        (.seq (.reg [⟨(some 19), .fieldA 0 (.t 1), none⟩, ⟨(some 20), .load 1 false (.t 19), none⟩, ⟨(some 21), .call (.c (.fn (.func 59) [] [])) [(.t 20)], none⟩, ⟨(some 22), .un .not (.t 21), none⟩, ⟨(some 18), .mv (.t 22), none⟩])
        (.cond (.t 18)
          (.seq (.reg [⟨(some 2), .mv (.c (.v (.int .i64 2))), none⟩])
          .ret)
          .skip)))))))
  (.seq (.reg [⟨(some 3), .alloc 78 [(.v (.int .i64 0)), (.v (.int .i64 0))], none⟩])
  (.seq (.seq (.reg [⟨(some 23), .fieldA 0 (.t 1), none⟩, ⟨(some 24), .load 1 false (.t 23), none⟩, ⟨(some 25), .len (.t 24), none⟩, ⟨(some 26), .bin .sub (.t 25) (.c (.v (.int .i64 1))), none⟩, ⟨(some 27), .mv (.c (.v (.int .i64 0))), none⟩])
  (.block 1
    (.loop
      (.seq (.reg [⟨(some 28), .bin .lss (.t 27) (.t 26), none⟩])
      (.seq (.cond (.t 28)
        .skip
        (.exit 1))
      (.seq (.block 2
        (.seq (.reg [⟨(some 29), .mv (.t 27), none⟩, ⟨(some 4), .mv (.t 29), none⟩])
        (.seq (.draw [⟨(some 30), .fieldA 0 (.t 1), none⟩, ⟨(some 31), .load 1 false (.t 30), none⟩, ⟨(some 32), .mv (.t 4), none⟩, ⟨(some 33), .idxS 2 (.t 31) (.t 32), none⟩, ⟨(some 34), .load 2 true (.t 33), none⟩, ⟨(some 35), .fieldA 0 (.t 1), none⟩, ⟨(some 36), .load 1 false (.t 35), none⟩, ⟨(some 37), .mv (.t 4), none⟩, ⟨(some 38), .bin .add (.t 37) (.c (.v (.int .i64 1))), none⟩, ⟨(some 39), .idxS 2 (.t 36) (.t 38), none⟩, ⟨(some 40), .load 2 true (.t 39), none⟩, ⟨(some 41), .call (.c (.fn (.func 60) [] [])) [(.t 34), (.t 40)], none⟩, ⟨(some 5), .alloc 78 [(.v (.int .i64 0)), (.v (.int .i64 0))], none⟩, ⟨none, .store 2 (.t 5) (.t 41), none⟩] [])
        (.seq (.reg [⟨(some 43), .load 2 true (.t 5), none⟩, ⟨(some 44), .load 2 true (.t 5), none⟩, ⟨(some 45), .call (.c (.fn (.func 62) [] [])) [(.t 43), (.t 44)], none⟩, ⟨(some 46), .call (.c (.fn (.func 61) [] [])) [(.t 45)], none⟩, ⟨(some 42), .mv (.t 46), none⟩, ⟨(some 47), .ext (.t 42) 0, none⟩, ⟨(some 48), .ext (.t 42) 1, none⟩, ⟨(some 6), .mv (.t 47), none⟩, ⟨(some 7), .mv (.t 48), none⟩])
        (.seq (.block 3
          (.seq (.reg [⟨(some 50), .mv (.t 7), none⟩, ⟨(some 51), .un .not (.t 50), none⟩, ⟨(some 49), .mv (.t 51), none⟩])
          (.cond (.t 49)
            (.seq (.reg [⟨(some 2), .mv (.c (.v (.int .i64 3))), none⟩])
            .ret)
            (.seq (.reg [⟨(some 53), .mv (.t 6), none⟩, ⟨(some 54), .bin .lss (.t 53) (.c (.v (.int .i64 1000))), none⟩, ⟨(some 55), .mv (.t 54), none⟩, ⟨(some 56), .mv (.t 6), (some (55, false))⟩, ⟨(some 57), .bin .gtr (.t 56) (.c (.v (.int .i64 1048576))), (some (55, false))⟩, ⟨(some 58), .pick (.t 55) (.c (.v (.bool true))) (.t 57), none⟩, ⟨(some 52), .mv (.t 58), none⟩])
            (.cond (.t 52)
              (.seq (.reg [⟨(some 2), .mv (.c (.v (.int .i64 2))), none⟩])
              .ret)
              (.seq (.reg [⟨(some 60), .mv (.t 4), none⟩, ⟨(some 61), .bin .gtr (.t 60) (.c (.v (.int .i64 0))), none⟩, ⟨(some 62), .mv (.t 61), none⟩, ⟨(some 63), .load 2 true (.t 3), (some (62, true))⟩, ⟨(some 64), .load 2 true (.t 5), (some (62, true))⟩, ⟨(some 65), .call (.c (.fn (.func 62) [] [])) [(.t 63), (.t 64)], (some (62, true))⟩, ⟨(some 66), .bin .leq (.t 65) (.c (.v (.int .i64 0))), (some (62, true))⟩, ⟨(some 67), .pick (.t 62) (.t 66) (.c (.v (.bool false))), none⟩, ⟨(some 59), .mv (.t 67), none⟩])
              (.cond (.t 59)
                (.seq (.reg [⟨(some 2), .mv (.c (.v (.int .i64 12))), none⟩])
                .ret)
                .skip)))))))
        (.reg [⟨(some 68), .load 2 true (.t 5), none⟩, ⟨none, .store 2 (.t 3) (.t 68), none⟩]))))))
      (.reg [⟨(some 69), .bin .add (.t 27) (.c (.v (.int .i64 1))), none⟩, ⟨(some 27), .mv (.t 69), none⟩])))))))
  (.seq (.reg [⟨(some 2), .mv (.c (.v (.int .i64 0))), none⟩])
  .ret)))))
theorem fn_curve_Check : FnOK Try.prog 20 70 [.t 2] ac_curve_Check := ⟨_, _, Try.func20, rfl, Try.ntmps20, by kernel_rfl, ⟨fun _ => [], by kernel_rfl⟩, by kernel_rfl⟩
set_option maxHeartbeats 4000000 in
theorem curve_Check_ok (p1 : Curve) (r : Int) (h : curve_Check p1 = some r) : PCall Try.prog 20 [(.agg [(.list (List.map eSpot p1.Pts))])] (i64 r) := by
  refine l_call fn_curve_Check (Nat.le_of_ble_eq_true rfl) ?_
  unfold curve_Check at h
  unfold ac_curve_Check
  refine (l_sub (s0 := ⟨T [(0, (.d (.agg [(.list (List.map eSpot p1.Pts))])))], G []⟩) (sb_of ⟨.of rfl, trivial⟩ trivial) ?_)
  refine l_seq ?_
  refine l_reg fun u1 hu1 => ?_
  refine s_new (.ptr _ _) (.box _ _) rfl rfl ?_
  refine s_val (.d _) rfl rfl ?_
  refine s_nil ?_
  refine l_seq ?_
  refine l_block ?_
  refine l_seq ?_
  refine l_reg fun u2 hu2 => ?_
  refine s_val (.ptr _ _) rfl rfl ?_
  refine s_val (.d _) rfl (v_load rfl G_hit rfl) ?_
  refine s_val (.d _) rfl (v_len rfl) ?_
  refine s_val (.d _) rfl rfl ?_
  refine s_val (.d _) rfl rfl ?_
  refine s_nil ?_
  refine l_cond (decide ((p1.Pts.length : Int) < 2)) rfl (fun c1 => ?_) (fun c1 => ?_)
  · replace h := cond_t c1 h
    refine l_seq ?_
    refine l_reg fun u3 hu3 => ?_
    refine s_val (.d _) rfl rfl ?_
    refine s_nil ?_
    refine l_ret ?_
    obtain rfl := Option.some.inj h
    refine fin_ok (.inr rfl) (resD1 (res_t rfl) rf_d) ?_
    exact (.refl _)
  · replace h := cond_f c1 h
    refine l_seq ?_
    refine l_reg fun u4 hu4 => ?_
    refine s_val (.ptr _ _) rfl rfl ?_
    refine s_val (.d _) rfl (v_load rfl G_hit rfl) ?_
    refine s_val (.d _) rfl (v_len rfl) ?_
    refine s_val (.d _) rfl rfl ?_
    refine s_val (.d _) rfl rfl ?_
    refine s_nil ?_
    refine l_cond (decide ((p1.Pts.length : Int) > 16)) rfl (fun c2 => ?_) (fun c2 => ?_)
    · replace h := cond_t c2 h
      refine l_seq ?_
      refine l_reg fun u5 hu5 => ?_
      refine s_val (.d _) rfl rfl ?_
      refine s_nil ?_
      refine l_ret ?_
      obtain rfl := Option.some.inj h
      refine fin_ok (.inr rfl) (resD1 (res_t rfl) rf_d) ?_
      exact (.refl _)
    · replace h := cond_f c2 h
      refine l_seq ?_
      refine l_reg fun u6 hu6 => ?_
      refine s_val (.ptr _ _) rfl rfl ?_
      refine s_val (.d _) rfl (v_load rfl G_hit rfl) ?_
      obtain ⟨v1, hv1, h⟩ := bind_some h
      refine s_call rfl rfl all2_refl (curve_fair_ok _  _ hv1) (.inl rfl) ?_
      refine s_val (.d _) rfl rfl ?_
      refine s_val (.d _) rfl rfl ?_
      refine s_nil ?_
      refine l_cond (!v1) rfl (fun c3 => ?_) (fun c3 => ?_)
      · replace h := cond_t c3 h
        refine l_seq ?_
        refine l_reg fun u7 hu7 => ?_
        refine s_val (.d _) rfl rfl ?_
        refine s_nil ?_
        refine l_ret ?_
        obtain rfl := Option.some.inj h
        refine fin_ok (.inr rfl) (resD1 (res_t rfl) rf_d) ?_
        exact (.refl _)
      · replace h := cond_f c3 h
        refine l_skip ?_
        refine l_end ?_
        refine l_seq ?_
        refine l_reg fun u8 hu8 => ?_
        refine s_new (.ptr _ _) (.box _ _) rfl rfl ?_
        refine s_nil ?_
        refine l_seq ?_
        refine l_seq ?_
        refine l_reg fun u9 hu9 => ?_
        refine s_val (.ptr _ _) rfl rfl ?_
        refine s_val (.d _) rfl (v_load rfl (G_skip rfl G_hit) rfl) ?_
        refine s_val (.d _) rfl (v_len rfl) ?_
        refine s_val (.d _) rfl rfl ?_
        refine s_val (.d _) rfl rfl ?_
        refine s_nil ?_
        obtain ⟨z1, hz1, h⟩ := thenS_some h
        refine l_join (fun s => ∃ (y1 : Unit) (g1 : Unit), z1 = .inl y1 ∧ Sb ⟨T [], G []⟩ s) ?_ ?_
        · skip
          refine l_block ?_
          refine l_loop (curve_Check_l1 p1) (fun (x1 : (Int × CurveVector)) (g2 : Unit) => ⟨T [(1, (.ptr (1, u1) 0)), (3, (.ptr (3, u8) 0)), (26, (.d (i64 (w64 ((p1.Pts.length : Int) - 1))))), (27, (.d (i64 x1.1)))], G [((1, u1), some (.box 24 [(.d (.list (List.map eSpot p1.Pts)))])), ((3, u8), some (.box 78 [(.d (i64 x1.2.x)), (.d (i64 x1.2.y))]))]⟩) (0, (CurveVector.mk 0 0)) () _ hz1 (sb_of ⟨.of rfl, .of rfl, .of rfl, .of rfl, trivial⟩ (sbG_some (G_skip rfl G_hit) (.of rfl) (sbG_some G_hit (.of rfl) trivial))) ?_
          intro x1 g2 z2 hz2 ez2
          unfold curve_Check_l1 at hz2
          refine l_seq ?_
          refine l_reg fun u10 hu10 => ?_
          refine s_val (.d _) rfl rfl ?_
          refine s_nil ?_
          refine l_seq ?_
          refine l_cond (decide (x1.1 < (w64 ((p1.Pts.length : Int) - 1)))) rfl (fun c4 => ?_) (fun c4 => ?_)
          · replace hz2 := cond_t c4 hz2
            refine l_skip ?_
            refine l_seq ?_
            refine l_block ?_
            refine l_seq ?_
            refine l_reg fun u11 hu11 => ?_
            refine s_val (.d _) rfl rfl ?_
            refine s_val (.d _) rfl rfl ?_
            refine s_nil ?_
            refine l_seq ?_
            refine l_draw rfl fun u12 hu12 => ?_
            refine s_val (.ptr _ _) rfl rfl ?_
            refine s_val (.d _) rfl (v_load rfl G_hit rfl) ?_
            refine s_val (.d _) rfl rfl ?_
            obtain ⟨v2, hv2, hz2⟩ := bind_some hz2
            refine s_val (.d _) rfl (v_idx rfl rfl hv2 rfl) ?_
            refine s_val (.d _) rfl (v_loadLG rfl hv2 rfl rfl) ?_
            refine s_val (.ptr _ _) rfl rfl ?_
            refine s_val (.d _) rfl (v_load rfl G_hit rfl) ?_
            refine s_val (.d _) rfl rfl ?_
            refine s_val (.d _) rfl rfl ?_
            obtain ⟨v3, hv3, hz2⟩ := bind_some hz2
            refine s_val (.d _) rfl (v_idx rfl rfl hv3 rfl) ?_
            refine s_val (.d _) rfl (v_loadLG rfl hv3 rfl rfl) ?_
            obtain ⟨v4, hv4, hz2⟩ := bind_some hz2
            refine s_call rfl rfl all2_refl (curve_from_ok _ _  _ hv4) (.inl rfl) ?_
            refine s_new (.ptr _ _) (.box _ _) rfl rfl ?_
            refine s_store _ _ _ _ _ rfl rfl rfl G_hit (Nat.le_of_ble_eq_true rfl) [(.d (i64 v4.x)), (.d (i64 v4.y))] rfl ?_
            refine s_nil ?_
            refine l_seq ?_
            refine l_sub (s0 := ⟨T [(1, (.ptr (1, u1) 0)), (3, (.ptr (3, u8) 0)), (4, (.d (i64 x1.1))), (5, (.ptr (5, u12) 0)), (26, (.d (i64 (w64 ((p1.Pts.length : Int) - 1))))), (27, (.d (i64 x1.1)))], G [((1, u1), some (.box 24 [(.d (.list (List.map eSpot p1.Pts)))])), ((3, u8), some (.box 78 [(.d (i64 x1.2.x)), (.d (i64 x1.2.y))])), ((5, u12), some (.box 78 [(.d (i64 v4.x)), (.d (i64 v4.y))]))]⟩) (sb_of ⟨.of rfl, .of rfl, .of rfl, .of rfl, .of rfl, .of rfl, trivial⟩ (sbG_some (G_skip rfl (G_skip rfl G_hit)) (.of rfl) (sbG_some (G_skip rfl (G_skip rfl (G_skip rfl G_hit))) (.of rfl) (sbG_some G_hit (.of rfl) trivial)))) ?_
            refine l_reg fun u13 hu13 => ?_
            refine s_val (.d _) rfl (v_loadG rfl (G_skip rfl (G_skip rfl G_hit)) rfl rfl) ?_
            refine s_val (.d _) rfl (v_loadG rfl (G_skip rfl (G_skip rfl G_hit)) rfl rfl) ?_
            obtain ⟨v5, hv5, hz2⟩ := bind_some hz2
            refine s_call rfl rfl all2_refl (curve_vector_dot_ok _ _  _ hv5) (.inl rfl) ?_
            obtain ⟨v6, hv6, hz2⟩ := bind_some hz2
            refine s_call rfl rfl all2_refl (curve_root_ok _  _ hv6) (.inl rfl) ?_
            refine s_val (.d _) rfl rfl ?_
            refine s_val (.d _) rfl rfl ?_
            refine s_val (.d _) rfl rfl ?_
            refine s_val (.d _) rfl rfl ?_
            refine s_val (.d _) rfl rfl ?_
            refine s_nil ?_
            refine l_seq ?_
            refine l_block ?_
            refine l_seq ?_
            refine l_reg fun u14 hu14 => ?_
            refine s_val (.d _) rfl rfl ?_
            refine s_val (.d _) rfl rfl ?_
            refine s_val (.d _) rfl rfl ?_
            refine s_nil ?_
            refine l_cond (!v6.2) rfl (fun c5 => ?_) (fun c5 => ?_)
            · replace hz2 := cond_t c5 hz2
              refine l_seq ?_
              refine l_reg fun u15 hu15 => ?_
              refine s_val (.d _) rfl rfl ?_
              refine s_nil ?_
              refine l_ret ?_
              obtain rfl := Option.some.inj hz2
              obtain rfl := ez2 _ rfl
              refine ⟨nofun, awl_ret ?_⟩
              rw [Sum.elim_inr] at h
              obtain rfl := Option.some.inj h
              refine fin_ok (.inr rfl) (resD1 (res_t rfl) rf_d) ?_
              exact (.refl _)
            · replace hz2 := cond_f c5 hz2
              refine l_seq ?_
              refine l_reg fun u16 hu16 => ?_
              refine s_val (.d _) rfl rfl ?_
              refine s_val (.d _) rfl rfl ?_
              refine s_val (.d _) rfl rfl ?_
              refine g_val (!(decide (v6.1 < 1000))) (.d _) rfl (gw_f rfl) (fun w1 => rfl) ?_
              refine g_val (!(decide (v6.1 < 1000))) (.d _) rfl (gw_f rfl) (fun w2 => (v_bin (gd_pos w2) rfl rfl)) ?_
              refine s_val (.d _) rfl (v_or rfl rfl (fun hc => gd_pos (not_t hc))) ?_
              refine s_val (.d _) rfl rfl ?_
              refine s_nil ?_
              refine l_cond ((decide (v6.1 < 1000)) || (decide (v6.1 > 1048576))) rfl (fun c6 => ?_) (fun c6 => ?_)
              · replace hz2 := cond_t c6 hz2
                refine l_seq ?_
                refine l_sub (s0 := ⟨T [], G []⟩) (sb_of trivial trivial) ?_
                refine l_reg fun u17 hu17 => ?_
                refine s_val (.d _) rfl rfl ?_
                refine s_nil ?_
                refine l_ret ?_
                obtain rfl := Option.some.inj hz2
                obtain rfl := ez2 _ rfl
                refine ⟨nofun, awl_ret ?_⟩
                rw [Sum.elim_inr] at h
                obtain rfl := Option.some.inj h
                refine fin_ok (.inr rfl) (resD1 (res_t rfl) rf_d) ?_
                exact (.refl _)
              · replace hz2 := cond_f c6 hz2
                refine l_seq ?_
                refine l_sub (s0 := ⟨T [(1, (.ptr (1, u1) 0)), (3, (.ptr (3, u8) 0)), (4, (.d (i64 x1.1))), (5, (.ptr (5, u12) 0)), (26, (.d (i64 (w64 ((p1.Pts.length : Int) - 1))))), (27, (.d (i64 x1.1))), (56, (gd (!(decide (v6.1 < 1000))) true (.d (i64 v6.1)))), (57, (gd (!(decide (v6.1 < 1000))) true (.d (bo (decide (v6.1 > 1048576))))))], G [((1, u1), some (.box 24 [(.d (.list (List.map eSpot p1.Pts)))])), ((3, u8), some (.box 78 [(.d (i64 x1.2.x)), (.d (i64 x1.2.y))])), ((5, u12), some (.box 78 [(.d (i64 v4.x)), (.d (i64 v4.y))]))]⟩) (sb_of ⟨.of rfl, .of rfl, .of rfl, .of rfl, .of rfl, .of rfl, .of rfl, .of rfl, trivial⟩ (sbG_some G_hit (.of rfl) (sbG_some (G_skip rfl G_hit) (.of rfl) (sbG_some (G_skip rfl (G_skip rfl G_hit)) (.of rfl) trivial)))) ?_
                refine l_reg fun u18 hu18 => ?_
                refine s_val (.d _) rfl rfl ?_
                refine s_val (.d _) rfl rfl ?_
                refine s_val (.d _) rfl rfl ?_
                refine g_val (decide (x1.1 > 0)) (.d _) rfl (gw_t rfl) (fun w3 => (v_loadG rfl (G_skip rfl G_hit) rfl rfl)) ?_
                refine g_val (decide (x1.1 > 0)) (.d _) rfl (gw_t rfl) (fun w4 => (v_loadG rfl (G_skip rfl (G_skip rfl G_hit)) rfl rfl)) ?_
                obtain ⟨v7, hv7, hz2⟩ := bind_some hz2
                refine g_call (decide (x1.1 > 0)) (i64 v7) (gw_t rfl) (fun w5 => ⟨_, [(.d (.agg [(i64 x1.2.x), (i64 x1.2.y)])), (.d (.agg [(i64 v4.x), (i64 v4.y)]))], _, _, (by simp only [gd_pos w5]; rfl), rfl, all2_refl, curve_vector_dot_ok _ _  _ (cond_t w5 hv7), (.inl rfl)⟩) ?_
                refine g_val (decide (x1.1 > 0)) (.d _) rfl (gw_t rfl) (fun w6 => (v_bin (gd_pos w6) rfl rfl)) ?_
                refine s_val (.d _) rfl (v_and rfl (fun hc => gd_pos hc) rfl) ?_
                refine s_val (.d _) rfl rfl ?_
                refine s_nil ?_
                refine l_cond ((decide (x1.1 > 0)) && (decide (v7 ≤ 0))) rfl (fun c7 => ?_) (fun c7 => ?_)
                · replace hz2 := cond_t c7 hz2
                  refine l_seq ?_
                  refine l_reg fun u19 hu19 => ?_
                  refine s_val (.d _) rfl rfl ?_
                  refine s_nil ?_
                  refine l_ret ?_
                  obtain rfl := Option.some.inj hz2
                  obtain rfl := ez2 _ rfl
                  refine ⟨nofun, awl_ret ?_⟩
                  rw [Sum.elim_inr] at h
                  obtain rfl := Option.some.inj h
                  refine fin_ok (.inr rfl) (resD1 (res_t rfl) rf_d) ?_
                  exact (.refl _)
                · replace hz2 := cond_f c7 hz2
                  refine l_skip ?_
                  refine l_end ?_
                  refine l_reg fun u20 hu20 => ?_
                  refine s_val (.d _) rfl (v_loadG rfl (G_skip rfl (G_skip rfl G_hit)) rfl rfl) ?_
                  refine s_store _ _ _ _ _ rfl rfl rfl (G_skip rfl G_hit) (Nat.le_of_ble_eq_true rfl) [(.d (i64 v4.x)), (.d (i64 v4.y))] rfl ?_
                  refine s_nil ?_
                  refine l_end ?_
                  refine l_reg fun u21 hu21 => ?_
                  refine s_val (.d _) rfl rfl ?_
                  refine s_val (.d _) rfl rfl ?_
                  refine s_nil ?_
                  refine l_nil ?_
                  obtain rfl := Option.some.inj hz2
                  exact ⟨rfl, (), (sb_of ⟨.of rfl, .of rfl, .of rfl, .of rfl, trivial⟩ (sbG_some (G_skip rfl G_hit) (.of rfl) (sbG_some G_hit (.of rfl) trivial)))⟩
          · replace hz2 := cond_f c4 hz2
            refine l_exitN rfl ?_
            obtain rfl := Option.some.inj hz2
            obtain rfl := ez2 _ rfl
            refine ⟨nofun, awl_pop rfl (l_j ?_)⟩
            exact ⟨_, (), rfl, (sb_of trivial trivial)⟩
        · rintro _ ⟨y1, g1, rfl, q1⟩
          rw [Sum.elim_inl] at h
          refine l_sub q1 ?_
          refine l_seq ?_
          refine l_reg fun u22 hu22 => ?_
          refine s_val (.d _) rfl rfl ?_
          refine s_nil ?_
          refine l_ret ?_
          obtain rfl := Option.some.inj h
          refine fin_ok (.inr rfl) (resD1 (res_t rfl) rf_d) ?_
          exact (.refl _)


/-- kerbstone/curve.pieces$1 -/
def ac_curve_pieces_1 : AC :=
  (.seq (.reg [⟨(some 3), .mv (.c (.v (.int .i64 0))), none⟩])
  (.seq (.reg [⟨(some 8), .fieldA 0 (.t 1), none⟩, ⟨(some 9), .load 1 false (.t 8), none⟩, ⟨(some 10), .len (.t 9), none⟩, ⟨(some 11), .bin .sub (.t 10) (.c (.v (.int .i64 1))), none⟩, ⟨(some 12), .mv (.c (.v (.int .i64 0))), none⟩])
  (.block 0
    (.loop
      (.seq (.reg [⟨(some 13), .bin .lss (.t 12) (.t 11), none⟩])
      (.seq (.cond (.t 13)
        .skip
        (.exit 0))
      (.seq (.block 1
        (.seq (.reg [⟨(some 14), .mv (.t 12), none⟩, ⟨(some 4), .mv (.t 14), none⟩])
        (.seq (.draw [⟨(some 15), .fieldA 0 (.t 1), none⟩, ⟨(some 16), .load 1 false (.t 15), none⟩, ⟨(some 17), .mv (.t 4), none⟩, ⟨(some 18), .idxS 2 (.t 16) (.t 17), none⟩, ⟨(some 19), .load 2 true (.t 18), none⟩, ⟨(some 20), .fieldA 0 (.t 1), none⟩, ⟨(some 21), .load 1 false (.t 20), none⟩, ⟨(some 22), .mv (.t 4), none⟩, ⟨(some 23), .bin .add (.t 22) (.c (.v (.int .i64 1))), none⟩, ⟨(some 24), .idxS 2 (.t 21) (.t 23), none⟩, ⟨(some 25), .load 2 true (.t 24), none⟩, ⟨(some 26), .call (.c (.fn (.func 60) [] [])) [(.t 19), (.t 25)], none⟩, ⟨(some 5), .alloc 78 [(.v (.int .i64 0)), (.v (.int .i64 0))], none⟩, ⟨none, .store 2 (.t 5) (.t 26), none⟩] [])
        (.seq (.reg [⟨(some 28), .load 2 true (.t 5), none⟩, ⟨(some 29), .load 2 true (.t 5), none⟩, ⟨(some 30), .call (.c (.fn (.func 62) [] [])) [(.t 28), (.t 29)], none⟩, ⟨(some 31), .call (.c (.fn (.func 61) [] [])) [(.t 30)], none⟩, ⟨(some 27), .mv (.t 31), none⟩, ⟨(some 32), .ext (.t 27) 0, none⟩, ⟨(some 33), .ext (.t 27) 1, none⟩, ⟨(some 6), .mv (.t 32), none⟩, ⟨(some 7), .mv (.t 33), none⟩])
        (.seq (.seq (.drawB [⟨(some 34), .mv (.t 0), none⟩, ⟨(some 35), .mv (.t 4), none⟩, ⟨(some 36), .fieldA 0 (.t 1), none⟩, ⟨(some 37), .load 1 false (.t 36), none⟩, ⟨(some 38), .mv (.t 4), none⟩, ⟨(some 39), .idxS 2 (.t 37) (.t 38), none⟩, ⟨(some 40), .load 2 true (.t 39), none⟩, ⟨(some 41), .load 2 true (.t 5), none⟩, ⟨(some 42), .mv (.t 6), none⟩, ⟨(some 43), .mv (.t 3), none⟩, ⟨(some 44), .build [(.v (.int .i64 0)), (.v (.int .i64 0)), (.v (.int .i64 0)), (.v (.int .i64 0)), (.v (.int .i64 0)), (.v (.int .i64 0))] [(0, 2, (.t 40)), (2, 2, (.t 41)), (4, 1, (.t 42)), (5, 1, (.t 43))], none⟩, ⟨(some 45), .icall (.t 34) [(.t 35), (.t 44)], none⟩, ⟨(some 46), .un .not (.t 45), none⟩] 11 [])
        (.cond (.t 46)
          .ret
          .skip))
        (.reg [⟨(some 47), .mv (.t 3), none⟩, ⟨(some 48), .mv (.t 6), none⟩, ⟨(some 49), .bin .add (.t 47) (.t 48), none⟩, ⟨(some 3), .mv (.t 49), none⟩]))))))
      (.reg [⟨(some 50), .bin .add (.t 12) (.c (.v (.int .i64 1))), none⟩, ⟨(some 12), .mv (.t 50), none⟩]))))))))
theorem fn_curve_pieces_1 : FnOK Try.prog 86 51 [] ac_curve_pieces_1 := ⟨_, _, Try.func86, rfl, Try.ntmps86, by kernel_rfl, ⟨fun r => if r == 6 then [11] else [], by kernel_rfl⟩, by kernel_rfl⟩

/-- The pieces of a chain of points, from a number on. -/
noncomputable def piecesGo (pts : List Spot) : Nat → Nat → Int → Option (List (Int × CurvePiece))
  | 0, _, _ => some []
  | n + 1, i, start => (pts[i]?).bind fun p => (pts[i + 1]?).bind fun q => (curve_from p q).bind fun v => (curve_vector_dot v v).bind fun d => (curve_root d).bind fun r =>
    (piecesGo pts n (i + 1) (w64 (start + r.1))).bind fun l => some (((i : Int), CurvePiece.mk p v r.1 start) :: l)
noncomputable def piecesC (pts : List Spot) : Option (List (Int × CurvePiece)) := if pts.length ≤ 1000000 then piecesGo pts (pts.length - 1) 0 0 else none

/-- kerbstone/curve.pieces -/
def ac_curve_pieces : AC :=
  (.seq (.reg [⟨(some 1), .box 24 true (.t 0), none⟩, ⟨(some 2), .mv (.c (.v .nilFunc)), none⟩])
  (.seq (.reg [⟨(some 3), .mkfn (.func 86) [] [(.t 1)], none⟩, ⟨(some 2), .mv (.t 3), none⟩])
  .ret))
theorem fn_curve_pieces : FnOK Try.prog 66 4 [.t 2] ac_curve_pieces := ⟨_, _, Try.func66, rfl, Try.ntmps66, by kernel_rfl, ⟨fun _ => [], by kernel_rfl⟩, by kernel_rfl⟩
abbrev ePiece (a : Int × CurvePiece) : List D := [i64 a.1, .agg [i64 a.2.p.X, i64 a.2.p.Y, i64 a.2.v.x, i64 a.2.v.y, i64 a.2.l, i64 a.2.start]]
theorem pieces_clos (c : Curve) : PCall Try.prog 66 [.agg [.list (List.map eSpot c.Pts)]] (.fn (.func 86) [] [.bp [.list (List.map eSpot c.Pts)] 0]) := by
  refine pcall_of fn_curve_pieces (by simp) ?_
  unfold ac_curve_pieces
  refine aw_seq (aw_reg fun u hu => ?_)
  refine rw_new (.ptr _ _) _ rfl rfl ?_
  refine rw_val (.d _) rfl rfl ?_
  refine rw_nil ?_
  refine aw_seq (aw_reg fun u' hu' => ?_)
  refine rw_val (.fn _ _ _) rfl rfl ?_
  refine rw_val (.fn _ _ _) rfl rfl ?_
  refine rw_nil ?_
  refine aw_ret ⟨.inr rfl, ?_⟩
  refine resD1 (res_t (v := .fn _ _ _) rfl) ?_
  exact rf_fn rfL_nil (rfL_cons (rf_ptr (by simp only [upd, if_true]; rfl) (rfL_cons rf_d rfL_nil)) rfL_nil)
theorem spot_get (ps : List Spot) (n : Int) (i : Nat) (p : Spot) (hn : n = i) (h : ps[i]? = some p) : (List.map eSpot ps)[n.toNat]? = some (eSpot p) := by
  subst hn
  rw [Int.toNat_natCast, List.getElem?_map, h]; rfl
theorem i64_id {n : Int} (h : -9223372036854775808 ≤ n ∧ n ≤ 9223372036854775807) : w64 n = n := Go.IntWalk.i64_in n h
theorem piecesGo_length (pts : List Spot) : ∀ n i s L, piecesGo pts n i s = some L → L.length = n := by
  intro n
  induction n with
  | zero => intro i s L h; cases h; rfl
  | succ n ih =>
    intro i s L h
    rw [piecesGo] at h
    obtain ⟨p, hp, h⟩ := bind_some h
    obtain ⟨q, hq, h⟩ := bind_some h
    obtain ⟨v, hv, h⟩ := bind_some h
    obtain ⟨d, hd, h⟩ := bind_some h
    obtain ⟨r, hr, h⟩ := bind_some h
    obtain ⟨l, hl, h⟩ := bind_some h
    cases h
    rw [List.length_cons, ih _ _ _ hl]
theorem pieces_iter {pts : List Spot} {L : List (Int × CurvePiece)} (h : piecesC pts = some L) : IterOK Try.prog (.fn (.func 86) [] [.bp [.list (List.map eSpot pts)] 0]) (L.map ePiece) := by
  unfold piecesC at h
  split at h
  case isFalse => cases h
  rename_i hlen
  refine ⟨86, [], _, rfl, ?_⟩
  intro k h0 Inv Stop hi0 hy
  refine icall_of fn_curve_pieces_1 (by simp) ?_
  unfold ac_curve_pieces_1
  refine aw_seq (aw_reg fun u hu => ?_)
  refine rw_val (.d _) rfl rfl ?_
  refine rw_nil ?_
  refine aw_seq (aw_reg fun u hu => ?_)
  refine rw_val (.d _) rfl rfl ?_
  refine rw_val (.d _) rfl rfl ?_
  refine rw_val (.d (i64 pts.length)) rfl (v_len (f := eSpot) rfl) ?_
  refine rw_val (.d _) rfl rfl ?_
  refine rw_val (.d _) rfl rfl ?_
  refine rw_nil ?_
  refine aw_block ?_
  refine aw_loopS (α := Nat × Int × Heap) (fun x => ⟨T [(0, .yld k), (1, .d (.bp [.list (List.map eSpot pts)] 0)), (3, .d (i64 x.2.1)), (11, .d (i64 (w64 (pts.length - 1)))), (12, .d (i64 x.1))], x.2.2⟩) (fun x => pts.length - x.1)
    (fun x => Inv x.1 x.2.2 ∧ x.1 ≤ pts.length - 1 ∧ piecesGo pts (pts.length - 1 - x.1) x.1 x.2.1 = some (L.drop x.1)) (0, 0, h0) ⟨hi0, by omega, h⟩ (sub_eq ⟨rfl, rfl, rfl, rfl, rfl, trivial⟩ fun _ _ h => h) ?_
  rintro ⟨i, start, hh⟩ ⟨hinv, hi, hgo⟩
  dsimp only at hinv hi hgo ⊢
  refine aw_seq (aw_reg fun u hu => ?_)
  refine rw_val (.d _) rfl rfl ?_
  refine rw_nil ?_
  refine aw_seq ?_
  refine aw_condD rfl (fun hlt => ?_) (fun hlt => ?_)
  · refine aw_skip ?_
    have hlen1 : w64 ((pts.length : Int) - 1) = pts.length - 1 := i64_id (by omega)
    rw [hlen1] at hlt
    have hi1 : i + 1 < pts.length := by omega
    have hw1 : IntKind.i64.wrap ((i : Int) + 1) = (i : Int) + 1 := i64_id (by omega)
    obtain ⟨m, hm⟩ : ∃ m, pts.length - 1 - i = m + 1 := ⟨pts.length - 1 - i - 1, by omega⟩
    rw [hm, piecesGo] at hgo
    obtain ⟨p, hp, hgo⟩ := bind_some hgo
    obtain ⟨q, hq, hgo⟩ := bind_some hgo
    obtain ⟨v, hv, hgo⟩ := bind_some hgo
    obtain ⟨d, hd, hgo⟩ := bind_some hgo
    obtain ⟨r, hr, hgo⟩ := bind_some hgo
    obtain ⟨l, hl, hgo⟩ := bind_some hgo
    have hgo : ((i : Int), CurvePiece.mk p v r.1 start) :: l = L.drop i := Option.some.inj hgo
    have hLi : L[i]? = some ((i : Int), CurvePiece.mk p v r.1 start) := by
      have := congrArg (fun z => z[0]?) hgo
      simpa using this.symm
    have hLd : L.drop (i + 1) = l := by
      have := congrArg (fun z => z.drop 1) hgo
      simpa using this.symm
    have hin : ∀ (p : Spot) (n : Int) (j : Nat), n = j → pts[j]? = some p → (List.map eSpot pts)[n.toNat]? = some (eSpot p) := fun p n j => spot_get pts n j p
    refine aw_seq ?_
    refine aw_block ?_
    refine aw_seq (aw_reg fun u hu => ?_)
    refine rw_val (.d _) rfl rfl ?_
    refine rw_val (.d _) rfl rfl ?_
    refine rw_nil ?_
    refine aw_seq (aw_draw rfl fun u hu => ?_)
    refine rw_val (.d _) rfl rfl ?_
    refine rw_val (.d _) rfl rfl ?_
    refine rw_val (.d _) rfl rfl ?_
    refine rw_idx _ _ _ _ rfl rfl (Int.natCast_nonneg i) (hin p _ i rfl hp) rfl ?_
    refine rw_loadLG _ _ _ _ _ rfl (hin p _ i rfl hp) (by simp) rfl ?_
    refine rw_val (.d _) rfl rfl ?_
    refine rw_val (.d _) rfl rfl ?_
    refine rw_val (.d _) rfl rfl ?_
    refine rw_val (.d _) rfl rfl ?_
    refine rw_idx _ _ _ _ rfl rfl (by rw [hw1]; omega) (hin q _ (i + 1) (by rw [hw1]; rfl) hq) rfl ?_
    refine rw_loadLG _ _ _ _ _ rfl (hin q _ (i + 1) (by rw [hw1]; rfl) hq) (by simp) rfl ?_
    refine rw_call rfl rfl (curve_from_ok p q _ hv) (.inl rfl) ?_
    refine rw_new (.ptr _ _) _ rfl rfl ?_
    refine rw_store _ _ _ _ _ rfl rfl rfl (by simp only [upd, if_true]; rfl) (by simp) ?_
    refine rw_nil ?_
    refine aw_seq (aw_reg fun u' hu' => ?_)
    refine rw_loadG _ _ _ _ (.d (.agg [i64 v.x, i64 v.y])) rfl (by simp only [upd, if_true]; rfl) (by simp [setL]) rfl ?_
    refine rw_loadG _ _ _ _ (.d (.agg [i64 v.x, i64 v.y])) rfl (by simp only [upd, if_true]; rfl) (by simp [setL]) rfl ?_
    refine rw_call rfl rfl (curve_vector_dot_ok v v _ hd) (.inl rfl) ?_
    refine rw_call rfl rfl (curve_root_ok d _ hr) (.inl rfl) ?_
    refine rw_val (.d _) rfl rfl ?_
    refine rw_val (.d _) rfl rfl ?_
    refine rw_val (.d _) rfl rfl ?_
    refine rw_val (.d _) rfl rfl ?_
    refine rw_val (.d _) rfl rfl ?_
    refine rw_nil ?_
    refine aw_seq (aw_seq ?_)
    refine aw_drawB rfl fun u2 hu2 => ?_
    simp only [List.take, List.drop]
    refine rw_val (.yld _) rfl rfl ?_
    refine rw_val (.d _) rfl rfl ?_
    refine rw_val (.d _) rfl rfl ?_
    refine rw_val (.d _) rfl rfl ?_
    refine rw_val (.d _) rfl rfl ?_
    refine rw_idx _ _ _ _ rfl rfl (Int.natCast_nonneg i) (hin p _ i rfl hp) rfl ?_
    refine rw_loadLG _ _ _ _ _ rfl (hin p _ i rfl hp) (by simp) rfl ?_
    refine rw_loadG _ _ _ _ (.d (.agg [i64 v.x, i64 v.y])) rfl (by simp only [upd, if_true]; rfl) (by simp [setL]) rfl ?_
    refine rw_val (.d _) rfl rfl ?_
    refine rw_val (.d _) rfl rfl ?_
    refine rw_val (.d _) rfl rfl ?_
    refine rw_nil ?_
    intro u3 hu3
    refine rw_yield k ((ePiece ((i : Int), CurvePiece.mk p v r.1 start)).map .d) rfl rfl ?_
    refine YCall.weak (sub_new hu (sub_new hu fun _ _ h => h)) ((hy i hh _ (by rw [List.getElem?_map, hLi]; rfl) hinv).mono ?_)
    rintro v' h' (⟨rfl, hin⟩ | ⟨rfl, hst⟩)
    · intro u4 hu4
      refine rw_val (.d _) rfl rfl ?_
      refine rw_nil ?_
      refine aw_condE (t := false) rfl (fun h => by cases h) (fun _ => ?_)
      refine aw_skip ?_
      refine aw_reg fun u hu => ?_
      refine rw_val (.d _) rfl rfl ?_
      refine rw_val (.d _) rfl rfl ?_
      refine rw_val (.d _) rfl rfl ?_
      refine rw_val (.d _) rfl rfl ?_
      refine rw_nil ?_
      refine aw_reg fun u hu => ?_
      refine rw_val (.d _) rfl rfl ?_
      refine rw_val (.d _) rfl rfl ?_
      refine rw_nil ?_
      refine ⟨(i + 1, w64 (start + r.1), h'), ⟨hin, by dsimp only; omega, ?_⟩, by dsimp only; omega, sub_eq ⟨rfl, rfl, rfl, rfl, ?_, trivial⟩ fun _ _ h => h⟩
      · dsimp only
        rw [hLd, show pts.length - 1 - (i + 1) = m by omega]; exact hl
      · show AV.d (i64 (IntKind.i64.wrap ((i : Int) + 1))) = _
        rw [hw1]; rfl
    · intro u4 hu4
      refine rw_val (.d _) rfl rfl ?_
      refine rw_nil ?_
      refine aw_condE (t := true) rfl (fun _ => ?_) (fun h => by cases h)
      refine aw_ret ?_
      dsimp only
      exact ⟨Or.inr trivial, AV.tup [], rfl, Or.inr hst⟩
  · refine aw_exit ?_
    have hlen1 : 1 ≤ pts.length → w64 ((pts.length : Int) - 1) = pts.length - 1 := fun _ => i64_id (by omega)
    have : i = pts.length - 1 := by
      by_cases h : 1 ≤ pts.length
      · rw [hlen1 h] at hlt; omega
      · omega
    subst this
    rw [Nat.sub_self, piecesGo] at hgo
    have hL : (L.map ePiece).length = pts.length - 1 := by
      have h1 : L.drop (pts.length - 1) = [] := (Option.some.inj hgo).symm
      have h2 := List.drop_eq_nil_iff.1 h1
      rw [List.length_map]
      refine Nat.le_antisymm h2 ?_
      exact Nat.le_of_eq (piecesGo_length _ _ _ _ _ h).symm
    exact ⟨.inl rfl, _, rfl, .inl (by rw [hL]; exact hinv)⟩

noncomputable def curve_Pieces_l1 (x1 : (List Int)) (a1 : (Int × CurvePiece)) : Option (Stp (List Int) (List Int)) :=
  (appc x1 [a1.2.l]).bind fun v3 => some (.go v3)
noncomputable def curve_Pieces (p1 : Curve) : Option (List Int) :=
  (curve_Check p1).bind fun v1 => cond (v1 != 0) (some []) (((piecesC p1.Pts).bind fun v2 => loopL (curve_Pieces_l1) (fun (x1 : (List Int)) => x1) v2 []).bind fun y1 => some y1)

/-- kerbstone/curve.Pieces -/
def ac_curve_Pieces : AC :=
  (.seq (.reg [⟨(some 1), .box 24 true (.t 0), none⟩, ⟨(some 2), .mv (.c .nilS), none⟩])
  (.seq (.seq (.reg [⟨(some 6), .load 1 true (.t 1), none⟩, ⟨(some 7), .call (.c (.fn (.func 20) [] [])) [(.t 6)], none⟩, ⟨(some 8), .bin .neq (.t 7) (.c (.v (.int .i64 0))), none⟩])
  (.cond (.t 8)
    (.seq (.reg [⟨(some 2), .mv (.c .nilS), none⟩])
    .ret)
    .skip))
  (.seq (.reg [⟨(some 3), .alloc 32 [.nilS], none⟩])
  (.seq (.seq (.reg [⟨(some 9), .load 1 true (.t 1), none⟩, ⟨(some 10), .call (.c (.fn (.func 66) [] [])) [(.t 9)], none⟩])
  (.block 0
    (.rangeF (.t 10) [11, 12]
      (.reg [⟨(some 5), .alloc 89 [(.v (.int .i64 0)), (.v (.int .i64 0)), (.v (.int .i64 0)), (.v (.int .i64 0)), (.v (.int .i64 0)), (.v (.int .i64 0))], none⟩, ⟨none, .store 6 (.t 5) (.t 12), none⟩])
      (.block 1
        (.reg [⟨(some 13), .load 1 false (.t 3), none⟩, ⟨(some 14), .fieldA 4 (.t 5), none⟩, ⟨(some 15), .load 1 false (.t 14), none⟩, ⟨(some 16), .dslice 2 1 1 [(.v (.int .i64 0))] [(0, 1, (.t 15))], none⟩, ⟨(some 17), .append 32 2 1 (.t 13) (.t 16), none⟩, ⟨none, .store 1 (.t 3) (.t 17), none⟩])))))
  (.seq (.reg [⟨(some 18), .load 1 false (.t 3), none⟩, ⟨(some 2), .mv (.t 18), none⟩])
  .ret)))))
theorem fn_curve_Pieces : FnOK Try.prog 25 19 [.t 2] ac_curve_Pieces := ⟨_, _, Try.func25, rfl, Try.ntmps25, by kernel_rfl, ⟨fun r => if r == 6 then [1003] else [], by kernel_rfl⟩, by kernel_rfl⟩
set_option maxHeartbeats 4000000 in
theorem curve_Pieces_ok (p1 : Curve) (r : (List Int)) (h : curve_Pieces p1 = some r) : PCall Try.prog 25 [(.agg [(.list (List.map eSpot p1.Pts))])] (.list (List.map eInt_i64 r)) := by
  refine l_call fn_curve_Pieces (Nat.le_of_ble_eq_true rfl) ?_
  unfold curve_Pieces at h
  unfold ac_curve_Pieces
  refine (l_sub (s0 := ⟨T [(0, (.d (.agg [(.list (List.map eSpot p1.Pts))])))], G []⟩) (sb_of ⟨.of rfl, trivial⟩ trivial) ?_)
  refine l_seq ?_
  refine l_reg fun u1 hu1 => ?_
  refine s_new (.ptr _ _) (.box _ _) rfl rfl ?_
  refine s_val (.d _) rfl rfl ?_
  refine s_nil ?_
  refine l_seq ?_
  refine l_seq ?_
  refine l_reg fun u2 hu2 => ?_
  refine s_val (.d _) rfl (v_loadG rfl G_hit rfl rfl) ?_
  obtain ⟨v1, hv1, h⟩ := bind_some h
  refine s_call rfl rfl all2_refl (curve_Check_ok _  _ hv1) (.inl rfl) ?_
  refine s_val (.d _) rfl rfl ?_
  refine s_nil ?_
  refine l_cond (v1 != 0) rfl (fun c1 => ?_) (fun c1 => ?_)
  · replace h := cond_t c1 h
    refine l_seq ?_
    refine l_reg fun u3 hu3 => ?_
    refine s_val (.d _) rfl rfl ?_
    refine s_nil ?_
    refine l_ret ?_
    obtain rfl := Option.some.inj h
    refine fin_ok (.inr rfl) (resD1 (res_t rfl) rf_d) ?_
    exact DLe.nil
  · replace h := cond_f c1 h
    refine l_skip ?_
    refine l_seq ?_
    refine l_reg fun u4 hu4 => ?_
    refine s_new (.ptr _ _) (.box _ _) rfl rfl ?_
    refine s_nil ?_
    refine l_seq ?_
    refine l_seq ?_
    refine l_reg fun u5 hu5 => ?_
    refine s_val (.d _) rfl (v_loadG rfl (G_skip rfl G_hit) rfl rfl) ?_
    refine s_call rfl rfl all2_refl (pieces_clos p1) (.inl rfl) ?_
    refine s_nil ?_
    obtain ⟨y1, hy1, h⟩ := bind_some h
    refine l_join (fun s => ∃ g1 : Nat, Sb ⟨T [(3, (.ptr (3, u4) 0))], G [((3, u4), some (.box 32 [(oS y1 (17, g1))])), ((17, g1), oB 2 1 eInt_i64 y1)]⟩ s) ?_ ?_
    · skip
      refine l_block ?_
      obtain ⟨v2, hv2, hy1⟩ := bind_some hy1
      refine l_sub (s0 := ⟨T [(3, (.ptr (3, u4) 0)), (10, (.d (.fn (.func 86) [] [(.bp [(.list (List.map eSpot p1.Pts))] 0)])))], G [((3, u4), some (.box 32 [(.d .nilS)]))]⟩) (sb_of ⟨.of rfl, .of rfl, trivial⟩ (sbG_some G_hit (.of rfl) trivial)) ?_
      refine l_rangeL (.fn (.func 86) [] [(.bp [(.list (List.map eSpot p1.Pts))] 0)]) ePiece v2 (curve_Pieces_l1) (fun (x1 : (List Int)) => x1) (fun (x1 : (List Int)) (g2 : Nat) => [((3, u4), some (.box 32 [(oS x1 (17, g2))])), ((17, g2), oB 2 1 eInt_i64 x1)]) [] 0 _ rfl (pieces_iter hv2) (fun _ => rfl) hy1 (sb_of trivial (sbG_some G_hit (.of rfl) (sbG_nil trivial))) nofun ?_ ?_
      · intro u7 hu7 hku7
        refine ⟨fun x1 g2 => (G_skip rfl (G_skip rfl rfl)), ?_⟩
        intro r1 x1 g2 a1 z1 hrr1 hz1 ez1
        unfold curve_Pieces_l1 at hz1
        show AWL _ _ _ _ _ _ ⟨T [(12, (.d (.agg [(i64 a1.2.p.X), (i64 a1.2.p.Y), (i64 a1.2.v.x), (i64 a1.2.v.y), (i64 a1.2.l), (i64 a1.2.start)]))), (11, (.d (i64 a1.1))), (3, (.ptr (3, u4) 0)), (10, (.d (.fn (.func 86) [] [(.bp [(.list (List.map eSpot p1.Pts))] 0)])))], G [((1000000, u7), some (.obj (T [(3, (.ptr (3, u4) 0)), (10, (.d (.fn (.func 86) [] [(.bp [(.list (List.map eSpot p1.Pts))] 0)])))]) r1)), ((3, u4), some (.box 32 [(oS x1 (17, g2))])), ((17, g2), oB 2 1 eInt_i64 x1)]⟩
        refine l_reg fun u8 hu8 => ?_
        refine s_new (.ptr _ _) (.box _ _) rfl rfl ?_
        refine s_store _ _ _ _ _ rfl rfl rfl G_hit (Nat.le_of_ble_eq_true rfl) [(.d (i64 a1.2.p.X)), (.d (i64 a1.2.p.Y)), (.d (i64 a1.2.v.x)), (.d (i64 a1.2.v.y)), (.d (i64 a1.2.l)), (.d (i64 a1.2.start))] rfl ?_
        refine s_nil ?_
        refine l_j (mid_ok (G_skip rfl (G_skip rfl G_hit)) ?_)
        refine l_block ?_
        refine l_reg fun u9 hu9 => ?_
        refine s_val (oS x1 (17, g2)) rfl (v_load rfl (G_skip rfl (G_skip rfl (G_skip rfl (G_skip rfl G_hit)))) rfl) ?_
        refine s_val (.ptr _ _) rfl rfl ?_
        refine s_val (.d _) rfl (v_load rfl (G_skip rfl G_hit) rfl) ?_
        refine s_val (.d (.list (List.map eInt_i64 [a1.2.l]))) rfl rfl ?_
        obtain ⟨v3, hv3, hz1⟩ := bind_some hz1
        refine s_appendO eInt_i64 (17, g2) x1 a1.2.l [] _ (elems_list (fun _ => rfl)) rfl (G_skip rfl (G_skip rfl (G_skip rfl (G_skip rfl (G_skip rfl G_hit))))) hv3 ?_
        refine s_store _ _ _ _ _ rfl rfl rfl (G_skip rfl (G_skip rfl (G_skip rfl (G_skip rfl (G_skip rfl (G_skip rfl G_hit)))))) (Nat.le_of_ble_eq_true rfl) [(.sl (17, u9))] rfl ?_
        refine s_nil ?_
        refine l_end ?_
        refine l_nil ?_
        obtain rfl := Option.some.inj hz1
        exact rnd_go (G_skip rfl (G_skip rfl (G_skip rfl G_hit))) u9 (sbG_some G_hit (.box (.cons (.of (oS_ne (appc_ne hv3)).symm) .nil)) (sbG_own (G_skip rfl G_hit) trivial))
      · rintro x1 g2 _ rfl qx1
        refine l_end (l_j ?_)
        exact ⟨g2, (Sb.after qx1 (sb_of ⟨.of rfl, trivial⟩ (sbG_some G_hit (.of rfl) (sbG_oB (G_skip rfl G_hit) trivial))))⟩
    · rintro _ ⟨g1, q1⟩
      refine l_sub q1 ?_
      refine l_seq ?_
      refine l_reg fun u10 hu10 => ?_
      refine s_val (oS y1 (17, g1)) rfl (v_load rfl G_hit rfl) ?_
      refine s_val (oS y1 (17, g1)) rfl rfl ?_
      refine s_nil ?_
      refine l_ret ?_
      obtain rfl := Option.some.inj h
      refine fin_ok (.inr rfl) (resD1 (res_t rfl) (rf_oS (G_skip rfl G_hit))) ?_
      exact oD_le

noncomputable def curve_Length_l1 (v1 : (List Int)) (x1 : (Int × Int)) : Option (Stp (Int × Int) Int) :=
  cond (decide (x1.2 < (v1.length : Int))) ((geti v1 x1.2).bind fun v2 => some (.go ((w64 (x1.1 + v2)), (w64 (x1.2 + 1))))) (some (.out x1.1))
noncomputable def curve_Length (p1 : Curve) : Option Int :=
  (curve_Pieces p1).bind fun v1 => (loop (curve_Length_l1 v1) (0, 0)).bind fun y1 => some y1

/-- kerbstone/curve.Length -/
def ac_curve_Length : AC :=
  (.seq (.reg [⟨(some 1), .box 24 true (.t 0), none⟩, ⟨(some 2), .mv (.c (.v (.int .i64 0))), none⟩])
  (.seq (.reg [⟨(some 3), .mv (.c (.v (.int .i64 0))), none⟩])
  (.seq (.seq (.reg [⟨(some 6), .load 1 true (.t 1), none⟩, ⟨(some 7), .call (.c (.fn (.func 25) [] [])) [(.t 6)], none⟩, ⟨(some 8), .len (.t 7), none⟩, ⟨(some 9), .mv (.c (.v (.int .i64 0))), none⟩])
  (.block 0
    (.loop
      (.seq (.reg [⟨(some 10), .bin .lss (.t 9) (.t 8), none⟩])
      (.seq (.cond (.t 10)
        .skip
        (.exit 0))
      (.seq (.block 1
        (.seq (.reg [⟨(some 11), .idxS 1 (.t 7) (.t 9), none⟩, ⟨(some 12), .load 1 false (.t 11), none⟩, ⟨(some 5), .mv (.t 12), none⟩])
        (.reg [⟨(some 13), .mv (.t 3), none⟩, ⟨(some 14), .mv (.t 5), none⟩, ⟨(some 15), .bin .add (.t 13) (.t 14), none⟩, ⟨(some 3), .mv (.t 15), none⟩])))
      (.reg [⟨(some 16), .bin .add (.t 9) (.c (.v (.int .i64 1))), none⟩, ⟨(some 9), .mv (.t 16), none⟩])))))))
  (.seq (.reg [⟨(some 17), .mv (.t 3), none⟩, ⟨(some 2), .mv (.t 17), none⟩])
  .ret))))
theorem fn_curve_Length : FnOK Try.prog 22 18 [.t 2] ac_curve_Length := ⟨_, _, Try.func22, rfl, Try.ntmps22, by kernel_rfl, ⟨fun _ => [], by kernel_rfl⟩, by kernel_rfl⟩
set_option maxHeartbeats 4000000 in
theorem curve_Length_ok (p1 : Curve) (r : Int) (h : curve_Length p1 = some r) : PCall Try.prog 22 [(.agg [(.list (List.map eSpot p1.Pts))])] (i64 r) := by
  refine l_call fn_curve_Length (Nat.le_of_ble_eq_true rfl) ?_
  unfold curve_Length at h
  unfold ac_curve_Length
  refine (l_sub (s0 := ⟨T [(0, (.d (.agg [(.list (List.map eSpot p1.Pts))])))], G []⟩) (sb_of ⟨.of rfl, trivial⟩ trivial) ?_)
  refine l_seq ?_
  refine l_reg fun u1 hu1 => ?_
  refine s_new (.ptr _ _) (.box _ _) rfl rfl ?_
  refine s_val (.d _) rfl rfl ?_
  refine s_nil ?_
  refine l_seq ?_
  refine l_reg fun u2 hu2 => ?_
  refine s_val (.d _) rfl rfl ?_
  refine s_nil ?_
  refine l_seq ?_
  refine l_seq ?_
  refine l_reg fun u3 hu3 => ?_
  refine s_val (.d _) rfl (v_loadG rfl G_hit rfl rfl) ?_
  obtain ⟨v1, hv1, h⟩ := bind_some h
  refine s_call rfl rfl all2_refl (curve_Pieces_ok _  _ hv1) (.inl rfl) ?_
  refine s_val (.d _) rfl (v_len rfl) ?_
  refine s_val (.d _) rfl rfl ?_
  refine s_nil ?_
  obtain ⟨y1, hy1, h⟩ := bind_some h
  refine l_join (fun s => ∃ g1 : Unit, Sb ⟨T [(3, (.d (i64 y1)))], G []⟩ s) ?_ ?_
  · skip
    refine l_block ?_
    refine l_loop (curve_Length_l1 v1) (fun (x1 : (Int × Int)) (g2 : Unit) => ⟨T [(3, (.d (i64 x1.1))), (7, (.d (.list (List.map eInt_i64 v1)))), (8, (.d (i64 (v1.length : Int)))), (9, (.d (i64 x1.2)))], G []⟩) (0, 0) () _ hy1 (sb_of ⟨.of rfl, .of rfl, .of rfl, .of rfl, trivial⟩ trivial) ?_
    intro x1 g2 z1 hz1 ez1
    unfold curve_Length_l1 at hz1
    refine l_seq ?_
    refine l_reg fun u4 hu4 => ?_
    refine s_val (.d _) rfl rfl ?_
    refine s_nil ?_
    refine l_seq ?_
    refine l_cond (decide (x1.2 < (v1.length : Int))) rfl (fun c1 => ?_) (fun c1 => ?_)
    · replace hz1 := cond_t c1 hz1
      refine l_skip ?_
      refine l_seq ?_
      refine l_block ?_
      refine l_seq ?_
      refine l_reg fun u5 hu5 => ?_
      obtain ⟨v2, hv2, hz1⟩ := bind_some hz1
      refine s_val (.d _) rfl (v_idx rfl rfl hv2 rfl) ?_
      refine s_val (.d _) rfl (v_loadL rfl hv2 rfl) ?_
      refine s_val (.d _) rfl rfl ?_
      refine s_nil ?_
      refine l_reg fun u6 hu6 => ?_
      refine s_val (.d _) rfl rfl ?_
      refine s_val (.d _) rfl rfl ?_
      refine s_val (.d _) rfl rfl ?_
      refine s_val (.d _) rfl rfl ?_
      refine s_nil ?_
      refine l_end ?_
      refine l_reg fun u7 hu7 => ?_
      refine s_val (.d _) rfl rfl ?_
      refine s_val (.d _) rfl rfl ?_
      refine s_nil ?_
      refine l_nil ?_
      obtain rfl := Option.some.inj hz1
      exact ⟨rfl, (), (sb_of ⟨.of rfl, .of rfl, .of rfl, .of rfl, trivial⟩ trivial)⟩
    · replace hz1 := cond_f c1 hz1
      refine l_exitN rfl ?_
      obtain rfl := Option.some.inj hz1
      obtain rfl := ez1 _ rfl
      refine ⟨nofun, awl_pop rfl (l_j ?_)⟩
      exact ⟨(), (sb_of ⟨.of rfl, trivial⟩ trivial)⟩
  · rintro _ ⟨g1, q1⟩
    refine l_sub q1 ?_
    refine l_seq ?_
    refine l_reg fun u8 hu8 => ?_
    refine s_val (.d _) rfl rfl ?_
    refine s_val (.d _) rfl rfl ?_
    refine s_nil ?_
    refine l_ret ?_
    obtain rfl := Option.some.inj h
    refine fin_ok (.inr rfl) (resD1 (res_t rfl) rf_d) ?_
    exact (.refl _)

noncomputable def slices_Clone_Spot_Spot (p1 : List Spot) : Option (List Spot) := appc [] p1

/-- slices.Clone[[]kerbstone/api.Spot,kerbstone/api.Spot] -/
def ac_slices_Clone_Spot_Spot : AC :=
  (.seq (.reg [⟨(some 2), .mv (.c .nilS), none⟩])
  (.seq (.seq (.reg [⟨(some 3), .mv (.t 0), none⟩, ⟨(some 4), .isnil false (.t 3), none⟩])
  (.cond (.t 4)
    (.seq (.reg [⟨(some 2), .mv (.c .nilS), none⟩])
    .ret)
    .skip))
  (.seq (.reg [⟨(some 5), .bslice 43 2 0 [(.v (.int .i64 0)), (.v (.int .i64 0))] [], none⟩, ⟨(some 6), .mv (.t 0), none⟩, ⟨(some 7), .append 22 43 2 (.t 5) (.t 6), none⟩, ⟨(some 2), .mv (.t 7), none⟩])
  .ret)))
theorem fn_slices_Clone_Spot_Spot : FnOK Try.prog 75 8 [.t 2] ac_slices_Clone_Spot_Spot := ⟨_, _, Try.func75, rfl, Try.ntmps75, by kernel_rfl, ⟨fun _ => [], by kernel_rfl⟩, by kernel_rfl⟩
theorem slices_Clone_Spot_Spot_walk (p1 : List Spot) (a0 : D) (hl : appc ([] : List Spot) p1 = some p1) (hn : ∀ h, val1 (T [(3, .d a0), (2, .d .nilS), (0, .d a0)]) h (.isnil false (.t 3)) = some (.d (bo false))) (he : ∀ h, elemsOf h 2 (.d a0) = some (List.map eSpot p1)) :
    PCall Try.prog 75 [a0] (.list (List.map eSpot p1)) := by
  refine l_call fn_slices_Clone_Spot_Spot (Nat.le_of_ble_eq_true rfl) ?_
  unfold ac_slices_Clone_Spot_Spot
  refine (l_sub (s0 := ⟨T [(0, .d a0)], G []⟩) (sb_of ⟨.of rfl, trivial⟩ trivial) ?_)
  refine l_seq ?_
  refine l_reg fun u1 hu1 => ?_
  refine s_val (.d .nilS) rfl rfl ?_
  refine s_nil ?_
  refine l_seq ?_
  refine l_seq ?_
  refine l_reg fun u2 hu2 => ?_
  refine s_val (.d a0) rfl rfl ?_
  refine s_val (.d (bo false)) rfl (hn _) ?_
  refine s_nil ?_
  refine l_condF rfl ?_
  refine l_skip ?_
  refine l_seq ?_
  refine l_reg fun u3 hu3 => ?_
  refine s_new (.sl _) (.arr 43 2 (List.map eSpot ([] : List Spot))) rfl rfl ?_
  refine s_val (.d a0) rfl rfl ?_
  refine s_append eSpot _ [] p1 _ (he _) rfl G_hit hl ?_
  refine s_val (.sl _) rfl rfl ?_
  refine s_nil ?_
  refine l_ret ?_
  exact fin_ok (.inr rfl) (resD1 (res_t rfl) (rf_sl G_hit)) (.refl _)
theorem slices_Clone_Spot_Spot_ok (p1 : List Spot) (r : List Spot) (h : slices_Clone_Spot_Spot p1 = some r) : PCall Try.prog 75 [.list (List.map eSpot p1)] (.list (List.map eSpot r)) := by
  have hr : r = p1 := by obtain ⟨_, rfl⟩ := appc_some h; rfl
  subst hr
  cases r with
  | cons x xs => exact slices_Clone_Spot_Spot_walk (x :: xs) _ h (fun _ => rfl) fun _ => elems_list (fun _ => rfl)
  | nil =>
    refine PCall.nil fun A cap => ?_
    cases A with
    | some A => exact slices_Clone_Spot_Spot_walk [] (.v (.slice (some A) 0 cap)) h (fun _ => rfl) fun _ => rfl
    | none =>
      refine l_call fn_slices_Clone_Spot_Spot (Nat.le_of_ble_eq_true rfl) ?_
      unfold ac_slices_Clone_Spot_Spot
      refine (l_sub (s0 := ⟨T [(0, .d (.v (.slice none 0 cap)))], G []⟩) (sb_of ⟨.of rfl, trivial⟩ trivial) ?_)
      refine l_seq ?_
      refine l_reg fun u1 hu1 => ?_
      refine s_val (.d .nilS) rfl rfl ?_
      refine s_nil ?_
      refine l_seq ?_
      refine l_seq ?_
      refine l_reg fun u2 hu2 => ?_
      refine s_val (.d _) rfl rfl ?_
      refine s_val (.d (bo true)) rfl rfl ?_
      refine s_nil ?_
      refine l_condT rfl ?_
      refine l_seq ?_
      refine l_reg fun u3 hu3 => ?_
      refine s_val (.d .nilS) rfl rfl ?_
      refine s_nil ?_
      refine l_ret ?_
      exact fin_ok (.inr rfl) (resD1 (res_t rfl) rf_d) .nil

noncomputable def slices_Clone_Spot_Spoto (p1 : List Spot) : Option (List Spot) := match p1 with
  | [] => none
  | _ => appc [] p1
theorem slices_Clone_Spot_Spoto_ne {p1 r : List Spot} (h : slices_Clone_Spot_Spoto p1 = some r) : r ≠ [] := by
  cases p1 with
  | nil => cases h
  | cons x xs => have := appc_ne (xs := []) h; exact this

theorem slices_Clone_Spot_Spoto_ok (p1 : List Spot) (r : List Spot) (h : slices_Clone_Spot_Spoto p1 = some r) : MCall Try.prog 75 [.d (.list (List.map eSpot p1))] [] (.sl (800000, 0)) [] [.arr 43 2 (List.map eSpot r)] := by
  cases p1 with
  | nil => cases h
  | cons x xs =>
  have hr : appc ([] : List Spot) (x :: xs) = some r := h
  refine m_callT fn_slices_Clone_Spot_Spot rfl (Nat.le_of_ble_eq_true rfl) ?_
  unfold ac_slices_Clone_Spot_Spot
  refine (l_sub (s0 := ⟨T [(0, .d (.list (List.map eSpot (x :: xs))))], G []⟩) (sb_of ⟨.of rfl, trivial⟩ trivial) ?_)
  refine l_seq ?_
  refine l_reg fun u1 hu1 => ?_
  refine s_val (.d .nilS) rfl rfl ?_
  refine s_nil ?_
  refine l_seq ?_
  refine l_seq ?_
  refine l_reg fun u2 hu2 => ?_
  refine s_val (.d (.list (List.map eSpot (x :: xs)))) rfl rfl ?_
  refine s_val (.d (bo false)) rfl rfl ?_
  refine s_nil ?_
  refine l_condF rfl ?_
  refine l_skip ?_
  refine l_seq ?_
  refine l_reg fun u3 hu3 => ?_
  refine s_new (.sl _) (.arr 43 2 (List.map eSpot ([] : List Spot))) rfl rfl ?_
  refine s_val (.d (.list (List.map eSpot (x :: xs)))) rfl rfl ?_
  refine s_append eSpot _ [] (x :: xs) _ (elems_list (fun _ => rfl)) rfl G_hit hr ?_
  refine s_val (.sl _) rfl rfl ?_
  refine s_nil ?_
  refine l_ret ?_
  exact fin_m (v1 := .sl (7, u3)) (.inr rfl) (resA1 (res_t rfl)) (.of rfl) [((7, u3), some (.arr 43 2 (List.map eSpot r)))] (sbG_some G_hit (.of rfl) trivial) (mpost_of [(7, u3)] rfl trivial ⟨G_hit, trivial⟩ rfl (by simp only [List.mem_cons, List.not_mem_nil, or_false, forall_eq]; exact fun i => old_ne rfl i) nd1)

noncomputable def curve_through (p1 : (List Spot)) : Option Curve :=
  (slices_Clone_Spot_Spot p1).bind fun v1 => some (Curve.mk v1)

/-- kerbstone/curve.through -/
def ac_curve_through : AC :=
  (.seq (.reg [⟨(some 2), .alloc 24 [.nilS], none⟩])
  (.seq (.reg [⟨(some 3), .mv (.t 0), none⟩, ⟨(some 4), .call (.c (.fn (.func 75) [] [])) [(.t 3)], none⟩, ⟨(some 5), .build [.nilS] [(0, 1, (.t 4))], none⟩, ⟨none, .store 1 (.t 2) (.t 5), none⟩])
  .ret))
theorem fn_curve_through : FnOK Try.prog 74 6 [.cell 2 1 true] ac_curve_through := ⟨_, _, Try.func74, rfl, Try.ntmps74, by kernel_rfl, ⟨fun _ => [], by kernel_rfl⟩, by kernel_rfl⟩
theorem curve_through_ok (p1 : (List Spot)) (r : Curve) (h : curve_through p1 = some r) : PCall Try.prog 74 [(.list (List.map eSpot p1))] (.agg [(.list (List.map eSpot r.Pts))]) := by
  refine l_call fn_curve_through (Nat.le_of_ble_eq_true rfl) ?_
  unfold curve_through at h
  unfold ac_curve_through
  refine (l_sub (s0 := ⟨T [(0, (.d (.list (List.map eSpot p1))))], G []⟩) (sb_of ⟨.of rfl, trivial⟩ trivial) ?_)
  refine l_seq ?_
  refine l_reg fun u1 hu1 => ?_
  refine s_new (.ptr _ _) (.box _ _) rfl rfl ?_
  refine s_nil ?_
  refine l_seq ?_
  refine l_reg fun u2 hu2 => ?_
  refine s_val (.d _) rfl rfl ?_
  obtain ⟨v1, hv1, h⟩ := bind_some h
  refine s_call rfl rfl all2_refl (slices_Clone_Spot_Spot_ok _  _ hv1) (.inl rfl) ?_
  refine s_val (.d _) rfl rfl ?_
  refine s_store _ _ _ _ _ rfl rfl rfl G_hit (Nat.le_of_ble_eq_true rfl) [(.d (.list (List.map eSpot v1)))] rfl ?_
  refine s_nil ?_
  refine l_ret ?_
  obtain rfl := Option.some.inj h
  refine fin_ok (.inr rfl) (resD1 (res_cellG rfl G_hit (Nat.le_of_ble_eq_true rfl) rfl) rf_d) ?_
  exact (.refl _)

noncomputable def curve_Join (p1 : Curve) (p2 : Curve) : Option (Curve × Int) :=
  thenS ((curve_Check p1).bind fun v1 => cond (v1 != 0) (some (.inr ((Curve.mk []), v1))) ((curve_Check p2).bind fun v2 => cond (v2 != 0) (some (.inr ((Curve.mk []), v2))) (some (.inl ())))) (fun _ => (geti p1.Pts (w64 ((p1.Pts.length : Int) - 1))).bind fun v3 => (geti p2.Pts 0).bind fun v4 => cond (!(v3.X == v4.X && (v3.Y == v4.Y && true))) (some ((Curve.mk []), 7)) ((slices_Clone_Spot_Spoto p1.Pts).bind fun v5 => (subl p2.Pts 1 (p2.Pts.length : Int)).bind fun v6 => (appc v5 v6).bind fun v7 => (curve_through v7).bind fun v8 => (curve_Check v8).bind fun v9 => cond (v9 != 0) (some ((Curve.mk []), v9)) (some (v8, 0)))) (fun r => some r)

/-- kerbstone/curve.Join -/
def ac_curve_Join : AC :=
  (.seq (.reg [⟨(some 2), .box 24 true (.t 0), none⟩, ⟨(some 3), .box 24 true (.t 1), none⟩, ⟨(some 4), .alloc 24 [.nilS], none⟩, ⟨(some 5), .mv (.c (.v (.int .i64 0))), none⟩])
  (.seq (.seq (.reg [⟨(some 11), .load 1 true (.t 2), none⟩, ⟨(some 12), .load 1 true (.t 3), none⟩, ⟨(some 13), .build [.nilS, .nilS] [(0, 1, (.t 11)), (1, 1, (.t 12))], none⟩, ⟨(some 14), .mv (.c (.v (.int .i64 0))), none⟩])
  (.block 0
    (.loop
      (.seq (.reg [⟨(some 15), .bin .lss (.t 14) (.c (.v (.int .i64 2))), none⟩])
      (.seq (.cond (.t 15)
        .skip
        (.exit 0))
      (.seq (.block 1
        (.seq (.reg [⟨(some 16), .idxA 2 1 true (.t 13) (.t 14), none⟩, ⟨(some 7), .alloc 24 [.nilS], none⟩, ⟨none, .store 1 (.t 7) (.t 16), none⟩])
        (.seq (.reg [⟨(some 17), .load 1 true (.t 7), none⟩, ⟨(some 18), .call (.c (.fn (.func 20) [] [])) [(.t 17)], none⟩, ⟨(some 8), .mv (.t 18), none⟩])
        (.seq (.reg [⟨(some 19), .mv (.t 8), none⟩, ⟨(some 20), .bin .neq (.t 19) (.c (.v (.int .i64 0))), none⟩])
        (.cond (.t 20)
          (.seq (.reg [⟨(some 21), .build [.nilS] [], none⟩, ⟨(some 22), .mv (.t 8), none⟩, ⟨none, .store 1 (.t 4) (.t 21), none⟩, ⟨(some 5), .mv (.t 22), none⟩])
          .ret)
          .skip)))))
      (.reg [⟨(some 23), .bin .add (.t 14) (.c (.v (.int .i64 1))), none⟩, ⟨(some 14), .mv (.t 23), none⟩])))))))
  (.seq (.seq (.draw [⟨(some 24), .fieldA 0 (.t 2), none⟩, ⟨(some 25), .load 1 false (.t 24), none⟩, ⟨(some 26), .fieldA 0 (.t 2), none⟩, ⟨(some 27), .load 1 false (.t 26), none⟩, ⟨(some 28), .len (.t 27), none⟩, ⟨(some 29), .bin .sub (.t 28) (.c (.v (.int .i64 1))), none⟩, ⟨(some 30), .idxS 2 (.t 25) (.t 29), none⟩, ⟨(some 31), .load 2 true (.t 30), none⟩, ⟨(some 32), .fieldA 0 (.t 3), none⟩, ⟨(some 33), .load 1 false (.t 32), none⟩, ⟨(some 34), .idxS 2 (.t 33) (.c (.v (.int .i64 0))), none⟩, ⟨(some 35), .load 2 true (.t 34), none⟩, ⟨(some 36), .eqA true [false, false] (.t 31) (.t 35), none⟩] [])
  (.cond (.t 36)
    (.seq (.reg [⟨(some 37), .build [.nilS] [], none⟩, ⟨none, .store 1 (.t 4) (.t 37), none⟩, ⟨(some 5), .mv (.c (.v (.int .i64 7))), none⟩])
    .ret)
    .skip))
  (.seq (.draw [⟨(some 38), .fieldA 0 (.t 2), none⟩, ⟨(some 39), .load 1 false (.t 38), none⟩, ⟨(some 40), .ocall 10100020 (.c (.fn (.func 75) [] [])) [(.t 39)], none⟩, ⟨(some 41), .fieldA 0 (.t 3), none⟩, ⟨(some 42), .load 1 false (.t 41), none⟩, ⟨(some 43), .slice 2 (.t 42) (some (.c (.v (.int .i64 1)))) none none, none⟩, ⟨(some 44), .append 22 43 2 (.t 40) (.t 43), none⟩, ⟨(some 45), .ocall 10100070 (.c (.fn (.func 74) [] [])) [(.t 44)], none⟩, ⟨(some 9), .alloc 24 [.nilS], none⟩, ⟨none, .store 1 (.t 9) (.t 45), none⟩] [(2, 4), (2, 8), (6, 8), (7, 8)])
  (.seq (.seq (.reg [⟨(some 46), .load 1 true (.t 9), none⟩, ⟨(some 47), .call (.c (.fn (.func 20) [] [])) [(.t 46)], none⟩, ⟨(some 10), .mv (.t 47), none⟩])
  (.seq (.reg [⟨(some 48), .mv (.t 10), none⟩, ⟨(some 49), .bin .neq (.t 48) (.c (.v (.int .i64 0))), none⟩])
  (.cond (.t 49)
    (.seq (.reg [⟨(some 50), .build [.nilS] [], none⟩, ⟨(some 51), .mv (.t 10), none⟩, ⟨none, .store 1 (.t 4) (.t 50), none⟩, ⟨(some 5), .mv (.t 51), none⟩])
    .ret)
    .skip)))
  (.seq (.reg [⟨(some 52), .load 1 true (.t 9), none⟩, ⟨none, .store 1 (.t 4) (.t 52), none⟩, ⟨(some 5), .mv (.c (.v (.int .i64 0))), none⟩])
  .ret))))))
theorem fn_curve_Join : FnOK Try.prog 36 53 [.cell 4 1 true, .t 5] ac_curve_Join := ⟨_, _, Try.func36, rfl, Try.ntmps36, by kernel_rfl, ⟨fun r => if r == 10 then [1010002, 1010007] else [], by kernel_rfl⟩, by kernel_rfl⟩
set_option maxHeartbeats 4000000 in
theorem curve_Join_ok (p1 : Curve) (p2 : Curve) (r : (Curve × Int)) (h : curve_Join p1 p2 = some r) : PCall Try.prog 36 [(.agg [(.list (List.map eSpot p1.Pts))]), (.agg [(.list (List.map eSpot p2.Pts))])] (.tup [(.agg [(.list (List.map eSpot r.1.Pts))]), (i64 r.2)]) := by
  refine l_call fn_curve_Join (Nat.le_of_ble_eq_true rfl) ?_
  unfold curve_Join at h
  unfold ac_curve_Join
  refine (l_sub (s0 := ⟨T [(0, (.d (.agg [(.list (List.map eSpot p1.Pts))]))), (1, (.d (.agg [(.list (List.map eSpot p2.Pts))])))], G []⟩) (sb_of ⟨.of rfl, .of rfl, trivial⟩ trivial) ?_)
  refine l_seq ?_
  refine l_reg fun u1 hu1 => ?_
  refine s_new (.ptr _ _) (.box _ _) rfl rfl ?_
  refine s_new (.ptr _ _) (.box _ _) rfl rfl ?_
  refine s_new (.ptr _ _) (.box _ _) rfl rfl ?_
  refine s_val (.d _) rfl rfl ?_
  refine s_nil ?_
  refine l_seq ?_
  refine l_seq ?_
  refine l_reg fun u2 hu2 => ?_
  refine s_val (.d _) rfl (v_loadG rfl (G_skip rfl (G_skip rfl G_hit)) rfl rfl) ?_
  refine s_val (.d _) rfl (v_loadG rfl (G_skip rfl G_hit) rfl rfl) ?_
  refine s_val (.d _) rfl rfl ?_
  refine s_val (.d _) rfl rfl ?_
  refine s_nil ?_
  obtain ⟨z1, hz1, h⟩ := thenS_some h
  refine l_join (fun s => ∃ (y1 : Unit) (g1 : Unit), z1 = .inl y1 ∧ Sb ⟨T [(2, (.ptr (2, u1) 0)), (3, (.ptr (3, u1) 0)), (4, (.ptr (4, u1) 0))], G [((2, u1), some (.box 24 [(.d (.list (List.map eSpot p1.Pts)))])), ((3, u1), some (.box 24 [(.d (.list (List.map eSpot p2.Pts)))])), ((4, u1), some (.box 24 [(.d .nilS)]))]⟩ s) ?_ ?_
  · skip
    refine l_block ?_
    refine l_unroll ?_
    refine l_seq ?_
    refine l_reg fun u3 hu3 => ?_
    refine s_val (.d _) rfl rfl ?_
    refine s_nil ?_
    refine l_seq ?_
    refine l_condT rfl ?_
    refine l_skip ?_
    refine l_seq ?_
    refine l_block ?_
    refine l_seq ?_
    refine l_reg fun u4 hu4 => ?_
    refine s_val (.d _) rfl rfl ?_
    refine s_new (.ptr _ _) (.box _ _) rfl rfl ?_
    refine s_store _ _ _ _ _ rfl rfl rfl G_hit (Nat.le_of_ble_eq_true rfl) [(.d (.list (List.map eSpot p1.Pts)))] rfl ?_
    refine s_nil ?_
    refine l_seq ?_
    refine l_reg fun u5 hu5 => ?_
    refine s_val (.d _) rfl (v_loadG rfl G_hit rfl rfl) ?_
    obtain ⟨v1, hv1, hz1⟩ := bind_some hz1
    refine s_call rfl rfl all2_refl (curve_Check_ok _  _ hv1) (.inl rfl) ?_
    refine s_val (.d _) rfl rfl ?_
    refine s_nil ?_
    refine l_seq ?_
    refine l_reg fun u6 hu6 => ?_
    refine s_val (.d _) rfl rfl ?_
    refine s_val (.d _) rfl rfl ?_
    refine s_nil ?_
    refine l_cond (v1 != 0) rfl (fun c1 => ?_) (fun c1 => ?_)
    · replace hz1 := cond_t c1 hz1
      refine l_seq ?_
      refine l_sub (s0 := ⟨T [(4, (.ptr (4, u1) 0)), (8, (.d (i64 v1)))], G [((4, u1), some (.box 24 [(.d .nilS)]))]⟩) (sb_of ⟨.of rfl, .of rfl, trivial⟩ (sbG_some (G_skip rfl (G_skip rfl G_hit)) (.of rfl) trivial)) ?_
      refine l_reg fun u7 hu7 => ?_
      refine s_val (.d _) rfl rfl ?_
      refine s_val (.d _) rfl rfl ?_
      refine s_store _ _ _ _ _ rfl rfl rfl G_hit (Nat.le_of_ble_eq_true rfl) [(.d .nilS)] rfl ?_
      refine s_val (.d _) rfl rfl ?_
      refine s_nil ?_
      refine l_ret ?_
      obtain rfl := Option.some.inj hz1
      rw [Sum.elim_inr] at h
      obtain rfl := Option.some.inj h
      refine fin_ok (.inr rfl) (resD2 (res_cellG rfl G_hit (Nat.le_of_ble_eq_true rfl) rfl) (res_t rfl) rf_d rf_d) ?_
      exact .tup (.cons (.agg (.cons ⟨DLe.nil, rfl⟩ .nil)) (.cons (.refl _) .nil))
    · replace hz1 := cond_f c1 hz1
      refine l_skip ?_
      refine l_end ?_
      refine l_sub (s0 := ⟨T [(2, (.ptr (2, u1) 0)), (3, (.ptr (3, u1) 0)), (4, (.ptr (4, u1) 0)), (13, (.d (.agg [(.list (List.map eSpot p1.Pts)), (.list (List.map eSpot p2.Pts))]))), (14, (.d (i64 0)))], G [((2, u1), some (.box 24 [(.d (.list (List.map eSpot p1.Pts)))])), ((3, u1), some (.box 24 [(.d (.list (List.map eSpot p2.Pts)))])), ((4, u1), some (.box 24 [(.d .nilS)]))]⟩) (sb_of ⟨.of rfl, .of rfl, .of rfl, .of rfl, .of rfl, trivial⟩ (sbG_some (G_skip rfl (G_skip rfl (G_skip rfl (G_skip rfl G_hit)))) (.of rfl) (sbG_some (G_skip rfl (G_skip rfl (G_skip rfl G_hit))) (.of rfl) (sbG_some (G_skip rfl (G_skip rfl G_hit)) (.of rfl) trivial)))) ?_
      refine l_reg fun u8 hu8 => ?_
      refine s_val (.d _) rfl rfl ?_
      refine s_val (.d _) rfl rfl ?_
      refine s_nil ?_
      refine l_unroll ?_
      refine l_seq ?_
      refine l_reg fun u9 hu9 => ?_
      refine s_val (.d _) rfl rfl ?_
      refine s_nil ?_
      refine l_seq ?_
      refine l_condT rfl ?_
      refine l_skip ?_
      refine l_seq ?_
      refine l_block ?_
      refine l_seq ?_
      refine l_reg fun u10 hu10 => ?_
      refine s_val (.d _) rfl rfl ?_
      refine s_new (.ptr _ _) (.box _ _) rfl rfl ?_
      refine s_store _ _ _ _ _ rfl rfl rfl G_hit (Nat.le_of_ble_eq_true rfl) [(.d (.list (List.map eSpot p2.Pts)))] rfl ?_
      refine s_nil ?_
      refine l_seq ?_
      refine l_reg fun u11 hu11 => ?_
      refine s_val (.d _) rfl (v_loadG rfl G_hit rfl rfl) ?_
      obtain ⟨v2, hv2, hz1⟩ := bind_some hz1
      refine s_call rfl rfl all2_refl (curve_Check_ok _  _ hv2) (.inl rfl) ?_
      refine s_val (.d _) rfl rfl ?_
      refine s_nil ?_
      refine l_seq ?_
      refine l_reg fun u12 hu12 => ?_
      refine s_val (.d _) rfl rfl ?_
      refine s_val (.d _) rfl rfl ?_
      refine s_nil ?_
      refine l_cond (v2 != 0) rfl (fun c2 => ?_) (fun c2 => ?_)
      · replace hz1 := cond_t c2 hz1
        refine l_seq ?_
        refine l_reg fun u13 hu13 => ?_
        refine s_val (.d _) rfl rfl ?_
        refine s_val (.d _) rfl rfl ?_
        refine s_store _ _ _ _ _ rfl rfl rfl (G_skip rfl (G_skip rfl (G_skip rfl (G_skip rfl G_hit)))) (Nat.le_of_ble_eq_true rfl) [(.d .nilS)] rfl ?_
        refine s_val (.d _) rfl rfl ?_
        refine s_nil ?_
        refine l_ret ?_
        obtain rfl := Option.some.inj hz1
        rw [Sum.elim_inr] at h
        obtain rfl := Option.some.inj h
        refine fin_ok (.inr rfl) (resD2 (res_cellG rfl G_hit (Nat.le_of_ble_eq_true rfl) rfl) (res_t rfl) rf_d rf_d) ?_
        exact .tup (.cons (.agg (.cons ⟨DLe.nil, rfl⟩ .nil)) (.cons (.refl _) .nil))
      · replace hz1 := cond_f c2 hz1
        refine l_skip ?_
        refine l_end ?_
        refine l_reg fun u14 hu14 => ?_
        refine s_val (.d _) rfl rfl ?_
        refine s_val (.d _) rfl rfl ?_
        refine s_nil ?_
        refine l_unroll ?_
        refine l_seq ?_
        refine l_reg fun u15 hu15 => ?_
        refine s_val (.d _) rfl rfl ?_
        refine s_nil ?_
        refine l_seq ?_
        refine l_condF rfl ?_
        refine l_exit rfl ?_
        obtain rfl := Option.some.inj hz1
        exact l_j ⟨_, (), rfl, (sb_of ⟨.of rfl, .of rfl, .of rfl, trivial⟩ (sbG_some (G_skip rfl (G_skip rfl G_hit)) (.of rfl) (sbG_some (G_skip rfl (G_skip rfl (G_skip rfl G_hit))) (.of rfl) (sbG_some (G_skip rfl (G_skip rfl (G_skip rfl (G_skip rfl G_hit)))) (.of rfl) trivial))))⟩
  · rintro _ ⟨y1, g1, rfl, q1⟩
    rw [Sum.elim_inl] at h
    refine l_sub q1 ?_
    refine l_seq ?_
    refine l_seq ?_
    refine l_draw rfl fun u16 hu16 => ?_
    refine s_val (.ptr _ _) rfl rfl ?_
    refine s_val (.d _) rfl (v_load rfl G_hit rfl) ?_
    refine s_val (.ptr _ _) rfl rfl ?_
    refine s_val (.d _) rfl (v_load rfl G_hit rfl) ?_
    refine s_val (.d _) rfl (v_len rfl) ?_
    refine s_val (.d _) rfl rfl ?_
    obtain ⟨v3, hv3, h⟩ := bind_some h
    refine s_val (.d _) rfl (v_idx rfl rfl hv3 rfl) ?_
    refine s_val (.d _) rfl (v_loadLG rfl hv3 rfl rfl) ?_
    refine s_val (.ptr _ _) rfl rfl ?_
    refine s_val (.d _) rfl (v_load rfl (G_skip rfl G_hit) rfl) ?_
    obtain ⟨v4, hv4, h⟩ := bind_some h
    refine s_val (.d _) rfl (v_idx rfl rfl hv4 rfl) ?_
    refine s_val (.d _) rfl (v_loadLG rfl hv4 rfl rfl) ?_
    refine s_val (.d _) rfl rfl ?_
    refine s_nil ?_
    refine l_cond (!(v3.X == v4.X && (v3.Y == v4.Y && true))) rfl (fun c3 => ?_) (fun c3 => ?_)
    · replace h := cond_t c3 h
      refine l_seq ?_
      refine l_reg fun u17 hu17 => ?_
      refine s_val (.d _) rfl rfl ?_
      refine s_store _ _ _ _ _ rfl rfl rfl (G_skip rfl (G_skip rfl G_hit)) (Nat.le_of_ble_eq_true rfl) [(.d .nilS)] rfl ?_
      refine s_val (.d _) rfl rfl ?_
      refine s_nil ?_
      refine l_ret ?_
      obtain rfl := Option.some.inj h
      refine fin_ok (.inr rfl) (resD2 (res_cellG rfl G_hit (Nat.le_of_ble_eq_true rfl) rfl) (res_t rfl) rf_d rf_d) ?_
      exact .tup (.cons (.agg (.cons ⟨DLe.nil, rfl⟩ .nil)) (.cons (.refl _) .nil))
    · replace h := cond_f c3 h
      refine l_skip ?_
      refine l_seq ?_
      refine l_drawT fun u18 hu18 => ?_
      refine t_val (.ptr _ _) rfl rfl ?_
      refine t_val (.d _) rfl (v_load rfl G_hit rfl) ?_
      obtain ⟨v5, hv5, h⟩ := bind_some h
      refine t_oc (v := .sl (10100020, u18)) (us := [(10100020, u18)]) (oc_m (slices_Clone_Spot_Spoto_ok _ _ hv5) [] [] _ (((10100020, u18), some (.arr 43 2 (List.map eSpot v5))) :: _) rfl all2_av rfl live_nil trivial (fun _ h => h) List.nodup_nil rfl rfl rfl) ?_
      refine t_val (.ptr _ _) rfl rfl ?_
      refine t_val (.d _) rfl (v_load rfl (G_skip rfl (G_skip rfl G_hit)) rfl) ?_
      obtain ⟨v6, hv6, h⟩ := bind_some h
      refine t_val (.d _) rfl (v_sub rfl (fun _ => rfl) (bd_x rfl) bd_end hv6) ?_
      obtain ⟨v7, hv7, h⟩ := bind_some h
      refine t_append eSpot _ _ _ _ (elems_list (fun _ => rfl)) rfl G_hit hv7 ?_
      obtain ⟨v8, hv8, h⟩ := bind_some h
      refine t_oc (v := .d (.agg [(.list (List.map eSpot v8.Pts))])) (us := [(44, u18)]) (oc_f [(44, u18)] (((44, u18), none) :: _) rfl (rfL_cons (rf_sl G_hit) rfL_nil) all2_refl (curve_through_ok _ _ hv8) (kl_cons kr_sl kl_nil) rfl) ?_
      refine t_new (.ptr _ _) (.box _ _) rfl rfl ?_
      refine t_store _ _ _ _ _ rfl rfl rfl G_hit (Nat.le_of_ble_eq_true rfl) [(.d (.list (List.map eSpot v8.Pts)))] rfl ?_
      refine t_nil ⟨rfl, ?_⟩
      refine l_seq ?_
      refine l_seq ?_
      refine l_sub (s0 := ⟨T [(4, (.ptr (4, u1) 0)), (9, (.ptr (9, u18) 0))], G [((4, u1), some (.box 24 [(.d .nilS)])), ((9, u18), some (.box 24 [(.d (.list (List.map eSpot v8.Pts)))]))]⟩) (sb_of ⟨.of rfl, .of rfl, trivial⟩ (sbG_some (G_skip rfl (G_skip rfl (G_skip rfl (G_skip rfl (G_skip rfl (G_skip rfl (G_skip rfl (G_skip rfl G_hit)))))))) (.of rfl) (sbG_some G_hit (.of rfl) trivial))) ?_
      refine l_reg fun u19 hu19 => ?_
      refine s_val (.d _) rfl (v_loadG rfl (G_skip rfl G_hit) rfl rfl) ?_
      obtain ⟨v9, hv9, h⟩ := bind_some h
      refine s_call rfl rfl all2_refl (curve_Check_ok _  _ hv9) (.inl rfl) ?_
      refine s_val (.d _) rfl rfl ?_
      refine s_nil ?_
      refine l_seq ?_
      refine l_reg fun u20 hu20 => ?_
      refine s_val (.d _) rfl rfl ?_
      refine s_val (.d _) rfl rfl ?_
      refine s_nil ?_
      refine l_cond (v9 != 0) rfl (fun c4 => ?_) (fun c4 => ?_)
      · replace h := cond_t c4 h
        refine l_seq ?_
        refine l_reg fun u21 hu21 => ?_
        refine s_val (.d _) rfl rfl ?_
        refine s_val (.d _) rfl rfl ?_
        refine s_store _ _ _ _ _ rfl rfl rfl G_hit (Nat.le_of_ble_eq_true rfl) [(.d .nilS)] rfl ?_
        refine s_val (.d _) rfl rfl ?_
        refine s_nil ?_
        refine l_ret ?_
        obtain rfl := Option.some.inj h
        refine fin_ok (.inr rfl) (resD2 (res_cellG rfl G_hit (Nat.le_of_ble_eq_true rfl) rfl) (res_t rfl) rf_d rf_d) ?_
        exact .tup (.cons (.agg (.cons ⟨DLe.nil, rfl⟩ .nil)) (.cons (.refl _) .nil))
      · replace h := cond_f c4 h
        refine l_skip ?_
        refine l_seq ?_
        refine l_reg fun u22 hu22 => ?_
        refine s_val (.d _) rfl (v_loadG rfl (G_skip rfl G_hit) rfl rfl) ?_
        refine s_store _ _ _ _ _ rfl rfl rfl G_hit (Nat.le_of_ble_eq_true rfl) [(.d (.list (List.map eSpot v8.Pts)))] rfl ?_
        refine s_val (.d _) rfl rfl ?_
        refine s_nil ?_
        refine l_ret ?_
        obtain rfl := Option.some.inj h
        refine fin_ok (.inr rfl) (resD2 (res_cellG rfl G_hit (Nat.le_of_ble_eq_true rfl) rfl) (res_t rfl) rf_d rf_d) ?_
        exact .refl _

noncomputable def law01_of_l1 (p1 : (List Int)) (x1 : (Int × Curve)) : Option (Stp (Int × Curve) Curve) :=
  cond (decide ((w64 (x1.1 + 1)) < (p1.length : Int))) ((geti p1 x1.1).bind fun v1 => (geti p1 (w64 (x1.1 + 1))).bind fun v2 => (appc x1.2.Pts [(Spot.mk v1 v2)]).bind fun v3 => some (.go ((w64 (x1.1 + 2)), (Curve.mk v3)))) (some (.out x1.2))
noncomputable def law01_of (p1 : (List Int)) : Option Curve :=
  (loop (law01_of_l1 p1) (0, (Curve.mk []))).bind fun y1 => some y1

/-- kerbstone/kerbstonelaw01.of -/
def ac_law01_of : AC :=
  (.seq (.reg [⟨(some 2), .alloc 24 [.nilS], none⟩])
  (.seq (.reg [⟨(some 3), .alloc 24 [.nilS], none⟩])
  (.seq (.seq (.reg [⟨(some 4), .mv (.c (.v (.int .i64 0))), none⟩])
  (.block 0
    (.loop
      (.seq (.seq (.reg [⟨(some 5), .mv (.t 4), none⟩, ⟨(some 6), .bin .add (.t 5) (.c (.v (.int .i64 1))), none⟩, ⟨(some 7), .mv (.t 0), none⟩, ⟨(some 8), .len (.t 7), none⟩, ⟨(some 9), .bin .lss (.t 6) (.t 8), none⟩])
      (.cond (.t 9)
        .skip
        (.exit 0)))
      (.seq (.block 1
        (.draw [⟨(some 12), .fieldA 0 (.t 3), none⟩, ⟨(some 13), .load 1 false (.t 12), none⟩, ⟨(some 14), .mv (.t 0), none⟩, ⟨(some 15), .mv (.t 4), none⟩, ⟨(some 16), .idxS 1 (.t 14) (.t 15), none⟩, ⟨(some 17), .load 1 false (.t 16), none⟩, ⟨(some 18), .mv (.t 0), none⟩, ⟨(some 19), .mv (.t 4), none⟩, ⟨(some 20), .bin .add (.t 19) (.c (.v (.int .i64 1))), none⟩, ⟨(some 21), .idxS 1 (.t 18) (.t 20), none⟩, ⟨(some 22), .load 1 false (.t 21), none⟩, ⟨(some 23), .build [(.v (.int .i64 0)), (.v (.int .i64 0))] [(0, 1, (.t 17)), (1, 1, (.t 22))], none⟩, ⟨(some 24), .dslice 43 2 1 [(.v (.int .i64 0)), (.v (.int .i64 0))] [(0, 2, (.t 23))], none⟩, ⟨(some 25), .append 22 43 2 (.t 13) (.t 24), none⟩, ⟨(some 26), .fieldA 0 (.t 3), none⟩, ⟨none, .store 1 (.t 26) (.t 25), none⟩] []))
      (.reg [⟨(some 10), .mv (.t 4), none⟩, ⟨(some 11), .bin .add (.t 10) (.c (.v (.int .i64 2))), none⟩, ⟨(some 4), .mv (.t 11), none⟩]))))))
  (.seq (.reg [⟨(some 27), .load 1 true (.t 3), none⟩, ⟨none, .store 1 (.t 2) (.t 27), none⟩])
  .ret))))
theorem fn_law01_of : FnOK Try.prog 57 28 [.cell 2 1 true] ac_law01_of := ⟨_, _, Try.func57, rfl, Try.ntmps57, by kernel_rfl, ⟨fun r => if r == 5 then [1012] else [], by kernel_rfl⟩, by kernel_rfl⟩
set_option maxHeartbeats 4000000 in
theorem law01_of_ok (p1 : (List Int)) (r : Curve) (h : law01_of p1 = some r) : PCall Try.prog 57 [(.list (List.map eInt_i64 p1))] (.agg [(.list (List.map eSpot r.Pts))]) := by
  refine l_call fn_law01_of (Nat.le_of_ble_eq_true rfl) ?_
  unfold law01_of at h
  unfold ac_law01_of
  refine (l_sub (s0 := ⟨T [(0, (.d (.list (List.map eInt_i64 p1))))], G []⟩) (sb_of ⟨.of rfl, trivial⟩ trivial) ?_)
  refine l_seq ?_
  refine l_reg fun u1 hu1 => ?_
  refine s_new (.ptr _ _) (.box _ _) rfl rfl ?_
  refine s_nil ?_
  refine l_seq ?_
  refine l_reg fun u2 hu2 => ?_
  refine s_new (.ptr _ _) (.box _ _) rfl rfl ?_
  refine s_nil ?_
  refine l_seq ?_
  refine l_seq ?_
  refine l_reg fun u3 hu3 => ?_
  refine s_val (.d _) rfl rfl ?_
  refine s_nil ?_
  obtain ⟨y1, hy1, h⟩ := bind_some h
  refine l_join (fun s => ∃ g1 : Nat, Sb ⟨T [(2, (.ptr (2, u1) 0)), (3, (.ptr (3, u2) 0))], G [((2, u1), some (.box 24 [(.d .nilS)])), ((3, u2), some (.box 24 [(oS y1.Pts (25, g1))])), ((25, g1), oB 43 2 eSpot y1.Pts)]⟩ s) ?_ ?_
  · skip
    refine l_block ?_
    refine l_loop (law01_of_l1 p1) (fun (x1 : (Int × Curve)) (g2 : Nat) => ⟨T [(0, (.d (.list (List.map eInt_i64 p1)))), (2, (.ptr (2, u1) 0)), (3, (.ptr (3, u2) 0)), (4, (.d (i64 x1.1)))], G [((2, u1), some (.box 24 [(.d .nilS)])), ((3, u2), some (.box 24 [(oS x1.2.Pts (25, g2))])), ((25, g2), oB 43 2 eSpot x1.2.Pts)]⟩) (0, (Curve.mk [])) 0 _ hy1 (sb_of ⟨.of rfl, .of rfl, .of rfl, .of rfl, trivial⟩ (sbG_some (G_skip rfl G_hit) (.of rfl) (sbG_some G_hit (.of rfl) (sbG_nil trivial)))) ?_
    intro x1 g2 z1 hz1 ez1
    unfold law01_of_l1 at hz1
    refine l_seq ?_
    refine l_seq ?_
    refine l_reg fun u4 hu4 => ?_
    refine s_val (.d _) rfl rfl ?_
    refine s_val (.d _) rfl rfl ?_
    refine s_val (.d _) rfl rfl ?_
    refine s_val (.d _) rfl (v_len rfl) ?_
    refine s_val (.d _) rfl rfl ?_
    refine s_nil ?_
    refine l_cond (decide ((w64 (x1.1 + 1)) < (p1.length : Int))) rfl (fun c1 => ?_) (fun c1 => ?_)
    · replace hz1 := cond_t c1 hz1
      refine l_skip ?_
      refine l_seq ?_
      refine l_block ?_
      refine l_draw rfl fun u5 hu5 => ?_
      refine s_val (.ptr _ _) rfl rfl ?_
      refine s_val (oS x1.2.Pts (25, g2)) rfl (v_load rfl (G_skip rfl G_hit) rfl) ?_
      refine s_val (.d _) rfl rfl ?_
      refine s_val (.d _) rfl rfl ?_
      obtain ⟨v1, hv1, hz1⟩ := bind_some hz1
      refine s_val (.d _) rfl (v_idx rfl rfl hv1 rfl) ?_
      refine s_val (.d _) rfl (v_loadL rfl hv1 rfl) ?_
      refine s_val (.d _) rfl rfl ?_
      refine s_val (.d _) rfl rfl ?_
      refine s_val (.d _) rfl rfl ?_
      obtain ⟨v2, hv2, hz1⟩ := bind_some hz1
      refine s_val (.d _) rfl (v_idx rfl rfl hv2 rfl) ?_
      refine s_val (.d _) rfl (v_loadL rfl hv2 rfl) ?_
      refine s_val (.d _) rfl rfl ?_
      refine s_val (.d (.list (List.map eSpot [(Spot.mk v1 v2)]))) rfl rfl ?_
      obtain ⟨v3, hv3, hz1⟩ := bind_some hz1
      refine s_appendO eSpot (25, g2) x1.2.Pts (Spot.mk v1 v2) [] _ (elems_list (fun _ => rfl)) rfl (G_skip rfl (G_skip rfl G_hit)) hv3 ?_
      refine s_val (.ptr _ _) rfl rfl ?_
      refine s_store _ _ _ _ _ rfl rfl rfl (G_skip rfl (G_skip rfl (G_skip rfl G_hit))) (Nat.le_of_ble_eq_true rfl) [(.sl (25, u5))] rfl ?_
      refine s_nil ?_
      refine l_end ?_
      refine l_sub (s0 := ⟨T [(0, (.d (.list (List.map eInt_i64 p1)))), (2, (.ptr (2, u1) 0)), (3, (.ptr (3, u2) 0)), (4, (.d (i64 x1.1)))], G [((2, u1), some (.box 24 [(.d .nilS)])), ((3, u2), some (.box 24 [(.sl (25, u5))])), ((25, u5), some (.arr 43 2 (List.map eSpot v3)))]⟩) (sb_of ⟨.of rfl, .of rfl, .of rfl, .of rfl, trivial⟩ (sbG_some (G_skip rfl (G_skip rfl (G_skip rfl G_hit))) (.of rfl) (sbG_some G_hit (.of rfl) (sbG_some (G_skip rfl G_hit) (.of rfl) trivial)))) ?_
      refine l_reg fun u6 hu6 => ?_
      refine s_val (.d _) rfl rfl ?_
      refine s_val (.d _) rfl rfl ?_
      refine s_val (.d _) rfl rfl ?_
      refine s_nil ?_
      refine l_nil ?_
      obtain rfl := Option.some.inj hz1
      exact ⟨rfl, u5, (sb_of ⟨.of rfl, .of rfl, .of rfl, .of rfl, trivial⟩ (sbG_some G_hit (.of rfl) (sbG_some (G_skip rfl G_hit) (.box (.cons (.of (oS_ne (appc_ne hv3)).symm) .nil)) (sbG_own (G_skip rfl (G_skip rfl G_hit)) trivial))))⟩
    · replace hz1 := cond_f c1 hz1
      refine l_exitN rfl ?_
      obtain rfl := Option.some.inj hz1
      obtain rfl := ez1 _ rfl
      refine ⟨nofun, awl_pop rfl (l_j ?_)⟩
      exact ⟨g2, (sb_of ⟨.of rfl, .of rfl, trivial⟩ (sbG_some G_hit (.of rfl) (sbG_some (G_skip rfl G_hit) (.of rfl) (sbG_oB (G_skip rfl (G_skip rfl G_hit)) trivial))))⟩
  · rintro _ ⟨g1, q1⟩
    refine l_sub q1 ?_
    refine l_seq ?_
    refine l_reg fun u7 hu7 => ?_
    refine s_val (mkAgg [(oS y1.Pts (25, g1))]) rfl (v_loadG rfl (G_skip rfl G_hit) rfl rfl) ?_
    refine s_store _ _ _ _ _ (cellsV_mkAgg _) rfl rfl G_hit (Nat.le_of_ble_eq_true rfl) [(oS y1.Pts (25, g1))] rfl ?_
    refine s_nil ?_
    refine l_ret ?_
    obtain rfl := Option.some.inj h
    refine fin_ok (.inr rfl) (resD1 (res_cellG rfl G_hit (Nat.le_of_ble_eq_true rfl) rfl) (rf_mkAgg (rfL_cons (rf_oS (G_skip rfl (G_skip rfl (G_skip rfl G_hit)))) rfL_nil))) ?_
    exact (.agg (.cons ⟨oD_le, rfl⟩ .nil))

noncomputable def law01_bent : Option Curve :=
  (law01_of [0, 0, 3000, 4000, 8000, 4000]).bind fun v1 => some v1

/-- kerbstone/kerbstonelaw01.bent -/
def ac_law01_bent : AC :=
  (.seq (.reg [⟨(some 0), .alloc 24 [.nilS], none⟩])
  (.seq (.reg [⟨(some 1), .dslice 2 1 6 [(.v (.int .i64 0))] [(0, 1, (.c (.v (.int .i64 0)))), (1, 1, (.c (.v (.int .i64 0)))), (2, 1, (.c (.v (.int .i64 3000)))), (3, 1, (.c (.v (.int .i64 4000)))), (4, 1, (.c (.v (.int .i64 8000)))), (5, 1, (.c (.v (.int .i64 4000))))], none⟩, ⟨(some 2), .call (.c (.fn (.func 57) [] [])) [(.t 1)], none⟩, ⟨none, .store 1 (.t 0) (.t 2), none⟩])
  .ret))
theorem fn_law01_bent : FnOK Try.prog 56 3 [.cell 0 1 true] ac_law01_bent := ⟨_, _, Try.func56, rfl, Try.ntmps56, by kernel_rfl, ⟨fun r => if r == 1 then [1000] else [], by kernel_rfl⟩, by kernel_rfl⟩
theorem law01_bent_ok (r : Curve) (h : law01_bent = some r) : PCall Try.prog 56 [] (.agg [(.list (List.map eSpot r.Pts))]) := by
  refine l_call fn_law01_bent (Nat.le_of_ble_eq_true rfl) ?_
  unfold law01_bent at h
  unfold ac_law01_bent
  refine (l_sub (s0 := ⟨T [], G []⟩) (sb_of trivial trivial) ?_)
  refine l_seq ?_
  refine l_reg fun u1 hu1 => ?_
  refine s_new (.ptr _ _) (.box _ _) rfl rfl ?_
  refine s_nil ?_
  refine l_seq ?_
  refine l_reg fun u2 hu2 => ?_
  refine s_val (.d (.list (List.map eInt_i64 [0, 0, 3000, 4000, 8000, 4000]))) rfl rfl ?_
  obtain ⟨v1, hv1, h⟩ := bind_some h
  refine s_call rfl rfl all2_refl (law01_of_ok _  _ hv1) (.inl rfl) ?_
  refine s_store _ _ _ _ _ rfl rfl rfl G_hit (Nat.le_of_ble_eq_true rfl) [(.d (.list (List.map eSpot v1.Pts)))] rfl ?_
  refine s_nil ?_
  refine l_ret ?_
  obtain rfl := Option.some.inj h
  refine fin_ok (.inr rfl) (resD1 (res_cellG rfl G_hit (Nat.le_of_ble_eq_true rfl) rfl) rf_d) ?_
  exact (.refl _)

noncomputable def curve_find_l1 (p2 : Int) (x1 : (Int × CurvePiece)) (a1 : (Int × CurvePiece)) : Option (Stp (Int × CurvePiece) (Int × CurvePiece)) :=
  cond ((a1.1 == 0) || (decide (a1.2.start ≤ p2))) (some (.go (a1.1, a1.2))) (some (.go (x1.1, x1.2)))
noncomputable def curve_find (p1 : Curve) (p2 : Int) : Option (Int × CurvePiece × Int) :=
  ((piecesC p1.Pts).bind fun v1 => loopL (curve_find_l1 p2) (fun (x1 : (Int × CurvePiece)) => (x1.1, x1.2)) v1 (0, (CurvePiece.mk (Spot.mk 0 0) (CurveVector.mk 0 0) 0 0))).bind fun y1 => some (y1.1, y1.2, (mm2 true 0 (mm2 false (w64 (p2 - y1.2.start)) y1.2.l)))

/-- kerbstone/curve.find -/
def ac_curve_find : AC :=
  (.seq (.reg [⟨(some 2), .box 24 true (.t 0), none⟩, ⟨(some 3), .box 2 false (.t 1), none⟩, ⟨(some 4), .mv (.c (.v (.int .i64 0))), none⟩, ⟨(some 5), .alloc 89 [(.v (.int .i64 0)), (.v (.int .i64 0)), (.v (.int .i64 0)), (.v (.int .i64 0)), (.v (.int .i64 0)), (.v (.int .i64 0))], none⟩, ⟨(some 6), .mv (.c (.v (.int .i64 0))), none⟩])
  (.seq (.reg [⟨(some 7), .alloc 3 [(.v (.int .i64 0))], none⟩])
  (.seq (.reg [⟨(some 8), .alloc 89 [(.v (.int .i64 0)), (.v (.int .i64 0)), (.v (.int .i64 0)), (.v (.int .i64 0)), (.v (.int .i64 0)), (.v (.int .i64 0))], none⟩])
  (.seq (.seq (.reg [⟨(some 11), .load 1 true (.t 2), none⟩, ⟨(some 12), .call (.c (.fn (.func 66) [] [])) [(.t 11)], none⟩])
  (.block 0
    (.rangeF (.t 12) [13, 14]
      (.seq (.reg [⟨(some 9), .mv (.t 13), none⟩])
      (.reg [⟨(some 10), .alloc 89 [(.v (.int .i64 0)), (.v (.int .i64 0)), (.v (.int .i64 0)), (.v (.int .i64 0)), (.v (.int .i64 0)), (.v (.int .i64 0))], none⟩, ⟨none, .store 6 (.t 10) (.t 14), none⟩]))
      (.block 1
        (.seq (.reg [⟨(some 15), .mv (.t 9), none⟩, ⟨(some 16), .bin .eql (.t 15) (.c (.v (.int .i64 0))), none⟩, ⟨(some 17), .mv (.t 16), none⟩, ⟨(some 18), .fieldA 5 (.t 10), (some (17, false))⟩, ⟨(some 19), .load 1 false (.t 18), (some (17, false))⟩, ⟨(some 20), .load 1 false (.t 3), (some (17, false))⟩, ⟨(some 21), .bin .leq (.t 19) (.t 20), (some (17, false))⟩, ⟨(some 22), .pick (.t 17) (.c (.v (.bool true))) (.t 21), none⟩])
        (.cond (.t 22)
          (.draw [⟨(some 23), .mv (.t 9), none⟩, ⟨(some 24), .load 6 true (.t 10), none⟩, ⟨none, .store 1 (.t 7) (.t 23), none⟩, ⟨none, .store 6 (.t 8) (.t 24), none⟩] [(1, 2)])
          .skip))))))
  (.seq (.draw [⟨(some 25), .load 1 false (.t 7), none⟩, ⟨(some 26), .load 6 true (.t 8), none⟩, ⟨(some 27), .load 1 false (.t 3), none⟩, ⟨(some 28), .fieldA 5 (.t 8), none⟩, ⟨(some 29), .load 1 false (.t 28), none⟩, ⟨(some 30), .bin .sub (.t 27) (.t 29), none⟩, ⟨(some 31), .fieldA 4 (.t 8), none⟩, ⟨(some 32), .load 1 false (.t 31), none⟩, ⟨(some 33), .mm false (.t 30) [(.t 32)], none⟩, ⟨(some 34), .mm true (.c (.v (.int .i64 0))) [(.t 33)], none⟩, ⟨(some 4), .mv (.t 25), none⟩, ⟨none, .store 6 (.t 5) (.t 26), none⟩, ⟨(some 6), .mv (.t 34), none⟩] [(2, 11), (4, 11), (7, 11)])
  .ret)))))
theorem fn_curve_find : FnOK Try.prog 69 35 [.t 4, .cell 5 6 true, .t 6] ac_curve_find := ⟨_, _, Try.func69, rfl, Try.ntmps69, by kernel_rfl, ⟨fun _ => [], by kernel_rfl⟩, by kernel_rfl⟩
set_option maxHeartbeats 4000000 in
theorem curve_find_ok (p1 : Curve) (p2 : Int) (r : (Int × CurvePiece × Int)) (h : curve_find p1 p2 = some r) : PCall Try.prog 69 [(.agg [(.list (List.map eSpot p1.Pts))]), (i64 p2)] (.tup [(i64 r.1), (.agg [(i64 r.2.1.p.X), (i64 r.2.1.p.Y), (i64 r.2.1.v.x), (i64 r.2.1.v.y), (i64 r.2.1.l), (i64 r.2.1.start)]), (i64 r.2.2)]) := by
  refine l_call fn_curve_find (Nat.le_of_ble_eq_true rfl) ?_
  unfold curve_find at h
  unfold ac_curve_find
  refine (l_sub (s0 := ⟨T [(0, (.d (.agg [(.list (List.map eSpot p1.Pts))]))), (1, (.d (i64 p2)))], G []⟩) (sb_of ⟨.of rfl, .of rfl, trivial⟩ trivial) ?_)
  refine l_seq ?_
  refine l_reg fun u1 hu1 => ?_
  refine s_new (.ptr _ _) (.box _ _) rfl rfl ?_
  refine s_new (.ptr _ _) (.box _ _) rfl rfl ?_
  refine s_val (.d _) rfl rfl ?_
  refine s_new (.ptr _ _) (.box _ _) rfl rfl ?_
  refine s_val (.d _) rfl rfl ?_
  refine s_nil ?_
  refine l_seq ?_
  refine l_reg fun u2 hu2 => ?_
  refine s_new (.ptr _ _) (.box _ _) rfl rfl ?_
  refine s_nil ?_
  refine l_seq ?_
  refine l_reg fun u3 hu3 => ?_
  refine s_new (.ptr _ _) (.box _ _) rfl rfl ?_
  refine s_nil ?_
  refine l_seq ?_
  refine l_seq ?_
  refine l_reg fun u4 hu4 => ?_
  refine s_val (.d _) rfl (v_loadG rfl (G_skip rfl (G_skip rfl (G_skip rfl (G_skip rfl G_hit)))) rfl rfl) ?_
  refine s_call rfl rfl all2_refl (pieces_clos p1) (.inl rfl) ?_
  refine s_nil ?_
  obtain ⟨y1, hy1, h⟩ := bind_some h
  refine l_join (fun s => ∃ g1 : Unit, Sb ⟨T [(3, (.ptr (3, u1) 0)), (5, (.ptr (5, u1) 0)), (7, (.ptr (7, u2) 0)), (8, (.ptr (8, u3) 0))], G [((3, u1), some (.box 2 [(.d (i64 p2))])), ((5, u1), some (.box 89 [(.d (i64 0)), (.d (i64 0)), (.d (i64 0)), (.d (i64 0)), (.d (i64 0)), (.d (i64 0))])), ((7, u2), some (.box 3 [(.d (i64 y1.1))])), ((8, u3), some (.box 89 [(.d (i64 y1.2.p.X)), (.d (i64 y1.2.p.Y)), (.d (i64 y1.2.v.x)), (.d (i64 y1.2.v.y)), (.d (i64 y1.2.l)), (.d (i64 y1.2.start))]))]⟩ s) ?_ ?_
  · skip
    refine l_block ?_
    obtain ⟨v1, hv1, hy1⟩ := bind_some hy1
    refine l_sub (s0 := ⟨T [(3, (.ptr (3, u1) 0)), (5, (.ptr (5, u1) 0)), (7, (.ptr (7, u2) 0)), (8, (.ptr (8, u3) 0)), (12, (.d (.fn (.func 86) [] [(.bp [(.list (List.map eSpot p1.Pts))] 0)])))], G [((3, u1), some (.box 2 [(.d (i64 p2))])), ((5, u1), some (.box 89 [(.d (i64 0)), (.d (i64 0)), (.d (i64 0)), (.d (i64 0)), (.d (i64 0)), (.d (i64 0))])), ((7, u2), some (.box 3 [(.d (i64 0))])), ((8, u3), some (.box 89 [(.d (i64 0)), (.d (i64 0)), (.d (i64 0)), (.d (i64 0)), (.d (i64 0)), (.d (i64 0))]))]⟩) (sb_of ⟨.of rfl, .of rfl, .of rfl, .of rfl, .of rfl, trivial⟩ (sbG_some (G_skip rfl (G_skip rfl (G_skip rfl G_hit))) (.of rfl) (sbG_some (G_skip rfl (G_skip rfl G_hit)) (.of rfl) (sbG_some (G_skip rfl G_hit) (.of rfl) (sbG_some G_hit (.of rfl) trivial))))) ?_
    refine l_rangeL (.fn (.func 86) [] [(.bp [(.list (List.map eSpot p1.Pts))] 0)]) ePiece v1 (curve_find_l1 p2) (fun (x1 : (Int × CurvePiece)) => (x1.1, x1.2)) (fun (x1 : (Int × CurvePiece)) (g2 : Unit) => [((3, u1), some (.box 2 [(.d (i64 p2))])), ((5, u1), some (.box 89 [(.d (i64 0)), (.d (i64 0)), (.d (i64 0)), (.d (i64 0)), (.d (i64 0)), (.d (i64 0))])), ((7, u2), some (.box 3 [(.d (i64 x1.1))])), ((8, u3), some (.box 89 [(.d (i64 x1.2.p.X)), (.d (i64 x1.2.p.Y)), (.d (i64 x1.2.v.x)), (.d (i64 x1.2.v.y)), (.d (i64 x1.2.l)), (.d (i64 x1.2.start))]))]) (0, (CurvePiece.mk (Spot.mk 0 0) (CurveVector.mk 0 0) 0 0)) () _ rfl (pieces_iter hv1) (fun _ => rfl) hy1 (sb_of trivial (sbG_some G_hit (.of rfl) (sbG_some (G_skip rfl G_hit) (.of rfl) (sbG_some (G_skip rfl (G_skip rfl G_hit)) (.of rfl) (sbG_some (G_skip rfl (G_skip rfl (G_skip rfl G_hit))) (.of rfl) trivial))))) nofun ?_ ?_
    · intro u6 hu6 hku6
      refine ⟨fun x1 g2 => (G_skip rfl (G_skip rfl (G_skip rfl (G_skip rfl rfl)))), ?_⟩
      intro r1 x1 g2 a1 z1 hrr1 hz1 ez1
      unfold curve_find_l1 at hz1
      show AWL _ _ _ _ _ _ ⟨T [(14, (.d (.agg [(i64 a1.2.p.X), (i64 a1.2.p.Y), (i64 a1.2.v.x), (i64 a1.2.v.y), (i64 a1.2.l), (i64 a1.2.start)]))), (13, (.d (i64 a1.1))), (3, (.ptr (3, u1) 0)), (5, (.ptr (5, u1) 0)), (7, (.ptr (7, u2) 0)), (8, (.ptr (8, u3) 0)), (12, (.d (.fn (.func 86) [] [(.bp [(.list (List.map eSpot p1.Pts))] 0)])))], G [((1000000, u6), some (.obj (T [(3, (.ptr (3, u1) 0)), (5, (.ptr (5, u1) 0)), (7, (.ptr (7, u2) 0)), (8, (.ptr (8, u3) 0)), (12, (.d (.fn (.func 86) [] [(.bp [(.list (List.map eSpot p1.Pts))] 0)])))]) r1)), ((3, u1), some (.box 2 [(.d (i64 p2))])), ((5, u1), some (.box 89 [(.d (i64 0)), (.d (i64 0)), (.d (i64 0)), (.d (i64 0)), (.d (i64 0)), (.d (i64 0))])), ((7, u2), some (.box 3 [(.d (i64 x1.1))])), ((8, u3), some (.box 89 [(.d (i64 x1.2.p.X)), (.d (i64 x1.2.p.Y)), (.d (i64 x1.2.v.x)), (.d (i64 x1.2.v.y)), (.d (i64 x1.2.l)), (.d (i64 x1.2.start))]))]⟩
      refine l_seq ?_
      refine l_reg fun u7 hu7 => ?_
      refine s_val (.d _) rfl rfl ?_
      refine s_nil ?_
      refine l_reg fun u8 hu8 => ?_
      refine s_new (.ptr _ _) (.box _ _) rfl rfl ?_
      refine s_store _ _ _ _ _ rfl rfl rfl G_hit (Nat.le_of_ble_eq_true rfl) [(.d (i64 a1.2.p.X)), (.d (i64 a1.2.p.Y)), (.d (i64 a1.2.v.x)), (.d (i64 a1.2.v.y)), (.d (i64 a1.2.l)), (.d (i64 a1.2.start))] rfl ?_
      refine s_nil ?_
      refine l_j (mid_ok (G_skip rfl (G_skip rfl G_hit)) ?_)
      refine l_block ?_
      refine l_seq ?_
      refine l_reg fun u9 hu9 => ?_
      refine s_val (.d _) rfl rfl ?_
      refine s_val (.d _) rfl rfl ?_
      refine s_val (.d _) rfl rfl ?_
      refine g_val (!(a1.1 == 0)) (.ptr _ _) rfl (gw_f rfl) (fun w1 => rfl) ?_
      refine g_val (!(a1.1 == 0)) (.d _) rfl (gw_f rfl) (fun w2 => (v_load (gd_pos w2) (G_skip rfl G_hit) rfl)) ?_
      refine g_val (!(a1.1 == 0)) (.d _) rfl (gw_f rfl) (fun w3 => (v_load rfl (G_skip rfl (G_skip rfl (G_skip rfl (G_skip rfl G_hit)))) rfl)) ?_
      refine g_val (!(a1.1 == 0)) (.d _) rfl (gw_f rfl) (fun w4 => (v_bin (gd_pos w4) (gd_pos w4) rfl)) ?_
      refine s_val (.d _) rfl (v_or rfl rfl (fun hc => gd_pos (not_t hc))) ?_
      refine s_nil ?_
      refine l_cond ((a1.1 == 0) || (decide (a1.2.start ≤ p2))) rfl (fun c1 => ?_) (fun c1 => ?_)
      · replace hz1 := cond_t c1 hz1
        refine l_sub (s0 := ⟨T [(7, (.ptr (7, u2) 0)), (8, (.ptr (8, u3) 0)), (9, (.d (i64 a1.1))), (10, (.ptr (10, u8) 0))], G [((7, u2), some (.box 3 [(.d (i64 x1.1))])), ((8, u3), some (.box 89 [(.d (i64 x1.2.p.X)), (.d (i64 x1.2.p.Y)), (.d (i64 x1.2.v.x)), (.d (i64 x1.2.v.y)), (.d (i64 x1.2.l)), (.d (i64 x1.2.start))])), ((10, u8), some (.box 89 [(.d (i64 a1.2.p.X)), (.d (i64 a1.2.p.Y)), (.d (i64 a1.2.v.x)), (.d (i64 a1.2.v.y)), (.d (i64 a1.2.l)), (.d (i64 a1.2.start))])), ((3, u1), some (.box 2 [(.d (i64 p2))])), ((5, u1), some (.box 89 [(.d (i64 0)), (.d (i64 0)), (.d (i64 0)), (.d (i64 0)), (.d (i64 0)), (.d (i64 0))])), ((1000000, u6), some (.obj (T [(3, (.ptr (3, u1) 0)), (5, (.ptr (5, u1) 0)), (7, (.ptr (7, u2) 0)), (8, (.ptr (8, u3) 0)), (12, (.d (.fn (.func 86) [] [(.bp [(.list (List.map eSpot p1.Pts))] 0)])))]) { r1 with state := .busy }))]⟩) (sb_of ⟨.of rfl, .of rfl, .of rfl, .of rfl, trivial⟩ (sbG_some (G_skip rfl (G_skip rfl (G_skip rfl (G_skip rfl (G_skip rfl (G_skip rfl G_hit)))))) (.of rfl) (sbG_some (G_skip rfl (G_skip rfl (G_skip rfl (G_skip rfl (G_skip rfl (G_skip rfl (G_skip rfl G_hit))))))) (.of rfl) (sbG_some (G_skip rfl G_hit) (.of rfl) (sbG_some (G_skip rfl (G_skip rfl (G_skip rfl (G_skip rfl G_hit)))) (.of rfl) (sbG_some (G_skip rfl (G_skip rfl (G_skip rfl (G_skip rfl (G_skip rfl G_hit))))) (.of rfl) (sbG_some G_hit (.of rfl) trivial))))))) ?_
        refine l_drawT fun u10 hu10 => ?_
        refine t_val (.d _) rfl rfl ?_
        refine t_val (.d _) rfl (v_loadG rfl (G_skip rfl (G_skip rfl G_hit)) rfl rfl) ?_
        refine t_store _ _ _ _ _ rfl rfl rfl G_hit (Nat.le_of_ble_eq_true rfl) [(.d (i64 a1.1))] rfl ?_
        refine t_store _ _ _ _ _ rfl rfl rfl (G_skip rfl (G_skip rfl G_hit)) (Nat.le_of_ble_eq_true rfl) [(.d (i64 a1.2.p.X)), (.d (i64 a1.2.p.Y)), (.d (i64 a1.2.v.x)), (.d (i64 a1.2.v.y)), (.d (i64 a1.2.l)), (.d (i64 a1.2.start))] rfl ?_
        refine t_nil ⟨rfl, ?_⟩
        refine l_end ?_
        refine l_nil ?_
        obtain rfl := Option.some.inj hz1
        exact rnd_go (G_skip rfl (G_skip rfl (G_skip rfl (G_skip rfl (G_skip rfl (G_skip rfl (G_skip rfl G_hit))))))) () (sbG_some (G_skip rfl (G_skip rfl (G_skip rfl (G_skip rfl (G_skip rfl G_hit))))) (.of rfl) (sbG_some (G_skip rfl (G_skip rfl (G_skip rfl (G_skip rfl (G_skip rfl (G_skip rfl G_hit)))))) (.of rfl) (sbG_some (G_skip rfl G_hit) (.of rfl) (sbG_some G_hit (.of rfl) trivial))))
      · replace hz1 := cond_f c1 hz1
        refine l_skip ?_
        refine l_end ?_
        refine l_nil ?_
        obtain rfl := Option.some.inj hz1
        exact rnd_go G_hit () (sbG_some (G_skip rfl (G_skip rfl (G_skip rfl (G_skip rfl G_hit)))) (.of rfl) (sbG_some (G_skip rfl (G_skip rfl (G_skip rfl (G_skip rfl (G_skip rfl G_hit))))) (.of rfl) (sbG_some (G_skip rfl (G_skip rfl (G_skip rfl (G_skip rfl (G_skip rfl (G_skip rfl G_hit)))))) (.of rfl) (sbG_some (G_skip rfl (G_skip rfl (G_skip rfl (G_skip rfl (G_skip rfl (G_skip rfl (G_skip rfl G_hit))))))) (.of rfl) trivial))))
    · rintro x1 g2 _ rfl qx1
      refine l_end (l_j ?_)
      exact ⟨(), (Sb.after qx1 (sb_of ⟨.of rfl, .of rfl, .of rfl, .of rfl, trivial⟩ (sbG_some G_hit (.of rfl) (sbG_some (G_skip rfl G_hit) (.of rfl) (sbG_some (G_skip rfl (G_skip rfl G_hit)) (.of rfl) (sbG_some (G_skip rfl (G_skip rfl (G_skip rfl G_hit))) (.of rfl) trivial))))))⟩
  · rintro _ ⟨g1, q1⟩
    refine l_sub q1 ?_
    refine l_seq ?_
    refine l_drawT fun u11 hu11 => ?_
    refine t_val (.d _) rfl (v_load rfl (G_skip rfl (G_skip rfl G_hit)) rfl) ?_
    refine t_val (.d _) rfl (v_loadG rfl (G_skip rfl (G_skip rfl (G_skip rfl G_hit))) rfl rfl) ?_
    refine t_val (.d _) rfl (v_load rfl G_hit rfl) ?_
    refine t_val (.ptr _ _) rfl rfl ?_
    refine t_val (.d _) rfl (v_load rfl (G_skip rfl (G_skip rfl (G_skip rfl G_hit))) rfl) ?_
    refine t_val (.d _) rfl rfl ?_
    refine t_val (.ptr _ _) rfl rfl ?_
    refine t_val (.d _) rfl (v_load rfl (G_skip rfl (G_skip rfl (G_skip rfl G_hit))) rfl) ?_
    refine t_val (.d _) rfl rfl ?_
    refine t_val (.d _) rfl rfl ?_
    refine t_val (.d _) rfl rfl ?_
    refine t_store _ _ _ _ _ rfl rfl rfl (G_skip rfl G_hit) (Nat.le_of_ble_eq_true rfl) [(.d (i64 y1.2.p.X)), (.d (i64 y1.2.p.Y)), (.d (i64 y1.2.v.x)), (.d (i64 y1.2.v.y)), (.d (i64 y1.2.l)), (.d (i64 y1.2.start))] rfl ?_
    refine t_val (.d _) rfl rfl ?_
    refine t_nil ⟨rfl, ?_⟩
    refine l_ret ?_
    obtain rfl := Option.some.inj h
    refine fin_ok (.inr rfl) (resD3 (res_t rfl) (res_cellG rfl G_hit (Nat.le_of_ble_eq_true rfl) rfl) (res_t rfl) rf_d rf_d rf_d) ?_
    exact .refl _

noncomputable def curve_floor (p1 : Int) (p2 : Int) : Option Int :=
  (quoc .i64 p1 p2).bind fun v1 => (remc p1 p2).bind fun v2 => cond (decide (v2 < 0)) (some (w64 (v1 - 1))) (some v1)

/-- kerbstone/curve.floor -/
def ac_curve_floor : AC :=
  (.seq (.reg [⟨(some 4), .mv (.c (.v (.int .i64 0))), none⟩])
  (.seq (.reg [⟨(some 6), .mv (.t 0), none⟩, ⟨(some 7), .mv (.t 1), none⟩, ⟨(some 8), .bin .quo (.t 6) (.t 7), none⟩, ⟨(some 5), .mv (.t 8), none⟩])
  (.seq (.seq (.reg [⟨(some 9), .mv (.t 0), none⟩, ⟨(some 10), .mv (.t 1), none⟩, ⟨(some 11), .bin .rem (.t 9) (.t 10), none⟩, ⟨(some 12), .bin .lss (.t 11) (.c (.v (.int .i64 0))), none⟩])
  (.cond (.t 12)
    (.reg [⟨(some 13), .mv (.t 5), none⟩, ⟨(some 14), .bin .sub (.t 13) (.c (.v (.int .i64 1))), none⟩, ⟨(some 5), .mv (.t 14), none⟩])
    .skip))
  (.seq (.reg [⟨(some 15), .mv (.t 5), none⟩, ⟨(some 4), .mv (.t 15), none⟩])
  .ret))))
theorem fn_curve_floor : FnOK Try.prog 70 16 [.t 4] ac_curve_floor := ⟨_, _, Try.func70, rfl, Try.ntmps70, by kernel_rfl, ⟨fun _ => [], by kernel_rfl⟩, by kernel_rfl⟩
theorem curve_floor_ok (p1 : Int) (p2 : Int) (r : Int) (h : curve_floor p1 p2 = some r) : PCall Try.prog 70 [(i64 p1), (i64 p2)] (i64 r) := by
  refine l_call fn_curve_floor (Nat.le_of_ble_eq_true rfl) ?_
  unfold curve_floor at h
  unfold ac_curve_floor
  refine (l_sub (s0 := ⟨T [(0, (.d (i64 p1))), (1, (.d (i64 p2)))], G []⟩) (sb_of ⟨.of rfl, .of rfl, trivial⟩ trivial) ?_)
  refine l_seq ?_
  refine l_reg fun u1 hu1 => ?_
  refine s_val (.d _) rfl rfl ?_
  refine s_nil ?_
  refine l_seq ?_
  refine l_reg fun u2 hu2 => ?_
  refine s_val (.d _) rfl rfl ?_
  refine s_val (.d _) rfl rfl ?_
  obtain ⟨v1, hv1, h⟩ := bind_some h
  refine s_val (.d _) rfl (v_quo rfl rfl hv1) ?_
  refine s_val (.d _) rfl rfl ?_
  refine s_nil ?_
  refine l_seq ?_
  refine l_seq ?_
  refine l_reg fun u3 hu3 => ?_
  refine s_val (.d _) rfl rfl ?_
  refine s_val (.d _) rfl rfl ?_
  obtain ⟨v2, hv2, h⟩ := bind_some h
  refine s_val (.d _) rfl (v_rem rfl rfl hv2) ?_
  refine s_val (.d _) rfl rfl ?_
  refine s_nil ?_
  refine l_cond (decide (v2 < 0)) rfl (fun c1 => ?_) (fun c1 => ?_)
  · replace h := cond_t c1 h
    refine l_reg fun u4 hu4 => ?_
    refine s_val (.d _) rfl rfl ?_
    refine s_val (.d _) rfl rfl ?_
    refine s_val (.d _) rfl rfl ?_
    refine s_nil ?_
    refine l_seq ?_
    refine l_reg fun u5 hu5 => ?_
    refine s_val (.d _) rfl rfl ?_
    refine s_val (.d _) rfl rfl ?_
    refine s_nil ?_
    refine l_ret ?_
    obtain rfl := Option.some.inj h
    refine fin_ok (.inr rfl) (resD1 (res_t rfl) rf_d) ?_
    exact (.refl _)
  · replace h := cond_f c1 h
    refine l_skip ?_
    refine l_seq ?_
    refine l_reg fun u6 hu6 => ?_
    refine s_val (.d _) rfl rfl ?_
    refine s_val (.d _) rfl rfl ?_
    refine s_nil ?_
    refine l_ret ?_
    obtain rfl := Option.some.inj h
    refine fin_ok (.inr rfl) (resD1 (res_t rfl) rf_d) ?_
    exact (.refl _)

noncomputable def curve_At (p1 : Curve) (p2 : Int) : Option Spot :=
  (curve_Check p1).bind fun v1 => cond (v1 != 0) (some (Spot.mk 0 0)) ((curve_find p1 (mm2 true 0 p2)).bind fun v2 => (curve_floor (w64 (v2.2.1.v.x * v2.2.2)) v2.2.1.l).bind fun v3 => (curve_floor (w64 (v2.2.1.v.y * v2.2.2)) v2.2.1.l).bind fun v4 => some (Spot.mk (w64 (v2.2.1.p.X + v3)) (w64 (v2.2.1.p.Y + v4))))

/-- kerbstone/curve.At -/
def ac_curve_At : AC :=
  (.seq (.reg [⟨(some 2), .box 24 true (.t 0), none⟩, ⟨(some 4), .alloc 43 [(.v (.int .i64 0)), (.v (.int .i64 0))], none⟩])
  (.seq (.seq (.reg [⟨(some 8), .load 1 true (.t 2), none⟩, ⟨(some 9), .call (.c (.fn (.func 20) [] [])) [(.t 8)], none⟩, ⟨(some 10), .bin .neq (.t 9) (.c (.v (.int .i64 0))), none⟩])
  (.cond (.t 10)
    (.seq (.reg [⟨(some 11), .build [(.v (.int .i64 0)), (.v (.int .i64 0))] [], none⟩, ⟨none, .store 2 (.t 4) (.t 11), none⟩])
    .ret)
    .skip))
  (.seq (.reg [⟨(some 13), .load 1 true (.t 2), none⟩, ⟨(some 14), .mv (.t 1), none⟩, ⟨(some 15), .mm true (.c (.v (.int .i64 0))) [(.t 14)], none⟩, ⟨(some 16), .call (.c (.fn (.func 69) [] [])) [(.t 13), (.t 15)], none⟩, ⟨(some 12), .mv (.t 16), none⟩, ⟨(some 17), .ext (.t 12) 0, none⟩, ⟨(some 18), .ext (.t 12) 1, none⟩, ⟨(some 19), .ext (.t 12) 2, none⟩, ⟨(some 6), .alloc 89 [(.v (.int .i64 0)), (.v (.int .i64 0)), (.v (.int .i64 0)), (.v (.int .i64 0)), (.v (.int .i64 0)), (.v (.int .i64 0))], none⟩, ⟨(some 5), .mv (.t 17), none⟩, ⟨none, .store 6 (.t 6) (.t 18), none⟩, ⟨(some 7), .mv (.t 19), none⟩])
  (.seq (.draw [⟨(some 20), .fieldA 0 (.t 6), none⟩, ⟨(some 21), .fieldA 0 (.t 20), none⟩, ⟨(some 22), .load 1 false (.t 21), none⟩, ⟨(some 23), .fieldA 2 (.t 6), none⟩, ⟨(some 24), .fieldA 0 (.t 23), none⟩, ⟨(some 25), .load 1 false (.t 24), none⟩, ⟨(some 26), .mv (.t 7), none⟩, ⟨(some 27), .bin .mul (.t 25) (.t 26), none⟩, ⟨(some 28), .fieldA 4 (.t 6), none⟩, ⟨(some 29), .load 1 false (.t 28), none⟩, ⟨(some 30), .call (.c (.fn (.func 70) [] [])) [(.t 27), (.t 29)], none⟩, ⟨(some 31), .bin .add (.t 22) (.t 30), none⟩, ⟨(some 32), .fieldA 0 (.t 6), none⟩, ⟨(some 33), .fieldA 1 (.t 32), none⟩, ⟨(some 34), .load 1 false (.t 33), none⟩, ⟨(some 35), .fieldA 2 (.t 6), none⟩, ⟨(some 36), .fieldA 1 (.t 35), none⟩, ⟨(some 37), .load 1 false (.t 36), none⟩, ⟨(some 38), .mv (.t 7), none⟩, ⟨(some 39), .bin .mul (.t 37) (.t 38), none⟩, ⟨(some 40), .fieldA 4 (.t 6), none⟩, ⟨(some 41), .load 1 false (.t 40), none⟩, ⟨(some 42), .call (.c (.fn (.func 70) [] [])) [(.t 39), (.t 41)], none⟩, ⟨(some 43), .bin .add (.t 34) (.t 42), none⟩, ⟨(some 44), .build [(.v (.int .i64 0)), (.v (.int .i64 0))] [(0, 1, (.t 31)), (1, 1, (.t 43))], none⟩, ⟨none, .store 2 (.t 4) (.t 44), none⟩] [])
  .ret))))
theorem fn_curve_At : FnOK Try.prog 31 45 [.cell 4 2 true] ac_curve_At := ⟨_, _, Try.func31, rfl, Try.ntmps31, by kernel_rfl, ⟨fun _ => [], by kernel_rfl⟩, by kernel_rfl⟩
set_option maxHeartbeats 4000000 in
theorem curve_At_ok (p1 : Curve) (p2 : Int) (r : Spot) (h : curve_At p1 p2 = some r) : PCall Try.prog 31 [(.agg [(.list (List.map eSpot p1.Pts))]), (i64 p2)] (.agg [(i64 r.X), (i64 r.Y)]) := by
  refine l_call fn_curve_At (Nat.le_of_ble_eq_true rfl) ?_
  unfold curve_At at h
  unfold ac_curve_At
  refine (l_sub (s0 := ⟨T [(0, (.d (.agg [(.list (List.map eSpot p1.Pts))]))), (1, (.d (i64 p2)))], G []⟩) (sb_of ⟨.of rfl, .of rfl, trivial⟩ trivial) ?_)
  refine l_seq ?_
  refine l_reg fun u1 hu1 => ?_
  refine s_new (.ptr _ _) (.box _ _) rfl rfl ?_
  refine s_new (.ptr _ _) (.box _ _) rfl rfl ?_
  refine s_nil ?_
  refine l_seq ?_
  refine l_seq ?_
  refine l_reg fun u2 hu2 => ?_
  refine s_val (.d _) rfl (v_loadG rfl (G_skip rfl G_hit) rfl rfl) ?_
  obtain ⟨v1, hv1, h⟩ := bind_some h
  refine s_call rfl rfl all2_refl (curve_Check_ok _  _ hv1) (.inl rfl) ?_
  refine s_val (.d _) rfl rfl ?_
  refine s_nil ?_
  refine l_cond (v1 != 0) rfl (fun c1 => ?_) (fun c1 => ?_)
  · replace h := cond_t c1 h
    refine l_seq ?_
    refine l_reg fun u3 hu3 => ?_
    refine s_val (.d _) rfl rfl ?_
    refine s_store _ _ _ _ _ rfl rfl rfl G_hit (Nat.le_of_ble_eq_true rfl) [(.d (i64 0)), (.d (i64 0))] rfl ?_
    refine s_nil ?_
    refine l_ret ?_
    obtain rfl := Option.some.inj h
    refine fin_ok (.inr rfl) (resD1 (res_cellG rfl G_hit (Nat.le_of_ble_eq_true rfl) rfl) rf_d) ?_
    exact (.refl _)
  · replace h := cond_f c1 h
    refine l_skip ?_
    refine l_seq ?_
    refine l_reg fun u4 hu4 => ?_
    refine s_val (.d _) rfl (v_loadG rfl (G_skip rfl G_hit) rfl rfl) ?_
    refine s_val (.d _) rfl rfl ?_
    refine s_val (.d _) rfl rfl ?_
    obtain ⟨v2, hv2, h⟩ := bind_some h
    refine s_call rfl rfl all2_refl (curve_find_ok _ _  _ hv2) (.inl rfl) ?_
    refine s_val (.d _) rfl rfl ?_
    refine s_val (.d _) rfl rfl ?_
    refine s_val (.d _) rfl rfl ?_
    refine s_val (.d _) rfl rfl ?_
    refine s_new (.ptr _ _) (.box _ _) rfl rfl ?_
    refine s_val (.d _) rfl rfl ?_
    refine s_store _ _ _ _ _ rfl rfl rfl G_hit (Nat.le_of_ble_eq_true rfl) [(.d (i64 v2.2.1.p.X)), (.d (i64 v2.2.1.p.Y)), (.d (i64 v2.2.1.v.x)), (.d (i64 v2.2.1.v.y)), (.d (i64 v2.2.1.l)), (.d (i64 v2.2.1.start))] rfl ?_
    refine s_val (.d _) rfl rfl ?_
    refine s_nil ?_
    refine l_seq ?_
    refine l_draw rfl fun u5 hu5 => ?_
    refine s_val (.ptr _ _) rfl rfl ?_
    refine s_val (.ptr _ _) rfl rfl ?_
    refine s_val (.d _) rfl (v_load rfl G_hit rfl) ?_
    refine s_val (.ptr _ _) rfl rfl ?_
    refine s_val (.ptr _ _) rfl rfl ?_
    refine s_val (.d _) rfl (v_load rfl G_hit rfl) ?_
    refine s_val (.d _) rfl rfl ?_
    refine s_val (.d _) rfl rfl ?_
    refine s_val (.ptr _ _) rfl rfl ?_
    refine s_val (.d _) rfl (v_load rfl G_hit rfl) ?_
    obtain ⟨v3, hv3, h⟩ := bind_some h
    refine s_call rfl rfl all2_refl (curve_floor_ok _ _  _ hv3) (.inl rfl) ?_
    refine s_val (.d _) rfl rfl ?_
    refine s_val (.ptr _ _) rfl rfl ?_
    refine s_val (.ptr _ _) rfl rfl ?_
    refine s_val (.d _) rfl (v_load rfl G_hit rfl) ?_
    refine s_val (.ptr _ _) rfl rfl ?_
    refine s_val (.ptr _ _) rfl rfl ?_
    refine s_val (.d _) rfl (v_load rfl G_hit rfl) ?_
    refine s_val (.d _) rfl rfl ?_
    refine s_val (.d _) rfl rfl ?_
    refine s_val (.ptr _ _) rfl rfl ?_
    refine s_val (.d _) rfl (v_load rfl G_hit rfl) ?_
    obtain ⟨v4, hv4, h⟩ := bind_some h
    refine s_call rfl rfl all2_refl (curve_floor_ok _ _  _ hv4) (.inl rfl) ?_
    refine s_val (.d _) rfl rfl ?_
    refine s_val (.d _) rfl rfl ?_
    refine s_store _ _ _ _ _ rfl rfl rfl (G_skip rfl (G_skip rfl G_hit)) (Nat.le_of_ble_eq_true rfl) [(.d (i64 (w64 (v2.2.1.p.X + v3)))), (.d (i64 (w64 (v2.2.1.p.Y + v4))))] rfl ?_
    refine s_nil ?_
    refine l_ret ?_
    obtain rfl := Option.some.inj h
    refine fin_ok (.inr rfl) (resD1 (res_cellG rfl G_hit (Nat.le_of_ble_eq_true rfl) rfl) rf_d) ?_
    exact (.refl _)
end Go.Abs.Curve
