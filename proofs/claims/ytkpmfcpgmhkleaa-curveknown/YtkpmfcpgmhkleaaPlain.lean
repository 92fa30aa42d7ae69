/-
  Plain facts on the functions: what they compute, and that the law holds of it.
-/
import Derived.Test.YtkpmfcpgmhkleaaFns3

set_option maxRecDepth 100000
set_option linter.unusedVariables false
namespace Go.Abs.Curve
open Go Go.Abs
def law01_of_l1c (p1 : (List Int)) (x1 : (Int × Curve)) : Option (Stp (Int × Curve) Curve) :=
  cond (decide ((w64 (x1.1 + 1)) < (p1.length : Int))) ((geti p1 x1.1).bind fun v1 => (geti p1 (w64 (x1.1 + 1))).bind fun v2 => (appc x1.2.Pts [(Spot.mk v1 v2)]).bind fun v3 => some (.go ((w64 (x1.1 + 2)), (Curve.mk v3)))) (some (.out x1.2))
theorem law01_of_l1_le (p1 : (List Int)) (x1 : (Int × Curve)) : Le (law01_of_l1c p1 x1) (law01_of_l1 p1 x1) := by
  unfold law01_of_l1c law01_of_l1
  repeat' first | exact Le.refl _ | refine Le.bind ?_ fun _ => ?_ | refine Le.cond ?_ ?_ | refine Le.ite ?_ ?_ | refine Le.thenS ?_ (fun _ => ?_) (fun _ => ?_) | refine Le.loop (fun _ => ?_) _ | refine Le.loopL (fun _ _ => ?_) _ _
def law01_ofc (p1 : (List Int)) : Option Curve :=
  (loopF (law01_of_l1c p1) (0, (Curve.mk []))).bind fun y1 => some y1
theorem law01_of_le (p1 : (List Int)) : Le (law01_ofc p1) (law01_of p1) := by
  unfold law01_ofc law01_of
  repeat' first | exact Le.refl _ | exact law01_of_l1_le _ _ | refine Le.bind ?_ fun _ => ?_ | refine Le.cond ?_ ?_ | refine Le.ite ?_ ?_ | refine Le.thenS ?_ (fun _ => ?_) (fun _ => ?_) | refine Le.loop (fun _ => ?_) _ | refine Le.loopL (fun _ _ => ?_) _ _
def law01_bentc : Option Curve :=
  (law01_ofc [0, 0, 3000, 4000, 8000, 4000]).bind fun v1 => some v1
theorem law01_bent_le : Le (law01_bentc) (law01_bent) := by
  unfold law01_bentc law01_bent
  repeat' first | exact Le.refl _ | exact law01_of_le _ | refine Le.bind ?_ fun _ => ?_ | refine Le.cond ?_ ?_ | refine Le.ite ?_ ?_ | refine Le.thenS ?_ (fun _ => ?_) (fun _ => ?_) | refine Le.loop (fun _ => ?_) _ | refine Le.loopL (fun _ _ => ?_) _ _
def curve_fair_l1c (p1 : (List Spot)) (x1 : Int) : Option (Stp Int (Sum Unit Bool)) :=
  cond (decide (x1 < (p1.length : Int))) ((geti p1 x1).bind fun v1 => cond ((decide ((mm2 false v1.X v1.Y) < (-16777216))) || (decide ((mm2 true v1.X v1.Y) > 16777216))) (some (.out (.inr false))) (some (.go (w64 (x1 + 1))))) (some (.out (.inl ())))
theorem curve_fair_l1_le (p1 : (List Spot)) (x1 : Int) : Le (curve_fair_l1c p1 x1) (curve_fair_l1 p1 x1) := by
  unfold curve_fair_l1c curve_fair_l1
  repeat' first | exact Le.refl _ | refine Le.bind ?_ fun _ => ?_ | refine Le.cond ?_ ?_ | refine Le.ite ?_ ?_ | refine Le.thenS ?_ (fun _ => ?_) (fun _ => ?_) | refine Le.loop (fun _ => ?_) _ | refine Le.loopL (fun _ _ => ?_) _ _
def curve_fairc (p1 : (List Spot)) : Option Bool :=
  thenS (loopF (curve_fair_l1c p1) 0) (fun _ => some true) (fun r => some r)
theorem curve_fair_le (p1 : (List Spot)) : Le (curve_fairc p1) (curve_fair p1) := by
  unfold curve_fairc curve_fair
  repeat' first | exact Le.refl _ | exact curve_fair_l1_le _ _ | refine Le.bind ?_ fun _ => ?_ | refine Le.cond ?_ ?_ | refine Le.ite ?_ ?_ | refine Le.thenS ?_ (fun _ => ?_) (fun _ => ?_) | refine Le.loop (fun _ => ?_) _ | refine Le.loopL (fun _ _ => ?_) _ _
def curve_fromc (p1 : Spot) (p2 : Spot) : Option CurveVector :=
  some (CurveVector.mk (w64 (p2.X - p1.X)) (w64 (p2.Y - p1.Y)))
theorem curve_from_le (p1 : Spot) (p2 : Spot) : Le (curve_fromc p1 p2) (curve_from p1 p2) := by
  unfold curve_fromc curve_from
  repeat' first | exact Le.refl _ | refine Le.bind ?_ fun _ => ?_ | refine Le.cond ?_ ?_ | refine Le.ite ?_ ?_ | refine Le.thenS ?_ (fun _ => ?_) (fun _ => ?_) | refine Le.loop (fun _ => ?_) _ | refine Le.loopL (fun _ _ => ?_) _ _
def curve_vector_dotc (p1 : CurveVector) (p2 : CurveVector) : Option Int :=
  some (w64 ((w64 (p1.x * p2.x)) + (w64 (p1.y * p2.y))))
theorem curve_vector_dot_le (p1 : CurveVector) (p2 : CurveVector) : Le (curve_vector_dotc p1 p2) (curve_vector_dot p1 p2) := by
  unfold curve_vector_dotc curve_vector_dot
  repeat' first | exact Le.refl _ | refine Le.bind ?_ fun _ => ?_ | refine Le.cond ?_ ?_ | refine Le.ite ?_ ?_ | refine Le.thenS ?_ (fun _ => ?_) (fun _ => ?_) | refine Le.loop (fun _ => ?_) _ | refine Le.loopL (fun _ _ => ?_) _ _
def curve_root_l1c (p1 : Int) (x1 : (Int × Int)) : Option (Stp (Int × Int) Int) :=
  cond (decide (x1.1 < x1.2)) (cond (decide ((w64 ((w64 ((w64 (x1.1 + x1.2)).tdiv 2)) * (w64 ((w64 (x1.1 + x1.2)).tdiv 2)))) < p1)) (some (.go ((w64 ((w64 ((w64 (x1.1 + x1.2)).tdiv 2)) + 1)), x1.2))) (some (.go (x1.1, (w64 ((w64 (x1.1 + x1.2)).tdiv 2)))))) (some (.out x1.1))
theorem curve_root_l1_le (p1 : Int) (x1 : (Int × Int)) : Le (curve_root_l1c p1 x1) (curve_root_l1 p1 x1) := by
  unfold curve_root_l1c curve_root_l1
  repeat' first | exact Le.refl _ | refine Le.bind ?_ fun _ => ?_ | refine Le.cond ?_ ?_ | refine Le.ite ?_ ?_ | refine Le.thenS ?_ (fun _ => ?_) (fun _ => ?_) | refine Le.loop (fun _ => ?_) _ | refine Le.loopL (fun _ _ => ?_) _ _
def curve_rootc (p1 : Int) : Option (Int × Bool) :=
  (loopF (curve_root_l1c p1) (0, 67108864)).bind fun y1 => some (y1, ((w64 (y1 * y1)) == p1))
theorem curve_root_le (p1 : Int) : Le (curve_rootc p1) (curve_root p1) := by
  unfold curve_rootc curve_root
  repeat' first | exact Le.refl _ | exact curve_root_l1_le _ _ | refine Le.bind ?_ fun _ => ?_ | refine Le.cond ?_ ?_ | refine Le.ite ?_ ?_ | refine Le.thenS ?_ (fun _ => ?_) (fun _ => ?_) | refine Le.loop (fun _ => ?_) _ | refine Le.loopL (fun _ _ => ?_) _ _
def curve_Check_l1c (p1 : Curve) (x1 : (Int × CurveVector)) : Option (Stp (Int × CurveVector) (Sum Unit Int)) :=
  cond (decide (x1.1 < (w64 ((p1.Pts.length : Int) - 1)))) ((geti p1.Pts x1.1).bind fun v2 => (geti p1.Pts (w64 (x1.1 + 1))).bind fun v3 => (curve_fromc v2 v3).bind fun v4 => (curve_vector_dotc v4 v4).bind fun v5 => (curve_rootc v5).bind fun v6 => cond (!v6.2) (some (.out (.inr 3))) (cond ((decide (v6.1 < 1000)) || (decide (v6.1 > 1048576))) (some (.out (.inr 2))) (((cond (decide (x1.1 > 0)) (curve_vector_dotc x1.2 v4) (some default))).bind fun v7 => cond ((decide (x1.1 > 0)) && (decide (v7 ≤ 0))) (some (.out (.inr 12))) (some (.go ((w64 (x1.1 + 1)), v4)))))) (some (.out (.inl ())))
theorem curve_Check_l1_le (p1 : Curve) (x1 : (Int × CurveVector)) : Le (curve_Check_l1c p1 x1) (curve_Check_l1 p1 x1) := by
  unfold curve_Check_l1c curve_Check_l1
  repeat' first | exact Le.refl _ | exact curve_from_le _ _ | exact curve_vector_dot_le _ _ | exact curve_root_le _ | refine Le.bind ?_ fun _ => ?_ | refine Le.cond ?_ ?_ | refine Le.ite ?_ ?_ | refine Le.thenS ?_ (fun _ => ?_) (fun _ => ?_) | refine Le.loop (fun _ => ?_) _ | refine Le.loopL (fun _ _ => ?_) _ _
def curve_Checkc (p1 : Curve) : Option Int :=
  cond (decide ((p1.Pts.length : Int) < 2)) (some 6) (cond (decide ((p1.Pts.length : Int) > 16)) (some 5) ((curve_fairc p1.Pts).bind fun v1 => cond (!v1) (some 2) (thenS (loopF (curve_Check_l1c p1) (0, (CurveVector.mk 0 0))) (fun _ => some 0) (fun r => some r))))
theorem curve_Check_le (p1 : Curve) : Le (curve_Checkc p1) (curve_Check p1) := by
  unfold curve_Checkc curve_Check
  repeat' first | exact Le.refl _ | exact curve_fair_le _ | exact curve_Check_l1_le _ _ | refine Le.bind ?_ fun _ => ?_ | refine Le.cond ?_ ?_ | refine Le.ite ?_ ?_ | refine Le.thenS ?_ (fun _ => ?_) (fun _ => ?_) | refine Le.loop (fun _ => ?_) _ | refine Le.loopL (fun _ _ => ?_) _ _
def piecesGoc (pts : List Spot) : Nat → Nat → Int → Option (List (Int × CurvePiece))
  | 0, _, _ => some []
  | n + 1, i, start => (pts[i]?).bind fun p => (pts[i + 1]?).bind fun q => (curve_fromc p q).bind fun v => (curve_vector_dotc v v).bind fun d => (curve_rootc d).bind fun r =>
    (piecesGoc pts n (i + 1) (w64 (start + r.1))).bind fun l => some (((i : Int), CurvePiece.mk p v r.1 start) :: l)
theorem piecesGo_le (pts : List Spot) : ∀ (n i : Nat) (s : Int), Le (piecesGoc pts n i s) (piecesGo pts n i s)
  | 0, i, s => Le.refl _
  | n + 1, i, s => by
    rw [piecesGo, piecesGoc]
    exact Le.bind (Le.refl _) fun _ => Le.bind (Le.refl _) fun _ => Le.bind (curve_from_le _ _) fun _ => Le.bind (curve_vector_dot_le _ _) fun _ => Le.bind (curve_root_le _) fun _ => Le.bind (piecesGo_le pts n _ _) fun _ => Le.refl _
def piecesCc (pts : List Spot) : Option (List (Int × CurvePiece)) := if pts.length ≤ 1000000 then piecesGoc pts (pts.length - 1) 0 0 else none
theorem piecesC_le (pts : List Spot) : Le (piecesCc pts) (piecesC pts) := by
  unfold piecesCc piecesC
  repeat' first | exact Le.refl _ | exact piecesGo_le _ _ _ _ | refine Le.bind ?_ fun _ => ?_ | refine Le.cond ?_ ?_ | refine Le.ite ?_ ?_ | refine Le.thenS ?_ (fun _ => ?_) (fun _ => ?_) | refine Le.loop (fun _ => ?_) _ | refine Le.loopL (fun _ _ => ?_) _ _
def curve_Pieces_l1c (x1 : (List Int)) (a1 : (Int × CurvePiece)) : Option (Stp (List Int) (List Int)) :=
  (appc x1 [a1.2.l]).bind fun v3 => some (.go v3)
theorem curve_Pieces_l1_le (x1 : (List Int)) (a1 : (Int × CurvePiece)) : Le (curve_Pieces_l1c x1 a1) (curve_Pieces_l1 x1 a1) := by
  unfold curve_Pieces_l1c curve_Pieces_l1
  repeat' first | exact Le.refl _ | refine Le.bind ?_ fun _ => ?_ | refine Le.cond ?_ ?_ | refine Le.ite ?_ ?_ | refine Le.thenS ?_ (fun _ => ?_) (fun _ => ?_) | refine Le.loop (fun _ => ?_) _ | refine Le.loopL (fun _ _ => ?_) _ _
def curve_Piecesc (p1 : Curve) : Option (List Int) :=
  (curve_Checkc p1).bind fun v1 => cond (v1 != 0) (some []) (((piecesCc p1.Pts).bind fun v2 => loopL (curve_Pieces_l1c) (fun (x1 : (List Int)) => x1) v2 []).bind fun y1 => some y1)
theorem curve_Pieces_le (p1 : Curve) : Le (curve_Piecesc p1) (curve_Pieces p1) := by
  unfold curve_Piecesc curve_Pieces
  repeat' first | exact Le.refl _ | exact curve_Check_le _ | exact piecesC_le _ | exact curve_Pieces_l1_le _ _ | refine Le.bind ?_ fun _ => ?_ | refine Le.cond ?_ ?_ | refine Le.ite ?_ ?_ | refine Le.thenS ?_ (fun _ => ?_) (fun _ => ?_) | refine Le.loop (fun _ => ?_) _ | refine Le.loopL (fun _ _ => ?_) _ _
def curve_Length_l1c (v1 : (List Int)) (x1 : (Int × Int)) : Option (Stp (Int × Int) Int) :=
  cond (decide (x1.2 < (v1.length : Int))) ((geti v1 x1.2).bind fun v2 => some (.go ((w64 (x1.1 + v2)), (w64 (x1.2 + 1))))) (some (.out x1.1))
theorem curve_Length_l1_le (v1 : (List Int)) (x1 : (Int × Int)) : Le (curve_Length_l1c v1 x1) (curve_Length_l1 v1 x1) := by
  unfold curve_Length_l1c curve_Length_l1
  repeat' first | exact Le.refl _ | refine Le.bind ?_ fun _ => ?_ | refine Le.cond ?_ ?_ | refine Le.ite ?_ ?_ | refine Le.thenS ?_ (fun _ => ?_) (fun _ => ?_) | refine Le.loop (fun _ => ?_) _ | refine Le.loopL (fun _ _ => ?_) _ _
def curve_Lengthc (p1 : Curve) : Option Int :=
  (curve_Piecesc p1).bind fun v1 => (loopF (curve_Length_l1c v1) (0, 0)).bind fun y1 => some y1
theorem curve_Length_le (p1 : Curve) : Le (curve_Lengthc p1) (curve_Length p1) := by
  unfold curve_Lengthc curve_Length
  repeat' first | exact Le.refl _ | exact curve_Pieces_le _ | exact curve_Length_l1_le _ _ | refine Le.bind ?_ fun _ => ?_ | refine Le.cond ?_ ?_ | refine Le.ite ?_ ?_ | refine Le.thenS ?_ (fun _ => ?_) (fun _ => ?_) | refine Le.loop (fun _ => ?_) _ | refine Le.loopL (fun _ _ => ?_) _ _
def curve_find_l1c (p2 : Int) (x1 : (Int × CurvePiece)) (a1 : (Int × CurvePiece)) : Option (Stp (Int × CurvePiece) (Int × CurvePiece)) :=
  cond ((a1.1 == 0) || (decide (a1.2.start ≤ p2))) (some (.go (a1.1, a1.2))) (some (.go (x1.1, x1.2)))
theorem curve_find_l1_le (p2 : Int) (x1 : (Int × CurvePiece)) (a1 : (Int × CurvePiece)) : Le (curve_find_l1c p2 x1 a1) (curve_find_l1 p2 x1 a1) := by
  unfold curve_find_l1c curve_find_l1
  repeat' first | exact Le.refl _ | refine Le.bind ?_ fun _ => ?_ | refine Le.cond ?_ ?_ | refine Le.ite ?_ ?_ | refine Le.thenS ?_ (fun _ => ?_) (fun _ => ?_) | refine Le.loop (fun _ => ?_) _ | refine Le.loopL (fun _ _ => ?_) _ _
def curve_findc (p1 : Curve) (p2 : Int) : Option (Int × CurvePiece × Int) :=
  ((piecesCc p1.Pts).bind fun v1 => loopL (curve_find_l1c p2) (fun (x1 : (Int × CurvePiece)) => (x1.1, x1.2)) v1 (0, (CurvePiece.mk (Spot.mk 0 0) (CurveVector.mk 0 0) 0 0))).bind fun y1 => some (y1.1, y1.2, (mm2 true 0 (mm2 false (w64 (p2 - y1.2.start)) y1.2.l)))
theorem curve_find_le (p1 : Curve) (p2 : Int) : Le (curve_findc p1 p2) (curve_find p1 p2) := by
  unfold curve_findc curve_find
  repeat' first | exact Le.refl _ | exact piecesC_le _ | exact curve_find_l1_le _ _ _ | refine Le.bind ?_ fun _ => ?_ | refine Le.cond ?_ ?_ | refine Le.ite ?_ ?_ | refine Le.thenS ?_ (fun _ => ?_) (fun _ => ?_) | refine Le.loop (fun _ => ?_) _ | refine Le.loopL (fun _ _ => ?_) _ _
def curve_floorc (p1 : Int) (p2 : Int) : Option Int :=
  (quoc .i64 p1 p2).bind fun v1 => (remc p1 p2).bind fun v2 => cond (decide (v2 < 0)) (some (w64 (v1 - 1))) (some v1)
theorem curve_floor_le (p1 : Int) (p2 : Int) : Le (curve_floorc p1 p2) (curve_floor p1 p2) := by
  unfold curve_floorc curve_floor
  repeat' first | exact Le.refl _ | refine Le.bind ?_ fun _ => ?_ | refine Le.cond ?_ ?_ | refine Le.ite ?_ ?_ | refine Le.thenS ?_ (fun _ => ?_) (fun _ => ?_) | refine Le.loop (fun _ => ?_) _ | refine Le.loopL (fun _ _ => ?_) _ _
def curve_Atc (p1 : Curve) (p2 : Int) : Option Spot :=
  (curve_Checkc p1).bind fun v1 => cond (v1 != 0) (some (Spot.mk 0 0)) ((curve_findc p1 (mm2 true 0 p2)).bind fun v2 => (curve_floorc (w64 (v2.2.1.v.x * v2.2.2)) v2.2.1.l).bind fun v3 => (curve_floorc (w64 (v2.2.1.v.y * v2.2.2)) v2.2.1.l).bind fun v4 => some (Spot.mk (w64 (v2.2.1.p.X + v3)) (w64 (v2.2.1.p.Y + v4))))
theorem curve_At_le (p1 : Curve) (p2 : Int) : Le (curve_Atc p1 p2) (curve_At p1 p2) := by
  unfold curve_Atc curve_At
  repeat' first | exact Le.refl _ | exact curve_Check_le _ | exact curve_find_le _ _ | exact curve_floor_le _ _ | refine Le.bind ?_ fun _ => ?_ | refine Le.cond ?_ ?_ | refine Le.ite ?_ ?_ | refine Le.thenS ?_ (fun _ => ?_) (fun _ => ?_) | refine Le.loop (fun _ => ?_) _ | refine Le.loopL (fun _ _ => ?_) _ _
def law01_awakec : Option Bool :=
  (law01_bentc).bind fun v1 => (curve_Lengthc v1).bind fun v2 => ((cond (v2 == 10000) (law01_bentc) (some default))).bind fun v3 => ((cond (v2 == 10000) (curve_Atc v3 2500) (some default))).bind fun v4 => ((cond ((v2 == 10000) && (v4.X == 1500 && (v4.Y == 2000 && true))) (law01_ofc [0, 0, 1000, 1000]) (some default))).bind fun v5 => ((cond ((v2 == 10000) && (v4.X == 1500 && (v4.Y == 2000 && true))) (curve_Checkc v5) (some default))).bind fun v6 => some (((v2 == 10000) && (v4.X == 1500 && (v4.Y == 2000 && true))) && (v6 == 3))
theorem law01_awake_le : Le (law01_awakec) (law01_awake) := by
  unfold law01_awakec law01_awake
  repeat' first | exact Le.refl _ | exact law01_bent_le | exact curve_Length_le _ | exact curve_At_le _ _ | exact law01_of_le _ | exact curve_Check_le _ | refine Le.bind ?_ fun _ => ?_ | refine Le.cond ?_ ?_ | refine Le.ite ?_ ?_ | refine Le.thenS ?_ (fun _ => ?_) (fun _ => ?_) | refine Le.loop (fun _ => ?_) _ | refine Le.loopL (fun _ _ => ?_) _ _
def kit_SameLongs_l1c (p1 : (List Int)) (p2 : (List Int)) (x1 : Int) : Option (Stp Int (Sum Unit Bool)) :=
  cond ((decide (x1 < (p1.length : Int))) && (decide (x1 < (p2.length : Int)))) ((geti p1 x1).bind fun v1 => (geti p2 x1).bind fun v2 => cond (v1 != v2) (some (.out (.inr false))) (some (.go (w64 (x1 + 1))))) (some (.out (.inl ())))
theorem kit_SameLongs_l1_le (p1 : (List Int)) (p2 : (List Int)) (x1 : Int) : Le (kit_SameLongs_l1c p1 p2 x1) (kit_SameLongs_l1 p1 p2 x1) := by
  unfold kit_SameLongs_l1c kit_SameLongs_l1
  repeat' first | exact Le.refl _ | refine Le.bind ?_ fun _ => ?_ | refine Le.cond ?_ ?_ | refine Le.ite ?_ ?_ | refine Le.thenS ?_ (fun _ => ?_) (fun _ => ?_) | refine Le.loop (fun _ => ?_) _ | refine Le.loopL (fun _ _ => ?_) _ _
def kit_SameLongsc (p1 : (List Int)) (p2 : (List Int)) : Option Bool :=
  thenS (loopF (kit_SameLongs_l1c p1 p2) 0) (fun _ => some ((p1.length : Int) == (p2.length : Int))) (fun r => some r)
theorem kit_SameLongs_le (p1 : (List Int)) (p2 : (List Int)) : Le (kit_SameLongsc p1 p2) (kit_SameLongs p1 p2) := by
  unfold kit_SameLongsc kit_SameLongs
  repeat' first | exact Le.refl _ | exact kit_SameLongs_l1_le _ _ _ | refine Le.bind ?_ fun _ => ?_ | refine Le.cond ?_ ?_ | refine Le.ite ?_ ?_ | refine Le.thenS ?_ (fun _ => ?_) (fun _ => ?_) | refine Le.loop (fun _ => ?_) _ | refine Le.loopL (fun _ _ => ?_) _ _
def curve_Piecec (p1 : Curve) (p2 : Int) : Option (Int × Int) :=
  (curve_Checkc p1).bind fun v1 => cond (v1 != 0) (some (0, 0)) ((curve_findc p1 (mm2 true 0 p2)).bind fun v2 => some (v2.1, v2.2.2))
theorem curve_Piece_le (p1 : Curve) (p2 : Int) : Le (curve_Piecec p1 p2) (curve_Piece p1 p2) := by
  unfold curve_Piecec curve_Piece
  repeat' first | exact Le.refl _ | exact curve_Check_le _ | exact curve_find_le _ _ | refine Le.bind ?_ fun _ => ?_ | refine Le.cond ?_ ?_ | refine Le.ite ?_ ?_ | refine Le.thenS ?_ (fun _ => ?_) (fun _ => ?_) | refine Le.loop (fun _ => ?_) _ | refine Le.loopL (fun _ _ => ?_) _ _
def curve_vector_crossc (p1 : CurveVector) (p2 : CurveVector) : Option Int :=
  some (w64 ((w64 (p1.x * p2.y)) - (w64 (p1.y * p2.x))))
theorem curve_vector_cross_le (p1 : CurveVector) (p2 : CurveVector) : Le (curve_vector_crossc p1 p2) (curve_vector_cross p1 p2) := by
  unfold curve_vector_crossc curve_vector_cross
  repeat' first | exact Le.refl _ | refine Le.bind ?_ fun _ => ?_ | refine Le.cond ?_ ?_ | refine Le.ite ?_ ?_ | refine Le.thenS ?_ (fun _ => ?_) (fun _ => ?_) | refine Le.loop (fun _ => ?_) _ | refine Le.loopL (fun _ _ => ?_) _ _
def curve_signc (p1 : Int) : Option Int :=
  cond (decide (p1 > 0)) (some 1) (cond (decide (p1 < 0)) (some (-1)) (some 0))
theorem curve_sign_le (p1 : Int) : Le (curve_signc p1) (curve_sign p1) := by
  unfold curve_signc curve_sign
  repeat' first | exact Le.refl _ | refine Le.bind ?_ fun _ => ?_ | refine Le.cond ?_ ?_ | refine Le.ite ?_ ?_ | refine Le.thenS ?_ (fun _ => ?_) (fun _ => ?_) | refine Le.loop (fun _ => ?_) _ | refine Le.loopL (fun _ _ => ?_) _ _
def curve_Sidec (p1 : Spot) (p2 : Spot) (p3 : Spot) : Option Int :=
  (curve_fairc [p1, p2, p3]).bind fun v1 => cond (!v1) (some 0) ((curve_fromc p1 p2).bind fun v2 => (curve_fromc p1 p3).bind fun v3 => (curve_vector_crossc v2 v3).bind fun v4 => (curve_signc v4).bind fun v5 => some v5)
theorem curve_Side_le (p1 : Spot) (p2 : Spot) (p3 : Spot) : Le (curve_Sidec p1 p2 p3) (curve_Side p1 p2 p3) := by
  unfold curve_Sidec curve_Side
  repeat' first | exact Le.refl _ | exact curve_fair_le _ | exact curve_from_le _ _ | exact curve_vector_cross_le _ _ | exact curve_sign_le _ | refine Le.bind ?_ fun _ => ?_ | refine Le.cond ?_ ?_ | refine Le.ite ?_ ?_ | refine Le.thenS ?_ (fun _ => ?_) (fun _ => ?_) | refine Le.loop (fun _ => ?_) _ | refine Le.loopL (fun _ _ => ?_) _ _
def curve_Dist2c (p1 : Spot) (p2 : Spot) : Option Int :=
  (curve_fairc [p1, p2]).bind fun v1 => cond (!v1) (some 0) ((curve_fromc p1 p2).bind fun v2 => (curve_vector_dotc v2 v2).bind fun v3 => some v3)
theorem curve_Dist2_le (p1 : Spot) (p2 : Spot) : Le (curve_Dist2c p1 p2) (curve_Dist2 p1 p2) := by
  unfold curve_Dist2c curve_Dist2
  repeat' first | exact Le.refl _ | exact curve_fair_le _ | exact curve_from_le _ _ | exact curve_vector_dot_le _ _ | refine Le.bind ?_ fun _ => ?_ | refine Le.cond ?_ ?_ | refine Le.ite ?_ ?_ | refine Le.thenS ?_ (fun _ => ?_) (fun _ => ?_) | refine Le.loop (fun _ => ?_) _ | refine Le.loopL (fun _ _ => ?_) _ _
def curve_betweenc (p1 : Spot) (p2 : Spot) (p3 : Spot) : Option Bool :=
  some ((((decide ((mm2 false p1.X p2.X) ≤ p3.X)) && (decide (p3.X ≤ (mm2 true p1.X p2.X)))) && (decide ((mm2 false p1.Y p2.Y) ≤ p3.Y))) && (decide (p3.Y ≤ (mm2 true p1.Y p2.Y))))
theorem curve_between_le (p1 : Spot) (p2 : Spot) (p3 : Spot) : Le (curve_betweenc p1 p2 p3) (curve_between p1 p2 p3) := by
  unfold curve_betweenc curve_between
  repeat' first | exact Le.refl _ | refine Le.bind ?_ fun _ => ?_ | refine Le.cond ?_ ?_ | refine Le.ite ?_ ?_ | refine Le.thenS ?_ (fun _ => ?_) (fun _ => ?_) | refine Le.loop (fun _ => ?_) _ | refine Le.loopL (fun _ _ => ?_) _ _
def curve_Blocksc (p1 : Spot) (p2 : Spot) (p3 : Spot) (p4 : Spot) : Option Bool :=
  (curve_fairc [p1, p2, p3, p4]).bind fun v1 => cond (!v1) (some false) ((curve_Sidec p1 p2 p3).bind fun v2 => (curve_Sidec p1 p2 p4).bind fun v3 => (curve_Sidec p3 p4 p1).bind fun v4 => (curve_Sidec p3 p4 p2).bind fun v5 => cond ((decide ((w64 (v2 * v3)) < 0)) && (decide ((w64 (v4 * v5)) < 0))) (some true) (((cond (v2 == 0) (curve_betweenc p1 p2 p3) (some default))).bind fun v6 => ((cond ((!((v2 == 0) && v6)) && (v3 == 0)) (curve_betweenc p1 p2 p4) (some default))).bind fun v7 => ((cond ((!(((v2 == 0) && v6) || ((v3 == 0) && v7))) && (v4 == 0)) (curve_betweenc p3 p4 p1) (some default))).bind fun v8 => ((cond ((!((((v2 == 0) && v6) || ((v3 == 0) && v7)) || ((v4 == 0) && v8))) && (v5 == 0)) (curve_betweenc p3 p4 p2) (some default))).bind fun v9 => some (((((v2 == 0) && v6) || ((v3 == 0) && v7)) || ((v4 == 0) && v8)) || ((v5 == 0) && v9))))
theorem curve_Blocks_le (p1 : Spot) (p2 : Spot) (p3 : Spot) (p4 : Spot) : Le (curve_Blocksc p1 p2 p3 p4) (curve_Blocks p1 p2 p3 p4) := by
  unfold curve_Blocksc curve_Blocks
  repeat' first | exact Le.refl _ | exact curve_fair_le _ | exact curve_Side_le _ _ _ | exact curve_between_le _ _ _ | refine Le.bind ?_ fun _ => ?_ | refine Le.cond ?_ ?_ | refine Le.ite ?_ ?_ | refine Le.thenS ?_ (fun _ => ?_) (fun _ => ?_) | refine Le.loop (fun _ => ?_) _ | refine Le.loopL (fun _ _ => ?_) _ _
def curve_Seesc (p1 : Spot) (p2 : Spot) (p3 : Int) : Option Bool :=
  (curve_fairc [p1, p2]).bind fun v1 => ((cond ((v1 && (decide (p3 ≥ 0))) && (decide (p3 ≤ 33554432))) (curve_Dist2c p1 p2) (some default))).bind fun v2 => some (((v1 && (decide (p3 ≥ 0))) && (decide (p3 ≤ 33554432))) && (decide (v2 ≤ (w64 (p3 * p3)))))
theorem curve_Sees_le (p1 : Spot) (p2 : Spot) (p3 : Int) : Le (curve_Seesc p1 p2 p3) (curve_Sees p1 p2 p3) := by
  unfold curve_Seesc curve_Sees
  repeat' first | exact Le.refl _ | exact curve_fair_le _ | exact curve_Dist2_le _ _ | refine Le.bind ?_ fun _ => ?_ | refine Le.cond ?_ ?_ | refine Le.ite ?_ ?_ | refine Le.thenS ?_ (fun _ => ?_) (fun _ => ?_) | refine Le.loop (fun _ => ?_) _ | refine Le.loopL (fun _ _ => ?_) _ _
def curve_absc (p1 : Int) : Option Int :=
  some (mm2 true p1 (w64 (0 - p1)))
theorem curve_abs_le (p1 : Int) : Le (curve_absc p1) (curve_abs p1) := by
  unfold curve_absc curve_abs
  repeat' first | exact Le.refl _ | refine Le.bind ?_ fun _ => ?_ | refine Le.cond ?_ ?_ | refine Le.ite ?_ ?_ | refine Le.thenS ?_ (fun _ => ?_) (fun _ => ?_) | refine Le.loop (fun _ => ?_) _ | refine Le.loopL (fun _ _ => ?_) _ _
def curve_Near_l1c (p2 : Spot) (p3 : Int) (x1 : (List Int)) (a1 : (Int × CurvePiece)) : Option (Stp (List Int) (List Int)) :=
  (curve_fromc a1.2.p p2).bind fun v4 => (curve_vector_dotc a1.2.v v4).bind fun v5 => (curve_vector_crossc a1.2.v v4).bind fun v6 => (curve_absc v6).bind fun v7 => cond (((decide (v7 > (w64 (p3 * a1.2.l)))) || (decide (v5 < (w64 ((w64 (0 - p3)) * a1.2.l))))) || (decide (v5 > (w64 ((w64 (a1.2.l + p3)) * a1.2.l))))) (some (.go x1)) ((curve_floorc v5 a1.2.l).bind fun v8 => (appc x1 [(w64 (a1.2.start + (mm2 true 0 (mm2 false v8 a1.2.l))))]).bind fun v9 => some (.go v9))
theorem curve_Near_l1_le (p2 : Spot) (p3 : Int) (x1 : (List Int)) (a1 : (Int × CurvePiece)) : Le (curve_Near_l1c p2 p3 x1 a1) (curve_Near_l1 p2 p3 x1 a1) := by
  unfold curve_Near_l1c curve_Near_l1
  repeat' first | exact Le.refl _ | exact curve_from_le _ _ | exact curve_vector_dot_le _ _ | exact curve_vector_cross_le _ _ | exact curve_abs_le _ | exact curve_floor_le _ _ | refine Le.bind ?_ fun _ => ?_ | refine Le.cond ?_ ?_ | refine Le.ite ?_ ?_ | refine Le.thenS ?_ (fun _ => ?_) (fun _ => ?_) | refine Le.loop (fun _ => ?_) _ | refine Le.loopL (fun _ _ => ?_) _ _
def curve_Nearc (p1 : Curve) (p2 : Spot) (p3 : Int) : Option (List Int) :=
  (curve_Checkc p1).bind fun v1 => ((cond (!(v1 != 0)) (curve_fairc [p2]) (some default))).bind fun v2 => cond ((((v1 != 0) || (!v2)) || (decide (p3 < 0))) || (decide (p3 > 16777216))) (some []) (((piecesCc p1.Pts).bind fun v3 => loopL (curve_Near_l1c p2 p3) (fun (x1 : (List Int)) => x1) v3 []).bind fun y1 => some y1)
theorem curve_Near_le (p1 : Curve) (p2 : Spot) (p3 : Int) : Le (curve_Nearc p1 p2 p3) (curve_Near p1 p2 p3) := by
  unfold curve_Nearc curve_Near
  repeat' first | exact Le.refl _ | exact curve_Check_le _ | exact curve_fair_le _ | exact piecesC_le _ | exact curve_Near_l1_le _ _ _ _ | refine Le.bind ?_ fun _ => ?_ | refine Le.cond ?_ ?_ | refine Le.ite ?_ ?_ | refine Le.thenS ?_ (fun _ => ?_) (fun _ => ?_) | refine Le.loop (fun _ => ?_) _ | refine Le.loopL (fun _ _ => ?_) _ _
def curve_Holds_l1c (p2 : Int) (p3 : Spot) (x1 : Unit) (a1 : (Int × CurvePiece)) : Option (Stp Unit (Sum Unit Bool)) :=
  (curve_fromc a1.2.p p3).bind fun v4 => (curve_vector_dotc a1.2.v v4).bind fun v5 => ((cond ((decide (v5 ≥ 0)) && (decide (v5 ≤ (w64 (a1.2.l * a1.2.l))))) (curve_vector_crossc a1.2.v v4) (some default))).bind fun v6 => ((cond ((decide (v5 ≥ 0)) && (decide (v5 ≤ (w64 (a1.2.l * a1.2.l))))) (curve_absc v6) (some default))).bind fun v7 => cond (((decide (v5 ≥ 0)) && (decide (v5 ≤ (w64 (a1.2.l * a1.2.l))))) && (decide (v7 ≤ (w64 (p2 * a1.2.l))))) (some (.out (.inr true))) (some (.go ()))
theorem curve_Holds_l1_le (p2 : Int) (p3 : Spot) (x1 : Unit) (a1 : (Int × CurvePiece)) : Le (curve_Holds_l1c p2 p3 x1 a1) (curve_Holds_l1 p2 p3 x1 a1) := by
  unfold curve_Holds_l1c curve_Holds_l1
  repeat' first | exact Le.refl _ | exact curve_from_le _ _ | exact curve_vector_dot_le _ _ | exact curve_vector_cross_le _ _ | exact curve_abs_le _ | refine Le.bind ?_ fun _ => ?_ | refine Le.cond ?_ ?_ | refine Le.ite ?_ ?_ | refine Le.thenS ?_ (fun _ => ?_) (fun _ => ?_) | refine Le.loop (fun _ => ?_) _ | refine Le.loopL (fun _ _ => ?_) _ _
def curve_Holdsc (p1 : Curve) (p2 : Int) (p3 : Spot) : Option Bool :=
  (curve_Checkc p1).bind fun v1 => ((cond (!(((v1 != 0) || (decide (p2 < 0))) || (decide (p2 > 4000)))) (curve_fairc [p3]) (some default))).bind fun v2 => cond ((((v1 != 0) || (decide (p2 < 0))) || (decide (p2 > 4000))) || (!v2)) (some false) (thenS ((piecesCc p1.Pts).bind fun v3 => loopL (curve_Holds_l1c p2 p3) (fun (x1 : Unit) => .inl ()) v3 ()) (fun _ => some false) (fun r => some r))
theorem curve_Holds_le (p1 : Curve) (p2 : Int) (p3 : Spot) : Le (curve_Holdsc p1 p2 p3) (curve_Holds p1 p2 p3) := by
  unfold curve_Holdsc curve_Holds
  repeat' first | exact Le.refl _ | exact curve_Check_le _ | exact curve_fair_le _ | exact piecesC_le _ | exact curve_Holds_l1_le _ _ _ _ | refine Le.bind ?_ fun _ => ?_ | refine Le.cond ?_ ?_ | refine Le.ite ?_ ?_ | refine Le.thenS ?_ (fun _ => ?_) (fun _ => ?_) | refine Le.loop (fun _ => ?_) _ | refine Le.loopL (fun _ _ => ?_) _ _
def curve_vector_leftc (p1 : CurveVector) : Option CurveVector :=
  some (CurveVector.mk (w64 (0 - p1.y)) p1.x)
theorem curve_vector_left_le (p1 : CurveVector) : Le (curve_vector_leftc p1) (curve_vector_left p1) := by
  unfold curve_vector_leftc curve_vector_left
  repeat' first | exact Le.refl _ | refine Le.bind ?_ fun _ => ?_ | refine Le.cond ?_ ?_ | refine Le.ite ?_ ?_ | refine Le.thenS ?_ (fun _ => ?_) (fun _ => ?_) | refine Le.loop (fun _ => ?_) _ | refine Le.loopL (fun _ _ => ?_) _ _
def curve_corridor_apartc (p1 : CurveCorridor) (p2 : CurveCorridor) : Option Bool :=
  (curve_fromc p1.piece.p p2.piece.p).bind fun v1 => (curve_vector_leftc p1.piece.v).bind fun v2 => thenS ((curve_vector_dotc p2.piece.v p1.piece.v).bind fun v3 => (curve_vector_dotc p2.piece.v p1.piece.v).bind fun v4 => (curve_vector_leftc p2.piece.v).bind fun v5 => (curve_vector_dotc v5 p1.piece.v).bind fun v6 => (curve_absc v6).bind fun v7 => (curve_vector_dotc v1 p1.piece.v).bind fun v8 => (curve_floorc (w64 ((w64 (p2.half * v7)) - (mm2 false (w64 (p2.ends.1 * v3)) (w64 (p2.ends.2 * v4))))) p2.piece.l).bind fun v9 => (curve_floorc (w64 ((mm2 true (w64 (p2.ends.1 * v3)) (w64 (p2.ends.2 * v4))) + (w64 (p2.half * v7)))) p2.piece.l).bind fun v10 => cond ((decide ((w64 (v8 + (w64 (0 - v9)))) > (w64 (p1.ends.2 * p1.piece.l)))) || (decide ((w64 (v8 + v10)) < (w64 (p1.ends.1 * p1.piece.l))))) (some (.inr true)) ((curve_vector_dotc p2.piece.v v2).bind fun v11 => (curve_vector_dotc p2.piece.v v2).bind fun v12 => (curve_vector_leftc p2.piece.v).bind fun v13 => (curve_vector_dotc v13 v2).bind fun v14 => (curve_absc v14).bind fun v15 => (curve_vector_dotc v1 v2).bind fun v16 => (curve_floorc (w64 ((w64 (p2.half * v15)) - (mm2 false (w64 (p2.ends.1 * v11)) (w64 (p2.ends.2 * v12))))) p2.piece.l).bind fun v17 => (curve_floorc (w64 ((mm2 true (w64 (p2.ends.1 * v11)) (w64 (p2.ends.2 * v12))) + (w64 (p2.half * v15)))) p2.piece.l).bind fun v18 => cond ((decide ((w64 (v16 + (w64 (0 - v17)))) > (w64 (p1.half * p1.piece.l)))) || (decide ((w64 (v16 + v18)) < (w64 ((w64 (0 - p1.half)) * p1.piece.l))))) (some (.inr true)) (some (.inl ())))) (fun _ => some false) (fun r => some r)
theorem curve_corridor_apart_le (p1 : CurveCorridor) (p2 : CurveCorridor) : Le (curve_corridor_apartc p1 p2) (curve_corridor_apart p1 p2) := by
  unfold curve_corridor_apartc curve_corridor_apart
  repeat' first | exact Le.refl _ | exact curve_from_le _ _ | exact curve_vector_left_le _ | exact curve_vector_dot_le _ _ | exact curve_abs_le _ | exact curve_floor_le _ _ | refine Le.bind ?_ fun _ => ?_ | refine Le.cond ?_ ?_ | refine Le.ite ?_ ?_ | refine Le.thenS ?_ (fun _ => ?_) (fun _ => ?_) | refine Le.loop (fun _ => ?_) _ | refine Le.loopL (fun _ _ => ?_) _ _
def curve_corridor_meetsc (p1 : CurveCorridor) (p2 : CurveCorridor) : Option Bool :=
  (curve_corridor_apartc p1 p2).bind fun v1 => ((cond (!v1) (curve_corridor_apartc p2 p1) (some default))).bind fun v2 => some ((!v1) && (!v2))
theorem curve_corridor_meets_le (p1 : CurveCorridor) (p2 : CurveCorridor) : Le (curve_corridor_meetsc p1 p2) (curve_corridor_meets p1 p2) := by
  unfold curve_corridor_meetsc curve_corridor_meets
  repeat' first | exact Le.refl _ | exact curve_corridor_apart_le _ _ | refine Le.bind ?_ fun _ => ?_ | refine Le.cond ?_ ?_ | refine Le.ite ?_ ?_ | refine Le.thenS ?_ (fun _ => ?_) (fun _ => ?_) | refine Le.loop (fun _ => ?_) _ | refine Le.loopL (fun _ _ => ?_) _ _
def curve_corridor_span_l2c (p2 : CurveCorridor) (x2 : (Int × Int × CurveCorridor)) : Option (Stp (Int × Int × CurveCorridor) Int) :=
  cond (decide (x2.1 < x2.2.1)) ((curve_corridor_meetsc (CurveCorridor.mk x2.2.2.piece x2.2.2.half ((w64 ((w64 ((w64 (x2.1 + x2.2.1)) + 1)).tdiv 2)), x2.2.2.ends.2)) p2).bind fun v2 => cond v2 (some (.go ((w64 ((w64 ((w64 (x2.1 + x2.2.1)) + 1)).tdiv 2)), x2.2.1, (CurveCorridor.mk x2.2.2.piece x2.2.2.half ((w64 ((w64 ((w64 (x2.1 + x2.2.1)) + 1)).tdiv 2)), x2.2.2.ends.2))))) (some (.go (x2.1, (w64 ((w64 ((w64 ((w64 (x2.1 + x2.2.1)) + 1)).tdiv 2)) - 1)), (CurveCorridor.mk x2.2.2.piece x2.2.2.half ((w64 ((w64 ((w64 (x2.1 + x2.2.1)) + 1)).tdiv 2)), x2.2.2.ends.2)))))) (some (.out x2.1))
theorem curve_corridor_span_l2_le (p2 : CurveCorridor) (x2 : (Int × Int × CurveCorridor)) : Le (curve_corridor_span_l2c p2 x2) (curve_corridor_span_l2 p2 x2) := by
  unfold curve_corridor_span_l2c curve_corridor_span_l2
  repeat' first | exact Le.refl _ | exact curve_corridor_meets_le _ _ | refine Le.bind ?_ fun _ => ?_ | refine Le.cond ?_ ?_ | refine Le.ite ?_ ?_ | refine Le.thenS ?_ (fun _ => ?_) (fun _ => ?_) | refine Le.loop (fun _ => ?_) _ | refine Le.loopL (fun _ _ => ?_) _ _
def curve_corridor_span_l1c (p2 : CurveCorridor) (x1 : (Int × Int × CurveCorridor)) : Option (Stp (Int × Int × CurveCorridor) Int) :=
  cond (decide (x1.1 < x1.2.1)) ((curve_corridor_meetsc (CurveCorridor.mk x1.2.2.piece x1.2.2.half (x1.2.2.ends.1, (w64 ((w64 (x1.1 + x1.2.1)).tdiv 2)))) p2).bind fun v1 => cond v1 (some (.go (x1.1, (w64 ((w64 (x1.1 + x1.2.1)).tdiv 2)), (CurveCorridor.mk x1.2.2.piece x1.2.2.half (x1.2.2.ends.1, (w64 ((w64 (x1.1 + x1.2.1)).tdiv 2))))))) (some (.go ((w64 ((w64 ((w64 (x1.1 + x1.2.1)).tdiv 2)) + 1)), x1.2.1, (CurveCorridor.mk x1.2.2.piece x1.2.2.half (x1.2.2.ends.1, (w64 ((w64 (x1.1 + x1.2.1)).tdiv 2)))))))) (some (.out x1.1))
theorem curve_corridor_span_l1_le (p2 : CurveCorridor) (x1 : (Int × Int × CurveCorridor)) : Le (curve_corridor_span_l1c p2 x1) (curve_corridor_span_l1 p2 x1) := by
  unfold curve_corridor_span_l1c curve_corridor_span_l1
  repeat' first | exact Le.refl _ | exact curve_corridor_meets_le _ _ | refine Le.bind ?_ fun _ => ?_ | refine Le.cond ?_ ?_ | refine Le.ite ?_ ?_ | refine Le.thenS ?_ (fun _ => ?_) (fun _ => ?_) | refine Le.loop (fun _ => ?_) _ | refine Le.loopL (fun _ _ => ?_) _ _
def curve_corridor_spanc (p1 : CurveCorridor) (p2 : CurveCorridor) : Option (Int × Int) :=
  (loopF (curve_corridor_span_l1c p2) (0, p1.piece.l, p1)).bind fun y1 => (loopF (curve_corridor_span_l2c p2) (0, p1.piece.l, p1)).bind fun y2 => some ((w64 (p1.piece.start + (mm2 true 0 (w64 (y1 - 1))))), (w64 (p1.piece.start + (mm2 false p1.piece.l (w64 (y2 + 1))))))
theorem curve_corridor_span_le (p1 : CurveCorridor) (p2 : CurveCorridor) : Le (curve_corridor_spanc p1 p2) (curve_corridor_span p1 p2) := by
  unfold curve_corridor_spanc curve_corridor_span
  repeat' first | exact Le.refl _ | exact curve_corridor_span_l1_le _ _ | exact curve_corridor_span_l2_le _ _ | refine Le.bind ?_ fun _ => ?_ | refine Le.cond ?_ ?_ | refine Le.ite ?_ ?_ | refine Le.thenS ?_ (fun _ => ?_) (fun _ => ?_) | refine Le.loop (fun _ => ?_) _ | refine Le.loopL (fun _ _ => ?_) _ _
def curve_Corridors_l2c (p2 : Int) (p4 : Int) (a1 : (Int × CurvePiece)) (x2 : (List Cross)) (a2 : (Int × CurvePiece)) : Option (Stp (List Cross) (List Cross)) :=
  (curve_corridor_meetsc (CurveCorridor.mk a1.2 p2 (0, a1.2.l)) (CurveCorridor.mk a2.2 p4 (0, a2.2.l))).bind fun v5 => cond (!v5) (some (.go x2)) ((curve_corridor_spanc (CurveCorridor.mk a1.2 p2 (0, a1.2.l)) (CurveCorridor.mk a2.2 p4 (0, a2.2.l))).bind fun v6 => (curve_corridor_spanc (CurveCorridor.mk a2.2 p4 (0, a2.2.l)) (CurveCorridor.mk a1.2 p2 (0, a1.2.l))).bind fun v7 => (appc x2 [(Cross.mk v6.1 v6.2 v7.1 v7.2)]).bind fun v8 => some (.go v8))
theorem curve_Corridors_l2_le (p2 : Int) (p4 : Int) (a1 : (Int × CurvePiece)) (x2 : (List Cross)) (a2 : (Int × CurvePiece)) : Le (curve_Corridors_l2c p2 p4 a1 x2 a2) (curve_Corridors_l2 p2 p4 a1 x2 a2) := by
  unfold curve_Corridors_l2c curve_Corridors_l2
  repeat' first | exact Le.refl _ | exact curve_corridor_meets_le _ _ | exact curve_corridor_span_le _ _ | refine Le.bind ?_ fun _ => ?_ | refine Le.cond ?_ ?_ | refine Le.ite ?_ ?_ | refine Le.thenS ?_ (fun _ => ?_) (fun _ => ?_) | refine Le.loop (fun _ => ?_) _ | refine Le.loopL (fun _ _ => ?_) _ _
def curve_Corridors_l1c (p2 : Int) (p3 : Curve) (p4 : Int) (x1 : (List Cross)) (a1 : (Int × CurvePiece)) : Option (Stp (List Cross) (List Cross)) :=
  ((piecesCc p3.Pts).bind fun v4 => loopL (curve_Corridors_l2c p2 p4 a1) (fun (x2 : (List Cross)) => x2) v4 x1).bind fun y2 => some (.go y2)
theorem curve_Corridors_l1_le (p2 : Int) (p3 : Curve) (p4 : Int) (x1 : (List Cross)) (a1 : (Int × CurvePiece)) : Le (curve_Corridors_l1c p2 p3 p4 x1 a1) (curve_Corridors_l1 p2 p3 p4 x1 a1) := by
  unfold curve_Corridors_l1c curve_Corridors_l1
  repeat' first | exact Le.refl _ | exact piecesC_le _ | exact curve_Corridors_l2_le _ _ _ _ _ | refine Le.bind ?_ fun _ => ?_ | refine Le.cond ?_ ?_ | refine Le.ite ?_ ?_ | refine Le.thenS ?_ (fun _ => ?_) (fun _ => ?_) | refine Le.loop (fun _ => ?_) _ | refine Le.loopL (fun _ _ => ?_) _ _
def curve_Corridorsc (p1 : Curve) (p2 : Int) (p3 : Curve) (p4 : Int) : Option (List Cross) :=
  (curve_Checkc p1).bind fun v1 => ((cond (!(v1 != 0)) (curve_Checkc p3) (some default))).bind fun v2 => cond ((((v1 != 0) || (v2 != 0)) || (decide ((mm2 false p2 p4) < 0))) || (decide ((mm2 true p2 p4) > 4000))) (some []) (((piecesCc p1.Pts).bind fun v3 => loopL (curve_Corridors_l1c p2 p3 p4) (fun (x1 : (List Cross)) => x1) v3 []).bind fun y1 => some y1)
theorem curve_Corridors_le (p1 : Curve) (p2 : Int) (p3 : Curve) (p4 : Int) : Le (curve_Corridorsc p1 p2 p3 p4) (curve_Corridors p1 p2 p3 p4) := by
  unfold curve_Corridorsc curve_Corridors
  repeat' first | exact Le.refl _ | exact curve_Check_le _ | exact piecesC_le _ | exact curve_Corridors_l1_le _ _ _ _ _ | refine Le.bind ?_ fun _ => ?_ | refine Le.cond ?_ ?_ | refine Le.ite ?_ ?_ | refine Le.thenS ?_ (fun _ => ?_) (fun _ => ?_) | refine Le.loop (fun _ => ?_) _ | refine Le.loopL (fun _ _ => ?_) _ _
def kit_SameCrosses_l1c (p1 : (List Cross)) (p2 : (List Cross)) (x1 : Int) : Option (Stp Int (Sum Unit Bool)) :=
  cond (decide (x1 < (p1.length : Int))) ((geti p1 x1).bind fun v1 => (geti p2 x1).bind fun v2 => cond (!(v1.FromA == v2.FromA && (v1.ToA == v2.ToA && (v1.FromB == v2.FromB && (v1.ToB == v2.ToB && true))))) (some (.out (.inr false))) (some (.go (w64 (x1 + 1))))) (some (.out (.inl ())))
theorem kit_SameCrosses_l1_le (p1 : (List Cross)) (p2 : (List Cross)) (x1 : Int) : Le (kit_SameCrosses_l1c p1 p2 x1) (kit_SameCrosses_l1 p1 p2 x1) := by
  unfold kit_SameCrosses_l1c kit_SameCrosses_l1
  repeat' first | exact Le.refl _ | refine Le.bind ?_ fun _ => ?_ | refine Le.cond ?_ ?_ | refine Le.ite ?_ ?_ | refine Le.thenS ?_ (fun _ => ?_) (fun _ => ?_) | refine Le.loop (fun _ => ?_) _ | refine Le.loopL (fun _ _ => ?_) _ _
def kit_SameCrossesc (p1 : (List Cross)) (p2 : (List Cross)) : Option Bool :=
  cond ((p1.length : Int) != (p2.length : Int)) (some false) (thenS (loopF (kit_SameCrosses_l1c p1 p2) 0) (fun _ => some true) (fun r => some r))
theorem kit_SameCrosses_le (p1 : (List Cross)) (p2 : (List Cross)) : Le (kit_SameCrossesc p1 p2) (kit_SameCrosses p1 p2) := by
  unfold kit_SameCrossesc kit_SameCrosses
  repeat' first | exact Le.refl _ | exact kit_SameCrosses_l1_le _ _ _ | refine Le.bind ?_ fun _ => ?_ | refine Le.cond ?_ ?_ | refine Le.ite ?_ ?_ | refine Le.thenS ?_ (fun _ => ?_) (fun _ => ?_) | refine Le.loop (fun _ => ?_) _ | refine Le.loopL (fun _ _ => ?_) _ _
def slices_Clone_Spot_Spotc (p1 : List Spot) : Option (List Spot) := appc [] p1
theorem slices_Clone_Spot_Spot_le (p1 : List Spot) : Le (slices_Clone_Spot_Spotc p1) (slices_Clone_Spot_Spot p1) := by
  unfold slices_Clone_Spot_Spotc slices_Clone_Spot_Spot
  repeat' first | exact Le.refl _ | refine Le.bind ?_ fun _ => ?_ | refine Le.cond ?_ ?_ | refine Le.ite ?_ ?_ | refine Le.thenS ?_ (fun _ => ?_) (fun _ => ?_) | refine Le.loop (fun _ => ?_) _ | refine Le.loopL (fun _ _ => ?_) _ _
def slices_Clone_Spot_Spotoc (p1 : List Spot) : Option (List Spot) := match p1 with
  | [] => none
  | _ => appc [] p1
theorem slices_Clone_Spot_Spoto_le (p1 : List Spot) : Le (slices_Clone_Spot_Spotoc p1) (slices_Clone_Spot_Spoto p1) := by
  unfold slices_Clone_Spot_Spotoc slices_Clone_Spot_Spoto
  repeat' first | exact Le.refl _ | refine Le.bind ?_ fun _ => ?_ | refine Le.cond ?_ ?_ | refine Le.ite ?_ ?_ | refine Le.thenS ?_ (fun _ => ?_) (fun _ => ?_) | refine Le.loop (fun _ => ?_) _ | refine Le.loopL (fun _ _ => ?_) _ _
def curve_throughc (p1 : (List Spot)) : Option Curve :=
  (slices_Clone_Spot_Spotc p1).bind fun v1 => some (Curve.mk v1)
theorem curve_through_le (p1 : (List Spot)) : Le (curve_throughc p1) (curve_through p1) := by
  unfold curve_throughc curve_through
  repeat' first | exact Le.refl _ | exact slices_Clone_Spot_Spot_le _ | refine Le.bind ?_ fun _ => ?_ | refine Le.cond ?_ ?_ | refine Le.ite ?_ ?_ | refine Le.thenS ?_ (fun _ => ?_) (fun _ => ?_) | refine Le.loop (fun _ => ?_) _ | refine Le.loopL (fun _ _ => ?_) _ _
def curve_Joinc (p1 : Curve) (p2 : Curve) : Option (Curve × Int) :=
  thenS ((curve_Checkc p1).bind fun v1 => cond (v1 != 0) (some (.inr ((Curve.mk []), v1))) ((curve_Checkc p2).bind fun v2 => cond (v2 != 0) (some (.inr ((Curve.mk []), v2))) (some (.inl ())))) (fun _ => (geti p1.Pts (w64 ((p1.Pts.length : Int) - 1))).bind fun v3 => (geti p2.Pts 0).bind fun v4 => cond (!(v3.X == v4.X && (v3.Y == v4.Y && true))) (some ((Curve.mk []), 7)) ((slices_Clone_Spot_Spotoc p1.Pts).bind fun v5 => (subl p2.Pts 1 (p2.Pts.length : Int)).bind fun v6 => (appc v5 v6).bind fun v7 => (curve_throughc v7).bind fun v8 => (curve_Checkc v8).bind fun v9 => cond (v9 != 0) (some ((Curve.mk []), v9)) (some (v8, 0)))) (fun r => some r)
theorem curve_Join_le (p1 : Curve) (p2 : Curve) : Le (curve_Joinc p1 p2) (curve_Join p1 p2) := by
  unfold curve_Joinc curve_Join
  repeat' first | exact Le.refl _ | exact curve_Check_le _ | exact slices_Clone_Spot_Spoto_le _ | exact curve_through_le _ | refine Le.bind ?_ fun _ => ?_ | refine Le.cond ?_ ?_ | refine Le.ite ?_ ?_ | refine Le.thenS ?_ (fun _ => ?_) (fun _ => ?_) | refine Le.loop (fun _ => ?_) _ | refine Le.loopL (fun _ _ => ?_) _ _
def slices_Equal_Spot_Spot_l1c (p1 : (List Spot)) (p2 : (List Spot)) (x1 : Int) : Option (Stp Int (Sum Unit Bool)) :=
  cond (decide (x1 < (p1.length : Int))) ((geti p1 x1).bind fun v1 => (geti p2 x1).bind fun v2 => cond (!(v1.X == v2.X && (v1.Y == v2.Y && true))) (some (.out (.inr false))) (some (.go (w64 (x1 + 1))))) (some (.out (.inl ())))
theorem slices_Equal_Spot_Spot_l1_le (p1 : (List Spot)) (p2 : (List Spot)) (x1 : Int) : Le (slices_Equal_Spot_Spot_l1c p1 p2 x1) (slices_Equal_Spot_Spot_l1 p1 p2 x1) := by
  unfold slices_Equal_Spot_Spot_l1c slices_Equal_Spot_Spot_l1
  repeat' first | exact Le.refl _ | refine Le.bind ?_ fun _ => ?_ | refine Le.cond ?_ ?_ | refine Le.ite ?_ ?_ | refine Le.thenS ?_ (fun _ => ?_) (fun _ => ?_) | refine Le.loop (fun _ => ?_) _ | refine Le.loopL (fun _ _ => ?_) _ _
def slices_Equal_Spot_Spotc (p1 : (List Spot)) (p2 : (List Spot)) : Option Bool :=
  cond ((p1.length : Int) != (p2.length : Int)) (some false) (thenS (loopF (slices_Equal_Spot_Spot_l1c p1 p2) 0) (fun _ => some true) (fun r => some r))
theorem slices_Equal_Spot_Spot_le (p1 : (List Spot)) (p2 : (List Spot)) : Le (slices_Equal_Spot_Spotc p1 p2) (slices_Equal_Spot_Spot p1 p2) := by
  unfold slices_Equal_Spot_Spotc slices_Equal_Spot_Spot
  repeat' first | exact Le.refl _ | exact slices_Equal_Spot_Spot_l1_le _ _ _ | refine Le.bind ?_ fun _ => ?_ | refine Le.cond ?_ ?_ | refine Le.ite ?_ ?_ | refine Le.thenS ?_ (fun _ => ?_) (fun _ => ?_) | refine Le.loop (fun _ => ?_) _ | refine Le.loopL (fun _ _ => ?_) _ _
def curve_Samec (p1 : Curve) (p2 : Curve) : Option Bool :=
  (slices_Equal_Spot_Spotc p1.Pts p2.Pts).bind fun v1 => some v1
theorem curve_Same_le (p1 : Curve) (p2 : Curve) : Le (curve_Samec p1 p2) (curve_Same p1 p2) := by
  unfold curve_Samec curve_Same
  repeat' first | exact Le.refl _ | exact slices_Equal_Spot_Spot_le _ _ | refine Le.bind ?_ fun _ => ?_ | refine Le.cond ?_ ?_ | refine Le.ite ?_ ?_ | refine Le.thenS ?_ (fun _ => ?_) (fun _ => ?_) | refine Le.loop (fun _ => ?_) _ | refine Le.loopL (fun _ _ => ?_) _ _
def law01_CurveKnownc : Option Bool :=
  (law01_bentc).bind fun v1 => (law01_awakec).bind fun v2 => ((cond (!(!v2)) (curve_Checkc v1) (some default))).bind fun v3 => ((cond (!((!v2) || (v3 != 0))) (curve_Piecesc v1) (some default))).bind fun v4 => ((cond (!((!v2) || (v3 != 0))) (kit_SameLongsc v4 [5000, 5000]) (some default))).bind fun v5 => ((cond (!(((!v2) || (v3 != 0)) || (!v5))) (law01_ofc [0, 0]) (some default))).bind fun v6 => ((cond (!(((!v2) || (v3 != 0)) || (!v5))) (curve_Checkc v6) (some default))).bind fun v7 => ((cond (!((((!v2) || (v3 != 0)) || (!v5)) || (v7 != 6))) (law01_ofc [0, 0, 300, 400]) (some default))).bind fun v8 => ((cond (!((((!v2) || (v3 != 0)) || (!v5)) || (v7 != 6))) (curve_Checkc v8) (some default))).bind fun v9 => ((cond (!(((((!v2) || (v3 != 0)) || (!v5)) || (v7 != 6)) || (v9 != 2))) (law01_ofc [0, 0, 3000, 0, 3000, 2000]) (some default))).bind fun v10 => ((cond (!(((((!v2) || (v3 != 0)) || (!v5)) || (v7 != 6)) || (v9 != 2))) (curve_Checkc v10) (some default))).bind fun v11 => cond ((((((!v2) || (v3 != 0)) || (!v5)) || (v7 != 6)) || (v9 != 2)) || (v11 != 12)) (some false) ((curve_Piecec v1 5000).bind fun v12 => (curve_Piecec v1 10000).bind fun v13 => (curve_Piecec v1 (-3)).bind fun v14 => (curve_Atc v1 1).bind fun v15 => ((cond (v15.X == 0 && (v15.Y == 0 && true)) (curve_Atc v1 5001) (some default))).bind fun v16 => ((cond ((v15.X == 0 && (v15.Y == 0 && true)) && (v16.X == 3001 && (v16.Y == 4000 && true))) (curve_Atc v1 99999) (some default))).bind fun v17 => (curve_Sidec (Spot.mk 0 0) (Spot.mk 1 0) (Spot.mk 0 1)).bind fun v18 => ((cond (v18 == 1) (curve_Dist2c (Spot.mk 0 0) (Spot.mk 3 4)) (some default))).bind fun v19 => ((cond ((v18 == 1) && (v19 == 25)) (curve_Blocksc (Spot.mk 0 0) (Spot.mk 10 0) (Spot.mk 5 (-5)) (Spot.mk 5 0)) (some default))).bind fun v20 => ((cond (((v18 == 1) && (v19 == 25)) && v20) (curve_Blocksc (Spot.mk 0 0) (Spot.mk 10 0) (Spot.mk 11 0) (Spot.mk 20 0)) (some default))).bind fun v21 => (curve_Seesc (Spot.mk 0 0) (Spot.mk 3 4) 5).bind fun v22 => ((cond v22 (curve_Seesc (Spot.mk 0 0) (Spot.mk 3 4) 4) (some default))).bind fun v23 => (curve_Nearc v1 (Spot.mk 4000 5000) 1000).bind fun v24 => (kit_SameLongsc v24 [6000]).bind fun v25 => ((cond v25 (curve_Nearc v1 (Spot.mk 3000 4000) 0) (some default))).bind fun v26 => ((cond v25 (kit_SameLongsc v26 [5000, 5000]) (some default))).bind fun v27 => ((cond (v25 && v27) (curve_Nearc v1 (Spot.mk 4000 5001) 1000) (some default))).bind fun v28 => ((cond ((v25 && v27) && ((v28.length : Int) == 0)) (curve_Holdsc v1 1000 (Spot.mk 4000 5000)) (some default))).bind fun v29 => ((cond (((v25 && v27) && ((v28.length : Int) == 0)) && v29) (curve_Holdsc v1 999 (Spot.mk 4000 5000)) (some default))).bind fun v30 => (law01_ofc [0, 0, 10000, 0]).bind fun v31 => (law01_ofc [5000, (-5000), 5000, 5000]).bind fun v32 => (law01_ofc [0, 1500, 10000, 1500]).bind fun v33 => (curve_Corridorsc v31 1000 v32 500).bind fun v34 => (kit_SameCrossesc v34 [(Cross.mk 4499 5501 3999 6001)]).bind fun v35 => ((cond v35 (curve_Corridorsc v31 1000 v33 500) (some default))).bind fun v36 => ((cond v35 (kit_SameCrossesc v36 [(Cross.mk 0 10000 0 10000)]) (some default))).bind fun v37 => ((cond (v35 && v37) (curve_Corridorsc v31 999 v33 500) (some default))).bind fun v38 => (law01_ofc [10000, 0, 13000, 4000]).bind fun v39 => (curve_Joinc v31 v39).bind fun v40 => (curve_Joinc v31 v32).bind fun v41 => ((cond ((((((((((((v12.1 == 1) && (v12.2 == 0)) && (v13.1 == 1)) && (v13.2 == 5000)) && (v14.1 == 0)) && (v14.2 == 0)) && (((v15.X == 0 && (v15.Y == 0 && true)) && (v16.X == 3001 && (v16.Y == 4000 && true))) && (v17.X == 8000 && (v17.Y == 4000 && true)))) && ((((v18 == 1) && (v19 == 25)) && v20) && (!v21))) && (v22 && (!v23))) && ((((v25 && v27) && ((v28.length : Int) == 0)) && v29) && (!v30))) && ((v35 && v37) && ((v38.length : Int) == 0))) && (v40.2 == 0)) (law01_ofc [0, 0, 10000, 0, 13000, 4000]) (some default))).bind fun v42 => ((cond ((((((((((((v12.1 == 1) && (v12.2 == 0)) && (v13.1 == 1)) && (v13.2 == 5000)) && (v14.1 == 0)) && (v14.2 == 0)) && (((v15.X == 0 && (v15.Y == 0 && true)) && (v16.X == 3001 && (v16.Y == 4000 && true))) && (v17.X == 8000 && (v17.Y == 4000 && true)))) && ((((v18 == 1) && (v19 == 25)) && v20) && (!v21))) && (v22 && (!v23))) && ((((v25 && v27) && ((v28.length : Int) == 0)) && v29) && (!v30))) && ((v35 && v37) && ((v38.length : Int) == 0))) && (v40.2 == 0)) (curve_Samec v40.1 v42) (some default))).bind fun v43 => some ((((((((((((((v12.1 == 1) && (v12.2 == 0)) && (v13.1 == 1)) && (v13.2 == 5000)) && (v14.1 == 0)) && (v14.2 == 0)) && (((v15.X == 0 && (v15.Y == 0 && true)) && (v16.X == 3001 && (v16.Y == 4000 && true))) && (v17.X == 8000 && (v17.Y == 4000 && true)))) && ((((v18 == 1) && (v19 == 25)) && v20) && (!v21))) && (v22 && (!v23))) && ((((v25 && v27) && ((v28.length : Int) == 0)) && v29) && (!v30))) && ((v35 && v37) && ((v38.length : Int) == 0))) && (v40.2 == 0)) && v43) && (v41.2 == 7)))
set_option maxHeartbeats 4000000 in
theorem law01_CurveKnown_le : Le (law01_CurveKnownc) (law01_CurveKnown) := by
  unfold law01_CurveKnownc law01_CurveKnown
  repeat' first | exact Le.refl _ | exact law01_bent_le | exact law01_awake_le | exact curve_Check_le _ | exact curve_Pieces_le _ | exact kit_SameLongs_le _ _ | exact law01_of_le _ | exact curve_Piece_le _ _ | exact curve_At_le _ _ | exact curve_Side_le _ _ _ | exact curve_Dist2_le _ _ | exact curve_Blocks_le _ _ _ _ | exact curve_Sees_le _ _ _ | exact curve_Near_le _ _ _ | exact curve_Holds_le _ _ _ | exact curve_Corridors_le _ _ _ _ | exact kit_SameCrosses_le _ _ | exact curve_Join_le _ _ | exact curve_Same_le _ _ | refine Le.bind ?_ fun _ => ?_ | refine Le.cond ?_ ?_ | refine Le.ite ?_ ?_ | refine Le.thenS ?_ (fun _ => ?_) (fun _ => ?_) | refine Le.loop (fun _ => ?_) _ | refine Le.loopL (fun _ _ => ?_) _ _
end Go.Abs.Curve

namespace Go.Abs.Curve
open Go Go.Abs
theorem law01_CurveKnown_plain : law01_CurveKnown = some true := law01_CurveKnown_le _ (by decide +kernel)
end Go.Abs.Curve
