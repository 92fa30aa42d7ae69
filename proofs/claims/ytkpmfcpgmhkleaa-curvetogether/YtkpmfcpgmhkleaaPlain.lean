/-
  Plain facts on the functions: what they compute, and that the law holds of it.
-/
import Derived.Test.YtkpmfcpgmhkleaaFns2

namespace Go.Abs.Curve
open Go Go.Abs
structure CurveCorridor where
  piece : CurvePiece
  half : Int
  ends : (Int × Int)
  deriving Inhabited

noncomputable def ref01_Valid (p1 : Spot) : Option Bool :=
  some ((((decide (p1.X ≥ (-16777216))) && (decide (p1.X ≤ 16777216))) && (decide (p1.Y ≥ (-16777216)))) && (decide (p1.Y ≤ 16777216)))

noncomputable def ref01_Minus (p1 : Spot) (p2 : Spot) : Option Spot :=
  some (Spot.mk (w64 (p1.X - p2.X)) (w64 (p1.Y - p2.Y)))

noncomputable def ref01_Dot (p1 : Spot) (p2 : Spot) : Option Int :=
  some (w64 ((w64 (p1.X * p2.X)) + (w64 (p1.Y * p2.Y))))

noncomputable def ref01_root_l1 (p1 : Int) (x1 : (Int × Int)) : Option (Stp (Int × Int) Int) :=
  cond (decide (x1.2 > 0)) (cond (decide ((w64 ((w64 (x1.1 + x1.2)) * (w64 (x1.1 + x1.2)))) ≤ p1)) (some (.go ((w64 (x1.1 + x1.2)), (w64 (x1.2.tdiv 2))))) (some (.go (x1.1, (w64 (x1.2.tdiv 2)))))) (some (.out x1.1))

noncomputable def ref01_root (p1 : Int) : Option Int :=
  (loop (ref01_root_l1 p1) (0, 67108864)).bind fun y1 => some y1

noncomputable def ref01_Check_l2 (p1 : Curve) (x2 : Int) : Option (Stp Int (Sum Unit Int)) :=
  cond (decide ((w64 (x2 + 1)) < (p1.Pts.length : Int))) ((geti p1.Pts (w64 (x2 + 1))).bind fun v3 => (geti p1.Pts x2).bind fun v4 => (ref01_Minus v3 v4).bind fun v5 => (ref01_Dot v5 v5).bind fun v6 => (ref01_root v6).bind fun v7 => (ref01_Dot v5 v5).bind fun v8 => cond ((w64 (v7 * v7)) != v8) (some (.out (.inr 3))) (cond ((decide (v7 < 1000)) || (decide (v7 > 1048576))) (some (.out (.inr 2))) (((cond (decide (x2 > 0)) (geti p1.Pts x2) (some default))).bind fun v9 => ((cond (decide (x2 > 0)) (geti p1.Pts (w64 (x2 - 1))) (some default))).bind fun v10 => ((cond (decide (x2 > 0)) (ref01_Minus v9 v10) (some default))).bind fun v11 => ((cond (decide (x2 > 0)) (ref01_Dot v5 v11) (some default))).bind fun v12 => cond ((decide (x2 > 0)) && (decide (v12 ≤ 0))) (some (.out (.inr 12))) (some (.go (w64 (x2 + 1))))))) (some (.out (.inl ())))

noncomputable def ref01_Check_l1 (p1 : Curve) (x1 : Int) : Option (Stp Int (Sum Unit Int)) :=
  cond (decide (x1 < (p1.Pts.length : Int))) ((geti p1.Pts x1).bind fun v1 => (ref01_Valid v1).bind fun v2 => cond (!v2) (some (.out (.inr 2))) (some (.go (w64 (x1 + 1))))) (some (.out (.inl ())))

noncomputable def ref01_Check (p1 : Curve) : Option Int :=
  cond (decide ((p1.Pts.length : Int) < 2)) (some 6) (cond (decide ((p1.Pts.length : Int) > 16)) (some 5) (thenS (loop (ref01_Check_l1 p1) 0) (fun _ => thenS (loop (ref01_Check_l2 p1) 0) (fun _ => some 0) (fun r => some r)) (fun r => some r)))

noncomputable def ref01_Pieces_l1 (p1 : Curve) (x1 : ((List Int) × Int)) : Option (Stp ((List Int) × Int) (List Int)) :=
  cond (decide ((w64 (x1.2 + 1)) < (p1.Pts.length : Int))) ((geti p1.Pts (w64 (x1.2 + 1))).bind fun v2 => (geti p1.Pts x1.2).bind fun v3 => (ref01_Minus v2 v3).bind fun v4 => (ref01_Dot v4 v4).bind fun v5 => (ref01_root v5).bind fun v6 => (appc x1.1 [v6]).bind fun v7 => some (.go (v7, (w64 (x1.2 + 1))))) (some (.out x1.1))

noncomputable def ref01_Pieces (p1 : Curve) : Option (List Int) :=
  (ref01_Check p1).bind fun v1 => cond (v1 != 0) (some []) ((loop (ref01_Pieces_l1 p1) ([], 0)).bind fun y1 => some y1)

noncomputable def ref01_Length_l1 (v1 : (List Int)) (x1 : (Int × Int)) : Option (Stp (Int × Int) Int) :=
  cond (decide (x1.2 < (v1.length : Int))) ((geti v1 x1.2).bind fun v2 => some (.go ((w64 (x1.1 + v2)), (w64 (x1.2 + 1))))) (some (.out x1.1))

noncomputable def ref01_Length (p1 : Curve) : Option Int :=
  (ref01_Pieces p1).bind fun v1 => (loop (ref01_Length_l1 v1) (0, 0)).bind fun y1 => some y1

noncomputable def curve_Piece (p1 : Curve) (p2 : Int) : Option (Int × Int) :=
  (curve_Check p1).bind fun v1 => cond (v1 != 0) (some (0, 0)) ((curve_find p1 (mm2 true 0 p2)).bind fun v2 => some (v2.1, v2.2.2))

noncomputable def ref01_Piece_l1 (v1 : (List Int)) (x1 : (Int × Int)) : Option (Stp (Int × Int) (Sum Int (Int × Int))) :=
  cond (decide (x1.2 < (w64 ((v1.length : Int) - 1)))) ((geti v1 x1.2).bind fun v3 => cond (decide (x1.1 < v3)) (some (.out (.inr (x1.2, x1.1)))) ((geti v1 x1.2).bind fun v4 => some (.go ((w64 (x1.1 - v4)), (w64 (x1.2 + 1)))))) (some (.out (.inl x1.1)))

noncomputable def ref01_Piece (p1 : Curve) (p2 : Int) : Option (Int × Int) :=
  (ref01_Pieces p1).bind fun v1 => cond ((v1.length : Int) == 0) (some (0, 0)) ((ref01_Length p1).bind fun v2 => thenS (loop (ref01_Piece_l1 v1) ((mm2 true 0 (mm2 false p2 v2)), 0)) (fun y1 => some ((w64 ((v1.length : Int) - 1)), y1)) (fun r => some r))
end Go.Abs.Curve

namespace Go.Abs.Curve
open Go Go.Abs

theorem curve_root_spec (n : Int) : ∃ y, curve_root n = some (y, y * y == n) ∧ 0 ≤ y ∧ y ≤ 67108864 ∧ (∀ m, 0 ≤ m → m < y → m * m < n) ∧ (y = 67108864 ∨ n ≤ y * y) := by
  have key := loop_inv (f := curve_root_l1 n) (fun x => 0 ≤ x.1 ∧ x.1 ≤ x.2 ∧ x.2 ≤ 67108864 ∧ (∀ m, 0 ≤ m → m < x.1 → m * m < n) ∧ (x.2 = 67108864 ∨ n ≤ x.2 * x.2)) (fun x => (x.2 - x.1).toNat)
    (fun y => 0 ≤ y ∧ y ≤ 67108864 ∧ (∀ m, 0 ≤ m → m < y → m * m < n) ∧ (y = 67108864 ∨ n ≤ y * y)) (by
      rintro ⟨lo, hi⟩ ⟨h1, h2, h3, h4, h5⟩
      dsimp only at h1 h2 h3 h4 h5
      unfold curve_root_l1
      dsimp only
      by_cases hlt : lo < hi
      · have e1 : w64 (lo + hi) = lo + hi := w64_id (by omega)
        have e2 : w64 ((lo + hi).tdiv 2) = (lo + hi) / 2 := by rw [Int.tdiv_eq_ediv_of_nonneg (by omega)]; exact w64_id (by omega)
        have hm : lo ≤ (lo + hi) / 2 ∧ (lo + hi) / 2 < hi := by omega
        generalize hmid : (lo + hi) / 2 = mid at *
        have hmm : mid * mid ≤ 67108864 * 67108864 := sq_le (by omega) (by omega)
        have hmm0 := sq_nonneg mid
        have e3 : w64 (mid * mid) = mid * mid := w64_id (by omega)
        have e4 : w64 (mid + 1) = mid + 1 := w64_id (by omega)
        simp only [e1, e2, e3, e4, hlt, decide_true, cond_true]
        by_cases hc : mid * mid < n
        · simp only [hc, decide_true, cond_true]
          refine ⟨_, rfl, ⟨by omega, by omega, h3, fun m hm0 hm1 => ?_, h5⟩, by dsimp only; omega⟩
          rcases Int.lt_or_le m mid with q | q
          · have := Int.mul_le_mul (show m ≤ mid by omega) (show m ≤ mid by omega) hm0 (by omega); omega
          · have : m = mid := by dsimp only at hm1; omega
            subst this; exact hc
        · simp only [hc, decide_false, cond_false]
          exact ⟨_, rfl, ⟨h1, by dsimp only; omega, by dsimp only; omega, h4, .inr (by dsimp only; omega)⟩, by dsimp only; omega⟩
      · simp only [hlt, decide_false, cond_false]
        obtain rfl : lo = hi := by omega
        exact ⟨_, rfl, h1, h3, h4, h5⟩) (0, 67108864) ⟨by decide, by decide, by decide, fun m h1 h2 => by dsimp only at h2; omega, .inl rfl⟩
  obtain ⟨y, hy, h1, h2, h3, h4⟩ := key
  refine ⟨y, ?_, h1, h2, h3, h4⟩
  have hmm : y * y ≤ 67108864 * 67108864 := sq_le (by omega) (by omega)
  have hmm0 := sq_nonneg y
  unfold curve_root
  rw [hy, Option.bind_some, w64_id (by omega)]
/-- The least number whose square is not less. -/
noncomputable def rt (n : Int) : Int := (curve_root_spec n).choose
theorem curve_root_rt (n : Int) : curve_root n = some (rt n, rt n * rt n == n) := (curve_root_spec n).choose_spec.1
theorem rt_nonneg (n : Int) : 0 ≤ rt n := (curve_root_spec n).choose_spec.2.1
theorem rt_min (n m : Int) (h1 : 0 ≤ m) (h2 : m < rt n) : m * m < n := (curve_root_spec n).choose_spec.2.2.2.1 m h1 h2
theorem rt_max (n : Int) : rt n = 67108864 ∨ n ≤ rt n * rt n := (curve_root_spec n).choose_spec.2.2.2.2
theorem rt_sq {l : Int} (h0 : 0 ≤ l) (h1 : l ≤ 67108864) : rt (l * l) = l := by
  rcases Int.lt_trichotomy (rt (l * l)) l with q | q | q
  · rcases rt_max (l * l) with h | h
    · omega
    · have h2 := rt_nonneg (l * l)
      have := Int.mul_lt_mul' (show rt (l * l) ≤ l by omega) q h2 (by omega); omega
  · exact q
  · have := rt_min (l * l) l h0 q; omega

theorem ref01_root_spec (n : Int) (h0 : 0 ≤ n) (h1 : n < 18014398509481984) : ∃ r, ref01_root n = some r ∧ 0 ≤ r ∧ r < 134217728 ∧ r * r ≤ n ∧ n < (r + 1) * (r + 1) := by
  have key := loop_inv (f := ref01_root_l1 n) (fun x => 0 ≤ x.1 ∧ x.1 * x.1 ≤ n ∧ ((∃ k : Nat, k ≤ 26 ∧ x.2 = 2 ^ k ∧ x.1 + 2 * 2 ^ k ≤ 134217728 ∧ n < (x.1 + 2 * 2 ^ k) * (x.1 + 2 * 2 ^ k)) ∨ (x.2 = 0 ∧ x.1 < 134217728 ∧ n < (x.1 + 1) * (x.1 + 1)))) (fun x => x.2.toNat)
    (fun r => 0 ≤ r ∧ r < 134217728 ∧ r * r ≤ n ∧ n < (r + 1) * (r + 1)) (by
      rintro ⟨r, bit⟩ ⟨q1, q2, q3⟩
      dsimp only at q1 q2 q3
      unfold ref01_root_l1
      dsimp only
      rcases q3 with ⟨k, hk, rfl, q4, q5⟩ | ⟨rfl, q4, q5⟩
      · have hp : (0 : Int) < 2 ^ k := Int.pow_pos (by decide)
        generalize hb : (2 : Int) ^ k = b at *
        have e1 : w64 (r + b) = r + b := w64_id (by omega)
        have hmm : (r + b) * (r + b) ≤ 134217728 * 134217728 := sq_le (by omega) (by omega)
        have hmm0 := sq_nonneg (r + b)
        have e2 : w64 ((r + b) * (r + b)) = (r + b) * (r + b) := w64_id (by omega)
        have e3 : w64 (b.tdiv 2) = b / 2 := by rw [Int.tdiv_eq_ediv_of_nonneg (by omega)]; exact w64_id (by omega)
        have hb0 : b > 0 := by omega
        simp only [e1, e2, e3, hb0, decide_true, cond_true]
        have hnext : ∀ r', 0 ≤ r' → r' * r' ≤ n → r' + b ≤ 134217728 → n < (r' + b) * (r' + b) → (∃ j : Nat, j ≤ 26 ∧ b / 2 = 2 ^ j ∧ r' + 2 * 2 ^ j ≤ 134217728 ∧ n < (r' + 2 * 2 ^ j) * (r' + 2 * 2 ^ j)) ∨ (b / 2 = 0 ∧ r' < 134217728 ∧ n < (r' + 1) * (r' + 1)) := by
          intro r' a1 a2 a3 a4
          cases k with
          | zero =>
            have : b = 1 := by rw [← hb]; rfl
            subst this
            exact .inr ⟨by decide, by omega, a4⟩
          | succ j =>
            have hj : b = 2 * 2 ^ j := by rw [← hb, Int.pow_succ]; omega
            refine .inl ⟨j, by omega, by omega, by omega, by rw [← hj]; exact a4⟩
        by_cases hc : (r + b) * (r + b) ≤ n
        · simp only [hc, decide_true, cond_true]
          refine ⟨_, rfl, ⟨by dsimp only; omega, hc, hnext (r + b) (by omega) hc (by omega) (by rw [show r + b + b = r + 2 * b by omega]; exact q5)⟩, by dsimp only; omega⟩
        · simp only [hc, decide_false, cond_false]
          exact ⟨_, rfl, ⟨q1, q2, hnext r q1 q2 (by omega) (by omega)⟩, by dsimp only; omega⟩
      · simp only [show ¬ (0 : Int) > 0 by decide, decide_false, cond_false]
        exact ⟨_, rfl, q1, q4, q2, q5⟩) (0, 67108864) ⟨by decide, by dsimp only; omega, .inl ⟨26, by decide, by decide, by decide, by dsimp only; omega⟩⟩
  obtain ⟨r, hr, a⟩ := key
  exact ⟨r, by unfold ref01_root; rw [hr]; rfl, a⟩
theorem ref01_root_rt {n : Int} (h0 : 0 ≤ n) (h1 : n ≤ 4503599627370496) : ∃ r, ref01_root n = some r ∧ 0 ≤ r ∧ r < 134217728 ∧ (r * r = n ↔ rt n * rt n = n) ∧ (r * r = n → r = rt n) := by
  obtain ⟨r, hr, a1, a2, a3, a4⟩ := ref01_root_spec n h0 (by omega)
  have hr26 : r ≤ 67108864 := by
    rcases Int.lt_or_le r 67108865 with q | q
    · omega
    · have := Int.mul_le_mul q q (by decide) (by omega); omega
  refine ⟨r, hr, a1, a2, ⟨fun h => ?_, fun h => ?_⟩, fun h => ?_⟩
  · rw [← h, rt_sq a1 hr26]
  · rcases Int.lt_trichotomy r (rt n) with q | q | q
    · have := Int.mul_le_mul (show r + 1 ≤ rt n by omega) (show r + 1 ≤ rt n by omega) (by omega) (rt_nonneg n); omega
    · rw [q]; exact h
    · have h2 := rt_nonneg n
      have := Int.mul_lt_mul' (show rt n ≤ r by omega) q h2 (by omega); omega
  · rw [← h, rt_sq a1 hr26]
end Go.Abs.Curve

namespace Go.Abs.Curve
open Go Go.Abs

def okS (p : Spot) : Bool := decide (-16777216 ≤ p.X) && decide (p.X ≤ 16777216) && decide (-16777216 ≤ p.Y) && decide (p.Y ≤ 16777216)
theorem okS_iff {p : Spot} : okS p = true ↔ -16777216 ≤ p.X ∧ p.X ≤ 16777216 ∧ -16777216 ≤ p.Y ∧ p.Y ≤ 16777216 := by simp [okS, and_assoc]
theorem fair_cond (p : Spot) : ((decide ((mm2 false p.X p.Y) < (-16777216))) || (decide ((mm2 true p.X p.Y) > 16777216))) = !okS p := by
  rw [mm2_min, mm2_max]
  cases h : okS p with
  | true => have := okS_iff.1 h; simp; omega
  | false =>
    have : ¬ (-16777216 ≤ p.X ∧ p.X ≤ 16777216 ∧ -16777216 ≤ p.Y ∧ p.Y ≤ 16777216) := fun q => by rw [okS_iff.2 q] at h; cases h
    simp; omega
theorem curve_fair_go (l : List Spot) (hl : l.length ≤ 1000000) : ∀ (r : List Spot) (i : Nat), l.drop i = r → loop (curve_fair_l1 l) (i : Int) = some (if r.all okS then .inl () else .inr false) := by
  intro r
  induction r with
  | nil =>
    intro i hi
    have := drop_nil hi
    refine loop_out ?_
    unfold curve_fair_l1
    simp only [show ¬ (i : Int) < l.length by omega, decide_false, cond_false, List.all_nil, if_true]
  | cons p r ih =>
    intro i hi
    have hlt := drop_lt hi
    have hstep : curve_fair_l1 l (i : Int) = if okS p then some (.go ((i + 1 : Nat) : Int)) else some (.out (.inr false)) := by
      unfold curve_fair_l1
      simp only [show (i : Int) < l.length by omega, decide_true, cond_true, geti_drop hi, Option.bind_some, fair_cond]
      cases h : okS p with
      | true => simp only [Bool.not_true, cond_false, if_true]; rw [w64_id (by omega)]; rfl
      | false => simp
    cases h : okS p with
    | true =>
      rw [h, if_pos rfl] at hstep
      rw [loop_go hstep, ih (i + 1) (drop_succ hi)]
      simp [h]
    | false =>
      rw [h] at hstep
      rw [loop_out hstep]
      simp [h]
theorem curve_fair_eq (l : List Spot) (hl : l.length ≤ 1000000) : curve_fair l = some (l.all okS) := by
  unfold curve_fair
  have := curve_fair_go l hl l 0 (by simp)
  rw [show ((0 : Nat) : Int) = 0 from rfl] at this
  rw [this]
  cases l.all okS <;> rfl
theorem ref01_Valid_eq (p : Spot) : ref01_Valid p = some (okS p) := by
  unfold ref01_Valid okS; rfl

def vec (p q : Spot) : CurveVector := ⟨q.X - p.X, q.Y - p.Y⟩
def dotv (v w : CurveVector) : Int := v.x * w.x + v.y * w.y
/-- A vector between valid spots. -/
def okV (v : CurveVector) : Prop := -33554432 ≤ v.x ∧ v.x ≤ 33554432 ∧ -33554432 ≤ v.y ∧ v.y ≤ 33554432
theorem okV_vec {p q : Spot} (hp : okS p = true) (hq : okS q = true) : okV (vec p q) := by
  have := okS_iff.1 hp; have := okS_iff.1 hq
  unfold okV vec; dsimp only; omega
theorem curve_from_eq {p q : Spot} (hp : okS p = true) (hq : okS q = true) : curve_from p q = some (vec p q) := by
  have := okS_iff.1 hp; have := okS_iff.1 hq
  unfold curve_from vec
  rw [w64_id (by omega), w64_id (by omega)]
theorem dot_bd {v w : CurveVector} (hv : okV v) (hw : okV w) : -2251799813685248 ≤ dotv v w ∧ dotv v w ≤ 2251799813685248 ∧ (-1125899906842624 ≤ v.x * w.x ∧ v.x * w.x ≤ 1125899906842624) ∧ -1125899906842624 ≤ v.y * w.y ∧ v.y * w.y ≤ 1125899906842624 := by
  obtain ⟨a1, a2, a3, a4⟩ := hv
  obtain ⟨b1, b2, b3, b4⟩ := hw
  have h1 := mul_bd ⟨a1, a2⟩ ⟨b1, b2⟩
  have h2 := mul_bd ⟨a3, a4⟩ ⟨b3, b4⟩
  unfold dotv
  omega
theorem curve_dot_eq {v w : CurveVector} (hv : okV v) (hw : okV w) : curve_vector_dot v w = some (dotv v w) := by
  have h := dot_bd hv hw
  unfold curve_vector_dot
  rw [w64_id (n := v.x * w.x) (by omega), w64_id (n := v.y * w.y) (by omega), w64_id (by unfold dotv at h; omega)]
  rfl
theorem dot_nonneg (v : CurveVector) : 0 ≤ dotv v v := by have := sq_nonneg v.x; have := sq_nonneg v.y; unfold dotv; omega

def vs (v : CurveVector) : Spot := ⟨v.x, v.y⟩
theorem ref01_Minus_eq {p q : Spot} (hp : okS p = true) (hq : okS q = true) : ref01_Minus q p = some (vs (vec p q)) := by
  have := okS_iff.1 hp; have := okS_iff.1 hq
  unfold ref01_Minus vec vs
  rw [w64_id (by omega), w64_id (by omega)]
theorem ref01_Dot_eq {v w : CurveVector} (hv : okV v) (hw : okV w) : ref01_Dot (vs v) (vs w) = some (dotv v w) := by
  have h := dot_bd hv hw
  unfold ref01_Dot vs
  dsimp only
  rw [w64_id (n := v.x * w.x) (by omega), w64_id (n := v.y * w.y) (by omega), w64_id (by unfold dotv at h; omega)]
  rfl

/-- The error of a chain of points, from a piece on; the piece ahead of it. -/
noncomputable def goM : Option CurveVector → List Spot → Int
  | last, p :: q :: r =>
    if rt (dotv (vec p q) (vec p q)) * rt (dotv (vec p q) (vec p q)) ≠ dotv (vec p q) (vec p q) then 3
    else if rt (dotv (vec p q) (vec p q)) < 1000 ∨ rt (dotv (vec p q) (vec p q)) > 1048576 then 2
    else match last with
      | some u => if dotv u (vec p q) ≤ 0 then 12 else goM (some (vec p q)) (q :: r)
      | none => goM (some (vec p q)) (q :: r)
  | _, _ => 0
theorem goM_cons (last : Option CurveVector) (p q : Spot) (r : List Spot) : goM last (p :: q :: r) =
    if rt (dotv (vec p q) (vec p q)) * rt (dotv (vec p q) (vec p q)) ≠ dotv (vec p q) (vec p q) then 3
    else if rt (dotv (vec p q) (vec p q)) < 1000 ∨ rt (dotv (vec p q) (vec p q)) > 1048576 then 2
    else match last with
      | some u => if dotv u (vec p q) ≤ 0 then 12 else goM (some (vec p q)) (q :: r)
      | none => goM (some (vec p q)) (q :: r) := by
  conv => lhs; unfold goM
noncomputable def checkM (l : List Spot) : Int := if l.length < 2 then 6 else if l.length > 16 then 5 else if l.all okS then goM none l else 2

theorem curve_Check_go (c : Curve) (hl : c.Pts.length ≤ 1000000) (hok : c.Pts.all okS = true) : ∀ (r : List Spot) (p : Spot) (i : Nat) (last : CurveVector), c.Pts.drop i = p :: r → okV last →
    loop (curve_Check_l1 c) ((i : Int), last) = some (if goM (if i = 0 then none else some last) (p :: r) = 0 then .inl () else .inr (goM (if i = 0 then none else some last) (p :: r))) := by
  intro r
  induction r with
  | nil =>
    intro p i last hi hlast
    have hlt := drop_lt hi
    have := drop_nil (drop_succ hi)
    refine loop_out ?_
    unfold curve_Check_l1
    dsimp only
    rw [w64_id (n := (c.Pts.length : Int) - 1) (by omega)]
    simp only [show ¬ (i : Int) < (c.Pts.length : Int) - 1 by omega, decide_false, cond_false, goM, if_true]
  | cons q r ih =>
    intro p i last hi hlast
    have hlt := drop_lt hi
    have hi1 := drop_succ hi
    have hlt1 := drop_lt hi1
    have hp : okS p = true := List.all_eq_true.1 hok p (List.mem_of_mem_drop (i := i) (by rw [hi]; simp))
    have hq : okS q = true := List.all_eq_true.1 hok q (List.mem_of_mem_drop (i := i) (by rw [hi]; simp))
    have hv := okV_vec hp hq
    have hg1 : geti c.Pts ((i : Int) + 1) = some q := by have := geti_drop hi1; simpa using this
    have hstep : curve_Check_l1 c ((i : Int), last) =
        if rt (dotv (vec p q) (vec p q)) * rt (dotv (vec p q) (vec p q)) ≠ dotv (vec p q) (vec p q) then some (.out (.inr 3))
        else if rt (dotv (vec p q) (vec p q)) < 1000 ∨ rt (dotv (vec p q) (vec p q)) > 1048576 then some (.out (.inr 2))
        else if i ≠ 0 ∧ dotv last (vec p q) ≤ 0 then some (.out (.inr 12)) else some (.go (((i + 1 : Nat) : Int), vec p q)) := by
      unfold curve_Check_l1
      dsimp only
      rw [w64_id (n := (c.Pts.length : Int) - 1) (by omega), w64_id (n := (i : Int) + 1) (by omega)]
      simp only [show (i : Int) < (c.Pts.length : Int) - 1 by omega, decide_true, cond_true, geti_drop hi, hg1, Option.bind_some, curve_from_eq hp hq, curve_dot_eq hv hv, curve_root_rt]
      by_cases h1 : rt (dotv (vec p q) (vec p q)) * rt (dotv (vec p q) (vec p q)) = dotv (vec p q) (vec p q)
      · simp only [h1, beq_self_eq_true, Bool.not_true, cond_false, ne_eq, not_true_eq_false, if_false]
        by_cases h2 : rt (dotv (vec p q) (vec p q)) < 1000 ∨ rt (dotv (vec p q) (vec p q)) > 1048576
        · rw [if_pos h2]
          have : (decide (rt (dotv (vec p q) (vec p q)) < 1000) || decide (rt (dotv (vec p q) (vec p q)) > 1048576)) = true := by simpa using h2
          rw [this]; rfl
        · rw [if_neg h2]
          have : (decide (rt (dotv (vec p q) (vec p q)) < 1000) || decide (rt (dotv (vec p q) (vec p q)) > 1048576)) = false := by simpa using h2
          rw [this]
          simp only [cond_false]
          by_cases h3 : i = 0
          · subst h3
            simp only [Int.natCast_zero, gt_iff_lt, Int.lt_irrefl, decide_false, cond_false, Bool.false_and, Option.bind_some, not_true_eq_false, false_and, if_false]
            rfl
          · have h4 : (i : Int) > 0 := by omega
            simp only [h4, decide_true, cond_true, curve_dot_eq hlast hv, Option.bind_some, Bool.true_and, h3, not_false_eq_true, true_and]
            by_cases h5 : dotv last (vec p q) ≤ 0 <;> simp [h5]
      · have : (rt (dotv (vec p q) (vec p q)) * rt (dotv (vec p q) (vec p q)) == dotv (vec p q) (vec p q)) = false := by simpa using h1
        simp only [this, Bool.not_false, cond_true, ne_eq, h1, not_false_eq_true, if_true]
    rw [goM_cons]
    by_cases h1 : rt (dotv (vec p q) (vec p q)) * rt (dotv (vec p q) (vec p q)) ≠ dotv (vec p q) (vec p q)
    · rw [if_pos h1] at hstep
      rw [loop_out hstep, if_pos h1]; rfl
    · rw [if_neg h1] at hstep ⊢
      by_cases h2 : rt (dotv (vec p q) (vec p q)) < 1000 ∨ rt (dotv (vec p q) (vec p q)) > 1048576
      · rw [if_pos h2] at hstep
        rw [loop_out hstep, if_pos h2]; rfl
      · rw [if_neg h2] at hstep ⊢
        by_cases h3 : i = 0
        · subst h3
          rw [if_neg (by simp)] at hstep
          rw [loop_go hstep, ih q (0 + 1) (vec p q) hi1 hv]
          simp
        · by_cases h5 : dotv last (vec p q) ≤ 0
          · rw [if_pos ⟨h3, h5⟩] at hstep
            rw [loop_out hstep]
            simp [h3, h5]
          · rw [if_neg (fun h => h5 h.2)] at hstep
            rw [loop_go hstep, ih q (i + 1) (vec p q) hi1 hv]
            simp [h3, h5]
theorem curve_Check_eq (c : Curve) (hl : c.Pts.length ≤ 1000000) : curve_Check c = some (checkM c.Pts) := by
  unfold curve_Check checkM
  by_cases h1 : c.Pts.length < 2
  · rw [if_pos h1, show decide ((c.Pts.length : Int) < 2) = true by simp; omega]; rfl
  · rw [if_neg h1, show decide ((c.Pts.length : Int) < 2) = false by simp; omega]
    simp only [cond_false]
    by_cases h2 : c.Pts.length > 16
    · rw [if_pos h2, show decide ((c.Pts.length : Int) > 16) = true by simp; omega]; rfl
    · rw [if_neg h2, show decide ((c.Pts.length : Int) > 16) = false by simp; omega]
      simp only [cond_false, curve_fair_eq c.Pts hl, Option.bind_some]
      cases h3 : c.Pts.all okS with
      | false => rfl
      | true =>
        simp only [Bool.not_true, cond_false, if_true]
        cases hp : c.Pts with
        | nil => rw [hp] at h1; simp at h1
        | cons p r =>
          have := curve_Check_go c hl h3 r p 0 ⟨0, 0⟩ (by rw [hp]; rfl) ⟨by decide, by decide, by decide, by decide⟩
          rw [if_pos rfl, show ((0 : Nat) : Int) = 0 from rfl] at this
          rw [this]
          by_cases h4 : goM none (p :: r) = 0
          · rw [if_pos h4, h4]; rfl
          · rw [if_neg h4]; rfl
end Go.Abs.Curve

namespace Go.Abs.Curve
open Go Go.Abs

theorem dotv_comm (v w : CurveVector) : dotv v w = dotv w v := by unfold dotv; rw [Int.mul_comm v.x, Int.mul_comm v.y]
theorem ref01_Check_go1 (c : Curve) (hl : c.Pts.length ≤ 1000000) : ∀ (r : List Spot) (i : Nat), c.Pts.drop i = r → loop (ref01_Check_l1 c) (i : Int) = some (if r.all okS then .inl () else .inr 2) := by
  intro r
  induction r with
  | nil =>
    intro i hi
    have := drop_nil hi
    refine loop_out ?_
    unfold ref01_Check_l1
    simp only [show ¬ (i : Int) < c.Pts.length by omega, decide_false, cond_false, List.all_nil, if_true]
  | cons p r ih =>
    intro i hi
    have hlt := drop_lt hi
    have hstep : ref01_Check_l1 c (i : Int) = if okS p then some (.go ((i + 1 : Nat) : Int)) else some (.out (.inr 2)) := by
      unfold ref01_Check_l1
      simp only [show (i : Int) < c.Pts.length by omega, decide_true, cond_true, geti_drop hi, Option.bind_some, ref01_Valid_eq]
      cases h : okS p with
      | true => simp only [Bool.not_true, cond_false, if_true]; rw [w64_id (by omega)]; rfl
      | false => simp
    cases h : okS p with
    | true =>
      rw [h, if_pos rfl] at hstep
      rw [loop_go hstep, ih (i + 1) (drop_succ hi)]
      simp [h]
    | false =>
      rw [h] at hstep
      rw [loop_out hstep]
      simp [h]
theorem sq_dot {v : CurveVector} (hv : okV v) : ∃ l, ref01_root (dotv v v) = some l ∧ (w64 (l * l) != dotv v v) = !(rt (dotv v v) * rt (dotv v v) == dotv v v) ∧ (rt (dotv v v) * rt (dotv v v) = dotv v v → l = rt (dotv v v)) := by
  have hb := dot_bd hv hv
  obtain ⟨l, h1, h2, h3, h4, h5⟩ := ref01_root_rt (dot_nonneg v) (by omega)
  have hmm : l * l ≤ 134217728 * 134217728 := sq_le (by omega) (by omega)
  have hmm0 := sq_nonneg l
  refine ⟨l, h1, ?_, fun h => h5 (h4.2 h)⟩
  rw [w64_id (by omega)]
  by_cases h : l * l = dotv v v
  · simp [h, h4.1 h]
  · have h' : ¬ rt (dotv v v) * rt (dotv v v) = dotv v v := fun q => h (h4.2 q)
    have e1 : (l * l != dotv v v) = true := bne_iff_ne.2 h
    have e2 : (rt (dotv v v) * rt (dotv v v) == dotv v v) = false := beq_eq_false_iff_ne.2 h'
    rw [e1, e2]; rfl
theorem ref01_Check_go2 (c : Curve) (hl : c.Pts.length ≤ 1000000) (hok : c.Pts.all okS = true) : ∀ (r : List Spot) (p : Spot) (i : Nat) (last : Option CurveVector), c.Pts.drop i = p :: r →
    (i = 0 ∧ last = none ∨ ∃ j a, i = j + 1 ∧ c.Pts.drop j = a :: p :: r ∧ last = some (vec a p)) →
    loop (ref01_Check_l2 c) (i : Int) = some (if goM last (p :: r) = 0 then .inl () else .inr (goM last (p :: r))) := by
  intro r
  induction r with
  | nil =>
    intro p i last hi hlast
    have hlt := drop_lt hi
    have := drop_nil (drop_succ hi)
    refine loop_out ?_
    unfold ref01_Check_l2
    rw [w64_id (n := (i : Int) + 1) (by omega)]
    simp only [show ¬ (i : Int) + 1 < (c.Pts.length : Int) by omega, decide_false, cond_false, goM, if_true]
  | cons q r ih =>
    intro p i last hi hlast
    have hlt := drop_lt hi
    have hi1 := drop_succ hi
    have hlt1 := drop_lt hi1
    have hp : okS p = true := List.all_eq_true.1 hok p (List.mem_of_mem_drop (i := i) (by rw [hi]; simp))
    have hq : okS q = true := List.all_eq_true.1 hok q (List.mem_of_mem_drop (i := i) (by rw [hi]; simp))
    have hv := okV_vec hp hq
    have hg1 : geti c.Pts ((i : Int) + 1) = some q := by have := geti_drop hi1; simpa using this
    obtain ⟨l, hl1, hl2, hl3⟩ := sq_dot hv
    have hstep : ref01_Check_l2 c (i : Int) =
        if rt (dotv (vec p q) (vec p q)) * rt (dotv (vec p q) (vec p q)) ≠ dotv (vec p q) (vec p q) then some (.out (.inr 3))
        else if rt (dotv (vec p q) (vec p q)) < 1000 ∨ rt (dotv (vec p q) (vec p q)) > 1048576 then some (.out (.inr 2))
        else match last with
          | some u => if dotv u (vec p q) ≤ 0 then some (.out (.inr 12)) else some (.go ((i + 1 : Nat) : Int))
          | none => some (.go ((i + 1 : Nat) : Int)) := by
      unfold ref01_Check_l2
      rw [w64_id (n := (i : Int) + 1) (by omega)]
      simp only [show (i : Int) + 1 < (c.Pts.length : Int) by omega, decide_true, cond_true, geti_drop hi, hg1, Option.bind_some, ref01_Minus_eq hp hq, ref01_Dot_eq hv hv, hl1, hl2]
      by_cases h1 : rt (dotv (vec p q) (vec p q)) * rt (dotv (vec p q) (vec p q)) = dotv (vec p q) (vec p q)
      · simp only [h1, beq_self_eq_true, Bool.not_true, cond_false, ne_eq, not_true_eq_false, if_false, hl3 h1]
        by_cases h2 : rt (dotv (vec p q) (vec p q)) < 1000 ∨ rt (dotv (vec p q) (vec p q)) > 1048576
        · rw [if_pos h2]
          have : (decide (rt (dotv (vec p q) (vec p q)) < 1000) || decide (rt (dotv (vec p q) (vec p q)) > 1048576)) = true := by simpa using h2
          rw [this]; rfl
        · rw [if_neg h2]
          have : (decide (rt (dotv (vec p q) (vec p q)) < 1000) || decide (rt (dotv (vec p q) (vec p q)) > 1048576)) = false := by simpa using h2
          rw [this]
          simp only [cond_false]
          rcases hlast with ⟨rfl, rfl⟩ | ⟨j, a, rfl, hj, rfl⟩
          · simp only [Int.natCast_zero, gt_iff_lt, Int.lt_irrefl, decide_false, cond_false, Bool.false_and, Option.bind_some]
            rfl
          · have h4 : (((j + 1 : Nat) : Int)) > 0 := by omega
            have ha : okS a = true := List.all_eq_true.1 hok a (List.mem_of_mem_drop (i := j) (by rw [hj]; simp))
            have hva := okV_vec ha hp
            have hgj : geti c.Pts (w64 (((j + 1 : Nat) : Int) - 1)) = some a := by
              rw [w64_id (by omega), show (((j + 1 : Nat) : Int) - 1) = (j : Int) by omega]
              exact geti_drop hj
            simp only [h4, decide_true, cond_true, hgj, Option.bind_some, ref01_Minus_eq ha hp, ref01_Dot_eq hv hva, Bool.true_and]
            rw [dotv_comm (vec p q) (vec a p)]
            by_cases h5 : dotv (vec a p) (vec p q) ≤ 0
            · simp [h5]
            · simp [h5]
      · have : (rt (dotv (vec p q) (vec p q)) * rt (dotv (vec p q) (vec p q)) == dotv (vec p q) (vec p q)) = false := by simpa using h1
        simp only [this, Bool.not_false, cond_true, ne_eq, h1, not_false_eq_true, if_true]
    rw [goM_cons]
    have hrec := ih q (i + 1) (some (vec p q)) hi1 (.inr ⟨i, p, rfl, hi, rfl⟩)
    by_cases h1 : rt (dotv (vec p q) (vec p q)) * rt (dotv (vec p q) (vec p q)) ≠ dotv (vec p q) (vec p q)
    · rw [if_pos h1] at hstep
      rw [loop_out hstep, if_pos h1]; rfl
    · rw [if_neg h1] at hstep ⊢
      by_cases h2 : rt (dotv (vec p q) (vec p q)) < 1000 ∨ rt (dotv (vec p q) (vec p q)) > 1048576
      · rw [if_pos h2] at hstep
        rw [loop_out hstep, if_pos h2]; rfl
      · rw [if_neg h2] at hstep ⊢
        cases last with
        | none => rw [loop_go hstep, hrec]
        | some u =>
          dsimp only at hstep ⊢
          by_cases h5 : dotv u (vec p q) ≤ 0
          · rw [if_pos h5] at hstep
            rw [loop_out hstep]; simp [h5]
          · rw [if_neg h5] at hstep
            rw [loop_go hstep, hrec]; simp [h5]
theorem ref01_Check_eq (c : Curve) (hl : c.Pts.length ≤ 1000000) : ref01_Check c = some (checkM c.Pts) := by
  unfold ref01_Check checkM
  by_cases h1 : c.Pts.length < 2
  · rw [if_pos h1, show decide ((c.Pts.length : Int) < 2) = true by simp; omega]; rfl
  · rw [if_neg h1, show decide ((c.Pts.length : Int) < 2) = false by simp; omega]
    simp only [cond_false]
    by_cases h2 : c.Pts.length > 16
    · rw [if_pos h2, show decide ((c.Pts.length : Int) > 16) = true by simp; omega]; rfl
    · rw [if_neg h2, show decide ((c.Pts.length : Int) > 16) = false by simp; omega]
      have hg := ref01_Check_go1 c hl c.Pts 0 (by simp)
      rw [show ((0 : Nat) : Int) = 0 from rfl] at hg
      simp only [cond_false, hg]
      cases h3 : c.Pts.all okS with
      | false => rfl
      | true =>
        simp only [if_true, thenS]
        cases hp : c.Pts with
        | nil => rw [hp] at h1; simp at h1
        | cons p r =>
          have := ref01_Check_go2 c hl h3 r p 0 none (by rw [hp]; rfl) (.inl ⟨rfl, rfl⟩)
          rw [show ((0 : Nat) : Int) = 0 from rfl] at this
          rw [this]
          by_cases h4 : goM none (p :: r) = 0
          · rw [if_pos h4, h4]
          · rw [if_neg h4]
/-- What a valid chain is. -/
inductive Good : Option CurveVector → List Spot → Prop
  | one (last : Option CurveVector) (p : Spot) : Good last [p]
  | cons (last : Option CurveVector) (p q : Spot) (r : List Spot) (h1 : rt (dotv (vec p q) (vec p q)) * rt (dotv (vec p q) (vec p q)) = dotv (vec p q) (vec p q)) (h2 : 1000 ≤ rt (dotv (vec p q) (vec p q))) (h3 : rt (dotv (vec p q) (vec p q)) ≤ 1048576)
      (h4 : ∀ u, last = some u → 0 < dotv u (vec p q)) (h : Good (some (vec p q)) (q :: r)) : Good last (p :: q :: r)
theorem good_of_goM : ∀ (r : List Spot) (p : Spot) (last : Option CurveVector), goM last (p :: r) = 0 → Good last (p :: r) := by
  intro r
  induction r with
  | nil => intro p last _; exact .one _ _
  | cons q r ih =>
    intro p last h
    rw [goM_cons] at h
    split at h
    · cases h
    · rename_i h1
      split at h
      · cases h
      · rename_i h2
        have h1 : rt (dotv (vec p q) (vec p q)) * rt (dotv (vec p q) (vec p q)) = dotv (vec p q) (vec p q) := by simpa using h1
        cases last with
        | none => exact .cons _ _ _ _ h1 (by omega) (by omega) (fun u hu => by cases hu) (ih q _ h)
        | some u =>
          dsimp only at h
          split at h
          · cases h
          · exact .cons _ _ _ _ h1 (by omega) (by omega) (fun u' hu => by cases hu; omega) (ih q _ h)
theorem goM_of_good {last : Option CurveVector} {l : List Spot} (h : Good last l) : goM last l = 0 := by
  induction h with
  | one => rfl
  | cons last p q r h1 h2 h3 h4 h ih =>
    rw [goM_cons, if_neg (by simpa using h1), if_neg (by omega)]
    cases last with
    | none => exact ih
    | some u => dsimp only; rw [if_neg (by have := h4 u rfl; omega)]; exact ih
structure Valid (l : List Spot) : Prop where
  two : 2 ≤ l.length
  most : l.length ≤ 16
  ok : l.all okS = true
  good : Good none l
theorem checkM_zero {l : List Spot} : checkM l = 0 ↔ Valid l := by
  unfold checkM
  constructor
  · intro h
    split at h
    · cases h
    · rename_i h1
      split at h
      · cases h
      · rename_i h2
        split at h
        · rename_i h3
          cases l with
          | nil => simp at h1
          | cons p r => exact ⟨by omega, by omega, h3, good_of_goM r p none h⟩
        · cases h
  · rintro ⟨h1, h2, h3, h4⟩
    rw [if_neg (by omega), if_neg (by omega), if_pos h3]
    exact goM_of_good h4
end Go.Abs.Curve

namespace Go.Abs.Curve
open Go Go.Abs

/-- The pieces of a chain: the number, the piece. -/
noncomputable def piecesM : Nat → Int → List Spot → List (Int × CurvePiece)
  | i, s, p :: q :: r => ((i : Int), ⟨p, vec p q, rt (dotv (vec p q) (vec p q)), s⟩) :: piecesM (i + 1) (w64 (s + rt (dotv (vec p q) (vec p q)))) (q :: r)
  | _, _, _ => []
theorem piecesM_cons (i : Nat) (s : Int) (p q : Spot) (r : List Spot) : piecesM i s (p :: q :: r) = ((i : Int), ⟨p, vec p q, rt (dotv (vec p q) (vec p q)), s⟩) :: piecesM (i + 1) (w64 (s + rt (dotv (vec p q) (vec p q)))) (q :: r) := by conv => lhs; unfold piecesM
theorem piecesGo_eq (pts : List Spot) (hok : pts.all okS = true) : ∀ (r : List Spot) (p : Spot) (i : Nat) (s : Int), pts.drop i = p :: r → piecesGo pts r.length i s = some (piecesM i s (p :: r)) := by
  intro r
  induction r with
  | nil => intro p i s _; rfl
  | cons q r ih =>
    intro p i s hi
    have hi1 := drop_succ hi
    have hp : okS p = true := List.all_eq_true.1 hok p (List.mem_of_mem_drop (i := i) (by rw [hi]; simp))
    have hq : okS q = true := List.all_eq_true.1 hok q (List.mem_of_mem_drop (i := i) (by rw [hi]; simp))
    have hv := okV_vec hp hq
    have h0 : pts[i]? = some p := by have := congrArg (fun z => z[0]?) hi; simpa using this
    have h1 : pts[i + 1]? = some q := by have := congrArg (fun z => z[0]?) hi1; simpa using this
    rw [List.length_cons, piecesGo, h0, h1]
    simp only [Option.bind_some, curve_from_eq hp hq, curve_dot_eq hv hv, curve_root_rt]
    rw [ih q (i + 1) _ hi1, piecesM_cons]
    rfl
theorem piecesC_eq {pts : List Spot} (h : Valid pts) : piecesC pts = some (piecesM 0 0 pts) := by
  unfold piecesC
  have := h.most
  rw [if_pos (by omega)]
  cases hp : pts with
  | nil => have := h.two; rw [hp] at this; simp at this
  | cons p r => exact piecesGo_eq (p :: r) (by rw [← hp]; exact h.ok) r p 0 0 rfl
/-- The lengths. -/
noncomputable def lens : List Spot → List Int
  | p :: q :: r => rt (dotv (vec p q) (vec p q)) :: lens (q :: r)
  | _ => []
theorem lens_cons (p q : Spot) (r : List Spot) : lens (p :: q :: r) = rt (dotv (vec p q) (vec p q)) :: lens (q :: r) := by conv => lhs; unfold lens
theorem lens_length : ∀ (r : List Spot) (p : Spot), (lens (p :: r)).length = r.length
  | [], _ => rfl
  | q :: r, p => by rw [lens_cons, List.length_cons, lens_length r q, List.length_cons]
theorem piecesM_lens : ∀ (r : List Spot) (p : Spot) (i : Nat) (s : Int), (piecesM i s (p :: r)).map (·.2.l) = lens (p :: r)
  | [], _, _, _ => rfl
  | q :: r, p, i, s => by rw [piecesM_cons, lens_cons, List.map_cons, piecesM_lens r q]
theorem pieces_loop : ∀ (L : List (Int × CurvePiece)) (out : List Int), out.length + L.length ≤ 1000000000 → loopL curve_Pieces_l1 (fun x => x) L out = some (out ++ L.map (·.2.l)) := by
  intro L
  induction L with
  | nil => intro out _; simp [loopL]
  | cons a L ih =>
    intro out h
    simp only [List.length_cons] at h
    have : curve_Pieces_l1 out a = some (.go (out ++ [a.2.l])) := by
      unfold curve_Pieces_l1
      rw [appc_ok (by simp; omega)]; rfl
    rw [loopL, this]
    dsimp only
    rw [ih _ (by simp; omega)]
    simp
theorem curve_Pieces_eq (c : Curve) (hl : c.Pts.length ≤ 1000000) : curve_Pieces c = some (if checkM c.Pts = 0 then lens c.Pts else []) := by
  unfold curve_Pieces
  rw [curve_Check_eq c hl, Option.bind_some]
  by_cases h : checkM c.Pts = 0
  · rw [if_pos h, h]
    have hv := checkM_zero.1 h
    have := hv.most
    simp only [bne_self_eq_false, cond_false, piecesC_eq hv, Option.bind_some]
    cases hp : c.Pts with
    | nil => have := hv.two; rw [hp] at this; simp at this
    | cons p r =>
      have e := piecesM_lens r p 0 0
      rw [pieces_loop _ _ (by
        have := congrArg List.length e
        rw [List.length_map, lens_length] at this
        rw [this]; rw [hp] at hl; simp at hl ⊢; omega)]
      rw [e]; rfl
  · rw [if_neg h, show (checkM c.Pts != 0) = true from bne_iff_ne.2 h]; rfl

theorem ref01_pieces_loop (c : Curve) (hl : c.Pts.length ≤ 1000000) (hok : c.Pts.all okS = true) : ∀ (r : List Spot) (p : Spot) (i : Nat) (out : List Int) (last : Option CurveVector), c.Pts.drop i = p :: r → Good last (p :: r) → out.length + r.length ≤ 1000000 →
    loop (ref01_Pieces_l1 c) (out, (i : Int)) = some (out ++ lens (p :: r)) := by
  intro r
  induction r with
  | nil =>
    intro p i out last hi _ _
    have hlt := drop_lt hi
    have := drop_nil (drop_succ hi)
    refine loop_out ?_
    unfold ref01_Pieces_l1
    dsimp only
    rw [w64_id (n := (i : Int) + 1) (by omega)]
    simp only [show ¬ (i : Int) + 1 < (c.Pts.length : Int) by omega, decide_false, cond_false, lens, List.append_nil]
  | cons q r ih =>
    intro p i out last hi hg ho
    have hlt := drop_lt hi
    have hi1 := drop_succ hi
    have hlt1 := drop_lt hi1
    have hp : okS p = true := List.all_eq_true.1 hok p (List.mem_of_mem_drop (i := i) (by rw [hi]; simp))
    have hq : okS q = true := List.all_eq_true.1 hok q (List.mem_of_mem_drop (i := i) (by rw [hi]; simp))
    have hv := okV_vec hp hq
    have hg1 : geti c.Pts ((i : Int) + 1) = some q := by have := geti_drop hi1; simpa using this
    obtain ⟨l, hl1, hl2, hl3⟩ := sq_dot hv
    cases hg with
    | cons _ _ _ _ h1 h2 h3 h4 hg =>
      have hll := hl3 h1
      subst hll
      simp only [List.length_cons] at ho
      have hstep : ref01_Pieces_l1 c (out, (i : Int)) = some (.go (out ++ [rt (dotv (vec p q) (vec p q))], ((i + 1 : Nat) : Int))) := by
        unfold ref01_Pieces_l1
        dsimp only
        rw [w64_id (n := (i : Int) + 1) (by omega)]
        simp only [show (i : Int) + 1 < (c.Pts.length : Int) by omega, decide_true, cond_true, geti_drop hi, hg1, Option.bind_some, ref01_Minus_eq hp hq, ref01_Dot_eq hv hv, hl1]
        rw [appc_ok (by simp; omega)]
        rfl
      rw [loop_go hstep, ih q (i + 1) _ _ hi1 hg (by simp; omega), lens_cons]
      simp
theorem ref01_Pieces_eq (c : Curve) (hl : c.Pts.length ≤ 1000000) : ref01_Pieces c = some (if checkM c.Pts = 0 then lens c.Pts else []) := by
  unfold ref01_Pieces
  rw [ref01_Check_eq c hl, Option.bind_some]
  by_cases h : checkM c.Pts = 0
  · rw [if_pos h, h]
    have hv := checkM_zero.1 h
    simp only [bne_self_eq_false, cond_false]
    cases hp : c.Pts with
    | nil => have := hv.two; rw [hp] at this; simp at this
    | cons p r =>
      have := ref01_pieces_loop c hl hv.ok r p 0 [] none (by rw [hp]; rfl) (by rw [← hp]; exact hv.good) (by rw [hp] at hl; simp at hl ⊢; omega)
      rw [show ((0 : Nat) : Int) = 0 from rfl] at this
      rw [this]; rfl
  · rw [if_neg h, show (checkM c.Pts != 0) = true from bne_iff_ne.2 h]; rfl

/-- A sum, as the programs take it. -/
def sumW : Int → List Int → Int
  | s, [] => s
  | s, a :: l => sumW (w64 (s + a)) l
theorem curve_Length_loop (l : List Int) (hl : l.length ≤ 1000000) : ∀ (r : List Int) (i : Nat) (s : Int), l.drop i = r → loop (curve_Length_l1 l) (s, (i : Int)) = some (sumW s r) := by
  intro r
  induction r with
  | nil =>
    intro i s hi
    have := drop_nil hi
    refine loop_out ?_
    unfold curve_Length_l1
    simp only [show ¬ (i : Int) < l.length by omega, decide_false, cond_false, sumW]
  | cons a r ih =>
    intro i s hi
    have hlt := drop_lt hi
    have hstep : curve_Length_l1 l (s, (i : Int)) = some (.go (w64 (s + a), ((i + 1 : Nat) : Int))) := by
      unfold curve_Length_l1
      simp only [show (i : Int) < l.length by omega, decide_true, cond_true, geti_drop hi, Option.bind_some]
      rw [w64_id (n := (i : Int) + 1) (by omega)]; rfl
    rw [loop_go hstep, ih (i + 1) _ (drop_succ hi), sumW]
theorem ref01_Length_loop (l : List Int) (hl : l.length ≤ 1000000) : ∀ (r : List Int) (i : Nat) (s : Int), l.drop i = r → loop (ref01_Length_l1 l) (s, (i : Int)) = some (sumW s r) := by
  intro r
  induction r with
  | nil =>
    intro i s hi
    have := drop_nil hi
    refine loop_out ?_
    unfold ref01_Length_l1
    simp only [show ¬ (i : Int) < l.length by omega, decide_false, cond_false, sumW]
  | cons a r ih =>
    intro i s hi
    have hlt := drop_lt hi
    have hstep : ref01_Length_l1 l (s, (i : Int)) = some (.go (w64 (s + a), ((i + 1 : Nat) : Int))) := by
      unfold ref01_Length_l1
      simp only [show (i : Int) < l.length by omega, decide_true, cond_true, geti_drop hi, Option.bind_some]
      rw [w64_id (n := (i : Int) + 1) (by omega)]; rfl
    rw [loop_go hstep, ih (i + 1) _ (drop_succ hi), sumW]
noncomputable def piecesL (c : Curve) : List Int := if checkM c.Pts = 0 then lens c.Pts else []
theorem lens_le : ∀ l : List Spot, (lens l).length ≤ l.length
  | [] => by simp [lens]
  | p :: r => by rw [lens_length]; simp
theorem piecesL_le (c : Curve) : (piecesL c).length ≤ c.Pts.length := by
  unfold piecesL
  split
  · exact lens_le _
  · simp
theorem curve_Length_eq (c : Curve) (hl : c.Pts.length ≤ 1000000) : curve_Length c = some (sumW 0 (piecesL c)) := by
  unfold curve_Length
  rw [curve_Pieces_eq c hl, Option.bind_some]
  have := piecesL_le c
  have h := curve_Length_loop (piecesL c) (by omega) (piecesL c) 0 0 (by simp)
  rw [show ((0 : Nat) : Int) = 0 from rfl] at h
  show (loop (curve_Length_l1 (piecesL c)) (0, 0)).bind _ = _
  rw [h]; rfl
theorem ref01_Length_eq (c : Curve) (hl : c.Pts.length ≤ 1000000) : ref01_Length c = some (sumW 0 (piecesL c)) := by
  unfold ref01_Length
  rw [ref01_Pieces_eq c hl, Option.bind_some]
  have := piecesL_le c
  have h := ref01_Length_loop (piecesL c) (by omega) (piecesL c) 0 0 (by simp)
  rw [show ((0 : Nat) : Int) = 0 from rfl] at h
  show (loop (ref01_Length_l1 (piecesL c)) (0, 0)).bind _ = _
  rw [h]; rfl
end Go.Abs.Curve

namespace Go.Abs.Curve
open Go Go.Abs

theorem of6 (a b c d e f : Int) : law01_of [a, b, c, d, e, f] = some ⟨[⟨a, b⟩, ⟨c, d⟩, ⟨e, f⟩]⟩ := by
  unfold law01_of
  rw [loop_go (s' := (2, ⟨[⟨a, b⟩]⟩)) rfl, loop_go (s' := (4, ⟨[⟨a, b⟩, ⟨c, d⟩]⟩)) rfl, loop_go (s' := (6, ⟨[⟨a, b⟩, ⟨c, d⟩, ⟨e, f⟩]⟩)) rfl, loop_out (t := ⟨[⟨a, b⟩, ⟨c, d⟩, ⟨e, f⟩]⟩) rfl]
  rfl
theorem of4 (a b c d : Int) : law01_of [a, b, c, d] = some ⟨[⟨a, b⟩, ⟨c, d⟩]⟩ := by
  unfold law01_of
  rw [loop_go (s' := (2, ⟨[⟨a, b⟩]⟩)) rfl, loop_go (s' := (4, ⟨[⟨a, b⟩, ⟨c, d⟩]⟩)) rfl, loop_out (t := ⟨[⟨a, b⟩, ⟨c, d⟩]⟩) rfl]
  rfl
def bentC : Curve := ⟨[⟨0, 0⟩, ⟨3000, 4000⟩, ⟨8000, 4000⟩]⟩
theorem bent_eq : law01_bent = some bentC := by unfold law01_bent; rw [of6]; rfl
theorem rt_5000 : rt 25000000 = 5000 := rt_sq (l := 5000) (by decide) (by decide)
theorem bent_d1 : dotv (vec ⟨0, 0⟩ ⟨3000, 4000⟩) (vec ⟨0, 0⟩ ⟨3000, 4000⟩) = 25000000 := by decide
theorem bent_d2 : dotv (vec ⟨3000, 4000⟩ ⟨8000, 4000⟩) (vec ⟨3000, 4000⟩ ⟨8000, 4000⟩) = 25000000 := by decide
theorem bent_valid : Valid bentC.Pts := by
  refine ⟨by decide, by decide, by decide, ?_⟩
  refine .cons _ _ _ _ ?_ ?_ ?_ (fun u hu => by cases hu) (.cons _ _ _ _ ?_ ?_ ?_ (fun u hu => by cases hu; decide) (.one _ _))
  all_goals first | rw [bent_d1, rt_5000] | rw [bent_d2, rt_5000]
  all_goals decide
theorem bent_lens : lens bentC.Pts = [5000, 5000] := by
  show lens [_, _, _] = _
  rw [lens_cons, lens_cons, bent_d1, bent_d2, rt_5000]
  rfl
theorem bent_pieces : piecesM 0 0 bentC.Pts = [(0, ⟨⟨0, 0⟩, ⟨3000, 4000⟩, 5000, 0⟩), (1, ⟨⟨3000, 4000⟩, ⟨5000, 0⟩, 5000, 5000⟩)] := by
  show piecesM 0 0 [_, _, _] = _
  rw [piecesM_cons, piecesM_cons, bent_d1, bent_d2, rt_5000]
  rfl
theorem bent_Length : curve_Length bentC = some 10000 := by
  rw [curve_Length_eq _ (by decide), piecesL, if_pos (checkM_zero.2 bent_valid), bent_lens]
  rfl
theorem bent_At : curve_At bentC 2500 = some ⟨1500, 2000⟩ := by
  unfold curve_At
  rw [curve_Check_eq _ (by decide), checkM_zero.2 bent_valid]
  simp only [Option.bind_some, bne_self_eq_false, cond_false]
  unfold curve_find
  rw [piecesC_eq bent_valid, bent_pieces]
  rfl
theorem of_bad : curve_Check ⟨[⟨0, 0⟩, ⟨1000, 1000⟩]⟩ = some 3 := by
  rw [curve_Check_eq _ (by decide)]
  have hd : dotv (vec ⟨0, 0⟩ ⟨1000, 1000⟩) (vec ⟨0, 0⟩ ⟨1000, 1000⟩) = 2000000 := by decide
  have hr : rt 2000000 * rt 2000000 ≠ 2000000 := by
    intro h
    have h0 := rt_nonneg 2000000
    rcases Int.lt_or_le (rt 2000000) 1415 with q | q
    · have := Int.mul_le_mul (show rt 2000000 ≤ 1414 by omega) (show rt 2000000 ≤ 1414 by omega) h0 (by decide); omega
    · have := Int.mul_le_mul q q (by decide) h0; omega
  unfold checkM
  rw [if_neg (by decide), if_neg (by decide), if_pos (by decide), goM_cons, hd, if_pos hr]
theorem awake_eq : law01_awake = some true := by
  unfold law01_awake
  simp only [bent_eq, Option.bind_some, bent_Length, beq_self_eq_true, cond_true, bent_At, Bool.and_self, of4, of_bad]
end Go.Abs.Curve

namespace Go.Abs.Curve
open Go Go.Abs

noncomputable def plen (p q : Spot) : Int := rt (dotv (vec p q) (vec p q))
theorem lens_consP (p q : Spot) (r : List Spot) : lens (p :: q :: r) = plen p q :: lens (q :: r) := lens_cons p q r
theorem piecesM_consP (i : Nat) (s : Int) (p q : Spot) (r : List Spot) : piecesM i s (p :: q :: r) = ((i : Int), ⟨p, vec p q, plen p q, s⟩) :: piecesM (i + 1) (w64 (s + plen p q)) (q :: r) := piecesM_cons i s p q r
theorem Good.inv {last : Option CurveVector} {p q : Spot} {r : List Spot} (h : Good last (p :: q :: r)) : plen p q * plen p q = dotv (vec p q) (vec p q) ∧ 1000 ≤ plen p q ∧ plen p q ≤ 1048576 ∧ (∀ u, last = some u → 0 < dotv u (vec p q)) ∧ Good (some (vec p q)) (q :: r) := by
  cases h with | cons _ _ _ _ h1 h2 h3 h4 h => exact ⟨h1, h2, h3, h4, h⟩
/-- The piece in which an offset lies. -/
noncomputable def findM : Nat → Int → Spot → Spot → List Spot → Int → Nat × CurvePiece
  | i, st, p, q, [], _ => (i, ⟨p, vec p q, plen p q, st⟩)
  | i, st, p, q, q' :: r, s => if st + plen p q ≤ s then findM (i + 1) (st + plen p q) q q' r s else (i, ⟨p, vec p q, plen p q, st⟩)
theorem find_skip (s : Int) : ∀ (r : List Spot) (p : Spot) (i : Nat) (st : Int) (x : Int × CurvePiece) (last : Option CurveVector), Good last (p :: r) → 0 < i → 0 ≤ st → s < st → st + 1048576 * r.length ≤ 1000000000 →
    loopL (curve_find_l1 s) (fun x => (x.1, x.2)) (piecesM i st (p :: r)) x = some x := by
  intro r
  induction r with
  | nil => intro p i st x last _ _ _ _ _; rfl
  | cons q r ih =>
    intro p i st x last hg hi h0 hs hb
    obtain ⟨h1, h2, h3, h4, hg⟩ := hg.inv
    · skip
      simp only [List.length_cons] at hb
      have hst : w64 (st + plen p q) = st + plen p q := w64_id (by omega)
      rw [piecesM_consP, loopL]
      have : curve_find_l1 s x ((i : Int), ⟨p, vec p q, plen p q, st⟩) = some (.go (x.1, x.2)) := by
        unfold curve_find_l1
        dsimp only
        rw [show ((i : Int) == 0) = false from beq_eq_false_iff_ne.2 (by omega), show decide (st ≤ s) = false by simp; omega]
        rfl
      rw [this]
      dsimp only
      rw [hst]
      exact ih q (i + 1) _ _ _ hg (by omega) (by omega) (by omega) (by omega)
theorem find_loop (s : Int) (hs0 : 0 ≤ s) : ∀ (r : List Spot) (p q : Spot) (i : Nat) (st : Int) (x : Int × CurvePiece) (last : Option CurveVector), Good last (p :: q :: r) → 0 ≤ st → st ≤ s → st + 1048576 * (r.length + 1) ≤ 1000000000 →
    loopL (curve_find_l1 s) (fun x => (x.1, x.2)) (piecesM i st (p :: q :: r)) x = some (((findM i st p q r s).1 : Int), (findM i st p q r s).2) := by
  intro r
  induction r with
  | nil =>
    intro p q i st x last hg h0 hs hb
    rw [piecesM_consP, loopL]
    have : curve_find_l1 s x ((i : Int), ⟨p, vec p q, plen p q, st⟩) = some (.go ((i : Int), ⟨p, vec p q, plen p q, st⟩)) := by
      unfold curve_find_l1
      dsimp only
      rw [show decide (st ≤ s) = true by simp [hs]]
      simp
    rw [this]
    rfl
  | cons q' r ih =>
    intro p q i st x last hg h0 hs hb
    obtain ⟨h1, h2, h3, h4, hg⟩ := hg.inv
    · skip
      simp only [List.length_cons] at hb
      have hst : w64 (st + plen p q) = st + plen p q := w64_id (by omega)
      rw [piecesM_consP, loopL]
      have : curve_find_l1 s x ((i : Int), ⟨p, vec p q, plen p q, st⟩) = some (.go ((i : Int), ⟨p, vec p q, plen p q, st⟩)) := by
        unfold curve_find_l1
        dsimp only
        rw [show decide (st ≤ s) = true by simp [hs]]
        simp
      rw [this]
      dsimp only
      rw [hst, findM]
      by_cases hc : st + plen p q ≤ s
      · rw [if_pos hc]
        exact ih q q' (i + 1) _ _ _ hg (by omega) hc (by omega)
      · rw [if_neg hc]
        exact find_skip s (q' :: r) q (i + 1) _ _ _ hg (by omega) (by omega) (by omega) (by simp only [List.length_cons]; omega)
/-- The sum of what is left. -/
noncomputable def suml : List Int → Int
  | [] => 0
  | a :: l => a + suml l
theorem suml_append : ∀ (a b : List Int), suml (a ++ b) = suml a + suml b
  | [], b => by simp [suml]
  | x :: a, b => by rw [List.cons_append, suml, suml, suml_append a b]; omega
theorem lens_drop : ∀ (i : Nat) (l : List Spot), lens (l.drop i) = (lens l).drop i
  | 0, _ => rfl
  | _ + 1, [] => by simp [lens]
  | _ + 1, [_] => by simp [lens]
  | i + 1, p :: q :: r => by rw [lens_consP, List.drop_succ_cons, List.drop_succ_cons]; exact lens_drop i (q :: r)
theorem suml_take {L : List Int} {i : Nat} {a : Int} {r : List Int} (h : L.drop i = a :: r) : suml (L.take (i + 1)) = suml (L.take i) + a := by
  have hlt := drop_lt h
  have : L[i] = a := by
    have := congrArg (fun z => z[0]?) h
    simp at this
    rw [List.getElem?_eq_getElem hlt] at this
    exact Option.some.inj this
  rw [List.take_succ_eq_append_getElem hlt, suml_append, this]
  simp [suml]
/-- What the found piece is. -/
theorem findM_spec (pts : List Spot) (s : Int) : ∀ (r : List Spot) (p q : Spot) (i : Nat) (st : Int) (last : Option CurveVector), Good last (p :: q :: r) → pts.drop i = p :: q :: r → 0 ≤ st → st ≤ s → st = suml ((lens pts).take i) →
    ∃ p' q' r', (findM i st p q r s).2.start = suml ((lens pts).take (findM i st p q r s).1) ∧ (pts.drop (findM i st p q r s).1 = p' :: q' :: r') ∧ (findM i st p q r s).2.p = p' ∧ (findM i st p q r s).2.v = vec p' q' ∧ (findM i st p q r s).2.l = plen p' q' ∧ st ≤ (findM i st p q r s).2.start ∧ (findM i st p q r s).2.start ≤ s ∧ 1000 ≤ plen p' q' ∧ plen p' q' ≤ 1048576 ∧
      plen p' q' * plen p' q' = dotv (vec p' q') (vec p' q') ∧ (r' ≠ [] → s < (findM i st p q r s).2.start + plen p' q') := by
  intro r
  induction r with
  | nil =>
    intro p q i st last hg hi h0 hs hst
    obtain ⟨h1, h2, h3, h4, hg⟩ := hg.inv
    exact ⟨p, q, [], hst, hi, rfl, rfl, rfl, Int.le_refl _, hs, h2, h3, h1, fun h => absurd rfl h⟩
  | cons q' r ih =>
    intro p q i st last hg hi h0 hs hst
    obtain ⟨h1, h2, h3, h4, hg⟩ := hg.inv
    · skip
      have hdl : (lens pts).drop i = plen p q :: lens (q :: q' :: r) := by rw [← lens_drop, hi, lens_consP]
      rw [findM]
      by_cases hc : st + plen p q ≤ s
      · rw [if_pos hc]
        obtain ⟨a, b, c, e0, e1, e2, e3, e4, e5, e6⟩ := ih q q' (i + 1) (st + plen p q) _ hg (drop_succ hi) (by omega) hc (by rw [suml_take hdl, hst])
        exact ⟨a, b, c, e0, e1, e2, e3, e4, by omega, e6⟩
      · rw [if_neg hc]
        exact ⟨p, q, q' :: r, hst, hi, rfl, rfl, rfl, Int.le_refl _, hs, h2, h3, h1, fun _ => by dsimp only; omega⟩
theorem sumW_suml : ∀ (l : List Int) (s : Int), (∀ a ∈ l, 0 ≤ a ∧ a ≤ 1048576) → 0 ≤ s → s + 1048576 * l.length ≤ 1000000000000 → sumW s l = s + suml l
  | [], s, _, _, _ => by simp [sumW, suml]
  | a :: l, s, h, h0, hb => by
    have ha := h a (by simp)
    simp only [List.length_cons] at hb
    rw [sumW, suml, w64_id (by omega), sumW_suml l (s + a) (fun b hb => h b (by simp [hb])) (by omega) (by omega)]
    omega
theorem good_lens : ∀ (r : List Spot) (p : Spot) (last : Option CurveVector), Good last (p :: r) → ∀ a ∈ lens (p :: r), 1000 ≤ a ∧ a ≤ 1048576
  | [], p, last, _, a, ha => by simp [lens] at ha
  | q :: r, p, last, hg, a, ha => by
    obtain ⟨h1, h2, h3, h4, hg⟩ := hg.inv
    · skip
      rw [lens_consP, List.mem_cons] at ha
      rcases ha with rfl | ha
      · exact ⟨h2, h3⟩
      · exact good_lens r q _ hg a ha
theorem suml_nonneg : ∀ (l : List Int), (∀ a ∈ l, 0 ≤ a) → 0 ≤ suml l
  | [], _ => by simp [suml]
  | a :: l, h => by have := h a (by simp); have := suml_nonneg l (fun b hb => h b (by simp [hb])); rw [suml]; omega
theorem lens_two (p q : Spot) : lens [p, q] = [plen p q] := rfl
theorem ref_piece_loop (L : List Int) (hL : L.length ≤ 1000) (s : Int) : ∀ (r : List Spot) (p q : Spot) (i : Nat) (st : Int) (last : Option CurveVector), Good last (p :: q :: r) → L.drop i = lens (p :: q :: r) → 0 ≤ st → st ≤ s → s ≤ 1000000000000 →
    s ≤ st + suml (lens (p :: q :: r)) → ∃ y, loop (ref01_Piece_l1 L) (s - st, (i : Int)) = some y ∧
      Sum.elim (fun y1 => some (w64 ((L.length : Int) - 1), y1)) some y = some (((findM i st p q r s).1 : Int), s - (findM i st p q r s).2.start) := by
  intro r
  induction r with
  | nil =>
    intro p q i st last hg hd h0 hs hb hsum
    have hlen : L.length = i + 1 := by
      have := congrArg List.length hd
      rw [List.length_drop, lens_two] at this
      simp at this; omega
    refine ⟨.inl (s - st), loop_out ?_, ?_⟩
    · unfold ref01_Piece_l1
      dsimp only
      rw [w64_id (n := (L.length : Int) - 1) (by omega)]
      simp only [show ¬ (i : Int) < (L.length : Int) - 1 by omega, decide_false, cond_false]
    · show some (w64 ((L.length : Int) - 1), s - st) = some ((i : Int), s - st)
      rw [w64_id (by omega), hlen]
      congr 2
      omega
  | cons q' r ih =>
    intro p q i st last hg hd h0 hs hb hsum
    obtain ⟨h1, h2, h3, h4, hg⟩ := hg.inv
    · skip
      have hd1 : L.drop i = plen p q :: lens (q :: q' :: r) := by rw [hd, lens_consP]
      have hd2 := drop_succ hd1
      have hlt := drop_lt (show L.drop (i + 1) = plen q q' :: lens (q' :: r) by rw [hd2, lens_consP])
      have hstep : ref01_Piece_l1 L (s - st, (i : Int)) = if s - st < plen p q then some (.out (.inr ((i : Int), s - st))) else some (.go (s - (st + plen p q), ((i + 1 : Nat) : Int))) := by
        unfold ref01_Piece_l1
        dsimp only
        rw [w64_id (n := (L.length : Int) - 1) (by omega)]
        simp only [show (i : Int) < (L.length : Int) - 1 by omega, decide_true, cond_true, geti_drop hd1, Option.bind_some]
        by_cases hc : s - st < plen p q
        · simp only [hc, decide_true, cond_true, if_true]
        · simp only [hc, decide_false, cond_false, if_false]
          rw [w64_id (by omega), w64_id (by omega)]
          congr 3
          omega
      rw [lens_consP, suml] at hsum
      rw [findM]
      by_cases hc : st + plen p q ≤ s
      · rw [if_neg (by omega)] at hstep
        rw [if_pos hc, loop_go hstep]
        exact ih q q' (i + 1) (st + plen p q) _ hg hd2 (by omega) hc hb (by omega)
      · rw [if_pos (by omega)] at hstep
        rw [if_neg hc, loop_out hstep]
        exact ⟨_, rfl, rfl⟩
end Go.Abs.Curve

namespace Go.Abs.Curve
open Go Go.Abs

theorem lens_valid {l : List Spot} (h : Valid l) : ∃ p q r, l = p :: q :: r := by
  match l, h with
  | p :: q :: r, _ => exact ⟨p, q, r, rfl⟩
  | [p], h => exact absurd h.two (by simp)
  | [], h => exact absurd h.two (by simp)
/-- Where an offset lies in a valid curve. -/
structure At (l : List Spot) (s : Int) where
  i : Nat
  p : Spot
  q : Spot
  r : List Spot
  st : Int
  hd : l.drop i = p :: q :: r
  h0 : 0 ≤ st
  hs : st ≤ s
  l1 : 1000 ≤ plen p q
  l2 : plen p q ≤ 1048576
  sq : plen p q * plen p q = dotv (vec p q) (vec p q)
  nx : r ≠ [] → s < st + plen p q
  pre : st = suml ((lens l).take i)
theorem total_bd {l : List Spot} (h : Valid l) : 0 ≤ suml (lens l) ∧ suml (lens l) ≤ 16777216 ∧ sumW 0 (lens l) = suml (lens l) := by
  obtain ⟨p, q, r, rfl⟩ := lens_valid h
  have hg := good_lens (q :: r) p none h.good
  have hm := h.most
  have hlen : (lens (p :: q :: r)).length ≤ 15 := by rw [lens_length]; simp at hm ⊢; omega
  have hs := suml_nonneg (lens (p :: q :: r)) (fun a ha => by have := hg a ha; omega)
  have key : ∀ l : List Int, (∀ a ∈ l, a ≤ 1048576) → suml l ≤ 1048576 * l.length := by
    intro l
    induction l with
    | nil => intro _; simp [suml]
    | cons a l ih => intro h; have := h a (by simp); have := ih (fun b hb => h b (by simp [hb])); rw [suml, List.length_cons]; omega
  have := key (lens (p :: q :: r)) (fun a ha => (hg a ha).2)
  refine ⟨hs, by omega, ?_⟩
  rw [sumW_suml _ _ (fun a ha => by have := hg a ha; omega) (by omega) (by omega)]
  omega
theorem find_at (c : Curve) (h : Valid c.Pts) (s : Int) (hs : 0 ≤ s ∧ s ≤ 9223372036854775807) : ∃ A : At c.Pts s, curve_find c s = some ((A.i : Int), ⟨A.p, vec A.p A.q, plen A.p A.q, A.st⟩, min (s - A.st) (plen A.p A.q)) ∧
    (∀ s', s' = min s (suml (lens c.Pts)) → thenS (loop (ref01_Piece_l1 (lens c.Pts)) (s', 0)) (fun y1 => some (w64 (((lens c.Pts).length : Int) - 1), y1)) (fun r => some r) = some ((A.i : Int), min (s - A.st) (plen A.p A.q))) := by
  obtain ⟨p, q, r, hp⟩ := lens_valid h
  have hg : Good none (p :: q :: r) := by rw [← hp]; exact h.good
  have hm := h.most
  rw [hp] at hm
  simp only [List.length_cons] at hm
  obtain ⟨p', q', r', epre, e1, e2, e3, e4, e5, e6, e7, e8, e9, e10⟩ := findM_spec c.Pts s r p q 0 0 none hg (by rw [hp]; rfl) (by omega) hs.1 rfl
  have hfm : (findM 0 0 p q r s).2 = ⟨p', vec p' q', plen p' q', (findM 0 0 p q r s).2.start⟩ := by
    generalize (findM 0 0 p q r s).2 = z at *
    cases z
    simp only at e2 e3 e4
    rw [e2, e3, e4]
  refine ⟨⟨(findM 0 0 p q r s).1, p', q', r', (findM 0 0 p q r s).2.start, e1, e5, e6, e7, e8, e9, e10, epre⟩, ?_, ?_⟩
  · unfold curve_find
    have e0 : piecesC c.Pts = some (piecesM 0 0 (p :: q :: r)) := by rw [piecesC_eq h, hp]
    rw [e0, Option.bind_some, find_loop s hs.1 r p q 0 0 _ none hg (by omega) hs.1 (by omega), Option.bind_some]
    dsimp only
    rw [e4, w64_id (by omega), mm2_min, mm2_max, Option.some.injEq, Prod.mk.injEq, Prod.mk.injEq]
    exact ⟨rfl, hfm, by omega⟩
  · rintro s' rfl
    have ht := total_bd h
    rw [hp] at ht
    have hsame : findM 0 0 p q r (min s (suml (lens c.Pts))) = findM 0 0 p q r s ∧ (min s (suml (lens c.Pts))) - (findM 0 0 p q r s).2.start = min (s - (findM 0 0 p q r s).2.start) (plen p' q') := by
      have key : ∀ (r : List Spot) (p q : Spot) (i : Nat) (st : Int) (last : Option CurveVector), Good last (p :: q :: r) → st ≤ s → findM i st p q r (min s (st + suml (lens (p :: q :: r)))) = findM i st p q r s ∧
          (min s (st + suml (lens (p :: q :: r)))) - (findM i st p q r s).2.start = min (s - (findM i st p q r s).2.start) (findM i st p q r s).2.l := by
        intro r
        induction r with
        | nil =>
          intro p q i st last hg hst
          refine ⟨rfl, ?_⟩
          have : suml (lens [p, q]) = plen p q := by rw [lens_two]; simp [suml]
          rw [this]
          show min s (st + plen p q) - st = min (s - st) (plen p q)
          omega
        | cons q' r ih =>
          intro p q i st last hg hst
          obtain ⟨h1, h2, h3, h4, hg'⟩ := hg.inv
          have hnn := good_lens (q' :: r) q _ hg'
          have hpos : 1000 ≤ suml (lens (q :: q' :: r)) := by
            have h5 := (hg'.inv).2.1
            have := suml_nonneg (lens (q' :: r)) (fun a ha => by have := hnn a (by rw [lens_consP]; simp [ha]); omega)
            rw [lens_consP, suml]; omega
          rw [lens_consP, suml, findM, findM]
          by_cases hc : st + plen p q ≤ s
          · rw [if_pos hc, if_pos (by omega), show st + (plen p q + suml (lens (q :: q' :: r))) = (st + plen p q) + suml (lens (q :: q' :: r)) by omega]
            exact ih q q' (i + 1) (st + plen p q) _ hg' hc
          · rw [if_neg hc, if_neg (by omega)]
            refine ⟨rfl, ?_⟩
            dsimp only
            omega
      have := key r p q 0 0 none hg hs.1
      rw [Int.zero_add, ← hp] at this
      refine ⟨this.1, ?_⟩
      rw [this.2, hfm]
    have hlen : (lens c.Pts).length ≤ 1000 := by rw [hp, lens_length]; simp; omega
    obtain ⟨y, hy, hy2⟩ := ref_piece_loop (lens c.Pts) hlen (min s (suml (lens c.Pts))) r p q 0 0 none hg (by rw [hp]; rfl) (by omega) (by rw [hp]; omega) (by rw [hp]; omega) (by rw [hp]; omega)
    rw [Int.sub_zero] at hy
    rw [show ((0 : Nat) : Int) = 0 from rfl] at hy
    rw [hy]
    rw [hsame.1, hsame.2] at hy2
    cases y <;> exact hy2
theorem piece_same (c : Curve) (hl : c.Pts.length ≤ 1000000) (s : Int) (hs : -9223372036854775808 ≤ s ∧ s ≤ 9223372036854775807) : ∃ x, curve_Piece c s = some x ∧ ref01_Piece c s = some x ∧
    (∀ _ : Valid c.Pts, ∃ A : At c.Pts (max 0 s), curve_find c (mm2 true 0 s) = some ((A.i : Int), ⟨A.p, vec A.p A.q, plen A.p A.q, A.st⟩, min (max 0 s - A.st) (plen A.p A.q)) ∧ x = ((A.i : Int), min (max 0 s - A.st) (plen A.p A.q))) := by
  unfold curve_Piece ref01_Piece
  rw [curve_Check_eq c hl, show ref01_Pieces c = some (piecesL c) from ref01_Pieces_eq c hl, ref01_Length_eq c hl]
  simp only [Option.bind_some]
  by_cases hv : checkM c.Pts = 0
  · have V := checkM_zero.1 hv
    obtain ⟨A, h1, h2⟩ := find_at c V (max 0 s) (by omega)
    have ht := total_bd V
    have hpl : piecesL c = lens c.Pts := if_pos hv
    obtain ⟨p, q, r, hp⟩ := lens_valid V
    have hne : (((lens c.Pts).length : Int) == 0) = false := by rw [hp, lens_length]; exact beq_eq_false_iff_ne.2 (by simp; omega)
    rw [hpl, hv, mm2_max, h1]
    simp only [bne_self_eq_false, cond_false, Option.bind_some, hne]
    refine ⟨_, rfl, ?_, fun _ => ⟨A, rfl, rfl⟩⟩
    rw [ht.2.2, mm2_max, mm2_min]
    exact h2 _ (by omega)
  · have hpl : piecesL c = [] := if_neg hv
    rw [hpl, show (checkM c.Pts != 0) = true from bne_iff_ne.2 hv]
    exact ⟨(0, 0), rfl, rfl, fun h => absurd (checkM_zero.2 h) hv⟩
theorem at_ok {l : List Spot} {s : Int} (A : At l s) (V : Valid l) : okS A.p = true ∧ okS A.q = true :=
  ⟨List.all_eq_true.1 V.ok _ (List.mem_of_mem_drop (i := A.i) (by rw [A.hd]; simp)), List.all_eq_true.1 V.ok _ (List.mem_of_mem_drop (i := A.i) (by rw [A.hd]; simp))⟩
end Go.Abs.Curve

namespace Go.Abs.Curve
open Go Go.Abs

theorem kit_Mod_eq {n m : Int} (hm : 0 < m) (_ : -9223372036854775808 ≤ n ∧ n ≤ 9223372036854775807) (hm2 : m ≤ 9223372036854775807) : ∃ r, kit_Mod n m = some r ∧ 0 ≤ r ∧ r < m ∧ kit_Mod64 n m = some r ∧ r = n % m := by
  unfold kit_Mod kit_Mod64 remc
  rw [if_neg (by omega)]
  simp only [Option.bind_some]
  have h1 : n.tmod m = if 0 ≤ n ∨ m ∣ n then n % m else n % m - m := by
    rw [Int.tmod_eq_emod]
    split <;> first | omega | (rw [Int.natAbs_of_nonneg (by omega)])
  have h2 := Int.emod_nonneg n (show m ≠ 0 by omega)
  have h3 := Int.emod_lt_of_pos n hm
  by_cases hc : 0 ≤ n ∨ m ∣ n
  · rw [if_pos hc] at h1
    rw [h1, show decide (n % m < 0) = false from decide_eq_false (by omega)]
    exact ⟨_, rfl, h2, h3, rfl, rfl⟩
  · rw [if_neg hc] at h1
    rw [h1]
    have hne : n % m ≠ 0 := fun h => hc (.inr (Int.dvd_of_emod_eq_zero h))
    rw [show decide (n % m - m < 0) = true from decide_eq_true (by omega), w64_id (by omega)]
    refine ⟨_, rfl, ?_, ?_, rfl, ?_⟩ <;> omega
/-- A quarter turn, so many times. -/
def rotM : Nat → CurveVector → CurveVector
  | 0, v => v
  | n + 1, v => rotM n ⟨-v.y, v.x⟩
theorem rot_dot : ∀ (n : Nat) (v w : CurveVector), dotv (rotM n v) (rotM n w) = dotv v w
  | 0, _, _ => rfl
  | n + 1, v, w => by rw [rotM, rotM, rot_dot n]; unfold dotv; grind
theorem rot_bd {B : Int} : ∀ (n : Nat) (v : CurveVector), (-B ≤ v.x ∧ v.x ≤ B ∧ -B ≤ v.y ∧ v.y ≤ B) → -B ≤ (rotM n v).x ∧ (rotM n v).x ≤ B ∧ -B ≤ (rotM n v).y ∧ (rotM n v).y ≤ B
  | 0, _, h => h
  | n + 1, v, h => by rw [rotM]; exact rot_bd n _ (by dsimp only; omega)
theorem rot_loop : ∀ (n : Nat) (v : CurveVector), n ≤ 1000 → (-1000000 ≤ v.x ∧ v.x ≤ 1000000 ∧ -1000000 ≤ v.y ∧ v.y ≤ 1000000) → loop kit_Curve_l2 ((n : Int), vs v) = some (vs (rotM n v))
  | 0, v, _, _ => by
    refine loop_out ?_
    unfold kit_Curve_l2
    rfl
  | n + 1, v, hn, hv => by
    have : kit_Curve_l2 (((n + 1 : Nat) : Int), vs v) = some (.go ((n : Int), vs ⟨-v.y, v.x⟩)) := by
      unfold kit_Curve_l2 vs
      dsimp only
      rw [show decide (((n + 1 : Nat) : Int) > 0) = true from decide_eq_true (by omega), w64_id (n := ((n + 1 : Nat) : Int) - 1) (by omega), w64_id (n := 0 - v.y) (by omega)]
      simp only [cond_true]
      congr 4
      · omega
      · omega
    rw [loop_go this, rot_loop n _ (by omega) (by dsimp only; omega), rotM]
def tripleOK (a b c : Int) : Prop := 0 < a ∧ 0 ≤ b ∧ a * a + b * b = c * c ∧ 1 ≤ c ∧ c ≤ 29 ∧ a ≤ c ∧ b ≤ c
theorem triple_get (m : Int) (h0 : 0 ≤ m) (h1 : m < 11) : ∃ a b c, geti [(1, 0, 1), (3, 4, 5), (4, 3, 5), (5, 12, 13), (12, 5, 13), (8, 15, 17), (15, 8, 17), (7, 24, 25), (24, 7, 25), (20, 21, 29), (21, 20, 29), (0, 1, 1)] m = some (a, b, c) ∧ tripleOK a b c := by
  have : m = 0 ∨ m = 1 ∨ m = 2 ∨ m = 3 ∨ m = 4 ∨ m = 5 ∨ m = 6 ∨ m = 7 ∨ m = 8 ∨ m = 9 ∨ m = 10 := by omega
  rcases this with rfl | rfl | rfl | rfl | rfl | rfl | rfl | rfl | rfl | rfl | rfl <;> exact ⟨_, _, _, rfl, by unfold tripleOK; decide⟩
/-- A piece's vector, made of numbers: in one quadrant. -/
def Quad (n : Nat) (v : CurveVector) : Prop := ∃ x y L : Int, v = rotM n ⟨x, y⟩ ∧ 0 < x ∧ 0 ≤ y ∧ x * x + y * y = L * L ∧ 1000 ≤ L ∧ L ≤ 3029 ∧ x ≤ L ∧ y ≤ L
inductive Ch (Q : CurveVector → Prop) : List Spot → Prop
  | one (p : Spot) : Ch Q [p]
  | cons (p q : Spot) (r : List Spot) (h : Q (vec p q)) (hr : Ch Q (q :: r)) : Ch Q (p :: q :: r)
theorem Ch.snoc {Q : CurveVector → Prop} {a b : Spot} (h : Q (vec a b)) : ∀ (l : List Spot), Ch Q (l ++ [a]) → Ch Q (l ++ [a, b])
  | [], _ => .cons _ _ _ h (.one _)
  | [p], hc => by cases hc with | cons _ _ _ h1 h2 => exact .cons _ _ _ h1 (.cons _ _ _ h (.one _))
  | p :: q :: r, hc => by
    cases hc with
    | cons _ _ _ h1 h2 => exact .cons _ _ _ h1 (Ch.snoc h (q :: r) h2)
theorem good_of_ch {n : Nat} : ∀ (r : List Spot) (p : Spot) (last : Option CurveVector), Ch (Quad n) (p :: r) → (∀ u, last = some u → Quad n u) → Good last (p :: r)
  | [], p, last, _, _ => .one _ _
  | q :: r, p, last, hc, hl => by
    cases hc with
    | cons _ _ _ h1 h2 =>
      have hq := h1
      obtain ⟨x, y, L, hv, hx, hy, hsq, hL1, hL2, hxL, hyL⟩ := h1
      have hd : dotv (vec p q) (vec p q) = L * L := by rw [hv, rot_dot]; unfold dotv; exact hsq
      have hrt : rt (dotv (vec p q) (vec p q)) = L := by rw [hd]; exact rt_sq (by omega) (by omega)
      refine .cons _ _ _ _ (by rw [hrt, hd]) (by rw [hrt]; exact hL1) (by rw [hrt]; omega) (fun u hu => ?_) (good_of_ch r q _ h2 (fun u hu => by cases hu; exact hq))
      obtain ⟨x', y', L', hv', hx', hy', _⟩ := hl u hu
      rw [hv, hv', rot_dot]
      unfold dotv
      have := Int.mul_pos hx' hx
      have := Int.mul_nonneg hy' hy
      dsimp only
      omega
/-- What the curves made of numbers are like. -/
structure Made (l : List Spot) : Prop where
  two : 2 ≤ l.length
  six : l.length ≤ 6
  ch : ∃ n, Ch (Quad n) l
  bd : ∀ p ∈ l, -50000 ≤ p.X ∧ p.X ≤ 50000 ∧ -50000 ≤ p.Y ∧ p.Y ≤ 50000
theorem Made.valid {l : List Spot} (h : Made l) : Valid l := by
  obtain ⟨n, hc⟩ := h.ch
  have := h.two; have := h.six
  refine ⟨h.two, by omega, List.all_eq_true.2 fun p hp => okS_iff.2 (by have := h.bd p hp; omega), ?_⟩
  match l, h, hc with
  | p :: r, _, hc => exact good_of_ch r p none hc (fun u hu => by cases hu)
  | [], h, _ => exact absurd h.two (by simp)
theorem tmod_bd (n : Int) : -20000 ≤ n.tmod 20001 ∧ n.tmod 20001 ≤ 20000 := by
  have h1 := Int.tmod_lt_of_pos n (show (0 : Int) < 20001 by decide)
  have h2 := Int.tmod_lt_of_pos (-n) (show (0 : Int) < 20001 by decide)
  rw [Int.neg_tmod] at h2
  omega
theorem made_step (m : KitChain) (hw : ∀ a ∈ m.Steps, wI64 a) (f : Int) (nq : Nat) (hf : f.tmod 4 = nq) (hnq : nq ≤ 1000) (i : Nat) (pre : List Spot) (p : Spot) (hi : (i : Int) < max 1 (min (m.Steps.length : Int) 5)) (hpl : pre.length = i) (hp : ∀ a ∈ pre ++ [p], -(20000 + 3029 * i) ≤ a.X ∧ a.X ≤ 20000 + 3029 * i ∧ -(20000 + 3029 * i) ≤ a.Y ∧ a.Y ≤ 20000 + 3029 * i) :
    ∃ v : CurveVector, Quad nq v ∧ (-3029 ≤ v.x ∧ v.x ≤ 3029 ∧ -3029 ≤ v.y ∧ v.y ≤ 3029) ∧ kit_Curve_l1 m [(1, 0, 1), (3, 4, 5), (4, 3, 5), (5, 12, 13), (12, 5, 13), (8, 15, 17), (15, 8, 17), (7, 24, 25), (24, 7, 25), (20, 21, 29), (21, 20, 29), (0, 1, 1)] f ((i : Int), p, ⟨pre ++ [p]⟩) =
      some (.go (((i + 1 : Nat) : Int), ⟨p.X + v.x, p.Y + v.y⟩, ⟨pre ++ [p, ⟨p.X + v.x, p.Y + v.y⟩]⟩)) := by
  -- the number
  obtain ⟨n, hn, n0, n1⟩ : ∃ n, (cond (decide ((i : Int) < (m.Steps.length : Int))) ((geti m.Steps (i : Int)).bind fun v4 => (kit_Mod v4 1048576).bind fun v5 => some v5) (some 0)) = some n ∧ 0 ≤ n ∧ n < 1048576 := by
    by_cases hc : i < m.Steps.length
    · rw [show decide ((i : Int) < (m.Steps.length : Int)) = true from decide_eq_true (by omega)]
      obtain ⟨r, hr, r0, r1, _⟩ := kit_Mod_eq (n := m.Steps[i]) (m := 1048576) (by decide) (hw _ (List.getElem_mem hc)) (by decide)
      simp only [cond_true, geti_nat hc, Option.bind_some, hr]
      exact ⟨r, rfl, r0, r1⟩
    · rw [show decide ((i : Int) < (m.Steps.length : Int)) = false from decide_eq_false (by omega)]
      exact ⟨0, rfl, by decide, by decide⟩
  have hm11 : n.tmod 11 = n % 11 := Int.tmod_eq_emod_of_nonneg n0
  obtain ⟨a, b, c, hg, ha, hb, habc, hc1, hc2, hac, hbc⟩ := triple_get (n % 11) (Int.emod_nonneg _ (by decide)) (Int.emod_lt_of_pos _ (by decide))
  have hq1 : quoc .i64 1000 c = some (1000 / c) := by
    unfold quoc
    rw [if_neg (by omega), Int.tdiv_eq_ediv_of_nonneg (by decide)]
    have h1 := Int.ediv_nonneg (show (0 : Int) ≤ 1000 by decide) (show 0 ≤ c by omega)
    have h2 := Int.ediv_le_self c (show (0 : Int) ≤ 1000 by decide)
    exact congrArg some (w64_id (by omega))
  have hd11 : w64 (n.tdiv 11) = n / 11 := by rw [Int.tdiv_eq_ediv_of_nonneg n0]; exact w64_id (by omega)
  have hm20 : (n / 11).tmod 2000 = n / 11 % 2000 := Int.tmod_eq_emod_of_nonneg (by omega)
  generalize hj : n / 11 % 2000 = j at *
  have hj0 : 0 ≤ j := by rw [← hj]; exact Int.emod_nonneg _ (by decide)
  have hj1 : j < 2000 := by rw [← hj]; exact Int.emod_lt_of_pos _ (by decide)
  have hq2 : quoc .i64 j c = some (j / c) := by
    unfold quoc
    rw [if_neg (by omega), Int.tdiv_eq_ediv_of_nonneg hj0]
    have h1 := Int.ediv_nonneg hj0 (show 0 ≤ c by omega)
    have h2 := Int.ediv_le_self c hj0
    exact congrArg some (w64_id (by omega))
  have e1 := Int.ediv_nonneg (show (0 : Int) ≤ 1000 by decide) (show 0 ≤ c by omega)
  have e2 := Int.ediv_nonneg hj0 (show 0 ≤ c by omega)
  have e3 := Int.ediv_mul_le 1000 (show c ≠ 0 by omega)
  have e4 := Int.ediv_mul_le j (show c ≠ 0 by omega)
  have e5 := Int.lt_ediv_add_one_mul_self 1000 (show 0 < c by omega)
  have e6 := Int.ediv_le_self c (show (0 : Int) ≤ 1000 by decide)
  have e7 := Int.ediv_le_self c hj0
  generalize hk1 : (1000 : Int) / c = k1 at *
  generalize hk2 : j / c = k2 at *
  have hk : w64 (w64 (k1 + 1) + k2) = k1 + 1 + k2 := by rw [w64_id (n := k1 + 1) (by omega)]; exact w64_id (by omega)
  generalize hkk : k1 + 1 + k2 = k at *
  have hk0 : 1 ≤ k := by omega
  have hL : k * c = k1 * c + c + k2 * c := by rw [← hkk, Int.add_mul, Int.add_mul, Int.one_mul]
  have hL' : (k1 + 1) * c = k1 * c + c := by rw [Int.add_mul, Int.one_mul]
  have hk2c : 0 ≤ k2 * c := Int.mul_nonneg e2 (by omega)
  have hL1 : 1000 ≤ k * c := by omega
  have hL2 : k * c ≤ 3029 := by omega
  have hak : a * k ≤ k * c := by rw [Int.mul_comm k c]; exact Int.mul_le_mul_of_nonneg_right hac (by omega)
  have hbk : b * k ≤ k * c := by rw [Int.mul_comm k c]; exact Int.mul_le_mul_of_nonneg_right hbc (by omega)
  have hak0 : 0 < a * k := Int.mul_pos ha (by omega)
  have hbk0 : 0 ≤ b * k := Int.mul_nonneg hb (by omega)
  have hQ : Quad nq (rotM nq ⟨a * k, b * k⟩) := ⟨a * k, b * k, k * c, rfl, hak0, hbk0, by grind, hL1, hL2, hak, hbk⟩
  have hbd := rot_bd (B := 3029) nq ⟨a * k, b * k⟩ (by dsimp only; omega)
  refine ⟨rotM nq ⟨a * k, b * k⟩, hQ, hbd, ?_⟩
  have hpp := hp p (by simp)
  unfold kit_Curve_l1
  dsimp only
  have hcond : decide ((i : Int) < (mm2 true 1 (mm2 false (m.Steps.length : Int) 5))) = true := by rw [mm2_max, mm2_min]; simpa using hi
  rw [hcond, hn]
  simp only [cond_true, Option.bind_some, hm11, hg, hq1, hd11, hm20, hq2, hk, hf]
  rw [w64_id (n := a * k) (by omega), w64_id (n := b * k) (by omega)]
  have hrot := rot_loop nq ⟨a * k, b * k⟩ hnq (by dsimp only; omega)
  unfold vs at hrot
  dsimp only at hrot
  rw [hrot, Option.bind_some]
  dsimp only
  have hi5 : i ≤ 5 := by omega
  rw [w64_id (n := p.X + _) (by omega), w64_id (n := p.Y + _) (by omega), appc_ok (by simp; omega), Option.bind_some, w64_id (by omega)]
  simp only [List.append_assoc, List.cons_append, List.nil_append]
  rfl
theorem kit_Curve_full (m : KitChain) (hw : ∀ a ∈ m.Steps, wI64 a) : ∃ c, kit_Curve m = some c ∧ Made c.Pts ∧ (c.Pts.length : Int) = max 1 (min (m.Steps.length : Int) 5) + 1 := by
  obtain ⟨f, hf, f0, f1⟩ : ∃ f, (cond (decide ((m.Steps.length : Int) > 0)) ((geti m.Steps 0).bind fun v2 => (kit_Mod v2 48).bind fun v3 => some v3) (some 0)) = some f ∧ 0 ≤ f ∧ f < 48 := by
    by_cases hc : 0 < m.Steps.length
    · rw [show decide ((m.Steps.length : Int) > 0) = true from decide_eq_true (by omega)]
      obtain ⟨r, hr, r0, r1, _⟩ := kit_Mod_eq (n := m.Steps[0]) (m := 48) (by decide) (hw _ (List.getElem_mem hc)) (by decide)
      have hg : geti m.Steps 0 = some m.Steps[0] := geti_nat hc
      simp only [cond_true, hg, Option.bind_some, hr]
      exact ⟨r, rfl, r0, r1⟩
    · rw [show decide ((m.Steps.length : Int) > 0) = false from decide_eq_false (by omega)]
      exact ⟨0, rfl, by decide, by decide⟩
  obtain ⟨nq, hnq, hnq3⟩ : ∃ nq : Nat, f.tmod 4 = nq ∧ nq ≤ 1000 := ⟨(f % 4).toNat, by rw [Int.tmod_eq_emod_of_nonneg f0]; omega, by omega⟩
  have key := loop_inv (f := kit_Curve_l1 m [(1, 0, 1), (3, 4, 5), (4, 3, 5), (5, 12, 13), (12, 5, 13), (8, 15, 17), (15, 8, 17), (7, 24, 25), (24, 7, 25), (20, 21, 29), (21, 20, 29), (0, 1, 1)] f)
    (fun x => ∃ (i : Nat) (pre : List Spot), x.1 = i ∧ (i : Int) ≤ max 1 (min (m.Steps.length : Int) 5) ∧ pre.length = i ∧ x.2.2.Pts = pre ++ [x.2.1] ∧ Ch (Quad nq) (pre ++ [x.2.1]) ∧ ∀ a ∈ pre ++ [x.2.1], -(20000 + 3029 * i) ≤ a.X ∧ a.X ≤ 20000 + 3029 * i ∧ -(20000 + 3029 * i) ≤ a.Y ∧ a.Y ≤ 20000 + 3029 * i)
    (fun x => (5 - x.1).toNat) (fun c => Made c.Pts ∧ (c.Pts.length : Int) = max 1 (min (m.Steps.length : Int) 5) + 1) (by
      rintro ⟨x1, p, c⟩ ⟨i, pre, rfl, hi, hpl, hpts, hch, hbd⟩
      dsimp only at hpts hch hbd
      obtain rfl : c = ⟨pre ++ [p]⟩ := by cases c; simp at hpts; rw [hpts]
      by_cases hlt : (i : Int) < max 1 (min (m.Steps.length : Int) 5)
      · obtain ⟨v, hQ, hv, hstep⟩ := made_step m hw f nq hnq hnq3 i pre p hlt hpl hbd
        refine ⟨_, hstep, ⟨i + 1, pre ++ [p], rfl, by omega, by simp [hpl], by simp, ?_, ?_⟩, by dsimp only; omega⟩
        · dsimp only
          rw [List.append_assoc]
          refine Ch.snoc ?_ pre hch
          have : vec p ⟨p.X + v.x, p.Y + v.y⟩ = v := by unfold vec; cases v; dsimp only; congr 1 <;> omega
          rw [this]; exact hQ
        · intro a ha
          dsimp only at ha
          rw [List.mem_append] at ha
          rcases ha with ha | ha
          · have := hbd a ha; omega
          · simp only [List.mem_singleton] at ha
            subst ha
            have := hbd p (by simp)
            dsimp only
            omega
      · have hend : kit_Curve_l1 m [(1, 0, 1), (3, 4, 5), (4, 3, 5), (5, 12, 13), (12, 5, 13), (8, 15, 17), (15, 8, 17), (7, 24, 25), (24, 7, 25), (20, 21, 29), (21, 20, 29), (0, 1, 1)] f ((i : Int), p, ⟨pre ++ [p]⟩) = some (.out ⟨pre ++ [p]⟩) := by
          unfold kit_Curve_l1
          dsimp only
          have hcond : decide ((i : Int) < (mm2 true 1 (mm2 false (m.Steps.length : Int) 5))) = false := by rw [mm2_max, mm2_min]; simpa using hlt
          rw [hcond]; rfl
        refine ⟨_, hend, ?_⟩
        refine ⟨⟨by simp; omega, by simp; omega, ⟨nq, hch⟩, fun a ha => ?_⟩, by simp only [List.length_append, List.length_cons, List.length_nil]; omega⟩
        have := hbd a ha
        omega) (0, ⟨m.X.tmod 20001, m.Y.tmod 20001⟩, ⟨[⟨m.X.tmod 20001, m.Y.tmod 20001⟩]⟩) ⟨0, [], rfl, by omega, rfl, rfl, .one _, fun a ha => by
        simp only [List.nil_append, List.mem_singleton] at ha
        have h1 := tmod_bd m.X
        have h2 := tmod_bd m.Y
        rw [ha]
        refine ⟨?_, ?_, ?_, ?_⟩ <;> dsimp only <;> omega⟩
  obtain ⟨c, hc, hm⟩ := key
  refine ⟨c, ?_, hm⟩
  unfold kit_Curve kit_triples
  rw [Option.bind_some, hf, Option.bind_some, hc]
  rfl
theorem kit_Curve_eq (m : KitChain) (hw : ∀ a ∈ m.Steps, wI64 a) : ∃ c, kit_Curve m = some c ∧ Made c.Pts := by
  obtain ⟨c, h1, h2, _⟩ := kit_Curve_full m hw
  exact ⟨c, h1, h2⟩
end Go.Abs.Curve

namespace Go.Abs.Curve
open Go Go.Abs
end Go.Abs.Curve

namespace Go.Abs.Curve
open Go Go.Abs
theorem curve_floor_eq {a b : Int} (hb : 0 < b) (ha : wI64 a) : curve_floor a b = some (a / b) := by
  unfold curve_floor quoc remc
  rw [if_neg (by omega), if_neg (by omega)]
  simp only [Option.bind_some]
  have hle : a.natAbs / b.natAbs ≤ a.natAbs := Nat.div_le_self _ _
  have h1 := Int.tmod_lt_of_pos a hb
  have h3 := Int.tdiv_mul_add_tmod a b
  have h4 := Int.ediv_mul_add_emod a b
  have h5 := Int.emod_nonneg a (show b ≠ 0 by omega)
  have h6 := Int.emod_lt_of_pos a hb
  have hq := @Int.tdiv_eq_ediv a b
  have hm := @Int.tmod_eq_emod a b
  unfold wI64 at ha
  have hab : -9223372036854775808 ≤ a / b ∧ a / b ≤ 9223372036854775807 := by
    constructor
    · have := Int.le_ediv_of_mul_le hb (show -9223372036854775808 * b ≤ a by
        have := Int.mul_le_mul_of_nonneg_left (show (1 : Int) ≤ b by omega) (show (0 : Int) ≤ 9223372036854775808 by decide); omega)
      exact this
    · have := Int.ediv_le_of_le_mul hb (show a ≤ 9223372036854775807 * b by
        have := Int.mul_le_mul_of_nonneg_left (show (1 : Int) ≤ b by omega) (show (0 : Int) ≤ 9223372036854775807 by decide); omega)
      exact this
  by_cases hc : 0 ≤ a ∨ b ∣ a
  · rw [if_pos hc, Int.add_zero] at hq
    rw [if_pos hc, show ((0:Nat):Int) = 0 from rfl, Int.sub_zero] at hm
    rw [hq, hm, show decide (a % b < 0) = false from decide_eq_false (by omega), show IntKind.i64.wrap (a / b) = a / b from w64_id hab]; rfl
  · rw [if_neg hc, Int.sign_eq_one_of_pos hb] at hq
    rw [if_neg hc, Int.natAbs_of_nonneg (by omega)] at hm
    have hneg : a / b < 0 := by
      rcases Int.lt_or_le (a / b) 0 with q | q
      · exact q
      · have := Int.mul_nonneg q (show 0 ≤ b by omega)
        exact absurd (.inl (by omega)) hc
    rw [hq, hm, show decide (a % b - b < 0) = true from decide_eq_true (by omega), show IntKind.i64.wrap (a / b + 1) = a / b + 1 from w64_id (by omega), w64_id (by omega)]
    simp only [cond_true]
    congr 1
    omega
/-- The place of an offset, by the piece in which it lies. -/
theorem curve_At_eq {c : Curve} (V : Valid c.Pts) (hl : c.Pts.length ≤ 1000000) {s : Int} (hs : wI64 s) : ∃ A : At c.Pts (max 0 s), curve_Piece c s = some ((A.i : Int), min (max 0 s - A.st) (plen A.p A.q)) ∧
    curve_At c s = some ⟨A.p.X + (vec A.p A.q).x * min (max 0 s - A.st) (plen A.p A.q) / plen A.p A.q, A.p.Y + (vec A.p A.q).y * min (max 0 s - A.st) (plen A.p A.q) / plen A.p A.q⟩ := by
  obtain ⟨x, hx, hy, hA⟩ := piece_same c hl s hs
  obtain ⟨A, h1, rfl⟩ := hA V
  refine ⟨A, hx, ?_⟩
  unfold curve_At
  rw [curve_Check_eq c hl, checkM_zero.2 V]
  simp only [Option.bind_some, bne_self_eq_false, cond_false, h1]
  obtain ⟨o1, o2⟩ := at_ok A V
  have hv := okV_vec o1 o2
  have a1 := A.l1
  have a2 := A.l2
  have a3 := A.hs
  have ho := okS_iff.1 o1
  have ho2 := okS_iff.1 o2
  generalize ht : min (max 0 s - A.st) (plen A.p A.q) = t
  have ht0 : 0 ≤ t ∧ t ≤ 1048576 ∧ t ≤ plen A.p A.q := by omega
  obtain ⟨v1, v2, v3, v4⟩ := hv
  have m1 := mul_bd ⟨v1, v2⟩ (show -1048576 ≤ t ∧ t ≤ 1048576 by omega)
  have m2 := mul_bd ⟨v3, v4⟩ (show -1048576 ≤ t ∧ t ≤ 1048576 by omega)
  have hdiv : ∀ z, -33554432 ≤ z → z ≤ 33554432 → -33554432 ≤ z * t / plen A.p A.q ∧ z * t / plen A.p A.q ≤ 33554432 := by
    intro z z1 z2
    constructor
    · refine Int.le_ediv_of_mul_le (by omega) ?_
      have e1 := Int.mul_le_mul_of_nonneg_left ht0.2.2 (show (0 : Int) ≤ 33554432 by decide)
      have e2 := Int.mul_le_mul_of_nonneg_right z1 ht0.1
      omega
    · refine Int.ediv_le_of_le_mul (by omega) ?_
      have e1 := Int.mul_le_mul_of_nonneg_left ht0.2.2 (show (0 : Int) ≤ 33554432 by decide)
      have e2 := Int.mul_le_mul_of_nonneg_right z2 ht0.1
      omega
  have d1 := hdiv _ v1 v2
  have d2 := hdiv _ v3 v4
  rw [w64_id (n := (vec A.p A.q).x * t) (by omega), w64_id (n := (vec A.p A.q).y * t) (by omega), curve_floor_eq (by omega) (by unfold wI64; omega), Option.bind_some, curve_floor_eq (by omega) (by unfold wI64; omega), Option.bind_some,
    w64_id (n := A.p.X + _) (by omega), w64_id (n := A.p.Y + _) (by omega)]
theorem suml_take_lt {L : List Int} (h : ∀ a ∈ L, 1000 ≤ a) : ∀ {i j : Nat}, i < j → j ≤ L.length → suml (L.take i) + 1000 ≤ suml (L.take j) := by
  intro i j hij
  induction hij with
  | refl =>
    intro hj
    have hd : L.drop i = L[i] :: L.drop (i + 1) := List.drop_eq_getElem_cons (by omega)
    rw [suml_take hd]
    have := h L[i] (List.getElem_mem (by omega)); omega
  | @step j hij ih =>
    intro hj
    have := ih (by omega)
    have hd : L.drop j = L[j] :: L.drop (j + 1) := List.drop_eq_getElem_cons (by omega)
    have e := suml_take hd
    have := h L[j] (List.getElem_mem (by omega))
    show _ ≤ suml (L.take (j + 1))
    omega
theorem valid_lens {l : List Spot} (V : Valid l) : (∀ a ∈ lens l, 1000 ≤ a ∧ a ≤ 1048576) ∧ (lens l).length + 1 = l.length := by
  obtain ⟨p, q, r, rfl⟩ := lens_valid V
  exact ⟨good_lens (q :: r) p none V.good, by rw [lens_length]; simp⟩
end Go.Abs.Curve

namespace Go.Abs.Curve
open Go Go.Abs
end Go.Abs.Curve

namespace Go.Abs.Curve
open Go Go.Abs
end Go.Abs.Curve

namespace Go.Abs.Curve
open Go Go.Abs
end Go.Abs.Curve

namespace Go.Abs.Curve
open Go Go.Abs
end Go.Abs.Curve

namespace Go.Abs.Curve
open Go Go.Abs
end Go.Abs.Curve

namespace Go.Abs.Curve
open Go Go.Abs
end Go.Abs.Curve

namespace Go.Abs.Curve
open Go Go.Abs
end Go.Abs.Curve

namespace Go.Abs.Curve
open Go Go.Abs
end Go.Abs.Curve

namespace Go.Abs.Curve
open Go Go.Abs
end Go.Abs.Curve

namespace Go.Abs.Curve
open Go Go.Abs
/-- A wider corridor on the same piece. -/
structure Wid (c c' : CurveCorridor) : Prop where
  piece : c'.piece = c.piece
  half : c.half ≤ c'.half
  e1 : c'.ends.1 ≤ c.ends.1
  e2 : c.ends.2 ≤ c'.ends.2
  e : c.ends.1 ≤ c.ends.2
theorem Wid.refl {c : CurveCorridor} (h : c.ends.1 ≤ c.ends.2) : Wid c c := ⟨rfl, Int.le_refl _, Int.le_refl _, Int.le_refl _, h⟩
end Go.Abs.Curve

namespace Go.Abs.Curve
open Go Go.Abs
end Go.Abs.Curve

namespace Go.Abs.Curve
open Go Go.Abs
end Go.Abs.Curve

namespace Go.Abs.Curve
open Go Go.Abs
end Go.Abs.Curve

namespace Go.Abs.Curve
open Go Go.Abs
def sh (t p : Spot) : Spot := ⟨p.X + t.X, p.Y + t.Y⟩
theorem vec_sh (t p q : Spot) : vec (sh t p) (sh t q) = vec p q := by unfold vec sh; dsimp only; congr 1 <;> omega
theorem Good.sh {t : Spot} : ∀ {l : List Spot} {last : Option CurveVector}, Good last l → Good last (l.map (sh t)) := by
  intro l last h
  induction h with
  | one last p => exact Good.one _ _
  | cons last p q r h1 h2 h3 h4 _ ih =>
    rw [List.map_cons, List.map_cons]
    rw [List.map_cons] at ih
    refine Good.cons _ _ _ _ ?_ ?_ ?_ ?_ ?_ <;> rw [vec_sh] <;> assumption
theorem Valid.sh {t : Spot} {l : List Spot} (V : Valid l) (hb : ∀ p ∈ l, okS (sh t p) = true) : Valid (l.map (sh t)) :=
  ⟨by rw [List.length_map]; exact V.two, by rw [List.length_map]; exact V.most, by rw [List.all_map, List.all_eq_true]; exact hb, V.good.sh⟩
theorem moved_loop (c : Curve) (hl : c.Pts.length ≤ 1000) (t : Spot) (hb : ∀ p ∈ c.Pts, (-100000000 ≤ p.X + t.X ∧ p.X + t.X ≤ 100000000) ∧ -100000000 ≤ p.Y + t.Y ∧ p.Y + t.Y ≤ 100000000) : ∀ (r : List Spot) (i : Nat) (out : List Spot), c.Pts.drop i = r → out.length + r.length ≤ 1000 → loop (law01_moved_l1 c t) ((i : Int), ⟨out⟩) = some ⟨out ++ r.map (sh t)⟩ := by
  intro r
  induction r with
  | nil =>
    intro i out hi _
    have := drop_nil hi
    refine loop_out ?_
    unfold law01_moved_l1
    dsimp only
    rw [show decide ((i : Int) < (c.Pts.length : Int)) = false from decide_eq_false (by omega)]
    simp
  | cons p r ih =>
    intro i out hi ho
    simp only [List.length_cons] at ho
    have hlt := drop_lt hi
    have hp := hb p (List.mem_of_mem_drop (i := i) (by rw [hi]; simp))
    have hs : law01_moved_l1 c t ((i : Int), ⟨out⟩) = some (.go (((i + 1 : Nat) : Int), ⟨out ++ [sh t p]⟩)) := by
      unfold law01_moved_l1
      dsimp only
      rw [show decide ((i : Int) < (c.Pts.length : Int)) = true from decide_eq_true (by omega), w64_id (n := (i : Int) + 1) (by omega)]
      simp only [cond_true, geti_drop hi, Option.bind_some]
      rw [w64_id (n := p.X + t.X) (by omega), w64_id (n := p.Y + t.Y) (by omega), appc_ok (by simp; omega)]
      rfl
    rw [loop_go hs, ih (i + 1) _ (drop_succ hi) (by simp; omega), List.append_assoc]
    rfl
theorem moved_eq (c : Curve) (hl : c.Pts.length ≤ 1000) (t : Spot) (hb : ∀ p ∈ c.Pts, (-100000000 ≤ p.X + t.X ∧ p.X + t.X ≤ 100000000) ∧ -100000000 ≤ p.Y + t.Y ∧ p.Y + t.Y ≤ 100000000) : law01_moved c t = some ⟨c.Pts.map (sh t)⟩ := by
  unfold law01_moved
  have := moved_loop c hl t hb c.Pts 0 [] rfl (by simpa using hl)
  rw [show ((0 : Nat) : Int) = 0 from rfl] at this
  rw [this]
  rfl
end Go.Abs.Curve

namespace Go.Abs.Curve
open Go Go.Abs

theorem at_unique {l : List Spot} (V : Valid l) {s : Int} (A : At l s) {j : Nat} (hj : j < (lens l).length) (h1 : suml ((lens l).take j) ≤ s) (h2 : j + 1 < (lens l).length → s < suml ((lens l).take (j + 1))) : A.i = j := by
  obtain ⟨v1, v2⟩ := valid_lens V
  have hA := A.pre
  have hil2 := drop_lt (drop_succ A.hd)
  have hdl : (lens l).drop A.i = plen A.p A.q :: lens (A.q :: A.r) := by rw [← lens_drop, A.hd, lens_consP]
  have ht := suml_take hdl
  have hs := A.hs
  rcases Nat.lt_trichotomy A.i j with q | q | q
  · exfalso
    have hr : A.r ≠ [] := by
      intro e
      have := congrArg List.length A.hd
      rw [e, List.length_drop] at this
      simp at this; omega
    have h3 := A.nx hr
    rcases Nat.lt_or_eq_of_le (show A.i + 1 ≤ j by omega) with q2 | q2
    · have := suml_take_lt (fun a ha => (v1 a ha).1) q2 (by omega); omega
    · rw [q2] at ht; omega
  · exact q
  · exfalso
    have h4 := h2 (by omega)
    rcases Nat.lt_or_eq_of_le (show j + 1 ≤ A.i by omega) with q2 | q2
    · have := suml_take_lt (fun a ha => (v1 a ha).1) q2 (by omega); omega
    · rw [q2] at h4; omega
theorem At_at {c : Curve} (V : Valid c.Pts) (hl : c.Pts.length ≤ 1000000) {s : Int} (hs0 : 0 ≤ s) (hs : s ≤ 1000000000000) {j : Nat} {p q : Spot} {r : List Spot} (hd : c.Pts.drop j = p :: q :: r) (h1 : suml ((lens c.Pts).take j) ≤ s) (h2 : j + 1 < (lens c.Pts).length → s < suml ((lens c.Pts).take (j + 1))) :
    curve_At c s = some ⟨p.X + (vec p q).x * min (s - suml ((lens c.Pts).take j)) (plen p q) / plen p q, p.Y + (vec p q).y * min (s - suml ((lens c.Pts).take j)) (plen p q) / plen p q⟩ := by
  obtain ⟨A, _, hA⟩ := curve_At_eq V hl (show wI64 s by unfold wI64; omega)
  have e0 : max 0 s = s := by omega
  obtain ⟨v1, v2⟩ := valid_lens V
  have hj := drop_lt (drop_succ hd)
  have hi := at_unique V A (j := j) (by omega) (by omega) (fun q => by have := h2 q; omega)
  have hdA := A.hd
  rw [hi, hd] at hdA
  injection hdA with e1 e2
  injection e2 with e2 e3
  have hst := A.pre
  rw [hi] at hst
  rw [hA, hst, ← e1, ← e2, e0]
theorem lens_append : ∀ (l : List Spot) (e : Spot) (t : List Spot), lens (l ++ e :: t) = lens (l ++ [e]) ++ lens (e :: t)
  | [], e, t => rfl
  | [a], e, t => by
    rw [List.cons_append, List.nil_append, List.cons_append, List.nil_append, lens_consP, lens_two]; rfl
  | a :: b :: l, e, t => by
    have := lens_append (b :: l) e t
    simp only [List.cons_append] at this ⊢
    rw [lens_consP, lens_consP, this, List.cons_append]
/-- All pieces of a chain are as they should be. -/
def PG : List Spot → Prop
  | p :: q :: r => (plen p q * plen p q = dotv (vec p q) (vec p q) ∧ 1000 ≤ plen p q ∧ plen p q ≤ 1048576) ∧ PG (q :: r)
  | _ => True
theorem PG_of_good : ∀ (l : List Spot) (last : Option CurveVector), Good last l → PG l
  | [], _, _ => trivial
  | [_], _, _ => trivial
  | p :: q :: r, last, h => by
    obtain ⟨h1, h2, h3, _, h5⟩ := h.inv
    exact ⟨⟨h1, h2, h3⟩, PG_of_good (q :: r) _ h5⟩
theorem PG_append : ∀ (l : List Spot) (e : Spot) (t : List Spot), PG (l ++ [e]) → PG (e :: t) → PG (l ++ e :: t)
  | [], _, _, _, h => h
  | [_], _, _, h, h' => ⟨h.1, h'⟩
  | _ :: b :: l, e, t, h, h' => ⟨h.1, PG_append (b :: l) e t h.2 h'⟩
theorem goM_PG : ∀ (l : List Spot) (last : Option CurveVector), PG l → goM last l = 0 ∨ goM last l = 12
  | [], last, _ => by left; cases last <;> rfl
  | [_], last, _ => by left; cases last <;> rfl
  | p :: q :: r, last, h => by
    obtain ⟨⟨h1, h2, h3⟩, h4⟩ := h
    unfold plen at h1 h2 h3
    rw [goM_cons, if_neg (by simpa using h1), if_neg (by omega)]
    cases last with
    | none => exact goM_PG (q :: r) _ h4
    | some u =>
      dsimp only
      split
      · exact .inr rfl
      · exact goM_PG (q :: r) _ h4
theorem slices_Clone_eq {l : List Spot} (h : l.length ≤ 1000000000) : slices_Clone_Spot_Spot l = some l := by
  unfold slices_Clone_Spot_Spot
  rw [appc_ok (by simpa using h)]; rfl
theorem Cloneo_eq {l : List Spot} (h : l.length ≤ 1000000000) (hne : l ≠ []) : slices_Clone_Spot_Spoto l = some l := by
  unfold slices_Clone_Spot_Spoto
  cases l with
  | nil => exact absurd rfl hne
  | cons x xs => dsimp only; rw [appc_ok (by simpa using h)]; rfl
theorem subl_one {l : List Spot} (h : 1 ≤ l.length) : subl l 1 (l.length : Int) = some (l.drop 1) := by
  unfold subl
  rw [if_pos ⟨by decide, by omega, Int.le_refl _⟩]
  simp
/-- A join of two curves that fit. -/
theorem join_eq {c d : Curve} (Vc : Valid c.Pts) (Vd : Valid d.Pts) {pre t : List Spot} {e : Spot} (hc : c.Pts = pre ++ [e]) (hd : d.Pts = e :: t) :
    curve_Join c d = some (if checkM (pre ++ e :: t) = 0 then (⟨pre ++ e :: t⟩, 0) else (⟨[]⟩, checkM (pre ++ e :: t))) := by
  have m1 := Vc.most
  have m2 := Vd.most
  have l1 : c.Pts.length = pre.length + 1 := by rw [hc]; simp
  have l2 : d.Pts.length = t.length + 1 := by rw [hd]; simp
  unfold curve_Join
  rw [curve_Check_eq c (by omega), curve_Check_eq d (by omega), checkM_zero.2 Vc, checkM_zero.2 Vd]
  simp only [Option.bind_some, bne_self_eq_false, cond_false, thenS]
  rw [w64_id (by omega)]
  have g1 : geti c.Pts ((c.Pts.length : Int) - 1) = some e := by
    unfold geti
    rw [if_pos (by omega), hc]
    simp
  have g2 : geti d.Pts 0 = some e := by rw [hd]; rfl
  rw [g1, g2, subl_one (by omega), Cloneo_eq (by omega) (by rw [hc]; simp)]
  simp only [Option.bind_some, beq_self_eq_true, Bool.and_self, Bool.not_true, cond_false]
  have hv : c.Pts ++ d.Pts.drop 1 = pre ++ e :: t := by rw [hc, hd]; simp
  rw [appc_ok (by rw [List.length_drop]; omega), hv, Option.bind_some]
  unfold curve_through
  rw [slices_Clone_eq (by simp; omega)]
  simp only [Option.bind_some]
  rw [curve_Check_eq _ (by show (pre ++ e :: t).length ≤ 1000000; simp; omega), Option.bind_some]
  by_cases h : checkM (pre ++ e :: t) = 0
  · simp [h]
  · rw [if_neg h, show (checkM (pre ++ e :: t) != 0) = true by simpa using h, cond_true]
theorem law01_CurveTogether_plain (a0 a1 : KitChain) (a2 : Int) (w0 : wI64 a0.X ∧ wI64 a0.Y ∧ ∀ a ∈ a0.Steps, wI64 a) (w1 : wI64 a1.X ∧ wI64 a1.Y ∧ ∀ a ∈ a1.Steps, wI64 a) (w2 : wI64 a2) : law01_CurveTogether a0 a1 a2 = some true := by
  obtain ⟨c, hc, hm⟩ := kit_Curve_eq a0 w0.2.2
  obtain ⟨d0, hd0, hm2⟩ := kit_Curve_eq a1 w1.2.2
  have Vc := hm.valid
  have Vd0 := hm2.valid
  have c6 := hm.six
  have d6 := hm2.six
  have c2 := hm.two
  have d2 := hm2.two
  obtain ⟨pre, e, hce⟩ : ∃ pre e, c.Pts = pre ++ [e] := by
    rcases List.eq_nil_or_concat c.Pts with h | ⟨pre, e, h⟩
    · rw [h] at c2; simp at c2
    · exact ⟨pre, e, by rw [h]; simp⟩
  obtain ⟨f, t0, hdf⟩ : ∃ f t0, d0.Pts = f :: t0 := by
    cases h : d0.Pts with
    | nil => rw [h] at d2; simp at d2
    | cons f t0 => exact ⟨f, t0, rfl⟩
  have be := hm.bd e (by rw [hce]; simp)
  have bf := hm2.bd f (by rw [hdf]; simp)
  have bd := hm2.bd
  generalize ht : (⟨e.X - f.X, e.Y - f.Y⟩ : Spot) = t
  have tx : t.X = e.X - f.X := by rw [← ht]
  have ty : t.Y = e.Y - f.Y := by rw [← ht]
  have hmv : law01_moved d0 t = some ⟨d0.Pts.map (sh t)⟩ := moved_eq d0 (by omega) t (fun p hp => by have := bd p hp; omega)
  have Vd : Valid (d0.Pts.map (sh t)) := Vd0.sh (fun p hp => by have := bd p hp; rw [okS_iff]; unfold sh; dsimp only; omega)
  have hfe : sh t f = e := by unfold sh; rw [tx, ty]; cases e; simp; omega
  have hde : (d0.Pts.map (sh t)) = e :: t0.map (sh t) := by rw [hdf, List.map_cons, hfe]
  generalize hd : (⟨d0.Pts.map (sh t)⟩ : Curve) = d at hmv
  have hdp : d.Pts = e :: t0.map (sh t) := by rw [← hd]; exact hde
  have hdl : d.Pts.length = d0.Pts.length := by rw [← hd]; exact List.length_map _
  replace Vd : Valid d.Pts := by rw [← hd]; exact Vd
  generalize t0.map (sh t) = tl at hdp
  clear hde hfe hd
  have tc := total_bd Vc
  have td := total_bd Vd
  obtain ⟨vc1, vc2⟩ := valid_lens Vc
  obtain ⟨vd1, vd2⟩ := valid_lens Vd
  have lc : curve_Length c = some (suml (lens c.Pts)) := by rw [curve_Length_eq c (by omega), show piecesL c = lens c.Pts from if_pos (checkM_zero.2 Vc), tc.2.2]
  have ld : curve_Length d = some (suml (lens d.Pts)) := by rw [curve_Length_eq d (by omega), show piecesL d = lens d.Pts from if_pos (checkM_zero.2 Vd), td.2.2]
  have pos : ∀ {l : List Spot}, Valid l → 0 < suml (lens l) := by
    intro l V
    obtain ⟨v1, v2⟩ := valid_lens V
    have h2 := V.two
    have := suml_take_lt (fun a ha => (v1 a ha).1) (show 0 < (lens l).length by omega) (Nat.le_refl _)
    rw [List.take_length] at this
    simp [suml] at this
    omega
  have pc := pos Vc
  have pd := pos Vd
  unfold law01_CurveTogether
  rw [hc, hd0, Option.bind_some, Option.bind_some, w64_id (n := (c.Pts.length : Int) - 1) (by omega)]
  have g1 : geti c.Pts ((c.Pts.length : Int) - 1) = some e := by
    unfold geti
    rw [if_pos (by omega), hce]
    simp
  have g2 : geti d0.Pts 0 = some f := by rw [hdf]; rfl
  rw [g1, g2]
  simp only [Option.bind_some]
  rw [w64_id (n := e.X - f.X) (by omega), w64_id (n := e.Y - f.Y) (by omega), ht, hmv, Option.bind_some, lc, ld]
  simp only [Option.bind_some]
  rw [show decide (suml (lens c.Pts) ≤ 0) = false from decide_eq_false (by omega), show decide (suml (lens d.Pts) ≤ 0) = false from decide_eq_false (by omega)]
  simp only [Bool.or_self, cond_false]
  rw [join_eq Vc Vd hce hdp, Option.bind_some]
  have hpg : PG (pre ++ e :: tl) := PG_append pre e tl (by rw [← hce]; exact PG_of_good _ none Vc.good) (by rw [← hdp]; exact PG_of_good _ none Vd.good)
  have hck : checkM (pre ++ e :: tl) = goM none (pre ++ e :: tl) := by
    unfold checkM
    have l1 : c.Pts.length = pre.length + 1 := by rw [hce]; simp
    have l2 : d.Pts.length = tl.length + 1 := by rw [hdp]; simp
    rw [if_neg (by simp; omega), if_neg (by simp; omega), if_pos]
    have o1 := Vc.ok
    have o2 := Vd.ok
    rw [hce] at o1
    rw [hdp] at o2
    simp only [List.all_append, List.all_cons, List.all_nil, Bool.and_true, Bool.and_eq_true] at o1 o2 ⊢
    exact ⟨o1.1, o2⟩
  by_cases h0 : checkM (pre ++ e :: tl) = 0
  · rw [if_pos h0]
    have V := checkM_zero.1 h0
    simp only [bne_self_eq_false, cond_false]
    have hx : suml (lens (pre ++ e :: tl)) = suml (lens c.Pts) + suml (lens d.Pts) := by rw [lens_append, suml_append, ← hce, ← hdp]
    have hL : lens (pre ++ e :: tl) = lens c.Pts ++ lens d.Pts := by rw [lens_append, ← hce, ← hdp]
    generalize hj : (⟨pre ++ e :: tl⟩ : Curve) = j
    have hjp : j.Pts = pre ++ e :: tl := by rw [← hj]
    have Vj : Valid j.Pts := by rw [hjp]; exact V
    have hjl : j.Pts.length ≤ 1000000 := by have := Vj.most; omega
    have lj : curve_Length j = some (suml (lens c.Pts) + suml (lens d.Pts)) := by rw [curve_Length_eq j hjl, show piecesL j = lens j.Pts from if_pos (checkM_zero.2 Vj), (total_bd Vj).2.2, hjp, hx]
    have hjL : lens j.Pts = lens c.Pts ++ lens d.Pts := by rw [hjp, hL]
    obtain ⟨s, _, s0, s1, es, _⟩ := kit_Mod_eq (n := a2) (m := suml (lens c.Pts) + suml (lens d.Pts) + 1) (by omega) w2 (by omega)
    rw [w64_id (n := suml (lens c.Pts) + suml (lens d.Pts)) (by omega), w64_id (n := suml (lens c.Pts) + suml (lens d.Pts) + 1) (by omega), es, Option.bind_some, w64_id (n := s - _) (by omega), lj]
    -- the place on the one, or on the other one
    have key : ∃ u v : Spot, curve_At d (s - suml (lens c.Pts)) = some u ∧ curve_At c s = some v ∧ curve_At j s = some (if s < suml (lens c.Pts) then v else u) := by
      obtain ⟨A, _, hA⟩ := curve_At_eq Vc (by omega) (show wI64 s by unfold wI64; omega)
      obtain ⟨B, _, hB⟩ := curve_At_eq Vd (by omega) (show wI64 (s - suml (lens c.Pts)) by unfold wI64; omega)
      refine ⟨_, _, hB, hA, ?_⟩
      by_cases hlt : s < suml (lens c.Pts)
      · rw [if_pos hlt]
        have e0 : max 0 s = s := by omega
        have hA' := A.pre
        have hil := drop_lt (drop_succ A.hd)
        have hi : A.i < (lens c.Pts).length := by omega
        have hdj : j.Pts.drop A.i = A.p :: A.q :: (A.r ++ tl) := by
          rw [hjp, show pre ++ e :: tl = c.Pts ++ tl by rw [hce]; simp, List.drop_append_of_le_length (by omega), A.hd]; rfl
        have tk : ∀ n, n ≤ (lens c.Pts).length → (lens j.Pts).take n = (lens c.Pts).take n := fun n hn => by rw [hjL, List.take_append_of_le_length hn]
        have hdl' : (lens c.Pts).drop A.i = plen A.p A.q :: lens (A.q :: A.r) := by rw [← lens_drop, A.hd, lens_consP]
        have hts := suml_take hdl'
        have := At_at Vj hjl s0 (by omega) hdj (by rw [tk _ (by omega), ← hA']; have := A.hs; omega) (fun _ => by
          rw [tk _ (by omega), hts, ← hA']
          by_cases hr : A.r = []
          · have hlen := congrArg List.length A.hd
            rw [hr, List.length_drop] at hlen
            simp at hlen
            have : suml (lens c.Pts) = suml ((lens c.Pts).take (A.i + 1)) := by rw [show A.i + 1 = (lens c.Pts).length by omega, List.take_length]
            omega
          · have := A.nx hr; omega)
        have e1 : min (s - A.st) (plen A.p A.q) = min (max 0 s - A.st) (plen A.p A.q) := by omega
        rw [this, tk _ (by omega), ← hA', e1]
      · rw [if_neg hlt]
        have e0 : max 0 (s - suml (lens c.Pts)) = s - suml (lens c.Pts) := by omega
        have hB' := B.pre
        have hil := drop_lt (drop_succ B.hd)
        have hlp : pre.length = (lens c.Pts).length := by have : c.Pts.length = pre.length + 1 := by rw [hce]; simp
                                                          omega
        have hdj : j.Pts.drop ((lens c.Pts).length + B.i) = B.p :: B.q :: B.r := by
          rw [hjp, ← hlp, ← List.drop_drop, List.drop_left' rfl, ← hdp, B.hd]
        have tk : ∀ n, suml ((lens j.Pts).take ((lens c.Pts).length + n)) = suml (lens c.Pts) + suml ((lens d.Pts).take n) := fun n => by
          rw [hjL, List.take_append, suml_append, List.take_of_length_le (by omega)]; congr 3; omega
        have hdl' : (lens d.Pts).drop B.i = plen B.p B.q :: lens (B.q :: B.r) := by rw [← lens_drop, B.hd, lens_consP]
        have hts := suml_take hdl'
        have := At_at Vj hjl s0 (by omega) hdj (by rw [tk, ← hB']; have := B.hs; omega) (fun q => by
          rw [show (lens c.Pts).length + B.i + 1 = (lens c.Pts).length + (B.i + 1) by omega, tk, hts, ← hB']
          rw [hjL, List.length_append] at q
          have hr : B.r ≠ [] := by
            intro hr
            have hlen := congrArg List.length B.hd
            rw [hr, List.length_drop] at hlen
            simp at hlen
            omega
          have := B.nx hr; omega)
        have e1 : min (s - (suml (lens c.Pts) + B.st)) (plen B.p B.q) = min (max 0 (s - suml (lens c.Pts)) - B.st) (plen B.p B.q) := by omega
        rw [this, tk, ← hB', e1]
    obtain ⟨u, v, hu, hv, hw⟩ := key
    rw [hu, Option.bind_some, hv, hw]
    have hsel : (cond (decide (s < suml (lens c.Pts))) ((some v : Option Spot).bind fun v13 => some v13) (some u)) = some (if s < suml (lens c.Pts) then v else u) := by
      by_cases hlt : s < suml (lens c.Pts)
      · simp [hlt]
      · simp [hlt]
    rw [hsel]
    generalize (if s < suml (lens c.Pts) then v else u) = z
    simp only [Option.bind_some, beq_self_eq_true, cond_true, Bool.and_self, awake_eq]
  · rw [if_neg h0]
    have h12 : checkM (pre ++ e :: tl) = 12 := by
      rw [hck] at h0 ⊢
      exact (goM_PG _ none hpg).resolve_left h0
    rw [h12]
    simp only [show ((12 : Int) != 0) = true from rfl, cond_true, beq_self_eq_true, awake_eq, Option.bind_some, Bool.and_self]
end Go.Abs.Curve
