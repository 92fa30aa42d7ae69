/-
  Plain facts on the functions: what they compute, and that the law holds of it.
-/
import Derived.Test.YtkpmfcpgmhkleaaFns2

namespace Go.Abs.Curve
open Go Go.Abs
structure Ref01Stripe where
  p : Spot
  v : Spot
  l : Int
  h : Int
  s : Int
  t : Int
  deriving Inhabited

noncomputable def ref01_Minus (p1 : Spot) (p2 : Spot) : Option Spot :=
  some (Spot.mk (w64 (p1.X - p2.X)) (w64 (p1.Y - p2.Y)))

noncomputable def ref01_Valid (p1 : Spot) : Option Bool :=
  some ((((decide (p1.X ≥ (-16777216))) && (decide (p1.X ≤ 16777216))) && (decide (p1.Y ≥ (-16777216)))) && (decide (p1.Y ≤ 16777216)))

noncomputable def ref01_root_l1 (p1 : Int) (x1 : (Int × Int)) : Option (Stp (Int × Int) Int) :=
  cond (decide (x1.2 > 0)) (cond (decide ((w64 ((w64 (x1.1 + x1.2)) * (w64 (x1.1 + x1.2)))) ≤ p1)) (some (.go ((w64 (x1.1 + x1.2)), (w64 (x1.2.tdiv 2))))) (some (.go (x1.1, (w64 (x1.2.tdiv 2)))))) (some (.out x1.1))

noncomputable def ref01_root (p1 : Int) : Option Int :=
  (loop (ref01_root_l1 p1) (0, 67108864)).bind fun y1 => some y1

noncomputable def ref01_Dot (p1 : Spot) (p2 : Spot) : Option Int :=
  some (w64 ((w64 (p1.X * p2.X)) + (w64 (p1.Y * p2.Y))))

noncomputable def ref01_Check_l2 (p1 : Curve) (x2 : Int) : Option (Stp Int (Sum Unit Int)) :=
  cond (decide ((w64 (x2 + 1)) < (p1.Pts.length : Int))) ((geti p1.Pts (w64 (x2 + 1))).bind fun v3 => (geti p1.Pts x2).bind fun v4 => (ref01_Minus v3 v4).bind fun v5 => (ref01_Dot v5 v5).bind fun v6 => (ref01_root v6).bind fun v7 => (ref01_Dot v5 v5).bind fun v8 => cond ((w64 (v7 * v7)) != v8) (some (.out (.inr 3))) (cond ((decide (v7 < 1000)) || (decide (v7 > 1048576))) (some (.out (.inr 2))) (((cond (decide (x2 > 0)) (geti p1.Pts x2) (some default))).bind fun v9 => ((cond (decide (x2 > 0)) (geti p1.Pts (w64 (x2 - 1))) (some default))).bind fun v10 => ((cond (decide (x2 > 0)) (ref01_Minus v9 v10) (some default))).bind fun v11 => ((cond (decide (x2 > 0)) (ref01_Dot v5 v11) (some default))).bind fun v12 => cond ((decide (x2 > 0)) && (decide (v12 ≤ 0))) (some (.out (.inr 12))) (some (.go (w64 (x2 + 1))))))) (some (.out (.inl ())))

noncomputable def ref01_Check_l1 (p1 : Curve) (x1 : Int) : Option (Stp Int (Sum Unit Int)) :=
  cond (decide (x1 < (p1.Pts.length : Int))) ((geti p1.Pts x1).bind fun v1 => (ref01_Valid v1).bind fun v2 => cond (!v2) (some (.out (.inr 2))) (some (.go (w64 (x1 + 1))))) (some (.out (.inl ())))

noncomputable def ref01_Check (p1 : Curve) : Option Int :=
  cond (decide ((p1.Pts.length : Int) < 2)) (some 6) (cond (decide ((p1.Pts.length : Int) > 16)) (some 5) (thenS (loop (ref01_Check_l1 p1) 0) (fun _ => thenS (loop (ref01_Check_l2 p1) 0) (fun _ => some 0) (fun r => some r)) (fun r => some r)))

noncomputable def ref01_Pieces_l1 (p1 : Curve) (x1 : ((List Int) × Int)) : Option (Stp ((List Int) × Int) (List Int)) :=
  cond (decide ((w64 (x1.2 + 1)) < (p1.Pts.length : Int))) ((geti p1.Pts (w64 (x1.2 + 1))).bind fun v2 => (geti p1.Pts x1.2).bind fun v3 => (ref01_Minus v2 v3).bind fun v4 => (ref01_Dot v4 v4).bind fun v5 => (ref01_root v5).bind fun v6 => (appc x1.1 [v6]).bind fun v7 => some (.go (v7, (w64 (x1.2 + 1))))) (some (.out x1.1))

noncomputable def ref01_Pieces (p1 : Curve) : Option (List Int) :=
  (ref01_Check p1).bind fun v1 => cond (v1 != 0) (some []) ((loop (ref01_Pieces_l1 p1) ([], 0)).bind fun y1 => some y1)

noncomputable def ref01_Length_l1 (v1 : (List Int)) (x1 : (Int × Int)) : Option (Stp (Int × Int) Int) :=
  cond (decide (x1.2 < (v1.length : Int))) ((geti v1 x1.2).bind fun v2 => some (.go ((w64 (x1.1 + v2)), (w64 (x1.2 + 1))))) (some (.out x1.1))

noncomputable def ref01_Length (p1 : Curve) : Option Int :=
  (ref01_Pieces p1).bind fun v1 => (loop (ref01_Length_l1 v1) (0, 0)).bind fun y1 => some y1

noncomputable def curve_Piece (p1 : Curve) (p2 : Int) : Option (Int × Int) :=
  (curve_Check p1).bind fun v1 => cond (v1 != 0) (some (0, 0)) ((curve_find p1 (mm2 true 0 p2)).bind fun v2 => some (v2.1, v2.2.2))

noncomputable def ref01_Piece_l1 (v1 : (List Int)) (x1 : (Int × Int)) : Option (Stp (Int × Int) (Sum Int (Int × Int))) :=
  cond (decide (x1.2 < (w64 ((v1.length : Int) - 1)))) ((geti v1 x1.2).bind fun v3 => cond (decide (x1.1 < v3)) (some (.out (.inr (x1.2, x1.1)))) ((geti v1 x1.2).bind fun v4 => some (.go ((w64 (x1.1 - v4)), (w64 (x1.2 + 1)))))) (some (.out (.inl x1.1)))

noncomputable def ref01_Piece (p1 : Curve) (p2 : Int) : Option (Int × Int) :=
  (ref01_Pieces p1).bind fun v1 => cond ((v1.length : Int) == 0) (some (0, 0)) ((ref01_Length p1).bind fun v2 => thenS (loop (ref01_Piece_l1 v1) ((mm2 true 0 (mm2 false p2 v2)), 0)) (fun y1 => some ((w64 ((v1.length : Int) - 1)), y1)) (fun r => some r))

noncomputable def ref01_Cross (p1 : Spot) (p2 : Spot) : Option Int :=
  some (w64 ((w64 (p1.X * p2.Y)) - (w64 (p1.Y * p2.X))))

noncomputable def ref01_outside_l1 (p1 : Ref01Stripe) (p2 : Ref01Stripe) (v1 : Spot) (x1 : (Int × Int × Int × Int × Int)) : Option (Stp (Int × Int × Int × Int × Int) (Int × Int × Int × Int)) :=
  cond (decide (x1.2.2.2.2 < 4)) (((cond ((x1.2.2.2.2.tmod 2) == 1) (some p2.t) (some p2.s)).bind fun y3 => (cond (decide (x1.2.2.2.2 ≥ 2)) (some (w64 (0 - p2.h))) (some p2.h)).bind fun y4 => (ref01_Dot v1 p1.v).bind fun v2 => (ref01_Dot p2.v p1.v).bind fun v3 => (ref01_Dot (Spot.mk (w64 (0 - p2.v.Y)) p2.v.X) p1.v).bind fun v4 => (ref01_Cross p1.v v1).bind fun v5 => (ref01_Cross p1.v p2.v).bind fun v6 => (ref01_Cross p1.v (Spot.mk (w64 (0 - p2.v.Y)) p2.v.X)).bind fun v7 => (cond (x1.2.2.2.2 == 0) (some ((w64 ((w64 ((w64 (p2.l * v2)) + (w64 (y3 * v3)))) + (w64 (y4 * v4)))), (w64 ((w64 ((w64 (p2.l * v2)) + (w64 (y3 * v3)))) + (w64 (y4 * v4)))), (w64 ((w64 ((w64 (p2.l * v5)) + (w64 (y3 * v6)))) + (w64 (y4 * v7)))), (w64 ((w64 ((w64 (p2.l * v5)) + (w64 (y3 * v6)))) + (w64 (y4 * v7)))))) (some (x1.1, x1.2.1, x1.2.2.1, x1.2.2.2.1))).bind fun y5 => some ((mm2 false y5.1 (w64 ((w64 ((w64 (p2.l * v2)) + (w64 (y3 * v3)))) + (w64 (y4 * v4))))), (mm2 true y5.2.1 (w64 ((w64 ((w64 (p2.l * v2)) + (w64 (y3 * v3)))) + (w64 (y4 * v4))))), (mm2 false y5.2.2.1 (w64 ((w64 ((w64 (p2.l * v5)) + (w64 (y3 * v6)))) + (w64 (y4 * v7))))), (mm2 true y5.2.2.2 (w64 ((w64 ((w64 (p2.l * v5)) + (w64 (y3 * v6)))) + (w64 (y4 * v7))))))).bind fun y2 => some (.go (y2.1, y2.2.1, y2.2.2.1, y2.2.2.2, (w64 (x1.2.2.2.2 + 1))))) (some (.out (x1.1, x1.2.1, x1.2.2.1, x1.2.2.2.1)))

noncomputable def ref01_outside (p1 : Ref01Stripe) (p2 : Ref01Stripe) : Option Bool :=
  (ref01_Minus p2.p p1.p).bind fun v1 => (loop (ref01_outside_l1 p1 p2 v1) (0, 0, 0, 0, 0)).bind fun y1 => some ((((decide (y1.2.1 < (w64 (p1.s * (w64 (p1.l * p2.l)))))) || (decide (y1.1 > (w64 (p1.t * (w64 (p1.l * p2.l))))))) || (decide (y1.2.2.2 < (w64 ((w64 (0 - p1.h)) * (w64 (p1.l * p2.l))))))) || (decide (y1.2.2.1 > (w64 (p1.h * (w64 (p1.l * p2.l)))))))

noncomputable def ref01_meet (p1 : Ref01Stripe) (p2 : Ref01Stripe) : Option Bool :=
  (ref01_Minus p2.p p1.p).bind fun v1 => (ref01_Dot v1 v1).bind fun v2 => ((cond (decide (v2 ≤ (w64 ((w64 ((w64 ((w64 (p1.l + p2.l)) + p1.h)) + p2.h)) * (w64 ((w64 ((w64 (p1.l + p2.l)) + p1.h)) + p2.h)))))) (ref01_outside p1 p2) (some default))).bind fun v3 => ((cond ((decide (v2 ≤ (w64 ((w64 ((w64 ((w64 (p1.l + p2.l)) + p1.h)) + p2.h)) * (w64 ((w64 ((w64 (p1.l + p2.l)) + p1.h)) + p2.h)))))) && (!v3)) (ref01_outside p2 p1) (some default))).bind fun v4 => some (((decide (v2 ≤ (w64 ((w64 ((w64 ((w64 (p1.l + p2.l)) + p1.h)) + p2.h)) * (w64 ((w64 ((w64 (p1.l + p2.l)) + p1.h)) + p2.h)))))) && (!v3)) && (!v4))

noncomputable def ref01_common_l2 (p2 : Ref01Stripe) (x2 : (Int × Int × Ref01Stripe)) : Option (Stp (Int × Int × Ref01Stripe) (Int × Ref01Stripe)) :=
  cond (decide (x2.1 < x2.2.1)) ((ref01_meet (Ref01Stripe.mk x2.2.2.p x2.2.2.v x2.2.2.l x2.2.2.h (w64 ((w64 ((w64 (x2.1 + x2.2.1)) + 1)).tdiv 2)) x2.2.2.l) p2).bind fun v2 => cond v2 (some (.go ((w64 ((w64 ((w64 (x2.1 + x2.2.1)) + 1)).tdiv 2)), x2.2.1, (Ref01Stripe.mk x2.2.2.p x2.2.2.v x2.2.2.l x2.2.2.h (w64 ((w64 ((w64 (x2.1 + x2.2.1)) + 1)).tdiv 2)) x2.2.2.l)))) (some (.go (x2.1, (w64 ((w64 ((w64 ((w64 (x2.1 + x2.2.1)) + 1)).tdiv 2)) - 1)), (Ref01Stripe.mk x2.2.2.p x2.2.2.v x2.2.2.l x2.2.2.h (w64 ((w64 ((w64 (x2.1 + x2.2.1)) + 1)).tdiv 2)) x2.2.2.l))))) (some (.out (x2.1, x2.2.2)))

noncomputable def ref01_common_l1 (p2 : Ref01Stripe) (x1 : (Int × Int × Ref01Stripe)) : Option (Stp (Int × Int × Ref01Stripe) (Int × Ref01Stripe)) :=
  cond (decide (x1.1 < x1.2.1)) ((ref01_meet (Ref01Stripe.mk x1.2.2.p x1.2.2.v x1.2.2.l x1.2.2.h 0 (w64 ((w64 (x1.1 + x1.2.1)).tdiv 2))) p2).bind fun v1 => cond v1 (some (.go (x1.1, (w64 ((w64 (x1.1 + x1.2.1)).tdiv 2)), (Ref01Stripe.mk x1.2.2.p x1.2.2.v x1.2.2.l x1.2.2.h 0 (w64 ((w64 (x1.1 + x1.2.1)).tdiv 2)))))) (some (.go ((w64 ((w64 ((w64 (x1.1 + x1.2.1)).tdiv 2)) + 1)), x1.2.1, (Ref01Stripe.mk x1.2.2.p x1.2.2.v x1.2.2.l x1.2.2.h 0 (w64 ((w64 (x1.1 + x1.2.1)).tdiv 2))))))) (some (.out (x1.1, x1.2.2)))
end Go.Abs.Curve

namespace Go.Abs.Curve
open Go Go.Abs

theorem curve_root_spec (n : Int) : ∃ y, curve_root n = some (y, y * y == n) ∧ 0 ≤ y ∧ y ≤ 67108864 ∧ (∀ m, 0 ≤ m → m < y → m * m < n) ∧ (y = 67108864 ∨ n ≤ y * y) := by
  have key := loop_inv (f := curve_root_l1 n) (fun x => 0 ≤ x.1 ∧ x.1 ≤ x.2 ∧ x.2 ≤ 67108864 ∧ (∀ m, 0 ≤ m → m < x.1 → m * m < n) ∧ (x.2 = 67108864 ∨ n ≤ x.2 * x.2)) (fun x => (x.2 - x.1).toNat)
    (fun y => 0 ≤ y ∧ y ≤ 67108864 ∧ (∀ m, 0 ≤ m → m < y → m * m < n) ∧ (y = 67108864 ∨ n ≤ y * y)) (by
      rintro ⟨lo, hi⟩ ⟨h1, h2, h3, h4, h5⟩
      dsimp only at h1 h2 h3 h4 h5
      unfold curve_root_l1
      dsimp only
      by_cases hlt : lo < hi
      · have e1 : w64 (lo + hi) = lo + hi := w64_id (by omega)
        have e2 : w64 ((lo + hi).tdiv 2) = (lo + hi) / 2 := by rw [Int.tdiv_eq_ediv_of_nonneg (by omega)]; exact w64_id (by omega)
        have hm : lo ≤ (lo + hi) / 2 ∧ (lo + hi) / 2 < hi := by omega
        generalize hmid : (lo + hi) / 2 = mid at *
        have hmm : mid * mid ≤ 67108864 * 67108864 := sq_le (by omega) (by omega)
        have hmm0 := sq_nonneg mid
        have e3 : w64 (mid * mid) = mid * mid := w64_id (by omega)
        have e4 : w64 (mid + 1) = mid + 1 := w64_id (by omega)
        simp only [e1, e2, e3, e4, hlt, decide_true, cond_true]
        by_cases hc : mid * mid < n
        · simp only [hc, decide_true, cond_true]
          refine ⟨_, rfl, ⟨by omega, by omega, h3, fun m hm0 hm1 => ?_, h5⟩, by dsimp only; omega⟩
          rcases Int.lt_or_le m mid with q | q
          · have := Int.mul_le_mul (show m ≤ mid by omega) (show m ≤ mid by omega) hm0 (by omega); omega
          · have : m = mid := by dsimp only at hm1; omega
            subst this; exact hc
        · simp only [hc, decide_false, cond_false]
          exact ⟨_, rfl, ⟨h1, by dsimp only; omega, by dsimp only; omega, h4, .inr (by dsimp only; omega)⟩, by dsimp only; omega⟩
      · simp only [hlt, decide_false, cond_false]
        obtain rfl : lo = hi := by omega
        exact ⟨_, rfl, h1, h3, h4, h5⟩) (0, 67108864) ⟨by decide, by decide, by decide, fun m h1 h2 => by dsimp only at h2; omega, .inl rfl⟩
  obtain ⟨y, hy, h1, h2, h3, h4⟩ := key
  refine ⟨y, ?_, h1, h2, h3, h4⟩
  have hmm : y * y ≤ 67108864 * 67108864 := sq_le (by omega) (by omega)
  have hmm0 := sq_nonneg y
  unfold curve_root
  rw [hy, Option.bind_some, w64_id (by omega)]
/-- The least number whose square is not less. -/
noncomputable def rt (n : Int) : Int := (curve_root_spec n).choose
theorem curve_root_rt (n : Int) : curve_root n = some (rt n, rt n * rt n == n) := (curve_root_spec n).choose_spec.1
theorem rt_nonneg (n : Int) : 0 ≤ rt n := (curve_root_spec n).choose_spec.2.1
theorem rt_min (n m : Int) (h1 : 0 ≤ m) (h2 : m < rt n) : m * m < n := (curve_root_spec n).choose_spec.2.2.2.1 m h1 h2
theorem rt_max (n : Int) : rt n = 67108864 ∨ n ≤ rt n * rt n := (curve_root_spec n).choose_spec.2.2.2.2
theorem rt_sq {l : Int} (h0 : 0 ≤ l) (h1 : l ≤ 67108864) : rt (l * l) = l := by
  rcases Int.lt_trichotomy (rt (l * l)) l with q | q | q
  · rcases rt_max (l * l) with h | h
    · omega
    · have h2 := rt_nonneg (l * l)
      have := Int.mul_lt_mul' (show rt (l * l) ≤ l by omega) q h2 (by omega); omega
  · exact q
  · have := rt_min (l * l) l h0 q; omega

theorem ref01_root_spec (n : Int) (h0 : 0 ≤ n) (h1 : n < 18014398509481984) : ∃ r, ref01_root n = some r ∧ 0 ≤ r ∧ r < 134217728 ∧ r * r ≤ n ∧ n < (r + 1) * (r + 1) := by
  have key := loop_inv (f := ref01_root_l1 n) (fun x => 0 ≤ x.1 ∧ x.1 * x.1 ≤ n ∧ ((∃ k : Nat, k ≤ 26 ∧ x.2 = 2 ^ k ∧ x.1 + 2 * 2 ^ k ≤ 134217728 ∧ n < (x.1 + 2 * 2 ^ k) * (x.1 + 2 * 2 ^ k)) ∨ (x.2 = 0 ∧ x.1 < 134217728 ∧ n < (x.1 + 1) * (x.1 + 1)))) (fun x => x.2.toNat)
    (fun r => 0 ≤ r ∧ r < 134217728 ∧ r * r ≤ n ∧ n < (r + 1) * (r + 1)) (by
      rintro ⟨r, bit⟩ ⟨q1, q2, q3⟩
      dsimp only at q1 q2 q3
      unfold ref01_root_l1
      dsimp only
      rcases q3 with ⟨k, hk, rfl, q4, q5⟩ | ⟨rfl, q4, q5⟩
      · have hp : (0 : Int) < 2 ^ k := Int.pow_pos (by decide)
        generalize hb : (2 : Int) ^ k = b at *
        have e1 : w64 (r + b) = r + b := w64_id (by omega)
        have hmm : (r + b) * (r + b) ≤ 134217728 * 134217728 := sq_le (by omega) (by omega)
        have hmm0 := sq_nonneg (r + b)
        have e2 : w64 ((r + b) * (r + b)) = (r + b) * (r + b) := w64_id (by omega)
        have e3 : w64 (b.tdiv 2) = b / 2 := by rw [Int.tdiv_eq_ediv_of_nonneg (by omega)]; exact w64_id (by omega)
        have hb0 : b > 0 := by omega
        simp only [e1, e2, e3, hb0, decide_true, cond_true]
        have hnext : ∀ r', 0 ≤ r' → r' * r' ≤ n → r' + b ≤ 134217728 → n < (r' + b) * (r' + b) → (∃ j : Nat, j ≤ 26 ∧ b / 2 = 2 ^ j ∧ r' + 2 * 2 ^ j ≤ 134217728 ∧ n < (r' + 2 * 2 ^ j) * (r' + 2 * 2 ^ j)) ∨ (b / 2 = 0 ∧ r' < 134217728 ∧ n < (r' + 1) * (r' + 1)) := by
          intro r' a1 a2 a3 a4
          cases k with
          | zero =>
            have : b = 1 := by rw [← hb]; rfl
            subst this
            exact .inr ⟨by decide, by omega, a4⟩
          | succ j =>
            have hj : b = 2 * 2 ^ j := by rw [← hb, Int.pow_succ]; omega
            refine .inl ⟨j, by omega, by omega, by omega, by rw [← hj]; exact a4⟩
        by_cases hc : (r + b) * (r + b) ≤ n
        · simp only [hc, decide_true, cond_true]
          refine ⟨_, rfl, ⟨by dsimp only; omega, hc, hnext (r + b) (by omega) hc (by omega) (by rw [show r + b + b = r + 2 * b by omega]; exact q5)⟩, by dsimp only; omega⟩
        · simp only [hc, decide_false, cond_false]
          exact ⟨_, rfl, ⟨q1, q2, hnext r q1 q2 (by omega) (by omega)⟩, by dsimp only; omega⟩
      · simp only [show ¬ (0 : Int) > 0 by decide, decide_false, cond_false]
        exact ⟨_, rfl, q1, q4, q2, q5⟩) (0, 67108864) ⟨by decide, by dsimp only; omega, .inl ⟨26, by decide, by decide, by decide, by dsimp only; omega⟩⟩
  obtain ⟨r, hr, a⟩ := key
  exact ⟨r, by unfold ref01_root; rw [hr]; rfl, a⟩
theorem ref01_root_rt {n : Int} (h0 : 0 ≤ n) (h1 : n ≤ 4503599627370496) : ∃ r, ref01_root n = some r ∧ 0 ≤ r ∧ r < 134217728 ∧ (r * r = n ↔ rt n * rt n = n) ∧ (r * r = n → r = rt n) := by
  obtain ⟨r, hr, a1, a2, a3, a4⟩ := ref01_root_spec n h0 (by omega)
  have hr26 : r ≤ 67108864 := by
    rcases Int.lt_or_le r 67108865 with q | q
    · omega
    · have := Int.mul_le_mul q q (by decide) (by omega); omega
  refine ⟨r, hr, a1, a2, ⟨fun h => ?_, fun h => ?_⟩, fun h => ?_⟩
  · rw [← h, rt_sq a1 hr26]
  · rcases Int.lt_trichotomy r (rt n) with q | q | q
    · have := Int.mul_le_mul (show r + 1 ≤ rt n by omega) (show r + 1 ≤ rt n by omega) (by omega) (rt_nonneg n); omega
    · rw [q]; exact h
    · have h2 := rt_nonneg n
      have := Int.mul_lt_mul' (show rt n ≤ r by omega) q h2 (by omega); omega
  · rw [← h, rt_sq a1 hr26]
end Go.Abs.Curve

namespace Go.Abs.Curve
open Go Go.Abs

def okS (p : Spot) : Bool := decide (-16777216 ≤ p.X) && decide (p.X ≤ 16777216) && decide (-16777216 ≤ p.Y) && decide (p.Y ≤ 16777216)
theorem okS_iff {p : Spot} : okS p = true ↔ -16777216 ≤ p.X ∧ p.X ≤ 16777216 ∧ -16777216 ≤ p.Y ∧ p.Y ≤ 16777216 := by simp [okS, and_assoc]
theorem fair_cond (p : Spot) : ((decide ((mm2 false p.X p.Y) < (-16777216))) || (decide ((mm2 true p.X p.Y) > 16777216))) = !okS p := by
  rw [mm2_min, mm2_max]
  cases h : okS p with
  | true => have := okS_iff.1 h; simp; omega
  | false =>
    have : ¬ (-16777216 ≤ p.X ∧ p.X ≤ 16777216 ∧ -16777216 ≤ p.Y ∧ p.Y ≤ 16777216) := fun q => by rw [okS_iff.2 q] at h; cases h
    simp; omega
theorem curve_fair_go (l : List Spot) (hl : l.length ≤ 1000000) : ∀ (r : List Spot) (i : Nat), l.drop i = r → loop (curve_fair_l1 l) (i : Int) = some (if r.all okS then .inl () else .inr false) := by
  intro r
  induction r with
  | nil =>
    intro i hi
    have := drop_nil hi
    refine loop_out ?_
    unfold curve_fair_l1
    simp only [show ¬ (i : Int) < l.length by omega, decide_false, cond_false, List.all_nil, if_true]
  | cons p r ih =>
    intro i hi
    have hlt := drop_lt hi
    have hstep : curve_fair_l1 l (i : Int) = if okS p then some (.go ((i + 1 : Nat) : Int)) else some (.out (.inr false)) := by
      unfold curve_fair_l1
      simp only [show (i : Int) < l.length by omega, decide_true, cond_true, geti_drop hi, Option.bind_some, fair_cond]
      cases h : okS p with
      | true => simp only [Bool.not_true, cond_false, if_true]; rw [w64_id (by omega)]; rfl
      | false => simp
    cases h : okS p with
    | true =>
      rw [h, if_pos rfl] at hstep
      rw [loop_go hstep, ih (i + 1) (drop_succ hi)]
      simp [h]
    | false =>
      rw [h] at hstep
      rw [loop_out hstep]
      simp [h]
theorem curve_fair_eq (l : List Spot) (hl : l.length ≤ 1000000) : curve_fair l = some (l.all okS) := by
  unfold curve_fair
  have := curve_fair_go l hl l 0 (by simp)
  rw [show ((0 : Nat) : Int) = 0 from rfl] at this
  rw [this]
  cases l.all okS <;> rfl
theorem ref01_Valid_eq (p : Spot) : ref01_Valid p = some (okS p) := by
  unfold ref01_Valid okS; rfl

def vec (p q : Spot) : CurveVector := ⟨q.X - p.X, q.Y - p.Y⟩
def dotv (v w : CurveVector) : Int := v.x * w.x + v.y * w.y
/-- A vector between valid spots. -/
def okV (v : CurveVector) : Prop := -33554432 ≤ v.x ∧ v.x ≤ 33554432 ∧ -33554432 ≤ v.y ∧ v.y ≤ 33554432
theorem okV_vec {p q : Spot} (hp : okS p = true) (hq : okS q = true) : okV (vec p q) := by
  have := okS_iff.1 hp; have := okS_iff.1 hq
  unfold okV vec; dsimp only; omega
theorem curve_from_eq {p q : Spot} (hp : okS p = true) (hq : okS q = true) : curve_from p q = some (vec p q) := by
  have := okS_iff.1 hp; have := okS_iff.1 hq
  unfold curve_from vec
  rw [w64_id (by omega), w64_id (by omega)]
theorem dot_bd {v w : CurveVector} (hv : okV v) (hw : okV w) : -2251799813685248 ≤ dotv v w ∧ dotv v w ≤ 2251799813685248 ∧ (-1125899906842624 ≤ v.x * w.x ∧ v.x * w.x ≤ 1125899906842624) ∧ -1125899906842624 ≤ v.y * w.y ∧ v.y * w.y ≤ 1125899906842624 := by
  obtain ⟨a1, a2, a3, a4⟩ := hv
  obtain ⟨b1, b2, b3, b4⟩ := hw
  have h1 := mul_bd ⟨a1, a2⟩ ⟨b1, b2⟩
  have h2 := mul_bd ⟨a3, a4⟩ ⟨b3, b4⟩
  unfold dotv
  omega
theorem curve_dot_eq {v w : CurveVector} (hv : okV v) (hw : okV w) : curve_vector_dot v w = some (dotv v w) := by
  have h := dot_bd hv hw
  unfold curve_vector_dot
  rw [w64_id (n := v.x * w.x) (by omega), w64_id (n := v.y * w.y) (by omega), w64_id (by unfold dotv at h; omega)]
  rfl
theorem dot_nonneg (v : CurveVector) : 0 ≤ dotv v v := by have := sq_nonneg v.x; have := sq_nonneg v.y; unfold dotv; omega

def vs (v : CurveVector) : Spot := ⟨v.x, v.y⟩
theorem ref01_Minus_eq {p q : Spot} (hp : okS p = true) (hq : okS q = true) : ref01_Minus q p = some (vs (vec p q)) := by
  have := okS_iff.1 hp; have := okS_iff.1 hq
  unfold ref01_Minus vec vs
  rw [w64_id (by omega), w64_id (by omega)]
theorem ref01_Dot_eq {v w : CurveVector} (hv : okV v) (hw : okV w) : ref01_Dot (vs v) (vs w) = some (dotv v w) := by
  have h := dot_bd hv hw
  unfold ref01_Dot vs
  dsimp only
  rw [w64_id (n := v.x * w.x) (by omega), w64_id (n := v.y * w.y) (by omega), w64_id (by unfold dotv at h; omega)]
  rfl

/-- The error of a chain of points, from a piece on; the piece ahead of it. -/
noncomputable def goM : Option CurveVector → List Spot → Int
  | last, p :: q :: r =>
    if rt (dotv (vec p q) (vec p q)) * rt (dotv (vec p q) (vec p q)) ≠ dotv (vec p q) (vec p q) then 3
    else if rt (dotv (vec p q) (vec p q)) < 1000 ∨ rt (dotv (vec p q) (vec p q)) > 1048576 then 2
    else match last with
      | some u => if dotv u (vec p q) ≤ 0 then 12 else goM (some (vec p q)) (q :: r)
      | none => goM (some (vec p q)) (q :: r)
  | _, _ => 0
theorem goM_cons (last : Option CurveVector) (p q : Spot) (r : List Spot) : goM last (p :: q :: r) =
    if rt (dotv (vec p q) (vec p q)) * rt (dotv (vec p q) (vec p q)) ≠ dotv (vec p q) (vec p q) then 3
    else if rt (dotv (vec p q) (vec p q)) < 1000 ∨ rt (dotv (vec p q) (vec p q)) > 1048576 then 2
    else match last with
      | some u => if dotv u (vec p q) ≤ 0 then 12 else goM (some (vec p q)) (q :: r)
      | none => goM (some (vec p q)) (q :: r) := by
  conv => lhs; unfold goM
noncomputable def checkM (l : List Spot) : Int := if l.length < 2 then 6 else if l.length > 16 then 5 else if l.all okS then goM none l else 2

theorem curve_Check_go (c : Curve) (hl : c.Pts.length ≤ 1000000) (hok : c.Pts.all okS = true) : ∀ (r : List Spot) (p : Spot) (i : Nat) (last : CurveVector), c.Pts.drop i = p :: r → okV last →
    loop (curve_Check_l1 c) ((i : Int), last) = some (if goM (if i = 0 then none else some last) (p :: r) = 0 then .inl () else .inr (goM (if i = 0 then none else some last) (p :: r))) := by
  intro r
  induction r with
  | nil =>
    intro p i last hi hlast
    have hlt := drop_lt hi
    have := drop_nil (drop_succ hi)
    refine loop_out ?_
    unfold curve_Check_l1
    dsimp only
    rw [w64_id (n := (c.Pts.length : Int) - 1) (by omega)]
    simp only [show ¬ (i : Int) < (c.Pts.length : Int) - 1 by omega, decide_false, cond_false, goM, if_true]
  | cons q r ih =>
    intro p i last hi hlast
    have hlt := drop_lt hi
    have hi1 := drop_succ hi
    have hlt1 := drop_lt hi1
    have hp : okS p = true := List.all_eq_true.1 hok p (List.mem_of_mem_drop (i := i) (by rw [hi]; simp))
    have hq : okS q = true := List.all_eq_true.1 hok q (List.mem_of_mem_drop (i := i) (by rw [hi]; simp))
    have hv := okV_vec hp hq
    have hg1 : geti c.Pts ((i : Int) + 1) = some q := by have := geti_drop hi1; simpa using this
    have hstep : curve_Check_l1 c ((i : Int), last) =
        if rt (dotv (vec p q) (vec p q)) * rt (dotv (vec p q) (vec p q)) ≠ dotv (vec p q) (vec p q) then some (.out (.inr 3))
        else if rt (dotv (vec p q) (vec p q)) < 1000 ∨ rt (dotv (vec p q) (vec p q)) > 1048576 then some (.out (.inr 2))
        else if i ≠ 0 ∧ dotv last (vec p q) ≤ 0 then some (.out (.inr 12)) else some (.go (((i + 1 : Nat) : Int), vec p q)) := by
      unfold curve_Check_l1
      dsimp only
      rw [w64_id (n := (c.Pts.length : Int) - 1) (by omega), w64_id (n := (i : Int) + 1) (by omega)]
      simp only [show (i : Int) < (c.Pts.length : Int) - 1 by omega, decide_true, cond_true, geti_drop hi, hg1, Option.bind_some, curve_from_eq hp hq, curve_dot_eq hv hv, curve_root_rt]
      by_cases h1 : rt (dotv (vec p q) (vec p q)) * rt (dotv (vec p q) (vec p q)) = dotv (vec p q) (vec p q)
      · simp only [h1, beq_self_eq_true, Bool.not_true, cond_false, ne_eq, not_true_eq_false, if_false]
        by_cases h2 : rt (dotv (vec p q) (vec p q)) < 1000 ∨ rt (dotv (vec p q) (vec p q)) > 1048576
        · rw [if_pos h2]
          have : (decide (rt (dotv (vec p q) (vec p q)) < 1000) || decide (rt (dotv (vec p q) (vec p q)) > 1048576)) = true := by simpa using h2
          rw [this]; rfl
        · rw [if_neg h2]
          have : (decide (rt (dotv (vec p q) (vec p q)) < 1000) || decide (rt (dotv (vec p q) (vec p q)) > 1048576)) = false := by simpa using h2
          rw [this]
          simp only [cond_false]
          by_cases h3 : i = 0
          · subst h3
            simp only [Int.natCast_zero, gt_iff_lt, Int.lt_irrefl, decide_false, cond_false, Bool.false_and, Option.bind_some, not_true_eq_false, false_and, if_false]
            rfl
          · have h4 : (i : Int) > 0 := by omega
            simp only [h4, decide_true, cond_true, curve_dot_eq hlast hv, Option.bind_some, Bool.true_and, h3, not_false_eq_true, true_and]
            by_cases h5 : dotv last (vec p q) ≤ 0 <;> simp [h5]
      · have : (rt (dotv (vec p q) (vec p q)) * rt (dotv (vec p q) (vec p q)) == dotv (vec p q) (vec p q)) = false := by simpa using h1
        simp only [this, Bool.not_false, cond_true, ne_eq, h1, not_false_eq_true, if_true]
    rw [goM_cons]
    by_cases h1 : rt (dotv (vec p q) (vec p q)) * rt (dotv (vec p q) (vec p q)) ≠ dotv (vec p q) (vec p q)
    · rw [if_pos h1] at hstep
      rw [loop_out hstep, if_pos h1]; rfl
    · rw [if_neg h1] at hstep ⊢
      by_cases h2 : rt (dotv (vec p q) (vec p q)) < 1000 ∨ rt (dotv (vec p q) (vec p q)) > 1048576
      · rw [if_pos h2] at hstep
        rw [loop_out hstep, if_pos h2]; rfl
      · rw [if_neg h2] at hstep ⊢
        by_cases h3 : i = 0
        · subst h3
          rw [if_neg (by simp)] at hstep
          rw [loop_go hstep, ih q (0 + 1) (vec p q) hi1 hv]
          simp
        · by_cases h5 : dotv last (vec p q) ≤ 0
          · rw [if_pos ⟨h3, h5⟩] at hstep
            rw [loop_out hstep]
            simp [h3, h5]
          · rw [if_neg (fun h => h5 h.2)] at hstep
            rw [loop_go hstep, ih q (i + 1) (vec p q) hi1 hv]
            simp [h3, h5]
theorem curve_Check_eq (c : Curve) (hl : c.Pts.length ≤ 1000000) : curve_Check c = some (checkM c.Pts) := by
  unfold curve_Check checkM
  by_cases h1 : c.Pts.length < 2
  · rw [if_pos h1, show decide ((c.Pts.length : Int) < 2) = true by simp; omega]; rfl
  · rw [if_neg h1, show decide ((c.Pts.length : Int) < 2) = false by simp; omega]
    simp only [cond_false]
    by_cases h2 : c.Pts.length > 16
    · rw [if_pos h2, show decide ((c.Pts.length : Int) > 16) = true by simp; omega]; rfl
    · rw [if_neg h2, show decide ((c.Pts.length : Int) > 16) = false by simp; omega]
      simp only [cond_false, curve_fair_eq c.Pts hl, Option.bind_some]
      cases h3 : c.Pts.all okS with
      | false => rfl
      | true =>
        simp only [Bool.not_true, cond_false, if_true]
        cases hp : c.Pts with
        | nil => rw [hp] at h1; simp at h1
        | cons p r =>
          have := curve_Check_go c hl h3 r p 0 ⟨0, 0⟩ (by rw [hp]; rfl) ⟨by decide, by decide, by decide, by decide⟩
          rw [if_pos rfl, show ((0 : Nat) : Int) = 0 from rfl] at this
          rw [this]
          by_cases h4 : goM none (p :: r) = 0
          · rw [if_pos h4, h4]; rfl
          · rw [if_neg h4]; rfl
end Go.Abs.Curve

namespace Go.Abs.Curve
open Go Go.Abs

theorem dotv_comm (v w : CurveVector) : dotv v w = dotv w v := by unfold dotv; rw [Int.mul_comm v.x, Int.mul_comm v.y]
theorem ref01_Check_go1 (c : Curve) (hl : c.Pts.length ≤ 1000000) : ∀ (r : List Spot) (i : Nat), c.Pts.drop i = r → loop (ref01_Check_l1 c) (i : Int) = some (if r.all okS then .inl () else .inr 2) := by
  intro r
  induction r with
  | nil =>
    intro i hi
    have := drop_nil hi
    refine loop_out ?_
    unfold ref01_Check_l1
    simp only [show ¬ (i : Int) < c.Pts.length by omega, decide_false, cond_false, List.all_nil, if_true]
  | cons p r ih =>
    intro i hi
    have hlt := drop_lt hi
    have hstep : ref01_Check_l1 c (i : Int) = if okS p then some (.go ((i + 1 : Nat) : Int)) else some (.out (.inr 2)) := by
      unfold ref01_Check_l1
      simp only [show (i : Int) < c.Pts.length by omega, decide_true, cond_true, geti_drop hi, Option.bind_some, ref01_Valid_eq]
      cases h : okS p with
      | true => simp only [Bool.not_true, cond_false, if_true]; rw [w64_id (by omega)]; rfl
      | false => simp
    cases h : okS p with
    | true =>
      rw [h, if_pos rfl] at hstep
      rw [loop_go hstep, ih (i + 1) (drop_succ hi)]
      simp [h]
    | false =>
      rw [h] at hstep
      rw [loop_out hstep]
      simp [h]
theorem sq_dot {v : CurveVector} (hv : okV v) : ∃ l, ref01_root (dotv v v) = some l ∧ (w64 (l * l) != dotv v v) = !(rt (dotv v v) * rt (dotv v v) == dotv v v) ∧ (rt (dotv v v) * rt (dotv v v) = dotv v v → l = rt (dotv v v)) := by
  have hb := dot_bd hv hv
  obtain ⟨l, h1, h2, h3, h4, h5⟩ := ref01_root_rt (dot_nonneg v) (by omega)
  have hmm : l * l ≤ 134217728 * 134217728 := sq_le (by omega) (by omega)
  have hmm0 := sq_nonneg l
  refine ⟨l, h1, ?_, fun h => h5 (h4.2 h)⟩
  rw [w64_id (by omega)]
  by_cases h : l * l = dotv v v
  · simp [h, h4.1 h]
  · have h' : ¬ rt (dotv v v) * rt (dotv v v) = dotv v v := fun q => h (h4.2 q)
    have e1 : (l * l != dotv v v) = true := bne_iff_ne.2 h
    have e2 : (rt (dotv v v) * rt (dotv v v) == dotv v v) = false := beq_eq_false_iff_ne.2 h'
    rw [e1, e2]; rfl
theorem ref01_Check_go2 (c : Curve) (hl : c.Pts.length ≤ 1000000) (hok : c.Pts.all okS = true) : ∀ (r : List Spot) (p : Spot) (i : Nat) (last : Option CurveVector), c.Pts.drop i = p :: r →
    (i = 0 ∧ last = none ∨ ∃ j a, i = j + 1 ∧ c.Pts.drop j = a :: p :: r ∧ last = some (vec a p)) →
    loop (ref01_Check_l2 c) (i : Int) = some (if goM last (p :: r) = 0 then .inl () else .inr (goM last (p :: r))) := by
  intro r
  induction r with
  | nil =>
    intro p i last hi hlast
    have hlt := drop_lt hi
    have := drop_nil (drop_succ hi)
    refine loop_out ?_
    unfold ref01_Check_l2
    rw [w64_id (n := (i : Int) + 1) (by omega)]
    simp only [show ¬ (i : Int) + 1 < (c.Pts.length : Int) by omega, decide_false, cond_false, goM, if_true]
  | cons q r ih =>
    intro p i last hi hlast
    have hlt := drop_lt hi
    have hi1 := drop_succ hi
    have hlt1 := drop_lt hi1
    have hp : okS p = true := List.all_eq_true.1 hok p (List.mem_of_mem_drop (i := i) (by rw [hi]; simp))
    have hq : okS q = true := List.all_eq_true.1 hok q (List.mem_of_mem_drop (i := i) (by rw [hi]; simp))
    have hv := okV_vec hp hq
    have hg1 : geti c.Pts ((i : Int) + 1) = some q := by have := geti_drop hi1; simpa using this
    obtain ⟨l, hl1, hl2, hl3⟩ := sq_dot hv
    have hstep : ref01_Check_l2 c (i : Int) =
        if rt (dotv (vec p q) (vec p q)) * rt (dotv (vec p q) (vec p q)) ≠ dotv (vec p q) (vec p q) then some (.out (.inr 3))
        else if rt (dotv (vec p q) (vec p q)) < 1000 ∨ rt (dotv (vec p q) (vec p q)) > 1048576 then some (.out (.inr 2))
        else match last with
          | some u => if dotv u (vec p q) ≤ 0 then some (.out (.inr 12)) else some (.go ((i + 1 : Nat) : Int))
          | none => some (.go ((i + 1 : Nat) : Int)) := by
      unfold ref01_Check_l2
      rw [w64_id (n := (i : Int) + 1) (by omega)]
      simp only [show (i : Int) + 1 < (c.Pts.length : Int) by omega, decide_true, cond_true, geti_drop hi, hg1, Option.bind_some, ref01_Minus_eq hp hq, ref01_Dot_eq hv hv, hl1, hl2]
      by_cases h1 : rt (dotv (vec p q) (vec p q)) * rt (dotv (vec p q) (vec p q)) = dotv (vec p q) (vec p q)
      · simp only [h1, beq_self_eq_true, Bool.not_true, cond_false, ne_eq, not_true_eq_false, if_false, hl3 h1]
        by_cases h2 : rt (dotv (vec p q) (vec p q)) < 1000 ∨ rt (dotv (vec p q) (vec p q)) > 1048576
        · rw [if_pos h2]
          have : (decide (rt (dotv (vec p q) (vec p q)) < 1000) || decide (rt (dotv (vec p q) (vec p q)) > 1048576)) = true := by simpa using h2
          rw [this]; rfl
        · rw [if_neg h2]
          have : (decide (rt (dotv (vec p q) (vec p q)) < 1000) || decide (rt (dotv (vec p q) (vec p q)) > 1048576)) = false := by simpa using h2
          rw [this]
          simp only [cond_false]
          rcases hlast with ⟨rfl, rfl⟩ | ⟨j, a, rfl, hj, rfl⟩
          · simp only [Int.natCast_zero, gt_iff_lt, Int.lt_irrefl, decide_false, cond_false, Bool.false_and, Option.bind_some]
            rfl
          · have h4 : (((j + 1 : Nat) : Int)) > 0 := by omega
            have ha : okS a = true := List.all_eq_true.1 hok a (List.mem_of_mem_drop (i := j) (by rw [hj]; simp))
            have hva := okV_vec ha hp
            have hgj : geti c.Pts (w64 (((j + 1 : Nat) : Int) - 1)) = some a := by
              rw [w64_id (by omega), show (((j + 1 : Nat) : Int) - 1) = (j : Int) by omega]
              exact geti_drop hj
            simp only [h4, decide_true, cond_true, hgj, Option.bind_some, ref01_Minus_eq ha hp, ref01_Dot_eq hv hva, Bool.true_and]
            rw [dotv_comm (vec p q) (vec a p)]
            by_cases h5 : dotv (vec a p) (vec p q) ≤ 0
            · simp [h5]
            · simp [h5]
      · have : (rt (dotv (vec p q) (vec p q)) * rt (dotv (vec p q) (vec p q)) == dotv (vec p q) (vec p q)) = false := by simpa using h1
        simp only [this, Bool.not_false, cond_true, ne_eq, h1, not_false_eq_true, if_true]
    rw [goM_cons]
    have hrec := ih q (i + 1) (some (vec p q)) hi1 (.inr ⟨i, p, rfl, hi, rfl⟩)
    by_cases h1 : rt (dotv (vec p q) (vec p q)) * rt (dotv (vec p q) (vec p q)) ≠ dotv (vec p q) (vec p q)
    · rw [if_pos h1] at hstep
      rw [loop_out hstep, if_pos h1]; rfl
    · rw [if_neg h1] at hstep ⊢
      by_cases h2 : rt (dotv (vec p q) (vec p q)) < 1000 ∨ rt (dotv (vec p q) (vec p q)) > 1048576
      · rw [if_pos h2] at hstep
        rw [loop_out hstep, if_pos h2]; rfl
      · rw [if_neg h2] at hstep ⊢
        cases last with
        | none => rw [loop_go hstep, hrec]
        | some u =>
          dsimp only at hstep ⊢
          by_cases h5 : dotv u (vec p q) ≤ 0
          · rw [if_pos h5] at hstep
            rw [loop_out hstep]; simp [h5]
          · rw [if_neg h5] at hstep
            rw [loop_go hstep, hrec]; simp [h5]
theorem ref01_Check_eq (c : Curve) (hl : c.Pts.length ≤ 1000000) : ref01_Check c = some (checkM c.Pts) := by
  unfold ref01_Check checkM
  by_cases h1 : c.Pts.length < 2
  · rw [if_pos h1, show decide ((c.Pts.length : Int) < 2) = true by simp; omega]; rfl
  · rw [if_neg h1, show decide ((c.Pts.length : Int) < 2) = false by simp; omega]
    simp only [cond_false]
    by_cases h2 : c.Pts.length > 16
    · rw [if_pos h2, show decide ((c.Pts.length : Int) > 16) = true by simp; omega]; rfl
    · rw [if_neg h2, show decide ((c.Pts.length : Int) > 16) = false by simp; omega]
      have hg := ref01_Check_go1 c hl c.Pts 0 (by simp)
      rw [show ((0 : Nat) : Int) = 0 from rfl] at hg
      simp only [cond_false, hg]
      cases h3 : c.Pts.all okS with
      | false => rfl
      | true =>
        simp only [if_true, thenS]
        cases hp : c.Pts with
        | nil => rw [hp] at h1; simp at h1
        | cons p r =>
          have := ref01_Check_go2 c hl h3 r p 0 none (by rw [hp]; rfl) (.inl ⟨rfl, rfl⟩)
          rw [show ((0 : Nat) : Int) = 0 from rfl] at this
          rw [this]
          by_cases h4 : goM none (p :: r) = 0
          · rw [if_pos h4, h4]
          · rw [if_neg h4]
/-- What a valid chain is. -/
inductive Good : Option CurveVector → List Spot → Prop
  | one (last : Option CurveVector) (p : Spot) : Good last [p]
  | cons (last : Option CurveVector) (p q : Spot) (r : List Spot) (h1 : rt (dotv (vec p q) (vec p q)) * rt (dotv (vec p q) (vec p q)) = dotv (vec p q) (vec p q)) (h2 : 1000 ≤ rt (dotv (vec p q) (vec p q))) (h3 : rt (dotv (vec p q) (vec p q)) ≤ 1048576)
      (h4 : ∀ u, last = some u → 0 < dotv u (vec p q)) (h : Good (some (vec p q)) (q :: r)) : Good last (p :: q :: r)
theorem good_of_goM : ∀ (r : List Spot) (p : Spot) (last : Option CurveVector), goM last (p :: r) = 0 → Good last (p :: r) := by
  intro r
  induction r with
  | nil => intro p last _; exact .one _ _
  | cons q r ih =>
    intro p last h
    rw [goM_cons] at h
    split at h
    · cases h
    · rename_i h1
      split at h
      · cases h
      · rename_i h2
        have h1 : rt (dotv (vec p q) (vec p q)) * rt (dotv (vec p q) (vec p q)) = dotv (vec p q) (vec p q) := by simpa using h1
        cases last with
        | none => exact .cons _ _ _ _ h1 (by omega) (by omega) (fun u hu => by cases hu) (ih q _ h)
        | some u =>
          dsimp only at h
          split at h
          · cases h
          · exact .cons _ _ _ _ h1 (by omega) (by omega) (fun u' hu => by cases hu; omega) (ih q _ h)
theorem goM_of_good {last : Option CurveVector} {l : List Spot} (h : Good last l) : goM last l = 0 := by
  induction h with
  | one => rfl
  | cons last p q r h1 h2 h3 h4 h ih =>
    rw [goM_cons, if_neg (by simpa using h1), if_neg (by omega)]
    cases last with
    | none => exact ih
    | some u => dsimp only; rw [if_neg (by have := h4 u rfl; omega)]; exact ih
structure Valid (l : List Spot) : Prop where
  two : 2 ≤ l.length
  most : l.length ≤ 16
  ok : l.all okS = true
  good : Good none l
theorem checkM_zero {l : List Spot} : checkM l = 0 ↔ Valid l := by
  unfold checkM
  constructor
  · intro h
    split at h
    · cases h
    · rename_i h1
      split at h
      · cases h
      · rename_i h2
        split at h
        · rename_i h3
          cases l with
          | nil => simp at h1
          | cons p r => exact ⟨by omega, by omega, h3, good_of_goM r p none h⟩
        · cases h
  · rintro ⟨h1, h2, h3, h4⟩
    rw [if_neg (by omega), if_neg (by omega), if_pos h3]
    exact goM_of_good h4
end Go.Abs.Curve

namespace Go.Abs.Curve
open Go Go.Abs

/-- The pieces of a chain: the number, the piece. -/
noncomputable def piecesM : Nat → Int → List Spot → List (Int × CurvePiece)
  | i, s, p :: q :: r => ((i : Int), ⟨p, vec p q, rt (dotv (vec p q) (vec p q)), s⟩) :: piecesM (i + 1) (w64 (s + rt (dotv (vec p q) (vec p q)))) (q :: r)
  | _, _, _ => []
theorem piecesM_cons (i : Nat) (s : Int) (p q : Spot) (r : List Spot) : piecesM i s (p :: q :: r) = ((i : Int), ⟨p, vec p q, rt (dotv (vec p q) (vec p q)), s⟩) :: piecesM (i + 1) (w64 (s + rt (dotv (vec p q) (vec p q)))) (q :: r) := by conv => lhs; unfold piecesM
theorem piecesGo_eq (pts : List Spot) (hok : pts.all okS = true) : ∀ (r : List Spot) (p : Spot) (i : Nat) (s : Int), pts.drop i = p :: r → piecesGo pts r.length i s = some (piecesM i s (p :: r)) := by
  intro r
  induction r with
  | nil => intro p i s _; rfl
  | cons q r ih =>
    intro p i s hi
    have hi1 := drop_succ hi
    have hp : okS p = true := List.all_eq_true.1 hok p (List.mem_of_mem_drop (i := i) (by rw [hi]; simp))
    have hq : okS q = true := List.all_eq_true.1 hok q (List.mem_of_mem_drop (i := i) (by rw [hi]; simp))
    have hv := okV_vec hp hq
    have h0 : pts[i]? = some p := by have := congrArg (fun z => z[0]?) hi; simpa using this
    have h1 : pts[i + 1]? = some q := by have := congrArg (fun z => z[0]?) hi1; simpa using this
    rw [List.length_cons, piecesGo, h0, h1]
    simp only [Option.bind_some, curve_from_eq hp hq, curve_dot_eq hv hv, curve_root_rt]
    rw [ih q (i + 1) _ hi1, piecesM_cons]
    rfl
theorem piecesC_eq {pts : List Spot} (h : Valid pts) : piecesC pts = some (piecesM 0 0 pts) := by
  unfold piecesC
  have := h.most
  rw [if_pos (by omega)]
  cases hp : pts with
  | nil => have := h.two; rw [hp] at this; simp at this
  | cons p r => exact piecesGo_eq (p :: r) (by rw [← hp]; exact h.ok) r p 0 0 rfl
/-- The lengths. -/
noncomputable def lens : List Spot → List Int
  | p :: q :: r => rt (dotv (vec p q) (vec p q)) :: lens (q :: r)
  | _ => []
theorem lens_cons (p q : Spot) (r : List Spot) : lens (p :: q :: r) = rt (dotv (vec p q) (vec p q)) :: lens (q :: r) := by conv => lhs; unfold lens
theorem lens_length : ∀ (r : List Spot) (p : Spot), (lens (p :: r)).length = r.length
  | [], _ => rfl
  | q :: r, p => by rw [lens_cons, List.length_cons, lens_length r q, List.length_cons]
theorem piecesM_lens : ∀ (r : List Spot) (p : Spot) (i : Nat) (s : Int), (piecesM i s (p :: r)).map (·.2.l) = lens (p :: r)
  | [], _, _, _ => rfl
  | q :: r, p, i, s => by rw [piecesM_cons, lens_cons, List.map_cons, piecesM_lens r q]
theorem pieces_loop : ∀ (L : List (Int × CurvePiece)) (out : List Int), out.length + L.length ≤ 1000000000 → loopL curve_Pieces_l1 (fun x => x) L out = some (out ++ L.map (·.2.l)) := by
  intro L
  induction L with
  | nil => intro out _; simp [loopL]
  | cons a L ih =>
    intro out h
    simp only [List.length_cons] at h
    have : curve_Pieces_l1 out a = some (.go (out ++ [a.2.l])) := by
      unfold curve_Pieces_l1
      rw [appc_ok (by simp; omega)]; rfl
    rw [loopL, this]
    dsimp only
    rw [ih _ (by simp; omega)]
    simp
theorem curve_Pieces_eq (c : Curve) (hl : c.Pts.length ≤ 1000000) : curve_Pieces c = some (if checkM c.Pts = 0 then lens c.Pts else []) := by
  unfold curve_Pieces
  rw [curve_Check_eq c hl, Option.bind_some]
  by_cases h : checkM c.Pts = 0
  · rw [if_pos h, h]
    have hv := checkM_zero.1 h
    have := hv.most
    simp only [bne_self_eq_false, cond_false, piecesC_eq hv, Option.bind_some]
    cases hp : c.Pts with
    | nil => have := hv.two; rw [hp] at this; simp at this
    | cons p r =>
      have e := piecesM_lens r p 0 0
      rw [pieces_loop _ _ (by
        have := congrArg List.length e
        rw [List.length_map, lens_length] at this
        rw [this]; rw [hp] at hl; simp at hl ⊢; omega)]
      rw [e]; rfl
  · rw [if_neg h, show (checkM c.Pts != 0) = true from bne_iff_ne.2 h]; rfl

theorem ref01_pieces_loop (c : Curve) (hl : c.Pts.length ≤ 1000000) (hok : c.Pts.all okS = true) : ∀ (r : List Spot) (p : Spot) (i : Nat) (out : List Int) (last : Option CurveVector), c.Pts.drop i = p :: r → Good last (p :: r) → out.length + r.length ≤ 1000000 →
    loop (ref01_Pieces_l1 c) (out, (i : Int)) = some (out ++ lens (p :: r)) := by
  intro r
  induction r with
  | nil =>
    intro p i out last hi _ _
    have hlt := drop_lt hi
    have := drop_nil (drop_succ hi)
    refine loop_out ?_
    unfold ref01_Pieces_l1
    dsimp only
    rw [w64_id (n := (i : Int) + 1) (by omega)]
    simp only [show ¬ (i : Int) + 1 < (c.Pts.length : Int) by omega, decide_false, cond_false, lens, List.append_nil]
  | cons q r ih =>
    intro p i out last hi hg ho
    have hlt := drop_lt hi
    have hi1 := drop_succ hi
    have hlt1 := drop_lt hi1
    have hp : okS p = true := List.all_eq_true.1 hok p (List.mem_of_mem_drop (i := i) (by rw [hi]; simp))
    have hq : okS q = true := List.all_eq_true.1 hok q (List.mem_of_mem_drop (i := i) (by rw [hi]; simp))
    have hv := okV_vec hp hq
    have hg1 : geti c.Pts ((i : Int) + 1) = some q := by have := geti_drop hi1; simpa using this
    obtain ⟨l, hl1, hl2, hl3⟩ := sq_dot hv
    cases hg with
    | cons _ _ _ _ h1 h2 h3 h4 hg =>
      have hll := hl3 h1
      subst hll
      simp only [List.length_cons] at ho
      have hstep : ref01_Pieces_l1 c (out, (i : Int)) = some (.go (out ++ [rt (dotv (vec p q) (vec p q))], ((i + 1 : Nat) : Int))) := by
        unfold ref01_Pieces_l1
        dsimp only
        rw [w64_id (n := (i : Int) + 1) (by omega)]
        simp only [show (i : Int) + 1 < (c.Pts.length : Int) by omega, decide_true, cond_true, geti_drop hi, hg1, Option.bind_some, ref01_Minus_eq hp hq, ref01_Dot_eq hv hv, hl1]
        rw [appc_ok (by simp; omega)]
        rfl
      rw [loop_go hstep, ih q (i + 1) _ _ hi1 hg (by simp; omega), lens_cons]
      simp
theorem ref01_Pieces_eq (c : Curve) (hl : c.Pts.length ≤ 1000000) : ref01_Pieces c = some (if checkM c.Pts = 0 then lens c.Pts else []) := by
  unfold ref01_Pieces
  rw [ref01_Check_eq c hl, Option.bind_some]
  by_cases h : checkM c.Pts = 0
  · rw [if_pos h, h]
    have hv := checkM_zero.1 h
    simp only [bne_self_eq_false, cond_false]
    cases hp : c.Pts with
    | nil => have := hv.two; rw [hp] at this; simp at this
    | cons p r =>
      have := ref01_pieces_loop c hl hv.ok r p 0 [] none (by rw [hp]; rfl) (by rw [← hp]; exact hv.good) (by rw [hp] at hl; simp at hl ⊢; omega)
      rw [show ((0 : Nat) : Int) = 0 from rfl] at this
      rw [this]; rfl
  · rw [if_neg h, show (checkM c.Pts != 0) = true from bne_iff_ne.2 h]; rfl

/-- A sum, as the programs take it. -/
def sumW : Int → List Int → Int
  | s, [] => s
  | s, a :: l => sumW (w64 (s + a)) l
theorem curve_Length_loop (l : List Int) (hl : l.length ≤ 1000000) : ∀ (r : List Int) (i : Nat) (s : Int), l.drop i = r → loop (curve_Length_l1 l) (s, (i : Int)) = some (sumW s r) := by
  intro r
  induction r with
  | nil =>
    intro i s hi
    have := drop_nil hi
    refine loop_out ?_
    unfold curve_Length_l1
    simp only [show ¬ (i : Int) < l.length by omega, decide_false, cond_false, sumW]
  | cons a r ih =>
    intro i s hi
    have hlt := drop_lt hi
    have hstep : curve_Length_l1 l (s, (i : Int)) = some (.go (w64 (s + a), ((i + 1 : Nat) : Int))) := by
      unfold curve_Length_l1
      simp only [show (i : Int) < l.length by omega, decide_true, cond_true, geti_drop hi, Option.bind_some]
      rw [w64_id (n := (i : Int) + 1) (by omega)]; rfl
    rw [loop_go hstep, ih (i + 1) _ (drop_succ hi), sumW]
theorem ref01_Length_loop (l : List Int) (hl : l.length ≤ 1000000) : ∀ (r : List Int) (i : Nat) (s : Int), l.drop i = r → loop (ref01_Length_l1 l) (s, (i : Int)) = some (sumW s r) := by
  intro r
  induction r with
  | nil =>
    intro i s hi
    have := drop_nil hi
    refine loop_out ?_
    unfold ref01_Length_l1
    simp only [show ¬ (i : Int) < l.length by omega, decide_false, cond_false, sumW]
  | cons a r ih =>
    intro i s hi
    have hlt := drop_lt hi
    have hstep : ref01_Length_l1 l (s, (i : Int)) = some (.go (w64 (s + a), ((i + 1 : Nat) : Int))) := by
      unfold ref01_Length_l1
      simp only [show (i : Int) < l.length by omega, decide_true, cond_true, geti_drop hi, Option.bind_some]
      rw [w64_id (n := (i : Int) + 1) (by omega)]; rfl
    rw [loop_go hstep, ih (i + 1) _ (drop_succ hi), sumW]
noncomputable def piecesL (c : Curve) : List Int := if checkM c.Pts = 0 then lens c.Pts else []
theorem lens_le : ∀ l : List Spot, (lens l).length ≤ l.length
  | [] => by simp [lens]
  | p :: r => by rw [lens_length]; simp
theorem piecesL_le (c : Curve) : (piecesL c).length ≤ c.Pts.length := by
  unfold piecesL
  split
  · exact lens_le _
  · simp
theorem curve_Length_eq (c : Curve) (hl : c.Pts.length ≤ 1000000) : curve_Length c = some (sumW 0 (piecesL c)) := by
  unfold curve_Length
  rw [curve_Pieces_eq c hl, Option.bind_some]
  have := piecesL_le c
  have h := curve_Length_loop (piecesL c) (by omega) (piecesL c) 0 0 (by simp)
  rw [show ((0 : Nat) : Int) = 0 from rfl] at h
  show (loop (curve_Length_l1 (piecesL c)) (0, 0)).bind _ = _
  rw [h]; rfl
theorem ref01_Length_eq (c : Curve) (hl : c.Pts.length ≤ 1000000) : ref01_Length c = some (sumW 0 (piecesL c)) := by
  unfold ref01_Length
  rw [ref01_Pieces_eq c hl, Option.bind_some]
  have := piecesL_le c
  have h := ref01_Length_loop (piecesL c) (by omega) (piecesL c) 0 0 (by simp)
  rw [show ((0 : Nat) : Int) = 0 from rfl] at h
  show (loop (ref01_Length_l1 (piecesL c)) (0, 0)).bind _ = _
  rw [h]; rfl
end Go.Abs.Curve

namespace Go.Abs.Curve
open Go Go.Abs

theorem sameLongs_go (a b : List Int) (hl : a.length ≤ 1000000) : ∀ (n : Nat) (i : Nat), a.length - i = n → (∀ j, j < i → a[j]? = b[j]?) → i ≤ a.length → i ≤ b.length →
    loop (kit_SameLongs_l1 a b) (i : Int) = some (if a.take (min a.length b.length) = b.take (min a.length b.length) then .inl () else .inr false) := by
  intro n
  induction n with
  | zero =>
    intro i hi hj h1 h2
    have hia : i = a.length := by omega
    subst hia
    have : kit_SameLongs_l1 a b (a.length : Int) = some (.out (.inl ())) := by
      unfold kit_SameLongs_l1
      simp only [Int.lt_irrefl, decide_false, Bool.false_and, cond_false]
    rw [loop_out this]
    have e : a.take (min a.length b.length) = b.take (min a.length b.length) := by
      rw [Nat.min_eq_left h2]
      apply List.ext_getElem?
      intro j
      rw [List.getElem?_take, List.getElem?_take]
      split
      · exact hj j ‹_›
      · rfl
    rw [if_pos e]
  | succ n ih =>
    intro i hi hj h1 h2
    have hlt : i < a.length := by omega
    by_cases hb : i < b.length
    · have hstep : kit_SameLongs_l1 a b (i : Int) = if a[i] = b[i] then some (.go ((i + 1 : Nat) : Int)) else some (.out (.inr false)) := by
        unfold kit_SameLongs_l1
        simp only [show (i : Int) < a.length by omega, show (i : Int) < b.length by omega, decide_true, Bool.true_and, cond_true, geti_nat hlt, geti_nat hb, Option.bind_some]
        by_cases h : a[i] = b[i]
        · rw [if_pos h, h]
          simp only [bne_self_eq_false, cond_false]
          rw [w64_id (n := (i : Int) + 1) (by omega)]; rfl
        · rw [if_neg h, bne_iff_ne.2 h]; rfl
      by_cases h : a[i] = b[i]
      · rw [if_pos h] at hstep
        rw [loop_go hstep]
        refine ih (i + 1) (by omega) (fun j hj' => ?_) (by omega) (by omega)
        rcases Nat.lt_succ_iff_lt_or_eq.1 hj' with q | rfl
        · exact hj j q
        · rw [List.getElem?_eq_getElem hlt, List.getElem?_eq_getElem hb, h]
      · rw [if_neg h] at hstep
        rw [loop_out hstep, if_neg]
        intro e
        have := congrArg (fun z => z[i]?) e
        simp only [List.getElem?_take, show i < min a.length b.length by omega, if_true, List.getElem?_eq_getElem hlt, List.getElem?_eq_getElem hb, Option.some.injEq] at this
        exact h this
    · have hib : i = b.length := by omega
      have hstep : kit_SameLongs_l1 a b (i : Int) = some (.out (.inl ())) := by
        unfold kit_SameLongs_l1
        simp only [show ¬ (i : Int) < b.length by omega, decide_false, Bool.and_false, cond_false]
      rw [loop_out hstep, if_pos]
      rw [Nat.min_eq_right (by omega)]
      apply List.ext_getElem?
      intro j
      rw [List.getElem?_take, List.getElem?_take]
      split
      · exact hj j (by omega)
      · rfl
theorem kit_SameLongs_eq (a b : List Int) (hl : a.length ≤ 1000000) : kit_SameLongs a b = some (decide (a = b)) := by
  unfold kit_SameLongs
  have h := sameLongs_go a b hl a.length 0 (by simp) (fun j hj => by omega) (by omega) (by omega)
  rw [show ((0 : Nat) : Int) = 0 from rfl] at h
  rw [h]
  by_cases he : a.length = b.length
  · have e1 : a.take (min a.length b.length) = a := List.take_of_length_le (by omega)
    have e2 : b.take (min a.length b.length) = b := List.take_of_length_le (by omega)
    rw [e1, e2]
    by_cases hab : a = b
    · simp [hab, thenS]
    · simp [hab, thenS]
  · have hne : a ≠ b := fun e => he (by rw [e])
    have e1 : ((a.length : Int) == (b.length : Int)) = false := beq_eq_false_iff_ne.2 (by omega)
    split
    · simp only [thenS, e1, hne, decide_false]
    · simp only [thenS, hne, decide_false]
theorem of6 (a b c d e f : Int) : law01_of [a, b, c, d, e, f] = some ⟨[⟨a, b⟩, ⟨c, d⟩, ⟨e, f⟩]⟩ := by
  unfold law01_of
  rw [loop_go (s' := (2, ⟨[⟨a, b⟩]⟩)) rfl, loop_go (s' := (4, ⟨[⟨a, b⟩, ⟨c, d⟩]⟩)) rfl, loop_go (s' := (6, ⟨[⟨a, b⟩, ⟨c, d⟩, ⟨e, f⟩]⟩)) rfl, loop_out (t := ⟨[⟨a, b⟩, ⟨c, d⟩, ⟨e, f⟩]⟩) rfl]
  rfl
theorem of4 (a b c d : Int) : law01_of [a, b, c, d] = some ⟨[⟨a, b⟩, ⟨c, d⟩]⟩ := by
  unfold law01_of
  rw [loop_go (s' := (2, ⟨[⟨a, b⟩]⟩)) rfl, loop_go (s' := (4, ⟨[⟨a, b⟩, ⟨c, d⟩]⟩)) rfl, loop_out (t := ⟨[⟨a, b⟩, ⟨c, d⟩]⟩) rfl]
  rfl
def bentC : Curve := ⟨[⟨0, 0⟩, ⟨3000, 4000⟩, ⟨8000, 4000⟩]⟩
theorem bent_eq : law01_bent = some bentC := by unfold law01_bent; rw [of6]; rfl
theorem rt_5000 : rt 25000000 = 5000 := rt_sq (l := 5000) (by decide) (by decide)
theorem bent_d1 : dotv (vec ⟨0, 0⟩ ⟨3000, 4000⟩) (vec ⟨0, 0⟩ ⟨3000, 4000⟩) = 25000000 := by decide
theorem bent_d2 : dotv (vec ⟨3000, 4000⟩ ⟨8000, 4000⟩) (vec ⟨3000, 4000⟩ ⟨8000, 4000⟩) = 25000000 := by decide
theorem bent_valid : Valid bentC.Pts := by
  refine ⟨by decide, by decide, by decide, ?_⟩
  refine .cons _ _ _ _ ?_ ?_ ?_ (fun u hu => by cases hu) (.cons _ _ _ _ ?_ ?_ ?_ (fun u hu => by cases hu; decide) (.one _ _))
  all_goals first | rw [bent_d1, rt_5000] | rw [bent_d2, rt_5000]
  all_goals decide
theorem bent_lens : lens bentC.Pts = [5000, 5000] := by
  show lens [_, _, _] = _
  rw [lens_cons, lens_cons, bent_d1, bent_d2, rt_5000]
  rfl
theorem bent_pieces : piecesM 0 0 bentC.Pts = [(0, ⟨⟨0, 0⟩, ⟨3000, 4000⟩, 5000, 0⟩), (1, ⟨⟨3000, 4000⟩, ⟨5000, 0⟩, 5000, 5000⟩)] := by
  show piecesM 0 0 [_, _, _] = _
  rw [piecesM_cons, piecesM_cons, bent_d1, bent_d2, rt_5000]
  rfl
theorem bent_Length : curve_Length bentC = some 10000 := by
  rw [curve_Length_eq _ (by decide), piecesL, if_pos (checkM_zero.2 bent_valid), bent_lens]
  rfl
theorem bent_At : curve_At bentC 2500 = some ⟨1500, 2000⟩ := by
  unfold curve_At
  rw [curve_Check_eq _ (by decide), checkM_zero.2 bent_valid]
  simp only [Option.bind_some, bne_self_eq_false, cond_false]
  unfold curve_find
  rw [piecesC_eq bent_valid, bent_pieces]
  rfl
theorem of_bad : curve_Check ⟨[⟨0, 0⟩, ⟨1000, 1000⟩]⟩ = some 3 := by
  rw [curve_Check_eq _ (by decide)]
  have hd : dotv (vec ⟨0, 0⟩ ⟨1000, 1000⟩) (vec ⟨0, 0⟩ ⟨1000, 1000⟩) = 2000000 := by decide
  have hr : rt 2000000 * rt 2000000 ≠ 2000000 := by
    intro h
    have h0 := rt_nonneg 2000000
    rcases Int.lt_or_le (rt 2000000) 1415 with q | q
    · have := Int.mul_le_mul (show rt 2000000 ≤ 1414 by omega) (show rt 2000000 ≤ 1414 by omega) h0 (by decide); omega
    · have := Int.mul_le_mul q q (by decide) h0; omega
  unfold checkM
  rw [if_neg (by decide), if_neg (by decide), if_pos (by decide), goM_cons, hd, if_pos hr]
theorem awake_eq : law01_awake = some true := by
  unfold law01_awake
  simp only [bent_eq, Option.bind_some, bent_Length, beq_self_eq_true, cond_true, bent_At, Bool.and_self, of4, of_bad]
end Go.Abs.Curve

namespace Go.Abs.Curve
open Go Go.Abs

noncomputable def plen (p q : Spot) : Int := rt (dotv (vec p q) (vec p q))
theorem lens_consP (p q : Spot) (r : List Spot) : lens (p :: q :: r) = plen p q :: lens (q :: r) := lens_cons p q r
theorem piecesM_consP (i : Nat) (s : Int) (p q : Spot) (r : List Spot) : piecesM i s (p :: q :: r) = ((i : Int), ⟨p, vec p q, plen p q, s⟩) :: piecesM (i + 1) (w64 (s + plen p q)) (q :: r) := piecesM_cons i s p q r
theorem Good.inv {last : Option CurveVector} {p q : Spot} {r : List Spot} (h : Good last (p :: q :: r)) : plen p q * plen p q = dotv (vec p q) (vec p q) ∧ 1000 ≤ plen p q ∧ plen p q ≤ 1048576 ∧ (∀ u, last = some u → 0 < dotv u (vec p q)) ∧ Good (some (vec p q)) (q :: r) := by
  cases h with | cons _ _ _ _ h1 h2 h3 h4 h => exact ⟨h1, h2, h3, h4, h⟩
/-- The piece in which an offset lies. -/
noncomputable def findM : Nat → Int → Spot → Spot → List Spot → Int → Nat × CurvePiece
  | i, st, p, q, [], _ => (i, ⟨p, vec p q, plen p q, st⟩)
  | i, st, p, q, q' :: r, s => if st + plen p q ≤ s then findM (i + 1) (st + plen p q) q q' r s else (i, ⟨p, vec p q, plen p q, st⟩)
theorem find_skip (s : Int) : ∀ (r : List Spot) (p : Spot) (i : Nat) (st : Int) (x : Int × CurvePiece) (last : Option CurveVector), Good last (p :: r) → 0 < i → 0 ≤ st → s < st → st + 1048576 * r.length ≤ 1000000000 →
    loopL (curve_find_l1 s) (fun x => (x.1, x.2)) (piecesM i st (p :: r)) x = some x := by
  intro r
  induction r with
  | nil => intro p i st x last _ _ _ _ _; rfl
  | cons q r ih =>
    intro p i st x last hg hi h0 hs hb
    obtain ⟨h1, h2, h3, h4, hg⟩ := hg.inv
    · skip
      simp only [List.length_cons] at hb
      have hst : w64 (st + plen p q) = st + plen p q := w64_id (by omega)
      rw [piecesM_consP, loopL]
      have : curve_find_l1 s x ((i : Int), ⟨p, vec p q, plen p q, st⟩) = some (.go (x.1, x.2)) := by
        unfold curve_find_l1
        dsimp only
        rw [show ((i : Int) == 0) = false from beq_eq_false_iff_ne.2 (by omega), show decide (st ≤ s) = false by simp; omega]
        rfl
      rw [this]
      dsimp only
      rw [hst]
      exact ih q (i + 1) _ _ _ hg (by omega) (by omega) (by omega) (by omega)
theorem find_loop (s : Int) (hs0 : 0 ≤ s) : ∀ (r : List Spot) (p q : Spot) (i : Nat) (st : Int) (x : Int × CurvePiece) (last : Option CurveVector), Good last (p :: q :: r) → 0 ≤ st → st ≤ s → st + 1048576 * (r.length + 1) ≤ 1000000000 →
    loopL (curve_find_l1 s) (fun x => (x.1, x.2)) (piecesM i st (p :: q :: r)) x = some (((findM i st p q r s).1 : Int), (findM i st p q r s).2) := by
  intro r
  induction r with
  | nil =>
    intro p q i st x last hg h0 hs hb
    rw [piecesM_consP, loopL]
    have : curve_find_l1 s x ((i : Int), ⟨p, vec p q, plen p q, st⟩) = some (.go ((i : Int), ⟨p, vec p q, plen p q, st⟩)) := by
      unfold curve_find_l1
      dsimp only
      rw [show decide (st ≤ s) = true by simp [hs]]
      simp
    rw [this]
    rfl
  | cons q' r ih =>
    intro p q i st x last hg h0 hs hb
    obtain ⟨h1, h2, h3, h4, hg⟩ := hg.inv
    · skip
      simp only [List.length_cons] at hb
      have hst : w64 (st + plen p q) = st + plen p q := w64_id (by omega)
      rw [piecesM_consP, loopL]
      have : curve_find_l1 s x ((i : Int), ⟨p, vec p q, plen p q, st⟩) = some (.go ((i : Int), ⟨p, vec p q, plen p q, st⟩)) := by
        unfold curve_find_l1
        dsimp only
        rw [show decide (st ≤ s) = true by simp [hs]]
        simp
      rw [this]
      dsimp only
      rw [hst, findM]
      by_cases hc : st + plen p q ≤ s
      · rw [if_pos hc]
        exact ih q q' (i + 1) _ _ _ hg (by omega) hc (by omega)
      · rw [if_neg hc]
        exact find_skip s (q' :: r) q (i + 1) _ _ _ hg (by omega) (by omega) (by omega) (by simp only [List.length_cons]; omega)
/-- The sum of what is left. -/
noncomputable def suml : List Int → Int
  | [] => 0
  | a :: l => a + suml l
theorem suml_append : ∀ (a b : List Int), suml (a ++ b) = suml a + suml b
  | [], b => by simp [suml]
  | x :: a, b => by rw [List.cons_append, suml, suml, suml_append a b]; omega
theorem lens_drop : ∀ (i : Nat) (l : List Spot), lens (l.drop i) = (lens l).drop i
  | 0, _ => rfl
  | _ + 1, [] => by simp [lens]
  | _ + 1, [_] => by simp [lens]
  | i + 1, p :: q :: r => by rw [lens_consP, List.drop_succ_cons, List.drop_succ_cons]; exact lens_drop i (q :: r)
theorem suml_take {L : List Int} {i : Nat} {a : Int} {r : List Int} (h : L.drop i = a :: r) : suml (L.take (i + 1)) = suml (L.take i) + a := by
  have hlt := drop_lt h
  have : L[i] = a := by
    have := congrArg (fun z => z[0]?) h
    simp at this
    rw [List.getElem?_eq_getElem hlt] at this
    exact Option.some.inj this
  rw [List.take_succ_eq_append_getElem hlt, suml_append, this]
  simp [suml]
/-- What the found piece is. -/
theorem findM_spec (pts : List Spot) (s : Int) : ∀ (r : List Spot) (p q : Spot) (i : Nat) (st : Int) (last : Option CurveVector), Good last (p :: q :: r) → pts.drop i = p :: q :: r → 0 ≤ st → st ≤ s → st = suml ((lens pts).take i) →
    ∃ p' q' r', (findM i st p q r s).2.start = suml ((lens pts).take (findM i st p q r s).1) ∧ (pts.drop (findM i st p q r s).1 = p' :: q' :: r') ∧ (findM i st p q r s).2.p = p' ∧ (findM i st p q r s).2.v = vec p' q' ∧ (findM i st p q r s).2.l = plen p' q' ∧ st ≤ (findM i st p q r s).2.start ∧ (findM i st p q r s).2.start ≤ s ∧ 1000 ≤ plen p' q' ∧ plen p' q' ≤ 1048576 ∧
      plen p' q' * plen p' q' = dotv (vec p' q') (vec p' q') ∧ (r' ≠ [] → s < (findM i st p q r s).2.start + plen p' q') := by
  intro r
  induction r with
  | nil =>
    intro p q i st last hg hi h0 hs hst
    obtain ⟨h1, h2, h3, h4, hg⟩ := hg.inv
    exact ⟨p, q, [], hst, hi, rfl, rfl, rfl, Int.le_refl _, hs, h2, h3, h1, fun h => absurd rfl h⟩
  | cons q' r ih =>
    intro p q i st last hg hi h0 hs hst
    obtain ⟨h1, h2, h3, h4, hg⟩ := hg.inv
    · skip
      have hdl : (lens pts).drop i = plen p q :: lens (q :: q' :: r) := by rw [← lens_drop, hi, lens_consP]
      rw [findM]
      by_cases hc : st + plen p q ≤ s
      · rw [if_pos hc]
        obtain ⟨a, b, c, e0, e1, e2, e3, e4, e5, e6⟩ := ih q q' (i + 1) (st + plen p q) _ hg (drop_succ hi) (by omega) hc (by rw [suml_take hdl, hst])
        exact ⟨a, b, c, e0, e1, e2, e3, e4, by omega, e6⟩
      · rw [if_neg hc]
        exact ⟨p, q, q' :: r, hst, hi, rfl, rfl, rfl, Int.le_refl _, hs, h2, h3, h1, fun _ => by dsimp only; omega⟩
theorem sumW_suml : ∀ (l : List Int) (s : Int), (∀ a ∈ l, 0 ≤ a ∧ a ≤ 1048576) → 0 ≤ s → s + 1048576 * l.length ≤ 1000000000000 → sumW s l = s + suml l
  | [], s, _, _, _ => by simp [sumW, suml]
  | a :: l, s, h, h0, hb => by
    have ha := h a (by simp)
    simp only [List.length_cons] at hb
    rw [sumW, suml, w64_id (by omega), sumW_suml l (s + a) (fun b hb => h b (by simp [hb])) (by omega) (by omega)]
    omega
theorem good_lens : ∀ (r : List Spot) (p : Spot) (last : Option CurveVector), Good last (p :: r) → ∀ a ∈ lens (p :: r), 1000 ≤ a ∧ a ≤ 1048576
  | [], p, last, _, a, ha => by simp [lens] at ha
  | q :: r, p, last, hg, a, ha => by
    obtain ⟨h1, h2, h3, h4, hg⟩ := hg.inv
    · skip
      rw [lens_consP, List.mem_cons] at ha
      rcases ha with rfl | ha
      · exact ⟨h2, h3⟩
      · exact good_lens r q _ hg a ha
theorem suml_nonneg : ∀ (l : List Int), (∀ a ∈ l, 0 ≤ a) → 0 ≤ suml l
  | [], _ => by simp [suml]
  | a :: l, h => by have := h a (by simp); have := suml_nonneg l (fun b hb => h b (by simp [hb])); rw [suml]; omega
theorem lens_two (p q : Spot) : lens [p, q] = [plen p q] := rfl
theorem ref_piece_loop (L : List Int) (hL : L.length ≤ 1000) (s : Int) : ∀ (r : List Spot) (p q : Spot) (i : Nat) (st : Int) (last : Option CurveVector), Good last (p :: q :: r) → L.drop i = lens (p :: q :: r) → 0 ≤ st → st ≤ s → s ≤ 1000000000000 →
    s ≤ st + suml (lens (p :: q :: r)) → ∃ y, loop (ref01_Piece_l1 L) (s - st, (i : Int)) = some y ∧
      Sum.elim (fun y1 => some (w64 ((L.length : Int) - 1), y1)) some y = some (((findM i st p q r s).1 : Int), s - (findM i st p q r s).2.start) := by
  intro r
  induction r with
  | nil =>
    intro p q i st last hg hd h0 hs hb hsum
    have hlen : L.length = i + 1 := by
      have := congrArg List.length hd
      rw [List.length_drop, lens_two] at this
      simp at this; omega
    refine ⟨.inl (s - st), loop_out ?_, ?_⟩
    · unfold ref01_Piece_l1
      dsimp only
      rw [w64_id (n := (L.length : Int) - 1) (by omega)]
      simp only [show ¬ (i : Int) < (L.length : Int) - 1 by omega, decide_false, cond_false]
    · show some (w64 ((L.length : Int) - 1), s - st) = some ((i : Int), s - st)
      rw [w64_id (by omega), hlen]
      congr 2
      omega
  | cons q' r ih =>
    intro p q i st last hg hd h0 hs hb hsum
    obtain ⟨h1, h2, h3, h4, hg⟩ := hg.inv
    · skip
      have hd1 : L.drop i = plen p q :: lens (q :: q' :: r) := by rw [hd, lens_consP]
      have hd2 := drop_succ hd1
      have hlt := drop_lt (show L.drop (i + 1) = plen q q' :: lens (q' :: r) by rw [hd2, lens_consP])
      have hstep : ref01_Piece_l1 L (s - st, (i : Int)) = if s - st < plen p q then some (.out (.inr ((i : Int), s - st))) else some (.go (s - (st + plen p q), ((i + 1 : Nat) : Int))) := by
        unfold ref01_Piece_l1
        dsimp only
        rw [w64_id (n := (L.length : Int) - 1) (by omega)]
        simp only [show (i : Int) < (L.length : Int) - 1 by omega, decide_true, cond_true, geti_drop hd1, Option.bind_some]
        by_cases hc : s - st < plen p q
        · simp only [hc, decide_true, cond_true, if_true]
        · simp only [hc, decide_false, cond_false, if_false]
          rw [w64_id (by omega), w64_id (by omega)]
          congr 3
          omega
      rw [lens_consP, suml] at hsum
      rw [findM]
      by_cases hc : st + plen p q ≤ s
      · rw [if_neg (by omega)] at hstep
        rw [if_pos hc, loop_go hstep]
        exact ih q q' (i + 1) (st + plen p q) _ hg hd2 (by omega) hc hb (by omega)
      · rw [if_pos (by omega)] at hstep
        rw [if_neg hc, loop_out hstep]
        exact ⟨_, rfl, rfl⟩
end Go.Abs.Curve

namespace Go.Abs.Curve
open Go Go.Abs

theorem lens_valid {l : List Spot} (h : Valid l) : ∃ p q r, l = p :: q :: r := by
  match l, h with
  | p :: q :: r, _ => exact ⟨p, q, r, rfl⟩
  | [p], h => exact absurd h.two (by simp)
  | [], h => exact absurd h.two (by simp)
/-- Where an offset lies in a valid curve. -/
structure At (l : List Spot) (s : Int) where
  i : Nat
  p : Spot
  q : Spot
  r : List Spot
  st : Int
  hd : l.drop i = p :: q :: r
  h0 : 0 ≤ st
  hs : st ≤ s
  l1 : 1000 ≤ plen p q
  l2 : plen p q ≤ 1048576
  sq : plen p q * plen p q = dotv (vec p q) (vec p q)
  nx : r ≠ [] → s < st + plen p q
  pre : st = suml ((lens l).take i)
theorem total_bd {l : List Spot} (h : Valid l) : 0 ≤ suml (lens l) ∧ suml (lens l) ≤ 16777216 ∧ sumW 0 (lens l) = suml (lens l) := by
  obtain ⟨p, q, r, rfl⟩ := lens_valid h
  have hg := good_lens (q :: r) p none h.good
  have hm := h.most
  have hlen : (lens (p :: q :: r)).length ≤ 15 := by rw [lens_length]; simp at hm ⊢; omega
  have hs := suml_nonneg (lens (p :: q :: r)) (fun a ha => by have := hg a ha; omega)
  have key : ∀ l : List Int, (∀ a ∈ l, a ≤ 1048576) → suml l ≤ 1048576 * l.length := by
    intro l
    induction l with
    | nil => intro _; simp [suml]
    | cons a l ih => intro h; have := h a (by simp); have := ih (fun b hb => h b (by simp [hb])); rw [suml, List.length_cons]; omega
  have := key (lens (p :: q :: r)) (fun a ha => (hg a ha).2)
  refine ⟨hs, by omega, ?_⟩
  rw [sumW_suml _ _ (fun a ha => by have := hg a ha; omega) (by omega) (by omega)]
  omega
theorem find_at (c : Curve) (h : Valid c.Pts) (s : Int) (hs : 0 ≤ s ∧ s ≤ 9223372036854775807) : ∃ A : At c.Pts s, curve_find c s = some ((A.i : Int), ⟨A.p, vec A.p A.q, plen A.p A.q, A.st⟩, min (s - A.st) (plen A.p A.q)) ∧
    (∀ s', s' = min s (suml (lens c.Pts)) → thenS (loop (ref01_Piece_l1 (lens c.Pts)) (s', 0)) (fun y1 => some (w64 (((lens c.Pts).length : Int) - 1), y1)) (fun r => some r) = some ((A.i : Int), min (s - A.st) (plen A.p A.q))) := by
  obtain ⟨p, q, r, hp⟩ := lens_valid h
  have hg : Good none (p :: q :: r) := by rw [← hp]; exact h.good
  have hm := h.most
  rw [hp] at hm
  simp only [List.length_cons] at hm
  obtain ⟨p', q', r', epre, e1, e2, e3, e4, e5, e6, e7, e8, e9, e10⟩ := findM_spec c.Pts s r p q 0 0 none hg (by rw [hp]; rfl) (by omega) hs.1 rfl
  have hfm : (findM 0 0 p q r s).2 = ⟨p', vec p' q', plen p' q', (findM 0 0 p q r s).2.start⟩ := by
    generalize (findM 0 0 p q r s).2 = z at *
    cases z
    simp only at e2 e3 e4
    rw [e2, e3, e4]
  refine ⟨⟨(findM 0 0 p q r s).1, p', q', r', (findM 0 0 p q r s).2.start, e1, e5, e6, e7, e8, e9, e10, epre⟩, ?_, ?_⟩
  · unfold curve_find
    have e0 : piecesC c.Pts = some (piecesM 0 0 (p :: q :: r)) := by rw [piecesC_eq h, hp]
    rw [e0, Option.bind_some, find_loop s hs.1 r p q 0 0 _ none hg (by omega) hs.1 (by omega), Option.bind_some]
    dsimp only
    rw [e4, w64_id (by omega), mm2_min, mm2_max, Option.some.injEq, Prod.mk.injEq, Prod.mk.injEq]
    exact ⟨rfl, hfm, by omega⟩
  · rintro s' rfl
    have ht := total_bd h
    rw [hp] at ht
    have hsame : findM 0 0 p q r (min s (suml (lens c.Pts))) = findM 0 0 p q r s ∧ (min s (suml (lens c.Pts))) - (findM 0 0 p q r s).2.start = min (s - (findM 0 0 p q r s).2.start) (plen p' q') := by
      have key : ∀ (r : List Spot) (p q : Spot) (i : Nat) (st : Int) (last : Option CurveVector), Good last (p :: q :: r) → st ≤ s → findM i st p q r (min s (st + suml (lens (p :: q :: r)))) = findM i st p q r s ∧
          (min s (st + suml (lens (p :: q :: r)))) - (findM i st p q r s).2.start = min (s - (findM i st p q r s).2.start) (findM i st p q r s).2.l := by
        intro r
        induction r with
        | nil =>
          intro p q i st last hg hst
          refine ⟨rfl, ?_⟩
          have : suml (lens [p, q]) = plen p q := by rw [lens_two]; simp [suml]
          rw [this]
          show min s (st + plen p q) - st = min (s - st) (plen p q)
          omega
        | cons q' r ih =>
          intro p q i st last hg hst
          obtain ⟨h1, h2, h3, h4, hg'⟩ := hg.inv
          have hnn := good_lens (q' :: r) q _ hg'
          have hpos : 1000 ≤ suml (lens (q :: q' :: r)) := by
            have h5 := (hg'.inv).2.1
            have := suml_nonneg (lens (q' :: r)) (fun a ha => by have := hnn a (by rw [lens_consP]; simp [ha]); omega)
            rw [lens_consP, suml]; omega
          rw [lens_consP, suml, findM, findM]
          by_cases hc : st + plen p q ≤ s
          · rw [if_pos hc, if_pos (by omega), show st + (plen p q + suml (lens (q :: q' :: r))) = (st + plen p q) + suml (lens (q :: q' :: r)) by omega]
            exact ih q q' (i + 1) (st + plen p q) _ hg' hc
          · rw [if_neg hc, if_neg (by omega)]
            refine ⟨rfl, ?_⟩
            dsimp only
            omega
      have := key r p q 0 0 none hg hs.1
      rw [Int.zero_add, ← hp] at this
      refine ⟨this.1, ?_⟩
      rw [this.2, hfm]
    have hlen : (lens c.Pts).length ≤ 1000 := by rw [hp, lens_length]; simp; omega
    obtain ⟨y, hy, hy2⟩ := ref_piece_loop (lens c.Pts) hlen (min s (suml (lens c.Pts))) r p q 0 0 none hg (by rw [hp]; rfl) (by omega) (by rw [hp]; omega) (by rw [hp]; omega) (by rw [hp]; omega)
    rw [Int.sub_zero] at hy
    rw [show ((0 : Nat) : Int) = 0 from rfl] at hy
    rw [hy]
    rw [hsame.1, hsame.2] at hy2
    cases y <;> exact hy2
theorem piece_same (c : Curve) (hl : c.Pts.length ≤ 1000000) (s : Int) (hs : -9223372036854775808 ≤ s ∧ s ≤ 9223372036854775807) : ∃ x, curve_Piece c s = some x ∧ ref01_Piece c s = some x ∧
    (∀ h : Valid c.Pts, ∃ A : At c.Pts (max 0 s), curve_find c (mm2 true 0 s) = some ((A.i : Int), ⟨A.p, vec A.p A.q, plen A.p A.q, A.st⟩, min (max 0 s - A.st) (plen A.p A.q)) ∧ x = ((A.i : Int), min (max 0 s - A.st) (plen A.p A.q))) := by
  unfold curve_Piece ref01_Piece
  rw [curve_Check_eq c hl, show ref01_Pieces c = some (piecesL c) from ref01_Pieces_eq c hl, ref01_Length_eq c hl]
  simp only [Option.bind_some]
  by_cases hv : checkM c.Pts = 0
  · have V := checkM_zero.1 hv
    obtain ⟨A, h1, h2⟩ := find_at c V (max 0 s) (by omega)
    have ht := total_bd V
    have hpl : piecesL c = lens c.Pts := if_pos hv
    obtain ⟨p, q, r, hp⟩ := lens_valid V
    have hne : (((lens c.Pts).length : Int) == 0) = false := by rw [hp, lens_length]; exact beq_eq_false_iff_ne.2 (by simp; omega)
    rw [hpl, hv, mm2_max, h1]
    simp only [bne_self_eq_false, cond_false, Option.bind_some, hne]
    refine ⟨_, rfl, ?_, fun _ => ⟨A, rfl, rfl⟩⟩
    rw [ht.2.2, mm2_max, mm2_min]
    exact h2 _ (by omega)
  · have hpl : piecesL c = [] := if_neg hv
    rw [hpl, show (checkM c.Pts != 0) = true from bne_iff_ne.2 hv]
    exact ⟨(0, 0), rfl, rfl, fun h => absurd (checkM_zero.2 h) hv⟩
theorem at_ok {l : List Spot} {s : Int} (A : At l s) (V : Valid l) : okS A.p = true ∧ okS A.q = true :=
  ⟨List.all_eq_true.1 V.ok _ (List.mem_of_mem_drop (i := A.i) (by rw [A.hd]; simp)), List.all_eq_true.1 V.ok _ (List.mem_of_mem_drop (i := A.i) (by rw [A.hd]; simp))⟩
end Go.Abs.Curve

namespace Go.Abs.Curve
open Go Go.Abs

theorem kit_Mod_eq {n m : Int} (hm : 0 < m) (_ : -9223372036854775808 ≤ n ∧ n ≤ 9223372036854775807) (hm2 : m ≤ 9223372036854775807) : ∃ r, kit_Mod n m = some r ∧ 0 ≤ r ∧ r < m ∧ kit_Mod64 n m = some r ∧ r = n % m := by
  unfold kit_Mod kit_Mod64 remc
  rw [if_neg (by omega)]
  simp only [Option.bind_some]
  have h1 : n.tmod m = if 0 ≤ n ∨ m ∣ n then n % m else n % m - m := by
    rw [Int.tmod_eq_emod]
    split <;> first | omega | (rw [Int.natAbs_of_nonneg (by omega)])
  have h2 := Int.emod_nonneg n (show m ≠ 0 by omega)
  have h3 := Int.emod_lt_of_pos n hm
  by_cases hc : 0 ≤ n ∨ m ∣ n
  · rw [if_pos hc] at h1
    rw [h1, show decide (n % m < 0) = false from decide_eq_false (by omega)]
    exact ⟨_, rfl, h2, h3, rfl, rfl⟩
  · rw [if_neg hc] at h1
    rw [h1]
    have hne : n % m ≠ 0 := fun h => hc (.inr (Int.dvd_of_emod_eq_zero h))
    rw [show decide (n % m - m < 0) = true from decide_eq_true (by omega), w64_id (by omega)]
    refine ⟨_, rfl, ?_, ?_, rfl, ?_⟩ <;> omega
/-- A quarter turn, so many times. -/
def rotM : Nat → CurveVector → CurveVector
  | 0, v => v
  | n + 1, v => rotM n ⟨-v.y, v.x⟩
theorem rot_dot : ∀ (n : Nat) (v w : CurveVector), dotv (rotM n v) (rotM n w) = dotv v w
  | 0, _, _ => rfl
  | n + 1, v, w => by rw [rotM, rotM, rot_dot n]; unfold dotv; grind
theorem rot_bd {B : Int} : ∀ (n : Nat) (v : CurveVector), (-B ≤ v.x ∧ v.x ≤ B ∧ -B ≤ v.y ∧ v.y ≤ B) → -B ≤ (rotM n v).x ∧ (rotM n v).x ≤ B ∧ -B ≤ (rotM n v).y ∧ (rotM n v).y ≤ B
  | 0, _, h => h
  | n + 1, v, h => by rw [rotM]; exact rot_bd n _ (by dsimp only; omega)
theorem rot_loop : ∀ (n : Nat) (v : CurveVector), n ≤ 1000 → (-1000000 ≤ v.x ∧ v.x ≤ 1000000 ∧ -1000000 ≤ v.y ∧ v.y ≤ 1000000) → loop kit_Curve_l2 ((n : Int), vs v) = some (vs (rotM n v))
  | 0, v, _, _ => by
    refine loop_out ?_
    unfold kit_Curve_l2
    rfl
  | n + 1, v, hn, hv => by
    have : kit_Curve_l2 (((n + 1 : Nat) : Int), vs v) = some (.go ((n : Int), vs ⟨-v.y, v.x⟩)) := by
      unfold kit_Curve_l2 vs
      dsimp only
      rw [show decide (((n + 1 : Nat) : Int) > 0) = true from decide_eq_true (by omega), w64_id (n := ((n + 1 : Nat) : Int) - 1) (by omega), w64_id (n := 0 - v.y) (by omega)]
      simp only [cond_true]
      congr 4
      · omega
      · omega
    rw [loop_go this, rot_loop n _ (by omega) (by dsimp only; omega), rotM]
def tripleOK (a b c : Int) : Prop := 0 < a ∧ 0 ≤ b ∧ a * a + b * b = c * c ∧ 1 ≤ c ∧ c ≤ 29 ∧ a ≤ c ∧ b ≤ c
theorem triple_get (m : Int) (h0 : 0 ≤ m) (h1 : m < 11) : ∃ a b c, geti [(1, 0, 1), (3, 4, 5), (4, 3, 5), (5, 12, 13), (12, 5, 13), (8, 15, 17), (15, 8, 17), (7, 24, 25), (24, 7, 25), (20, 21, 29), (21, 20, 29), (0, 1, 1)] m = some (a, b, c) ∧ tripleOK a b c := by
  have : m = 0 ∨ m = 1 ∨ m = 2 ∨ m = 3 ∨ m = 4 ∨ m = 5 ∨ m = 6 ∨ m = 7 ∨ m = 8 ∨ m = 9 ∨ m = 10 := by omega
  rcases this with rfl | rfl | rfl | rfl | rfl | rfl | rfl | rfl | rfl | rfl | rfl <;> exact ⟨_, _, _, rfl, by unfold tripleOK; decide⟩
/-- A piece's vector, made of numbers: in one quadrant. -/
def Quad (n : Nat) (v : CurveVector) : Prop := ∃ x y L : Int, v = rotM n ⟨x, y⟩ ∧ 0 < x ∧ 0 ≤ y ∧ x * x + y * y = L * L ∧ 1000 ≤ L ∧ L ≤ 3029 ∧ x ≤ L ∧ y ≤ L
inductive Ch (Q : CurveVector → Prop) : List Spot → Prop
  | one (p : Spot) : Ch Q [p]
  | cons (p q : Spot) (r : List Spot) (h : Q (vec p q)) (hr : Ch Q (q :: r)) : Ch Q (p :: q :: r)
theorem Ch.snoc {Q : CurveVector → Prop} {a b : Spot} (h : Q (vec a b)) : ∀ (l : List Spot), Ch Q (l ++ [a]) → Ch Q (l ++ [a, b])
  | [], _ => .cons _ _ _ h (.one _)
  | [p], hc => by cases hc with | cons _ _ _ h1 h2 => exact .cons _ _ _ h1 (.cons _ _ _ h (.one _))
  | p :: q :: r, hc => by
    cases hc with
    | cons _ _ _ h1 h2 => exact .cons _ _ _ h1 (Ch.snoc h (q :: r) h2)
theorem good_of_ch {n : Nat} : ∀ (r : List Spot) (p : Spot) (last : Option CurveVector), Ch (Quad n) (p :: r) → (∀ u, last = some u → Quad n u) → Good last (p :: r)
  | [], p, last, _, _ => .one _ _
  | q :: r, p, last, hc, hl => by
    cases hc with
    | cons _ _ _ h1 h2 =>
      have hq := h1
      obtain ⟨x, y, L, hv, hx, hy, hsq, hL1, hL2, hxL, hyL⟩ := h1
      have hd : dotv (vec p q) (vec p q) = L * L := by rw [hv, rot_dot]; unfold dotv; exact hsq
      have hrt : rt (dotv (vec p q) (vec p q)) = L := by rw [hd]; exact rt_sq (by omega) (by omega)
      refine .cons _ _ _ _ (by rw [hrt, hd]) (by rw [hrt]; exact hL1) (by rw [hrt]; omega) (fun u hu => ?_) (good_of_ch r q _ h2 (fun u hu => by cases hu; exact hq))
      obtain ⟨x', y', L', hv', hx', hy', _⟩ := hl u hu
      rw [hv, hv', rot_dot]
      unfold dotv
      have := Int.mul_pos hx' hx
      have := Int.mul_nonneg hy' hy
      dsimp only
      omega
/-- What the curves made of numbers are like. -/
structure Made (l : List Spot) : Prop where
  two : 2 ≤ l.length
  six : l.length ≤ 6
  ch : ∃ n, Ch (Quad n) l
  bd : ∀ p ∈ l, -50000 ≤ p.X ∧ p.X ≤ 50000 ∧ -50000 ≤ p.Y ∧ p.Y ≤ 50000
theorem Made.valid {l : List Spot} (h : Made l) : Valid l := by
  obtain ⟨n, hc⟩ := h.ch
  have := h.two; have := h.six
  refine ⟨h.two, by omega, List.all_eq_true.2 fun p hp => okS_iff.2 (by have := h.bd p hp; omega), ?_⟩
  match l, h, hc with
  | p :: r, _, hc => exact good_of_ch r p none hc (fun u hu => by cases hu)
  | [], h, _ => exact absurd h.two (by simp)
theorem tmod_bd (n : Int) : -20000 ≤ n.tmod 20001 ∧ n.tmod 20001 ≤ 20000 := by
  have h1 := Int.tmod_lt_of_pos n (show (0 : Int) < 20001 by decide)
  have h2 := Int.tmod_lt_of_pos (-n) (show (0 : Int) < 20001 by decide)
  rw [Int.neg_tmod] at h2
  omega
theorem made_step (m : KitChain) (hw : ∀ a ∈ m.Steps, wI64 a) (f : Int) (nq : Nat) (hf : f.tmod 4 = nq) (hnq : nq ≤ 1000) (i : Nat) (pre : List Spot) (p : Spot) (hi : (i : Int) < max 1 (min (m.Steps.length : Int) 5)) (hpl : pre.length = i) (hp : ∀ a ∈ pre ++ [p], -(20000 + 3029 * i) ≤ a.X ∧ a.X ≤ 20000 + 3029 * i ∧ -(20000 + 3029 * i) ≤ a.Y ∧ a.Y ≤ 20000 + 3029 * i) :
    ∃ v : CurveVector, Quad nq v ∧ (-3029 ≤ v.x ∧ v.x ≤ 3029 ∧ -3029 ≤ v.y ∧ v.y ≤ 3029) ∧ kit_Curve_l1 m [(1, 0, 1), (3, 4, 5), (4, 3, 5), (5, 12, 13), (12, 5, 13), (8, 15, 17), (15, 8, 17), (7, 24, 25), (24, 7, 25), (20, 21, 29), (21, 20, 29), (0, 1, 1)] f ((i : Int), p, ⟨pre ++ [p]⟩) =
      some (.go (((i + 1 : Nat) : Int), ⟨p.X + v.x, p.Y + v.y⟩, ⟨pre ++ [p, ⟨p.X + v.x, p.Y + v.y⟩]⟩)) := by
  -- the number
  obtain ⟨n, hn, n0, n1⟩ : ∃ n, (cond (decide ((i : Int) < (m.Steps.length : Int))) ((geti m.Steps (i : Int)).bind fun v4 => (kit_Mod v4 1048576).bind fun v5 => some v5) (some 0)) = some n ∧ 0 ≤ n ∧ n < 1048576 := by
    by_cases hc : i < m.Steps.length
    · rw [show decide ((i : Int) < (m.Steps.length : Int)) = true from decide_eq_true (by omega)]
      obtain ⟨r, hr, r0, r1, _⟩ := kit_Mod_eq (n := m.Steps[i]) (m := 1048576) (by decide) (hw _ (List.getElem_mem hc)) (by decide)
      simp only [cond_true, geti_nat hc, Option.bind_some, hr]
      exact ⟨r, rfl, r0, r1⟩
    · rw [show decide ((i : Int) < (m.Steps.length : Int)) = false from decide_eq_false (by omega)]
      exact ⟨0, rfl, by decide, by decide⟩
  have hm11 : n.tmod 11 = n % 11 := Int.tmod_eq_emod_of_nonneg n0
  obtain ⟨a, b, c, hg, ha, hb, habc, hc1, hc2, hac, hbc⟩ := triple_get (n % 11) (Int.emod_nonneg _ (by decide)) (Int.emod_lt_of_pos _ (by decide))
  have hq1 : quoc .i64 1000 c = some (1000 / c) := by
    unfold quoc
    rw [if_neg (by omega), Int.tdiv_eq_ediv_of_nonneg (by decide)]
    have h1 := Int.ediv_nonneg (show (0 : Int) ≤ 1000 by decide) (show 0 ≤ c by omega)
    have h2 := Int.ediv_le_self c (show (0 : Int) ≤ 1000 by decide)
    exact congrArg some (w64_id (by omega))
  have hd11 : w64 (n.tdiv 11) = n / 11 := by rw [Int.tdiv_eq_ediv_of_nonneg n0]; exact w64_id (by omega)
  have hm20 : (n / 11).tmod 2000 = n / 11 % 2000 := Int.tmod_eq_emod_of_nonneg (by omega)
  generalize hj : n / 11 % 2000 = j at *
  have hj0 : 0 ≤ j := by rw [← hj]; exact Int.emod_nonneg _ (by decide)
  have hj1 : j < 2000 := by rw [← hj]; exact Int.emod_lt_of_pos _ (by decide)
  have hq2 : quoc .i64 j c = some (j / c) := by
    unfold quoc
    rw [if_neg (by omega), Int.tdiv_eq_ediv_of_nonneg hj0]
    have h1 := Int.ediv_nonneg hj0 (show 0 ≤ c by omega)
    have h2 := Int.ediv_le_self c hj0
    exact congrArg some (w64_id (by omega))
  have e1 := Int.ediv_nonneg (show (0 : Int) ≤ 1000 by decide) (show 0 ≤ c by omega)
  have e2 := Int.ediv_nonneg hj0 (show 0 ≤ c by omega)
  have e3 := Int.ediv_mul_le 1000 (show c ≠ 0 by omega)
  have e4 := Int.ediv_mul_le j (show c ≠ 0 by omega)
  have e5 := Int.lt_ediv_add_one_mul_self 1000 (show 0 < c by omega)
  have e6 := Int.ediv_le_self c (show (0 : Int) ≤ 1000 by decide)
  have e7 := Int.ediv_le_self c hj0
  generalize hk1 : (1000 : Int) / c = k1 at *
  generalize hk2 : j / c = k2 at *
  have hk : w64 (w64 (k1 + 1) + k2) = k1 + 1 + k2 := by rw [w64_id (n := k1 + 1) (by omega)]; exact w64_id (by omega)
  generalize hkk : k1 + 1 + k2 = k at *
  have hk0 : 1 ≤ k := by omega
  have hL : k * c = k1 * c + c + k2 * c := by rw [← hkk, Int.add_mul, Int.add_mul, Int.one_mul]
  have hL' : (k1 + 1) * c = k1 * c + c := by rw [Int.add_mul, Int.one_mul]
  have hk2c : 0 ≤ k2 * c := Int.mul_nonneg e2 (by omega)
  have hL1 : 1000 ≤ k * c := by omega
  have hL2 : k * c ≤ 3029 := by omega
  have hak : a * k ≤ k * c := by rw [Int.mul_comm k c]; exact Int.mul_le_mul_of_nonneg_right hac (by omega)
  have hbk : b * k ≤ k * c := by rw [Int.mul_comm k c]; exact Int.mul_le_mul_of_nonneg_right hbc (by omega)
  have hak0 : 0 < a * k := Int.mul_pos ha (by omega)
  have hbk0 : 0 ≤ b * k := Int.mul_nonneg hb (by omega)
  have hQ : Quad nq (rotM nq ⟨a * k, b * k⟩) := ⟨a * k, b * k, k * c, rfl, hak0, hbk0, by grind, hL1, hL2, hak, hbk⟩
  have hbd := rot_bd (B := 3029) nq ⟨a * k, b * k⟩ (by dsimp only; omega)
  refine ⟨rotM nq ⟨a * k, b * k⟩, hQ, hbd, ?_⟩
  have hpp := hp p (by simp)
  unfold kit_Curve_l1
  dsimp only
  have hcond : decide ((i : Int) < (mm2 true 1 (mm2 false (m.Steps.length : Int) 5))) = true := by rw [mm2_max, mm2_min]; simpa using hi
  rw [hcond, hn]
  simp only [cond_true, Option.bind_some, hm11, hg, hq1, hd11, hm20, hq2, hk, hf]
  rw [w64_id (n := a * k) (by omega), w64_id (n := b * k) (by omega)]
  have hrot := rot_loop nq ⟨a * k, b * k⟩ hnq (by dsimp only; omega)
  unfold vs at hrot
  dsimp only at hrot
  rw [hrot, Option.bind_some]
  dsimp only
  have hi5 : i ≤ 5 := by omega
  rw [w64_id (n := p.X + _) (by omega), w64_id (n := p.Y + _) (by omega), appc_ok (by simp; omega), Option.bind_some, w64_id (by omega)]
  simp only [List.append_assoc, List.cons_append, List.nil_append]
  rfl
theorem kit_Curve_full (m : KitChain) (hw : ∀ a ∈ m.Steps, wI64 a) : ∃ c, kit_Curve m = some c ∧ Made c.Pts ∧ (c.Pts.length : Int) = max 1 (min (m.Steps.length : Int) 5) + 1 := by
  obtain ⟨f, hf, f0, f1⟩ : ∃ f, (cond (decide ((m.Steps.length : Int) > 0)) ((geti m.Steps 0).bind fun v2 => (kit_Mod v2 48).bind fun v3 => some v3) (some 0)) = some f ∧ 0 ≤ f ∧ f < 48 := by
    by_cases hc : 0 < m.Steps.length
    · rw [show decide ((m.Steps.length : Int) > 0) = true from decide_eq_true (by omega)]
      obtain ⟨r, hr, r0, r1, _⟩ := kit_Mod_eq (n := m.Steps[0]) (m := 48) (by decide) (hw _ (List.getElem_mem hc)) (by decide)
      have hg : geti m.Steps 0 = some m.Steps[0] := geti_nat hc
      simp only [cond_true, hg, Option.bind_some, hr]
      exact ⟨r, rfl, r0, r1⟩
    · rw [show decide ((m.Steps.length : Int) > 0) = false from decide_eq_false (by omega)]
      exact ⟨0, rfl, by decide, by decide⟩
  obtain ⟨nq, hnq, hnq3⟩ : ∃ nq : Nat, f.tmod 4 = nq ∧ nq ≤ 1000 := ⟨(f % 4).toNat, by rw [Int.tmod_eq_emod_of_nonneg f0]; omega, by omega⟩
  have key := loop_inv (f := kit_Curve_l1 m [(1, 0, 1), (3, 4, 5), (4, 3, 5), (5, 12, 13), (12, 5, 13), (8, 15, 17), (15, 8, 17), (7, 24, 25), (24, 7, 25), (20, 21, 29), (21, 20, 29), (0, 1, 1)] f)
    (fun x => ∃ (i : Nat) (pre : List Spot), x.1 = i ∧ (i : Int) ≤ max 1 (min (m.Steps.length : Int) 5) ∧ pre.length = i ∧ x.2.2.Pts = pre ++ [x.2.1] ∧ Ch (Quad nq) (pre ++ [x.2.1]) ∧ ∀ a ∈ pre ++ [x.2.1], -(20000 + 3029 * i) ≤ a.X ∧ a.X ≤ 20000 + 3029 * i ∧ -(20000 + 3029 * i) ≤ a.Y ∧ a.Y ≤ 20000 + 3029 * i)
    (fun x => (5 - x.1).toNat) (fun c => Made c.Pts ∧ (c.Pts.length : Int) = max 1 (min (m.Steps.length : Int) 5) + 1) (by
      rintro ⟨x1, p, c⟩ ⟨i, pre, rfl, hi, hpl, hpts, hch, hbd⟩
      dsimp only at hpts hch hbd
      obtain rfl : c = ⟨pre ++ [p]⟩ := by cases c; simp at hpts; rw [hpts]
      by_cases hlt : (i : Int) < max 1 (min (m.Steps.length : Int) 5)
      · obtain ⟨v, hQ, hv, hstep⟩ := made_step m hw f nq hnq hnq3 i pre p hlt hpl hbd
        refine ⟨_, hstep, ⟨i + 1, pre ++ [p], rfl, by omega, by simp [hpl], by simp, ?_, ?_⟩, by dsimp only; omega⟩
        · dsimp only
          rw [List.append_assoc]
          refine Ch.snoc ?_ pre hch
          have : vec p ⟨p.X + v.x, p.Y + v.y⟩ = v := by unfold vec; cases v; dsimp only; congr 1 <;> omega
          rw [this]; exact hQ
        · intro a ha
          dsimp only at ha
          rw [List.mem_append] at ha
          rcases ha with ha | ha
          · have := hbd a ha; omega
          · simp only [List.mem_singleton] at ha
            subst ha
            have := hbd p (by simp)
            dsimp only
            omega
      · have hend : kit_Curve_l1 m [(1, 0, 1), (3, 4, 5), (4, 3, 5), (5, 12, 13), (12, 5, 13), (8, 15, 17), (15, 8, 17), (7, 24, 25), (24, 7, 25), (20, 21, 29), (21, 20, 29), (0, 1, 1)] f ((i : Int), p, ⟨pre ++ [p]⟩) = some (.out ⟨pre ++ [p]⟩) := by
          unfold kit_Curve_l1
          dsimp only
          have hcond : decide ((i : Int) < (mm2 true 1 (mm2 false (m.Steps.length : Int) 5))) = false := by rw [mm2_max, mm2_min]; simpa using hlt
          rw [hcond]; rfl
        refine ⟨_, hend, ?_⟩
        refine ⟨⟨by simp; omega, by simp; omega, ⟨nq, hch⟩, fun a ha => ?_⟩, by simp only [List.length_append, List.length_cons, List.length_nil]; omega⟩
        have := hbd a ha
        omega) (0, ⟨m.X.tmod 20001, m.Y.tmod 20001⟩, ⟨[⟨m.X.tmod 20001, m.Y.tmod 20001⟩]⟩) ⟨0, [], rfl, by omega, rfl, rfl, .one _, fun a ha => by
        simp only [List.nil_append, List.mem_singleton] at ha
        have h1 := tmod_bd m.X
        have h2 := tmod_bd m.Y
        rw [ha]
        refine ⟨?_, ?_, ?_, ?_⟩ <;> dsimp only <;> omega⟩
  obtain ⟨c, hc, hm⟩ := key
  refine ⟨c, ?_, hm⟩
  unfold kit_Curve kit_triples
  rw [Option.bind_some, hf, Option.bind_some, hc]
  rfl
theorem kit_Curve_eq (m : KitChain) (hw : ∀ a ∈ m.Steps, wI64 a) : ∃ c, kit_Curve m = some c ∧ Made c.Pts := by
  obtain ⟨c, h1, h2, _⟩ := kit_Curve_full m hw
  exact ⟨c, h1, h2⟩
end Go.Abs.Curve

namespace Go.Abs.Curve
open Go Go.Abs
end Go.Abs.Curve

namespace Go.Abs.Curve
open Go Go.Abs
theorem curve_floor_eq {a b : Int} (hb : 0 < b) (ha : wI64 a) : curve_floor a b = some (a / b) := by
  unfold curve_floor quoc remc
  rw [if_neg (by omega), if_neg (by omega)]
  simp only [Option.bind_some]
  have hle : a.natAbs / b.natAbs ≤ a.natAbs := Nat.div_le_self _ _
  have h1 := Int.tmod_lt_of_pos a hb
  have h3 := Int.tdiv_mul_add_tmod a b
  have h4 := Int.ediv_mul_add_emod a b
  have h5 := Int.emod_nonneg a (show b ≠ 0 by omega)
  have h6 := Int.emod_lt_of_pos a hb
  have hq := @Int.tdiv_eq_ediv a b
  have hm := @Int.tmod_eq_emod a b
  unfold wI64 at ha
  have hab : -9223372036854775808 ≤ a / b ∧ a / b ≤ 9223372036854775807 := by
    constructor
    · have := Int.le_ediv_of_mul_le hb (show -9223372036854775808 * b ≤ a by
        have := Int.mul_le_mul_of_nonneg_left (show (1 : Int) ≤ b by omega) (show (0 : Int) ≤ 9223372036854775808 by decide); omega)
      exact this
    · have := Int.ediv_le_of_le_mul hb (show a ≤ 9223372036854775807 * b by
        have := Int.mul_le_mul_of_nonneg_left (show (1 : Int) ≤ b by omega) (show (0 : Int) ≤ 9223372036854775807 by decide); omega)
      exact this
  by_cases hc : 0 ≤ a ∨ b ∣ a
  · rw [if_pos hc, Int.add_zero] at hq
    rw [if_pos hc, show ((0:Nat):Int) = 0 from rfl, Int.sub_zero] at hm
    rw [hq, hm, show decide (a % b < 0) = false from decide_eq_false (by omega), show IntKind.i64.wrap (a / b) = a / b from w64_id hab]; rfl
  · rw [if_neg hc, Int.sign_eq_one_of_pos hb] at hq
    rw [if_neg hc, Int.natAbs_of_nonneg (by omega)] at hm
    have hneg : a / b < 0 := by
      rcases Int.lt_or_le (a / b) 0 with q | q
      · exact q
      · have := Int.mul_nonneg q (show 0 ≤ b by omega)
        exact absurd (.inl (by omega)) hc
    rw [hq, hm, show decide (a % b - b < 0) = true from decide_eq_true (by omega), show IntKind.i64.wrap (a / b + 1) = a / b + 1 from w64_id (by omega), w64_id (by omega)]
    simp only [cond_true]
    congr 1
    omega
/-- The place of an offset, by the piece in which it lies. -/
theorem curve_At_eq {c : Curve} (V : Valid c.Pts) (hl : c.Pts.length ≤ 1000000) {s : Int} (hs : wI64 s) : ∃ A : At c.Pts (max 0 s), curve_Piece c s = some ((A.i : Int), min (max 0 s - A.st) (plen A.p A.q)) ∧
    curve_At c s = some ⟨A.p.X + (vec A.p A.q).x * min (max 0 s - A.st) (plen A.p A.q) / plen A.p A.q, A.p.Y + (vec A.p A.q).y * min (max 0 s - A.st) (plen A.p A.q) / plen A.p A.q⟩ := by
  obtain ⟨x, hx, hy, hA⟩ := piece_same c hl s hs
  obtain ⟨A, h1, rfl⟩ := hA V
  refine ⟨A, hx, ?_⟩
  unfold curve_At
  rw [curve_Check_eq c hl, checkM_zero.2 V]
  simp only [Option.bind_some, bne_self_eq_false, cond_false, h1]
  obtain ⟨o1, o2⟩ := at_ok A V
  have hv := okV_vec o1 o2
  have a1 := A.l1
  have a2 := A.l2
  have a3 := A.hs
  have ho := okS_iff.1 o1
  have ho2 := okS_iff.1 o2
  generalize ht : min (max 0 s - A.st) (plen A.p A.q) = t
  have ht0 : 0 ≤ t ∧ t ≤ 1048576 ∧ t ≤ plen A.p A.q := by omega
  obtain ⟨v1, v2, v3, v4⟩ := hv
  have m1 := mul_bd ⟨v1, v2⟩ (show -1048576 ≤ t ∧ t ≤ 1048576 by omega)
  have m2 := mul_bd ⟨v3, v4⟩ (show -1048576 ≤ t ∧ t ≤ 1048576 by omega)
  have hdiv : ∀ z, -33554432 ≤ z → z ≤ 33554432 → -33554432 ≤ z * t / plen A.p A.q ∧ z * t / plen A.p A.q ≤ 33554432 := by
    intro z z1 z2
    constructor
    · refine Int.le_ediv_of_mul_le (by omega) ?_
      have e1 := Int.mul_le_mul_of_nonneg_left ht0.2.2 (show (0 : Int) ≤ 33554432 by decide)
      have e2 := Int.mul_le_mul_of_nonneg_right z1 ht0.1
      omega
    · refine Int.ediv_le_of_le_mul (by omega) ?_
      have e1 := Int.mul_le_mul_of_nonneg_left ht0.2.2 (show (0 : Int) ≤ 33554432 by decide)
      have e2 := Int.mul_le_mul_of_nonneg_right z2 ht0.1
      omega
  have d1 := hdiv _ v1 v2
  have d2 := hdiv _ v3 v4
  rw [w64_id (n := (vec A.p A.q).x * t) (by omega), w64_id (n := (vec A.p A.q).y * t) (by omega), curve_floor_eq (by omega) (by unfold wI64; omega), Option.bind_some, curve_floor_eq (by omega) (by unfold wI64; omega), Option.bind_some,
    w64_id (n := A.p.X + _) (by omega), w64_id (n := A.p.Y + _) (by omega)]
theorem suml_take_lt {L : List Int} (h : ∀ a ∈ L, 1000 ≤ a) : ∀ {i j : Nat}, i < j → j ≤ L.length → suml (L.take i) + 1000 ≤ suml (L.take j) := by
  intro i j hij
  induction hij with
  | refl =>
    intro hj
    have hd : L.drop i = L[i] :: L.drop (i + 1) := List.drop_eq_getElem_cons (by omega)
    rw [suml_take hd]
    have := h L[i] (List.getElem_mem (by omega)); omega
  | @step j hij ih =>
    intro hj
    have := ih (by omega)
    have hd : L.drop j = L[j] :: L.drop (j + 1) := List.drop_eq_getElem_cons (by omega)
    have e := suml_take hd
    have := h L[j] (List.getElem_mem (by omega))
    show _ ≤ suml (L.take (j + 1))
    omega
theorem valid_lens {l : List Spot} (V : Valid l) : (∀ a ∈ lens l, 1000 ≤ a ∧ a ≤ 1048576) ∧ (lens l).length + 1 = l.length := by
  obtain ⟨p, q, r, rfl⟩ := lens_valid V
  exact ⟨good_lens (q :: r) p none V.good, by rw [lens_length]; simp⟩
end Go.Abs.Curve

namespace Go.Abs.Curve
open Go Go.Abs
def crossv (v w : CurveVector) : Int := v.x * w.y - v.y * w.x
theorem cross_bd {v w : CurveVector} (hv : okV v) (hw : okV w) : -2251799813685248 ≤ crossv v w ∧ crossv v w ≤ 2251799813685248 ∧ (-1125899906842624 ≤ v.x * w.y ∧ v.x * w.y ≤ 1125899906842624) ∧ -1125899906842624 ≤ v.y * w.x ∧ v.y * w.x ≤ 1125899906842624 := by
  obtain ⟨v1, v2, v3, v4⟩ := hv
  obtain ⟨w1, w2, w3, w4⟩ := hw
  have m1 := mul_bd ⟨v1, v2⟩ ⟨w3, w4⟩
  have m2 := mul_bd ⟨v3, v4⟩ ⟨w1, w2⟩
  unfold crossv
  omega
theorem curve_cross_eq {v w : CurveVector} (hv : okV v) (hw : okV w) : curve_vector_cross v w = some (crossv v w) := by
  have := cross_bd hv hw
  unfold crossv at this
  unfold curve_vector_cross crossv
  rw [w64_id (n := v.x * w.y) (by omega), w64_id (n := v.y * w.x) (by omega), w64_id (by omega)]
theorem ref01_Cross_eq {v w : CurveVector} (hv : okV v) (hw : okV w) : ref01_Cross (vs v) (vs w) = some (crossv v w) := by
  have := cross_bd hv hw
  unfold crossv at this
  unfold ref01_Cross crossv vs
  dsimp only
  rw [w64_id (n := v.x * w.y) (by omega), w64_id (n := v.y * w.x) (by omega), w64_id (by omega)]
end Go.Abs.Curve

namespace Go.Abs.Curve
open Go Go.Abs
end Go.Abs.Curve

namespace Go.Abs.Curve
open Go Go.Abs
def absI (x : Int) : Int := max x (-x)
/-- Whether a spot's foot lies on a piece, and the way of that foot. -/
noncomputable def hitM (n : Int) (t p q : Spot) : Bool := decide (absI (crossv (vec p q) (vec p t)) ≤ n * plen p q) && decide (-(n * plen p q) ≤ dotv (vec p q) (vec p t)) && decide (dotv (vec p q) (vec p t) ≤ (plen p q + n) * plen p q)
noncomputable def footM (t p q : Spot) : Int := max 0 (min (dotv (vec p q) (vec p t) / plen p q) (plen p q))
noncomputable def nearP (n : Int) (t : Spot) (st : Int) (p q : Spot) : List Int := cond (hitM n t p q) [st + footM t p q] []
noncomputable def nearM (n : Int) (t : Spot) : Int → List Spot → List Int
  | st, p :: q :: r => nearP n t st p q ++ nearM n t (st + plen p q) (q :: r)
  | _, _ => []
theorem nearM_cons (n : Int) (t : Spot) (st : Int) (p q : Spot) (r : List Spot) : nearM n t st (p :: q :: r) = nearP n t st p q ++ nearM n t (st + plen p q) (q :: r) := by conv => lhs; unfold nearM
theorem nearP_le (n : Int) (t : Spot) (st : Int) (p q : Spot) : (nearP n t st p q).length ≤ 1 := by unfold nearP; cases hitM n t p q <;> simp
theorem nearM_le (n : Int) (t : Spot) : ∀ (l : List Spot) (st : Int), (nearM n t st l).length ≤ l.length
  | [], _ => by simp [nearM]
  | [_], _ => by simp [nearM]
  | p :: q :: r, st => by
    have h1 := nearP_le n t st p q
    have h2 := nearM_le n t (q :: r) (st + plen p q)
    rw [nearM_cons, List.length_append]
    simp only [List.length_cons] at h2 ⊢
    omega
theorem curve_abs_eq {x : Int} (h : -2251799813685248 ≤ x ∧ x ≤ 2251799813685248) : curve_abs x = some (absI x) := by
  unfold curve_abs absI
  rw [mm2_max, w64_id (by omega), show 0 - x = -x by omega]
theorem near_step {t p q : Spot} (ht : okS t = true) (hp : okS p = true) (hq : okS q = true) {n st : Int} (hn : 0 ≤ n ∧ n ≤ 16777216) (hl : 1000 ≤ plen p q ∧ plen p q ≤ 1048576) (hst : 0 ≤ st ∧ st ≤ 1000000000) (i : Int) {out : List Int} (ho : out.length ≤ 1000000) :
    curve_Near_l1 t n out (i, ⟨p, vec p q, plen p q, st⟩) = some (.go (out ++ nearP n t st p q)) := by
  have hv := okV_vec hp hq
  have hw := okV_vec hp ht
  have hd := dot_bd hv hw
  have hx := cross_bd hv hw
  unfold curve_Near_l1
  simp only [curve_from_eq hp ht, curve_dot_eq hv hw, curve_cross_eq hv hw, curve_abs_eq (x := crossv (vec p q) (vec p t)) (by omega), Option.bind_some]
  have m1 := mul_bd (show -16777216 ≤ n ∧ n ≤ 16777216 by omega) (show -1048576 ≤ plen p q ∧ plen p q ≤ 1048576 by omega)
  have m2 := mul_bd (show -33554432 ≤ plen p q + n ∧ plen p q + n ≤ 33554432 by omega) (show -1048576 ≤ plen p q ∧ plen p q ≤ 1048576 by omega)
  have m3 : (0 - n) * plen p q = -(n * plen p q) := by grind
  rw [w64_id (n := n * plen p q) (by omega), w64_id (n := 0 - n) (by omega), w64_id (n := (0 - n) * plen p q) (by omega), m3, w64_id (n := plen p q + n) (by omega), w64_id (n := (plen p q + n) * plen p q) (by omega)]
  rw [curve_floor_eq (by omega) (by unfold wI64; omega)]
  have hf : 0 ≤ footM t p q ∧ footM t p q ≤ 1048576 := by unfold footM; omega
  simp only [Option.bind_some, mm2_max, mm2_min]
  rw [show max 0 (min (dotv (vec p q) (vec p t) / plen p q) (plen p q)) = footM t p q from rfl, w64_id (n := st + footM t p q) (by omega), appc_ok (by simp; omega), Option.bind_some]
  unfold nearP
  cases hh : hitM n t p q with
  | true =>
    unfold hitM at hh
    simp only [Bool.and_eq_true, decide_eq_true_eq] at hh
    rw [show (decide (absI (crossv (vec p q) (vec p t)) > n * plen p q) || decide (dotv (vec p q) (vec p t) < -(n * plen p q)) || decide (dotv (vec p q) (vec p t) > (plen p q + n) * plen p q)) = false by
      simp only [Bool.or_eq_false_iff, decide_eq_false_iff_not]; omega]
    rfl
  | false =>
    rw [show (decide (absI (crossv (vec p q) (vec p t)) > n * plen p q) || decide (dotv (vec p q) (vec p t) < -(n * plen p q)) || decide (dotv (vec p q) (vec p t) > (plen p q + n) * plen p q)) = true by
      cases hz : (decide (absI (crossv (vec p q) (vec p t)) > n * plen p q) || decide (dotv (vec p q) (vec p t) < -(n * plen p q)) || decide (dotv (vec p q) (vec p t) > (plen p q + n) * plen p q)) with
      | true => rfl
      | false =>
        simp only [Bool.or_eq_false_iff, decide_eq_false_iff_not] at hz
        have : hitM n t p q = true := by unfold hitM; simp only [Bool.and_eq_true, decide_eq_true_eq]; omega
        rw [this] at hh; cases hh]
    simp
theorem near_loop {t : Spot} (ht : okS t = true) {n : Int} (hn : 0 ≤ n ∧ n ≤ 16777216) : ∀ (r : List Spot) (p : Spot) (i : Nat) (st : Int) (out : List Int) (last : Option CurveVector), (p :: r).all okS = true → Good last (p :: r) → 0 ≤ st → st + 1048576 * r.length ≤ 1000000000 → out.length + r.length ≤ 1000000 →
    loopL (curve_Near_l1 t n) (fun x => x) (piecesM i st (p :: r)) out = some (out ++ nearM n t st (p :: r)) := by
  intro r
  induction r with
  | nil => intro p i st out last _ _ _ _ _; simp [piecesM, nearM, loopL]
  | cons q r ih =>
    intro p i st out last hok hg h0 hb ho
    obtain ⟨h1, h2, h3, h4, hg⟩ := hg.inv
    simp only [List.all_cons, Bool.and_eq_true] at hok
    simp only [List.length_cons] at hb ho
    have hP := nearP_le n t st p q
    rw [piecesM_consP, loopL, near_step ht hok.1 hok.2.1 hn ⟨h2, h3⟩ (by omega) i (by omega)]
    dsimp only
    rw [w64_id (by omega), ih q (i + 1) (st + plen p q) _ _ (by simp only [List.all_cons, Bool.and_eq_true]; exact hok.2) hg (by omega) (by omega) (by rw [List.length_append]; omega), nearM_cons, List.append_assoc]
/-- What Near answers. -/
noncomputable def nearA (c : Curve) (t : Spot) (n : Int) : List Int := if checkM c.Pts = 0 ∧ okS t = true ∧ 0 ≤ n ∧ n ≤ 16777216 then nearM n t 0 c.Pts else []
theorem nearA_le (c : Curve) (t : Spot) (n : Int) : (nearA c t n).length ≤ c.Pts.length := by
  unfold nearA
  split
  · exact nearM_le _ _ _ _
  · simp
theorem curve_Near_eq (c : Curve) (hl : c.Pts.length ≤ 1000000) (t : Spot) (n : Int) : curve_Near c t n = some (nearA c t n) := by
  unfold curve_Near nearA
  rw [curve_Check_eq c hl, Option.bind_some]
  by_cases h : checkM c.Pts = 0
  · simp only [h, bne_self_eq_false, Bool.not_false, cond_true]
    rw [curve_fair_eq [t] (by simp)]
    simp only [List.all_cons, List.all_nil, Bool.and_true, Option.bind_some]
    cases ht : okS t
    · rw [if_neg (fun q => by cases q.2.1)]; rfl
    by_cases hn : 0 ≤ n ∧ n ≤ 16777216
    · rw [if_pos ⟨trivial, rfl, hn⟩]
      rw [show decide (n < 0) = false from decide_eq_false (by omega), show decide (n > 16777216) = false from decide_eq_false (by omega)]
      have V := checkM_zero.1 h
      obtain ⟨p, q, r, hp⟩ := lens_valid V
      have hm := V.most
      have ho := V.ok
      have hg := V.good
      rw [piecesC_eq V]
      rw [hp] at hm ho hg ⊢
      simp only [List.length_cons] at hm
      have := near_loop ht hn (q :: r) p 0 0 [] none ho hg (by omega) (by simp only [List.length_cons]; omega) (by simp; omega)
      simp only [Bool.not_true, Bool.or_self, cond_false, Option.bind_some]
      rw [this]; rfl
    · have hd : (decide (n < 0) || decide (n > 16777216)) = true := by
        simp only [Bool.or_eq_true, decide_eq_true_eq]
        omega
      rw [if_neg (fun q => hn ⟨q.2.2.1, q.2.2.2⟩), Bool.or_assoc, hd, Bool.or_true]
      rfl
  · rw [if_neg (fun q => h q.1), show (checkM c.Pts != 0) = true from bne_iff_ne.2 h]
    rfl
end Go.Abs.Curve

namespace Go.Abs.Curve
open Go Go.Abs
/-- Whether a piece holds a spot. -/
noncomputable def onP (h : Int) (t p q : Spot) : Bool := decide (0 ≤ dotv (vec p q) (vec p t)) && decide (dotv (vec p q) (vec p t) ≤ plen p q * plen p q) && decide (absI (crossv (vec p q) (vec p t)) ≤ h * plen p q)
noncomputable def holdsM (h : Int) (t : Spot) : List Spot → Bool
  | p :: q :: r => onP h t p q || holdsM h t (q :: r)
  | _ => false
theorem holdsM_cons (h : Int) (t p q : Spot) (r : List Spot) : holdsM h t (p :: q :: r) = (onP h t p q || holdsM h t (q :: r)) := by conv => lhs; unfold holdsM
theorem holds_step {t p q : Spot} (ht : okS t = true) (hp : okS p = true) (hq : okS q = true) {h : Int} (hn : 0 ≤ h ∧ h ≤ 4000) (hl : 1000 ≤ plen p q ∧ plen p q ≤ 1048576) (i st : Int) :
    curve_Holds_l1 h t () (i, ⟨p, vec p q, plen p q, st⟩) = cond (onP h t p q) (some (.out (.inr true))) (some (.go ())) := by
  have hv := okV_vec hp hq
  have hw := okV_vec hp ht
  have hx := cross_bd hv hw
  have m1 := mul_bd (show -4000 ≤ h ∧ h ≤ 4000 by omega) (show -1048576 ≤ plen p q ∧ plen p q ≤ 1048576 by omega)
  have m2 := mul_bd (show -1048576 ≤ plen p q ∧ plen p q ≤ 1048576 by omega) (show -1048576 ≤ plen p q ∧ plen p q ≤ 1048576 by omega)
  unfold curve_Holds_l1
  simp only [curve_from_eq hp ht, curve_dot_eq hv hw, curve_cross_eq hv hw, Option.bind_some]
  rw [w64_id (n := plen p q * plen p q) (by omega), w64_id (n := h * plen p q) (by omega)]
  unfold onP
  generalize dotv (vec p q) (vec p t) = d at *
  cases hc : (decide (d ≥ 0) && decide (d ≤ plen p q * plen p q)) with
  | true =>
    simp only [cond_true, Option.bind_some, curve_abs_eq (x := crossv (vec p q) (vec p t)) (by omega), Bool.true_and]
  | false => rfl
theorem holds_loop {t : Spot} (ht : okS t = true) {h : Int} (hn : 0 ≤ h ∧ h ≤ 4000) : ∀ (r : List Spot) (p : Spot) (i : Nat) (st : Int) (last : Option CurveVector), (p :: r).all okS = true → Good last (p :: r) →
    loopL (curve_Holds_l1 h t) (fun _ => .inl ()) (piecesM i st (p :: r)) () = some (cond (holdsM h t (p :: r)) (.inr true) (.inl ())) := by
  intro r
  induction r with
  | nil => intro p i st last _ _; simp [piecesM, holdsM, loopL]
  | cons q r ih =>
    intro p i st last hok hg
    obtain ⟨h1, h2, h3, h4, hg⟩ := hg.inv
    simp only [List.all_cons, Bool.and_eq_true] at hok
    rw [piecesM_consP, loopL, holds_step ht hok.1 hok.2.1 hn ⟨h2, h3⟩ i, holdsM_cons]
    cases onP h t p q
    · simp only [cond_false, Bool.false_or]
      exact ih q (i + 1) _ _ (by simp only [List.all_cons, Bool.and_eq_true]; exact hok.2) hg
    · rfl
noncomputable def holdsA (c : Curve) (h : Int) (t : Spot) : Bool := if checkM c.Pts = 0 ∧ okS t = true ∧ 0 ≤ h ∧ h ≤ 4000 then holdsM h t c.Pts else false
theorem curve_Holds_eq (c : Curve) (hl : c.Pts.length ≤ 1000000) (h : Int) (t : Spot) : curve_Holds c h t = some (holdsA c h t) := by
  unfold curve_Holds holdsA
  rw [curve_Check_eq c hl, Option.bind_some]
  by_cases hz : checkM c.Pts = 0
  · rw [hz]
    by_cases hn : 0 ≤ h ∧ h ≤ 4000
    · rw [show decide (h < 0) = false from decide_eq_false (by omega), show decide (h > 4000) = false from decide_eq_false (by omega), curve_fair_eq [t] (by simp)]
      simp only [bne_self_eq_false, Bool.or_self, Bool.not_false, cond_true, List.all_cons, List.all_nil, Bool.and_true, Option.bind_some]
      cases ht : okS t
      · rw [if_neg (fun q => by cases q.2.1)]; rfl
      have V := checkM_zero.1 hz
      obtain ⟨p, q, r, hp⟩ := lens_valid V
      have ho := V.ok
      have hg := V.good
      rw [if_pos ⟨trivial, rfl, hn⟩, piecesC_eq V]
      rw [hp] at ho hg ⊢
      simp only [Bool.not_true, Bool.or_self, cond_false, Option.bind_some]
      rw [holds_loop ht hn (q :: r) p 0 0 none ho hg]
      cases holdsM h t (p :: q :: r) <;> rfl
    · have hd : (decide (h < 0) || decide (h > 4000)) = true := by
        simp only [Bool.or_eq_true, decide_eq_true_eq]
        omega
      rw [if_neg (fun q => hn q.2.2), Bool.or_assoc ((0 : Int) != 0), hd, Bool.or_true]
      rfl
  · rw [if_neg (fun q => hz q.1), show (checkM c.Pts != 0) = true from bne_iff_ne.2 hz]
    rfl
end Go.Abs.Curve

namespace Go.Abs.Curve
open Go Go.Abs
theorem abs_le_of_sq {x y : Int} (hy : 0 ≤ y) (h : x * x ≤ y * y) : -y ≤ x ∧ x ≤ y := by
  constructor
  · refine Int.not_lt.1 fun q => ?_
    have h1 := Int.mul_le_mul_of_nonneg_left (show y ≤ -x by omega) hy
    have h2 := Int.mul_lt_mul_of_pos_right (show y < -x by omega) (show 0 < -x by omega)
    have h3 : -x * -x = x * x := by grind
    omega
  · refine Int.not_lt.1 fun q => ?_
    have h1 := Int.mul_le_mul_of_nonneg_left (show y ≤ x by omega) hy
    have h2 := Int.mul_lt_mul_of_pos_right q (show 0 < x by omega)
    omega
theorem part_bd {v t l : Int} (hl : 0 < l) (ht : 0 ≤ t ∧ t ≤ l) : min 0 v ≤ v * t / l ∧ v * t / l ≤ max 0 v := by
  rcases Int.le_total 0 v with q | q
  · have h1 := Int.mul_nonneg q ht.1
    have h2 := Int.mul_le_mul_of_nonneg_left ht.2 q
    have h3 := Int.ediv_nonneg h1 (show 0 ≤ l by omega)
    have h4 := Int.ediv_le_of_le_mul hl h2
    omega
  · have h1 := Int.mul_nonneg (show 0 ≤ -v by omega) ht.1
    have h2 := Int.mul_le_mul_of_nonneg_left ht.2 (show 0 ≤ -v by omega)
    rw [Int.neg_mul] at h1 h2
    rw [Int.neg_mul] at h2
    have h3 := Int.le_ediv_of_mul_le hl (show v * l ≤ v * t by omega)
    have h4 := Int.ediv_le_of_le_mul hl (show v * t ≤ 0 * l by omega)
    omega
theorem okS_part {p q : Spot} (hp : okS p = true) (hq : okS q = true) {t l : Int} (hl : 0 < l) (ht : 0 ≤ t ∧ t ≤ l) : okS ⟨p.X + (vec p q).x * t / l, p.Y + (vec p q).y * t / l⟩ = true := by
  have h1 := okS_iff.1 hp
  have h2 := okS_iff.1 hq
  have p1 := part_bd (v := (vec p q).x) hl ht
  have p2 := part_bd (v := (vec p q).y) hl ht
  have x1 : (vec p q).x = q.X - p.X := rfl
  have x2 : (vec p q).y = q.Y - p.Y := rfl
  rw [okS_iff]
  dsimp only
  omega
end Go.Abs.Curve

namespace Go.Abs.Curve
open Go Go.Abs
theorem floor_hi {N l w E : Int} (hl : 0 < l) : (w + -(N / l) > E) ↔ (l * w - N > E * l) := by
  have h := Int.ediv_lt_iff_lt_mul (a := N) (b := w - E) hl
  have e : (w - E) * l = l * w - E * l := by grind
  omega
theorem floor_lo {N l w E : Int} (hl : 0 < l) : (w + N / l < E) ↔ (l * w + N < E * l) := by
  have h := Int.ediv_lt_iff_lt_mul (a := N) (b := E - w) hl
  have e : (E - w) * l = E * l - l * w := by grind
  omega
def leftv (v : CurveVector) : CurveVector := ⟨-v.y, v.x⟩
/-- A corridor whose numbers are in range. -/
structure Cor (c : CurveCorridor) : Prop where
  p : okS c.piece.p = true
  l1 : 1000 ≤ c.piece.l
  l2 : c.piece.l ≤ 1048576
  sq : c.piece.l * c.piece.l = dotv c.piece.v c.piece.v
  x : -c.piece.l ≤ c.piece.v.x ∧ c.piece.v.x ≤ c.piece.l
  y : -c.piece.l ≤ c.piece.v.y ∧ c.piece.v.y ≤ c.piece.l
  h : 0 ≤ c.half ∧ c.half ≤ 4000
  e1 : 0 ≤ c.ends.1 ∧ c.ends.1 ≤ c.piece.l
  e2 : 0 ≤ c.ends.2 ∧ c.ends.2 ≤ c.piece.l
/-- One axis: the first interval is E1 to E2, the second lies about w. -/
def axis (w k m h l e1 e2 E1 E2 : Int) : Bool := decide (l * w + min (e1 * k) (e2 * k) - h * absI m > E2 * l) || decide (l * w + max (e1 * k) (e2 * k) + h * absI m < E1 * l)
def wv (c d : CurveCorridor) : CurveVector := vec c.piece.p d.piece.p
def apartM (c d : CurveCorridor) : Bool :=
  axis (dotv (wv c d) c.piece.v) (dotv d.piece.v c.piece.v) (dotv (leftv d.piece.v) c.piece.v) d.half d.piece.l d.ends.1 d.ends.2 (c.ends.1 * c.piece.l) (c.ends.2 * c.piece.l) ||
  axis (dotv (wv c d) (leftv c.piece.v)) (dotv d.piece.v (leftv c.piece.v)) (dotv (leftv d.piece.v) (leftv c.piece.v)) d.half d.piece.l d.ends.1 d.ends.2 (-(c.half * c.piece.l)) (c.half * c.piece.l)
theorem curve_left_eq {v : CurveVector} (_ : -1048576 ≤ v.x ∧ v.x ≤ 1048576) (h2 : -1048576 ≤ v.y ∧ v.y ≤ 1048576) : curve_vector_left v = some (leftv v) := by
  unfold curve_vector_left leftv
  rw [w64_id (by omega), show 0 - v.y = -v.y by omega]
theorem dot_small {v w : CurveVector} (hx : -1048576 ≤ v.x ∧ v.x ≤ 1048576) (hy : -1048576 ≤ v.y ∧ v.y ≤ 1048576) (wx : -1048576 ≤ w.x ∧ w.x ≤ 1048576) (wy : -1048576 ≤ w.y ∧ w.y ≤ 1048576) : -2199023255552 ≤ dotv v w ∧ dotv v w ≤ 2199023255552 := by
  have m1 := mul_bd hx wx
  have m2 := mul_bd hy wy
  unfold dotv
  omega
theorem curve_axis {w k m h l e1 e2 : Int} (hw : -2251799813685248 ≤ w ∧ w ≤ 2251799813685248) (hk : -2199023255552 ≤ k ∧ k ≤ 2199023255552) (hm : -2199023255552 ≤ m ∧ m ≤ 2199023255552) (hh : 0 ≤ h ∧ h ≤ 4000) (hl : 1000 ≤ l ∧ l ≤ 1048576) (he1 : 0 ≤ e1 ∧ e1 ≤ l) (he2 : 0 ≤ e2 ∧ e2 ≤ l) :
    ∃ f g, curve_floor (w64 (w64 (h * absI m) - mm2 false (w64 (e1 * k)) (w64 (e2 * k)))) l = some f ∧ curve_floor (w64 (mm2 true (w64 (e1 * k)) (w64 (e2 * k)) + w64 (h * absI m))) l = some g ∧
      ∀ E1 E2 : Int, (decide (w64 (w + w64 (0 - f)) > E2) || decide (w64 (w + g) < E1)) = axis w k m h l e1 e2 E1 E2 := by
  have ha : 0 ≤ absI m ∧ absI m ≤ 2199023255552 := by unfold absI; omega
  have m1 := mul_bd (show -1048576 ≤ e1 ∧ e1 ≤ 1048576 by omega) hk
  have m2 := mul_bd (show -1048576 ≤ e2 ∧ e2 ≤ 1048576 by omega) hk
  have m3 := mul_bd (show -4000 ≤ h ∧ h ≤ 4000 by omega) (show -2199023255552 ≤ absI m ∧ absI m ≤ 2199023255552 by omega)
  rw [w64_id (n := h * absI m) (by omega), w64_id (n := e1 * k) (by omega), w64_id (n := e2 * k) (by omega), mm2_max, mm2_min, w64_id (n := h * absI m - _) (by omega), w64_id (n := max _ _ + _) (by omega)]
  rw [curve_floor_eq (by omega) (by unfold wI64; omega), curve_floor_eq (by omega) (by unfold wI64; omega)]
  have hd : ∀ N : Int, -2400000000000000000 ≤ N → N ≤ 2400000000000000000 → -2400000000000000 ≤ N / l ∧ N / l ≤ 2400000000000000 := by
    intro N n1 n2
    constructor
    · exact Int.le_ediv_of_mul_le (by omega) (by omega)
    · exact Int.ediv_le_of_le_mul (by omega) (by omega)
  have d1 := hd (h * absI m - min (e1 * k) (e2 * k)) (by omega) (by omega)
  have d2 := hd (max (e1 * k) (e2 * k) + h * absI m) (by omega) (by omega)
  refine ⟨_, _, rfl, rfl, ?_⟩
  intro E1 E2
  rw [w64_id (n := 0 - _) (by omega), w64_id (n := w + (0 - _)) (by omega), w64_id (n := w + _ / l) (by omega), Int.zero_sub]
  unfold axis
  congr 1
  · exact decide_eq_decide.2 ((floor_hi (by omega)).trans (by omega))
  · exact decide_eq_decide.2 ((floor_lo (by omega)).trans (by omega))
theorem curve_apart_eq {c d : CurveCorridor} (C : Cor c) (D : Cor d) : curve_corridor_apart c d = some (apartM c d) := by
  have c1 := C.l1
  have c2 := C.l2
  have d1 := D.l1
  have d2 := D.l2
  obtain ⟨cx1, cx2⟩ := C.x
  obtain ⟨cy1, cy2⟩ := C.y
  obtain ⟨dx1, dx2⟩ := D.x
  obtain ⟨dy1, dy2⟩ := D.y
  have ch := C.h
  have ce1 := C.e1
  have ce2 := C.e2
  have hcv : okV c.piece.v := ⟨by omega, by omega, by omega, by omega⟩
  have hdv : okV d.piece.v := ⟨by omega, by omega, by omega, by omega⟩
  have hcl : okV (leftv c.piece.v) := ⟨by unfold leftv; dsimp only; omega, by unfold leftv; dsimp only; omega, by unfold leftv; dsimp only; omega, by unfold leftv; dsimp only; omega⟩
  have hdl : okV (leftv d.piece.v) := ⟨by unfold leftv; dsimp only; omega, by unfold leftv; dsimp only; omega, by unfold leftv; dsimp only; omega, by unfold leftv; dsimp only; omega⟩
  have hw := okV_vec C.p D.p
  have lx : (leftv c.piece.v).x = -c.piece.v.y ∧ (leftv c.piece.v).y = c.piece.v.x := ⟨rfl, rfl⟩
  have ly : (leftv d.piece.v).x = -d.piece.v.y ∧ (leftv d.piece.v).y = d.piece.v.x := ⟨rfl, rfl⟩
  have k1 := dot_small (v := d.piece.v) (w := c.piece.v) (by omega) (by omega) (by omega) (by omega)
  have k2 := dot_small (v := leftv d.piece.v) (w := c.piece.v) (by omega) (by omega) (by omega) (by omega)
  have k3 := dot_small (v := d.piece.v) (w := leftv c.piece.v) (by omega) (by omega) (by omega) (by omega)
  have k4 := dot_small (v := leftv d.piece.v) (w := leftv c.piece.v) (by omega) (by omega) (by omega) (by omega)
  have w1 := dot_bd hw hcv
  have w2 := dot_bd hw hcl
  have q1 := mul_bd (show -1048576 ≤ c.ends.1 ∧ c.ends.1 ≤ 1048576 by omega) (show -1048576 ≤ c.piece.l ∧ c.piece.l ≤ 1048576 by omega)
  have q2 := mul_bd (show -1048576 ≤ c.ends.2 ∧ c.ends.2 ≤ 1048576 by omega) (show -1048576 ≤ c.piece.l ∧ c.piece.l ≤ 1048576 by omega)
  have q3 := mul_bd (show -4000 ≤ c.half ∧ c.half ≤ 4000 by omega) (show -1048576 ≤ c.piece.l ∧ c.piece.l ≤ 1048576 by omega)
  have q4 : (0 - c.half) * c.piece.l = -(c.half * c.piece.l) := by grind
  obtain ⟨f1, g1, h1, h2, h3⟩ := curve_axis (w := dotv (wv c d) c.piece.v) (by unfold wv; omega) k1 k2 D.h ⟨d1, d2⟩ D.e1 D.e2
  obtain ⟨f2, g2, h4, h5, h6⟩ := curve_axis (w := dotv (wv c d) (leftv c.piece.v)) (by unfold wv; omega) k3 k4 D.h ⟨d1, d2⟩ D.e1 D.e2
  unfold curve_corridor_apart apartM
  simp only [curve_from_eq C.p D.p, curve_left_eq (v := c.piece.v) (by omega) (by omega), curve_left_eq (v := d.piece.v) (by omega) (by omega), Option.bind_some, curve_dot_eq hdv hcv, curve_dot_eq hdl hcv, curve_dot_eq hw hcv, curve_dot_eq hdv hcl, curve_dot_eq hdl hcl, curve_dot_eq hw hcl,
    curve_abs_eq (x := dotv (leftv d.piece.v) c.piece.v) (by omega), curve_abs_eq (x := dotv (leftv d.piece.v) (leftv c.piece.v)) (by omega), h1, h2, h4, h5]
  rw [w64_id (n := c.ends.2 * c.piece.l) (by omega), w64_id (n := c.ends.1 * c.piece.l) (by omega), w64_id (n := c.half * c.piece.l) (by omega), w64_id (n := 0 - c.half) (by omega), w64_id (n := (0 - c.half) * c.piece.l) (by omega), q4]
  have r1 := h3 (c.ends.1 * c.piece.l) (c.ends.2 * c.piece.l)
  have r2 := h6 (-(c.half * c.piece.l)) (c.half * c.piece.l)
  unfold wv at r1 r2 ⊢
  rw [r1, r2]
  cases axis (dotv (vec c.piece.p d.piece.p) c.piece.v) (dotv d.piece.v c.piece.v) (dotv (leftv d.piece.v) c.piece.v) d.half d.piece.l d.ends.1 d.ends.2 (c.ends.1 * c.piece.l) (c.ends.2 * c.piece.l)
  · cases axis (dotv (vec c.piece.p d.piece.p) (leftv c.piece.v)) (dotv d.piece.v (leftv c.piece.v)) (dotv (leftv d.piece.v) (leftv c.piece.v)) d.half d.piece.l d.ends.1 d.ends.2 (-(c.half * c.piece.l)) (c.half * c.piece.l) <;> rfl
  · rfl
end Go.Abs.Curve

namespace Go.Abs.Curve
open Go Go.Abs
def stp (c : CurveCorridor) : Ref01Stripe := ⟨c.piece.p, vs c.piece.v, c.piece.l, c.half, c.ends.1, c.ends.2⟩
theorem cross_left (v w : CurveVector) : crossv v w = dotv w (leftv v) := by unfold crossv dotv leftv; dsimp only; grind
theorem near_core {lc ld hc hd K M L W1 W2 N : Int} (lc0 : 0 ≤ lc) (ld0 : 0 ≤ ld) (hc0 : 0 ≤ hc) (hd0 : 0 ≤ hd) (L0 : 0 < L) (hKM : K * K + M * M = L * L)
    (b1 : -(lc * L + (ld * K + hd * M)) ≤ ld * W1 ∧ ld * W1 ≤ lc * L + (ld * K + hd * M)) (b2 : -(hc * L + (ld * M + hd * K)) ≤ ld * W2 ∧ ld * W2 ≤ hc * L + (ld * M + hd * K))
    (hN : W1 * W1 + W2 * W2 = N * (lc * lc)) (hL : L = lc * ld) : N ≤ (lc + ld + hc + hd) * (lc + ld + hc + hd) := by
  have k0 := sq_nonneg K
  have m0 := sq_nonneg M
  have kL := (abs_le_of_sq (x := K) (y := L) (by omega) (by omega)).2
  have mL := (abs_le_of_sq (x := M) (y := L) (by omega) (by omega)).2
  have p1 := Int.mul_le_mul_of_nonneg_left kL ld0
  have p2 := Int.mul_le_mul_of_nonneg_left mL hd0
  have p3 := Int.mul_le_mul_of_nonneg_left mL ld0
  have p4 := Int.mul_le_mul_of_nonneg_left kL hd0
  have s1 := sq_le b1.1 b1.2
  have s2 := sq_le b2.1 b2.2
  have d := sq_nonneg (K - M)
  have d2 : (K - M) * (K - M) = K * K + M * M - 2 * (K * M) := by grind
  have x1 := Int.mul_le_mul_of_nonneg_left (show 2 * (K * M) ≤ L * L by omega) (Int.mul_nonneg ld0 hd0)
  have e1 : (ld * K + hd * M) * (ld * K + hd * M) + (ld * M + hd * K) * (ld * M + hd * K) = (ld * ld + hd * hd) * (L * L) + 2 * (ld * hd * (2 * (K * M))) := by grind
  have e2 : (ld + hd) * (ld + hd) * (L * L) = (ld * ld + hd * hd) * (L * L) + 2 * (ld * hd * (L * L)) := by grind
  have x2 := Int.mul_le_mul_of_nonneg_left (show ld * K + hd * M ≤ (ld + hd) * L by rw [Int.add_mul]; omega) (Int.mul_nonneg lc0 (show 0 ≤ L by omega))
  have x3 := Int.mul_le_mul_of_nonneg_left (show ld * M + hd * K ≤ (ld + hd) * L by rw [Int.add_mul]; omega) (Int.mul_nonneg hc0 (show 0 ≤ L by omega))
  have x4 := Int.mul_nonneg (Int.mul_nonneg lc0 hc0) (Int.mul_nonneg (show 0 ≤ L by omega) (show 0 ≤ L by omega))
  have e3 : (lc * L + (ld * K + hd * M)) * (lc * L + (ld * K + hd * M)) = lc * lc * (L * L) + 2 * (lc * L * (ld * K + hd * M)) + (ld * K + hd * M) * (ld * K + hd * M) := by grind
  have e4 : (hc * L + (ld * M + hd * K)) * (hc * L + (ld * M + hd * K)) = hc * hc * (L * L) + 2 * (hc * L * (ld * M + hd * K)) + (ld * M + hd * K) * (ld * M + hd * K) := by grind
  have e5 : L * L * ((lc + ld + hc + hd) * (lc + ld + hc + hd)) = lc * lc * (L * L) + hc * hc * (L * L) + 2 * (lc * hc * (L * L)) + 2 * (lc * L * ((ld + hd) * L)) + 2 * (hc * L * ((ld + hd) * L)) + (ld + hd) * (ld + hd) * (L * L) := by grind
  have e6 : ld * W1 * (ld * W1) + ld * W2 * (ld * W2) = L * L * N := by
    have : ld * W1 * (ld * W1) + ld * W2 * (ld * W2) = ld * ld * (W1 * W1 + W2 * W2) := by grind
    rw [this, hN, hL]; grind
  exact Int.le_of_mul_le_mul_left (show L * L * N ≤ L * L * ((lc + ld + hc + hd) * (lc + ld + hc + hd)) by omega) (Int.mul_pos L0 L0)
def R2 (c d : CurveCorridor) : Int := (c.piece.l + d.piece.l + c.half + d.half) * (c.piece.l + d.piece.l + c.half + d.half)
theorem lagrange (v w : CurveVector) : dotv w v * dotv w v + dotv w (leftv v) * dotv w (leftv v) = dotv w w * dotv v v := by unfold dotv leftv; dsimp only; grind
theorem ends_bd {e1 e2 k l : Int} (he1 : 0 ≤ e1 ∧ e1 ≤ l) (he2 : 0 ≤ e2 ∧ e2 ≤ l) : -(l * absI k) ≤ min (e1 * k) (e2 * k) ∧ max (e1 * k) (e2 * k) ≤ l * absI k := by
  have ha : -(absI k) ≤ k ∧ k ≤ absI k := by unfold absI; omega
  have m1 := mul_bd (show -l ≤ e1 ∧ e1 ≤ l by omega) ha
  have m2 := mul_bd (show -l ≤ e2 ∧ e2 ≤ l by omega) ha
  omega
theorem absI_sq (k : Int) : absI k * absI k = k * k := by
  unfold absI
  rcases Int.le_total 0 k with h | h
  · rw [Int.max_eq_left (by omega)]
  · rw [Int.max_eq_right (by omega)]; grind
theorem axis_false {w k m h l e1 e2 E1 E2 : Int} (he1 : 0 ≤ e1 ∧ e1 ≤ l) (he2 : 0 ≤ e2 ∧ e2 ≤ l) (ha : axis w k m h l e1 e2 E1 E2 = false) : E1 * l - (l * absI k + h * absI m) ≤ l * w ∧ l * w ≤ E2 * l + (l * absI k + h * absI m) := by
  have hb := ends_bd (k := k) he1 he2
  unfold axis at ha
  simp only [Bool.or_eq_false_iff, decide_eq_false_iff_not] at ha
  omega
/-- Corridors that one pair of axes does not part lie near each other. -/
theorem near_of_apart {c d : CurveCorridor} (C : Cor c) (D : Cor d) (h : apartM c d = false) : dotv (wv c d) (wv c d) ≤ R2 c d := by
  unfold apartM at h
  rw [Bool.or_eq_false_iff] at h
  obtain ⟨a1, a2⟩ := axis_false D.e1 D.e2 h.1
  obtain ⟨a3, a4⟩ := axis_false D.e1 D.e2 h.2
  have c1 := C.l1
  have d1 := D.l1
  have ce1 := C.e1
  have ce2 := C.e2
  have ch := C.h
  have dh := D.h
  have i1 : dotv d.piece.v (leftv c.piece.v) = -(dotv (leftv d.piece.v) c.piece.v) := by unfold dotv leftv; dsimp only; grind
  have i2 : dotv (leftv d.piece.v) (leftv c.piece.v) = dotv d.piece.v c.piece.v := by unfold dotv leftv; dsimp only; grind
  have i3 : absI (-(dotv (leftv d.piece.v) c.piece.v)) = absI (dotv (leftv d.piece.v) c.piece.v) := by unfold absI; omega
  rw [i1, i2, i3] at a3 a4
  have g1 := lagrange c.piece.v d.piece.v
  have g2 := lagrange c.piece.v (wv c d)
  rw [← C.sq, ← D.sq, i1, Int.neg_mul_neg, ← absI_sq, ← absI_sq (dotv (leftv d.piece.v) c.piece.v)] at g1
  rw [← C.sq] at g2
  have L0 := Int.mul_pos (show 0 < c.piece.l by omega) (show 0 < d.piece.l by omega)
  have q1 := Int.mul_le_mul_of_nonneg_right ce2.2 (Int.le_of_lt L0)
  have q2 := Int.mul_nonneg ce1.1 (Int.le_of_lt L0)
  have q3 : c.ends.2 * c.piece.l * d.piece.l = c.ends.2 * (c.piece.l * d.piece.l) := by grind
  have q4 : c.ends.1 * c.piece.l * d.piece.l = c.ends.1 * (c.piece.l * d.piece.l) := by grind
  have q5 : c.half * c.piece.l * d.piece.l = c.half * (c.piece.l * d.piece.l) := by grind
  have q6 : -(c.half * c.piece.l) * d.piece.l = -(c.half * (c.piece.l * d.piece.l)) := by grind
  have q7 := Int.mul_nonneg (show 0 ≤ c.piece.l by omega) (Int.le_of_lt L0)
  unfold R2
  exact near_core (lc := c.piece.l) (ld := d.piece.l) (hc := c.half) (hd := d.half) (K := absI (dotv d.piece.v c.piece.v)) (M := absI (dotv (leftv d.piece.v) c.piece.v)) (L := c.piece.l * d.piece.l) (W1 := dotv (wv c d) c.piece.v) (W2 := dotv (wv c d) (leftv c.piece.v))
    (by omega) (by omega) ch.1 dh.1 L0 (by rw [g1]; grind) (by omega) (by omega) (by rw [g2]) rfl
theorem w_bd {c d : CurveCorridor} (C : Cor c) (D : Cor d) (h : dotv (wv c d) (wv c d) ≤ R2 c d) : (-2207412060160 ≤ dotv (wv c d) c.piece.v ∧ dotv (wv c d) c.piece.v ≤ 2207412060160) ∧ -2207412060160 ≤ dotv (wv c d) (leftv c.piece.v) ∧ dotv (wv c d) (leftv c.piece.v) ≤ 2207412060160 := by
  have c1 := C.l1
  have c2 := C.l2
  have d1 := D.l1
  have d2 := D.l2
  have ch := C.h
  have dh := D.h
  have g2 := lagrange c.piece.v (wv c d)
  rw [← C.sq] at g2
  have s1 := sq_nonneg (dotv (wv c d) c.piece.v)
  have s2 := sq_nonneg (dotv (wv c d) (leftv c.piece.v))
  have k := Int.mul_le_mul_of_nonneg_right h (sq_nonneg c.piece.l)
  have k2 : R2 c d * (c.piece.l * c.piece.l) = ((c.piece.l + d.piece.l + c.half + d.half) * c.piece.l) * ((c.piece.l + d.piece.l + c.half + d.half) * c.piece.l) := by unfold R2; grind
  have b := mul_bd (show -2105152 ≤ c.piece.l + d.piece.l + c.half + d.half ∧ c.piece.l + d.piece.l + c.half + d.half ≤ 2105152 by omega) (show -1048576 ≤ c.piece.l ∧ c.piece.l ≤ 1048576 by omega)
  have b0 := Int.mul_nonneg (show 0 ≤ c.piece.l + d.piece.l + c.half + d.half by omega) (show 0 ≤ c.piece.l by omega)
  have r1 := abs_le_of_sq (x := dotv (wv c d) c.piece.v) b0 (by omega)
  have r2 := abs_le_of_sq (x := dotv (wv c d) (leftv c.piece.v)) b0 (by omega)
  omega
/-- The value of a corner. -/
def cv (w k m l y z : Int) : Int := l * w + y * k + z * m
theorem outside_step {c d : CurveCorridor} (C : Cor c) (D : Cor d) (h : dotv (wv c d) (wv c d) ≤ R2 c d) (i y z : Int) (a0 a1 a2 a3 b0 b1 b2 b3 : Int)
    (hi : 0 ≤ i ∧ i < 4) (hy : cond ((i.tmod 2) == 1) (some d.ends.2) (some d.ends.1) = some y) (hz : cond (decide (i ≥ 2)) (some (w64 (0 - d.half))) (some d.half) = some z)
    (yb : 0 ≤ y ∧ y ≤ 1048576) (zb : -4000 ≤ z ∧ z ≤ 4000)
    (hb : cond (i == 0) (cv (dotv (wv c d) c.piece.v) (dotv d.piece.v c.piece.v) (dotv (leftv d.piece.v) c.piece.v) d.piece.l y z, cv (dotv (wv c d) c.piece.v) (dotv d.piece.v c.piece.v) (dotv (leftv d.piece.v) c.piece.v) d.piece.l y z, cv (dotv (wv c d) (leftv c.piece.v)) (dotv d.piece.v (leftv c.piece.v)) (dotv (leftv d.piece.v) (leftv c.piece.v)) d.piece.l y z, cv (dotv (wv c d) (leftv c.piece.v)) (dotv d.piece.v (leftv c.piece.v)) (dotv (leftv d.piece.v) (leftv c.piece.v)) d.piece.l y z) (a0, a1, a2, a3) = (b0, b1, b2, b3)) :
    ref01_outside_l1 (stp c) (stp d) (vs (wv c d)) (a0, a1, a2, a3, i) = some (.go (
      min b0 (cv (dotv (wv c d) c.piece.v) (dotv d.piece.v c.piece.v) (dotv (leftv d.piece.v) c.piece.v) d.piece.l y z),
      max b1 (cv (dotv (wv c d) c.piece.v) (dotv d.piece.v c.piece.v) (dotv (leftv d.piece.v) c.piece.v) d.piece.l y z),
      min b2 (cv (dotv (wv c d) (leftv c.piece.v)) (dotv d.piece.v (leftv c.piece.v)) (dotv (leftv d.piece.v) (leftv c.piece.v)) d.piece.l y z),
      max b3 (cv (dotv (wv c d) (leftv c.piece.v)) (dotv d.piece.v (leftv c.piece.v)) (dotv (leftv d.piece.v) (leftv c.piece.v)) d.piece.l y z), i + 1)) := by
  have c1 := C.l1
  have c2 := C.l2
  have d1 := D.l1
  have d2 := D.l2
  obtain ⟨cx1, cx2⟩ := C.x
  obtain ⟨cy1, cy2⟩ := C.y
  obtain ⟨dx1, dx2⟩ := D.x
  obtain ⟨dy1, dy2⟩ := D.y
  obtain ⟨w1, w2⟩ := w_bd C D h
  have hcv : okV c.piece.v := ⟨by omega, by omega, by omega, by omega⟩
  have hdv : okV d.piece.v := ⟨by omega, by omega, by omega, by omega⟩
  have hdl : okV (leftv d.piece.v) := ⟨by unfold leftv; dsimp only; omega, by unfold leftv; dsimp only; omega, by unfold leftv; dsimp only; omega, by unfold leftv; dsimp only; omega⟩
  have hw : okV (wv c d) := okV_vec C.p D.p
  have lx : (leftv c.piece.v).x = -c.piece.v.y ∧ (leftv c.piece.v).y = c.piece.v.x := ⟨rfl, rfl⟩
  have ly : (leftv d.piece.v).x = -d.piece.v.y ∧ (leftv d.piece.v).y = d.piece.v.x := ⟨rfl, rfl⟩
  have k1 := dot_small (v := d.piece.v) (w := c.piece.v) (by omega) (by omega) (by omega) (by omega)
  have k2 := dot_small (v := leftv d.piece.v) (w := c.piece.v) (by omega) (by omega) (by omega) (by omega)
  have k3 := dot_small (v := d.piece.v) (w := leftv c.piece.v) (by omega) (by omega) (by omega) (by omega)
  have k4 := dot_small (v := leftv d.piece.v) (w := leftv c.piece.v) (by omega) (by omega) (by omega) (by omega)
  have hl : (⟨w64 (0 - (stp d).v.Y), (stp d).v.X⟩ : Spot) = vs (leftv d.piece.v) := by
    unfold stp vs leftv
    dsimp only
    rw [w64_id (by omega), Int.zero_sub]
  have m1 := mul_bd (show -1048576 ≤ d.piece.l ∧ d.piece.l ≤ 1048576 by omega) w1
  have m2 := mul_bd (show -1048576 ≤ d.piece.l ∧ d.piece.l ≤ 1048576 by omega) w2
  have m3 := mul_bd (show -1048576 ≤ y ∧ y ≤ 1048576 by omega) k1
  have m4 := mul_bd (show -1048576 ≤ y ∧ y ≤ 1048576 by omega) k3
  have m5 := mul_bd zb k2
  have m6 := mul_bd zb k4
  unfold ref01_outside_l1
  dsimp only
  rw [show decide (i < 4) = true from decide_eq_true (by omega), cond_true]
  rw [show (stp d).t = d.ends.2 from rfl, show (stp d).s = d.ends.1 from rfl, show (stp d).h = d.half from rfl, hy, Option.bind_some, hz, Option.bind_some, hl]
  rw [show (stp c).v = vs c.piece.v from rfl, show (stp d).v = vs d.piece.v from rfl, show (stp d).l = d.piece.l from rfl]
  simp only [ref01_Dot_eq hw hcv, ref01_Dot_eq hdv hcv, ref01_Dot_eq hdl hcv, ref01_Cross_eq hcv hw, ref01_Cross_eq hcv hdv, ref01_Cross_eq hcv hdl, Option.bind_some, cross_left]
  rw [w64_id (n := d.piece.l * dotv (wv c d) c.piece.v) (by omega), w64_id (n := y * dotv d.piece.v c.piece.v) (by omega), w64_id (n := z * dotv (leftv d.piece.v) c.piece.v) (by omega), w64_id (n := d.piece.l * dotv (wv c d) c.piece.v + y * dotv d.piece.v c.piece.v) (by omega), w64_id (n := d.piece.l * dotv (wv c d) c.piece.v + y * dotv d.piece.v c.piece.v + _) (by omega)]
  rw [w64_id (n := d.piece.l * dotv (wv c d) (leftv c.piece.v)) (by omega), w64_id (n := y * dotv d.piece.v (leftv c.piece.v)) (by omega), w64_id (n := z * dotv (leftv d.piece.v) (leftv c.piece.v)) (by omega), w64_id (n := d.piece.l * dotv (wv c d) (leftv c.piece.v) + y * dotv d.piece.v (leftv c.piece.v)) (by omega), w64_id (n := d.piece.l * dotv (wv c d) (leftv c.piece.v) + y * dotv d.piece.v (leftv c.piece.v) + _) (by omega), w64_id (n := i + 1) (by omega)]
  unfold cv at hb ⊢
  have hb2 : (cond (i == 0) (some (d.piece.l * dotv (wv c d) c.piece.v + y * dotv d.piece.v c.piece.v + z * dotv (leftv d.piece.v) c.piece.v, d.piece.l * dotv (wv c d) c.piece.v + y * dotv d.piece.v c.piece.v + z * dotv (leftv d.piece.v) c.piece.v, d.piece.l * dotv (wv c d) (leftv c.piece.v) + y * dotv d.piece.v (leftv c.piece.v) + z * dotv (leftv d.piece.v) (leftv c.piece.v), d.piece.l * dotv (wv c d) (leftv c.piece.v) + y * dotv d.piece.v (leftv c.piece.v) + z * dotv (leftv d.piece.v) (leftv c.piece.v))) (some (a0, a1, a2, a3)) : Option (Int × Int × Int × Int)) = some (b0, b1, b2, b3) := by
    rw [← hb]; cases (i == 0) <;> rfl
  rw [hb2]
  simp only [Option.bind_some, mm2_max, mm2_min]
theorem h_abs {h m : Int} (hh : 0 ≤ h) : h * absI m = max (h * m) (-(h * m)) := by
  unfold absI
  rcases Int.le_total 0 m with q | q
  · have := Int.mul_nonneg hh q
    rw [Int.max_eq_left (by omega), Int.max_eq_left (by omega)]
  · have := Int.mul_nonneg hh (show 0 ≤ -m by omega)
    rw [Int.mul_neg] at this
    rw [Int.max_eq_right (by omega), Int.mul_neg, Int.max_eq_right (by omega)]
theorem outside_eq {c d : CurveCorridor} (C : Cor c) (D : Cor d) (h : dotv (wv c d) (wv c d) ≤ R2 c d) : ref01_outside (stp c) (stp d) = some (apartM c d) := by
  have c1 := C.l1
  have c2 := C.l2
  have d1 := D.l1
  have d2 := D.l2
  have ch := C.h
  have dh := D.h
  have ce1 := C.e1
  have ce2 := C.e2
  have de1 := D.e1
  have de2 := D.e2
  have hz : w64 (0 - d.half) = -d.half := by rw [w64_id (by omega), Int.zero_sub]
  have s0 := outside_step C D h 0 d.ends.1 d.half 0 0 0 0 _ _ _ _ (by decide) rfl rfl (by omega) (by omega) rfl
  have s1 := fun a b e f => outside_step C D h 1 d.ends.2 d.half a b e f a b e f (by decide) rfl rfl (by omega) (by omega) rfl
  have s2 := fun a b e f => outside_step C D h 2 d.ends.1 (-d.half) a b e f a b e f (by decide) rfl (by rw [← hz]; rfl) (by omega) (by omega) rfl
  have s3 := fun a b e f => outside_step C D h 3 d.ends.2 (-d.half) a b e f a b e f (by decide) rfl (by rw [← hz]; rfl) (by omega) (by omega) rfl
  have s4 : ∀ a b e f : Int, ref01_outside_l1 (stp c) (stp d) (vs (wv c d)) (a, b, e, f, 4) = some (.out (a, b, e, f)) := fun _ _ _ _ => rfl
  unfold ref01_outside
  rw [show ref01_Minus (stp d).p (stp c).p = some (vs (wv c d)) from ref01_Minus_eq C.p D.p, Option.bind_some]
  rw [loop_go s0, show (0 : Int) + 1 = 1 from rfl, loop_go (s1 _ _ _ _), show (1 : Int) + 1 = 2 from rfl, loop_go (s2 _ _ _ _), show (2 : Int) + 1 = 3 from rfl, loop_go (s3 _ _ _ _), show (3 : Int) + 1 = 4 from rfl, loop_out (s4 _ _ _ _), Option.bind_some]
  have L := mul_bd (show -1048576 ≤ c.piece.l ∧ c.piece.l ≤ 1048576 by omega) (show -1048576 ≤ d.piece.l ∧ d.piece.l ≤ 1048576 by omega)
  have q1 := mul_bd (show -1048576 ≤ c.ends.1 ∧ c.ends.1 ≤ 1048576 by omega) L
  have q2 := mul_bd (show -1048576 ≤ c.ends.2 ∧ c.ends.2 ≤ 1048576 by omega) L
  have q3 := mul_bd (show -4000 ≤ c.half ∧ c.half ≤ 4000 by omega) L
  have q4 : (0 - c.half) * (c.piece.l * d.piece.l) = -(c.half * (c.piece.l * d.piece.l)) := by grind
  rw [show (stp c).l = c.piece.l from rfl, show (stp d).l = d.piece.l from rfl, show (stp c).s = c.ends.1 from rfl, show (stp c).t = c.ends.2 from rfl, show (stp c).h = c.half from rfl]
  rw [w64_id (n := c.piece.l * d.piece.l) (by omega), w64_id (n := c.ends.1 * _) (by omega), w64_id (n := c.ends.2 * _) (by omega), w64_id (n := c.half * _) (by omega), w64_id (n := 0 - c.half) (by omega), w64_id (n := (0 - c.half) * _) (by omega), q4]
  congr 1
  unfold apartM axis cv
  rw [h_abs dh.1, h_abs dh.1]
  rw [show c.ends.2 * c.piece.l * d.piece.l = c.ends.2 * (c.piece.l * d.piece.l) by grind, show c.ends.1 * c.piece.l * d.piece.l = c.ends.1 * (c.piece.l * d.piece.l) by grind, show c.half * c.piece.l * d.piece.l = c.half * (c.piece.l * d.piece.l) by grind, show -(c.half * c.piece.l) * d.piece.l = -(c.half * (c.piece.l * d.piece.l)) by grind, Int.neg_mul, Int.neg_mul]
  generalize c.ends.2 * (c.piece.l * d.piece.l) = A at *
  generalize c.ends.1 * (c.piece.l * d.piece.l) = B at *
  generalize c.half * (c.piece.l * d.piece.l) = H at *
  generalize d.piece.l * dotv (wv c d) c.piece.v = x1
  generalize d.piece.l * dotv (wv c d) (leftv c.piece.v) = x2
  generalize d.ends.1 * dotv d.piece.v c.piece.v = y1
  generalize d.ends.2 * dotv d.piece.v c.piece.v = y2
  generalize d.ends.1 * dotv d.piece.v (leftv c.piece.v) = y3
  generalize d.ends.2 * dotv d.piece.v (leftv c.piece.v) = y4
  generalize d.half * dotv (leftv d.piece.v) c.piece.v = z1
  generalize d.half * dotv (leftv d.piece.v) (leftv c.piece.v) = z2
  rw [Bool.eq_iff_iff]
  simp only [Bool.or_eq_true, decide_eq_true_eq]
  have n1 : min (min (min (min (x1 + y1 + z1) (x1 + y1 + z1)) (x1 + y2 + z1)) (x1 + y1 + -z1)) (x1 + y2 + -z1) = x1 + min y1 y2 - max z1 (-z1) := by omega
  have n2 : max (max (max (max (x1 + y1 + z1) (x1 + y1 + z1)) (x1 + y2 + z1)) (x1 + y1 + -z1)) (x1 + y2 + -z1) = x1 + max y1 y2 + max z1 (-z1) := by omega
  have n3 : min (min (min (min (x2 + y3 + z2) (x2 + y3 + z2)) (x2 + y4 + z2)) (x2 + y3 + -z2)) (x2 + y4 + -z2) = x2 + min y3 y4 - max z2 (-z2) := by omega
  have n4 : max (max (max (max (x2 + y3 + z2) (x2 + y3 + z2)) (x2 + y4 + z2)) (x2 + y3 + -z2)) (x2 + y4 + -z2) = x2 + max y3 y4 + max z2 (-z2) := by omega
  rw [n1, n2, n3, n4]
  omega
/-- Two corridors meet. -/
def meetsM (c d : CurveCorridor) : Bool := !(apartM c d) && !(apartM d c)
theorem curve_meets_eq {c d : CurveCorridor} (C : Cor c) (D : Cor d) : curve_corridor_meets c d = some (meetsM c d) := by
  unfold curve_corridor_meets meetsM
  simp only [curve_apart_eq C D, curve_apart_eq D C, Option.bind_some]
  cases apartM c d <;> rfl
theorem wv_swap (c d : CurveCorridor) : dotv (wv d c) (wv d c) = dotv (wv c d) (wv c d) := by unfold wv vec dotv; dsimp only; grind
theorem R2_swap (c d : CurveCorridor) : R2 d c = R2 c d := by unfold R2; rw [show d.piece.l + c.piece.l + d.half + c.half = c.piece.l + d.piece.l + c.half + d.half by omega]
theorem ref_meet_eq {c d : CurveCorridor} (C : Cor c) (D : Cor d) : ref01_meet (stp c) (stp d) = some (meetsM c d) := by
  have c1 := C.l1
  have c2 := C.l2
  have d1 := D.l1
  have d2 := D.l2
  have ch := C.h
  have dh := D.h
  have hw : okV (wv c d) := okV_vec C.p D.p
  unfold ref01_meet meetsM
  rw [show ref01_Minus (stp d).p (stp c).p = some (vs (wv c d)) from ref01_Minus_eq C.p D.p, Option.bind_some, ref01_Dot_eq hw hw, Option.bind_some]
  rw [show (stp c).l = c.piece.l from rfl, show (stp d).l = d.piece.l from rfl, show (stp c).h = c.half from rfl, show (stp d).h = d.half from rfl]
  have b := mul_bd (show -2105152 ≤ c.piece.l + d.piece.l + c.half + d.half ∧ c.piece.l + d.piece.l + c.half + d.half ≤ 2105152 by omega) (show -2105152 ≤ c.piece.l + d.piece.l + c.half + d.half ∧ c.piece.l + d.piece.l + c.half + d.half ≤ 2105152 by omega)
  rw [w64_id (n := c.piece.l + d.piece.l) (by omega), w64_id (n := c.piece.l + d.piece.l + c.half) (by omega), w64_id (n := c.piece.l + d.piece.l + c.half + d.half) (by omega), w64_id (n := (c.piece.l + d.piece.l + c.half + d.half) * _) (by omega)]
  rw [show (c.piece.l + d.piece.l + c.half + d.half) * (c.piece.l + d.piece.l + c.half + d.half) = R2 c d from rfl]
  by_cases h : dotv (wv c d) (wv c d) ≤ R2 c d
  · simp only [h, decide_true, cond_true, Bool.true_and, outside_eq C D h, outside_eq D C (by rw [wv_swap, R2_swap]; exact h), Option.bind_some]
    cases apartM c d <;> rfl
  · have : apartM c d = true := by
      cases ha : apartM c d with
      | true => rfl
      | false => exact absurd (near_of_apart C D ha) h
    rw [this]
    simp only [h, decide_false]
    rfl
end Go.Abs.Curve

namespace Go.Abs.Curve
open Go Go.Abs
/-- The least number from lo to hi at which f holds (when f holds from there on); and the greatest. -/
def bsLo (f : Int → Bool) : Nat → Int → Int → Int
  | 0, lo, _ => lo
  | n + 1, lo, hi => if lo < hi then (if f ((lo + hi) / 2) = true then bsLo f n lo ((lo + hi) / 2) else bsLo f n ((lo + hi) / 2 + 1) hi) else lo
def bsHi (f : Int → Bool) : Nat → Int → Int → Int
  | 0, lo, _ => lo
  | n + 1, lo, hi => if lo < hi then (if f ((lo + hi + 1) / 2) = true then bsHi f n ((lo + hi + 1) / 2) hi else bsHi f n lo ((lo + hi + 1) / 2 - 1)) else lo
theorem bsLo_bd (f : Int → Bool) : ∀ (n : Nat) (lo hi : Int), lo ≤ hi → lo ≤ bsLo f n lo hi ∧ bsLo f n lo hi ≤ hi := by
  intro n
  induction n with
  | zero => intro lo hi h; exact ⟨Int.le_refl _, h⟩
  | succ n ih =>
    intro lo hi h
    rw [bsLo]
    split
    · split
      · have := ih lo ((lo + hi) / 2) (by omega); omega
      · have := ih ((lo + hi) / 2 + 1) hi (by omega); omega
    · omega
theorem bsHi_bd (f : Int → Bool) : ∀ (n : Nat) (lo hi : Int), lo ≤ hi → lo ≤ bsHi f n lo hi ∧ bsHi f n lo hi ≤ hi := by
  intro n
  induction n with
  | zero => intro lo hi h; exact ⟨Int.le_refl _, h⟩
  | succ n ih =>
    intro lo hi h
    rw [bsHi]
    split
    · split
      · have := ih ((lo + hi + 1) / 2) hi (by omega); omega
      · have := ih lo ((lo + hi + 1) / 2 - 1) (by omega); omega
    · omega
def wend (c : CurveCorridor) (a b : Int) : CurveCorridor := ⟨c.piece, c.half, (a, b)⟩
theorem Cor.wend {c : CurveCorridor} (C : Cor c) {a b : Int} (ha : 0 ≤ a ∧ a ≤ c.piece.l) (hb : 0 ≤ b ∧ b ≤ c.piece.l) : Cor (wend c a b) := ⟨C.p, C.l1, C.l2, C.sq, C.x, C.y, C.h, ha, hb⟩
def fLo (c d : CurveCorridor) (e : Int) : Bool := meetsM (wend c 0 e) d
def fHi (c d : CurveCorridor) (e : Int) : Bool := meetsM (wend c e c.piece.l) d
theorem tdiv2 {x : Int} (h : 0 ≤ x) : x.tdiv 2 = x / 2 := Int.tdiv_eq_ediv_of_nonneg h
theorem span1 {c d : CurveCorridor} (C : Cor c) (D : Cor d) : ∀ (n : Nat) (lo hi e : Int), hi - lo ≤ n → 0 ≤ lo → lo ≤ hi → hi ≤ c.piece.l →
    loop (curve_corridor_span_l1 d) (lo, hi, wend c 0 e) = some (bsLo (fLo c d) n lo hi) ∧ ∃ e', loop (ref01_common_l1 (stp d)) (lo, hi, stp (wend c 0 e)) = some (bsLo (fLo c d) n lo hi, stp (wend c 0 e')) := by
  intro n
  have c2 := C.l2
  induction n with
  | zero =>
    intro lo hi e hn h0 h1 h2
    have hd : decide (lo < hi) = false := decide_eq_false (by omega)
    refine ⟨loop_out ?_, e, loop_out ?_⟩
    · unfold curve_corridor_span_l1; dsimp only; rw [hd]; rfl
    · unfold ref01_common_l1; dsimp only; rw [hd]; rfl
  | succ n ih =>
    intro lo hi e hn h0 h1 h2
    by_cases hlt : lo < hi
    · have hd : decide (lo < hi) = true := decide_eq_true hlt
      have hm : w64 ((w64 (lo + hi)).tdiv 2) = (lo + hi) / 2 := by
        rw [w64_id (n := lo + hi) (by omega), tdiv2 (by omega), w64_id (by omega)]
      have CW := C.wend (a := 0) (b := (lo + hi) / 2) (by omega) (by omega)
      have m1 := curve_meets_eq CW D
      have m2 := ref_meet_eq CW D
      have k1 : curve_corridor_span_l1 d (lo, hi, wend c 0 e) = if fLo c d ((lo + hi) / 2) = true then some (.go (lo, (lo + hi) / 2, wend c 0 ((lo + hi) / 2))) else some (.go ((lo + hi) / 2 + 1, hi, wend c 0 ((lo + hi) / 2))) := by
        unfold curve_corridor_span_l1
        dsimp only
        rw [hd, cond_true, hm, show (CurveCorridor.mk (wend c 0 e).piece (wend c 0 e).half ((wend c 0 e).ends.1, (lo + hi) / 2)) = wend c 0 ((lo + hi) / 2) from rfl, m1, Option.bind_some, w64_id (n := (lo + hi) / 2 + 1) (by omega)]
        unfold fLo
        cases meetsM (wend c 0 ((lo + hi) / 2)) d <;> rfl
      have k2 : ref01_common_l1 (stp d) (lo, hi, stp (wend c 0 e)) = if fLo c d ((lo + hi) / 2) = true then some (.go (lo, (lo + hi) / 2, stp (wend c 0 ((lo + hi) / 2)))) else some (.go ((lo + hi) / 2 + 1, hi, stp (wend c 0 ((lo + hi) / 2)))) := by
        unfold ref01_common_l1
        dsimp only
        rw [hd, cond_true, hm, show (Ref01Stripe.mk (stp (wend c 0 e)).p (stp (wend c 0 e)).v (stp (wend c 0 e)).l (stp (wend c 0 e)).h 0 ((lo + hi) / 2)) = stp (wend c 0 ((lo + hi) / 2)) from rfl, m2, Option.bind_some, w64_id (n := (lo + hi) / 2 + 1) (by omega)]
        unfold fLo
        cases meetsM (wend c 0 ((lo + hi) / 2)) d <;> rfl
      rw [bsLo, if_pos hlt]
      by_cases hf : fLo c d ((lo + hi) / 2) = true
      · rw [if_pos hf] at k1 k2 ⊢
        rw [loop_go k1, loop_go k2]
        exact ih _ _ _ (by omega) (by omega) (by omega) (by omega)
      · rw [if_neg hf] at k1 k2 ⊢
        rw [loop_go k1, loop_go k2]
        exact ih _ _ _ (by omega) (by omega) (by omega) (by omega)
    · have hd : decide (lo < hi) = false := decide_eq_false hlt
      rw [bsLo, if_neg hlt]
      refine ⟨loop_out ?_, e, loop_out ?_⟩
      · unfold curve_corridor_span_l1; dsimp only; rw [hd]; rfl
      · unfold ref01_common_l1; dsimp only; rw [hd]; rfl
theorem span2 {c d : CurveCorridor} (C : Cor c) (D : Cor d) : ∀ (n : Nat) (lo hi e a b : Int), hi - lo ≤ n → 0 ≤ lo → lo ≤ hi → hi ≤ c.piece.l →
    loop (curve_corridor_span_l2 d) (lo, hi, wend c e c.piece.l) = some (bsHi (fHi c d) n lo hi) ∧ ∃ a' b', loop (ref01_common_l2 (stp d)) (lo, hi, stp (wend c a b)) = some (bsHi (fHi c d) n lo hi, stp (wend c a' b')) := by
  intro n
  have c1 := C.l1
  have c2 := C.l2
  induction n with
  | zero =>
    intro lo hi e a b hn h0 h1 h2
    have hd : decide (lo < hi) = false := decide_eq_false (by omega)
    refine ⟨loop_out ?_, a, b, loop_out ?_⟩
    · unfold curve_corridor_span_l2; dsimp only; rw [hd]; rfl
    · unfold ref01_common_l2; dsimp only; rw [hd]; rfl
  | succ n ih =>
    intro lo hi e a b hn h0 h1 h2
    by_cases hlt : lo < hi
    · have hd : decide (lo < hi) = true := decide_eq_true hlt
      have hm : w64 ((w64 (w64 (lo + hi) + 1)).tdiv 2) = (lo + hi + 1) / 2 := by
        rw [w64_id (n := lo + hi) (by omega), w64_id (n := lo + hi + 1) (by omega), tdiv2 (by omega), w64_id (by omega)]
      have CW := C.wend (a := (lo + hi + 1) / 2) (b := c.piece.l) (by omega) (by omega)
      have m1 := curve_meets_eq CW D
      have m2 := ref_meet_eq CW D
      have k1 : curve_corridor_span_l2 d (lo, hi, wend c e c.piece.l) = if fHi c d ((lo + hi + 1) / 2) = true then some (.go ((lo + hi + 1) / 2, hi, wend c ((lo + hi + 1) / 2) c.piece.l)) else some (.go (lo, (lo + hi + 1) / 2 - 1, wend c ((lo + hi + 1) / 2) c.piece.l)) := by
        unfold curve_corridor_span_l2
        dsimp only
        rw [hd, cond_true, hm, show (CurveCorridor.mk (wend c e c.piece.l).piece (wend c e c.piece.l).half ((lo + hi + 1) / 2, (wend c e c.piece.l).ends.2)) = wend c ((lo + hi + 1) / 2) c.piece.l from rfl, m1, Option.bind_some, w64_id (n := (lo + hi + 1) / 2 - 1) (by omega)]
        unfold fHi
        cases meetsM (wend c ((lo + hi + 1) / 2) c.piece.l) d <;> rfl
      have k2 : ref01_common_l2 (stp d) (lo, hi, stp (wend c a b)) = if fHi c d ((lo + hi + 1) / 2) = true then some (.go ((lo + hi + 1) / 2, hi, stp (wend c ((lo + hi + 1) / 2) c.piece.l))) else some (.go (lo, (lo + hi + 1) / 2 - 1, stp (wend c ((lo + hi + 1) / 2) c.piece.l))) := by
        unfold ref01_common_l2
        dsimp only
        rw [hd, cond_true, hm, show (Ref01Stripe.mk (stp (wend c a b)).p (stp (wend c a b)).v (stp (wend c a b)).l (stp (wend c a b)).h ((lo + hi + 1) / 2) (stp (wend c a b)).l) = stp (wend c ((lo + hi + 1) / 2) c.piece.l) from rfl, m2, Option.bind_some, w64_id (n := (lo + hi + 1) / 2 - 1) (by omega)]
        unfold fHi
        cases meetsM (wend c ((lo + hi + 1) / 2) c.piece.l) d <;> rfl
      rw [bsHi, if_pos hlt]
      by_cases hf : fHi c d ((lo + hi + 1) / 2) = true
      · rw [if_pos hf] at k1 k2 ⊢
        rw [loop_go k1, loop_go k2]
        exact ih _ _ _ _ _ (by omega) (by omega) (by omega) (by omega)
      · rw [if_neg hf] at k1 k2 ⊢
        rw [loop_go k1, loop_go k2]
        exact ih _ _ _ _ _ (by omega) (by omega) (by omega) (by omega)
    · have hd : decide (lo < hi) = false := decide_eq_false hlt
      rw [bsHi, if_neg hlt]
      refine ⟨loop_out ?_, a, b, loop_out ?_⟩
      · unfold curve_corridor_span_l2; dsimp only; rw [hd]; rfl
      · unfold ref01_common_l2; dsimp only; rw [hd]; rfl
/-- Where the corridor d meets c: from, to, on c's own piece. -/
noncomputable def spanM (c d : CurveCorridor) : Int × Int := (max 0 (bsLo (fLo c d) 1048576 0 c.piece.l - 1), min c.piece.l (bsHi (fHi c d) 1048576 0 c.piece.l + 1))
theorem spanM_bd {c d : CurveCorridor} (C : Cor c) : (0 ≤ (spanM c d).1 ∧ (spanM c d).1 ≤ c.piece.l) ∧ 0 ≤ (spanM c d).2 ∧ (spanM c d).2 ≤ c.piece.l := by
  have c1 := C.l1
  have h1 := bsLo_bd (fLo c d) 1048576 0 c.piece.l (by omega)
  have h2 := bsHi_bd (fHi c d) 1048576 0 c.piece.l (by omega)
  unfold spanM
  dsimp only
  omega
theorem curve_span_eq {c d : CurveCorridor} (C : Cor c) (D : Cor d) (he : c.ends = (0, c.piece.l)) (hs : 0 ≤ c.piece.start ∧ c.piece.start ≤ 1000000000) : curve_corridor_span c d = some (c.piece.start + (spanM c d).1, c.piece.start + (spanM c d).2) := by
  have c1 := C.l1
  have c2 := C.l2
  have hc : c = wend c 0 c.piece.l := by unfold wend; rw [← he]
  have h1 := bsLo_bd (fLo c d) 1048576 0 c.piece.l (by omega)
  have h2 := bsHi_bd (fHi c d) 1048576 0 c.piece.l (by omega)
  have s1 := (span1 C D 1048576 0 c.piece.l c.piece.l (by omega) (by omega) (by omega) (by omega)).1
  have s2 := (span2 C D 1048576 0 c.piece.l 0 0 0 (by omega) (by omega) (by omega) (by omega)).1
  rw [← hc] at s1 s2
  have hb := spanM_bd (d := d) C
  unfold curve_corridor_span
  rw [s1, Option.bind_some, s2, Option.bind_some, w64_id (n := bsLo _ _ _ _ - 1) (by omega), w64_id (n := bsHi _ _ _ _ + 1) (by omega), mm2_max, mm2_min]
  rw [show max 0 (bsLo (fLo c d) 1048576 0 c.piece.l - 1) = (spanM c d).1 from rfl, show min c.piece.l (bsHi (fHi c d) 1048576 0 c.piece.l + 1) = (spanM c d).2 from rfl, w64_id (by omega), w64_id (by omega)]
end Go.Abs.Curve

namespace Go.Abs.Curve
open Go Go.Abs
/-- A piece as a corridor. -/
def cr (h : Int) (a : CurvePiece) : CurveCorridor := ⟨a, h, (0, a.l)⟩
structure POK (a : CurvePiece) : Prop where
  p : okS a.p = true
  l1 : 1000 ≤ a.l
  l2 : a.l ≤ 1048576
  sq : a.l * a.l = dotv a.v a.v
  x : -a.l ≤ a.v.x ∧ a.v.x ≤ a.l
  y : -a.l ≤ a.v.y ∧ a.v.y ≤ a.l
  st : 0 ≤ a.start ∧ a.start ≤ 1000000000
theorem POK.cor {a : CurvePiece} (A : POK a) {h : Int} (hh : 0 ≤ h ∧ h ≤ 4000) : Cor (cr h a) := by
  have := A.l1
  exact ⟨A.p, A.l1, A.l2, A.sq, A.x, A.y, hh, ⟨Int.le_refl _, by show (0 : Int) ≤ a.l; omega⟩, ⟨by show (0 : Int) ≤ a.l; omega, Int.le_refl _⟩⟩
theorem vec_le {p q : Spot} {l : Int} (hl : 0 ≤ l) (h : l * l = dotv (vec p q) (vec p q)) : (-l ≤ (vec p q).x ∧ (vec p q).x ≤ l) ∧ -l ≤ (vec p q).y ∧ (vec p q).y ≤ l := by
  have h1 := sq_nonneg (vec p q).x
  have h2 := sq_nonneg (vec p q).y
  unfold dotv at h
  exact ⟨abs_le_of_sq hl (by omega), abs_le_of_sq hl (by omega)⟩
theorem pok_head {p q : Spot} {r : List Spot} {last : Option CurveVector} (hok : (p :: q :: r).all okS = true) (hg : Good last (p :: q :: r)) {st : Int} (h0 : 0 ≤ st ∧ st ≤ 1000000000) : POK ⟨p, vec p q, plen p q, st⟩ := by
  obtain ⟨h1, h2, h3, _, _⟩ := hg.inv
  simp only [List.all_cons, Bool.and_eq_true] at hok
  have hv := vec_le (show 0 ≤ plen p q by omega) h1
  exact ⟨hok.1, h2, h3, h1, hv.1, hv.2, h0⟩
noncomputable def crossM (h k : Int) (a b : CurvePiece) : List Cross := cond (meetsM (cr h a) (cr k b)) [⟨a.start + (spanM (cr h a) (cr k b)).1, a.start + (spanM (cr h a) (cr k b)).2, b.start + (spanM (cr k b) (cr h a)).1, b.start + (spanM (cr k b) (cr h a)).2⟩] []
noncomputable def rowM (h k : Int) (a : CurvePiece) (P : List (Int × CurvePiece)) : List Cross := P.flatMap fun b => crossM h k a b.2
noncomputable def crossesM (h k : Int) (P Q : List (Int × CurvePiece)) : List Cross := P.flatMap fun a => rowM h k a.2 Q
theorem crossM_le (h k : Int) (a b : CurvePiece) : (crossM h k a b).length ≤ 1 := by unfold crossM; cases meetsM (cr h a) (cr k b) <;> simp
theorem rowM_cons (h k : Int) (a : CurvePiece) (b : Int × CurvePiece) (P : List (Int × CurvePiece)) : rowM h k a (b :: P) = crossM h k a b.2 ++ rowM h k a P := by unfold rowM; rw [List.flatMap_cons]
theorem crossesM_cons (h k : Int) (a : Int × CurvePiece) (P Q : List (Int × CurvePiece)) : crossesM h k (a :: P) Q = rowM h k a.2 Q ++ crossesM h k P Q := by unfold crossesM; rw [List.flatMap_cons]
theorem rowM_le (h k : Int) (a : CurvePiece) : ∀ P : List (Int × CurvePiece), (rowM h k a P).length ≤ P.length
  | [] => by simp [rowM]
  | b :: P => by
    have := crossM_le h k a b.2
    have := rowM_le h k a P
    rw [rowM_cons, List.length_append, List.length_cons]; omega
theorem crossesM_le (h k : Int) (Q : List (Int × CurvePiece)) : ∀ P : List (Int × CurvePiece), (crossesM h k P Q).length ≤ P.length * Q.length
  | [] => by simp [crossesM]
  | a :: P => by
    have := rowM_le h k a.2 Q
    have := crossesM_le h k Q P
    rw [crossesM_cons, List.length_append, List.length_cons, Nat.succ_mul]; omega
theorem piecesM_pok : ∀ (r : List Spot) (p : Spot) (i : Nat) (st : Int) (last : Option CurveVector), (p :: r).all okS = true → Good last (p :: r) → 0 ≤ st → st + 1048576 * r.length ≤ 1000000000 → (∀ x ∈ piecesM i st (p :: r), POK x.2) ∧ (piecesM i st (p :: r)).length = r.length
  | [], p, i, st, last, _, _, _, _ => by simp [piecesM]
  | q :: r, p, i, st, last, hok, hg, h0, hb => by
    obtain ⟨h1, h2, h3, h4, hg'⟩ := hg.inv
    have hP := pok_head hok hg (st := st) (by omega)
    simp only [List.all_cons, Bool.and_eq_true] at hok
    simp only [List.length_cons] at hb
    have ih := piecesM_pok r q (i + 1) (st + plen p q) _ (by simp only [List.all_cons, Bool.and_eq_true]; exact hok.2) hg' (by omega) (by omega)
    rw [piecesM_consP, w64_id (by omega)]
    refine ⟨fun x hx => ?_, by rw [List.length_cons, List.length_cons, ih.2]⟩
    rw [List.mem_cons] at hx
    rcases hx with rfl | hx
    · exact hP
    · exact ih.1 x hx
theorem cross_step {h k : Int} (hh : 0 ≤ h ∧ h ≤ 4000) (hk : 0 ≤ k ∧ k ≤ 4000) {a b : Int × CurvePiece} (A : POK a.2) (B : POK b.2) {out : List Cross} (ho : out.length ≤ 1000000) : curve_Corridors_l2 h k a out b = some (.go (out ++ crossM h k a.2 b.2)) := by
  have C := A.cor hh
  have D := B.cor hk
  unfold curve_Corridors_l2 crossM
  rw [show (CurveCorridor.mk a.2 h (0, a.2.l)) = cr h a.2 from rfl, show (CurveCorridor.mk b.2 k (0, b.2.l)) = cr k b.2 from rfl, curve_meets_eq C D, Option.bind_some]
  cases hm : meetsM (cr h a.2) (cr k b.2)
  · simp
  · simp only [Bool.not_true, cond_false, cond_true]
    rw [curve_span_eq C D rfl A.st, Option.bind_some, curve_span_eq D C rfl B.st, Option.bind_some, appc_ok (by simp; omega), Option.bind_some]
    rfl
theorem row_loop {h k : Int} (hh : 0 ≤ h ∧ h ≤ 4000) (hk : 0 ≤ k ∧ k ≤ 4000) {a : Int × CurvePiece} (A : POK a.2) : ∀ (Q : List (Int × CurvePiece)) (out : List Cross), (∀ x ∈ Q, POK x.2) → out.length + Q.length ≤ 1000000 → loopL (curve_Corridors_l2 h k a) (fun x => x) Q out = some (out ++ rowM h k a.2 Q) := by
  intro Q
  induction Q with
  | nil => intro out _ _; simp [loopL, rowM]
  | cons b Q ih =>
    intro out hQ ho
    simp only [List.length_cons] at ho
    have := crossM_le h k a.2 b.2
    rw [loopL, cross_step hh hk A (hQ b (by simp)) (by omega)]
    dsimp only
    rw [ih _ (fun x hx => hQ x (by simp [hx])) (by rw [List.length_append]; omega), rowM_cons, List.append_assoc]
theorem crosses_loop {h k : Int} (hh : 0 ≤ h ∧ h ≤ 4000) (hk : 0 ≤ k ∧ k ≤ 4000) {d : Curve} {Q : List (Int × CurvePiece)} (hd : piecesC d.Pts = some Q) (hQ : ∀ x ∈ Q, POK x.2) (hQl : Q.length ≤ 20) : ∀ (P : List (Int × CurvePiece)) (out : List Cross), (∀ x ∈ P, POK x.2) → out.length + P.length * 20 ≤ 900000 → loopL (curve_Corridors_l1 h d k) (fun x => x) P out = some (out ++ crossesM h k P Q) := by
  intro P
  induction P with
  | nil => intro out _ _; simp [loopL, crossesM]
  | cons a P ih =>
    intro out hP ho
    simp only [List.length_cons] at ho
    have hr := rowM_le h k a.2 Q
    have hs : curve_Corridors_l1 h d k out a = some (.go (out ++ rowM h k a.2 Q)) := by
      unfold curve_Corridors_l1
      rw [hd, Option.bind_some, row_loop hh hk (hP a (by simp)) Q out hQ (by omega)]
      rfl
    rw [loopL, hs]
    dsimp only
    rw [ih _ (fun x hx => hP x (by simp [hx])) (by rw [List.length_append]; omega), crossesM_cons, List.append_assoc]
noncomputable def PL (c : Curve) : List (Int × CurvePiece) := if checkM c.Pts = 0 then piecesM 0 0 c.Pts else []
theorem PL_ok (c : Curve) : (∀ x ∈ PL c, POK x.2) ∧ (PL c).length ≤ 20 := by
  unfold PL
  split
  · rename_i h
    have V := checkM_zero.1 h
    obtain ⟨p, q, r, hp⟩ := lens_valid V
    have hm := V.most
    have ho := V.ok
    have hg := V.good
    rw [hp] at hm ho hg ⊢
    simp only [List.length_cons] at hm
    have := piecesM_pok (q :: r) p 0 0 none ho hg (by omega) (by simp only [List.length_cons]; omega)
    refine ⟨this.1, ?_⟩
    rw [this.2, List.length_cons]; omega
  · simp
/-- What Corridors answers. -/
noncomputable def corrA (c : Curve) (h : Int) (d : Curve) (k : Int) : List Cross := if (0 ≤ h ∧ h ≤ 4000) ∧ 0 ≤ k ∧ k ≤ 4000 then crossesM h k (PL c) (PL d) else []
theorem corrA_le (c : Curve) (h : Int) (d : Curve) (k : Int) : (corrA c h d k).length ≤ 400 := by
  unfold corrA
  split
  · have h1 := crossesM_le h k (PL d) (PL c)
    have h2 := (PL_ok c).2
    have h3 := (PL_ok d).2
    have := Nat.mul_le_mul h2 h3
    omega
  · simp
theorem curve_Corridors_eq (c d : Curve) (hc : c.Pts.length ≤ 1000000) (hd : d.Pts.length ≤ 1000000) (h k : Int) : curve_Corridors c h d k = some (corrA c h d k) := by
  unfold curve_Corridors corrA
  rw [curve_Check_eq c hc, Option.bind_some]
  by_cases hz : checkM c.Pts = 0
  · rw [hz]
    simp only [bne_self_eq_false, Bool.not_false, cond_true, curve_Check_eq d hd, Option.bind_some, Bool.false_or, mm2_max, mm2_min]
    by_cases hz2 : checkM d.Pts = 0
    · rw [hz2]
      by_cases hr : (0 ≤ h ∧ h ≤ 4000) ∧ 0 ≤ k ∧ k ≤ 4000
      · rw [if_pos hr, show decide (min h k < 0) = false from decide_eq_false (by omega), show decide (max h k > 4000) = false from decide_eq_false (by omega)]
        have P := PL_ok c
        have Q := PL_ok d
        have e1 : piecesC c.Pts = some (PL c) := by rw [piecesC_eq (checkM_zero.1 hz)]; unfold PL; rw [if_pos hz]
        have e2 : piecesC d.Pts = some (PL d) := by rw [piecesC_eq (checkM_zero.1 hz2)]; unfold PL; rw [if_pos hz2]
        simp only [bne_self_eq_false, Bool.or_self, cond_false, e1, Option.bind_some]
        rw [crosses_loop hr.1 hr.2 e2 Q.1 Q.2 (PL c) [] P.1 (by have := P.2; simp; omega)]
        rfl
      · have hx : (decide (min h k < 0) || decide (max h k > 4000)) = true := by
          simp only [Bool.or_eq_true, decide_eq_true_eq]; omega
        rw [if_neg hr, Bool.or_assoc, hx, Bool.or_true]
        rfl
    · rw [show (checkM d.Pts != 0) = true from bne_iff_ne.2 hz2]
      have : PL d = [] := if_neg hz2
      rw [this]
      split
      · simp [crossesM, rowM]
      · rfl
  · rw [show (checkM c.Pts != 0) = true from bne_iff_ne.2 hz]
    have : PL c = [] := if_neg hz
    rw [this]
    split <;> rfl
theorem sameCrosses_go (a : List Cross) (hl : a.length ≤ 1000000) : ∀ (r : List Cross) (i : Nat), a.drop i = r → loop (kit_SameCrosses_l1 a a) (i : Int) = some (.inl ()) := by
  intro r
  induction r with
  | nil =>
    intro i hi
    have := drop_nil hi
    refine loop_out ?_
    unfold kit_SameCrosses_l1
    rw [show decide ((i : Int) < (a.length : Int)) = false from decide_eq_false (by omega)]
    rfl
  | cons x r ih =>
    intro i hi
    have hlt := drop_lt hi
    have hs : kit_SameCrosses_l1 a a (i : Int) = some (.go ((i + 1 : Nat) : Int)) := by
      unfold kit_SameCrosses_l1
      rw [show decide ((i : Int) < (a.length : Int)) = true from decide_eq_true (by omega), w64_id (n := (i : Int) + 1) (by omega)]
      simp only [cond_true, geti_drop hi, Option.bind_some, beq_self_eq_true, Bool.and_self, Bool.not_true, cond_false]
      rfl
    rw [loop_go hs, ih (i + 1) (drop_succ hi)]
theorem kit_SameCrosses_self (a : List Cross) (hl : a.length ≤ 1000000) : kit_SameCrosses a a = some true := by
  unfold kit_SameCrosses
  have := sameCrosses_go a hl a 0 rfl
  rw [show ((0 : Nat) : Int) = 0 from rfl] at this
  rw [this]
  simp [thenS]
end Go.Abs.Curve

namespace Go.Abs.Curve
open Go Go.Abs
/-- A wider corridor on the same piece. -/
structure Wid (c c' : CurveCorridor) : Prop where
  piece : c'.piece = c.piece
  half : c.half ≤ c'.half
  e1 : c'.ends.1 ≤ c.ends.1
  e2 : c.ends.2 ≤ c'.ends.2
  e : c.ends.1 ≤ c.ends.2
theorem Wid.refl {c : CurveCorridor} (h : c.ends.1 ≤ c.ends.2) : Wid c c := ⟨rfl, Int.le_refl _, Int.le_refl _, Int.le_refl _, h⟩
end Go.Abs.Curve

namespace Go.Abs.Curve
open Go Go.Abs
end Go.Abs.Curve

namespace Go.Abs.Curve
open Go Go.Abs
theorem len_pos {c : Curve} (V : Valid c.Pts) : 0 < suml (lens c.Pts) := by
  obtain ⟨h1, h2⟩ := valid_lens V
  have h2' := V.two
  have := suml_take_lt (fun a ha => (h1 a ha).1) (show 0 < (lens c.Pts).length by omega) (Nat.le_refl _)
  rw [List.take_length] at this
  simp only [List.take_zero, suml] at this
  omega
end Go.Abs.Curve

namespace Go.Abs.Curve
open Go Go.Abs
end Go.Abs.Curve

namespace Go.Abs.Curve
open Go Go.Abs
def sh (t p : Spot) : Spot := ⟨p.X + t.X, p.Y + t.Y⟩
theorem vec_sh (t p q : Spot) : vec (sh t p) (sh t q) = vec p q := by unfold vec sh; dsimp only; congr 1 <;> omega
theorem plen_sh (t p q : Spot) : plen (sh t p) (sh t q) = plen p q := by unfold plen; rw [vec_sh]
theorem Good.sh {t : Spot} : ∀ {l : List Spot} {last : Option CurveVector}, Good last l → Good last (l.map (sh t)) := by
  intro l last h
  induction h with
  | one last p => exact Good.one _ _
  | cons last p q r h1 h2 h3 h4 _ ih =>
    rw [List.map_cons, List.map_cons]
    rw [List.map_cons] at ih
    refine Good.cons _ _ _ _ ?_ ?_ ?_ ?_ ?_ <;> rw [vec_sh] <;> assumption
theorem lens_sh (t : Spot) : ∀ l : List Spot, lens (l.map (sh t)) = lens l
  | [] => rfl
  | [_] => rfl
  | p :: q :: r => by
    have := lens_sh t (q :: r)
    rw [List.map_cons] at this
    rw [List.map_cons, List.map_cons, lens_consP, lens_consP, plen_sh, this]
def shP (t : Spot) (a : Int × CurvePiece) : Int × CurvePiece := (a.1, ⟨sh t a.2.p, a.2.v, a.2.l, a.2.start⟩)
theorem piecesM_sh (t : Spot) : ∀ (l : List Spot) (i : Nat) (st : Int), piecesM i st (l.map (sh t)) = (piecesM i st l).map (shP t)
  | [], _, _ => by simp [piecesM]
  | [_], _, _ => by simp [piecesM]
  | p :: q :: r, i, st => by
    have := piecesM_sh t (q :: r) (i + 1) (w64 (st + plen p q))
    rw [List.map_cons] at this
    rw [List.map_cons, List.map_cons, piecesM_consP, piecesM_consP, plen_sh, vec_sh, this]
    rfl
theorem Valid.sh {t : Spot} {l : List Spot} (V : Valid l) (hb : ∀ p ∈ l, okS (sh t p) = true) : Valid (l.map (sh t)) :=
  ⟨by rw [List.length_map]; exact V.two, by rw [List.length_map]; exact V.most, by rw [List.all_map, List.all_eq_true]; exact hb, V.good.sh⟩
theorem PL_sh {t : Spot} {c d : Curve} (V : Valid c.Pts) (hd : d.Pts = c.Pts.map (sh t)) (W : Valid d.Pts) : PL d = (PL c).map (shP t) := by
  unfold PL
  rw [if_pos (checkM_zero.2 V), if_pos (checkM_zero.2 W), hd, piecesM_sh]
def shC (t : Spot) (c : CurveCorridor) : CurveCorridor := ⟨⟨sh t c.piece.p, c.piece.v, c.piece.l, c.piece.start⟩, c.half, c.ends⟩
theorem apart_sh (t : Spot) (c d : CurveCorridor) : apartM (shC t c) (shC t d) = apartM c d := by
  have : wv (shC t c) (shC t d) = wv c d := vec_sh t c.piece.p d.piece.p
  unfold apartM
  rw [this]
  rfl
theorem meets_sh (t : Spot) (c d : CurveCorridor) : meetsM (shC t c) (shC t d) = meetsM c d := by unfold meetsM; rw [apart_sh, apart_sh]
theorem span_sh (t : Spot) (c d : CurveCorridor) : spanM (shC t c) (shC t d) = spanM c d := by
  have h1 : fLo (shC t c) (shC t d) = fLo c d := funext fun e => meets_sh t (wend c 0 e) d
  have h2 : fHi (shC t c) (shC t d) = fHi c d := funext fun e => meets_sh t (wend c e c.piece.l) d
  unfold spanM
  rw [h1, h2]
  rfl
theorem cross_sh (t : Spot) (h k : Int) (a b : Int × CurvePiece) : crossM h k (shP t a).2 (shP t b).2 = crossM h k a.2 b.2 := by
  have e1 : cr h (shP t a).2 = shC t (cr h a.2) := rfl
  have e2 : cr k (shP t b).2 = shC t (cr k b.2) := rfl
  unfold crossM
  rw [e1, e2, meets_sh, span_sh, span_sh]
  rfl
theorem row_sh (t : Spot) (h k : Int) (a : Int × CurvePiece) : ∀ Q : List (Int × CurvePiece), rowM h k (shP t a).2 (Q.map (shP t)) = rowM h k a.2 Q
  | [] => by simp [rowM]
  | b :: Q => by rw [List.map_cons, rowM_cons, rowM_cons, cross_sh, row_sh t h k a Q]
theorem crosses_sh (t : Spot) (h k : Int) (Q : List (Int × CurvePiece)) : ∀ P : List (Int × CurvePiece), crossesM h k (P.map (shP t)) (Q.map (shP t)) = crossesM h k P Q
  | [] => by simp [crossesM]
  | a :: P => by rw [List.map_cons, crossesM_cons, crossesM_cons, row_sh, crosses_sh t h k Q P]
theorem near_sh (t : Spot) (n : Int) (P : Spot) : ∀ (l : List Spot) (st : Int), nearM n (sh t P) st (l.map (sh t)) = nearM n P st l
  | [], _ => by simp [nearM]
  | [_], _ => by simp [nearM]
  | p :: q :: r, st => by
    have := near_sh t n P (q :: r) (st + plen p q)
    rw [List.map_cons] at this
    rw [List.map_cons, List.map_cons, nearM_cons, nearM_cons, plen_sh, this]
    unfold nearP hitM footM
    rw [vec_sh, vec_sh, plen_sh]
theorem holds_sh (t : Spot) (h : Int) (P : Spot) : ∀ l : List Spot, holdsM h (sh t P) (l.map (sh t)) = holdsM h P l
  | [] => by simp [holdsM]
  | [_] => by simp [holdsM]
  | p :: q :: r => by
    have := holds_sh t h P (q :: r)
    rw [List.map_cons] at this
    rw [List.map_cons, List.map_cons, holdsM_cons, holdsM_cons, this]
    unfold onP
    rw [vec_sh, vec_sh, plen_sh]
/-- An offset lies in one piece only, moved or not. -/
theorem at_same_piece {t : Spot} {l : List Spot} (V : Valid l) {s : Int} (A : At l s) (B : At (l.map (sh t)) s) : B.p = sh t A.p ∧ B.q = sh t A.q ∧ B.st = A.st := by
  obtain ⟨h1, h2⟩ := valid_lens V
  have hA := A.pre
  have hB := B.pre
  have a1 := A.hs
  have b1 := B.hs
  have hdlA : (lens l).drop A.i = plen A.p A.q :: lens (A.q :: A.r) := by rw [← lens_drop, A.hd, lens_consP]
  have hdlB : (lens l).drop B.i = plen B.p B.q :: lens (B.q :: B.r) := by rw [← lens_sh t l, ← lens_drop, B.hd, lens_consP]
  rw [lens_sh] at hB
  have htA := suml_take hdlA
  have htB := suml_take hdlB
  have hiA := drop_lt hdlA
  have hiB := drop_lt hdlB
  rcases Nat.lt_trichotomy B.i A.i with q | q | q
  · exfalso
    have hr : B.r ≠ [] := by
      intro e
      have := congrArg List.length B.hd
      rw [e, List.length_drop, List.length_map] at this
      simp at this; omega
    have h3 := B.nx hr
    rcases Nat.lt_or_eq_of_le (show B.i + 1 ≤ A.i by omega) with q2 | q2
    · have := suml_take_lt (fun a ha => (h1 a ha).1) q2 (by omega); omega
    · rw [q2] at htB; omega
  · have e := B.hd
    rw [← List.map_drop, q, A.hd, List.map_cons, List.map_cons] at e
    injection e with e3 e4
    injection e4 with e5 e6
    exact ⟨e3.symm, e5.symm, by rw [hB, q, ← hA]⟩
  · exfalso
    have hr : A.r ≠ [] := by
      intro e
      have := congrArg List.length A.hd
      rw [e, List.length_drop] at this
      simp at this; omega
    have h3 := A.nx hr
    rcases Nat.lt_or_eq_of_le (show A.i + 1 ≤ B.i by omega) with q2 | q2
    · have := suml_take_lt (fun a ha => (h1 a ha).1) q2 (by omega); omega
    · rw [q2] at htA; omega
theorem moved_loop (c : Curve) (hl : c.Pts.length ≤ 1000) (t : Spot) (hb : ∀ p ∈ c.Pts, (-100000000 ≤ p.X + t.X ∧ p.X + t.X ≤ 100000000) ∧ -100000000 ≤ p.Y + t.Y ∧ p.Y + t.Y ≤ 100000000) : ∀ (r : List Spot) (i : Nat) (out : List Spot), c.Pts.drop i = r → out.length + r.length ≤ 1000 → loop (law01_moved_l1 c t) ((i : Int), ⟨out⟩) = some ⟨out ++ r.map (sh t)⟩ := by
  intro r
  induction r with
  | nil =>
    intro i out hi _
    have := drop_nil hi
    refine loop_out ?_
    unfold law01_moved_l1
    dsimp only
    rw [show decide ((i : Int) < (c.Pts.length : Int)) = false from decide_eq_false (by omega)]
    simp
  | cons p r ih =>
    intro i out hi ho
    simp only [List.length_cons] at ho
    have hlt := drop_lt hi
    have hp := hb p (List.mem_of_mem_drop (i := i) (by rw [hi]; simp))
    have hs : law01_moved_l1 c t ((i : Int), ⟨out⟩) = some (.go (((i + 1 : Nat) : Int), ⟨out ++ [sh t p]⟩)) := by
      unfold law01_moved_l1
      dsimp only
      rw [show decide ((i : Int) < (c.Pts.length : Int)) = true from decide_eq_true (by omega), w64_id (n := (i : Int) + 1) (by omega)]
      simp only [cond_true, geti_drop hi, Option.bind_some]
      rw [w64_id (n := p.X + t.X) (by omega), w64_id (n := p.Y + t.Y) (by omega), appc_ok (by simp; omega)]
      rfl
    rw [loop_go hs, ih (i + 1) _ (drop_succ hi) (by simp; omega), List.append_assoc]
    rfl
theorem moved_eq (c : Curve) (hl : c.Pts.length ≤ 1000) (t : Spot) (hb : ∀ p ∈ c.Pts, (-100000000 ≤ p.X + t.X ∧ p.X + t.X ≤ 100000000) ∧ -100000000 ≤ p.Y + t.Y ∧ p.Y + t.Y ≤ 100000000) : law01_moved c t = some ⟨c.Pts.map (sh t)⟩ := by
  unfold law01_moved
  have := moved_loop c hl t hb c.Pts 0 [] rfl (by simpa using hl)
  rw [show ((0 : Nat) : Int) = 0 from rfl] at this
  rw [this]
  rfl
theorem at_moved {t : Spot} {c d : Curve} (V : Valid c.Pts) (hd : d.Pts = c.Pts.map (sh t)) (W : Valid d.Pts) (hl : c.Pts.length ≤ 1000000) {s : Int} (hs : wI64 s) : ∃ u : Spot, curve_At c s = some u ∧ curve_At d s = some (sh t u) ∧ okS u = true := by
  obtain ⟨A, _, hA⟩ := curve_At_eq V hl hs
  obtain ⟨B, hB0, hB⟩ := curve_At_eq W (by rw [hd, List.length_map]; exact hl) hs
  clear hB0
  revert hB B
  rw [hd]
  intro B hB
  obtain ⟨q1, q2, q3⟩ := at_same_piece V A B
  have a1 := A.l1
  have a2 := A.hs
  obtain ⟨o1, o2⟩ := at_ok A V
  rw [q1, q2, q3, vec_sh, plen_sh] at hB
  refine ⟨_, hA, ?_, okS_part o1 o2 (by omega) (by omega)⟩
  rw [hB]
  unfold sh
  dsimp only
  congr 2 <;> omega
theorem law01_CurveMoved_plain (a0 a1 : KitChain) (a2 a3 a4 : Int) (a5 a6 : Spot) (w0 : wI64 a0.X ∧ wI64 a0.Y ∧ ∀ a ∈ a0.Steps, wI64 a) (w1 : wI64 a1.X ∧ wI64 a1.Y ∧ ∀ a ∈ a1.Steps, wI64 a) (w2 : wI64 a2) (w3 : wI64 a3) (w4 : wI64 a4) (_w5 : wI64 a5.X ∧ wI64 a5.Y) (_w6 : wI64 a6.X ∧ wI64 a6.Y) : law01_CurveMoved a0 a1 a2 a3 a4 a5 a6 = some true := by
  obtain ⟨c, hc, hm⟩ := kit_Curve_eq a0 w0.2.2
  obtain ⟨d, hd, hm2⟩ := kit_Curve_eq a1 w1.2.2
  have Vc := hm.valid
  have Vd := hm2.valid
  have c6 := hm.six
  have d6 := hm2.six
  obtain ⟨h, _, h0, h1, e1, _⟩ := kit_Mod_eq (n := a2) (m := 4001) (by decide) w2 (by decide)
  obtain ⟨k, _, k0, k1, e2, _⟩ := kit_Mod_eq (n := a3) (m := 4001) (by decide) w3 (by decide)
  have t1 : -10000000 ≤ a6.X.tmod 10000001 ∧ a6.X.tmod 10000001 ≤ 10000000 := by
    have := Int.tmod_lt_of_pos a6.X (show (0 : Int) < 10000001 by decide)
    have := Int.lt_tmod_of_pos a6.X (show (0 : Int) < 10000001 by decide)
    omega
  have t2 : -10000000 ≤ a6.Y.tmod 10000001 ∧ a6.Y.tmod 10000001 ≤ 10000000 := by
    have := Int.tmod_lt_of_pos a6.Y (show (0 : Int) < 10000001 by decide)
    have := Int.lt_tmod_of_pos a6.Y (show (0 : Int) < 10000001 by decide)
    omega
  have t3 : -40000 ≤ a5.X.tmod 40000 ∧ a5.X.tmod 40000 ≤ 40000 := by
    have := Int.tmod_lt_of_pos a5.X (show (0 : Int) < 40000 by decide)
    have := Int.lt_tmod_of_pos a5.X (show (0 : Int) < 40000 by decide)
    omega
  have t4 : -40000 ≤ a5.Y.tmod 40000 ∧ a5.Y.tmod 40000 ≤ 40000 := by
    have := Int.tmod_lt_of_pos a5.Y (show (0 : Int) < 40000 by decide)
    have := Int.lt_tmod_of_pos a5.Y (show (0 : Int) < 40000 by decide)
    omega
  generalize ht : (⟨a6.X.tmod 10000001, a6.Y.tmod 10000001⟩ : Spot) = t
  generalize hP : (⟨a5.X.tmod 40000, a5.Y.tmod 40000⟩ : Spot) = P
  have tx : t.X = a6.X.tmod 10000001 := by rw [← ht]
  have ty : t.Y = a6.Y.tmod 10000001 := by rw [← ht]
  have px : P.X = a5.X.tmod 40000 := by rw [← hP]
  have py : P.Y = a5.Y.tmod 40000 := by rw [← hP]
  rw [← tx] at t1
  rw [← ty] at t2
  rw [← px] at t3
  rw [← py] at t4
  have bc := hm.bd
  have bd := hm2.bd
  have mc : law01_moved c t = some ⟨c.Pts.map (sh t)⟩ := moved_eq c (by omega) t (fun p hp => by have := bc p hp; omega)
  have md : law01_moved d t = some ⟨d.Pts.map (sh t)⟩ := moved_eq d (by omega) t (fun p hp => by have := bd p hp; omega)
  have Wc : Valid (c.Pts.map (sh t)) := Vc.sh (fun p hp => by have := bc p hp; rw [okS_iff]; unfold sh; dsimp only; omega)
  have Wd : Valid (d.Pts.map (sh t)) := Vd.sh (fun p hp => by have := bd p hp; rw [okS_iff]; unfold sh; dsimp only; omega)
  have okP : okS P = true := by rw [okS_iff]; omega
  have okP' : okS (sh t P) = true := by rw [okS_iff]; unfold sh; dsimp only; omega
  obtain ⟨u, hu1, hu2, hu3⟩ := at_moved (d := ⟨c.Pts.map (sh t)⟩) Vc rfl Wc (by omega) w4
  have hu := okS_iff.1 hu3
  have tc := total_bd Vc
  have pos := len_pos Vc
  have lc : c.Pts.length ≤ 1000000 := by omega
  have ld : d.Pts.length ≤ 1000000 := by omega
  have lc' : (Curve.mk (c.Pts.map (sh t))).Pts.length ≤ 1000000 := by show (c.Pts.map (sh t)).length ≤ 1000000; rw [List.length_map]; omega
  have ld' : (Curve.mk (d.Pts.map (sh t))).Pts.length ≤ 1000000 := by show (d.Pts.map (sh t)).length ≤ 1000000; rw [List.length_map]; omega
  have pc : piecesL c = lens c.Pts := if_pos (checkM_zero.2 Vc)
  have pc' : piecesL ⟨c.Pts.map (sh t)⟩ = lens c.Pts := by unfold piecesL; rw [if_pos (checkM_zero.2 Wc)]; exact lens_sh t c.Pts
  have N : nearA ⟨c.Pts.map (sh t)⟩ (sh t P) h = nearA c P h := by
    unfold nearA
    rw [if_pos ⟨checkM_zero.2 Wc, okP', by omega⟩, if_pos ⟨checkM_zero.2 Vc, okP, by omega⟩]
    exact near_sh t h P c.Pts 0
  have H : holdsA ⟨c.Pts.map (sh t)⟩ h (sh t P) = holdsA c h P := by
    unfold holdsA
    rw [if_pos ⟨checkM_zero.2 Wc, okP', by omega⟩, if_pos ⟨checkM_zero.2 Vc, okP, by omega⟩]
    exact holds_sh t h P c.Pts
  have K : corrA ⟨c.Pts.map (sh t)⟩ h ⟨d.Pts.map (sh t)⟩ k = corrA c h d k := by
    unfold corrA
    rw [if_pos (by omega), if_pos (by omega), PL_sh (d := ⟨c.Pts.map (sh t)⟩) Vc rfl Wc, PL_sh (d := ⟨d.Pts.map (sh t)⟩) Vd rfl Wd]
    exact crosses_sh t h k (PL d) (PL c)
  have n1 := nearA_le c P h
  have n2 := corrA_le c h d k
  have hS : (⟨w64 (a5.X.tmod 40000 + a6.X.tmod 10000001), w64 (a5.Y.tmod 40000 + a6.Y.tmod 10000001)⟩ : Spot) = sh t P := by
    rw [← tx, ← ty, ← px, ← py, w64_id (by omega), w64_id (by omega)]
    rfl
  unfold law01_CurveMoved
  simp only [hc, hd, e1, e2, Option.bind_some, ht, hP, hS, mc, md, hu1, hu2, curve_Length_eq c lc, curve_Length_eq ⟨c.Pts.map (sh t)⟩ lc', pc, pc', tc.2.2]
  have g1 : decide (suml (lens c.Pts) ≤ 0) = false := decide_eq_false (by omega)
  have g2 : ((sh t u).X == w64 (u.X + a6.X.tmod 10000001)) = true := by rw [← tx, w64_id (by omega)]; exact beq_self_eq_true _
  have g3 : ((sh t u).Y == w64 (u.Y + a6.Y.tmod 10000001)) = true := by rw [← ty, w64_id (by omega)]; exact beq_self_eq_true _
  simp only [g1, g2, g3, Bool.not_false, cond_true, Option.bind_some, bne_self_eq_false, Bool.or_self, Bool.and_self, Bool.not_true, cond_false, curve_Near_eq c lc, curve_Near_eq ⟨c.Pts.map (sh t)⟩ lc', N, kit_SameLongs_eq _ _ (Nat.le_trans n1 lc), decide_true, curve_Holds_eq c lc, curve_Holds_eq ⟨c.Pts.map (sh t)⟩ lc', H, beq_self_eq_true, curve_Corridors_eq c d lc ld, curve_Corridors_eq ⟨c.Pts.map (sh t)⟩ ⟨d.Pts.map (sh t)⟩ lc' ld', K, kit_SameCrosses_self (corrA c h d k) (by omega), awake_eq]
end Go.Abs.Curve
