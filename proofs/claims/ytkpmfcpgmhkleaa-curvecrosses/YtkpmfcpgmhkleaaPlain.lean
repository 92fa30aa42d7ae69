/-
  Plain facts on the functions: what they compute, and that the law holds of it.
-/
import Derived.Test.YtkpmfcpgmhkleaaFns2

namespace Go.Abs.Curve
open Go Go.Abs
structure Ref01Stripe where
  p : Spot
  v : Spot
  l : Int
  h : Int
  s : Int
  t : Int
  deriving Inhabited

noncomputable def ref01_Minus (p1 : Spot) (p2 : Spot) : Option Spot :=
  some (Spot.mk (w64 (p1.X - p2.X)) (w64 (p1.Y - p2.Y)))

noncomputable def ref01_Dot (p1 : Spot) (p2 : Spot) : Option Int :=
  some (w64 ((w64 (p1.X * p2.X)) + (w64 (p1.Y * p2.Y))))

noncomputable def ref01_Cross (p1 : Spot) (p2 : Spot) : Option Int :=
  some (w64 ((w64 (p1.X * p2.Y)) - (w64 (p1.Y * p2.X))))

noncomputable def ref01_outside_l1 (p1 : Ref01Stripe) (p2 : Ref01Stripe) (v1 : Spot) (x1 : (Int × Int × Int × Int × Int)) : Option (Stp (Int × Int × Int × Int × Int) (Int × Int × Int × Int)) :=
  cond (decide (x1.2.2.2.2 < 4)) (((cond ((x1.2.2.2.2.tmod 2) == 1) (some p2.t) (some p2.s)).bind fun y3 => (cond (decide (x1.2.2.2.2 ≥ 2)) (some (w64 (0 - p2.h))) (some p2.h)).bind fun y4 => (ref01_Dot v1 p1.v).bind fun v2 => (ref01_Dot p2.v p1.v).bind fun v3 => (ref01_Dot (Spot.mk (w64 (0 - p2.v.Y)) p2.v.X) p1.v).bind fun v4 => (ref01_Cross p1.v v1).bind fun v5 => (ref01_Cross p1.v p2.v).bind fun v6 => (ref01_Cross p1.v (Spot.mk (w64 (0 - p2.v.Y)) p2.v.X)).bind fun v7 => (cond (x1.2.2.2.2 == 0) (some ((w64 ((w64 ((w64 (p2.l * v2)) + (w64 (y3 * v3)))) + (w64 (y4 * v4)))), (w64 ((w64 ((w64 (p2.l * v2)) + (w64 (y3 * v3)))) + (w64 (y4 * v4)))), (w64 ((w64 ((w64 (p2.l * v5)) + (w64 (y3 * v6)))) + (w64 (y4 * v7)))), (w64 ((w64 ((w64 (p2.l * v5)) + (w64 (y3 * v6)))) + (w64 (y4 * v7)))))) (some (x1.1, x1.2.1, x1.2.2.1, x1.2.2.2.1))).bind fun y5 => some ((mm2 false y5.1 (w64 ((w64 ((w64 (p2.l * v2)) + (w64 (y3 * v3)))) + (w64 (y4 * v4))))), (mm2 true y5.2.1 (w64 ((w64 ((w64 (p2.l * v2)) + (w64 (y3 * v3)))) + (w64 (y4 * v4))))), (mm2 false y5.2.2.1 (w64 ((w64 ((w64 (p2.l * v5)) + (w64 (y3 * v6)))) + (w64 (y4 * v7))))), (mm2 true y5.2.2.2 (w64 ((w64 ((w64 (p2.l * v5)) + (w64 (y3 * v6)))) + (w64 (y4 * v7))))))).bind fun y2 => some (.go (y2.1, y2.2.1, y2.2.2.1, y2.2.2.2, (w64 (x1.2.2.2.2 + 1))))) (some (.out (x1.1, x1.2.1, x1.2.2.1, x1.2.2.2.1)))

noncomputable def ref01_outside (p1 : Ref01Stripe) (p2 : Ref01Stripe) : Option Bool :=
  (ref01_Minus p2.p p1.p).bind fun v1 => (loop (ref01_outside_l1 p1 p2 v1) (0, 0, 0, 0, 0)).bind fun y1 => some ((((decide (y1.2.1 < (w64 (p1.s * (w64 (p1.l * p2.l)))))) || (decide (y1.1 > (w64 (p1.t * (w64 (p1.l * p2.l))))))) || (decide (y1.2.2.2 < (w64 ((w64 (0 - p1.h)) * (w64 (p1.l * p2.l))))))) || (decide (y1.2.2.1 > (w64 (p1.h * (w64 (p1.l * p2.l)))))))

noncomputable def ref01_meet (p1 : Ref01Stripe) (p2 : Ref01Stripe) : Option Bool :=
  (ref01_Minus p2.p p1.p).bind fun v1 => (ref01_Dot v1 v1).bind fun v2 => ((cond (decide (v2 ≤ (w64 ((w64 ((w64 ((w64 (p1.l + p2.l)) + p1.h)) + p2.h)) * (w64 ((w64 ((w64 (p1.l + p2.l)) + p1.h)) + p2.h)))))) (ref01_outside p1 p2) (some default))).bind fun v3 => ((cond ((decide (v2 ≤ (w64 ((w64 ((w64 ((w64 (p1.l + p2.l)) + p1.h)) + p2.h)) * (w64 ((w64 ((w64 (p1.l + p2.l)) + p1.h)) + p2.h)))))) && (!v3)) (ref01_outside p2 p1) (some default))).bind fun v4 => some (((decide (v2 ≤ (w64 ((w64 ((w64 ((w64 (p1.l + p2.l)) + p1.h)) + p2.h)) * (w64 ((w64 ((w64 (p1.l + p2.l)) + p1.h)) + p2.h)))))) && (!v3)) && (!v4))

noncomputable def ref01_common_l2 (p2 : Ref01Stripe) (x2 : (Int × Int × Ref01Stripe)) : Option (Stp (Int × Int × Ref01Stripe) (Int × Ref01Stripe)) :=
  cond (decide (x2.1 < x2.2.1)) ((ref01_meet (Ref01Stripe.mk x2.2.2.p x2.2.2.v x2.2.2.l x2.2.2.h (w64 ((w64 ((w64 (x2.1 + x2.2.1)) + 1)).tdiv 2)) x2.2.2.l) p2).bind fun v2 => cond v2 (some (.go ((w64 ((w64 ((w64 (x2.1 + x2.2.1)) + 1)).tdiv 2)), x2.2.1, (Ref01Stripe.mk x2.2.2.p x2.2.2.v x2.2.2.l x2.2.2.h (w64 ((w64 ((w64 (x2.1 + x2.2.1)) + 1)).tdiv 2)) x2.2.2.l)))) (some (.go (x2.1, (w64 ((w64 ((w64 ((w64 (x2.1 + x2.2.1)) + 1)).tdiv 2)) - 1)), (Ref01Stripe.mk x2.2.2.p x2.2.2.v x2.2.2.l x2.2.2.h (w64 ((w64 ((w64 (x2.1 + x2.2.1)) + 1)).tdiv 2)) x2.2.2.l))))) (some (.out (x2.1, x2.2.2)))

noncomputable def ref01_common_l1 (p2 : Ref01Stripe) (x1 : (Int × Int × Ref01Stripe)) : Option (Stp (Int × Int × Ref01Stripe) (Int × Ref01Stripe)) :=
  cond (decide (x1.1 < x1.2.1)) ((ref01_meet (Ref01Stripe.mk x1.2.2.p x1.2.2.v x1.2.2.l x1.2.2.h 0 (w64 ((w64 (x1.1 + x1.2.1)).tdiv 2))) p2).bind fun v1 => cond v1 (some (.go (x1.1, (w64 ((w64 (x1.1 + x1.2.1)).tdiv 2)), (Ref01Stripe.mk x1.2.2.p x1.2.2.v x1.2.2.l x1.2.2.h 0 (w64 ((w64 (x1.1 + x1.2.1)).tdiv 2)))))) (some (.go ((w64 ((w64 ((w64 (x1.1 + x1.2.1)).tdiv 2)) + 1)), x1.2.1, (Ref01Stripe.mk x1.2.2.p x1.2.2.v x1.2.2.l x1.2.2.h 0 (w64 ((w64 (x1.1 + x1.2.1)).tdiv 2))))))) (some (.out (x1.1, x1.2.2)))
end Go.Abs.Curve

namespace Go.Abs.Curve
open Go Go.Abs

theorem curve_root_spec (n : Int) : ∃ y, curve_root n = some (y, y * y == n) ∧ 0 ≤ y ∧ y ≤ 67108864 ∧ (∀ m, 0 ≤ m → m < y → m * m < n) ∧ (y = 67108864 ∨ n ≤ y * y) := by
  have key := loop_inv (f := curve_root_l1 n) (fun x => 0 ≤ x.1 ∧ x.1 ≤ x.2 ∧ x.2 ≤ 67108864 ∧ (∀ m, 0 ≤ m → m < x.1 → m * m < n) ∧ (x.2 = 67108864 ∨ n ≤ x.2 * x.2)) (fun x => (x.2 - x.1).toNat)
    (fun y => 0 ≤ y ∧ y ≤ 67108864 ∧ (∀ m, 0 ≤ m → m < y → m * m < n) ∧ (y = 67108864 ∨ n ≤ y * y)) (by
      rintro ⟨lo, hi⟩ ⟨h1, h2, h3, h4, h5⟩
      dsimp only at h1 h2 h3 h4 h5
      unfold curve_root_l1
      dsimp only
      by_cases hlt : lo < hi
      · have e1 : w64 (lo + hi) = lo + hi := w64_id (by omega)
        have e2 : w64 ((lo + hi).tdiv 2) = (lo + hi) / 2 := by rw [Int.tdiv_eq_ediv_of_nonneg (by omega)]; exact w64_id (by omega)
        have hm : lo ≤ (lo + hi) / 2 ∧ (lo + hi) / 2 < hi := by omega
        generalize hmid : (lo + hi) / 2 = mid at *
        have hmm : mid * mid ≤ 67108864 * 67108864 := sq_le (by omega) (by omega)
        have hmm0 := sq_nonneg mid
        have e3 : w64 (mid * mid) = mid * mid := w64_id (by omega)
        have e4 : w64 (mid + 1) = mid + 1 := w64_id (by omega)
        simp only [e1, e2, e3, e4, hlt, decide_true, cond_true]
        by_cases hc : mid * mid < n
        · simp only [hc, decide_true, cond_true]
          refine ⟨_, rfl, ⟨by omega, by omega, h3, fun m hm0 hm1 => ?_, h5⟩, by dsimp only; omega⟩
          rcases Int.lt_or_le m mid with q | q
          · have := Int.mul_le_mul (show m ≤ mid by omega) (show m ≤ mid by omega) hm0 (by omega); omega
          · have : m = mid := by dsimp only at hm1; omega
            subst this; exact hc
        · simp only [hc, decide_false, cond_false]
          exact ⟨_, rfl, ⟨h1, by dsimp only; omega, by dsimp only; omega, h4, .inr (by dsimp only; omega)⟩, by dsimp only; omega⟩
      · simp only [hlt, decide_false, cond_false]
        obtain rfl : lo = hi := by omega
        exact ⟨_, rfl, h1, h3, h4, h5⟩) (0, 67108864) ⟨by decide, by decide, by decide, fun m h1 h2 => by dsimp only at h2; omega, .inl rfl⟩
  obtain ⟨y, hy, h1, h2, h3, h4⟩ := key
  refine ⟨y, ?_, h1, h2, h3, h4⟩
  have hmm : y * y ≤ 67108864 * 67108864 := sq_le (by omega) (by omega)
  have hmm0 := sq_nonneg y
  unfold curve_root
  rw [hy, Option.bind_some, w64_id (by omega)]
/-- The least number whose square is not less. -/
noncomputable def rt (n : Int) : Int := (curve_root_spec n).choose
theorem curve_root_rt (n : Int) : curve_root n = some (rt n, rt n * rt n == n) := (curve_root_spec n).choose_spec.1
theorem rt_nonneg (n : Int) : 0 ≤ rt n := (curve_root_spec n).choose_spec.2.1
theorem rt_min (n m : Int) (h1 : 0 ≤ m) (h2 : m < rt n) : m * m < n := (curve_root_spec n).choose_spec.2.2.2.1 m h1 h2
theorem rt_max (n : Int) : rt n = 67108864 ∨ n ≤ rt n * rt n := (curve_root_spec n).choose_spec.2.2.2.2
theorem rt_sq {l : Int} (h0 : 0 ≤ l) (h1 : l ≤ 67108864) : rt (l * l) = l := by
  rcases Int.lt_trichotomy (rt (l * l)) l with q | q | q
  · rcases rt_max (l * l) with h | h
    · omega
    · have h2 := rt_nonneg (l * l)
      have := Int.mul_lt_mul' (show rt (l * l) ≤ l by omega) q h2 (by omega); omega
  · exact q
  · have := rt_min (l * l) l h0 q; omega

end Go.Abs.Curve

namespace Go.Abs.Curve
open Go Go.Abs

def okS (p : Spot) : Bool := decide (-16777216 ≤ p.X) && decide (p.X ≤ 16777216) && decide (-16777216 ≤ p.Y) && decide (p.Y ≤ 16777216)
theorem okS_iff {p : Spot} : okS p = true ↔ -16777216 ≤ p.X ∧ p.X ≤ 16777216 ∧ -16777216 ≤ p.Y ∧ p.Y ≤ 16777216 := by simp [okS, and_assoc]
theorem fair_cond (p : Spot) : ((decide ((mm2 false p.X p.Y) < (-16777216))) || (decide ((mm2 true p.X p.Y) > 16777216))) = !okS p := by
  rw [mm2_min, mm2_max]
  cases h : okS p with
  | true => have := okS_iff.1 h; simp; omega
  | false =>
    have : ¬ (-16777216 ≤ p.X ∧ p.X ≤ 16777216 ∧ -16777216 ≤ p.Y ∧ p.Y ≤ 16777216) := fun q => by rw [okS_iff.2 q] at h; cases h
    simp; omega
theorem curve_fair_go (l : List Spot) (hl : l.length ≤ 1000000) : ∀ (r : List Spot) (i : Nat), l.drop i = r → loop (curve_fair_l1 l) (i : Int) = some (if r.all okS then .inl () else .inr false) := by
  intro r
  induction r with
  | nil =>
    intro i hi
    have := drop_nil hi
    refine loop_out ?_
    unfold curve_fair_l1
    simp only [show ¬ (i : Int) < l.length by omega, decide_false, cond_false, List.all_nil, if_true]
  | cons p r ih =>
    intro i hi
    have hlt := drop_lt hi
    have hstep : curve_fair_l1 l (i : Int) = if okS p then some (.go ((i + 1 : Nat) : Int)) else some (.out (.inr false)) := by
      unfold curve_fair_l1
      simp only [show (i : Int) < l.length by omega, decide_true, cond_true, geti_drop hi, Option.bind_some, fair_cond]
      cases h : okS p with
      | true => simp only [Bool.not_true, cond_false, if_true]; rw [w64_id (by omega)]; rfl
      | false => simp
    cases h : okS p with
    | true =>
      rw [h, if_pos rfl] at hstep
      rw [loop_go hstep, ih (i + 1) (drop_succ hi)]
      simp [h]
    | false =>
      rw [h] at hstep
      rw [loop_out hstep]
      simp [h]
theorem curve_fair_eq (l : List Spot) (hl : l.length ≤ 1000000) : curve_fair l = some (l.all okS) := by
  unfold curve_fair
  have := curve_fair_go l hl l 0 (by simp)
  rw [show ((0 : Nat) : Int) = 0 from rfl] at this
  rw [this]
  cases l.all okS <;> rfl
def vec (p q : Spot) : CurveVector := ⟨q.X - p.X, q.Y - p.Y⟩
def dotv (v w : CurveVector) : Int := v.x * w.x + v.y * w.y
/-- A vector between valid spots. -/
def okV (v : CurveVector) : Prop := -33554432 ≤ v.x ∧ v.x ≤ 33554432 ∧ -33554432 ≤ v.y ∧ v.y ≤ 33554432
theorem okV_vec {p q : Spot} (hp : okS p = true) (hq : okS q = true) : okV (vec p q) := by
  have := okS_iff.1 hp; have := okS_iff.1 hq
  unfold okV vec; dsimp only; omega
theorem curve_from_eq {p q : Spot} (hp : okS p = true) (hq : okS q = true) : curve_from p q = some (vec p q) := by
  have := okS_iff.1 hp; have := okS_iff.1 hq
  unfold curve_from vec
  rw [w64_id (by omega), w64_id (by omega)]
theorem dot_bd {v w : CurveVector} (hv : okV v) (hw : okV w) : -2251799813685248 ≤ dotv v w ∧ dotv v w ≤ 2251799813685248 ∧ (-1125899906842624 ≤ v.x * w.x ∧ v.x * w.x ≤ 1125899906842624) ∧ -1125899906842624 ≤ v.y * w.y ∧ v.y * w.y ≤ 1125899906842624 := by
  obtain ⟨a1, a2, a3, a4⟩ := hv
  obtain ⟨b1, b2, b3, b4⟩ := hw
  have h1 := mul_bd ⟨a1, a2⟩ ⟨b1, b2⟩
  have h2 := mul_bd ⟨a3, a4⟩ ⟨b3, b4⟩
  unfold dotv
  omega
theorem curve_dot_eq {v w : CurveVector} (hv : okV v) (hw : okV w) : curve_vector_dot v w = some (dotv v w) := by
  have h := dot_bd hv hw
  unfold curve_vector_dot
  rw [w64_id (n := v.x * w.x) (by omega), w64_id (n := v.y * w.y) (by omega), w64_id (by unfold dotv at h; omega)]
  rfl
def vs (v : CurveVector) : Spot := ⟨v.x, v.y⟩
theorem ref01_Minus_eq {p q : Spot} (hp : okS p = true) (hq : okS q = true) : ref01_Minus q p = some (vs (vec p q)) := by
  have := okS_iff.1 hp; have := okS_iff.1 hq
  unfold ref01_Minus vec vs
  rw [w64_id (by omega), w64_id (by omega)]
theorem ref01_Dot_eq {v w : CurveVector} (hv : okV v) (hw : okV w) : ref01_Dot (vs v) (vs w) = some (dotv v w) := by
  have h := dot_bd hv hw
  unfold ref01_Dot vs
  dsimp only
  rw [w64_id (n := v.x * w.x) (by omega), w64_id (n := v.y * w.y) (by omega), w64_id (by unfold dotv at h; omega)]
  rfl

/-- The error of a chain of points, from a piece on; the piece ahead of it. -/
noncomputable def goM : Option CurveVector → List Spot → Int
  | last, p :: q :: r =>
    if rt (dotv (vec p q) (vec p q)) * rt (dotv (vec p q) (vec p q)) ≠ dotv (vec p q) (vec p q) then 3
    else if rt (dotv (vec p q) (vec p q)) < 1000 ∨ rt (dotv (vec p q) (vec p q)) > 1048576 then 2
    else match last with
      | some u => if dotv u (vec p q) ≤ 0 then 12 else goM (some (vec p q)) (q :: r)
      | none => goM (some (vec p q)) (q :: r)
  | _, _ => 0
theorem goM_cons (last : Option CurveVector) (p q : Spot) (r : List Spot) : goM last (p :: q :: r) =
    if rt (dotv (vec p q) (vec p q)) * rt (dotv (vec p q) (vec p q)) ≠ dotv (vec p q) (vec p q) then 3
    else if rt (dotv (vec p q) (vec p q)) < 1000 ∨ rt (dotv (vec p q) (vec p q)) > 1048576 then 2
    else match last with
      | some u => if dotv u (vec p q) ≤ 0 then 12 else goM (some (vec p q)) (q :: r)
      | none => goM (some (vec p q)) (q :: r) := by
  conv => lhs; unfold goM
noncomputable def checkM (l : List Spot) : Int := if l.length < 2 then 6 else if l.length > 16 then 5 else if l.all okS then goM none l else 2

theorem curve_Check_go (c : Curve) (hl : c.Pts.length ≤ 1000000) (hok : c.Pts.all okS = true) : ∀ (r : List Spot) (p : Spot) (i : Nat) (last : CurveVector), c.Pts.drop i = p :: r → okV last →
    loop (curve_Check_l1 c) ((i : Int), last) = some (if goM (if i = 0 then none else some last) (p :: r) = 0 then .inl () else .inr (goM (if i = 0 then none else some last) (p :: r))) := by
  intro r
  induction r with
  | nil =>
    intro p i last hi hlast
    have hlt := drop_lt hi
    have := drop_nil (drop_succ hi)
    refine loop_out ?_
    unfold curve_Check_l1
    dsimp only
    rw [w64_id (n := (c.Pts.length : Int) - 1) (by omega)]
    simp only [show ¬ (i : Int) < (c.Pts.length : Int) - 1 by omega, decide_false, cond_false, goM, if_true]
  | cons q r ih =>
    intro p i last hi hlast
    have hlt := drop_lt hi
    have hi1 := drop_succ hi
    have hlt1 := drop_lt hi1
    have hp : okS p = true := List.all_eq_true.1 hok p (List.mem_of_mem_drop (i := i) (by rw [hi]; simp))
    have hq : okS q = true := List.all_eq_true.1 hok q (List.mem_of_mem_drop (i := i) (by rw [hi]; simp))
    have hv := okV_vec hp hq
    have hg1 : geti c.Pts ((i : Int) + 1) = some q := by have := geti_drop hi1; simpa using this
    have hstep : curve_Check_l1 c ((i : Int), last) =
        if rt (dotv (vec p q) (vec p q)) * rt (dotv (vec p q) (vec p q)) ≠ dotv (vec p q) (vec p q) then some (.out (.inr 3))
        else if rt (dotv (vec p q) (vec p q)) < 1000 ∨ rt (dotv (vec p q) (vec p q)) > 1048576 then some (.out (.inr 2))
        else if i ≠ 0 ∧ dotv last (vec p q) ≤ 0 then some (.out (.inr 12)) else some (.go (((i + 1 : Nat) : Int), vec p q)) := by
      unfold curve_Check_l1
      dsimp only
      rw [w64_id (n := (c.Pts.length : Int) - 1) (by omega), w64_id (n := (i : Int) + 1) (by omega)]
      simp only [show (i : Int) < (c.Pts.length : Int) - 1 by omega, decide_true, cond_true, geti_drop hi, hg1, Option.bind_some, curve_from_eq hp hq, curve_dot_eq hv hv, curve_root_rt]
      by_cases h1 : rt (dotv (vec p q) (vec p q)) * rt (dotv (vec p q) (vec p q)) = dotv (vec p q) (vec p q)
      · simp only [h1, beq_self_eq_true, Bool.not_true, cond_false, ne_eq, not_true_eq_false, if_false]
        by_cases h2 : rt (dotv (vec p q) (vec p q)) < 1000 ∨ rt (dotv (vec p q) (vec p q)) > 1048576
        · rw [if_pos h2]
          have : (decide (rt (dotv (vec p q) (vec p q)) < 1000) || decide (rt (dotv (vec p q) (vec p q)) > 1048576)) = true := by simpa using h2
          rw [this]; rfl
        · rw [if_neg h2]
          have : (decide (rt (dotv (vec p q) (vec p q)) < 1000) || decide (rt (dotv (vec p q) (vec p q)) > 1048576)) = false := by simpa using h2
          rw [this]
          simp only [cond_false]
          by_cases h3 : i = 0
          · subst h3
            simp only [Int.natCast_zero, gt_iff_lt, Int.lt_irrefl, decide_false, cond_false, Bool.false_and, Option.bind_some, not_true_eq_false, false_and, if_false]
            rfl
          · have h4 : (i : Int) > 0 := by omega
            simp only [h4, decide_true, cond_true, curve_dot_eq hlast hv, Option.bind_some, Bool.true_and, h3, not_false_eq_true, true_and]
            by_cases h5 : dotv last (vec p q) ≤ 0 <;> simp [h5]
      · have : (rt (dotv (vec p q) (vec p q)) * rt (dotv (vec p q) (vec p q)) == dotv (vec p q) (vec p q)) = false := by simpa using h1
        simp only [this, Bool.not_false, cond_true, ne_eq, h1, not_false_eq_true, if_true]
    rw [goM_cons]
    by_cases h1 : rt (dotv (vec p q) (vec p q)) * rt (dotv (vec p q) (vec p q)) ≠ dotv (vec p q) (vec p q)
    · rw [if_pos h1] at hstep
      rw [loop_out hstep, if_pos h1]; rfl
    · rw [if_neg h1] at hstep ⊢
      by_cases h2 : rt (dotv (vec p q) (vec p q)) < 1000 ∨ rt (dotv (vec p q) (vec p q)) > 1048576
      · rw [if_pos h2] at hstep
        rw [loop_out hstep, if_pos h2]; rfl
      · rw [if_neg h2] at hstep ⊢
        by_cases h3 : i = 0
        · subst h3
          rw [if_neg (by simp)] at hstep
          rw [loop_go hstep, ih q (0 + 1) (vec p q) hi1 hv]
          simp
        · by_cases h5 : dotv last (vec p q) ≤ 0
          · rw [if_pos ⟨h3, h5⟩] at hstep
            rw [loop_out hstep]
            simp [h3, h5]
          · rw [if_neg (fun h => h5 h.2)] at hstep
            rw [loop_go hstep, ih q (i + 1) (vec p q) hi1 hv]
            simp [h3, h5]
theorem curve_Check_eq (c : Curve) (hl : c.Pts.length ≤ 1000000) : curve_Check c = some (checkM c.Pts) := by
  unfold curve_Check checkM
  by_cases h1 : c.Pts.length < 2
  · rw [if_pos h1, show decide ((c.Pts.length : Int) < 2) = true by simp; omega]; rfl
  · rw [if_neg h1, show decide ((c.Pts.length : Int) < 2) = false by simp; omega]
    simp only [cond_false]
    by_cases h2 : c.Pts.length > 16
    · rw [if_pos h2, show decide ((c.Pts.length : Int) > 16) = true by simp; omega]; rfl
    · rw [if_neg h2, show decide ((c.Pts.length : Int) > 16) = false by simp; omega]
      simp only [cond_false, curve_fair_eq c.Pts hl, Option.bind_some]
      cases h3 : c.Pts.all okS with
      | false => rfl
      | true =>
        simp only [Bool.not_true, cond_false, if_true]
        cases hp : c.Pts with
        | nil => rw [hp] at h1; simp at h1
        | cons p r =>
          have := curve_Check_go c hl h3 r p 0 ⟨0, 0⟩ (by rw [hp]; rfl) ⟨by decide, by decide, by decide, by decide⟩
          rw [if_pos rfl, show ((0 : Nat) : Int) = 0 from rfl] at this
          rw [this]
          by_cases h4 : goM none (p :: r) = 0
          · rw [if_pos h4, h4]; rfl
          · rw [if_neg h4]; rfl
end Go.Abs.Curve

namespace Go.Abs.Curve
open Go Go.Abs

/-- What a valid chain is. -/
inductive Good : Option CurveVector → List Spot → Prop
  | one (last : Option CurveVector) (p : Spot) : Good last [p]
  | cons (last : Option CurveVector) (p q : Spot) (r : List Spot) (h1 : rt (dotv (vec p q) (vec p q)) * rt (dotv (vec p q) (vec p q)) = dotv (vec p q) (vec p q)) (h2 : 1000 ≤ rt (dotv (vec p q) (vec p q))) (h3 : rt (dotv (vec p q) (vec p q)) ≤ 1048576)
      (h4 : ∀ u, last = some u → 0 < dotv u (vec p q)) (h : Good (some (vec p q)) (q :: r)) : Good last (p :: q :: r)
theorem good_of_goM : ∀ (r : List Spot) (p : Spot) (last : Option CurveVector), goM last (p :: r) = 0 → Good last (p :: r) := by
  intro r
  induction r with
  | nil => intro p last _; exact .one _ _
  | cons q r ih =>
    intro p last h
    rw [goM_cons] at h
    split at h
    · cases h
    · rename_i h1
      split at h
      · cases h
      · rename_i h2
        have h1 : rt (dotv (vec p q) (vec p q)) * rt (dotv (vec p q) (vec p q)) = dotv (vec p q) (vec p q) := by simpa using h1
        cases last with
        | none => exact .cons _ _ _ _ h1 (by omega) (by omega) (fun u hu => by cases hu) (ih q _ h)
        | some u =>
          dsimp only at h
          split at h
          · cases h
          · exact .cons _ _ _ _ h1 (by omega) (by omega) (fun u' hu => by cases hu; omega) (ih q _ h)
theorem goM_of_good {last : Option CurveVector} {l : List Spot} (h : Good last l) : goM last l = 0 := by
  induction h with
  | one => rfl
  | cons last p q r h1 h2 h3 h4 h ih =>
    rw [goM_cons, if_neg (by simpa using h1), if_neg (by omega)]
    cases last with
    | none => exact ih
    | some u => dsimp only; rw [if_neg (by have := h4 u rfl; omega)]; exact ih
structure Valid (l : List Spot) : Prop where
  two : 2 ≤ l.length
  most : l.length ≤ 16
  ok : l.all okS = true
  good : Good none l
theorem checkM_zero {l : List Spot} : checkM l = 0 ↔ Valid l := by
  unfold checkM
  constructor
  · intro h
    split at h
    · cases h
    · rename_i h1
      split at h
      · cases h
      · rename_i h2
        split at h
        · rename_i h3
          cases l with
          | nil => simp at h1
          | cons p r => exact ⟨by omega, by omega, h3, good_of_goM r p none h⟩
        · cases h
  · rintro ⟨h1, h2, h3, h4⟩
    rw [if_neg (by omega), if_neg (by omega), if_pos h3]
    exact goM_of_good h4
end Go.Abs.Curve

namespace Go.Abs.Curve
open Go Go.Abs

/-- The pieces of a chain: the number, the piece. -/
noncomputable def piecesM : Nat → Int → List Spot → List (Int × CurvePiece)
  | i, s, p :: q :: r => ((i : Int), ⟨p, vec p q, rt (dotv (vec p q) (vec p q)), s⟩) :: piecesM (i + 1) (w64 (s + rt (dotv (vec p q) (vec p q)))) (q :: r)
  | _, _, _ => []
theorem piecesM_cons (i : Nat) (s : Int) (p q : Spot) (r : List Spot) : piecesM i s (p :: q :: r) = ((i : Int), ⟨p, vec p q, rt (dotv (vec p q) (vec p q)), s⟩) :: piecesM (i + 1) (w64 (s + rt (dotv (vec p q) (vec p q)))) (q :: r) := by conv => lhs; unfold piecesM
theorem piecesGo_eq (pts : List Spot) (hok : pts.all okS = true) : ∀ (r : List Spot) (p : Spot) (i : Nat) (s : Int), pts.drop i = p :: r → piecesGo pts r.length i s = some (piecesM i s (p :: r)) := by
  intro r
  induction r with
  | nil => intro p i s _; rfl
  | cons q r ih =>
    intro p i s hi
    have hi1 := drop_succ hi
    have hp : okS p = true := List.all_eq_true.1 hok p (List.mem_of_mem_drop (i := i) (by rw [hi]; simp))
    have hq : okS q = true := List.all_eq_true.1 hok q (List.mem_of_mem_drop (i := i) (by rw [hi]; simp))
    have hv := okV_vec hp hq
    have h0 : pts[i]? = some p := by have := congrArg (fun z => z[0]?) hi; simpa using this
    have h1 : pts[i + 1]? = some q := by have := congrArg (fun z => z[0]?) hi1; simpa using this
    rw [List.length_cons, piecesGo, h0, h1]
    simp only [Option.bind_some, curve_from_eq hp hq, curve_dot_eq hv hv, curve_root_rt]
    rw [ih q (i + 1) _ hi1, piecesM_cons]
    rfl
theorem piecesC_eq {pts : List Spot} (h : Valid pts) : piecesC pts = some (piecesM 0 0 pts) := by
  unfold piecesC
  have := h.most
  rw [if_pos (by omega)]
  cases hp : pts with
  | nil => have := h.two; rw [hp] at this; simp at this
  | cons p r => exact piecesGo_eq (p :: r) (by rw [← hp]; exact h.ok) r p 0 0 rfl
/-- The lengths. -/
noncomputable def lens : List Spot → List Int
  | p :: q :: r => rt (dotv (vec p q) (vec p q)) :: lens (q :: r)
  | _ => []
theorem lens_cons (p q : Spot) (r : List Spot) : lens (p :: q :: r) = rt (dotv (vec p q) (vec p q)) :: lens (q :: r) := by conv => lhs; unfold lens
theorem lens_length : ∀ (r : List Spot) (p : Spot), (lens (p :: r)).length = r.length
  | [], _ => rfl
  | q :: r, p => by rw [lens_cons, List.length_cons, lens_length r q, List.length_cons]
theorem piecesM_lens : ∀ (r : List Spot) (p : Spot) (i : Nat) (s : Int), (piecesM i s (p :: r)).map (·.2.l) = lens (p :: r)
  | [], _, _, _ => rfl
  | q :: r, p, i, s => by rw [piecesM_cons, lens_cons, List.map_cons, piecesM_lens r q]
theorem pieces_loop : ∀ (L : List (Int × CurvePiece)) (out : List Int), out.length + L.length ≤ 1000000000 → loopL curve_Pieces_l1 (fun x => x) L out = some (out ++ L.map (·.2.l)) := by
  intro L
  induction L with
  | nil => intro out _; simp [loopL]
  | cons a L ih =>
    intro out h
    simp only [List.length_cons] at h
    have : curve_Pieces_l1 out a = some (.go (out ++ [a.2.l])) := by
      unfold curve_Pieces_l1
      rw [appc_ok (by simp; omega)]; rfl
    rw [loopL, this]
    dsimp only
    rw [ih _ (by simp; omega)]
    simp
theorem curve_Pieces_eq (c : Curve) (hl : c.Pts.length ≤ 1000000) : curve_Pieces c = some (if checkM c.Pts = 0 then lens c.Pts else []) := by
  unfold curve_Pieces
  rw [curve_Check_eq c hl, Option.bind_some]
  by_cases h : checkM c.Pts = 0
  · rw [if_pos h, h]
    have hv := checkM_zero.1 h
    have := hv.most
    simp only [bne_self_eq_false, cond_false, piecesC_eq hv, Option.bind_some]
    cases hp : c.Pts with
    | nil => have := hv.two; rw [hp] at this; simp at this
    | cons p r =>
      have e := piecesM_lens r p 0 0
      rw [pieces_loop _ _ (by
        have := congrArg List.length e
        rw [List.length_map, lens_length] at this
        rw [this]; rw [hp] at hl; simp at hl ⊢; omega)]
      rw [e]; rfl
  · rw [if_neg h, show (checkM c.Pts != 0) = true from bne_iff_ne.2 h]; rfl

/-- A sum, as the programs take it. -/
def sumW : Int → List Int → Int
  | s, [] => s
  | s, a :: l => sumW (w64 (s + a)) l
theorem curve_Length_loop (l : List Int) (hl : l.length ≤ 1000000) : ∀ (r : List Int) (i : Nat) (s : Int), l.drop i = r → loop (curve_Length_l1 l) (s, (i : Int)) = some (sumW s r) := by
  intro r
  induction r with
  | nil =>
    intro i s hi
    have := drop_nil hi
    refine loop_out ?_
    unfold curve_Length_l1
    simp only [show ¬ (i : Int) < l.length by omega, decide_false, cond_false, sumW]
  | cons a r ih =>
    intro i s hi
    have hlt := drop_lt hi
    have hstep : curve_Length_l1 l (s, (i : Int)) = some (.go (w64 (s + a), ((i + 1 : Nat) : Int))) := by
      unfold curve_Length_l1
      simp only [show (i : Int) < l.length by omega, decide_true, cond_true, geti_drop hi, Option.bind_some]
      rw [w64_id (n := (i : Int) + 1) (by omega)]; rfl
    rw [loop_go hstep, ih (i + 1) _ (drop_succ hi), sumW]
noncomputable def piecesL (c : Curve) : List Int := if checkM c.Pts = 0 then lens c.Pts else []
theorem lens_le : ∀ l : List Spot, (lens l).length ≤ l.length
  | [] => by simp [lens]
  | p :: r => by rw [lens_length]; simp
theorem piecesL_le (c : Curve) : (piecesL c).length ≤ c.Pts.length := by
  unfold piecesL
  split
  · exact lens_le _
  · simp
theorem curve_Length_eq (c : Curve) (hl : c.Pts.length ≤ 1000000) : curve_Length c = some (sumW 0 (piecesL c)) := by
  unfold curve_Length
  rw [curve_Pieces_eq c hl, Option.bind_some]
  have := piecesL_le c
  have h := curve_Length_loop (piecesL c) (by omega) (piecesL c) 0 0 (by simp)
  rw [show ((0 : Nat) : Int) = 0 from rfl] at h
  show (loop (curve_Length_l1 (piecesL c)) (0, 0)).bind _ = _
  rw [h]; rfl
end Go.Abs.Curve

namespace Go.Abs.Curve
open Go Go.Abs

theorem of6 (a b c d e f : Int) : law01_of [a, b, c, d, e, f] = some ⟨[⟨a, b⟩, ⟨c, d⟩, ⟨e, f⟩]⟩ := by
  unfold law01_of
  rw [loop_go (s' := (2, ⟨[⟨a, b⟩]⟩)) rfl, loop_go (s' := (4, ⟨[⟨a, b⟩, ⟨c, d⟩]⟩)) rfl, loop_go (s' := (6, ⟨[⟨a, b⟩, ⟨c, d⟩, ⟨e, f⟩]⟩)) rfl, loop_out (t := ⟨[⟨a, b⟩, ⟨c, d⟩, ⟨e, f⟩]⟩) rfl]
  rfl
theorem of4 (a b c d : Int) : law01_of [a, b, c, d] = some ⟨[⟨a, b⟩, ⟨c, d⟩]⟩ := by
  unfold law01_of
  rw [loop_go (s' := (2, ⟨[⟨a, b⟩]⟩)) rfl, loop_go (s' := (4, ⟨[⟨a, b⟩, ⟨c, d⟩]⟩)) rfl, loop_out (t := ⟨[⟨a, b⟩, ⟨c, d⟩]⟩) rfl]
  rfl
def bentC : Curve := ⟨[⟨0, 0⟩, ⟨3000, 4000⟩, ⟨8000, 4000⟩]⟩
theorem bent_eq : law01_bent = some bentC := by unfold law01_bent; rw [of6]; rfl
theorem rt_5000 : rt 25000000 = 5000 := rt_sq (l := 5000) (by decide) (by decide)
theorem bent_d1 : dotv (vec ⟨0, 0⟩ ⟨3000, 4000⟩) (vec ⟨0, 0⟩ ⟨3000, 4000⟩) = 25000000 := by decide
theorem bent_d2 : dotv (vec ⟨3000, 4000⟩ ⟨8000, 4000⟩) (vec ⟨3000, 4000⟩ ⟨8000, 4000⟩) = 25000000 := by decide
theorem bent_valid : Valid bentC.Pts := by
  refine ⟨by decide, by decide, by decide, ?_⟩
  refine .cons _ _ _ _ ?_ ?_ ?_ (fun u hu => by cases hu) (.cons _ _ _ _ ?_ ?_ ?_ (fun u hu => by cases hu; decide) (.one _ _))
  all_goals first | rw [bent_d1, rt_5000] | rw [bent_d2, rt_5000]
  all_goals decide
theorem bent_lens : lens bentC.Pts = [5000, 5000] := by
  show lens [_, _, _] = _
  rw [lens_cons, lens_cons, bent_d1, bent_d2, rt_5000]
  rfl
theorem bent_pieces : piecesM 0 0 bentC.Pts = [(0, ⟨⟨0, 0⟩, ⟨3000, 4000⟩, 5000, 0⟩), (1, ⟨⟨3000, 4000⟩, ⟨5000, 0⟩, 5000, 5000⟩)] := by
  show piecesM 0 0 [_, _, _] = _
  rw [piecesM_cons, piecesM_cons, bent_d1, bent_d2, rt_5000]
  rfl
theorem bent_Length : curve_Length bentC = some 10000 := by
  rw [curve_Length_eq _ (by decide), piecesL, if_pos (checkM_zero.2 bent_valid), bent_lens]
  rfl
theorem bent_At : curve_At bentC 2500 = some ⟨1500, 2000⟩ := by
  unfold curve_At
  rw [curve_Check_eq _ (by decide), checkM_zero.2 bent_valid]
  simp only [Option.bind_some, bne_self_eq_false, cond_false]
  unfold curve_find
  rw [piecesC_eq bent_valid, bent_pieces]
  rfl
theorem of_bad : curve_Check ⟨[⟨0, 0⟩, ⟨1000, 1000⟩]⟩ = some 3 := by
  rw [curve_Check_eq _ (by decide)]
  have hd : dotv (vec ⟨0, 0⟩ ⟨1000, 1000⟩) (vec ⟨0, 0⟩ ⟨1000, 1000⟩) = 2000000 := by decide
  have hr : rt 2000000 * rt 2000000 ≠ 2000000 := by
    intro h
    have h0 := rt_nonneg 2000000
    rcases Int.lt_or_le (rt 2000000) 1415 with q | q
    · have := Int.mul_le_mul (show rt 2000000 ≤ 1414 by omega) (show rt 2000000 ≤ 1414 by omega) h0 (by decide); omega
    · have := Int.mul_le_mul q q (by decide) h0; omega
  unfold checkM
  rw [if_neg (by decide), if_neg (by decide), if_pos (by decide), goM_cons, hd, if_pos hr]
theorem awake_eq : law01_awake = some true := by
  unfold law01_awake
  simp only [bent_eq, Option.bind_some, bent_Length, beq_self_eq_true, cond_true, bent_At, Bool.and_self, of4, of_bad]
end Go.Abs.Curve

namespace Go.Abs.Curve
open Go Go.Abs

noncomputable def plen (p q : Spot) : Int := rt (dotv (vec p q) (vec p q))
theorem lens_consP (p q : Spot) (r : List Spot) : lens (p :: q :: r) = plen p q :: lens (q :: r) := lens_cons p q r
theorem piecesM_consP (i : Nat) (s : Int) (p q : Spot) (r : List Spot) : piecesM i s (p :: q :: r) = ((i : Int), ⟨p, vec p q, plen p q, s⟩) :: piecesM (i + 1) (w64 (s + plen p q)) (q :: r) := piecesM_cons i s p q r
theorem Good.inv {last : Option CurveVector} {p q : Spot} {r : List Spot} (h : Good last (p :: q :: r)) : plen p q * plen p q = dotv (vec p q) (vec p q) ∧ 1000 ≤ plen p q ∧ plen p q ≤ 1048576 ∧ (∀ u, last = some u → 0 < dotv u (vec p q)) ∧ Good (some (vec p q)) (q :: r) := by
  cases h with | cons _ _ _ _ h1 h2 h3 h4 h => exact ⟨h1, h2, h3, h4, h⟩
/-- The sum of what is left. -/
noncomputable def suml : List Int → Int
  | [] => 0
  | a :: l => a + suml l
theorem suml_append : ∀ (a b : List Int), suml (a ++ b) = suml a + suml b
  | [], b => by simp [suml]
  | x :: a, b => by rw [List.cons_append, suml, suml, suml_append a b]; omega
theorem suml_take {L : List Int} {i : Nat} {a : Int} {r : List Int} (h : L.drop i = a :: r) : suml (L.take (i + 1)) = suml (L.take i) + a := by
  have hlt := drop_lt h
  have : L[i] = a := by
    have := congrArg (fun z => z[0]?) h
    simp at this
    rw [List.getElem?_eq_getElem hlt] at this
    exact Option.some.inj this
  rw [List.take_succ_eq_append_getElem hlt, suml_append, this]
  simp [suml]
theorem sumW_suml : ∀ (l : List Int) (s : Int), (∀ a ∈ l, 0 ≤ a ∧ a ≤ 1048576) → 0 ≤ s → s + 1048576 * l.length ≤ 1000000000000 → sumW s l = s + suml l
  | [], s, _, _, _ => by simp [sumW, suml]
  | a :: l, s, h, h0, hb => by
    have ha := h a (by simp)
    simp only [List.length_cons] at hb
    rw [sumW, suml, w64_id (by omega), sumW_suml l (s + a) (fun b hb => h b (by simp [hb])) (by omega) (by omega)]
    omega
theorem good_lens : ∀ (r : List Spot) (p : Spot) (last : Option CurveVector), Good last (p :: r) → ∀ a ∈ lens (p :: r), 1000 ≤ a ∧ a ≤ 1048576
  | [], p, last, _, a, ha => by simp [lens] at ha
  | q :: r, p, last, hg, a, ha => by
    obtain ⟨h1, h2, h3, h4, hg⟩ := hg.inv
    · skip
      rw [lens_consP, List.mem_cons] at ha
      rcases ha with rfl | ha
      · exact ⟨h2, h3⟩
      · exact good_lens r q _ hg a ha
theorem suml_nonneg : ∀ (l : List Int), (∀ a ∈ l, 0 ≤ a) → 0 ≤ suml l
  | [], _ => by simp [suml]
  | a :: l, h => by have := h a (by simp); have := suml_nonneg l (fun b hb => h b (by simp [hb])); rw [suml]; omega
end Go.Abs.Curve

namespace Go.Abs.Curve
open Go Go.Abs

theorem lens_valid {l : List Spot} (h : Valid l) : ∃ p q r, l = p :: q :: r := by
  match l, h with
  | p :: q :: r, _ => exact ⟨p, q, r, rfl⟩
  | [p], h => exact absurd h.two (by simp)
  | [], h => exact absurd h.two (by simp)
theorem total_bd {l : List Spot} (h : Valid l) : 0 ≤ suml (lens l) ∧ suml (lens l) ≤ 16777216 ∧ sumW 0 (lens l) = suml (lens l) := by
  obtain ⟨p, q, r, rfl⟩ := lens_valid h
  have hg := good_lens (q :: r) p none h.good
  have hm := h.most
  have hlen : (lens (p :: q :: r)).length ≤ 15 := by rw [lens_length]; simp at hm ⊢; omega
  have hs := suml_nonneg (lens (p :: q :: r)) (fun a ha => by have := hg a ha; omega)
  have key : ∀ l : List Int, (∀ a ∈ l, a ≤ 1048576) → suml l ≤ 1048576 * l.length := by
    intro l
    induction l with
    | nil => intro _; simp [suml]
    | cons a l ih => intro h; have := h a (by simp); have := ih (fun b hb => h b (by simp [hb])); rw [suml, List.length_cons]; omega
  have := key (lens (p :: q :: r)) (fun a ha => (hg a ha).2)
  refine ⟨hs, by omega, ?_⟩
  rw [sumW_suml _ _ (fun a ha => by have := hg a ha; omega) (by omega) (by omega)]
  omega
end Go.Abs.Curve

namespace Go.Abs.Curve
open Go Go.Abs

theorem kit_Mod_eq {n m : Int} (hm : 0 < m) (_ : -9223372036854775808 ≤ n ∧ n ≤ 9223372036854775807) (hm2 : m ≤ 9223372036854775807) : ∃ r, kit_Mod n m = some r ∧ 0 ≤ r ∧ r < m ∧ kit_Mod64 n m = some r ∧ r = n % m := by
  unfold kit_Mod kit_Mod64 remc
  rw [if_neg (by omega)]
  simp only [Option.bind_some]
  have h1 : n.tmod m = if 0 ≤ n ∨ m ∣ n then n % m else n % m - m := by
    rw [Int.tmod_eq_emod]
    split <;> first | omega | (rw [Int.natAbs_of_nonneg (by omega)])
  have h2 := Int.emod_nonneg n (show m ≠ 0 by omega)
  have h3 := Int.emod_lt_of_pos n hm
  by_cases hc : 0 ≤ n ∨ m ∣ n
  · rw [if_pos hc] at h1
    rw [h1, show decide (n % m < 0) = false from decide_eq_false (by omega)]
    exact ⟨_, rfl, h2, h3, rfl, rfl⟩
  · rw [if_neg hc] at h1
    rw [h1]
    have hne : n % m ≠ 0 := fun h => hc (.inr (Int.dvd_of_emod_eq_zero h))
    rw [show decide (n % m - m < 0) = true from decide_eq_true (by omega), w64_id (by omega)]
    refine ⟨_, rfl, ?_, ?_, rfl, ?_⟩ <;> omega
/-- A quarter turn, so many times. -/
def rotM : Nat → CurveVector → CurveVector
  | 0, v => v
  | n + 1, v => rotM n ⟨-v.y, v.x⟩
theorem rot_dot : ∀ (n : Nat) (v w : CurveVector), dotv (rotM n v) (rotM n w) = dotv v w
  | 0, _, _ => rfl
  | n + 1, v, w => by rw [rotM, rotM, rot_dot n]; unfold dotv; grind
theorem rot_bd {B : Int} : ∀ (n : Nat) (v : CurveVector), (-B ≤ v.x ∧ v.x ≤ B ∧ -B ≤ v.y ∧ v.y ≤ B) → -B ≤ (rotM n v).x ∧ (rotM n v).x ≤ B ∧ -B ≤ (rotM n v).y ∧ (rotM n v).y ≤ B
  | 0, _, h => h
  | n + 1, v, h => by rw [rotM]; exact rot_bd n _ (by dsimp only; omega)
theorem rot_loop : ∀ (n : Nat) (v : CurveVector), n ≤ 1000 → (-1000000 ≤ v.x ∧ v.x ≤ 1000000 ∧ -1000000 ≤ v.y ∧ v.y ≤ 1000000) → loop kit_Curve_l2 ((n : Int), vs v) = some (vs (rotM n v))
  | 0, v, _, _ => by
    refine loop_out ?_
    unfold kit_Curve_l2
    rfl
  | n + 1, v, hn, hv => by
    have : kit_Curve_l2 (((n + 1 : Nat) : Int), vs v) = some (.go ((n : Int), vs ⟨-v.y, v.x⟩)) := by
      unfold kit_Curve_l2 vs
      dsimp only
      rw [show decide (((n + 1 : Nat) : Int) > 0) = true from decide_eq_true (by omega), w64_id (n := ((n + 1 : Nat) : Int) - 1) (by omega), w64_id (n := 0 - v.y) (by omega)]
      simp only [cond_true]
      congr 4
      · omega
      · omega
    rw [loop_go this, rot_loop n _ (by omega) (by dsimp only; omega), rotM]
def tripleOK (a b c : Int) : Prop := 0 < a ∧ 0 ≤ b ∧ a * a + b * b = c * c ∧ 1 ≤ c ∧ c ≤ 29 ∧ a ≤ c ∧ b ≤ c
theorem triple_get (m : Int) (h0 : 0 ≤ m) (h1 : m < 11) : ∃ a b c, geti [(1, 0, 1), (3, 4, 5), (4, 3, 5), (5, 12, 13), (12, 5, 13), (8, 15, 17), (15, 8, 17), (7, 24, 25), (24, 7, 25), (20, 21, 29), (21, 20, 29), (0, 1, 1)] m = some (a, b, c) ∧ tripleOK a b c := by
  have : m = 0 ∨ m = 1 ∨ m = 2 ∨ m = 3 ∨ m = 4 ∨ m = 5 ∨ m = 6 ∨ m = 7 ∨ m = 8 ∨ m = 9 ∨ m = 10 := by omega
  rcases this with rfl | rfl | rfl | rfl | rfl | rfl | rfl | rfl | rfl | rfl | rfl <;> exact ⟨_, _, _, rfl, by unfold tripleOK; decide⟩
/-- A piece's vector, made of numbers: in one quadrant. -/
def Quad (n : Nat) (v : CurveVector) : Prop := ∃ x y L : Int, v = rotM n ⟨x, y⟩ ∧ 0 < x ∧ 0 ≤ y ∧ x * x + y * y = L * L ∧ 1000 ≤ L ∧ L ≤ 3029 ∧ x ≤ L ∧ y ≤ L
inductive Ch (Q : CurveVector → Prop) : List Spot → Prop
  | one (p : Spot) : Ch Q [p]
  | cons (p q : Spot) (r : List Spot) (h : Q (vec p q)) (hr : Ch Q (q :: r)) : Ch Q (p :: q :: r)
theorem Ch.snoc {Q : CurveVector → Prop} {a b : Spot} (h : Q (vec a b)) : ∀ (l : List Spot), Ch Q (l ++ [a]) → Ch Q (l ++ [a, b])
  | [], _ => .cons _ _ _ h (.one _)
  | [p], hc => by cases hc with | cons _ _ _ h1 h2 => exact .cons _ _ _ h1 (.cons _ _ _ h (.one _))
  | p :: q :: r, hc => by
    cases hc with
    | cons _ _ _ h1 h2 => exact .cons _ _ _ h1 (Ch.snoc h (q :: r) h2)
theorem good_of_ch {n : Nat} : ∀ (r : List Spot) (p : Spot) (last : Option CurveVector), Ch (Quad n) (p :: r) → (∀ u, last = some u → Quad n u) → Good last (p :: r)
  | [], p, last, _, _ => .one _ _
  | q :: r, p, last, hc, hl => by
    cases hc with
    | cons _ _ _ h1 h2 =>
      have hq := h1
      obtain ⟨x, y, L, hv, hx, hy, hsq, hL1, hL2, hxL, hyL⟩ := h1
      have hd : dotv (vec p q) (vec p q) = L * L := by rw [hv, rot_dot]; unfold dotv; exact hsq
      have hrt : rt (dotv (vec p q) (vec p q)) = L := by rw [hd]; exact rt_sq (by omega) (by omega)
      refine .cons _ _ _ _ (by rw [hrt, hd]) (by rw [hrt]; exact hL1) (by rw [hrt]; omega) (fun u hu => ?_) (good_of_ch r q _ h2 (fun u hu => by cases hu; exact hq))
      obtain ⟨x', y', L', hv', hx', hy', _⟩ := hl u hu
      rw [hv, hv', rot_dot]
      unfold dotv
      have := Int.mul_pos hx' hx
      have := Int.mul_nonneg hy' hy
      dsimp only
      omega
/-- What the curves made of numbers are like. -/
structure Made (l : List Spot) : Prop where
  two : 2 ≤ l.length
  six : l.length ≤ 6
  ch : ∃ n, Ch (Quad n) l
  bd : ∀ p ∈ l, -50000 ≤ p.X ∧ p.X ≤ 50000 ∧ -50000 ≤ p.Y ∧ p.Y ≤ 50000
theorem Made.valid {l : List Spot} (h : Made l) : Valid l := by
  obtain ⟨n, hc⟩ := h.ch
  have := h.two; have := h.six
  refine ⟨h.two, by omega, List.all_eq_true.2 fun p hp => okS_iff.2 (by have := h.bd p hp; omega), ?_⟩
  match l, h, hc with
  | p :: r, _, hc => exact good_of_ch r p none hc (fun u hu => by cases hu)
  | [], h, _ => exact absurd h.two (by simp)
theorem tmod_bd (n : Int) : -20000 ≤ n.tmod 20001 ∧ n.tmod 20001 ≤ 20000 := by
  have h1 := Int.tmod_lt_of_pos n (show (0 : Int) < 20001 by decide)
  have h2 := Int.tmod_lt_of_pos (-n) (show (0 : Int) < 20001 by decide)
  rw [Int.neg_tmod] at h2
  omega
theorem made_step (m : KitChain) (hw : ∀ a ∈ m.Steps, wI64 a) (f : Int) (nq : Nat) (hf : f.tmod 4 = nq) (hnq : nq ≤ 1000) (i : Nat) (pre : List Spot) (p : Spot) (hi : (i : Int) < max 1 (min (m.Steps.length : Int) 5)) (hpl : pre.length = i) (hp : ∀ a ∈ pre ++ [p], -(20000 + 3029 * i) ≤ a.X ∧ a.X ≤ 20000 + 3029 * i ∧ -(20000 + 3029 * i) ≤ a.Y ∧ a.Y ≤ 20000 + 3029 * i) :
    ∃ v : CurveVector, Quad nq v ∧ (-3029 ≤ v.x ∧ v.x ≤ 3029 ∧ -3029 ≤ v.y ∧ v.y ≤ 3029) ∧ kit_Curve_l1 m [(1, 0, 1), (3, 4, 5), (4, 3, 5), (5, 12, 13), (12, 5, 13), (8, 15, 17), (15, 8, 17), (7, 24, 25), (24, 7, 25), (20, 21, 29), (21, 20, 29), (0, 1, 1)] f ((i : Int), p, ⟨pre ++ [p]⟩) =
      some (.go (((i + 1 : Nat) : Int), ⟨p.X + v.x, p.Y + v.y⟩, ⟨pre ++ [p, ⟨p.X + v.x, p.Y + v.y⟩]⟩)) := by
  -- the number
  obtain ⟨n, hn, n0, n1⟩ : ∃ n, (cond (decide ((i : Int) < (m.Steps.length : Int))) ((geti m.Steps (i : Int)).bind fun v4 => (kit_Mod v4 1048576).bind fun v5 => some v5) (some 0)) = some n ∧ 0 ≤ n ∧ n < 1048576 := by
    by_cases hc : i < m.Steps.length
    · rw [show decide ((i : Int) < (m.Steps.length : Int)) = true from decide_eq_true (by omega)]
      obtain ⟨r, hr, r0, r1, _⟩ := kit_Mod_eq (n := m.Steps[i]) (m := 1048576) (by decide) (hw _ (List.getElem_mem hc)) (by decide)
      simp only [cond_true, geti_nat hc, Option.bind_some, hr]
      exact ⟨r, rfl, r0, r1⟩
    · rw [show decide ((i : Int) < (m.Steps.length : Int)) = false from decide_eq_false (by omega)]
      exact ⟨0, rfl, by decide, by decide⟩
  have hm11 : n.tmod 11 = n % 11 := Int.tmod_eq_emod_of_nonneg n0
  obtain ⟨a, b, c, hg, ha, hb, habc, hc1, hc2, hac, hbc⟩ := triple_get (n % 11) (Int.emod_nonneg _ (by decide)) (Int.emod_lt_of_pos _ (by decide))
  have hq1 : quoc .i64 1000 c = some (1000 / c) := by
    unfold quoc
    rw [if_neg (by omega), Int.tdiv_eq_ediv_of_nonneg (by decide)]
    have h1 := Int.ediv_nonneg (show (0 : Int) ≤ 1000 by decide) (show 0 ≤ c by omega)
    have h2 := Int.ediv_le_self c (show (0 : Int) ≤ 1000 by decide)
    exact congrArg some (w64_id (by omega))
  have hd11 : w64 (n.tdiv 11) = n / 11 := by rw [Int.tdiv_eq_ediv_of_nonneg n0]; exact w64_id (by omega)
  have hm20 : (n / 11).tmod 2000 = n / 11 % 2000 := Int.tmod_eq_emod_of_nonneg (by omega)
  generalize hj : n / 11 % 2000 = j at *
  have hj0 : 0 ≤ j := by rw [← hj]; exact Int.emod_nonneg _ (by decide)
  have hj1 : j < 2000 := by rw [← hj]; exact Int.emod_lt_of_pos _ (by decide)
  have hq2 : quoc .i64 j c = some (j / c) := by
    unfold quoc
    rw [if_neg (by omega), Int.tdiv_eq_ediv_of_nonneg hj0]
    have h1 := Int.ediv_nonneg hj0 (show 0 ≤ c by omega)
    have h2 := Int.ediv_le_self c hj0
    exact congrArg some (w64_id (by omega))
  have e1 := Int.ediv_nonneg (show (0 : Int) ≤ 1000 by decide) (show 0 ≤ c by omega)
  have e2 := Int.ediv_nonneg hj0 (show 0 ≤ c by omega)
  have e3 := Int.ediv_mul_le 1000 (show c ≠ 0 by omega)
  have e4 := Int.ediv_mul_le j (show c ≠ 0 by omega)
  have e5 := Int.lt_ediv_add_one_mul_self 1000 (show 0 < c by omega)
  have e6 := Int.ediv_le_self c (show (0 : Int) ≤ 1000 by decide)
  have e7 := Int.ediv_le_self c hj0
  generalize hk1 : (1000 : Int) / c = k1 at *
  generalize hk2 : j / c = k2 at *
  have hk : w64 (w64 (k1 + 1) + k2) = k1 + 1 + k2 := by rw [w64_id (n := k1 + 1) (by omega)]; exact w64_id (by omega)
  generalize hkk : k1 + 1 + k2 = k at *
  have hk0 : 1 ≤ k := by omega
  have hL : k * c = k1 * c + c + k2 * c := by rw [← hkk, Int.add_mul, Int.add_mul, Int.one_mul]
  have hL' : (k1 + 1) * c = k1 * c + c := by rw [Int.add_mul, Int.one_mul]
  have hk2c : 0 ≤ k2 * c := Int.mul_nonneg e2 (by omega)
  have hL1 : 1000 ≤ k * c := by omega
  have hL2 : k * c ≤ 3029 := by omega
  have hak : a * k ≤ k * c := by rw [Int.mul_comm k c]; exact Int.mul_le_mul_of_nonneg_right hac (by omega)
  have hbk : b * k ≤ k * c := by rw [Int.mul_comm k c]; exact Int.mul_le_mul_of_nonneg_right hbc (by omega)
  have hak0 : 0 < a * k := Int.mul_pos ha (by omega)
  have hbk0 : 0 ≤ b * k := Int.mul_nonneg hb (by omega)
  have hQ : Quad nq (rotM nq ⟨a * k, b * k⟩) := ⟨a * k, b * k, k * c, rfl, hak0, hbk0, by grind, hL1, hL2, hak, hbk⟩
  have hbd := rot_bd (B := 3029) nq ⟨a * k, b * k⟩ (by dsimp only; omega)
  refine ⟨rotM nq ⟨a * k, b * k⟩, hQ, hbd, ?_⟩
  have hpp := hp p (by simp)
  unfold kit_Curve_l1
  dsimp only
  have hcond : decide ((i : Int) < (mm2 true 1 (mm2 false (m.Steps.length : Int) 5))) = true := by rw [mm2_max, mm2_min]; simpa using hi
  rw [hcond, hn]
  simp only [cond_true, Option.bind_some, hm11, hg, hq1, hd11, hm20, hq2, hk, hf]
  rw [w64_id (n := a * k) (by omega), w64_id (n := b * k) (by omega)]
  have hrot := rot_loop nq ⟨a * k, b * k⟩ hnq (by dsimp only; omega)
  unfold vs at hrot
  dsimp only at hrot
  rw [hrot, Option.bind_some]
  dsimp only
  have hi5 : i ≤ 5 := by omega
  rw [w64_id (n := p.X + _) (by omega), w64_id (n := p.Y + _) (by omega), appc_ok (by simp; omega), Option.bind_some, w64_id (by omega)]
  simp only [List.append_assoc, List.cons_append, List.nil_append]
  rfl
theorem kit_Curve_eq (m : KitChain) (hw : ∀ a ∈ m.Steps, wI64 a) : ∃ c, kit_Curve m = some c ∧ Made c.Pts := by
  obtain ⟨f, hf, f0, f1⟩ : ∃ f, (cond (decide ((m.Steps.length : Int) > 0)) ((geti m.Steps 0).bind fun v2 => (kit_Mod v2 48).bind fun v3 => some v3) (some 0)) = some f ∧ 0 ≤ f ∧ f < 48 := by
    by_cases hc : 0 < m.Steps.length
    · rw [show decide ((m.Steps.length : Int) > 0) = true from decide_eq_true (by omega)]
      obtain ⟨r, hr, r0, r1, _⟩ := kit_Mod_eq (n := m.Steps[0]) (m := 48) (by decide) (hw _ (List.getElem_mem hc)) (by decide)
      have hg : geti m.Steps 0 = some m.Steps[0] := geti_nat hc
      simp only [cond_true, hg, Option.bind_some, hr]
      exact ⟨r, rfl, r0, r1⟩
    · rw [show decide ((m.Steps.length : Int) > 0) = false from decide_eq_false (by omega)]
      exact ⟨0, rfl, by decide, by decide⟩
  obtain ⟨nq, hnq, hnq3⟩ : ∃ nq : Nat, f.tmod 4 = nq ∧ nq ≤ 1000 := ⟨(f % 4).toNat, by rw [Int.tmod_eq_emod_of_nonneg f0]; omega, by omega⟩
  have key := loop_inv (f := kit_Curve_l1 m [(1, 0, 1), (3, 4, 5), (4, 3, 5), (5, 12, 13), (12, 5, 13), (8, 15, 17), (15, 8, 17), (7, 24, 25), (24, 7, 25), (20, 21, 29), (21, 20, 29), (0, 1, 1)] f)
    (fun x => ∃ (i : Nat) (pre : List Spot), x.1 = i ∧ (i : Int) ≤ max 1 (min (m.Steps.length : Int) 5) ∧ pre.length = i ∧ x.2.2.Pts = pre ++ [x.2.1] ∧ Ch (Quad nq) (pre ++ [x.2.1]) ∧ ∀ a ∈ pre ++ [x.2.1], -(20000 + 3029 * i) ≤ a.X ∧ a.X ≤ 20000 + 3029 * i ∧ -(20000 + 3029 * i) ≤ a.Y ∧ a.Y ≤ 20000 + 3029 * i)
    (fun x => (5 - x.1).toNat) (fun c => Made c.Pts) (by
      rintro ⟨x1, p, c⟩ ⟨i, pre, rfl, hi, hpl, hpts, hch, hbd⟩
      dsimp only at hpts hch hbd
      obtain rfl : c = ⟨pre ++ [p]⟩ := by cases c; simp at hpts; rw [hpts]
      by_cases hlt : (i : Int) < max 1 (min (m.Steps.length : Int) 5)
      · obtain ⟨v, hQ, hv, hstep⟩ := made_step m hw f nq hnq hnq3 i pre p hlt hpl hbd
        refine ⟨_, hstep, ⟨i + 1, pre ++ [p], rfl, by omega, by simp [hpl], by simp, ?_, ?_⟩, by dsimp only; omega⟩
        · dsimp only
          rw [List.append_assoc]
          refine Ch.snoc ?_ pre hch
          have : vec p ⟨p.X + v.x, p.Y + v.y⟩ = v := by unfold vec; cases v; dsimp only; congr 1 <;> omega
          rw [this]; exact hQ
        · intro a ha
          dsimp only at ha
          rw [List.mem_append] at ha
          rcases ha with ha | ha
          · have := hbd a ha; omega
          · simp only [List.mem_singleton] at ha
            subst ha
            have := hbd p (by simp)
            dsimp only
            omega
      · have hend : kit_Curve_l1 m [(1, 0, 1), (3, 4, 5), (4, 3, 5), (5, 12, 13), (12, 5, 13), (8, 15, 17), (15, 8, 17), (7, 24, 25), (24, 7, 25), (20, 21, 29), (21, 20, 29), (0, 1, 1)] f ((i : Int), p, ⟨pre ++ [p]⟩) = some (.out ⟨pre ++ [p]⟩) := by
          unfold kit_Curve_l1
          dsimp only
          have hcond : decide ((i : Int) < (mm2 true 1 (mm2 false (m.Steps.length : Int) 5))) = false := by rw [mm2_max, mm2_min]; simpa using hlt
          rw [hcond]; rfl
        refine ⟨_, hend, ?_⟩
        refine ⟨by simp; omega, by simp; omega, ⟨nq, hch⟩, fun a ha => ?_⟩
        have := hbd a ha
        omega) (0, ⟨m.X.tmod 20001, m.Y.tmod 20001⟩, ⟨[⟨m.X.tmod 20001, m.Y.tmod 20001⟩]⟩) ⟨0, [], rfl, by omega, rfl, rfl, .one _, fun a ha => by
        simp only [List.nil_append, List.mem_singleton] at ha
        have h1 := tmod_bd m.X
        have h2 := tmod_bd m.Y
        rw [ha]
        refine ⟨?_, ?_, ?_, ?_⟩ <;> dsimp only <;> omega⟩
  obtain ⟨c, hc, hm⟩ := key
  refine ⟨c, ?_, hm⟩
  unfold kit_Curve kit_triples
  rw [Option.bind_some, hf, Option.bind_some, hc]
  rfl
end Go.Abs.Curve

namespace Go.Abs.Curve
open Go Go.Abs
end Go.Abs.Curve

namespace Go.Abs.Curve
open Go Go.Abs
theorem curve_floor_eq {a b : Int} (hb : 0 < b) (ha : wI64 a) : curve_floor a b = some (a / b) := by
  unfold curve_floor quoc remc
  rw [if_neg (by omega), if_neg (by omega)]
  simp only [Option.bind_some]
  have hle : a.natAbs / b.natAbs ≤ a.natAbs := Nat.div_le_self _ _
  have h1 := Int.tmod_lt_of_pos a hb
  have h3 := Int.tdiv_mul_add_tmod a b
  have h4 := Int.ediv_mul_add_emod a b
  have h5 := Int.emod_nonneg a (show b ≠ 0 by omega)
  have h6 := Int.emod_lt_of_pos a hb
  have hq := @Int.tdiv_eq_ediv a b
  have hm := @Int.tmod_eq_emod a b
  unfold wI64 at ha
  have hab : -9223372036854775808 ≤ a / b ∧ a / b ≤ 9223372036854775807 := by
    constructor
    · have := Int.le_ediv_of_mul_le hb (show -9223372036854775808 * b ≤ a by
        have := Int.mul_le_mul_of_nonneg_left (show (1 : Int) ≤ b by omega) (show (0 : Int) ≤ 9223372036854775808 by decide); omega)
      exact this
    · have := Int.ediv_le_of_le_mul hb (show a ≤ 9223372036854775807 * b by
        have := Int.mul_le_mul_of_nonneg_left (show (1 : Int) ≤ b by omega) (show (0 : Int) ≤ 9223372036854775807 by decide); omega)
      exact this
  by_cases hc : 0 ≤ a ∨ b ∣ a
  · rw [if_pos hc, Int.add_zero] at hq
    rw [if_pos hc, show ((0:Nat):Int) = 0 from rfl, Int.sub_zero] at hm
    rw [hq, hm, show decide (a % b < 0) = false from decide_eq_false (by omega), show IntKind.i64.wrap (a / b) = a / b from w64_id hab]; rfl
  · rw [if_neg hc, Int.sign_eq_one_of_pos hb] at hq
    rw [if_neg hc, Int.natAbs_of_nonneg (by omega)] at hm
    have hneg : a / b < 0 := by
      rcases Int.lt_or_le (a / b) 0 with q | q
      · exact q
      · have := Int.mul_nonneg q (show 0 ≤ b by omega)
        exact absurd (.inl (by omega)) hc
    rw [hq, hm, show decide (a % b - b < 0) = true from decide_eq_true (by omega), show IntKind.i64.wrap (a / b + 1) = a / b + 1 from w64_id (by omega), w64_id (by omega)]
    simp only [cond_true]
    congr 1
    omega
theorem suml_take_lt {L : List Int} (h : ∀ a ∈ L, 1000 ≤ a) : ∀ {i j : Nat}, i < j → j ≤ L.length → suml (L.take i) + 1000 ≤ suml (L.take j) := by
  intro i j hij
  induction hij with
  | refl =>
    intro hj
    have hd : L.drop i = L[i] :: L.drop (i + 1) := List.drop_eq_getElem_cons (by omega)
    rw [suml_take hd]
    have := h L[i] (List.getElem_mem (by omega)); omega
  | @step j hij ih =>
    intro hj
    have := ih (by omega)
    have hd : L.drop j = L[j] :: L.drop (j + 1) := List.drop_eq_getElem_cons (by omega)
    have e := suml_take hd
    have := h L[j] (List.getElem_mem (by omega))
    show _ ≤ suml (L.take (j + 1))
    omega
theorem valid_lens {l : List Spot} (V : Valid l) : (∀ a ∈ lens l, 1000 ≤ a ∧ a ≤ 1048576) ∧ (lens l).length + 1 = l.length := by
  obtain ⟨p, q, r, rfl⟩ := lens_valid V
  exact ⟨good_lens (q :: r) p none V.good, by rw [lens_length]; simp⟩
end Go.Abs.Curve

namespace Go.Abs.Curve
open Go Go.Abs
def crossv (v w : CurveVector) : Int := v.x * w.y - v.y * w.x
theorem cross_bd {v w : CurveVector} (hv : okV v) (hw : okV w) : -2251799813685248 ≤ crossv v w ∧ crossv v w ≤ 2251799813685248 ∧ (-1125899906842624 ≤ v.x * w.y ∧ v.x * w.y ≤ 1125899906842624) ∧ -1125899906842624 ≤ v.y * w.x ∧ v.y * w.x ≤ 1125899906842624 := by
  obtain ⟨v1, v2, v3, v4⟩ := hv
  obtain ⟨w1, w2, w3, w4⟩ := hw
  have m1 := mul_bd ⟨v1, v2⟩ ⟨w3, w4⟩
  have m2 := mul_bd ⟨v3, v4⟩ ⟨w1, w2⟩
  unfold crossv
  omega
theorem ref01_Cross_eq {v w : CurveVector} (hv : okV v) (hw : okV w) : ref01_Cross (vs v) (vs w) = some (crossv v w) := by
  have := cross_bd hv hw
  unfold crossv at this
  unfold ref01_Cross crossv vs
  dsimp only
  rw [w64_id (n := v.x * w.y) (by omega), w64_id (n := v.y * w.x) (by omega), w64_id (by omega)]
end Go.Abs.Curve

namespace Go.Abs.Curve
open Go Go.Abs
end Go.Abs.Curve

namespace Go.Abs.Curve
open Go Go.Abs
def absI (x : Int) : Int := max x (-x)
theorem curve_abs_eq {x : Int} (h : -2251799813685248 ≤ x ∧ x ≤ 2251799813685248) : curve_abs x = some (absI x) := by
  unfold curve_abs absI
  rw [mm2_max, w64_id (by omega), show 0 - x = -x by omega]
end Go.Abs.Curve

namespace Go.Abs.Curve
open Go Go.Abs
end Go.Abs.Curve

namespace Go.Abs.Curve
open Go Go.Abs
theorem abs_le_of_sq {x y : Int} (hy : 0 ≤ y) (h : x * x ≤ y * y) : -y ≤ x ∧ x ≤ y := by
  constructor
  · refine Int.not_lt.1 fun q => ?_
    have h1 := Int.mul_le_mul_of_nonneg_left (show y ≤ -x by omega) hy
    have h2 := Int.mul_lt_mul_of_pos_right (show y < -x by omega) (show 0 < -x by omega)
    have h3 : -x * -x = x * x := by grind
    omega
  · refine Int.not_lt.1 fun q => ?_
    have h1 := Int.mul_le_mul_of_nonneg_left (show y ≤ x by omega) hy
    have h2 := Int.mul_lt_mul_of_pos_right q (show 0 < x by omega)
    omega
end Go.Abs.Curve

namespace Go.Abs.Curve
open Go Go.Abs
theorem floor_hi {N l w E : Int} (hl : 0 < l) : (w + -(N / l) > E) ↔ (l * w - N > E * l) := by
  have h := Int.ediv_lt_iff_lt_mul (a := N) (b := w - E) hl
  have e : (w - E) * l = l * w - E * l := by grind
  omega
theorem floor_lo {N l w E : Int} (hl : 0 < l) : (w + N / l < E) ↔ (l * w + N < E * l) := by
  have h := Int.ediv_lt_iff_lt_mul (a := N) (b := E - w) hl
  have e : (E - w) * l = E * l - l * w := by grind
  omega
def leftv (v : CurveVector) : CurveVector := ⟨-v.y, v.x⟩
/-- A corridor whose numbers are in range. -/
structure Cor (c : CurveCorridor) : Prop where
  p : okS c.piece.p = true
  l1 : 1000 ≤ c.piece.l
  l2 : c.piece.l ≤ 1048576
  sq : c.piece.l * c.piece.l = dotv c.piece.v c.piece.v
  x : -c.piece.l ≤ c.piece.v.x ∧ c.piece.v.x ≤ c.piece.l
  y : -c.piece.l ≤ c.piece.v.y ∧ c.piece.v.y ≤ c.piece.l
  h : 0 ≤ c.half ∧ c.half ≤ 4000
  e1 : 0 ≤ c.ends.1 ∧ c.ends.1 ≤ c.piece.l
  e2 : 0 ≤ c.ends.2 ∧ c.ends.2 ≤ c.piece.l
/-- One axis: the first interval is E1 to E2, the second lies about w. -/
def axis (w k m h l e1 e2 E1 E2 : Int) : Bool := decide (l * w + min (e1 * k) (e2 * k) - h * absI m > E2 * l) || decide (l * w + max (e1 * k) (e2 * k) + h * absI m < E1 * l)
def wv (c d : CurveCorridor) : CurveVector := vec c.piece.p d.piece.p
def apartM (c d : CurveCorridor) : Bool :=
  axis (dotv (wv c d) c.piece.v) (dotv d.piece.v c.piece.v) (dotv (leftv d.piece.v) c.piece.v) d.half d.piece.l d.ends.1 d.ends.2 (c.ends.1 * c.piece.l) (c.ends.2 * c.piece.l) ||
  axis (dotv (wv c d) (leftv c.piece.v)) (dotv d.piece.v (leftv c.piece.v)) (dotv (leftv d.piece.v) (leftv c.piece.v)) d.half d.piece.l d.ends.1 d.ends.2 (-(c.half * c.piece.l)) (c.half * c.piece.l)
theorem curve_left_eq {v : CurveVector} (_ : -1048576 ≤ v.x ∧ v.x ≤ 1048576) (h2 : -1048576 ≤ v.y ∧ v.y ≤ 1048576) : curve_vector_left v = some (leftv v) := by
  unfold curve_vector_left leftv
  rw [w64_id (by omega), show 0 - v.y = -v.y by omega]
theorem dot_small {v w : CurveVector} (hx : -1048576 ≤ v.x ∧ v.x ≤ 1048576) (hy : -1048576 ≤ v.y ∧ v.y ≤ 1048576) (wx : -1048576 ≤ w.x ∧ w.x ≤ 1048576) (wy : -1048576 ≤ w.y ∧ w.y ≤ 1048576) : -2199023255552 ≤ dotv v w ∧ dotv v w ≤ 2199023255552 := by
  have m1 := mul_bd hx wx
  have m2 := mul_bd hy wy
  unfold dotv
  omega
theorem curve_axis {w k m h l e1 e2 : Int} (hw : -2251799813685248 ≤ w ∧ w ≤ 2251799813685248) (hk : -2199023255552 ≤ k ∧ k ≤ 2199023255552) (hm : -2199023255552 ≤ m ∧ m ≤ 2199023255552) (hh : 0 ≤ h ∧ h ≤ 4000) (hl : 1000 ≤ l ∧ l ≤ 1048576) (he1 : 0 ≤ e1 ∧ e1 ≤ l) (he2 : 0 ≤ e2 ∧ e2 ≤ l) :
    ∃ f g, curve_floor (w64 (w64 (h * absI m) - mm2 false (w64 (e1 * k)) (w64 (e2 * k)))) l = some f ∧ curve_floor (w64 (mm2 true (w64 (e1 * k)) (w64 (e2 * k)) + w64 (h * absI m))) l = some g ∧
      ∀ E1 E2 : Int, (decide (w64 (w + w64 (0 - f)) > E2) || decide (w64 (w + g) < E1)) = axis w k m h l e1 e2 E1 E2 := by
  have ha : 0 ≤ absI m ∧ absI m ≤ 2199023255552 := by unfold absI; omega
  have m1 := mul_bd (show -1048576 ≤ e1 ∧ e1 ≤ 1048576 by omega) hk
  have m2 := mul_bd (show -1048576 ≤ e2 ∧ e2 ≤ 1048576 by omega) hk
  have m3 := mul_bd (show -4000 ≤ h ∧ h ≤ 4000 by omega) (show -2199023255552 ≤ absI m ∧ absI m ≤ 2199023255552 by omega)
  rw [w64_id (n := h * absI m) (by omega), w64_id (n := e1 * k) (by omega), w64_id (n := e2 * k) (by omega), mm2_max, mm2_min, w64_id (n := h * absI m - _) (by omega), w64_id (n := max _ _ + _) (by omega)]
  rw [curve_floor_eq (by omega) (by unfold wI64; omega), curve_floor_eq (by omega) (by unfold wI64; omega)]
  have hd : ∀ N : Int, -2400000000000000000 ≤ N → N ≤ 2400000000000000000 → -2400000000000000 ≤ N / l ∧ N / l ≤ 2400000000000000 := by
    intro N n1 n2
    constructor
    · exact Int.le_ediv_of_mul_le (by omega) (by omega)
    · exact Int.ediv_le_of_le_mul (by omega) (by omega)
  have d1 := hd (h * absI m - min (e1 * k) (e2 * k)) (by omega) (by omega)
  have d2 := hd (max (e1 * k) (e2 * k) + h * absI m) (by omega) (by omega)
  refine ⟨_, _, rfl, rfl, ?_⟩
  intro E1 E2
  rw [w64_id (n := 0 - _) (by omega), w64_id (n := w + (0 - _)) (by omega), w64_id (n := w + _ / l) (by omega), Int.zero_sub]
  unfold axis
  congr 1
  · exact decide_eq_decide.2 ((floor_hi (by omega)).trans (by omega))
  · exact decide_eq_decide.2 ((floor_lo (by omega)).trans (by omega))
theorem curve_apart_eq {c d : CurveCorridor} (C : Cor c) (D : Cor d) : curve_corridor_apart c d = some (apartM c d) := by
  have c1 := C.l1
  have c2 := C.l2
  have d1 := D.l1
  have d2 := D.l2
  obtain ⟨cx1, cx2⟩ := C.x
  obtain ⟨cy1, cy2⟩ := C.y
  obtain ⟨dx1, dx2⟩ := D.x
  obtain ⟨dy1, dy2⟩ := D.y
  have ch := C.h
  have ce1 := C.e1
  have ce2 := C.e2
  have hcv : okV c.piece.v := ⟨by omega, by omega, by omega, by omega⟩
  have hdv : okV d.piece.v := ⟨by omega, by omega, by omega, by omega⟩
  have hcl : okV (leftv c.piece.v) := ⟨by unfold leftv; dsimp only; omega, by unfold leftv; dsimp only; omega, by unfold leftv; dsimp only; omega, by unfold leftv; dsimp only; omega⟩
  have hdl : okV (leftv d.piece.v) := ⟨by unfold leftv; dsimp only; omega, by unfold leftv; dsimp only; omega, by unfold leftv; dsimp only; omega, by unfold leftv; dsimp only; omega⟩
  have hw := okV_vec C.p D.p
  have lx : (leftv c.piece.v).x = -c.piece.v.y ∧ (leftv c.piece.v).y = c.piece.v.x := ⟨rfl, rfl⟩
  have ly : (leftv d.piece.v).x = -d.piece.v.y ∧ (leftv d.piece.v).y = d.piece.v.x := ⟨rfl, rfl⟩
  have k1 := dot_small (v := d.piece.v) (w := c.piece.v) (by omega) (by omega) (by omega) (by omega)
  have k2 := dot_small (v := leftv d.piece.v) (w := c.piece.v) (by omega) (by omega) (by omega) (by omega)
  have k3 := dot_small (v := d.piece.v) (w := leftv c.piece.v) (by omega) (by omega) (by omega) (by omega)
  have k4 := dot_small (v := leftv d.piece.v) (w := leftv c.piece.v) (by omega) (by omega) (by omega) (by omega)
  have w1 := dot_bd hw hcv
  have w2 := dot_bd hw hcl
  have q1 := mul_bd (show -1048576 ≤ c.ends.1 ∧ c.ends.1 ≤ 1048576 by omega) (show -1048576 ≤ c.piece.l ∧ c.piece.l ≤ 1048576 by omega)
  have q2 := mul_bd (show -1048576 ≤ c.ends.2 ∧ c.ends.2 ≤ 1048576 by omega) (show -1048576 ≤ c.piece.l ∧ c.piece.l ≤ 1048576 by omega)
  have q3 := mul_bd (show -4000 ≤ c.half ∧ c.half ≤ 4000 by omega) (show -1048576 ≤ c.piece.l ∧ c.piece.l ≤ 1048576 by omega)
  have q4 : (0 - c.half) * c.piece.l = -(c.half * c.piece.l) := by grind
  obtain ⟨f1, g1, h1, h2, h3⟩ := curve_axis (w := dotv (wv c d) c.piece.v) (by unfold wv; omega) k1 k2 D.h ⟨d1, d2⟩ D.e1 D.e2
  obtain ⟨f2, g2, h4, h5, h6⟩ := curve_axis (w := dotv (wv c d) (leftv c.piece.v)) (by unfold wv; omega) k3 k4 D.h ⟨d1, d2⟩ D.e1 D.e2
  unfold curve_corridor_apart apartM
  simp only [curve_from_eq C.p D.p, curve_left_eq (v := c.piece.v) (by omega) (by omega), curve_left_eq (v := d.piece.v) (by omega) (by omega), Option.bind_some, curve_dot_eq hdv hcv, curve_dot_eq hdl hcv, curve_dot_eq hw hcv, curve_dot_eq hdv hcl, curve_dot_eq hdl hcl, curve_dot_eq hw hcl,
    curve_abs_eq (x := dotv (leftv d.piece.v) c.piece.v) (by omega), curve_abs_eq (x := dotv (leftv d.piece.v) (leftv c.piece.v)) (by omega), h1, h2, h4, h5]
  rw [w64_id (n := c.ends.2 * c.piece.l) (by omega), w64_id (n := c.ends.1 * c.piece.l) (by omega), w64_id (n := c.half * c.piece.l) (by omega), w64_id (n := 0 - c.half) (by omega), w64_id (n := (0 - c.half) * c.piece.l) (by omega), q4]
  have r1 := h3 (c.ends.1 * c.piece.l) (c.ends.2 * c.piece.l)
  have r2 := h6 (-(c.half * c.piece.l)) (c.half * c.piece.l)
  unfold wv at r1 r2 ⊢
  rw [r1, r2]
  cases axis (dotv (vec c.piece.p d.piece.p) c.piece.v) (dotv d.piece.v c.piece.v) (dotv (leftv d.piece.v) c.piece.v) d.half d.piece.l d.ends.1 d.ends.2 (c.ends.1 * c.piece.l) (c.ends.2 * c.piece.l)
  · cases axis (dotv (vec c.piece.p d.piece.p) (leftv c.piece.v)) (dotv d.piece.v (leftv c.piece.v)) (dotv (leftv d.piece.v) (leftv c.piece.v)) d.half d.piece.l d.ends.1 d.ends.2 (-(c.half * c.piece.l)) (c.half * c.piece.l) <;> rfl
  · rfl
end Go.Abs.Curve

namespace Go.Abs.Curve
open Go Go.Abs
def stp (c : CurveCorridor) : Ref01Stripe := ⟨c.piece.p, vs c.piece.v, c.piece.l, c.half, c.ends.1, c.ends.2⟩
theorem cross_left (v w : CurveVector) : crossv v w = dotv w (leftv v) := by unfold crossv dotv leftv; dsimp only; grind
theorem near_core {lc ld hc hd K M L W1 W2 N : Int} (lc0 : 0 ≤ lc) (ld0 : 0 ≤ ld) (hc0 : 0 ≤ hc) (hd0 : 0 ≤ hd) (L0 : 0 < L) (hKM : K * K + M * M = L * L)
    (b1 : -(lc * L + (ld * K + hd * M)) ≤ ld * W1 ∧ ld * W1 ≤ lc * L + (ld * K + hd * M)) (b2 : -(hc * L + (ld * M + hd * K)) ≤ ld * W2 ∧ ld * W2 ≤ hc * L + (ld * M + hd * K))
    (hN : W1 * W1 + W2 * W2 = N * (lc * lc)) (hL : L = lc * ld) : N ≤ (lc + ld + hc + hd) * (lc + ld + hc + hd) := by
  have k0 := sq_nonneg K
  have m0 := sq_nonneg M
  have kL := (abs_le_of_sq (x := K) (y := L) (by omega) (by omega)).2
  have mL := (abs_le_of_sq (x := M) (y := L) (by omega) (by omega)).2
  have p1 := Int.mul_le_mul_of_nonneg_left kL ld0
  have p2 := Int.mul_le_mul_of_nonneg_left mL hd0
  have p3 := Int.mul_le_mul_of_nonneg_left mL ld0
  have p4 := Int.mul_le_mul_of_nonneg_left kL hd0
  have s1 := sq_le b1.1 b1.2
  have s2 := sq_le b2.1 b2.2
  have d := sq_nonneg (K - M)
  have d2 : (K - M) * (K - M) = K * K + M * M - 2 * (K * M) := by grind
  have x1 := Int.mul_le_mul_of_nonneg_left (show 2 * (K * M) ≤ L * L by omega) (Int.mul_nonneg ld0 hd0)
  have e1 : (ld * K + hd * M) * (ld * K + hd * M) + (ld * M + hd * K) * (ld * M + hd * K) = (ld * ld + hd * hd) * (L * L) + 2 * (ld * hd * (2 * (K * M))) := by grind
  have e2 : (ld + hd) * (ld + hd) * (L * L) = (ld * ld + hd * hd) * (L * L) + 2 * (ld * hd * (L * L)) := by grind
  have x2 := Int.mul_le_mul_of_nonneg_left (show ld * K + hd * M ≤ (ld + hd) * L by rw [Int.add_mul]; omega) (Int.mul_nonneg lc0 (show 0 ≤ L by omega))
  have x3 := Int.mul_le_mul_of_nonneg_left (show ld * M + hd * K ≤ (ld + hd) * L by rw [Int.add_mul]; omega) (Int.mul_nonneg hc0 (show 0 ≤ L by omega))
  have x4 := Int.mul_nonneg (Int.mul_nonneg lc0 hc0) (Int.mul_nonneg (show 0 ≤ L by omega) (show 0 ≤ L by omega))
  have e3 : (lc * L + (ld * K + hd * M)) * (lc * L + (ld * K + hd * M)) = lc * lc * (L * L) + 2 * (lc * L * (ld * K + hd * M)) + (ld * K + hd * M) * (ld * K + hd * M) := by grind
  have e4 : (hc * L + (ld * M + hd * K)) * (hc * L + (ld * M + hd * K)) = hc * hc * (L * L) + 2 * (hc * L * (ld * M + hd * K)) + (ld * M + hd * K) * (ld * M + hd * K) := by grind
  have e5 : L * L * ((lc + ld + hc + hd) * (lc + ld + hc + hd)) = lc * lc * (L * L) + hc * hc * (L * L) + 2 * (lc * hc * (L * L)) + 2 * (lc * L * ((ld + hd) * L)) + 2 * (hc * L * ((ld + hd) * L)) + (ld + hd) * (ld + hd) * (L * L) := by grind
  have e6 : ld * W1 * (ld * W1) + ld * W2 * (ld * W2) = L * L * N := by
    have : ld * W1 * (ld * W1) + ld * W2 * (ld * W2) = ld * ld * (W1 * W1 + W2 * W2) := by grind
    rw [this, hN, hL]; grind
  exact Int.le_of_mul_le_mul_left (show L * L * N ≤ L * L * ((lc + ld + hc + hd) * (lc + ld + hc + hd)) by omega) (Int.mul_pos L0 L0)
def R2 (c d : CurveCorridor) : Int := (c.piece.l + d.piece.l + c.half + d.half) * (c.piece.l + d.piece.l + c.half + d.half)
theorem lagrange (v w : CurveVector) : dotv w v * dotv w v + dotv w (leftv v) * dotv w (leftv v) = dotv w w * dotv v v := by unfold dotv leftv; dsimp only; grind
theorem ends_bd {e1 e2 k l : Int} (he1 : 0 ≤ e1 ∧ e1 ≤ l) (he2 : 0 ≤ e2 ∧ e2 ≤ l) : -(l * absI k) ≤ min (e1 * k) (e2 * k) ∧ max (e1 * k) (e2 * k) ≤ l * absI k := by
  have ha : -(absI k) ≤ k ∧ k ≤ absI k := by unfold absI; omega
  have m1 := mul_bd (show -l ≤ e1 ∧ e1 ≤ l by omega) ha
  have m2 := mul_bd (show -l ≤ e2 ∧ e2 ≤ l by omega) ha
  omega
theorem absI_nonneg (k : Int) : 0 ≤ absI k := by unfold absI; omega
theorem absI_sq (k : Int) : absI k * absI k = k * k := by
  unfold absI
  rcases Int.le_total 0 k with h | h
  · rw [Int.max_eq_left (by omega)]
  · rw [Int.max_eq_right (by omega)]; grind
theorem axis_false {w k m h l e1 e2 E1 E2 : Int} (he1 : 0 ≤ e1 ∧ e1 ≤ l) (he2 : 0 ≤ e2 ∧ e2 ≤ l) (ha : axis w k m h l e1 e2 E1 E2 = false) : E1 * l - (l * absI k + h * absI m) ≤ l * w ∧ l * w ≤ E2 * l + (l * absI k + h * absI m) := by
  have hb := ends_bd (k := k) he1 he2
  unfold axis at ha
  simp only [Bool.or_eq_false_iff, decide_eq_false_iff_not] at ha
  omega
/-- Corridors that one pair of axes does not part lie near each other. -/
theorem near_of_apart {c d : CurveCorridor} (C : Cor c) (D : Cor d) (h : apartM c d = false) : dotv (wv c d) (wv c d) ≤ R2 c d := by
  unfold apartM at h
  rw [Bool.or_eq_false_iff] at h
  obtain ⟨a1, a2⟩ := axis_false D.e1 D.e2 h.1
  obtain ⟨a3, a4⟩ := axis_false D.e1 D.e2 h.2
  have c1 := C.l1
  have d1 := D.l1
  have ce1 := C.e1
  have ce2 := C.e2
  have ch := C.h
  have dh := D.h
  have i1 : dotv d.piece.v (leftv c.piece.v) = -(dotv (leftv d.piece.v) c.piece.v) := by unfold dotv leftv; dsimp only; grind
  have i2 : dotv (leftv d.piece.v) (leftv c.piece.v) = dotv d.piece.v c.piece.v := by unfold dotv leftv; dsimp only; grind
  have i3 : absI (-(dotv (leftv d.piece.v) c.piece.v)) = absI (dotv (leftv d.piece.v) c.piece.v) := by unfold absI; omega
  rw [i1, i2, i3] at a3 a4
  have g1 := lagrange c.piece.v d.piece.v
  have g2 := lagrange c.piece.v (wv c d)
  rw [← C.sq, ← D.sq, i1, Int.neg_mul_neg, ← absI_sq, ← absI_sq (dotv (leftv d.piece.v) c.piece.v)] at g1
  rw [← C.sq] at g2
  have L0 := Int.mul_pos (show 0 < c.piece.l by omega) (show 0 < d.piece.l by omega)
  have q1 := Int.mul_le_mul_of_nonneg_right ce2.2 (Int.le_of_lt L0)
  have q2 := Int.mul_nonneg ce1.1 (Int.le_of_lt L0)
  have q3 : c.ends.2 * c.piece.l * d.piece.l = c.ends.2 * (c.piece.l * d.piece.l) := by grind
  have q4 : c.ends.1 * c.piece.l * d.piece.l = c.ends.1 * (c.piece.l * d.piece.l) := by grind
  have q5 : c.half * c.piece.l * d.piece.l = c.half * (c.piece.l * d.piece.l) := by grind
  have q6 : -(c.half * c.piece.l) * d.piece.l = -(c.half * (c.piece.l * d.piece.l)) := by grind
  have q7 := Int.mul_nonneg (show 0 ≤ c.piece.l by omega) (Int.le_of_lt L0)
  unfold R2
  exact near_core (lc := c.piece.l) (ld := d.piece.l) (hc := c.half) (hd := d.half) (K := absI (dotv d.piece.v c.piece.v)) (M := absI (dotv (leftv d.piece.v) c.piece.v)) (L := c.piece.l * d.piece.l) (W1 := dotv (wv c d) c.piece.v) (W2 := dotv (wv c d) (leftv c.piece.v))
    (by omega) (by omega) ch.1 dh.1 L0 (by rw [g1]; grind) (by omega) (by omega) (by rw [g2]) rfl
theorem w_bd {c d : CurveCorridor} (C : Cor c) (D : Cor d) (h : dotv (wv c d) (wv c d) ≤ R2 c d) : (-2207412060160 ≤ dotv (wv c d) c.piece.v ∧ dotv (wv c d) c.piece.v ≤ 2207412060160) ∧ -2207412060160 ≤ dotv (wv c d) (leftv c.piece.v) ∧ dotv (wv c d) (leftv c.piece.v) ≤ 2207412060160 := by
  have c1 := C.l1
  have c2 := C.l2
  have d1 := D.l1
  have d2 := D.l2
  have ch := C.h
  have dh := D.h
  have g2 := lagrange c.piece.v (wv c d)
  rw [← C.sq] at g2
  have s1 := sq_nonneg (dotv (wv c d) c.piece.v)
  have s2 := sq_nonneg (dotv (wv c d) (leftv c.piece.v))
  have k := Int.mul_le_mul_of_nonneg_right h (sq_nonneg c.piece.l)
  have k2 : R2 c d * (c.piece.l * c.piece.l) = ((c.piece.l + d.piece.l + c.half + d.half) * c.piece.l) * ((c.piece.l + d.piece.l + c.half + d.half) * c.piece.l) := by unfold R2; grind
  have b := mul_bd (show -2105152 ≤ c.piece.l + d.piece.l + c.half + d.half ∧ c.piece.l + d.piece.l + c.half + d.half ≤ 2105152 by omega) (show -1048576 ≤ c.piece.l ∧ c.piece.l ≤ 1048576 by omega)
  have b0 := Int.mul_nonneg (show 0 ≤ c.piece.l + d.piece.l + c.half + d.half by omega) (show 0 ≤ c.piece.l by omega)
  have r1 := abs_le_of_sq (x := dotv (wv c d) c.piece.v) b0 (by omega)
  have r2 := abs_le_of_sq (x := dotv (wv c d) (leftv c.piece.v)) b0 (by omega)
  omega
/-- The value of a corner. -/
def cv (w k m l y z : Int) : Int := l * w + y * k + z * m
theorem outside_step {c d : CurveCorridor} (C : Cor c) (D : Cor d) (h : dotv (wv c d) (wv c d) ≤ R2 c d) (i y z : Int) (a0 a1 a2 a3 b0 b1 b2 b3 : Int)
    (hi : 0 ≤ i ∧ i < 4) (hy : cond ((i.tmod 2) == 1) (some d.ends.2) (some d.ends.1) = some y) (hz : cond (decide (i ≥ 2)) (some (w64 (0 - d.half))) (some d.half) = some z)
    (yb : 0 ≤ y ∧ y ≤ 1048576) (zb : -4000 ≤ z ∧ z ≤ 4000)
    (hb : cond (i == 0) (cv (dotv (wv c d) c.piece.v) (dotv d.piece.v c.piece.v) (dotv (leftv d.piece.v) c.piece.v) d.piece.l y z, cv (dotv (wv c d) c.piece.v) (dotv d.piece.v c.piece.v) (dotv (leftv d.piece.v) c.piece.v) d.piece.l y z, cv (dotv (wv c d) (leftv c.piece.v)) (dotv d.piece.v (leftv c.piece.v)) (dotv (leftv d.piece.v) (leftv c.piece.v)) d.piece.l y z, cv (dotv (wv c d) (leftv c.piece.v)) (dotv d.piece.v (leftv c.piece.v)) (dotv (leftv d.piece.v) (leftv c.piece.v)) d.piece.l y z) (a0, a1, a2, a3) = (b0, b1, b2, b3)) :
    ref01_outside_l1 (stp c) (stp d) (vs (wv c d)) (a0, a1, a2, a3, i) = some (.go (
      min b0 (cv (dotv (wv c d) c.piece.v) (dotv d.piece.v c.piece.v) (dotv (leftv d.piece.v) c.piece.v) d.piece.l y z),
      max b1 (cv (dotv (wv c d) c.piece.v) (dotv d.piece.v c.piece.v) (dotv (leftv d.piece.v) c.piece.v) d.piece.l y z),
      min b2 (cv (dotv (wv c d) (leftv c.piece.v)) (dotv d.piece.v (leftv c.piece.v)) (dotv (leftv d.piece.v) (leftv c.piece.v)) d.piece.l y z),
      max b3 (cv (dotv (wv c d) (leftv c.piece.v)) (dotv d.piece.v (leftv c.piece.v)) (dotv (leftv d.piece.v) (leftv c.piece.v)) d.piece.l y z), i + 1)) := by
  have c1 := C.l1
  have c2 := C.l2
  have d1 := D.l1
  have d2 := D.l2
  obtain ⟨cx1, cx2⟩ := C.x
  obtain ⟨cy1, cy2⟩ := C.y
  obtain ⟨dx1, dx2⟩ := D.x
  obtain ⟨dy1, dy2⟩ := D.y
  obtain ⟨w1, w2⟩ := w_bd C D h
  have hcv : okV c.piece.v := ⟨by omega, by omega, by omega, by omega⟩
  have hdv : okV d.piece.v := ⟨by omega, by omega, by omega, by omega⟩
  have hdl : okV (leftv d.piece.v) := ⟨by unfold leftv; dsimp only; omega, by unfold leftv; dsimp only; omega, by unfold leftv; dsimp only; omega, by unfold leftv; dsimp only; omega⟩
  have hw : okV (wv c d) := okV_vec C.p D.p
  have lx : (leftv c.piece.v).x = -c.piece.v.y ∧ (leftv c.piece.v).y = c.piece.v.x := ⟨rfl, rfl⟩
  have ly : (leftv d.piece.v).x = -d.piece.v.y ∧ (leftv d.piece.v).y = d.piece.v.x := ⟨rfl, rfl⟩
  have k1 := dot_small (v := d.piece.v) (w := c.piece.v) (by omega) (by omega) (by omega) (by omega)
  have k2 := dot_small (v := leftv d.piece.v) (w := c.piece.v) (by omega) (by omega) (by omega) (by omega)
  have k3 := dot_small (v := d.piece.v) (w := leftv c.piece.v) (by omega) (by omega) (by omega) (by omega)
  have k4 := dot_small (v := leftv d.piece.v) (w := leftv c.piece.v) (by omega) (by omega) (by omega) (by omega)
  have hl : (⟨w64 (0 - (stp d).v.Y), (stp d).v.X⟩ : Spot) = vs (leftv d.piece.v) := by
    unfold stp vs leftv
    dsimp only
    rw [w64_id (by omega), Int.zero_sub]
  have m1 := mul_bd (show -1048576 ≤ d.piece.l ∧ d.piece.l ≤ 1048576 by omega) w1
  have m2 := mul_bd (show -1048576 ≤ d.piece.l ∧ d.piece.l ≤ 1048576 by omega) w2
  have m3 := mul_bd (show -1048576 ≤ y ∧ y ≤ 1048576 by omega) k1
  have m4 := mul_bd (show -1048576 ≤ y ∧ y ≤ 1048576 by omega) k3
  have m5 := mul_bd zb k2
  have m6 := mul_bd zb k4
  unfold ref01_outside_l1
  dsimp only
  rw [show decide (i < 4) = true from decide_eq_true (by omega), cond_true]
  rw [show (stp d).t = d.ends.2 from rfl, show (stp d).s = d.ends.1 from rfl, show (stp d).h = d.half from rfl, hy, Option.bind_some, hz, Option.bind_some, hl]
  rw [show (stp c).v = vs c.piece.v from rfl, show (stp d).v = vs d.piece.v from rfl, show (stp d).l = d.piece.l from rfl]
  simp only [ref01_Dot_eq hw hcv, ref01_Dot_eq hdv hcv, ref01_Dot_eq hdl hcv, ref01_Cross_eq hcv hw, ref01_Cross_eq hcv hdv, ref01_Cross_eq hcv hdl, Option.bind_some, cross_left]
  rw [w64_id (n := d.piece.l * dotv (wv c d) c.piece.v) (by omega), w64_id (n := y * dotv d.piece.v c.piece.v) (by omega), w64_id (n := z * dotv (leftv d.piece.v) c.piece.v) (by omega), w64_id (n := d.piece.l * dotv (wv c d) c.piece.v + y * dotv d.piece.v c.piece.v) (by omega), w64_id (n := d.piece.l * dotv (wv c d) c.piece.v + y * dotv d.piece.v c.piece.v + _) (by omega)]
  rw [w64_id (n := d.piece.l * dotv (wv c d) (leftv c.piece.v)) (by omega), w64_id (n := y * dotv d.piece.v (leftv c.piece.v)) (by omega), w64_id (n := z * dotv (leftv d.piece.v) (leftv c.piece.v)) (by omega), w64_id (n := d.piece.l * dotv (wv c d) (leftv c.piece.v) + y * dotv d.piece.v (leftv c.piece.v)) (by omega), w64_id (n := d.piece.l * dotv (wv c d) (leftv c.piece.v) + y * dotv d.piece.v (leftv c.piece.v) + _) (by omega), w64_id (n := i + 1) (by omega)]
  unfold cv at hb ⊢
  have hb2 : (cond (i == 0) (some (d.piece.l * dotv (wv c d) c.piece.v + y * dotv d.piece.v c.piece.v + z * dotv (leftv d.piece.v) c.piece.v, d.piece.l * dotv (wv c d) c.piece.v + y * dotv d.piece.v c.piece.v + z * dotv (leftv d.piece.v) c.piece.v, d.piece.l * dotv (wv c d) (leftv c.piece.v) + y * dotv d.piece.v (leftv c.piece.v) + z * dotv (leftv d.piece.v) (leftv c.piece.v), d.piece.l * dotv (wv c d) (leftv c.piece.v) + y * dotv d.piece.v (leftv c.piece.v) + z * dotv (leftv d.piece.v) (leftv c.piece.v))) (some (a0, a1, a2, a3)) : Option (Int × Int × Int × Int)) = some (b0, b1, b2, b3) := by
    rw [← hb]; cases (i == 0) <;> rfl
  rw [hb2]
  simp only [Option.bind_some, mm2_max, mm2_min]
theorem h_abs {h m : Int} (hh : 0 ≤ h) : h * absI m = max (h * m) (-(h * m)) := by
  unfold absI
  rcases Int.le_total 0 m with q | q
  · have := Int.mul_nonneg hh q
    rw [Int.max_eq_left (by omega), Int.max_eq_left (by omega)]
  · have := Int.mul_nonneg hh (show 0 ≤ -m by omega)
    rw [Int.mul_neg] at this
    rw [Int.max_eq_right (by omega), Int.mul_neg, Int.max_eq_right (by omega)]
theorem outside_eq {c d : CurveCorridor} (C : Cor c) (D : Cor d) (h : dotv (wv c d) (wv c d) ≤ R2 c d) : ref01_outside (stp c) (stp d) = some (apartM c d) := by
  have c1 := C.l1
  have c2 := C.l2
  have d1 := D.l1
  have d2 := D.l2
  have ch := C.h
  have dh := D.h
  have ce1 := C.e1
  have ce2 := C.e2
  have de1 := D.e1
  have de2 := D.e2
  have hz : w64 (0 - d.half) = -d.half := by rw [w64_id (by omega), Int.zero_sub]
  have s0 := outside_step C D h 0 d.ends.1 d.half 0 0 0 0 _ _ _ _ (by decide) rfl rfl (by omega) (by omega) rfl
  have s1 := fun a b e f => outside_step C D h 1 d.ends.2 d.half a b e f a b e f (by decide) rfl rfl (by omega) (by omega) rfl
  have s2 := fun a b e f => outside_step C D h 2 d.ends.1 (-d.half) a b e f a b e f (by decide) rfl (by rw [← hz]; rfl) (by omega) (by omega) rfl
  have s3 := fun a b e f => outside_step C D h 3 d.ends.2 (-d.half) a b e f a b e f (by decide) rfl (by rw [← hz]; rfl) (by omega) (by omega) rfl
  have s4 : ∀ a b e f : Int, ref01_outside_l1 (stp c) (stp d) (vs (wv c d)) (a, b, e, f, 4) = some (.out (a, b, e, f)) := fun _ _ _ _ => rfl
  unfold ref01_outside
  rw [show ref01_Minus (stp d).p (stp c).p = some (vs (wv c d)) from ref01_Minus_eq C.p D.p, Option.bind_some]
  rw [loop_go s0, show (0 : Int) + 1 = 1 from rfl, loop_go (s1 _ _ _ _), show (1 : Int) + 1 = 2 from rfl, loop_go (s2 _ _ _ _), show (2 : Int) + 1 = 3 from rfl, loop_go (s3 _ _ _ _), show (3 : Int) + 1 = 4 from rfl, loop_out (s4 _ _ _ _), Option.bind_some]
  have L := mul_bd (show -1048576 ≤ c.piece.l ∧ c.piece.l ≤ 1048576 by omega) (show -1048576 ≤ d.piece.l ∧ d.piece.l ≤ 1048576 by omega)
  have q1 := mul_bd (show -1048576 ≤ c.ends.1 ∧ c.ends.1 ≤ 1048576 by omega) L
  have q2 := mul_bd (show -1048576 ≤ c.ends.2 ∧ c.ends.2 ≤ 1048576 by omega) L
  have q3 := mul_bd (show -4000 ≤ c.half ∧ c.half ≤ 4000 by omega) L
  have q4 : (0 - c.half) * (c.piece.l * d.piece.l) = -(c.half * (c.piece.l * d.piece.l)) := by grind
  rw [show (stp c).l = c.piece.l from rfl, show (stp d).l = d.piece.l from rfl, show (stp c).s = c.ends.1 from rfl, show (stp c).t = c.ends.2 from rfl, show (stp c).h = c.half from rfl]
  rw [w64_id (n := c.piece.l * d.piece.l) (by omega), w64_id (n := c.ends.1 * _) (by omega), w64_id (n := c.ends.2 * _) (by omega), w64_id (n := c.half * _) (by omega), w64_id (n := 0 - c.half) (by omega), w64_id (n := (0 - c.half) * _) (by omega), q4]
  congr 1
  unfold apartM axis cv
  rw [h_abs dh.1, h_abs dh.1]
  rw [show c.ends.2 * c.piece.l * d.piece.l = c.ends.2 * (c.piece.l * d.piece.l) by grind, show c.ends.1 * c.piece.l * d.piece.l = c.ends.1 * (c.piece.l * d.piece.l) by grind, show c.half * c.piece.l * d.piece.l = c.half * (c.piece.l * d.piece.l) by grind, show -(c.half * c.piece.l) * d.piece.l = -(c.half * (c.piece.l * d.piece.l)) by grind, Int.neg_mul, Int.neg_mul]
  generalize c.ends.2 * (c.piece.l * d.piece.l) = A at *
  generalize c.ends.1 * (c.piece.l * d.piece.l) = B at *
  generalize c.half * (c.piece.l * d.piece.l) = H at *
  generalize d.piece.l * dotv (wv c d) c.piece.v = x1
  generalize d.piece.l * dotv (wv c d) (leftv c.piece.v) = x2
  generalize d.ends.1 * dotv d.piece.v c.piece.v = y1
  generalize d.ends.2 * dotv d.piece.v c.piece.v = y2
  generalize d.ends.1 * dotv d.piece.v (leftv c.piece.v) = y3
  generalize d.ends.2 * dotv d.piece.v (leftv c.piece.v) = y4
  generalize d.half * dotv (leftv d.piece.v) c.piece.v = z1
  generalize d.half * dotv (leftv d.piece.v) (leftv c.piece.v) = z2
  rw [Bool.eq_iff_iff]
  simp only [Bool.or_eq_true, decide_eq_true_eq]
  have n1 : min (min (min (min (x1 + y1 + z1) (x1 + y1 + z1)) (x1 + y2 + z1)) (x1 + y1 + -z1)) (x1 + y2 + -z1) = x1 + min y1 y2 - max z1 (-z1) := by omega
  have n2 : max (max (max (max (x1 + y1 + z1) (x1 + y1 + z1)) (x1 + y2 + z1)) (x1 + y1 + -z1)) (x1 + y2 + -z1) = x1 + max y1 y2 + max z1 (-z1) := by omega
  have n3 : min (min (min (min (x2 + y3 + z2) (x2 + y3 + z2)) (x2 + y4 + z2)) (x2 + y3 + -z2)) (x2 + y4 + -z2) = x2 + min y3 y4 - max z2 (-z2) := by omega
  have n4 : max (max (max (max (x2 + y3 + z2) (x2 + y3 + z2)) (x2 + y4 + z2)) (x2 + y3 + -z2)) (x2 + y4 + -z2) = x2 + max y3 y4 + max z2 (-z2) := by omega
  rw [n1, n2, n3, n4]
  omega
/-- Two corridors meet. -/
def meetsM (c d : CurveCorridor) : Bool := !(apartM c d) && !(apartM d c)
theorem curve_meets_eq {c d : CurveCorridor} (C : Cor c) (D : Cor d) : curve_corridor_meets c d = some (meetsM c d) := by
  unfold curve_corridor_meets meetsM
  simp only [curve_apart_eq C D, curve_apart_eq D C, Option.bind_some]
  cases apartM c d <;> rfl
theorem wv_swap (c d : CurveCorridor) : dotv (wv d c) (wv d c) = dotv (wv c d) (wv c d) := by unfold wv vec dotv; dsimp only; grind
theorem R2_swap (c d : CurveCorridor) : R2 d c = R2 c d := by unfold R2; rw [show d.piece.l + c.piece.l + d.half + c.half = c.piece.l + d.piece.l + c.half + d.half by omega]
theorem ref_meet_eq {c d : CurveCorridor} (C : Cor c) (D : Cor d) : ref01_meet (stp c) (stp d) = some (meetsM c d) := by
  have c1 := C.l1
  have c2 := C.l2
  have d1 := D.l1
  have d2 := D.l2
  have ch := C.h
  have dh := D.h
  have hw : okV (wv c d) := okV_vec C.p D.p
  unfold ref01_meet meetsM
  rw [show ref01_Minus (stp d).p (stp c).p = some (vs (wv c d)) from ref01_Minus_eq C.p D.p, Option.bind_some, ref01_Dot_eq hw hw, Option.bind_some]
  rw [show (stp c).l = c.piece.l from rfl, show (stp d).l = d.piece.l from rfl, show (stp c).h = c.half from rfl, show (stp d).h = d.half from rfl]
  have b := mul_bd (show -2105152 ≤ c.piece.l + d.piece.l + c.half + d.half ∧ c.piece.l + d.piece.l + c.half + d.half ≤ 2105152 by omega) (show -2105152 ≤ c.piece.l + d.piece.l + c.half + d.half ∧ c.piece.l + d.piece.l + c.half + d.half ≤ 2105152 by omega)
  rw [w64_id (n := c.piece.l + d.piece.l) (by omega), w64_id (n := c.piece.l + d.piece.l + c.half) (by omega), w64_id (n := c.piece.l + d.piece.l + c.half + d.half) (by omega), w64_id (n := (c.piece.l + d.piece.l + c.half + d.half) * _) (by omega)]
  rw [show (c.piece.l + d.piece.l + c.half + d.half) * (c.piece.l + d.piece.l + c.half + d.half) = R2 c d from rfl]
  by_cases h : dotv (wv c d) (wv c d) ≤ R2 c d
  · simp only [h, decide_true, cond_true, Bool.true_and, outside_eq C D h, outside_eq D C (by rw [wv_swap, R2_swap]; exact h), Option.bind_some]
    cases apartM c d <;> rfl
  · have : apartM c d = true := by
      cases ha : apartM c d with
      | true => rfl
      | false => exact absurd (near_of_apart C D ha) h
    rw [this]
    simp only [h, decide_false]
    rfl
end Go.Abs.Curve

namespace Go.Abs.Curve
open Go Go.Abs
/-- The least number from lo to hi at which f holds (when f holds from there on); and the greatest. -/
def bsLo (f : Int → Bool) : Nat → Int → Int → Int
  | 0, lo, _ => lo
  | n + 1, lo, hi => if lo < hi then (if f ((lo + hi) / 2) = true then bsLo f n lo ((lo + hi) / 2) else bsLo f n ((lo + hi) / 2 + 1) hi) else lo
def bsHi (f : Int → Bool) : Nat → Int → Int → Int
  | 0, lo, _ => lo
  | n + 1, lo, hi => if lo < hi then (if f ((lo + hi + 1) / 2) = true then bsHi f n ((lo + hi + 1) / 2) hi else bsHi f n lo ((lo + hi + 1) / 2 - 1)) else lo
theorem bsLo_bd (f : Int → Bool) : ∀ (n : Nat) (lo hi : Int), lo ≤ hi → lo ≤ bsLo f n lo hi ∧ bsLo f n lo hi ≤ hi := by
  intro n
  induction n with
  | zero => intro lo hi h; exact ⟨Int.le_refl _, h⟩
  | succ n ih =>
    intro lo hi h
    rw [bsLo]
    split
    · split
      · have := ih lo ((lo + hi) / 2) (by omega); omega
      · have := ih ((lo + hi) / 2 + 1) hi (by omega); omega
    · omega
theorem bsHi_bd (f : Int → Bool) : ∀ (n : Nat) (lo hi : Int), lo ≤ hi → lo ≤ bsHi f n lo hi ∧ bsHi f n lo hi ≤ hi := by
  intro n
  induction n with
  | zero => intro lo hi h; exact ⟨Int.le_refl _, h⟩
  | succ n ih =>
    intro lo hi h
    rw [bsHi]
    split
    · split
      · have := ih ((lo + hi + 1) / 2) hi (by omega); omega
      · have := ih lo ((lo + hi + 1) / 2 - 1) (by omega); omega
    · omega
def wend (c : CurveCorridor) (a b : Int) : CurveCorridor := ⟨c.piece, c.half, (a, b)⟩
theorem Cor.wend {c : CurveCorridor} (C : Cor c) {a b : Int} (ha : 0 ≤ a ∧ a ≤ c.piece.l) (hb : 0 ≤ b ∧ b ≤ c.piece.l) : Cor (wend c a b) := ⟨C.p, C.l1, C.l2, C.sq, C.x, C.y, C.h, ha, hb⟩
def fLo (c d : CurveCorridor) (e : Int) : Bool := meetsM (wend c 0 e) d
def fHi (c d : CurveCorridor) (e : Int) : Bool := meetsM (wend c e c.piece.l) d
theorem tdiv2 {x : Int} (h : 0 ≤ x) : x.tdiv 2 = x / 2 := Int.tdiv_eq_ediv_of_nonneg h
theorem span1 {c d : CurveCorridor} (C : Cor c) (D : Cor d) : ∀ (n : Nat) (lo hi e : Int), hi - lo ≤ n → 0 ≤ lo → lo ≤ hi → hi ≤ c.piece.l →
    loop (curve_corridor_span_l1 d) (lo, hi, wend c 0 e) = some (bsLo (fLo c d) n lo hi) ∧ ∃ e', loop (ref01_common_l1 (stp d)) (lo, hi, stp (wend c 0 e)) = some (bsLo (fLo c d) n lo hi, stp (wend c 0 e')) := by
  intro n
  have c2 := C.l2
  induction n with
  | zero =>
    intro lo hi e hn h0 h1 h2
    have hd : decide (lo < hi) = false := decide_eq_false (by omega)
    refine ⟨loop_out ?_, e, loop_out ?_⟩
    · unfold curve_corridor_span_l1; dsimp only; rw [hd]; rfl
    · unfold ref01_common_l1; dsimp only; rw [hd]; rfl
  | succ n ih =>
    intro lo hi e hn h0 h1 h2
    by_cases hlt : lo < hi
    · have hd : decide (lo < hi) = true := decide_eq_true hlt
      have hm : w64 ((w64 (lo + hi)).tdiv 2) = (lo + hi) / 2 := by
        rw [w64_id (n := lo + hi) (by omega), tdiv2 (by omega), w64_id (by omega)]
      have CW := C.wend (a := 0) (b := (lo + hi) / 2) (by omega) (by omega)
      have m1 := curve_meets_eq CW D
      have m2 := ref_meet_eq CW D
      have k1 : curve_corridor_span_l1 d (lo, hi, wend c 0 e) = if fLo c d ((lo + hi) / 2) = true then some (.go (lo, (lo + hi) / 2, wend c 0 ((lo + hi) / 2))) else some (.go ((lo + hi) / 2 + 1, hi, wend c 0 ((lo + hi) / 2))) := by
        unfold curve_corridor_span_l1
        dsimp only
        rw [hd, cond_true, hm, show (CurveCorridor.mk (wend c 0 e).piece (wend c 0 e).half ((wend c 0 e).ends.1, (lo + hi) / 2)) = wend c 0 ((lo + hi) / 2) from rfl, m1, Option.bind_some, w64_id (n := (lo + hi) / 2 + 1) (by omega)]
        unfold fLo
        cases meetsM (wend c 0 ((lo + hi) / 2)) d <;> rfl
      have k2 : ref01_common_l1 (stp d) (lo, hi, stp (wend c 0 e)) = if fLo c d ((lo + hi) / 2) = true then some (.go (lo, (lo + hi) / 2, stp (wend c 0 ((lo + hi) / 2)))) else some (.go ((lo + hi) / 2 + 1, hi, stp (wend c 0 ((lo + hi) / 2)))) := by
        unfold ref01_common_l1
        dsimp only
        rw [hd, cond_true, hm, show (Ref01Stripe.mk (stp (wend c 0 e)).p (stp (wend c 0 e)).v (stp (wend c 0 e)).l (stp (wend c 0 e)).h 0 ((lo + hi) / 2)) = stp (wend c 0 ((lo + hi) / 2)) from rfl, m2, Option.bind_some, w64_id (n := (lo + hi) / 2 + 1) (by omega)]
        unfold fLo
        cases meetsM (wend c 0 ((lo + hi) / 2)) d <;> rfl
      rw [bsLo, if_pos hlt]
      by_cases hf : fLo c d ((lo + hi) / 2) = true
      · rw [if_pos hf] at k1 k2 ⊢
        rw [loop_go k1, loop_go k2]
        exact ih _ _ _ (by omega) (by omega) (by omega) (by omega)
      · rw [if_neg hf] at k1 k2 ⊢
        rw [loop_go k1, loop_go k2]
        exact ih _ _ _ (by omega) (by omega) (by omega) (by omega)
    · have hd : decide (lo < hi) = false := decide_eq_false hlt
      rw [bsLo, if_neg hlt]
      refine ⟨loop_out ?_, e, loop_out ?_⟩
      · unfold curve_corridor_span_l1; dsimp only; rw [hd]; rfl
      · unfold ref01_common_l1; dsimp only; rw [hd]; rfl
theorem span2 {c d : CurveCorridor} (C : Cor c) (D : Cor d) : ∀ (n : Nat) (lo hi e a b : Int), hi - lo ≤ n → 0 ≤ lo → lo ≤ hi → hi ≤ c.piece.l →
    loop (curve_corridor_span_l2 d) (lo, hi, wend c e c.piece.l) = some (bsHi (fHi c d) n lo hi) ∧ ∃ a' b', loop (ref01_common_l2 (stp d)) (lo, hi, stp (wend c a b)) = some (bsHi (fHi c d) n lo hi, stp (wend c a' b')) := by
  intro n
  have c1 := C.l1
  have c2 := C.l2
  induction n with
  | zero =>
    intro lo hi e a b hn h0 h1 h2
    have hd : decide (lo < hi) = false := decide_eq_false (by omega)
    refine ⟨loop_out ?_, a, b, loop_out ?_⟩
    · unfold curve_corridor_span_l2; dsimp only; rw [hd]; rfl
    · unfold ref01_common_l2; dsimp only; rw [hd]; rfl
  | succ n ih =>
    intro lo hi e a b hn h0 h1 h2
    by_cases hlt : lo < hi
    · have hd : decide (lo < hi) = true := decide_eq_true hlt
      have hm : w64 ((w64 (w64 (lo + hi) + 1)).tdiv 2) = (lo + hi + 1) / 2 := by
        rw [w64_id (n := lo + hi) (by omega), w64_id (n := lo + hi + 1) (by omega), tdiv2 (by omega), w64_id (by omega)]
      have CW := C.wend (a := (lo + hi + 1) / 2) (b := c.piece.l) (by omega) (by omega)
      have m1 := curve_meets_eq CW D
      have m2 := ref_meet_eq CW D
      have k1 : curve_corridor_span_l2 d (lo, hi, wend c e c.piece.l) = if fHi c d ((lo + hi + 1) / 2) = true then some (.go ((lo + hi + 1) / 2, hi, wend c ((lo + hi + 1) / 2) c.piece.l)) else some (.go (lo, (lo + hi + 1) / 2 - 1, wend c ((lo + hi + 1) / 2) c.piece.l)) := by
        unfold curve_corridor_span_l2
        dsimp only
        rw [hd, cond_true, hm, show (CurveCorridor.mk (wend c e c.piece.l).piece (wend c e c.piece.l).half ((lo + hi + 1) / 2, (wend c e c.piece.l).ends.2)) = wend c ((lo + hi + 1) / 2) c.piece.l from rfl, m1, Option.bind_some, w64_id (n := (lo + hi + 1) / 2 - 1) (by omega)]
        unfold fHi
        cases meetsM (wend c ((lo + hi + 1) / 2) c.piece.l) d <;> rfl
      have k2 : ref01_common_l2 (stp d) (lo, hi, stp (wend c a b)) = if fHi c d ((lo + hi + 1) / 2) = true then some (.go ((lo + hi + 1) / 2, hi, stp (wend c ((lo + hi + 1) / 2) c.piece.l))) else some (.go (lo, (lo + hi + 1) / 2 - 1, stp (wend c ((lo + hi + 1) / 2) c.piece.l))) := by
        unfold ref01_common_l2
        dsimp only
        rw [hd, cond_true, hm, show (Ref01Stripe.mk (stp (wend c a b)).p (stp (wend c a b)).v (stp (wend c a b)).l (stp (wend c a b)).h ((lo + hi + 1) / 2) (stp (wend c a b)).l) = stp (wend c ((lo + hi + 1) / 2) c.piece.l) from rfl, m2, Option.bind_some, w64_id (n := (lo + hi + 1) / 2 - 1) (by omega)]
        unfold fHi
        cases meetsM (wend c ((lo + hi + 1) / 2) c.piece.l) d <;> rfl
      rw [bsHi, if_pos hlt]
      by_cases hf : fHi c d ((lo + hi + 1) / 2) = true
      · rw [if_pos hf] at k1 k2 ⊢
        rw [loop_go k1, loop_go k2]
        exact ih _ _ _ _ _ (by omega) (by omega) (by omega) (by omega)
      · rw [if_neg hf] at k1 k2 ⊢
        rw [loop_go k1, loop_go k2]
        exact ih _ _ _ _ _ (by omega) (by omega) (by omega) (by omega)
    · have hd : decide (lo < hi) = false := decide_eq_false hlt
      rw [bsHi, if_neg hlt]
      refine ⟨loop_out ?_, a, b, loop_out ?_⟩
      · unfold curve_corridor_span_l2; dsimp only; rw [hd]; rfl
      · unfold ref01_common_l2; dsimp only; rw [hd]; rfl
/-- Where the corridor d meets c: from, to, on c's own piece. -/
noncomputable def spanM (c d : CurveCorridor) : Int × Int := (max 0 (bsLo (fLo c d) 1048576 0 c.piece.l - 1), min c.piece.l (bsHi (fHi c d) 1048576 0 c.piece.l + 1))
theorem spanM_bd {c d : CurveCorridor} (C : Cor c) : (0 ≤ (spanM c d).1 ∧ (spanM c d).1 ≤ c.piece.l) ∧ 0 ≤ (spanM c d).2 ∧ (spanM c d).2 ≤ c.piece.l := by
  have c1 := C.l1
  have h1 := bsLo_bd (fLo c d) 1048576 0 c.piece.l (by omega)
  have h2 := bsHi_bd (fHi c d) 1048576 0 c.piece.l (by omega)
  unfold spanM
  dsimp only
  omega
theorem curve_span_eq {c d : CurveCorridor} (C : Cor c) (D : Cor d) (he : c.ends = (0, c.piece.l)) (hs : 0 ≤ c.piece.start ∧ c.piece.start ≤ 1000000000) : curve_corridor_span c d = some (c.piece.start + (spanM c d).1, c.piece.start + (spanM c d).2) := by
  have c1 := C.l1
  have c2 := C.l2
  have hc : c = wend c 0 c.piece.l := by unfold wend; rw [← he]
  have h1 := bsLo_bd (fLo c d) 1048576 0 c.piece.l (by omega)
  have h2 := bsHi_bd (fHi c d) 1048576 0 c.piece.l (by omega)
  have s1 := (span1 C D 1048576 0 c.piece.l c.piece.l (by omega) (by omega) (by omega) (by omega)).1
  have s2 := (span2 C D 1048576 0 c.piece.l 0 0 0 (by omega) (by omega) (by omega) (by omega)).1
  rw [← hc] at s1 s2
  have hb := spanM_bd (d := d) C
  unfold curve_corridor_span
  rw [s1, Option.bind_some, s2, Option.bind_some, w64_id (n := bsLo _ _ _ _ - 1) (by omega), w64_id (n := bsHi _ _ _ _ + 1) (by omega), mm2_max, mm2_min]
  rw [show max 0 (bsLo (fLo c d) 1048576 0 c.piece.l - 1) = (spanM c d).1 from rfl, show min c.piece.l (bsHi (fHi c d) 1048576 0 c.piece.l + 1) = (spanM c d).2 from rfl, w64_id (by omega), w64_id (by omega)]
end Go.Abs.Curve

namespace Go.Abs.Curve
open Go Go.Abs
/-- A piece as a corridor. -/
def cr (h : Int) (a : CurvePiece) : CurveCorridor := ⟨a, h, (0, a.l)⟩
structure POK (a : CurvePiece) : Prop where
  p : okS a.p = true
  l1 : 1000 ≤ a.l
  l2 : a.l ≤ 1048576
  sq : a.l * a.l = dotv a.v a.v
  x : -a.l ≤ a.v.x ∧ a.v.x ≤ a.l
  y : -a.l ≤ a.v.y ∧ a.v.y ≤ a.l
  st : 0 ≤ a.start ∧ a.start ≤ 1000000000
theorem POK.cor {a : CurvePiece} (A : POK a) {h : Int} (hh : 0 ≤ h ∧ h ≤ 4000) : Cor (cr h a) := by
  have := A.l1
  exact ⟨A.p, A.l1, A.l2, A.sq, A.x, A.y, hh, ⟨Int.le_refl _, by show (0 : Int) ≤ a.l; omega⟩, ⟨by show (0 : Int) ≤ a.l; omega, Int.le_refl _⟩⟩
theorem vec_le {p q : Spot} {l : Int} (hl : 0 ≤ l) (h : l * l = dotv (vec p q) (vec p q)) : (-l ≤ (vec p q).x ∧ (vec p q).x ≤ l) ∧ -l ≤ (vec p q).y ∧ (vec p q).y ≤ l := by
  have h1 := sq_nonneg (vec p q).x
  have h2 := sq_nonneg (vec p q).y
  unfold dotv at h
  exact ⟨abs_le_of_sq hl (by omega), abs_le_of_sq hl (by omega)⟩
theorem pok_head {p q : Spot} {r : List Spot} {last : Option CurveVector} (hok : (p :: q :: r).all okS = true) (hg : Good last (p :: q :: r)) {st : Int} (h0 : 0 ≤ st ∧ st ≤ 1000000000) : POK ⟨p, vec p q, plen p q, st⟩ := by
  obtain ⟨h1, h2, h3, _, _⟩ := hg.inv
  simp only [List.all_cons, Bool.and_eq_true] at hok
  have hv := vec_le (show 0 ≤ plen p q by omega) h1
  exact ⟨hok.1, h2, h3, h1, hv.1, hv.2, h0⟩
noncomputable def crossM (h k : Int) (a b : CurvePiece) : List Cross := cond (meetsM (cr h a) (cr k b)) [⟨a.start + (spanM (cr h a) (cr k b)).1, a.start + (spanM (cr h a) (cr k b)).2, b.start + (spanM (cr k b) (cr h a)).1, b.start + (spanM (cr k b) (cr h a)).2⟩] []
noncomputable def rowM (h k : Int) (a : CurvePiece) (P : List (Int × CurvePiece)) : List Cross := P.flatMap fun b => crossM h k a b.2
noncomputable def crossesM (h k : Int) (P Q : List (Int × CurvePiece)) : List Cross := P.flatMap fun a => rowM h k a.2 Q
theorem crossM_le (h k : Int) (a b : CurvePiece) : (crossM h k a b).length ≤ 1 := by unfold crossM; cases meetsM (cr h a) (cr k b) <;> simp
theorem rowM_cons (h k : Int) (a : CurvePiece) (b : Int × CurvePiece) (P : List (Int × CurvePiece)) : rowM h k a (b :: P) = crossM h k a b.2 ++ rowM h k a P := by unfold rowM; rw [List.flatMap_cons]
theorem crossesM_cons (h k : Int) (a : Int × CurvePiece) (P Q : List (Int × CurvePiece)) : crossesM h k (a :: P) Q = rowM h k a.2 Q ++ crossesM h k P Q := by unfold crossesM; rw [List.flatMap_cons]
theorem rowM_le (h k : Int) (a : CurvePiece) : ∀ P : List (Int × CurvePiece), (rowM h k a P).length ≤ P.length
  | [] => by simp [rowM]
  | b :: P => by
    have := crossM_le h k a b.2
    have := rowM_le h k a P
    rw [rowM_cons, List.length_append, List.length_cons]; omega
theorem crossesM_le (h k : Int) (Q : List (Int × CurvePiece)) : ∀ P : List (Int × CurvePiece), (crossesM h k P Q).length ≤ P.length * Q.length
  | [] => by simp [crossesM]
  | a :: P => by
    have := rowM_le h k a.2 Q
    have := crossesM_le h k Q P
    rw [crossesM_cons, List.length_append, List.length_cons, Nat.succ_mul]; omega
theorem piecesM_pok : ∀ (r : List Spot) (p : Spot) (i : Nat) (st : Int) (last : Option CurveVector), (p :: r).all okS = true → Good last (p :: r) → 0 ≤ st → st + 1048576 * r.length ≤ 1000000000 → (∀ x ∈ piecesM i st (p :: r), POK x.2) ∧ (piecesM i st (p :: r)).length = r.length
  | [], p, i, st, last, _, _, _, _ => by simp [piecesM]
  | q :: r, p, i, st, last, hok, hg, h0, hb => by
    obtain ⟨h1, h2, h3, h4, hg'⟩ := hg.inv
    have hP := pok_head hok hg (st := st) (by omega)
    simp only [List.all_cons, Bool.and_eq_true] at hok
    simp only [List.length_cons] at hb
    have ih := piecesM_pok r q (i + 1) (st + plen p q) _ (by simp only [List.all_cons, Bool.and_eq_true]; exact hok.2) hg' (by omega) (by omega)
    rw [piecesM_consP, w64_id (by omega)]
    refine ⟨fun x hx => ?_, by rw [List.length_cons, List.length_cons, ih.2]⟩
    rw [List.mem_cons] at hx
    rcases hx with rfl | hx
    · exact hP
    · exact ih.1 x hx
theorem cross_step {h k : Int} (hh : 0 ≤ h ∧ h ≤ 4000) (hk : 0 ≤ k ∧ k ≤ 4000) {a b : Int × CurvePiece} (A : POK a.2) (B : POK b.2) {out : List Cross} (ho : out.length ≤ 1000000) : curve_Corridors_l2 h k a out b = some (.go (out ++ crossM h k a.2 b.2)) := by
  have C := A.cor hh
  have D := B.cor hk
  unfold curve_Corridors_l2 crossM
  rw [show (CurveCorridor.mk a.2 h (0, a.2.l)) = cr h a.2 from rfl, show (CurveCorridor.mk b.2 k (0, b.2.l)) = cr k b.2 from rfl, curve_meets_eq C D, Option.bind_some]
  cases hm : meetsM (cr h a.2) (cr k b.2)
  · simp
  · simp only [Bool.not_true, cond_false, cond_true]
    rw [curve_span_eq C D rfl A.st, Option.bind_some, curve_span_eq D C rfl B.st, Option.bind_some, appc_ok (by simp; omega), Option.bind_some]
    rfl
theorem row_loop {h k : Int} (hh : 0 ≤ h ∧ h ≤ 4000) (hk : 0 ≤ k ∧ k ≤ 4000) {a : Int × CurvePiece} (A : POK a.2) : ∀ (Q : List (Int × CurvePiece)) (out : List Cross), (∀ x ∈ Q, POK x.2) → out.length + Q.length ≤ 1000000 → loopL (curve_Corridors_l2 h k a) (fun x => x) Q out = some (out ++ rowM h k a.2 Q) := by
  intro Q
  induction Q with
  | nil => intro out _ _; simp [loopL, rowM]
  | cons b Q ih =>
    intro out hQ ho
    simp only [List.length_cons] at ho
    have := crossM_le h k a.2 b.2
    rw [loopL, cross_step hh hk A (hQ b (by simp)) (by omega)]
    dsimp only
    rw [ih _ (fun x hx => hQ x (by simp [hx])) (by rw [List.length_append]; omega), rowM_cons, List.append_assoc]
theorem crosses_loop {h k : Int} (hh : 0 ≤ h ∧ h ≤ 4000) (hk : 0 ≤ k ∧ k ≤ 4000) {d : Curve} {Q : List (Int × CurvePiece)} (hd : piecesC d.Pts = some Q) (hQ : ∀ x ∈ Q, POK x.2) (hQl : Q.length ≤ 20) : ∀ (P : List (Int × CurvePiece)) (out : List Cross), (∀ x ∈ P, POK x.2) → out.length + P.length * 20 ≤ 900000 → loopL (curve_Corridors_l1 h d k) (fun x => x) P out = some (out ++ crossesM h k P Q) := by
  intro P
  induction P with
  | nil => intro out _ _; simp [loopL, crossesM]
  | cons a P ih =>
    intro out hP ho
    simp only [List.length_cons] at ho
    have hr := rowM_le h k a.2 Q
    have hs : curve_Corridors_l1 h d k out a = some (.go (out ++ rowM h k a.2 Q)) := by
      unfold curve_Corridors_l1
      rw [hd, Option.bind_some, row_loop hh hk (hP a (by simp)) Q out hQ (by omega)]
      rfl
    rw [loopL, hs]
    dsimp only
    rw [ih _ (fun x hx => hP x (by simp [hx])) (by rw [List.length_append]; omega), crossesM_cons, List.append_assoc]
noncomputable def PL (c : Curve) : List (Int × CurvePiece) := if checkM c.Pts = 0 then piecesM 0 0 c.Pts else []
theorem PL_ok (c : Curve) : (∀ x ∈ PL c, POK x.2) ∧ (PL c).length ≤ 20 := by
  unfold PL
  split
  · rename_i h
    have V := checkM_zero.1 h
    obtain ⟨p, q, r, hp⟩ := lens_valid V
    have hm := V.most
    have ho := V.ok
    have hg := V.good
    rw [hp] at hm ho hg ⊢
    simp only [List.length_cons] at hm
    have := piecesM_pok (q :: r) p 0 0 none ho hg (by omega) (by simp only [List.length_cons]; omega)
    refine ⟨this.1, ?_⟩
    rw [this.2, List.length_cons]; omega
  · simp
/-- What Corridors answers. -/
noncomputable def corrA (c : Curve) (h : Int) (d : Curve) (k : Int) : List Cross := if (0 ≤ h ∧ h ≤ 4000) ∧ 0 ≤ k ∧ k ≤ 4000 then crossesM h k (PL c) (PL d) else []
theorem corrA_le (c : Curve) (h : Int) (d : Curve) (k : Int) : (corrA c h d k).length ≤ 400 := by
  unfold corrA
  split
  · have h1 := crossesM_le h k (PL d) (PL c)
    have h2 := (PL_ok c).2
    have h3 := (PL_ok d).2
    have := Nat.mul_le_mul h2 h3
    omega
  · simp
theorem curve_Corridors_eq (c d : Curve) (hc : c.Pts.length ≤ 1000000) (hd : d.Pts.length ≤ 1000000) (h k : Int) : curve_Corridors c h d k = some (corrA c h d k) := by
  unfold curve_Corridors corrA
  rw [curve_Check_eq c hc, Option.bind_some]
  by_cases hz : checkM c.Pts = 0
  · rw [hz]
    simp only [bne_self_eq_false, Bool.not_false, cond_true, curve_Check_eq d hd, Option.bind_some, Bool.false_or, mm2_max, mm2_min]
    by_cases hz2 : checkM d.Pts = 0
    · rw [hz2]
      by_cases hr : (0 ≤ h ∧ h ≤ 4000) ∧ 0 ≤ k ∧ k ≤ 4000
      · rw [if_pos hr, show decide (min h k < 0) = false from decide_eq_false (by omega), show decide (max h k > 4000) = false from decide_eq_false (by omega)]
        have P := PL_ok c
        have Q := PL_ok d
        have e1 : piecesC c.Pts = some (PL c) := by rw [piecesC_eq (checkM_zero.1 hz)]; unfold PL; rw [if_pos hz]
        have e2 : piecesC d.Pts = some (PL d) := by rw [piecesC_eq (checkM_zero.1 hz2)]; unfold PL; rw [if_pos hz2]
        simp only [bne_self_eq_false, Bool.or_self, cond_false, e1, Option.bind_some]
        rw [crosses_loop hr.1 hr.2 e2 Q.1 Q.2 (PL c) [] P.1 (by have := P.2; simp; omega)]
        rfl
      · have hx : (decide (min h k < 0) || decide (max h k > 4000)) = true := by
          simp only [Bool.or_eq_true, decide_eq_true_eq]; omega
        rw [if_neg hr, Bool.or_assoc, hx, Bool.or_true]
        rfl
    · rw [show (checkM d.Pts != 0) = true from bne_iff_ne.2 hz2]
      have : PL d = [] := if_neg hz2
      rw [this]
      split
      · simp [crossesM, rowM]
      · rfl
  · rw [show (checkM c.Pts != 0) = true from bne_iff_ne.2 hz]
    have : PL c = [] := if_neg hz
    rw [this]
    split <;> rfl
/-- Pieces that follow one another. -/
inductive Chn : Int → List (Int × CurvePiece) → Prop
  | nil (s : Int) : Chn s []
  | cons (s : Int) (a : Int × CurvePiece) (l : List (Int × CurvePiece)) : a.2.start = s → Chn (s + a.2.l) l → Chn s (a :: l)
theorem piecesM_chn : ∀ (r : List Spot) (p : Spot) (i : Nat) (st : Int) (last : Option CurveVector), Good last (p :: r) → 0 ≤ st → st + 1048576 * r.length ≤ 1000000000 → Chn st (piecesM i st (p :: r))
  | [], p, i, st, last, _, _, _ => Chn.nil _
  | q :: r, p, i, st, last, hg, h0, hb => by
    obtain ⟨h1, h2, h3, h4, hg'⟩ := hg.inv
    simp only [List.length_cons] at hb
    rw [piecesM_consP, w64_id (by omega)]
    exact Chn.cons _ _ _ rfl (piecesM_chn r q (i + 1) (st + plen p q) _ hg' (by omega) (by omega))
theorem PL_chn (c : Curve) : Chn 0 (PL c) := by
  unfold PL
  split
  · rename_i h
    have V := checkM_zero.1 h
    obtain ⟨p, q, r, hp⟩ := lens_valid V
    have hm := V.most
    have hg := V.good
    rw [hp] at hm hg ⊢
    simp only [List.length_cons] at hm
    exact piecesM_chn (q :: r) p 0 0 none hg (by omega) (by simp only [List.length_cons]; omega)
  · exact Chn.nil _
end Go.Abs.Curve

namespace Go.Abs.Curve
open Go Go.Abs
/-- A wider corridor on the same piece. -/
structure Wid (c c' : CurveCorridor) : Prop where
  piece : c'.piece = c.piece
  half : c.half ≤ c'.half
  e1 : c'.ends.1 ≤ c.ends.1
  e2 : c.ends.2 ≤ c'.ends.2
  e : c.ends.1 ≤ c.ends.2
theorem minmax_wid {a b a' b' k : Int} (h1 : a' ≤ a) (h2 : b ≤ b') (h : a ≤ b) : min (a' * k) (b' * k) ≤ min (a * k) (b * k) ∧ max (a * k) (b * k) ≤ max (a' * k) (b' * k) := by
  rcases Int.le_total 0 k with q | q
  · have m1 := Int.mul_le_mul_of_nonneg_right h1 q
    have m2 := Int.mul_le_mul_of_nonneg_right h2 q
    have m3 := Int.mul_le_mul_of_nonneg_right h q
    omega
  · have m1 := Int.mul_le_mul_of_nonneg_right h1 (show 0 ≤ -k by omega)
    have m2 := Int.mul_le_mul_of_nonneg_right h2 (show 0 ≤ -k by omega)
    have m3 := Int.mul_le_mul_of_nonneg_right h (show 0 ≤ -k by omega)
    simp only [Int.mul_neg] at m1 m2 m3
    omega
theorem axis_wid {w k m h h' l e1 e2 e1' e2' E1 E2 E1' E2' : Int} (hl : 0 ≤ l) (hh : h ≤ h') (h1 : e1' ≤ e1) (h2 : e2 ≤ e2') (he : e1 ≤ e2) (hE1 : E1' ≤ E1) (hE2 : E2 ≤ E2') (ha : axis w k m h l e1 e2 E1 E2 = false) : axis w k m h' l e1' e2' E1' E2' = false := by
  unfold axis at ha ⊢
  simp only [Bool.or_eq_false_iff, decide_eq_false_iff_not] at ha ⊢
  have m1 := minmax_wid (k := k) h1 h2 he
  have m2 := Int.mul_le_mul_of_nonneg_right hh (absI_nonneg m)
  have m3 := Int.mul_le_mul_of_nonneg_right hE1 hl
  have m4 := Int.mul_le_mul_of_nonneg_right hE2 hl
  omega
theorem apart_wid {c c' d d' : CurveCorridor} (hc : Wid c c') (hd : Wid d d') (lc : 0 ≤ c.piece.l) (ld : 0 ≤ d.piece.l) (h : apartM c d = false) : apartM c' d' = false := by
  unfold apartM wv at h ⊢
  rw [hc.piece, hd.piece]
  rw [Bool.or_eq_false_iff] at h ⊢
  refine ⟨axis_wid ld hd.half hd.e1 hd.e2 hd.e ?_ ?_ h.1, axis_wid ld hd.half hd.e1 hd.e2 hd.e ?_ ?_ h.2⟩
  · exact Int.mul_le_mul_of_nonneg_right hc.e1 lc
  · exact Int.mul_le_mul_of_nonneg_right hc.e2 lc
  · have := Int.mul_le_mul_of_nonneg_right hc.half lc; omega
  · exact Int.mul_le_mul_of_nonneg_right hc.half lc
theorem meets_wid {c c' d d' : CurveCorridor} (hc : Wid c c') (hd : Wid d d') (lc : 0 ≤ c.piece.l) (ld : 0 ≤ d.piece.l) (h : meetsM c d = true) : meetsM c' d' = true := by
  unfold meetsM at h ⊢
  simp only [Bool.and_eq_true, Bool.not_eq_true'] at h ⊢
  exact ⟨apart_wid hc hd lc ld h.1, apart_wid hd hc ld lc h.2⟩
theorem meets_comm (c d : CurveCorridor) : meetsM c d = meetsM d c := by unfold meetsM; rw [Bool.and_comm]
/-- The first number at which a rising predicate holds. -/
theorem bsLo_spec {f : Int → Bool} : ∀ (n : Nat) (lo hi : Int), hi - lo ≤ n → lo ≤ hi → (∀ a b, lo ≤ a → a ≤ b → b ≤ hi → f a = true → f b = true) → f hi = true → f (bsLo f n lo hi) = true ∧ ∀ e, lo ≤ e → e ≤ hi → f e = true → bsLo f n lo hi ≤ e := by
  intro n
  induction n with
  | zero =>
    intro lo hi hn h hm hf
    have : lo = hi := by omega
    subst this
    exact ⟨hf, fun e h1 _ _ => h1⟩
  | succ n ih =>
    intro lo hi hn h hm hf
    rw [bsLo]
    by_cases hlt : lo < hi
    · rw [if_pos hlt]
      by_cases hmid : f ((lo + hi) / 2) = true
      · rw [if_pos hmid]
        obtain ⟨i1, i2⟩ := ih lo ((lo + hi) / 2) (by omega) (by omega) (fun a b h1 h2 h3 => hm a b h1 h2 (by omega)) hmid
        refine ⟨i1, fun e h1 h2 h3 => ?_⟩
        by_cases he : e ≤ (lo + hi) / 2
        · exact i2 e h1 he h3
        · have := bsLo_bd f n lo ((lo + hi) / 2) (by omega); omega
      · rw [if_neg hmid]
        obtain ⟨i1, i2⟩ := ih ((lo + hi) / 2 + 1) hi (by omega) (by omega) (fun a b h1 h2 h3 => hm a b (by omega) h2 h3) hf
        refine ⟨i1, fun e h1 h2 h3 => ?_⟩
        by_cases he : e ≤ (lo + hi) / 2
        · exact absurd (hm e _ h1 he (by omega) h3) hmid
        · exact i2 e (by omega) h2 h3
    · rw [if_neg hlt]
      have : lo = hi := by omega
      subst this
      exact ⟨hf, fun e h1 _ _ => h1⟩
theorem bsHi_spec {f : Int → Bool} : ∀ (n : Nat) (lo hi : Int), hi - lo ≤ n → lo ≤ hi → (∀ a b, lo ≤ a → a ≤ b → b ≤ hi → f b = true → f a = true) → f lo = true → f (bsHi f n lo hi) = true ∧ ∀ e, lo ≤ e → e ≤ hi → f e = true → e ≤ bsHi f n lo hi := by
  intro n
  induction n with
  | zero =>
    intro lo hi hn h hm hf
    have : lo = hi := by omega
    subst this
    exact ⟨hf, fun e _ h2 _ => h2⟩
  | succ n ih =>
    intro lo hi hn h hm hf
    rw [bsHi]
    by_cases hlt : lo < hi
    · rw [if_pos hlt]
      by_cases hmid : f ((lo + hi + 1) / 2) = true
      · rw [if_pos hmid]
        obtain ⟨i1, i2⟩ := ih ((lo + hi + 1) / 2) hi (by omega) (by omega) (fun a b h1 h2 h3 => hm a b (by omega) h2 h3) hmid
        refine ⟨i1, fun e h1 h2 h3 => ?_⟩
        by_cases he : (lo + hi + 1) / 2 ≤ e
        · exact i2 e he h2 h3
        · have := bsHi_bd f n ((lo + hi + 1) / 2) hi (by omega); omega
      · rw [if_neg hmid]
        obtain ⟨i1, i2⟩ := ih lo ((lo + hi + 1) / 2 - 1) (by omega) (by omega) (fun a b h1 h2 h3 => hm a b h1 h2 (by omega)) hf
        refine ⟨i1, fun e h1 h2 h3 => ?_⟩
        by_cases he : (lo + hi + 1) / 2 ≤ e
        · exact absurd (hm _ e (by omega) he h2 h3) hmid
        · exact i2 e h1 (by omega) h3
    · rw [if_neg hlt]
      have : lo = hi := by omega
      subst this
      exact ⟨hf, fun e _ h2 _ => h2⟩
theorem Wid.refl {c : CurveCorridor} (h : c.ends.1 ≤ c.ends.2) : Wid c c := ⟨rfl, Int.le_refl _, Int.le_refl _, Int.le_refl _, h⟩
theorem fLo_mono {c d : CurveCorridor} (lc : 0 ≤ c.piece.l) (ld : 0 ≤ d.piece.l) (hd : d.ends.1 ≤ d.ends.2) {a b : Int} (h0 : 0 ≤ a) (h : a ≤ b) (hf : fLo c d a = true) : fLo c d b = true :=
  meets_wid (c := wend c 0 a) (c' := wend c 0 b) ⟨rfl, Int.le_refl _, Int.le_refl _, h, h0⟩ (Wid.refl hd) lc ld hf
theorem fHi_mono {c d : CurveCorridor} (lc : 0 ≤ c.piece.l) (ld : 0 ≤ d.piece.l) (hd : d.ends.1 ≤ d.ends.2) {a b : Int} (h0 : b ≤ c.piece.l) (h : a ≤ b) (hf : fHi c d b = true) : fHi c d a = true :=
  meets_wid (c := wend c b c.piece.l) (c' := wend c a c.piece.l) ⟨rfl, Int.le_refl _, h, Int.le_refl _, h0⟩ (Wid.refl hd) lc ld hf
/-- What the two searches find. -/
theorem spanM_spec {c d : CurveCorridor} (C : Cor c) (D : Cor d) (hd : d.ends.1 ≤ d.ends.2) (he : c.ends = (0, c.piece.l)) (hm : meetsM c d = true) :
    ∃ r s : Int, spanM c d = (max 0 (r - 1), min c.piece.l (s + 1)) ∧ (0 ≤ r ∧ r ≤ c.piece.l ∧ fLo c d r = true ∧ ∀ e, 0 ≤ e → e ≤ c.piece.l → fLo c d e = true → r ≤ e) ∧ 0 ≤ s ∧ s ≤ c.piece.l ∧ fHi c d s = true ∧ ∀ e, 0 ≤ e → e ≤ c.piece.l → fHi c d e = true → e ≤ s := by
  have c1 := C.l1
  have c2 := C.l2
  have d1 := D.l1
  have hc : c = wend c 0 c.piece.l := by unfold wend; rw [← he]
  have hl : fLo c d c.piece.l = true := by unfold fLo; rw [← hc]; exact hm
  have hh : fHi c d 0 = true := by unfold fHi; rw [← hc]; exact hm
  have b1 := bsLo_bd (fLo c d) 1048576 0 c.piece.l (by omega)
  have b2 := bsHi_bd (fHi c d) 1048576 0 c.piece.l (by omega)
  have s1 := bsLo_spec (f := fLo c d) 1048576 0 c.piece.l (by omega) (by omega) (fun a b h1 h2 h3 => fLo_mono (by omega) (by omega) hd h1 h2) hl
  have s2 := bsHi_spec (f := fHi c d) 1048576 0 c.piece.l (by omega) (by omega) (fun a b h1 h2 h3 => fHi_mono (by omega) (by omega) hd h3 h2) hh
  exact ⟨_, _, rfl, ⟨b1.1, b1.2, s1.1, s1.2⟩, b2.1, b2.2, s2.1, s2.2⟩
theorem span_wid {c c' d d' : CurveCorridor} (C : Cor c) (C' : Cor c') (D : Cor d) (D' : Cor d') (hc : Wid c c') (hd : Wid d d') (hd' : d'.ends.1 ≤ d'.ends.2) (he : c.ends = (0, c.piece.l)) (he' : c'.ends = (0, c'.piece.l)) (hm : meetsM c d = true) :
    (spanM c' d').1 ≤ (spanM c d).1 ∧ (spanM c d).2 ≤ (spanM c' d').2 := by
  have c1 := C.l1
  have d1 := D.l1
  have hm' := meets_wid hc hd (by omega) (by omega) hm
  obtain ⟨r, s, e1, ⟨r0, r1, r2, r3⟩, s0, s1, s2, s3⟩ := spanM_spec C D hd.e he hm
  obtain ⟨r', s', e1', ⟨r0', r1', r2', r3'⟩, s0', s1', s2', s3'⟩ := spanM_spec C' D' hd' he' hm'
  have hp := hc.piece
  have k1 : fLo c' d' r = true := meets_wid (c := wend c 0 r) (c' := wend c' 0 r) ⟨hp, hc.half, Int.le_refl _, Int.le_refl _, r0⟩ hd (show 0 ≤ c.piece.l by omega) (by omega) r2
  have k2 : fHi c' d' s = true := meets_wid (c := wend c s c.piece.l) (c' := wend c' s c'.piece.l) ⟨hp, hc.half, Int.le_refl _, by show c.piece.l ≤ c'.piece.l; rw [hp]; exact Int.le_refl _, s1⟩ hd (show 0 ≤ c.piece.l by omega) (by omega) s2
  have q1 := r3' r r0 (by rw [hp]; exact r1) k1
  have q2 := s3' s s0 (by rw [hp]; exact s1) k2
  rw [e1, e1', hp]
  dsimp only
  omega
end Go.Abs.Curve

namespace Go.Abs.Curve
open Go Go.Abs
/-- A point of the rectangle d, in the directions of c (times both lengths). -/
def dX (c d : CurveCorridor) (a b : Int) : Int := d.piece.l * dotv (wv c d) c.piece.v + a * dotv d.piece.v c.piece.v + b * dotv (leftv d.piece.v) c.piece.v
def dY (c d : CurveCorridor) (a b : Int) : Int := d.piece.l * dotv (wv c d) (leftv c.piece.v) - a * dotv (leftv d.piece.v) c.piece.v + b * dotv d.piece.v c.piece.v
def InD (d : CurveCorridor) (a b : Int) : Prop := (d.ends.1 ≤ a ∧ a ≤ d.ends.2) ∧ -d.half ≤ b ∧ b ≤ d.half
/-- A line through c at e that parts d from one half of c. -/
def SepF (c d : CurveCorridor) (x y e : Int) : Prop := ∀ a b, InD d a b → dX c d a b * x + dY c d a b * y < d.piece.l * c.piece.l * (e * x - c.half * absI y)
theorem id_v {c d : CurveCorridor} (C : Cor c) (D : Cor d) (a b : Int) : dX c d a b * dotv c.piece.v d.piece.v + dY c d a b * dotv (leftv c.piece.v) d.piece.v = d.piece.l * c.piece.l * (c.piece.l * (a * d.piece.l) - c.piece.l * dotv (wv d c) d.piece.v) := by
  have h1 := C.sq
  have h2 := D.sq
  have e : d.piece.l * c.piece.l * (c.piece.l * (a * d.piece.l) - c.piece.l * dotv (wv d c) d.piece.v) = a * (c.piece.l * c.piece.l) * (d.piece.l * d.piece.l) - d.piece.l * (c.piece.l * c.piece.l) * dotv (wv d c) d.piece.v := by grind
  rw [e, h1, h2]
  unfold dX dY dotv leftv wv vec
  dsimp only
  grind
theorem id_l {c d : CurveCorridor} (C : Cor c) (D : Cor d) (a b : Int) : dX c d a b * dotv c.piece.v (leftv d.piece.v) + dY c d a b * dotv (leftv c.piece.v) (leftv d.piece.v) = d.piece.l * c.piece.l * (c.piece.l * (b * d.piece.l) - c.piece.l * dotv (wv d c) (leftv d.piece.v)) := by
  have h1 := C.sq
  have h2 := D.sq
  have e : d.piece.l * c.piece.l * (c.piece.l * (b * d.piece.l) - c.piece.l * dotv (wv d c) (leftv d.piece.v)) = b * (c.piece.l * c.piece.l) * (d.piece.l * d.piece.l) - d.piece.l * (c.piece.l * c.piece.l) * dotv (wv d c) (leftv d.piece.v) := by grind
  rw [e, h1, h2]
  unfold dX dY dotv leftv wv vec
  dsimp only
  grind
theorem axis_lo {w k m h l e n E1 E2 : Int} (he : 0 ≤ e ∧ e ≤ n) (h1 : axis w k m h l 0 e E1 E2 = true) (h2 : axis w k m h l 0 n E1 E2 = false) : (k < 0 ∧ l * w + e * k - h * absI m > E2 * l) ∨ (0 < k ∧ l * w + e * k + h * absI m < E1 * l) := by
  unfold axis at h1 h2
  simp only [Bool.or_eq_false_iff, decide_eq_false_iff_not, Bool.or_eq_true, decide_eq_true_eq, Int.zero_mul] at h1 h2
  rcases Int.lt_trichotomy k 0 with q | q | q
  · have m1 := Int.mul_nonneg he.1 (show 0 ≤ -k by omega)
    have m2 := Int.mul_le_mul_of_nonneg_right he.2 (show 0 ≤ -k by omega)
    simp only [Int.mul_neg] at m1 m2
    omega
  · subst q
    simp only [Int.mul_zero] at h1 h2
    omega
  · have m1 := Int.mul_nonneg he.1 (show 0 ≤ k by omega)
    have m2 := Int.mul_le_mul_of_nonneg_right he.2 (show 0 ≤ k by omega)
    omega
theorem axis_hi {w k m h l e n E1 E2 : Int} (he : 0 ≤ e ∧ e ≤ n) (h1 : axis w k m h l e n E1 E2 = true) (h2 : axis w k m h l 0 n E1 E2 = false) : (0 < k ∧ l * w + e * k - h * absI m > E2 * l) ∨ (k < 0 ∧ l * w + e * k + h * absI m < E1 * l) := by
  unfold axis at h1 h2
  simp only [Bool.or_eq_false_iff, decide_eq_false_iff_not, Bool.or_eq_true, decide_eq_true_eq, Int.zero_mul] at h1 h2
  rcases Int.lt_trichotomy k 0 with q | q | q
  · have m1 := Int.mul_nonneg he.1 (show 0 ≤ -k by omega)
    have m2 := Int.mul_le_mul_of_nonneg_right he.2 (show 0 ≤ -k by omega)
    simp only [Int.mul_neg] at m1 m2
    omega
  · subst q
    simp only [Int.mul_zero] at h1 h2
    omega
  · have m1 := Int.mul_nonneg he.1 (show 0 ≤ k by omega)
    have m2 := Int.mul_le_mul_of_nonneg_right he.2 (show 0 ≤ k by omega)
    omega
theorem absI_neg (x : Int) : absI (-x) = absI x := by unfold absI; omega
/-- From an axis of d: above. -/
theorem sep_above {c d : CurveCorridor} (C : Cor c) (D : Cor d) {x y e w hi : Int} {v : Int → Int → Int} (hv : ∀ a b, InD d a b → v a b ≤ hi)
    (hid : ∀ a b, dX c d a b * x + dY c d a b * y = d.piece.l * c.piece.l * (c.piece.l * (v a b * d.piece.l) - c.piece.l * w))
    (h : c.piece.l * w + e * x - c.half * absI y > hi * d.piece.l * c.piece.l) : SepF c d x y e := by
  intro a b hab
  have c1 := C.l1
  have d1 := D.l1
  have m1 := Int.mul_le_mul_of_nonneg_right (hv a b hab) (show 0 ≤ d.piece.l by omega)
  have m2 := Int.mul_le_mul_of_nonneg_left m1 (show 0 ≤ c.piece.l by omega)
  have e1 : c.piece.l * (hi * d.piece.l) = hi * d.piece.l * c.piece.l := by grind
  rw [hid]
  exact Int.mul_lt_mul_of_pos_left (by omega) (Int.mul_pos (by omega) (by omega))
theorem sep_below {c d : CurveCorridor} (C : Cor c) (D : Cor d) {x y e w lo : Int} {v : Int → Int → Int} (hv : ∀ a b, InD d a b → lo ≤ v a b)
    (hid : ∀ a b, dX c d a b * x + dY c d a b * y = d.piece.l * c.piece.l * (c.piece.l * (v a b * d.piece.l) - c.piece.l * w))
    (h : c.piece.l * w + e * x + c.half * absI y < lo * d.piece.l * c.piece.l) : SepF c d (-x) (-y) e := by
  intro a b hab
  have c1 := C.l1
  have d1 := D.l1
  have m1 := Int.mul_le_mul_of_nonneg_right (hv a b hab) (show 0 ≤ d.piece.l by omega)
  have m2 := Int.mul_le_mul_of_nonneg_left m1 (show 0 ≤ c.piece.l by omega)
  have e1 : c.piece.l * (lo * d.piece.l) = lo * d.piece.l * c.piece.l := by grind
  have e2 : dX c d a b * -x + dY c d a b * -y = -(dX c d a b * x + dY c d a b * y) := by grind
  rw [e2, hid, absI_neg, ← Int.mul_neg, Int.mul_neg e]
  exact Int.mul_lt_mul_of_pos_left (by omega) (Int.mul_pos (by omega) (by omega))
theorem inD_bd {e1 e2 a k : Int} (h : e1 ≤ a ∧ a ≤ e2) : min (e1 * k) (e2 * k) ≤ a * k ∧ a * k ≤ max (e1 * k) (e2 * k) := by
  rcases Int.le_total 0 k with q | q
  · have m1 := Int.mul_le_mul_of_nonneg_right h.1 q
    have m2 := Int.mul_le_mul_of_nonneg_right h.2 q
    omega
  · have m1 := Int.mul_le_mul_of_nonneg_right h.1 (show 0 ≤ -k by omega)
    have m2 := Int.mul_le_mul_of_nonneg_right h.2 (show 0 ≤ -k by omega)
    simp only [Int.mul_neg] at m1 m2
    omega
theorem half_bd {g b m : Int} (h : -g ≤ b ∧ b ≤ g) : -(g * absI m) ≤ b * m ∧ b * m ≤ g * absI m := mul_bd h (by unfold absI; omega)
theorem corner_min {e1 e2 g k m : Int} (he : e1 ≤ e2) (hg : 0 ≤ g) : ∃ a b, ((e1 ≤ a ∧ a ≤ e2) ∧ -g ≤ b ∧ b ≤ g) ∧ a * k + b * m = min (e1 * k) (e2 * k) - g * absI m := by
  have hb : ∃ b, (-g ≤ b ∧ b ≤ g) ∧ b * m = -(g * absI m) := by
    rcases Int.le_total 0 m with q | q
    · exact ⟨-g, by omega, by unfold absI; rw [Int.max_eq_left (by omega), Int.neg_mul]⟩
    · exact ⟨g, by omega, by unfold absI; rw [Int.max_eq_right (by omega), Int.mul_neg, Int.neg_neg]⟩
  obtain ⟨b, hb, e⟩ := hb
  rcases Int.le_total (e1 * k) (e2 * k) with q | q
  · exact ⟨e1, b, ⟨by omega, hb⟩, by rw [e]; omega⟩
  · exact ⟨e2, b, ⟨by omega, hb⟩, by rw [e]; omega⟩
theorem corner_max {e1 e2 g k m : Int} (he : e1 ≤ e2) (hg : 0 ≤ g) : ∃ a b, ((e1 ≤ a ∧ a ≤ e2) ∧ -g ≤ b ∧ b ≤ g) ∧ a * k + b * m = max (e1 * k) (e2 * k) + g * absI m := by
  have hb : ∃ b, (-g ≤ b ∧ b ≤ g) ∧ b * m = g * absI m := by
    rcases Int.le_total 0 m with q | q
    · exact ⟨g, by omega, by unfold absI; rw [Int.max_eq_left (by omega)]⟩
    · exact ⟨-g, by omega, by unfold absI; rw [Int.max_eq_right (by omega), Int.mul_neg, Int.neg_mul]⟩
  obtain ⟨b, hb, e⟩ := hb
  rcases Int.le_total (e1 * k) (e2 * k) with q | q
  · exact ⟨e2, b, ⟨by omega, hb⟩, by rw [e]; omega⟩
  · exact ⟨e1, b, ⟨by omega, hb⟩, by rw [e]; omega⟩
/-- Two lines through c at e, one for each half, part d from all of c, sideways. -/
theorem comb {c d : CurveCorridor} {x1 y1 x2 y2 e : Int} (c0 : 0 ≤ c.piece.l) (d0 : 0 ≤ d.piece.l) (ch : 0 ≤ c.half) (h1 : SepF c d x1 y1 e) (n1 : x1 < 0) (h2 : SepF c d x2 y2 e) (n2 : 0 < x2)
    (b1 : ∃ a b, InD d a b ∧ dY c d a b ≤ c.half * (c.piece.l * d.piece.l)) (b2 : ∃ a b, InD d a b ∧ -(c.half * (c.piece.l * d.piece.l)) ≤ dY c d a b) : False := by
  have key : ∀ a b, InD d a b → dY c d a b * (y1 * x2 - y2 * x1) < -(c.half * (c.piece.l * d.piece.l) * (absI y1 * x2 + absI y2 * -x1)) := by
    intro a b hab
    have k1 := Int.mul_lt_mul_of_pos_right (h1 a b hab) n2
    have k2 := Int.mul_lt_mul_of_pos_right (h2 a b hab) (show 0 < -x1 by omega)
    have e1 : dY c d a b * (y1 * x2 - y2 * x1) = (dX c d a b * x1 + dY c d a b * y1) * x2 + (dX c d a b * x2 + dY c d a b * y2) * -x1 := by grind
    have e2 : d.piece.l * c.piece.l * (e * x1 - c.half * absI y1) * x2 + d.piece.l * c.piece.l * (e * x2 - c.half * absI y2) * -x1 = -(c.half * (c.piece.l * d.piece.l) * (absI y1 * x2 + absI y2 * -x1)) := by grind
    omega
  have H0 := Int.mul_nonneg ch (Int.mul_nonneg c0 d0)
  generalize c.half * (c.piece.l * d.piece.l) = H at *
  have t1 := mul_bd (x := y1) (y := x2) (A := absI y1) (B := x2) (by unfold absI; omega) (by omega)
  have t2 := mul_bd (x := y2) (y := x1) (A := absI y2) (B := -x1) (by unfold absI; omega) (by omega)
  have hT : -(absI y1 * x2 + absI y2 * -x1) ≤ y1 * x2 - y2 * x1 ∧ y1 * x2 - y2 * x1 ≤ absI y1 * x2 + absI y2 * -x1 := by omega
  generalize absI y1 * x2 + absI y2 * -x1 = T at *
  generalize y1 * x2 - y2 * x1 = z at *
  obtain ⟨a1, p1, i1, q1⟩ := b1
  obtain ⟨a2, p2, i2, q2⟩ := b2
  rcases Int.le_total 0 z with hz | hz
  · have k := key a2 p2 i2
    have m1 := Int.mul_le_mul_of_nonneg_right q2 hz
    have m2 := Int.mul_le_mul_of_nonneg_left hT.2 H0
    rw [Int.neg_mul] at m1
    omega
  · have k := key a1 p1 i1
    have m1 := Int.mul_le_mul_of_nonneg_right q1 (show 0 ≤ -z by omega)
    have m2 := Int.mul_le_mul_of_nonneg_left (show -z ≤ T by omega) H0
    simp only [Int.mul_neg] at m1 m2
    omega
theorem ax_v {c d : CurveCorridor} : dotv d.piece.v (leftv c.piece.v) = -(dotv (leftv d.piece.v) c.piece.v) ∧ dotv (leftv d.piece.v) (leftv c.piece.v) = dotv d.piece.v c.piece.v := by
  unfold dotv leftv; dsimp only; constructor <;> grind
theorem apart_wend (c d : CurveCorridor) (s t : Int) : apartM (wend c s t) d = (axis (dotv (wv c d) c.piece.v) (dotv d.piece.v c.piece.v) (dotv (leftv d.piece.v) c.piece.v) d.half d.piece.l d.ends.1 d.ends.2 (s * c.piece.l) (t * c.piece.l) ||
  axis (dotv (wv c d) (leftv c.piece.v)) (dotv d.piece.v (leftv c.piece.v)) (dotv (leftv d.piece.v) (leftv c.piece.v)) d.half d.piece.l d.ends.1 d.ends.2 (-(c.half * c.piece.l)) (c.half * c.piece.l)) := rfl
theorem apart_wend2 (c d : CurveCorridor) (s t : Int) : apartM d (wend c s t) = (axis (dotv (wv d c) d.piece.v) (dotv c.piece.v d.piece.v) (dotv (leftv c.piece.v) d.piece.v) c.half c.piece.l s t (d.ends.1 * d.piece.l) (d.ends.2 * d.piece.l) ||
  axis (dotv (wv d c) (leftv d.piece.v)) (dotv c.piece.v (leftv d.piece.v)) (dotv (leftv c.piece.v) (leftv d.piece.v)) c.half c.piece.l s t (-(d.half * d.piece.l)) (d.half * d.piece.l)) := rfl
theorem meets_false {c d : CurveCorridor} (h : meetsM c d = false) : apartM c d = true ∨ apartM d c = true := by
  unfold meetsM at h
  cases h1 : apartM c d <;> cases h2 : apartM d c <;> simp_all
theorem neg_half (d : CurveCorridor) : -(d.half * d.piece.l) = -d.half * d.piece.l := by rw [Int.neg_mul]
theorem sep_lo {c d : CurveCorridor} (C : Cor c) (D : Cor d) {e : Int} (he : 0 ≤ e ∧ e ≤ c.piece.l) (hm : meetsM (wend c 0 c.piece.l) d = true) (h : meetsM (wend c 0 e) d = false) : ∃ x y, x < 0 ∧ SepF c d x y e := by
  have c1 := C.l1
  have d1 := D.l1
  unfold meetsM at hm
  simp only [Bool.and_eq_true, Bool.not_eq_true', apart_wend, apart_wend2, Bool.or_eq_false_iff] at hm
  obtain ⟨⟨hA, hB⟩, hC, hD⟩ := hm
  rcases meets_false h with h | h
  · rw [apart_wend, hB, Bool.or_false] at h
    refine ⟨-1, 0, by decide, ?_⟩
    intro a b hab
    have i1 := inD_bd (k := dotv d.piece.v c.piece.v) hab.1
    have i2 := half_bd (m := dotv (leftv d.piece.v) c.piece.v) hab.2
    unfold axis at h hA
    simp only [Bool.or_eq_false_iff, decide_eq_false_iff_not, Bool.or_eq_true, decide_eq_true_eq, Int.zero_mul] at h hA
    have ea : absI 0 = 0 := rfl
    have eb : d.piece.l * c.piece.l * (e * -1 - c.half * absI 0) = -(e * c.piece.l * d.piece.l) := by rw [ea]; grind
    rw [eb]
    unfold dX
    omega
  · rw [apart_wend2, Bool.or_eq_true] at h
    rcases h with h | h
    · rcases axis_lo he h hC with ⟨n, q⟩ | ⟨n, q⟩
      · exact ⟨_, _, n, sep_above C D (v := fun a _ => a) (fun a b h => h.1.2) (id_v C D) q⟩
      · exact ⟨_, _, by omega, sep_below C D (v := fun a _ => a) (fun a b h => h.1.1) (id_v C D) q⟩
    · rw [neg_half] at h hD
      rcases axis_lo he h hD with ⟨n, q⟩ | ⟨n, q⟩
      · exact ⟨_, _, n, sep_above C D (v := fun _ b => b) (fun a b h => h.2.2) (id_l C D) q⟩
      · exact ⟨_, _, by omega, sep_below C D (v := fun _ b => b) (fun a b h => h.2.1) (id_l C D) q⟩
theorem sep_hi {c d : CurveCorridor} (C : Cor c) (D : Cor d) {e : Int} (he : 0 ≤ e ∧ e ≤ c.piece.l) (hm : meetsM (wend c 0 c.piece.l) d = true) (h : meetsM (wend c e c.piece.l) d = false) : ∃ x y, 0 < x ∧ SepF c d x y e := by
  have c1 := C.l1
  have d1 := D.l1
  unfold meetsM at hm
  simp only [Bool.and_eq_true, Bool.not_eq_true', apart_wend, apart_wend2, Bool.or_eq_false_iff] at hm
  obtain ⟨⟨hA, hB⟩, hC, hD⟩ := hm
  rcases meets_false h with h | h
  · rw [apart_wend, hB, Bool.or_false] at h
    refine ⟨1, 0, by decide, ?_⟩
    intro a b hab
    have i1 := inD_bd (k := dotv d.piece.v c.piece.v) hab.1
    have i2 := half_bd (m := dotv (leftv d.piece.v) c.piece.v) hab.2
    unfold axis at h hA
    simp only [Bool.or_eq_false_iff, decide_eq_false_iff_not, Bool.or_eq_true, decide_eq_true_eq, Int.zero_mul] at h hA
    have ea : absI 0 = 0 := rfl
    have eb : d.piece.l * c.piece.l * (e * 1 - c.half * absI 0) = e * c.piece.l * d.piece.l := by rw [ea]; grind
    rw [eb]
    unfold dX
    omega
  · rw [apart_wend2, Bool.or_eq_true] at h
    rcases h with h | h
    · rcases axis_hi he h hC with ⟨n, q⟩ | ⟨n, q⟩
      · exact ⟨_, _, n, sep_above C D (v := fun a _ => a) (fun a b h => h.1.2) (id_v C D) q⟩
      · exact ⟨_, _, by omega, sep_below C D (v := fun a _ => a) (fun a b h => h.1.1) (id_v C D) q⟩
    · rw [neg_half] at h hD
      rcases axis_hi he h hD with ⟨n, q⟩ | ⟨n, q⟩
      · exact ⟨_, _, n, sep_above C D (v := fun _ b => b) (fun a b h => h.2.2) (id_l C D) q⟩
      · exact ⟨_, _, by omega, sep_below C D (v := fun _ b => b) (fun a b h => h.2.1) (id_l C D) q⟩
/-- What meets a corridor meets one of its halves. -/
theorem meets_half {c d : CurveCorridor} (C : Cor c) (D : Cor d) (hd : d.ends.1 ≤ d.ends.2) {e : Int} (he : 0 ≤ e ∧ e ≤ c.piece.l) (hm : meetsM (wend c 0 c.piece.l) d = true) : fLo c d e = true ∨ fHi c d e = true := by
  have c1 := C.l1
  have d1 := D.l1
  cases hlo : fLo c d e with
  | true => exact .inl rfl
  | false =>
    cases hhi : fHi c d e with
    | true => exact .inr rfl
    | false =>
      exfalso
      obtain ⟨x1, y1, n1, s1⟩ := sep_lo C D he hm hlo
      obtain ⟨x2, y2, n2, s2⟩ := sep_hi C D he hm hhi
      unfold meetsM at hm
      simp only [Bool.and_eq_true, Bool.not_eq_true', apart_wend, apart_wend2, Bool.or_eq_false_iff] at hm
      obtain ⟨⟨_, hB⟩, _, _⟩ := hm
      unfold axis at hB
      simp only [Bool.or_eq_false_iff, decide_eq_false_iff_not, ax_v.1, ax_v.2] at hB
      have E : c.half * c.piece.l * d.piece.l = c.half * (c.piece.l * d.piece.l) := by grind
      have E2 : -(c.half * c.piece.l) * d.piece.l = -(c.half * (c.piece.l * d.piece.l)) := by grind
      rw [E, E2] at hB
      obtain ⟨a1, b1, i1, q1⟩ := corner_min (k := -(dotv (leftv d.piece.v) c.piece.v)) (m := dotv d.piece.v c.piece.v) hd D.h.1
      obtain ⟨a2, b2, i2, q2⟩ := corner_max (k := -(dotv (leftv d.piece.v) c.piece.v)) (m := dotv d.piece.v c.piece.v) hd D.h.1
      have g1 : dY c d a1 b1 = d.piece.l * dotv (wv c d) (leftv c.piece.v) + (a1 * -(dotv (leftv d.piece.v) c.piece.v) + b1 * dotv d.piece.v c.piece.v) := by unfold dY; rw [Int.mul_neg]; omega
      have g2 : dY c d a2 b2 = d.piece.l * dotv (wv c d) (leftv c.piece.v) + (a2 * -(dotv (leftv d.piece.v) c.piece.v) + b2 * dotv d.piece.v c.piece.v) := by unfold dY; rw [Int.mul_neg]; omega
      refine comb (by omega) (by omega) C.h.1 s1 n1 s2 n2 ⟨a1, b1, i1, ?_⟩ ⟨a2, b2, i2, ?_⟩
      · rw [g1, q1]; omega
      · rw [g2, q2]; omega
/-- The span is never empty. -/
theorem span_lt {c d : CurveCorridor} (C : Cor c) (D : Cor d) (hd : d.ends.1 ≤ d.ends.2) (he : c.ends = (0, c.piece.l)) (hm : meetsM c d = true) : (spanM c d).1 < (spanM c d).2 := by
  have c1 := C.l1
  obtain ⟨r, s, e1, ⟨r0, r1, r2, r3⟩, s0, s1, s2, s3⟩ := spanM_spec C D hd he hm
  have hc : c = wend c 0 c.piece.l := by unfold wend; rw [← he]
  rw [e1]
  dsimp only
  by_cases h : s + 1 < r
  · exfalso
    rcases meets_half C D hd (e := s + 1) (by omega) (by rw [← hc]; exact hm) with q | q
    · have := r3 (s + 1) (by omega) (by omega) q; omega
    · have := s3 (s + 1) (by omega) (by omega) q; omega
  · omega
end Go.Abs.Curve

namespace Go.Abs.Curve
open Go Go.Abs
theorem mem_crosses {h k : Int} {P Q : List (Int × CurvePiece)} {x : Cross} : x ∈ crossesM h k P Q ↔ ∃ a ∈ P, ∃ b ∈ Q, x ∈ crossM h k a.2 b.2 := by
  unfold crossesM rowM
  simp only [List.mem_flatMap]
theorem mem_cross {h k : Int} {a b : CurvePiece} {x : Cross} : x ∈ crossM h k a b ↔ meetsM (cr h a) (cr k b) = true ∧ x = ⟨a.start + (spanM (cr h a) (cr k b)).1, a.start + (spanM (cr h a) (cr k b)).2, b.start + (spanM (cr k b) (cr h a)).1, b.start + (spanM (cr k b) (cr h a)).2⟩ := by
  unfold crossM
  cases meetsM (cr h a) (cr k b) <;> simp
def swapC (x : Cross) : Cross := ⟨x.FromB, x.ToB, x.FromA, x.ToA⟩
theorem cross_swapped {h k : Int} {P Q : List (Int × CurvePiece)} {x : Cross} (hx : x ∈ crossesM h k P Q) : swapC x ∈ crossesM k h Q P := by
  obtain ⟨a, ha, b, hb, hx⟩ := mem_crosses.1 hx
  obtain ⟨hm, rfl⟩ := mem_cross.1 hx
  exact mem_crosses.2 ⟨b, hb, a, ha, mem_cross.2 ⟨by rw [meets_comm]; exact hm, rfl⟩⟩
theorem crossM_len (h k : Int) (a b : CurvePiece) : (crossM k h b a).length = (crossM h k a b).length := by
  unfold crossM
  rw [meets_comm]
  cases meetsM (cr h a) (cr k b) <;> rfl
theorem col_len (h k : Int) (a : Int × CurvePiece) (P : List (Int × CurvePiece)) : ∀ Q : List (Int × CurvePiece), (crossesM k h Q (a :: P)).length = (rowM h k a.2 Q).length + (crossesM k h Q P).length
  | [] => by simp [crossesM, rowM]
  | b :: Q => by
    have ih := col_len h k a P Q
    rw [crossesM_cons, crossesM_cons, rowM_cons, rowM_cons, List.length_append, List.length_append, List.length_append, List.length_append, ih, crossM_len]
    omega
theorem crosses_len (h k : Int) (Q : List (Int × CurvePiece)) : ∀ P : List (Int × CurvePiece), (crossesM k h Q P).length = (crossesM h k P Q).length
  | [] => by
    have : ∀ Q : List (Int × CurvePiece), crossesM k h Q [] = [] := fun Q => by simp [crossesM, rowM]
    rw [this]; rfl
  | a :: P => by rw [col_len, crossesM_cons, List.length_append, crosses_len h k Q P]
theorem cr_wid {h h' : Int} (hh : h ≤ h') {a : CurvePiece} (A : POK a) : Wid (cr h a) (cr h' a) := ⟨rfl, hh, Int.le_refl _, Int.le_refl _, by have := A.l1; show (0 : Int) ≤ a.l; omega⟩
theorem cr_ends {a : CurvePiece} (A : POK a) (h : Int) : (cr h a).ends.1 ≤ (cr h a).ends.2 := by have := A.l1; show (0 : Int) ≤ a.l; omega
theorem cr_len {a : CurvePiece} (A : POK a) (h : Int) : 0 ≤ (cr h a).piece.l := by have := A.l1; show (0 : Int) ≤ a.l; omega
theorem crossM_wid {h h' k k' : Int} (hh : h ≤ h') (hk : k ≤ k') {a b : CurvePiece} (A : POK a) (B : POK b) : (crossM h k a b).length ≤ (crossM h' k' a b).length := by
  unfold crossM
  cases hm : meetsM (cr h a) (cr k b)
  · simp
  · rw [meets_wid (cr_wid hh A) (cr_wid hk B) (cr_len A h) (cr_len B k) hm]
    simp
theorem rowM_wid {h h' k k' : Int} (hh : h ≤ h') (hk : k ≤ k') {a : CurvePiece} (A : POK a) : ∀ Q : List (Int × CurvePiece), (∀ x ∈ Q, POK x.2) → (rowM h k a Q).length ≤ (rowM h' k' a Q).length
  | [], _ => by simp [rowM]
  | b :: Q, hQ => by
    have h1 := crossM_wid hh hk A (hQ b (by simp))
    have h2 := rowM_wid hh hk A Q (fun x hx => hQ x (by simp [hx]))
    rw [rowM_cons, rowM_cons, List.length_append, List.length_append]; omega
theorem crosses_wid {h h' k k' : Int} (hh : h ≤ h') (hk : k ≤ k') {Q : List (Int × CurvePiece)} (hQ : ∀ x ∈ Q, POK x.2) : ∀ P : List (Int × CurvePiece), (∀ x ∈ P, POK x.2) → (crossesM h k P Q).length ≤ (crossesM h' k' P Q).length
  | [], _ => by simp [crossesM]
  | a :: P, hP => by
    have h1 := rowM_wid hh hk (hP a (by simp)) Q hQ
    have h2 := crosses_wid hh hk hQ P (fun x hx => hP x (by simp [hx]))
    rw [crossesM_cons, crossesM_cons, List.length_append, List.length_append]; omega
def coversC (y x : Cross) : Prop := y.FromA ≤ x.FromA ∧ x.ToA ≤ y.ToA ∧ y.FromB ≤ x.FromB ∧ x.ToB ≤ y.ToB
theorem cross_wider {h h' k k' : Int} (h0 : 0 ≤ h) (hh : h ≤ h') (h4 : h' ≤ 4000) (k0 : 0 ≤ k) (hk : k ≤ k') (k4 : k' ≤ 4000) {P Q : List (Int × CurvePiece)} (hP : ∀ x ∈ P, POK x.2) (hQ : ∀ x ∈ Q, POK x.2) {x : Cross} (hx : x ∈ crossesM h k P Q) : ∃ y ∈ crossesM h' k' P Q, coversC y x := by
  obtain ⟨a, ha, b, hb, hx⟩ := mem_crosses.1 hx
  obtain ⟨hm, rfl⟩ := mem_cross.1 hx
  have A := hP a ha
  have B := hQ b hb
  have CA := A.cor (h := h) (by omega)
  have CA' := A.cor (h := h') (by omega)
  have CB := B.cor (h := k) (by omega)
  have CB' := B.cor (h := k') (by omega)
  have s1 := span_wid CA CA' CB CB' (cr_wid hh A) (cr_wid hk B) (cr_ends B k') rfl rfl hm
  have s2 := span_wid CB CB' CA CA' (cr_wid hk B) (cr_wid hh A) (cr_ends A h') rfl rfl (by rw [meets_comm]; exact hm)
  refine ⟨_, mem_crosses.2 ⟨a, ha, b, hb, mem_cross.2 ⟨meets_wid (cr_wid hh A) (cr_wid hk B) (cr_len A h) (cr_len B k) hm, rfl⟩⟩, ?_⟩
  unfold coversC
  dsimp only
  omega
theorem chn_end : ∀ (P : List (Int × CurvePiece)) (s : Int), Chn s P → (∀ x ∈ P, POK x.2) → (∀ x ∈ P, x.2.start + x.2.l ≤ s + suml (P.map (·.2.l))) ∧ 0 ≤ suml (P.map (·.2.l))
  | [], s, _, _ => by simp [suml]
  | a :: P, s, hc, hP => by
    cases hc with
    | cons _ _ _ h1 h2 =>
      obtain ⟨i1, i2⟩ := chn_end P _ h2 (fun x hx => hP x (by simp [hx]))
      have := (hP a (by simp)).l1
      rw [List.map_cons, suml]
      refine ⟨fun x hx => ?_, by omega⟩
      rw [List.mem_cons] at hx
      rcases hx with rfl | hx
      · omega
      · have := i1 x hx; omega
theorem PL_end {c : Curve} (V : Valid c.Pts) : ∀ x ∈ PL c, x.2.start + x.2.l ≤ suml (lens c.Pts) := by
  have hz := checkM_zero.2 V
  obtain ⟨p, q, r, hp⟩ := lens_valid V
  have e : (PL c).map (·.2.l) = lens c.Pts := by
    unfold PL
    rw [if_pos hz, hp]
    exact piecesM_lens (q :: r) p 0 0
  have := (chn_end (PL c) 0 (PL_chn c) (PL_ok c).1).1
  rw [e] at this
  intro x hx
  have := this x hx
  omega
theorem cross_in {h k : Int} (h0 : 0 ≤ h ∧ h ≤ 4000) (k0 : 0 ≤ k ∧ k ≤ 4000) {c d : Curve} (Vc : Valid c.Pts) (Vd : Valid d.Pts) {x : Cross} (hx : x ∈ crossesM h k (PL c) (PL d)) : 0 ≤ x.FromA ∧ x.FromA < x.ToA ∧ x.ToA ≤ suml (lens c.Pts) ∧ x.ToB ≤ suml (lens d.Pts) := by
  obtain ⟨a, ha, b, hb, hx⟩ := mem_crosses.1 hx
  obtain ⟨hm, rfl⟩ := mem_cross.1 hx
  have A := (PL_ok c).1 a ha
  have B := (PL_ok d).1 b hb
  have CA := A.cor h0
  have CB := B.cor k0
  have b1 := spanM_bd (d := cr k b.2) CA
  have b2 := spanM_bd (d := cr h a.2) CB
  have l := span_lt CA CB (cr_ends B k) rfl hm
  have e1 := PL_end Vc a ha
  have e2 := PL_end Vd b hb
  have s := A.st
  rw [show (cr h a.2).piece.l = a.2.l from rfl] at b1
  rw [show (cr k b.2).piece.l = b.2.l from rfl] at b2
  dsimp only
  omega
theorem l2_loop (L : List Cross) (hL : L.length ≤ 1000000) (v10 v11 v12 v13 : Cross) : ∀ (r : List Cross) (i : Nat) (b : Bool), L.drop i = r → loop (law01_CurveCrosses_l2 L v10 v11 v12 v13) (b, (i : Int)) = some (b || r.any fun y => y.FromA == v10.FromB && (y.ToA == v11.ToB && (y.FromB == v12.FromA && (y.ToB == v13.ToA && true)))) := by
  intro r
  induction r with
  | nil =>
    intro i b hi
    have := drop_nil hi
    refine loop_out ?_
    unfold law01_CurveCrosses_l2
    dsimp only
    rw [show decide ((i : Int) < (L.length : Int)) = false from decide_eq_false (by omega)]
    simp
  | cons a r ih =>
    intro i b hi
    have hlt := drop_lt hi
    have hs : law01_CurveCrosses_l2 L v10 v11 v12 v13 (b, (i : Int)) = some (.go (b || (a.FromA == v10.FromB && (a.ToA == v11.ToB && (a.FromB == v12.FromA && (a.ToB == v13.ToA && true)))), ((i + 1 : Nat) : Int))) := by
      unfold law01_CurveCrosses_l2
      dsimp only
      rw [show decide ((i : Int) < (L.length : Int)) = true from decide_eq_true (by omega), w64_id (n := (i : Int) + 1) (by omega)]
      simp only [cond_true, geti_drop hi]
      cases b <;> rfl
    rw [loop_go hs, ih (i + 1) _ (drop_succ hi), List.any_cons, Bool.or_assoc]
theorem l3_loop (K L : List Cross) (hL : L.length ≤ 1000000) (i0 : Int) (x : Cross) (hx : geti K i0 = some x) : ∀ (r : List Cross) (i : Nat) (b : Bool), L.drop i = r → loop (law01_CurveCrosses_l3 K L i0) (b, (i : Int)) = some (b || r.any fun y => ((decide (y.FromA ≤ x.FromA) && decide (y.ToA ≥ x.ToA)) && decide (y.FromB ≤ x.FromB)) && decide (y.ToB ≥ x.ToB)) := by
  intro r
  induction r with
  | nil =>
    intro i b hi
    have := drop_nil hi
    refine loop_out ?_
    unfold law01_CurveCrosses_l3
    dsimp only
    rw [show decide ((i : Int) < (L.length : Int)) = false from decide_eq_false (by omega)]
    simp
  | cons a r ih =>
    intro i b hi
    have hlt := drop_lt hi
    have hs : law01_CurveCrosses_l3 K L i0 (b, (i : Int)) = some (.go (b || (((decide (a.FromA ≤ x.FromA) && decide (a.ToA ≥ x.ToA)) && decide (a.FromB ≤ x.FromB)) && decide (a.ToB ≥ x.ToB)), ((i + 1 : Nat) : Int))) := by
      unfold law01_CurveCrosses_l3
      dsimp only
      rw [show decide ((i : Int) < (L.length : Int)) = true from decide_eq_true (by omega), w64_id (n := (i : Int) + 1) (by omega)]
      simp only [cond_true, geti_drop hi, hx]
      cases b
      · simp only [Bool.not_false, cond_true, Option.bind_some, Bool.true_and, Bool.false_or]
        cases decide (a.FromA ≤ x.FromA)
        · rfl
        · simp only [cond_true, Option.bind_some, Bool.true_and]
          cases decide (a.ToA ≥ x.ToA)
          · rfl
          · simp only [cond_true, Option.bind_some, Bool.true_and]
            cases decide (a.FromB ≤ x.FromB)
            · rfl
            · rfl
      · rfl
    rw [loop_go hs, ih (i + 1) _ (drop_succ hi), List.any_cons, Bool.or_assoc]
theorem crosses_loop1 {c d : Curve} (Vc : Valid c.Pts) (Vd : Valid d.Pts) (hc : c.Pts.length ≤ 1000000) (hd : d.Pts.length ≤ 1000000) {K L M : List Cross} (hK : K.length ≤ 400) (hL : L.length ≤ 400) (hM : M.length ≤ 400)
    (f1 : ∀ x ∈ K, swapC x ∈ L) (f2 : ∀ x ∈ K, ∃ y ∈ M, coversC y x) (f3 : ∀ x ∈ K, 0 ≤ x.FromA ∧ x.FromA < x.ToA ∧ x.ToA ≤ suml (lens c.Pts) ∧ x.ToB ≤ suml (lens d.Pts)) :
    ∀ (r : List Cross) (i : Nat), K.drop i = r → loop (law01_CurveCrosses_l1 c d K L M) (i : Int) = some (.inl ()) := by
  have pc : piecesL c = lens c.Pts := if_pos (checkM_zero.2 Vc)
  have pd : piecesL d = lens d.Pts := if_pos (checkM_zero.2 Vd)
  have tc := total_bd Vc
  have td := total_bd Vd
  intro r
  induction r with
  | nil =>
    intro i hi
    have := drop_nil hi
    refine loop_out ?_
    unfold law01_CurveCrosses_l1
    rw [show decide ((i : Int) < (K.length : Int)) = false from decide_eq_false (by omega)]
    rfl
  | cons x r ih =>
    intro i hi
    have hlt := drop_lt hi
    have g := geti_drop hi
    have hx : x ∈ K := List.mem_of_mem_drop (i := i) (by rw [hi]; simp)
    obtain ⟨y, hy, hcov⟩ := f2 x hx
    obtain ⟨p1, p2, p3, p4⟩ := f3 x hx
    have l2 := l2_loop L (by omega) x x x x L 0 false rfl
    have l3 := l3_loop K M (by omega) (i : Int) x g M 0 false rfl
    have a2 : (L.any fun y => y.FromA == x.FromB && (y.ToA == x.ToB && (y.FromB == x.FromA && (y.ToB == x.ToA && true)))) = true := by
      rw [List.any_eq_true]
      refine ⟨_, f1 x hx, ?_⟩
      simp [swapC]
    have a3 : (M.any fun y => ((decide (y.FromA ≤ x.FromA) && decide (y.ToA ≥ x.ToA)) && decide (y.FromB ≤ x.FromB)) && decide (y.ToB ≥ x.ToB)) = true := by
      rw [List.any_eq_true]
      refine ⟨y, hy, ?_⟩
      unfold coversC at hcov
      simp only [Bool.and_eq_true, decide_eq_true_eq]
      omega
    rw [a2] at l2
    rw [a3] at l3
    rw [show ((0 : Nat) : Int) = 0 from rfl, Bool.or_true] at l2 l3
    have t1 : decide (x.FromA < 0) = false := decide_eq_false (by omega)
    have t2 : decide (x.FromA ≥ x.ToA) = false := decide_eq_false (by omega)
    have t3 : decide (x.ToA > suml (lens c.Pts)) = false := decide_eq_false (by omega)
    have t4 : decide (x.ToB > suml (lens d.Pts)) = false := decide_eq_false (by omega)
    have hs : law01_CurveCrosses_l1 c d K L M (i : Int) = some (.go ((i + 1 : Nat) : Int)) := by
      unfold law01_CurveCrosses_l1
      rw [show decide ((i : Int) < (K.length : Int)) = true from decide_eq_true (by omega)]
      simp only [cond_true, g, Option.bind_some, l2, l3, Bool.not_true, Bool.or_self, Bool.not_false, Bool.false_or]
      simp only [t1, t2, t3, t4, Bool.or_self, Bool.not_false, cond_true, cond_false, Option.bind_some, curve_Length_eq c hc, curve_Length_eq d hd, pc, pd, tc.2.2, td.2.2]
      rw [w64_id (n := (i : Int) + 1) (by omega)]
      rfl
    rw [loop_go hs, ih (i + 1) (drop_succ hi)]
theorem len_pos {c : Curve} (V : Valid c.Pts) : 0 < suml (lens c.Pts) := by
  obtain ⟨h1, h2⟩ := valid_lens V
  have h2' := V.two
  have := suml_take_lt (fun a ha => (h1 a ha).1) (show 0 < (lens c.Pts).length by omega) (Nat.le_refl _)
  rw [List.take_length] at this
  simp only [List.take_zero, suml] at this
  omega
theorem law01_CurveCrosses_plain (a0 a1 : KitChain) (a2 a3 a4 : Int) (w0 : wI64 a0.X ∧ wI64 a0.Y ∧ ∀ a ∈ a0.Steps, wI64 a) (w1 : wI64 a1.X ∧ wI64 a1.Y ∧ ∀ a ∈ a1.Steps, wI64 a) (w2 : wI64 a2) (w3 : wI64 a3) (w4 : wI64 a4) : law01_CurveCrosses a0 a1 a2 a3 a4 = some true := by
  obtain ⟨c, hc, hm⟩ := kit_Curve_eq a0 w0.2.2
  obtain ⟨d, hd, hm2⟩ := kit_Curve_eq a1 w1.2.2
  have Vc := hm.valid
  have Vd := hm2.valid
  have c6 := hm.six
  have d6 := hm2.six
  obtain ⟨h, _, h0, h1, e1, _⟩ := kit_Mod_eq (n := a2) (m := 2001) (by decide) w2 (by decide)
  obtain ⟨k, _, k0, k1, e2, _⟩ := kit_Mod_eq (n := a3) (m := 2001) (by decide) w3 (by decide)
  obtain ⟨w, _, w0', w1', e3, _⟩ := kit_Mod_eq (n := a4) (m := 2001) (by decide) w4 (by decide)
  have E1 : corrA c h d k = crossesM h k (PL c) (PL d) := if_pos (by omega)
  have E2 : corrA d k c h = crossesM k h (PL d) (PL c) := if_pos (by omega)
  have E3 : corrA c (h + w) d (k + w) = crossesM (h + w) (k + w) (PL c) (PL d) := if_pos (by omega)
  have n1 := corrA_le c h d k
  have n2 := corrA_le d k c h
  have n3 := corrA_le c (h + w) d (k + w)
  rw [E1] at n1
  rw [E2] at n2
  rw [E3] at n3
  have hP := (PL_ok c).1
  have hQ := (PL_ok d).1
  have q1 := crosses_len h k (PL d) (PL c)
  have q2 := crosses_wid (h := h) (h' := h + w) (k := k) (k' := k + w) (by omega) (by omega) hQ (PL c) hP
  have pos := len_pos Vc
  have tc := total_bd Vc
  have pc : piecesL c = lens c.Pts := if_pos (checkM_zero.2 Vc)
  unfold law01_CurveCrosses
  simp only [hc, hd, e1, e2, e3, Option.bind_some]
  rw [w64_id (n := h + w) (by omega), w64_id (n := k + w) (by omega)]
  simp only [curve_Corridors_eq c d (show c.Pts.length ≤ 1000000 by omega) (show d.Pts.length ≤ 1000000 by omega), curve_Corridors_eq d c (show d.Pts.length ≤ 1000000 by omega) (show c.Pts.length ≤ 1000000 by omega), Option.bind_some, E1, E2, E3]
  have b1 : (((crossesM h k (PL c) (PL d)).length : Int) != ((crossesM k h (PL d) (PL c)).length : Int)) = false := by rw [q1]; exact bne_self_eq_false _
  have b2 : decide (((crossesM (h + w) (k + w) (PL c) (PL d)).length : Int) < ((crossesM h k (PL c) (PL d)).length : Int)) = false := decide_eq_false (by omega)
  have b3 : (suml (lens c.Pts) == 0) = false := beq_eq_false_iff_ne.2 (by omega)
  simp only [b1, b2, Bool.or_self, Bool.not_false, cond_true, curve_Length_eq c (show c.Pts.length ≤ 1000000 by omega), pc, tc.2.2, Option.bind_some, b3, cond_false]
  have := crosses_loop1 Vc Vd (by omega) (by omega) n1 n2 n3 (fun x hx => cross_swapped hx) (fun x hx => cross_wider (h' := h + w) (k' := k + w) h0 (by omega) (by omega) k0 (by omega) (by omega) hP hQ hx) (fun x hx => cross_in (by omega) (by omega) Vc Vd hx) _ 0 rfl
  rw [show ((0 : Nat) : Int) = 0 from rfl] at this
  rw [this]
  simp only [thenS, awake_eq, Option.bind_some]
end Go.Abs.Curve
