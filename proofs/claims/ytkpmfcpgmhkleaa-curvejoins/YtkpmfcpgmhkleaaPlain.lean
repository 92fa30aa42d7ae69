/-
  Plain facts on the functions: what they compute, and that the law holds of it.
-/
import Derived.Test.YtkpmfcpgmhkleaaFns2

namespace Go.Abs.Curve
open Go Go.Abs
noncomputable def kit_Mod64 (p1 : Int) (p2 : Int) : Option Int :=
  (remc p1 p2).bind fun v1 => cond (decide (v1 < 0)) (some (w64 (v1 + p2))) (some v1)
end Go.Abs.Curve

namespace Go.Abs.Curve
open Go Go.Abs

theorem curve_root_spec (n : Int) : ∃ y, curve_root n = some (y, y * y == n) ∧ 0 ≤ y ∧ y ≤ 67108864 ∧ (∀ m, 0 ≤ m → m < y → m * m < n) ∧ (y = 67108864 ∨ n ≤ y * y) := by
  have key := loop_inv (f := curve_root_l1 n) (fun x => 0 ≤ x.1 ∧ x.1 ≤ x.2 ∧ x.2 ≤ 67108864 ∧ (∀ m, 0 ≤ m → m < x.1 → m * m < n) ∧ (x.2 = 67108864 ∨ n ≤ x.2 * x.2)) (fun x => (x.2 - x.1).toNat)
    (fun y => 0 ≤ y ∧ y ≤ 67108864 ∧ (∀ m, 0 ≤ m → m < y → m * m < n) ∧ (y = 67108864 ∨ n ≤ y * y)) (by
      rintro ⟨lo, hi⟩ ⟨h1, h2, h3, h4, h5⟩
      dsimp only at h1 h2 h3 h4 h5
      unfold curve_root_l1
      dsimp only
      by_cases hlt : lo < hi
      · have e1 : w64 (lo + hi) = lo + hi := w64_id (by omega)
        have e2 : w64 ((lo + hi).tdiv 2) = (lo + hi) / 2 := by rw [Int.tdiv_eq_ediv_of_nonneg (by omega)]; exact w64_id (by omega)
        have hm : lo ≤ (lo + hi) / 2 ∧ (lo + hi) / 2 < hi := by omega
        generalize hmid : (lo + hi) / 2 = mid at *
        have hmm : mid * mid ≤ 67108864 * 67108864 := sq_le (by omega) (by omega)
        have hmm0 := sq_nonneg mid
        have e3 : w64 (mid * mid) = mid * mid := w64_id (by omega)
        have e4 : w64 (mid + 1) = mid + 1 := w64_id (by omega)
        simp only [e1, e2, e3, e4, hlt, decide_true, cond_true]
        by_cases hc : mid * mid < n
        · simp only [hc, decide_true, cond_true]
          refine ⟨_, rfl, ⟨by omega, by omega, h3, fun m hm0 hm1 => ?_, h5⟩, by dsimp only; omega⟩
          rcases Int.lt_or_le m mid with q | q
          · have := Int.mul_le_mul (show m ≤ mid by omega) (show m ≤ mid by omega) hm0 (by omega); omega
          · have : m = mid := by dsimp only at hm1; omega
            subst this; exact hc
        · simp only [hc, decide_false, cond_false]
          exact ⟨_, rfl, ⟨h1, by dsimp only; omega, by dsimp only; omega, h4, .inr (by dsimp only; omega)⟩, by dsimp only; omega⟩
      · simp only [hlt, decide_false, cond_false]
        obtain rfl : lo = hi := by omega
        exact ⟨_, rfl, h1, h3, h4, h5⟩) (0, 67108864) ⟨by decide, by decide, by decide, fun m h1 h2 => by dsimp only at h2; omega, .inl rfl⟩
  obtain ⟨y, hy, h1, h2, h3, h4⟩ := key
  refine ⟨y, ?_, h1, h2, h3, h4⟩
  have hmm : y * y ≤ 67108864 * 67108864 := sq_le (by omega) (by omega)
  have hmm0 := sq_nonneg y
  unfold curve_root
  rw [hy, Option.bind_some, w64_id (by omega)]
/-- The least number whose square is not less. -/
noncomputable def rt (n : Int) : Int := (curve_root_spec n).choose
theorem curve_root_rt (n : Int) : curve_root n = some (rt n, rt n * rt n == n) := (curve_root_spec n).choose_spec.1
theorem rt_nonneg (n : Int) : 0 ≤ rt n := (curve_root_spec n).choose_spec.2.1
theorem rt_min (n m : Int) (h1 : 0 ≤ m) (h2 : m < rt n) : m * m < n := (curve_root_spec n).choose_spec.2.2.2.1 m h1 h2
theorem rt_max (n : Int) : rt n = 67108864 ∨ n ≤ rt n * rt n := (curve_root_spec n).choose_spec.2.2.2.2
theorem rt_sq {l : Int} (h0 : 0 ≤ l) (h1 : l ≤ 67108864) : rt (l * l) = l := by
  rcases Int.lt_trichotomy (rt (l * l)) l with q | q | q
  · rcases rt_max (l * l) with h | h
    · omega
    · have h2 := rt_nonneg (l * l)
      have := Int.mul_lt_mul' (show rt (l * l) ≤ l by omega) q h2 (by omega); omega
  · exact q
  · have := rt_min (l * l) l h0 q; omega

theorem ref01_root_spec (n : Int) (h0 : 0 ≤ n) (h1 : n < 18014398509481984) : ∃ r, ref01_root n = some r ∧ 0 ≤ r ∧ r < 134217728 ∧ r * r ≤ n ∧ n < (r + 1) * (r + 1) := by
  have key := loop_inv (f := ref01_root_l1 n) (fun x => 0 ≤ x.1 ∧ x.1 * x.1 ≤ n ∧ ((∃ k : Nat, k ≤ 26 ∧ x.2 = 2 ^ k ∧ x.1 + 2 * 2 ^ k ≤ 134217728 ∧ n < (x.1 + 2 * 2 ^ k) * (x.1 + 2 * 2 ^ k)) ∨ (x.2 = 0 ∧ x.1 < 134217728 ∧ n < (x.1 + 1) * (x.1 + 1)))) (fun x => x.2.toNat)
    (fun r => 0 ≤ r ∧ r < 134217728 ∧ r * r ≤ n ∧ n < (r + 1) * (r + 1)) (by
      rintro ⟨r, bit⟩ ⟨q1, q2, q3⟩
      dsimp only at q1 q2 q3
      unfold ref01_root_l1
      dsimp only
      rcases q3 with ⟨k, hk, rfl, q4, q5⟩ | ⟨rfl, q4, q5⟩
      · have hp : (0 : Int) < 2 ^ k := Int.pow_pos (by decide)
        generalize hb : (2 : Int) ^ k = b at *
        have e1 : w64 (r + b) = r + b := w64_id (by omega)
        have hmm : (r + b) * (r + b) ≤ 134217728 * 134217728 := sq_le (by omega) (by omega)
        have hmm0 := sq_nonneg (r + b)
        have e2 : w64 ((r + b) * (r + b)) = (r + b) * (r + b) := w64_id (by omega)
        have e3 : w64 (b.tdiv 2) = b / 2 := by rw [Int.tdiv_eq_ediv_of_nonneg (by omega)]; exact w64_id (by omega)
        have hb0 : b > 0 := by omega
        simp only [e1, e2, e3, hb0, decide_true, cond_true]
        have hnext : ∀ r', 0 ≤ r' → r' * r' ≤ n → r' + b ≤ 134217728 → n < (r' + b) * (r' + b) → (∃ j : Nat, j ≤ 26 ∧ b / 2 = 2 ^ j ∧ r' + 2 * 2 ^ j ≤ 134217728 ∧ n < (r' + 2 * 2 ^ j) * (r' + 2 * 2 ^ j)) ∨ (b / 2 = 0 ∧ r' < 134217728 ∧ n < (r' + 1) * (r' + 1)) := by
          intro r' a1 a2 a3 a4
          cases k with
          | zero =>
            have : b = 1 := by rw [← hb]; rfl
            subst this
            exact .inr ⟨by decide, by omega, a4⟩
          | succ j =>
            have hj : b = 2 * 2 ^ j := by rw [← hb, Int.pow_succ]; omega
            refine .inl ⟨j, by omega, by omega, by omega, by rw [← hj]; exact a4⟩
        by_cases hc : (r + b) * (r + b) ≤ n
        · simp only [hc, decide_true, cond_true]
          refine ⟨_, rfl, ⟨by dsimp only; omega, hc, hnext (r + b) (by omega) hc (by omega) (by rw [show r + b + b = r + 2 * b by omega]; exact q5)⟩, by dsimp only; omega⟩
        · simp only [hc, decide_false, cond_false]
          exact ⟨_, rfl, ⟨q1, q2, hnext r q1 q2 (by omega) (by omega)⟩, by dsimp only; omega⟩
      · simp only [show ¬ (0 : Int) > 0 by decide, decide_false, cond_false]
        exact ⟨_, rfl, q1, q4, q2, q5⟩) (0, 67108864) ⟨by decide, by dsimp only; omega, .inl ⟨26, by decide, by decide, by decide, by dsimp only; omega⟩⟩
  obtain ⟨r, hr, a⟩ := key
  exact ⟨r, by unfold ref01_root; rw [hr]; rfl, a⟩
theorem ref01_root_rt {n : Int} (h0 : 0 ≤ n) (h1 : n ≤ 4503599627370496) : ∃ r, ref01_root n = some r ∧ 0 ≤ r ∧ r < 134217728 ∧ (r * r = n ↔ rt n * rt n = n) ∧ (r * r = n → r = rt n) := by
  obtain ⟨r, hr, a1, a2, a3, a4⟩ := ref01_root_spec n h0 (by omega)
  have hr26 : r ≤ 67108864 := by
    rcases Int.lt_or_le r 67108865 with q | q
    · omega
    · have := Int.mul_le_mul q q (by decide) (by omega); omega
  refine ⟨r, hr, a1, a2, ⟨fun h => ?_, fun h => ?_⟩, fun h => ?_⟩
  · rw [← h, rt_sq a1 hr26]
  · rcases Int.lt_trichotomy r (rt n) with q | q | q
    · have := Int.mul_le_mul (show r + 1 ≤ rt n by omega) (show r + 1 ≤ rt n by omega) (by omega) (rt_nonneg n); omega
    · rw [q]; exact h
    · have h2 := rt_nonneg n
      have := Int.mul_lt_mul' (show rt n ≤ r by omega) q h2 (by omega); omega
  · rw [← h, rt_sq a1 hr26]
end Go.Abs.Curve

namespace Go.Abs.Curve
open Go Go.Abs

def okS (p : Spot) : Bool := decide (-16777216 ≤ p.X) && decide (p.X ≤ 16777216) && decide (-16777216 ≤ p.Y) && decide (p.Y ≤ 16777216)
theorem okS_iff {p : Spot} : okS p = true ↔ -16777216 ≤ p.X ∧ p.X ≤ 16777216 ∧ -16777216 ≤ p.Y ∧ p.Y ≤ 16777216 := by simp [okS, and_assoc]
theorem fair_cond (p : Spot) : ((decide ((mm2 false p.X p.Y) < (-16777216))) || (decide ((mm2 true p.X p.Y) > 16777216))) = !okS p := by
  rw [mm2_min, mm2_max]
  cases h : okS p with
  | true => have := okS_iff.1 h; simp; omega
  | false =>
    have : ¬ (-16777216 ≤ p.X ∧ p.X ≤ 16777216 ∧ -16777216 ≤ p.Y ∧ p.Y ≤ 16777216) := fun q => by rw [okS_iff.2 q] at h; cases h
    simp; omega
theorem curve_fair_go (l : List Spot) (hl : l.length ≤ 1000000) : ∀ (r : List Spot) (i : Nat), l.drop i = r → loop (curve_fair_l1 l) (i : Int) = some (if r.all okS then .inl () else .inr false) := by
  intro r
  induction r with
  | nil =>
    intro i hi
    have := drop_nil hi
    refine loop_out ?_
    unfold curve_fair_l1
    simp only [show ¬ (i : Int) < l.length by omega, decide_false, cond_false, List.all_nil, if_true]
  | cons p r ih =>
    intro i hi
    have hlt := drop_lt hi
    have hstep : curve_fair_l1 l (i : Int) = if okS p then some (.go ((i + 1 : Nat) : Int)) else some (.out (.inr false)) := by
      unfold curve_fair_l1
      simp only [show (i : Int) < l.length by omega, decide_true, cond_true, geti_drop hi, Option.bind_some, fair_cond]
      cases h : okS p with
      | true => simp only [Bool.not_true, cond_false, if_true]; rw [w64_id (by omega)]; rfl
      | false => simp
    cases h : okS p with
    | true =>
      rw [h, if_pos rfl] at hstep
      rw [loop_go hstep, ih (i + 1) (drop_succ hi)]
      simp [h]
    | false =>
      rw [h] at hstep
      rw [loop_out hstep]
      simp [h]
theorem curve_fair_eq (l : List Spot) (hl : l.length ≤ 1000000) : curve_fair l = some (l.all okS) := by
  unfold curve_fair
  have := curve_fair_go l hl l 0 (by simp)
  rw [show ((0 : Nat) : Int) = 0 from rfl] at this
  rw [this]
  cases l.all okS <;> rfl
theorem ref01_Valid_eq (p : Spot) : ref01_Valid p = some (okS p) := by
  unfold ref01_Valid okS; rfl

def vec (p q : Spot) : CurveVector := ⟨q.X - p.X, q.Y - p.Y⟩
def dotv (v w : CurveVector) : Int := v.x * w.x + v.y * w.y
/-- A vector between valid spots. -/
def okV (v : CurveVector) : Prop := -33554432 ≤ v.x ∧ v.x ≤ 33554432 ∧ -33554432 ≤ v.y ∧ v.y ≤ 33554432
theorem okV_vec {p q : Spot} (hp : okS p = true) (hq : okS q = true) : okV (vec p q) := by
  have := okS_iff.1 hp; have := okS_iff.1 hq
  unfold okV vec; dsimp only; omega
theorem curve_from_eq {p q : Spot} (hp : okS p = true) (hq : okS q = true) : curve_from p q = some (vec p q) := by
  have := okS_iff.1 hp; have := okS_iff.1 hq
  unfold curve_from vec
  rw [w64_id (by omega), w64_id (by omega)]
theorem dot_bd {v w : CurveVector} (hv : okV v) (hw : okV w) : -2251799813685248 ≤ dotv v w ∧ dotv v w ≤ 2251799813685248 ∧ (-1125899906842624 ≤ v.x * w.x ∧ v.x * w.x ≤ 1125899906842624) ∧ -1125899906842624 ≤ v.y * w.y ∧ v.y * w.y ≤ 1125899906842624 := by
  obtain ⟨a1, a2, a3, a4⟩ := hv
  obtain ⟨b1, b2, b3, b4⟩ := hw
  have h1 := mul_bd ⟨a1, a2⟩ ⟨b1, b2⟩
  have h2 := mul_bd ⟨a3, a4⟩ ⟨b3, b4⟩
  unfold dotv
  omega
theorem curve_dot_eq {v w : CurveVector} (hv : okV v) (hw : okV w) : curve_vector_dot v w = some (dotv v w) := by
  have h := dot_bd hv hw
  unfold curve_vector_dot
  rw [w64_id (n := v.x * w.x) (by omega), w64_id (n := v.y * w.y) (by omega), w64_id (by unfold dotv at h; omega)]
  rfl
theorem dot_nonneg (v : CurveVector) : 0 ≤ dotv v v := by have := sq_nonneg v.x; have := sq_nonneg v.y; unfold dotv; omega

def vs (v : CurveVector) : Spot := ⟨v.x, v.y⟩
theorem ref01_Minus_eq {p q : Spot} (hp : okS p = true) (hq : okS q = true) : ref01_Minus q p = some (vs (vec p q)) := by
  have := okS_iff.1 hp; have := okS_iff.1 hq
  unfold ref01_Minus vec vs
  rw [w64_id (by omega), w64_id (by omega)]
theorem ref01_Dot_eq {v w : CurveVector} (hv : okV v) (hw : okV w) : ref01_Dot (vs v) (vs w) = some (dotv v w) := by
  have h := dot_bd hv hw
  unfold ref01_Dot vs
  dsimp only
  rw [w64_id (n := v.x * w.x) (by omega), w64_id (n := v.y * w.y) (by omega), w64_id (by unfold dotv at h; omega)]
  rfl

/-- The error of a chain of points, from a piece on; the piece ahead of it. -/
noncomputable def goM : Option CurveVector → List Spot → Int
  | last, p :: q :: r =>
    if rt (dotv (vec p q) (vec p q)) * rt (dotv (vec p q) (vec p q)) ≠ dotv (vec p q) (vec p q) then 3
    else if rt (dotv (vec p q) (vec p q)) < 1000 ∨ rt (dotv (vec p q) (vec p q)) > 1048576 then 2
    else match last with
      | some u => if dotv u (vec p q) ≤ 0 then 12 else goM (some (vec p q)) (q :: r)
      | none => goM (some (vec p q)) (q :: r)
  | _, _ => 0
theorem goM_cons (last : Option CurveVector) (p q : Spot) (r : List Spot) : goM last (p :: q :: r) =
    if rt (dotv (vec p q) (vec p q)) * rt (dotv (vec p q) (vec p q)) ≠ dotv (vec p q) (vec p q) then 3
    else if rt (dotv (vec p q) (vec p q)) < 1000 ∨ rt (dotv (vec p q) (vec p q)) > 1048576 then 2
    else match last with
      | some u => if dotv u (vec p q) ≤ 0 then 12 else goM (some (vec p q)) (q :: r)
      | none => goM (some (vec p q)) (q :: r) := by
  conv => lhs; unfold goM
noncomputable def checkM (l : List Spot) : Int := if l.length < 2 then 6 else if l.length > 16 then 5 else if l.all okS then goM none l else 2

theorem curve_Check_go (c : Curve) (hl : c.Pts.length ≤ 1000000) (hok : c.Pts.all okS = true) : ∀ (r : List Spot) (p : Spot) (i : Nat) (last : CurveVector), c.Pts.drop i = p :: r → okV last →
    loop (curve_Check_l1 c) ((i : Int), last) = some (if goM (if i = 0 then none else some last) (p :: r) = 0 then .inl () else .inr (goM (if i = 0 then none else some last) (p :: r))) := by
  intro r
  induction r with
  | nil =>
    intro p i last hi hlast
    have hlt := drop_lt hi
    have := drop_nil (drop_succ hi)
    refine loop_out ?_
    unfold curve_Check_l1
    dsimp only
    rw [w64_id (n := (c.Pts.length : Int) - 1) (by omega)]
    simp only [show ¬ (i : Int) < (c.Pts.length : Int) - 1 by omega, decide_false, cond_false, goM, if_true]
  | cons q r ih =>
    intro p i last hi hlast
    have hlt := drop_lt hi
    have hi1 := drop_succ hi
    have hlt1 := drop_lt hi1
    have hp : okS p = true := List.all_eq_true.1 hok p (List.mem_of_mem_drop (i := i) (by rw [hi]; simp))
    have hq : okS q = true := List.all_eq_true.1 hok q (List.mem_of_mem_drop (i := i) (by rw [hi]; simp))
    have hv := okV_vec hp hq
    have hg1 : geti c.Pts ((i : Int) + 1) = some q := by have := geti_drop hi1; simpa using this
    have hstep : curve_Check_l1 c ((i : Int), last) =
        if rt (dotv (vec p q) (vec p q)) * rt (dotv (vec p q) (vec p q)) ≠ dotv (vec p q) (vec p q) then some (.out (.inr 3))
        else if rt (dotv (vec p q) (vec p q)) < 1000 ∨ rt (dotv (vec p q) (vec p q)) > 1048576 then some (.out (.inr 2))
        else if i ≠ 0 ∧ dotv last (vec p q) ≤ 0 then some (.out (.inr 12)) else some (.go (((i + 1 : Nat) : Int), vec p q)) := by
      unfold curve_Check_l1
      dsimp only
      rw [w64_id (n := (c.Pts.length : Int) - 1) (by omega), w64_id (n := (i : Int) + 1) (by omega)]
      simp only [show (i : Int) < (c.Pts.length : Int) - 1 by omega, decide_true, cond_true, geti_drop hi, hg1, Option.bind_some, curve_from_eq hp hq, curve_dot_eq hv hv, curve_root_rt]
      by_cases h1 : rt (dotv (vec p q) (vec p q)) * rt (dotv (vec p q) (vec p q)) = dotv (vec p q) (vec p q)
      · simp only [h1, beq_self_eq_true, Bool.not_true, cond_false, ne_eq, not_true_eq_false, if_false]
        by_cases h2 : rt (dotv (vec p q) (vec p q)) < 1000 ∨ rt (dotv (vec p q) (vec p q)) > 1048576
        · rw [if_pos h2]
          have : (decide (rt (dotv (vec p q) (vec p q)) < 1000) || decide (rt (dotv (vec p q) (vec p q)) > 1048576)) = true := by simpa using h2
          rw [this]; rfl
        · rw [if_neg h2]
          have : (decide (rt (dotv (vec p q) (vec p q)) < 1000) || decide (rt (dotv (vec p q) (vec p q)) > 1048576)) = false := by simpa using h2
          rw [this]
          simp only [cond_false]
          by_cases h3 : i = 0
          · subst h3
            simp only [Int.natCast_zero, gt_iff_lt, Int.lt_irrefl, decide_false, cond_false, Bool.false_and, Option.bind_some, not_true_eq_false, false_and, if_false]
            rfl
          · have h4 : (i : Int) > 0 := by omega
            simp only [h4, decide_true, cond_true, curve_dot_eq hlast hv, Option.bind_some, Bool.true_and, h3, not_false_eq_true, true_and]
            by_cases h5 : dotv last (vec p q) ≤ 0 <;> simp [h5]
      · have : (rt (dotv (vec p q) (vec p q)) * rt (dotv (vec p q) (vec p q)) == dotv (vec p q) (vec p q)) = false := by simpa using h1
        simp only [this, Bool.not_false, cond_true, ne_eq, h1, not_false_eq_true, if_true]
    rw [goM_cons]
    by_cases h1 : rt (dotv (vec p q) (vec p q)) * rt (dotv (vec p q) (vec p q)) ≠ dotv (vec p q) (vec p q)
    · rw [if_pos h1] at hstep
      rw [loop_out hstep, if_pos h1]; rfl
    · rw [if_neg h1] at hstep ⊢
      by_cases h2 : rt (dotv (vec p q) (vec p q)) < 1000 ∨ rt (dotv (vec p q) (vec p q)) > 1048576
      · rw [if_pos h2] at hstep
        rw [loop_out hstep, if_pos h2]; rfl
      · rw [if_neg h2] at hstep ⊢
        by_cases h3 : i = 0
        · subst h3
          rw [if_neg (by simp)] at hstep
          rw [loop_go hstep, ih q (0 + 1) (vec p q) hi1 hv]
          simp
        · by_cases h5 : dotv last (vec p q) ≤ 0
          · rw [if_pos ⟨h3, h5⟩] at hstep
            rw [loop_out hstep]
            simp [h3, h5]
          · rw [if_neg (fun h => h5 h.2)] at hstep
            rw [loop_go hstep, ih q (i + 1) (vec p q) hi1 hv]
            simp [h3, h5]
theorem curve_Check_eq (c : Curve) (hl : c.Pts.length ≤ 1000000) : curve_Check c = some (checkM c.Pts) := by
  unfold curve_Check checkM
  by_cases h1 : c.Pts.length < 2
  · rw [if_pos h1, show decide ((c.Pts.length : Int) < 2) = true by simp; omega]; rfl
  · rw [if_neg h1, show decide ((c.Pts.length : Int) < 2) = false by simp; omega]
    simp only [cond_false]
    by_cases h2 : c.Pts.length > 16
    · rw [if_pos h2, show decide ((c.Pts.length : Int) > 16) = true by simp; omega]; rfl
    · rw [if_neg h2, show decide ((c.Pts.length : Int) > 16) = false by simp; omega]
      simp only [cond_false, curve_fair_eq c.Pts hl, Option.bind_some]
      cases h3 : c.Pts.all okS with
      | false => rfl
      | true =>
        simp only [Bool.not_true, cond_false, if_true]
        cases hp : c.Pts with
        | nil => rw [hp] at h1; simp at h1
        | cons p r =>
          have := curve_Check_go c hl h3 r p 0 ⟨0, 0⟩ (by rw [hp]; rfl) ⟨by decide, by decide, by decide, by decide⟩
          rw [if_pos rfl, show ((0 : Nat) : Int) = 0 from rfl] at this
          rw [this]
          by_cases h4 : goM none (p :: r) = 0
          · rw [if_pos h4, h4]; rfl
          · rw [if_neg h4]; rfl
end Go.Abs.Curve

namespace Go.Abs.Curve
open Go Go.Abs

theorem dotv_comm (v w : CurveVector) : dotv v w = dotv w v := by unfold dotv; rw [Int.mul_comm v.x, Int.mul_comm v.y]
theorem ref01_Check_go1 (c : Curve) (hl : c.Pts.length ≤ 1000000) : ∀ (r : List Spot) (i : Nat), c.Pts.drop i = r → loop (ref01_Check_l1 c) (i : Int) = some (if r.all okS then .inl () else .inr 2) := by
  intro r
  induction r with
  | nil =>
    intro i hi
    have := drop_nil hi
    refine loop_out ?_
    unfold ref01_Check_l1
    simp only [show ¬ (i : Int) < c.Pts.length by omega, decide_false, cond_false, List.all_nil, if_true]
  | cons p r ih =>
    intro i hi
    have hlt := drop_lt hi
    have hstep : ref01_Check_l1 c (i : Int) = if okS p then some (.go ((i + 1 : Nat) : Int)) else some (.out (.inr 2)) := by
      unfold ref01_Check_l1
      simp only [show (i : Int) < c.Pts.length by omega, decide_true, cond_true, geti_drop hi, Option.bind_some, ref01_Valid_eq]
      cases h : okS p with
      | true => simp only [Bool.not_true, cond_false, if_true]; rw [w64_id (by omega)]; rfl
      | false => simp
    cases h : okS p with
    | true =>
      rw [h, if_pos rfl] at hstep
      rw [loop_go hstep, ih (i + 1) (drop_succ hi)]
      simp [h]
    | false =>
      rw [h] at hstep
      rw [loop_out hstep]
      simp [h]
theorem sq_dot {v : CurveVector} (hv : okV v) : ∃ l, ref01_root (dotv v v) = some l ∧ (w64 (l * l) != dotv v v) = !(rt (dotv v v) * rt (dotv v v) == dotv v v) ∧ (rt (dotv v v) * rt (dotv v v) = dotv v v → l = rt (dotv v v)) := by
  have hb := dot_bd hv hv
  obtain ⟨l, h1, h2, h3, h4, h5⟩ := ref01_root_rt (dot_nonneg v) (by omega)
  have hmm : l * l ≤ 134217728 * 134217728 := sq_le (by omega) (by omega)
  have hmm0 := sq_nonneg l
  refine ⟨l, h1, ?_, fun h => h5 (h4.2 h)⟩
  rw [w64_id (by omega)]
  by_cases h : l * l = dotv v v
  · simp [h, h4.1 h]
  · have h' : ¬ rt (dotv v v) * rt (dotv v v) = dotv v v := fun q => h (h4.2 q)
    have e1 : (l * l != dotv v v) = true := bne_iff_ne.2 h
    have e2 : (rt (dotv v v) * rt (dotv v v) == dotv v v) = false := beq_eq_false_iff_ne.2 h'
    rw [e1, e2]; rfl
theorem ref01_Check_go2 (c : Curve) (hl : c.Pts.length ≤ 1000000) (hok : c.Pts.all okS = true) : ∀ (r : List Spot) (p : Spot) (i : Nat) (last : Option CurveVector), c.Pts.drop i = p :: r →
    (i = 0 ∧ last = none ∨ ∃ j a, i = j + 1 ∧ c.Pts.drop j = a :: p :: r ∧ last = some (vec a p)) →
    loop (ref01_Check_l2 c) (i : Int) = some (if goM last (p :: r) = 0 then .inl () else .inr (goM last (p :: r))) := by
  intro r
  induction r with
  | nil =>
    intro p i last hi hlast
    have hlt := drop_lt hi
    have := drop_nil (drop_succ hi)
    refine loop_out ?_
    unfold ref01_Check_l2
    rw [w64_id (n := (i : Int) + 1) (by omega)]
    simp only [show ¬ (i : Int) + 1 < (c.Pts.length : Int) by omega, decide_false, cond_false, goM, if_true]
  | cons q r ih =>
    intro p i last hi hlast
    have hlt := drop_lt hi
    have hi1 := drop_succ hi
    have hlt1 := drop_lt hi1
    have hp : okS p = true := List.all_eq_true.1 hok p (List.mem_of_mem_drop (i := i) (by rw [hi]; simp))
    have hq : okS q = true := List.all_eq_true.1 hok q (List.mem_of_mem_drop (i := i) (by rw [hi]; simp))
    have hv := okV_vec hp hq
    have hg1 : geti c.Pts ((i : Int) + 1) = some q := by have := geti_drop hi1; simpa using this
    obtain ⟨l, hl1, hl2, hl3⟩ := sq_dot hv
    have hstep : ref01_Check_l2 c (i : Int) =
        if rt (dotv (vec p q) (vec p q)) * rt (dotv (vec p q) (vec p q)) ≠ dotv (vec p q) (vec p q) then some (.out (.inr 3))
        else if rt (dotv (vec p q) (vec p q)) < 1000 ∨ rt (dotv (vec p q) (vec p q)) > 1048576 then some (.out (.inr 2))
        else match last with
          | some u => if dotv u (vec p q) ≤ 0 then some (.out (.inr 12)) else some (.go ((i + 1 : Nat) : Int))
          | none => some (.go ((i + 1 : Nat) : Int)) := by
      unfold ref01_Check_l2
      rw [w64_id (n := (i : Int) + 1) (by omega)]
      simp only [show (i : Int) + 1 < (c.Pts.length : Int) by omega, decide_true, cond_true, geti_drop hi, hg1, Option.bind_some, ref01_Minus_eq hp hq, ref01_Dot_eq hv hv, hl1, hl2]
      by_cases h1 : rt (dotv (vec p q) (vec p q)) * rt (dotv (vec p q) (vec p q)) = dotv (vec p q) (vec p q)
      · simp only [h1, beq_self_eq_true, Bool.not_true, cond_false, ne_eq, not_true_eq_false, if_false, hl3 h1]
        by_cases h2 : rt (dotv (vec p q) (vec p q)) < 1000 ∨ rt (dotv (vec p q) (vec p q)) > 1048576
        · rw [if_pos h2]
          have : (decide (rt (dotv (vec p q) (vec p q)) < 1000) || decide (rt (dotv (vec p q) (vec p q)) > 1048576)) = true := by simpa using h2
          rw [this]; rfl
        · rw [if_neg h2]
          have : (decide (rt (dotv (vec p q) (vec p q)) < 1000) || decide (rt (dotv (vec p q) (vec p q)) > 1048576)) = false := by simpa using h2
          rw [this]
          simp only [cond_false]
          rcases hlast with ⟨rfl, rfl⟩ | ⟨j, a, rfl, hj, rfl⟩
          · simp only [Int.natCast_zero, gt_iff_lt, Int.lt_irrefl, decide_false, cond_false, Bool.false_and, Option.bind_some]
            rfl
          · have h4 : (((j + 1 : Nat) : Int)) > 0 := by omega
            have ha : okS a = true := List.all_eq_true.1 hok a (List.mem_of_mem_drop (i := j) (by rw [hj]; simp))
            have hva := okV_vec ha hp
            have hgj : geti c.Pts (w64 (((j + 1 : Nat) : Int) - 1)) = some a := by
              rw [w64_id (by omega), show (((j + 1 : Nat) : Int) - 1) = (j : Int) by omega]
              exact geti_drop hj
            simp only [h4, decide_true, cond_true, hgj, Option.bind_some, ref01_Minus_eq ha hp, ref01_Dot_eq hv hva, Bool.true_and]
            rw [dotv_comm (vec p q) (vec a p)]
            by_cases h5 : dotv (vec a p) (vec p q) ≤ 0
            · simp [h5]
            · simp [h5]
      · have : (rt (dotv (vec p q) (vec p q)) * rt (dotv (vec p q) (vec p q)) == dotv (vec p q) (vec p q)) = false := by simpa using h1
        simp only [this, Bool.not_false, cond_true, ne_eq, h1, not_false_eq_true, if_true]
    rw [goM_cons]
    have hrec := ih q (i + 1) (some (vec p q)) hi1 (.inr ⟨i, p, rfl, hi, rfl⟩)
    by_cases h1 : rt (dotv (vec p q) (vec p q)) * rt (dotv (vec p q) (vec p q)) ≠ dotv (vec p q) (vec p q)
    · rw [if_pos h1] at hstep
      rw [loop_out hstep, if_pos h1]; rfl
    · rw [if_neg h1] at hstep ⊢
      by_cases h2 : rt (dotv (vec p q) (vec p q)) < 1000 ∨ rt (dotv (vec p q) (vec p q)) > 1048576
      · rw [if_pos h2] at hstep
        rw [loop_out hstep, if_pos h2]; rfl
      · rw [if_neg h2] at hstep ⊢
        cases last with
        | none => rw [loop_go hstep, hrec]
        | some u =>
          dsimp only at hstep ⊢
          by_cases h5 : dotv u (vec p q) ≤ 0
          · rw [if_pos h5] at hstep
            rw [loop_out hstep]; simp [h5]
          · rw [if_neg h5] at hstep
            rw [loop_go hstep, hrec]; simp [h5]
theorem ref01_Check_eq (c : Curve) (hl : c.Pts.length ≤ 1000000) : ref01_Check c = some (checkM c.Pts) := by
  unfold ref01_Check checkM
  by_cases h1 : c.Pts.length < 2
  · rw [if_pos h1, show decide ((c.Pts.length : Int) < 2) = true by simp; omega]; rfl
  · rw [if_neg h1, show decide ((c.Pts.length : Int) < 2) = false by simp; omega]
    simp only [cond_false]
    by_cases h2 : c.Pts.length > 16
    · rw [if_pos h2, show decide ((c.Pts.length : Int) > 16) = true by simp; omega]; rfl
    · rw [if_neg h2, show decide ((c.Pts.length : Int) > 16) = false by simp; omega]
      have hg := ref01_Check_go1 c hl c.Pts 0 (by simp)
      rw [show ((0 : Nat) : Int) = 0 from rfl] at hg
      simp only [cond_false, hg]
      cases h3 : c.Pts.all okS with
      | false => rfl
      | true =>
        simp only [if_true, thenS]
        cases hp : c.Pts with
        | nil => rw [hp] at h1; simp at h1
        | cons p r =>
          have := ref01_Check_go2 c hl h3 r p 0 none (by rw [hp]; rfl) (.inl ⟨rfl, rfl⟩)
          rw [show ((0 : Nat) : Int) = 0 from rfl] at this
          rw [this]
          by_cases h4 : goM none (p :: r) = 0
          · rw [if_pos h4, h4]
          · rw [if_neg h4]
/-- What a valid chain is. -/
inductive Good : Option CurveVector → List Spot → Prop
  | one (last : Option CurveVector) (p : Spot) : Good last [p]
  | cons (last : Option CurveVector) (p q : Spot) (r : List Spot) (h1 : rt (dotv (vec p q) (vec p q)) * rt (dotv (vec p q) (vec p q)) = dotv (vec p q) (vec p q)) (h2 : 1000 ≤ rt (dotv (vec p q) (vec p q))) (h3 : rt (dotv (vec p q) (vec p q)) ≤ 1048576)
      (h4 : ∀ u, last = some u → 0 < dotv u (vec p q)) (h : Good (some (vec p q)) (q :: r)) : Good last (p :: q :: r)
theorem good_of_goM : ∀ (r : List Spot) (p : Spot) (last : Option CurveVector), goM last (p :: r) = 0 → Good last (p :: r) := by
  intro r
  induction r with
  | nil => intro p last _; exact .one _ _
  | cons q r ih =>
    intro p last h
    rw [goM_cons] at h
    split at h
    · cases h
    · rename_i h1
      split at h
      · cases h
      · rename_i h2
        have h1 : rt (dotv (vec p q) (vec p q)) * rt (dotv (vec p q) (vec p q)) = dotv (vec p q) (vec p q) := by simpa using h1
        cases last with
        | none => exact .cons _ _ _ _ h1 (by omega) (by omega) (fun u hu => by cases hu) (ih q _ h)
        | some u =>
          dsimp only at h
          split at h
          · cases h
          · exact .cons _ _ _ _ h1 (by omega) (by omega) (fun u' hu => by cases hu; omega) (ih q _ h)
theorem goM_of_good {last : Option CurveVector} {l : List Spot} (h : Good last l) : goM last l = 0 := by
  induction h with
  | one => rfl
  | cons last p q r h1 h2 h3 h4 h ih =>
    rw [goM_cons, if_neg (by simpa using h1), if_neg (by omega)]
    cases last with
    | none => exact ih
    | some u => dsimp only; rw [if_neg (by have := h4 u rfl; omega)]; exact ih
structure Valid (l : List Spot) : Prop where
  two : 2 ≤ l.length
  most : l.length ≤ 16
  ok : l.all okS = true
  good : Good none l
theorem checkM_zero {l : List Spot} : checkM l = 0 ↔ Valid l := by
  unfold checkM
  constructor
  · intro h
    split at h
    · cases h
    · rename_i h1
      split at h
      · cases h
      · rename_i h2
        split at h
        · rename_i h3
          cases l with
          | nil => simp at h1
          | cons p r => exact ⟨by omega, by omega, h3, good_of_goM r p none h⟩
        · cases h
  · rintro ⟨h1, h2, h3, h4⟩
    rw [if_neg (by omega), if_neg (by omega), if_pos h3]
    exact goM_of_good h4
end Go.Abs.Curve

namespace Go.Abs.Curve
open Go Go.Abs

/-- The pieces of a chain: the number, the piece. -/
noncomputable def piecesM : Nat → Int → List Spot → List (Int × CurvePiece)
  | i, s, p :: q :: r => ((i : Int), ⟨p, vec p q, rt (dotv (vec p q) (vec p q)), s⟩) :: piecesM (i + 1) (w64 (s + rt (dotv (vec p q) (vec p q)))) (q :: r)
  | _, _, _ => []
theorem piecesM_cons (i : Nat) (s : Int) (p q : Spot) (r : List Spot) : piecesM i s (p :: q :: r) = ((i : Int), ⟨p, vec p q, rt (dotv (vec p q) (vec p q)), s⟩) :: piecesM (i + 1) (w64 (s + rt (dotv (vec p q) (vec p q)))) (q :: r) := by conv => lhs; unfold piecesM
theorem piecesGo_eq (pts : List Spot) (hok : pts.all okS = true) : ∀ (r : List Spot) (p : Spot) (i : Nat) (s : Int), pts.drop i = p :: r → piecesGo pts r.length i s = some (piecesM i s (p :: r)) := by
  intro r
  induction r with
  | nil => intro p i s _; rfl
  | cons q r ih =>
    intro p i s hi
    have hi1 := drop_succ hi
    have hp : okS p = true := List.all_eq_true.1 hok p (List.mem_of_mem_drop (i := i) (by rw [hi]; simp))
    have hq : okS q = true := List.all_eq_true.1 hok q (List.mem_of_mem_drop (i := i) (by rw [hi]; simp))
    have hv := okV_vec hp hq
    have h0 : pts[i]? = some p := by have := congrArg (fun z => z[0]?) hi; simpa using this
    have h1 : pts[i + 1]? = some q := by have := congrArg (fun z => z[0]?) hi1; simpa using this
    rw [List.length_cons, piecesGo, h0, h1]
    simp only [Option.bind_some, curve_from_eq hp hq, curve_dot_eq hv hv, curve_root_rt]
    rw [ih q (i + 1) _ hi1, piecesM_cons]
    rfl
theorem piecesC_eq {pts : List Spot} (h : Valid pts) : piecesC pts = some (piecesM 0 0 pts) := by
  unfold piecesC
  have := h.most
  rw [if_pos (by omega)]
  cases hp : pts with
  | nil => have := h.two; rw [hp] at this; simp at this
  | cons p r => exact piecesGo_eq (p :: r) (by rw [← hp]; exact h.ok) r p 0 0 rfl
/-- The lengths. -/
noncomputable def lens : List Spot → List Int
  | p :: q :: r => rt (dotv (vec p q) (vec p q)) :: lens (q :: r)
  | _ => []
theorem lens_cons (p q : Spot) (r : List Spot) : lens (p :: q :: r) = rt (dotv (vec p q) (vec p q)) :: lens (q :: r) := by conv => lhs; unfold lens
theorem lens_length : ∀ (r : List Spot) (p : Spot), (lens (p :: r)).length = r.length
  | [], _ => rfl
  | q :: r, p => by rw [lens_cons, List.length_cons, lens_length r q, List.length_cons]
theorem piecesM_lens : ∀ (r : List Spot) (p : Spot) (i : Nat) (s : Int), (piecesM i s (p :: r)).map (·.2.l) = lens (p :: r)
  | [], _, _, _ => rfl
  | q :: r, p, i, s => by rw [piecesM_cons, lens_cons, List.map_cons, piecesM_lens r q]
theorem pieces_loop : ∀ (L : List (Int × CurvePiece)) (out : List Int), out.length + L.length ≤ 1000000000 → loopL curve_Pieces_l1 (fun x => x) L out = some (out ++ L.map (·.2.l)) := by
  intro L
  induction L with
  | nil => intro out _; simp [loopL]
  | cons a L ih =>
    intro out h
    simp only [List.length_cons] at h
    have : curve_Pieces_l1 out a = some (.go (out ++ [a.2.l])) := by
      unfold curve_Pieces_l1
      rw [appc_ok (by simp; omega)]; rfl
    rw [loopL, this]
    dsimp only
    rw [ih _ (by simp; omega)]
    simp
theorem curve_Pieces_eq (c : Curve) (hl : c.Pts.length ≤ 1000000) : curve_Pieces c = some (if checkM c.Pts = 0 then lens c.Pts else []) := by
  unfold curve_Pieces
  rw [curve_Check_eq c hl, Option.bind_some]
  by_cases h : checkM c.Pts = 0
  · rw [if_pos h, h]
    have hv := checkM_zero.1 h
    have := hv.most
    simp only [bne_self_eq_false, cond_false, piecesC_eq hv, Option.bind_some]
    cases hp : c.Pts with
    | nil => have := hv.two; rw [hp] at this; simp at this
    | cons p r =>
      have e := piecesM_lens r p 0 0
      rw [pieces_loop _ _ (by
        have := congrArg List.length e
        rw [List.length_map, lens_length] at this
        rw [this]; rw [hp] at hl; simp at hl ⊢; omega)]
      rw [e]; rfl
  · rw [if_neg h, show (checkM c.Pts != 0) = true from bne_iff_ne.2 h]; rfl

/-- A sum, as the programs take it. -/
def sumW : Int → List Int → Int
  | s, [] => s
  | s, a :: l => sumW (w64 (s + a)) l
theorem curve_Length_loop (l : List Int) (hl : l.length ≤ 1000000) : ∀ (r : List Int) (i : Nat) (s : Int), l.drop i = r → loop (curve_Length_l1 l) (s, (i : Int)) = some (sumW s r) := by
  intro r
  induction r with
  | nil =>
    intro i s hi
    have := drop_nil hi
    refine loop_out ?_
    unfold curve_Length_l1
    simp only [show ¬ (i : Int) < l.length by omega, decide_false, cond_false, sumW]
  | cons a r ih =>
    intro i s hi
    have hlt := drop_lt hi
    have hstep : curve_Length_l1 l (s, (i : Int)) = some (.go (w64 (s + a), ((i + 1 : Nat) : Int))) := by
      unfold curve_Length_l1
      simp only [show (i : Int) < l.length by omega, decide_true, cond_true, geti_drop hi, Option.bind_some]
      rw [w64_id (n := (i : Int) + 1) (by omega)]; rfl
    rw [loop_go hstep, ih (i + 1) _ (drop_succ hi), sumW]
noncomputable def piecesL (c : Curve) : List Int := if checkM c.Pts = 0 then lens c.Pts else []
theorem lens_le : ∀ l : List Spot, (lens l).length ≤ l.length
  | [] => by simp [lens]
  | p :: r => by rw [lens_length]; simp
theorem piecesL_le (c : Curve) : (piecesL c).length ≤ c.Pts.length := by
  unfold piecesL
  split
  · exact lens_le _
  · simp
theorem curve_Length_eq (c : Curve) (hl : c.Pts.length ≤ 1000000) : curve_Length c = some (sumW 0 (piecesL c)) := by
  unfold curve_Length
  rw [curve_Pieces_eq c hl, Option.bind_some]
  have := piecesL_le c
  have h := curve_Length_loop (piecesL c) (by omega) (piecesL c) 0 0 (by simp)
  rw [show ((0 : Nat) : Int) = 0 from rfl] at h
  show (loop (curve_Length_l1 (piecesL c)) (0, 0)).bind _ = _
  rw [h]; rfl
end Go.Abs.Curve

namespace Go.Abs.Curve
open Go Go.Abs

theorem law01_own_eq (c : Curve) (hl : c.Pts.length ≤ 1000000) : law01_own c = some c := by
  unfold law01_own kit_OwnSpots
  rw [appc_ok (by simp; omega)]
  simp

/-! ### The chapter's examples -/
theorem of6 (a b c d e f : Int) : law01_of [a, b, c, d, e, f] = some ⟨[⟨a, b⟩, ⟨c, d⟩, ⟨e, f⟩]⟩ := by
  unfold law01_of
  rw [loop_go (s' := (2, ⟨[⟨a, b⟩]⟩)) rfl, loop_go (s' := (4, ⟨[⟨a, b⟩, ⟨c, d⟩]⟩)) rfl, loop_go (s' := (6, ⟨[⟨a, b⟩, ⟨c, d⟩, ⟨e, f⟩]⟩)) rfl, loop_out (t := ⟨[⟨a, b⟩, ⟨c, d⟩, ⟨e, f⟩]⟩) rfl]
  rfl
theorem of4 (a b c d : Int) : law01_of [a, b, c, d] = some ⟨[⟨a, b⟩, ⟨c, d⟩]⟩ := by
  unfold law01_of
  rw [loop_go (s' := (2, ⟨[⟨a, b⟩]⟩)) rfl, loop_go (s' := (4, ⟨[⟨a, b⟩, ⟨c, d⟩]⟩)) rfl, loop_out (t := ⟨[⟨a, b⟩, ⟨c, d⟩]⟩) rfl]
  rfl
def bentC : Curve := ⟨[⟨0, 0⟩, ⟨3000, 4000⟩, ⟨8000, 4000⟩]⟩
theorem bent_eq : law01_bent = some bentC := by unfold law01_bent; rw [of6]; rfl
theorem rt_5000 : rt 25000000 = 5000 := rt_sq (l := 5000) (by decide) (by decide)
theorem bent_d1 : dotv (vec ⟨0, 0⟩ ⟨3000, 4000⟩) (vec ⟨0, 0⟩ ⟨3000, 4000⟩) = 25000000 := by decide
theorem bent_d2 : dotv (vec ⟨3000, 4000⟩ ⟨8000, 4000⟩) (vec ⟨3000, 4000⟩ ⟨8000, 4000⟩) = 25000000 := by decide
theorem bent_valid : Valid bentC.Pts := by
  refine ⟨by decide, by decide, by decide, ?_⟩
  refine .cons _ _ _ _ ?_ ?_ ?_ (fun u hu => by cases hu) (.cons _ _ _ _ ?_ ?_ ?_ (fun u hu => by cases hu; decide) (.one _ _))
  all_goals first | rw [bent_d1, rt_5000] | rw [bent_d2, rt_5000]
  all_goals decide
theorem bent_lens : lens bentC.Pts = [5000, 5000] := by
  show lens [_, _, _] = _
  rw [lens_cons, lens_cons, bent_d1, bent_d2, rt_5000]
  rfl
theorem bent_pieces : piecesM 0 0 bentC.Pts = [(0, ⟨⟨0, 0⟩, ⟨3000, 4000⟩, 5000, 0⟩), (1, ⟨⟨3000, 4000⟩, ⟨5000, 0⟩, 5000, 5000⟩)] := by
  show piecesM 0 0 [_, _, _] = _
  rw [piecesM_cons, piecesM_cons, bent_d1, bent_d2, rt_5000]
  rfl
theorem bent_Length : curve_Length bentC = some 10000 := by
  rw [curve_Length_eq _ (by decide), piecesL, if_pos (checkM_zero.2 bent_valid), bent_lens]
  rfl
theorem bent_At : curve_At bentC 2500 = some ⟨1500, 2000⟩ := by
  unfold curve_At
  rw [curve_Check_eq _ (by decide), checkM_zero.2 bent_valid]
  simp only [Option.bind_some, bne_self_eq_false, cond_false]
  unfold curve_find
  rw [piecesC_eq bent_valid, bent_pieces]
  rfl
theorem of_bad : curve_Check ⟨[⟨0, 0⟩, ⟨1000, 1000⟩]⟩ = some 3 := by
  rw [curve_Check_eq _ (by decide)]
  have hd : dotv (vec ⟨0, 0⟩ ⟨1000, 1000⟩) (vec ⟨0, 0⟩ ⟨1000, 1000⟩) = 2000000 := by decide
  have hr : rt 2000000 * rt 2000000 ≠ 2000000 := by
    intro h
    have h0 := rt_nonneg 2000000
    rcases Int.lt_or_le (rt 2000000) 1415 with q | q
    · have := Int.mul_le_mul (show rt 2000000 ≤ 1414 by omega) (show rt 2000000 ≤ 1414 by omega) h0 (by decide); omega
    · have := Int.mul_le_mul q q (by decide) h0; omega
  unfold checkM
  rw [if_neg (by decide), if_neg (by decide), if_pos (by decide), goM_cons, hd, if_pos hr]
theorem awake_eq : law01_awake = some true := by
  unfold law01_awake
  simp only [bent_eq, Option.bind_some, bent_Length, beq_self_eq_true, cond_true, bent_At, Bool.and_self, of4, of_bad]
theorem law01_long_eq (c : Curve) : law01_long c = some (decide (c.Pts.length > 20)) := by
  unfold law01_long
  congr 1
  by_cases h : c.Pts.length > 20 <;> simp [h] <;> omega
end Go.Abs.Curve

namespace Go.Abs.Curve
open Go Go.Abs

end Go.Abs.Curve

namespace Go.Abs.Curve
open Go Go.Abs

end Go.Abs.Curve

namespace Go.Abs.Curve
open Go Go.Abs

theorem kit_Mod_eq {n m : Int} (hm : 0 < m) (_ : -9223372036854775808 ≤ n ∧ n ≤ 9223372036854775807) (hm2 : m ≤ 9223372036854775807) : ∃ r, kit_Mod n m = some r ∧ 0 ≤ r ∧ r < m ∧ kit_Mod64 n m = some r ∧ r = n % m := by
  unfold kit_Mod kit_Mod64 remc
  rw [if_neg (by omega)]
  simp only [Option.bind_some]
  have h1 : n.tmod m = if 0 ≤ n ∨ m ∣ n then n % m else n % m - m := by
    rw [Int.tmod_eq_emod]
    split <;> first | omega | (rw [Int.natAbs_of_nonneg (by omega)])
  have h2 := Int.emod_nonneg n (show m ≠ 0 by omega)
  have h3 := Int.emod_lt_of_pos n hm
  by_cases hc : 0 ≤ n ∨ m ∣ n
  · rw [if_pos hc] at h1
    rw [h1, show decide (n % m < 0) = false from decide_eq_false (by omega)]
    exact ⟨_, rfl, h2, h3, rfl, rfl⟩
  · rw [if_neg hc] at h1
    rw [h1]
    have hne : n % m ≠ 0 := fun h => hc (.inr (Int.dvd_of_emod_eq_zero h))
    rw [show decide (n % m - m < 0) = true from decide_eq_true (by omega), w64_id (by omega)]
    refine ⟨_, rfl, ?_, ?_, rfl, ?_⟩ <;> omega
/-- A quarter turn, so many times. -/
def rotM : Nat → CurveVector → CurveVector
  | 0, v => v
  | n + 1, v => rotM n ⟨-v.y, v.x⟩
theorem rot_dot : ∀ (n : Nat) (v w : CurveVector), dotv (rotM n v) (rotM n w) = dotv v w
  | 0, _, _ => rfl
  | n + 1, v, w => by rw [rotM, rotM, rot_dot n]; unfold dotv; grind
theorem rot_bd {B : Int} : ∀ (n : Nat) (v : CurveVector), (-B ≤ v.x ∧ v.x ≤ B ∧ -B ≤ v.y ∧ v.y ≤ B) → -B ≤ (rotM n v).x ∧ (rotM n v).x ≤ B ∧ -B ≤ (rotM n v).y ∧ (rotM n v).y ≤ B
  | 0, _, h => h
  | n + 1, v, h => by rw [rotM]; exact rot_bd n _ (by dsimp only; omega)
theorem rot_loop : ∀ (n : Nat) (v : CurveVector), n ≤ 1000 → (-1000000 ≤ v.x ∧ v.x ≤ 1000000 ∧ -1000000 ≤ v.y ∧ v.y ≤ 1000000) → loop kit_Curve_l2 ((n : Int), vs v) = some (vs (rotM n v))
  | 0, v, _, _ => by
    refine loop_out ?_
    unfold kit_Curve_l2
    rfl
  | n + 1, v, hn, hv => by
    have : kit_Curve_l2 (((n + 1 : Nat) : Int), vs v) = some (.go ((n : Int), vs ⟨-v.y, v.x⟩)) := by
      unfold kit_Curve_l2 vs
      dsimp only
      rw [show decide (((n + 1 : Nat) : Int) > 0) = true from decide_eq_true (by omega), w64_id (n := ((n + 1 : Nat) : Int) - 1) (by omega), w64_id (n := 0 - v.y) (by omega)]
      simp only [cond_true]
      congr 4
      · omega
      · omega
    rw [loop_go this, rot_loop n _ (by omega) (by dsimp only; omega), rotM]
def tripleOK (a b c : Int) : Prop := 0 < a ∧ 0 ≤ b ∧ a * a + b * b = c * c ∧ 1 ≤ c ∧ c ≤ 29 ∧ a ≤ c ∧ b ≤ c
theorem triple_get (m : Int) (h0 : 0 ≤ m) (h1 : m < 11) : ∃ a b c, geti [(1, 0, 1), (3, 4, 5), (4, 3, 5), (5, 12, 13), (12, 5, 13), (8, 15, 17), (15, 8, 17), (7, 24, 25), (24, 7, 25), (20, 21, 29), (21, 20, 29), (0, 1, 1)] m = some (a, b, c) ∧ tripleOK a b c := by
  have : m = 0 ∨ m = 1 ∨ m = 2 ∨ m = 3 ∨ m = 4 ∨ m = 5 ∨ m = 6 ∨ m = 7 ∨ m = 8 ∨ m = 9 ∨ m = 10 := by omega
  rcases this with rfl | rfl | rfl | rfl | rfl | rfl | rfl | rfl | rfl | rfl | rfl <;> exact ⟨_, _, _, rfl, by unfold tripleOK; decide⟩
/-- A piece's vector, made of numbers: in one quadrant. -/
def Quad (n : Nat) (v : CurveVector) : Prop := ∃ x y L : Int, v = rotM n ⟨x, y⟩ ∧ 0 < x ∧ 0 ≤ y ∧ x * x + y * y = L * L ∧ 1000 ≤ L ∧ L ≤ 3029 ∧ x ≤ L ∧ y ≤ L
inductive Ch (Q : CurveVector → Prop) : List Spot → Prop
  | one (p : Spot) : Ch Q [p]
  | cons (p q : Spot) (r : List Spot) (h : Q (vec p q)) (hr : Ch Q (q :: r)) : Ch Q (p :: q :: r)
theorem Ch.snoc {Q : CurveVector → Prop} {a b : Spot} (h : Q (vec a b)) : ∀ (l : List Spot), Ch Q (l ++ [a]) → Ch Q (l ++ [a, b])
  | [], _ => .cons _ _ _ h (.one _)
  | [p], hc => by cases hc with | cons _ _ _ h1 h2 => exact .cons _ _ _ h1 (.cons _ _ _ h (.one _))
  | p :: q :: r, hc => by
    cases hc with
    | cons _ _ _ h1 h2 => exact .cons _ _ _ h1 (Ch.snoc h (q :: r) h2)
theorem good_of_ch {n : Nat} : ∀ (r : List Spot) (p : Spot) (last : Option CurveVector), Ch (Quad n) (p :: r) → (∀ u, last = some u → Quad n u) → Good last (p :: r)
  | [], p, last, _, _ => .one _ _
  | q :: r, p, last, hc, hl => by
    cases hc with
    | cons _ _ _ h1 h2 =>
      have hq := h1
      obtain ⟨x, y, L, hv, hx, hy, hsq, hL1, hL2, hxL, hyL⟩ := h1
      have hd : dotv (vec p q) (vec p q) = L * L := by rw [hv, rot_dot]; unfold dotv; exact hsq
      have hrt : rt (dotv (vec p q) (vec p q)) = L := by rw [hd]; exact rt_sq (by omega) (by omega)
      refine .cons _ _ _ _ (by rw [hrt, hd]) (by rw [hrt]; exact hL1) (by rw [hrt]; omega) (fun u hu => ?_) (good_of_ch r q _ h2 (fun u hu => by cases hu; exact hq))
      obtain ⟨x', y', L', hv', hx', hy', _⟩ := hl u hu
      rw [hv, hv', rot_dot]
      unfold dotv
      have := Int.mul_pos hx' hx
      have := Int.mul_nonneg hy' hy
      dsimp only
      omega
/-- What the curves made of numbers are like. -/
structure Made (l : List Spot) : Prop where
  two : 2 ≤ l.length
  six : l.length ≤ 6
  ch : ∃ n, Ch (Quad n) l
  bd : ∀ p ∈ l, -50000 ≤ p.X ∧ p.X ≤ 50000 ∧ -50000 ≤ p.Y ∧ p.Y ≤ 50000
theorem Made.valid {l : List Spot} (h : Made l) : Valid l := by
  obtain ⟨n, hc⟩ := h.ch
  have := h.two; have := h.six
  refine ⟨h.two, by omega, List.all_eq_true.2 fun p hp => okS_iff.2 (by have := h.bd p hp; omega), ?_⟩
  match l, h, hc with
  | p :: r, _, hc => exact good_of_ch r p none hc (fun u hu => by cases hu)
  | [], h, _ => exact absurd h.two (by simp)
theorem tmod_bd (n : Int) : -20000 ≤ n.tmod 20001 ∧ n.tmod 20001 ≤ 20000 := by
  have h1 := Int.tmod_lt_of_pos n (show (0 : Int) < 20001 by decide)
  have h2 := Int.tmod_lt_of_pos (-n) (show (0 : Int) < 20001 by decide)
  rw [Int.neg_tmod] at h2
  omega
theorem made_step (m : KitChain) (hw : ∀ a ∈ m.Steps, wI64 a) (f : Int) (nq : Nat) (hf : f.tmod 4 = nq) (hnq : nq ≤ 1000) (i : Nat) (pre : List Spot) (p : Spot) (hi : (i : Int) < max 1 (min (m.Steps.length : Int) 5)) (hpl : pre.length = i) (hp : ∀ a ∈ pre ++ [p], -(20000 + 3029 * i) ≤ a.X ∧ a.X ≤ 20000 + 3029 * i ∧ -(20000 + 3029 * i) ≤ a.Y ∧ a.Y ≤ 20000 + 3029 * i) :
    ∃ v : CurveVector, Quad nq v ∧ (-3029 ≤ v.x ∧ v.x ≤ 3029 ∧ -3029 ≤ v.y ∧ v.y ≤ 3029) ∧ kit_Curve_l1 m [(1, 0, 1), (3, 4, 5), (4, 3, 5), (5, 12, 13), (12, 5, 13), (8, 15, 17), (15, 8, 17), (7, 24, 25), (24, 7, 25), (20, 21, 29), (21, 20, 29), (0, 1, 1)] f ((i : Int), p, ⟨pre ++ [p]⟩) =
      some (.go (((i + 1 : Nat) : Int), ⟨p.X + v.x, p.Y + v.y⟩, ⟨pre ++ [p, ⟨p.X + v.x, p.Y + v.y⟩]⟩)) := by
  -- the number
  obtain ⟨n, hn, n0, n1⟩ : ∃ n, (cond (decide ((i : Int) < (m.Steps.length : Int))) ((geti m.Steps (i : Int)).bind fun v4 => (kit_Mod v4 1048576).bind fun v5 => some v5) (some 0)) = some n ∧ 0 ≤ n ∧ n < 1048576 := by
    by_cases hc : i < m.Steps.length
    · rw [show decide ((i : Int) < (m.Steps.length : Int)) = true from decide_eq_true (by omega)]
      obtain ⟨r, hr, r0, r1, _⟩ := kit_Mod_eq (n := m.Steps[i]) (m := 1048576) (by decide) (hw _ (List.getElem_mem hc)) (by decide)
      simp only [cond_true, geti_nat hc, Option.bind_some, hr]
      exact ⟨r, rfl, r0, r1⟩
    · rw [show decide ((i : Int) < (m.Steps.length : Int)) = false from decide_eq_false (by omega)]
      exact ⟨0, rfl, by decide, by decide⟩
  have hm11 : n.tmod 11 = n % 11 := Int.tmod_eq_emod_of_nonneg n0
  obtain ⟨a, b, c, hg, ha, hb, habc, hc1, hc2, hac, hbc⟩ := triple_get (n % 11) (Int.emod_nonneg _ (by decide)) (Int.emod_lt_of_pos _ (by decide))
  have hq1 : quoc .i64 1000 c = some (1000 / c) := by
    unfold quoc
    rw [if_neg (by omega), Int.tdiv_eq_ediv_of_nonneg (by decide)]
    have h1 := Int.ediv_nonneg (show (0 : Int) ≤ 1000 by decide) (show 0 ≤ c by omega)
    have h2 := Int.ediv_le_self c (show (0 : Int) ≤ 1000 by decide)
    exact congrArg some (w64_id (by omega))
  have hd11 : w64 (n.tdiv 11) = n / 11 := by rw [Int.tdiv_eq_ediv_of_nonneg n0]; exact w64_id (by omega)
  have hm20 : (n / 11).tmod 2000 = n / 11 % 2000 := Int.tmod_eq_emod_of_nonneg (by omega)
  generalize hj : n / 11 % 2000 = j at *
  have hj0 : 0 ≤ j := by rw [← hj]; exact Int.emod_nonneg _ (by decide)
  have hj1 : j < 2000 := by rw [← hj]; exact Int.emod_lt_of_pos _ (by decide)
  have hq2 : quoc .i64 j c = some (j / c) := by
    unfold quoc
    rw [if_neg (by omega), Int.tdiv_eq_ediv_of_nonneg hj0]
    have h1 := Int.ediv_nonneg hj0 (show 0 ≤ c by omega)
    have h2 := Int.ediv_le_self c hj0
    exact congrArg some (w64_id (by omega))
  have e1 := Int.ediv_nonneg (show (0 : Int) ≤ 1000 by decide) (show 0 ≤ c by omega)
  have e2 := Int.ediv_nonneg hj0 (show 0 ≤ c by omega)
  have e3 := Int.ediv_mul_le 1000 (show c ≠ 0 by omega)
  have e4 := Int.ediv_mul_le j (show c ≠ 0 by omega)
  have e5 := Int.lt_ediv_add_one_mul_self 1000 (show 0 < c by omega)
  have e6 := Int.ediv_le_self c (show (0 : Int) ≤ 1000 by decide)
  have e7 := Int.ediv_le_self c hj0
  generalize hk1 : (1000 : Int) / c = k1 at *
  generalize hk2 : j / c = k2 at *
  have hk : w64 (w64 (k1 + 1) + k2) = k1 + 1 + k2 := by rw [w64_id (n := k1 + 1) (by omega)]; exact w64_id (by omega)
  generalize hkk : k1 + 1 + k2 = k at *
  have hk0 : 1 ≤ k := by omega
  have hL : k * c = k1 * c + c + k2 * c := by rw [← hkk, Int.add_mul, Int.add_mul, Int.one_mul]
  have hL' : (k1 + 1) * c = k1 * c + c := by rw [Int.add_mul, Int.one_mul]
  have hk2c : 0 ≤ k2 * c := Int.mul_nonneg e2 (by omega)
  have hL1 : 1000 ≤ k * c := by omega
  have hL2 : k * c ≤ 3029 := by omega
  have hak : a * k ≤ k * c := by rw [Int.mul_comm k c]; exact Int.mul_le_mul_of_nonneg_right hac (by omega)
  have hbk : b * k ≤ k * c := by rw [Int.mul_comm k c]; exact Int.mul_le_mul_of_nonneg_right hbc (by omega)
  have hak0 : 0 < a * k := Int.mul_pos ha (by omega)
  have hbk0 : 0 ≤ b * k := Int.mul_nonneg hb (by omega)
  have hQ : Quad nq (rotM nq ⟨a * k, b * k⟩) := ⟨a * k, b * k, k * c, rfl, hak0, hbk0, by grind, hL1, hL2, hak, hbk⟩
  have hbd := rot_bd (B := 3029) nq ⟨a * k, b * k⟩ (by dsimp only; omega)
  refine ⟨rotM nq ⟨a * k, b * k⟩, hQ, hbd, ?_⟩
  have hpp := hp p (by simp)
  unfold kit_Curve_l1
  dsimp only
  have hcond : decide ((i : Int) < (mm2 true 1 (mm2 false (m.Steps.length : Int) 5))) = true := by rw [mm2_max, mm2_min]; simpa using hi
  rw [hcond, hn]
  simp only [cond_true, Option.bind_some, hm11, hg, hq1, hd11, hm20, hq2, hk, hf]
  rw [w64_id (n := a * k) (by omega), w64_id (n := b * k) (by omega)]
  have hrot := rot_loop nq ⟨a * k, b * k⟩ hnq (by dsimp only; omega)
  unfold vs at hrot
  dsimp only at hrot
  rw [hrot, Option.bind_some]
  dsimp only
  have hi5 : i ≤ 5 := by omega
  rw [w64_id (n := p.X + _) (by omega), w64_id (n := p.Y + _) (by omega), appc_ok (by simp; omega), Option.bind_some, w64_id (by omega)]
  simp only [List.append_assoc, List.cons_append, List.nil_append]
  rfl
theorem kit_Curve_full (m : KitChain) (hw : ∀ a ∈ m.Steps, wI64 a) : ∃ c, kit_Curve m = some c ∧ Made c.Pts ∧ (c.Pts.length : Int) = max 1 (min (m.Steps.length : Int) 5) + 1 := by
  obtain ⟨f, hf, f0, f1⟩ : ∃ f, (cond (decide ((m.Steps.length : Int) > 0)) ((geti m.Steps 0).bind fun v2 => (kit_Mod v2 48).bind fun v3 => some v3) (some 0)) = some f ∧ 0 ≤ f ∧ f < 48 := by
    by_cases hc : 0 < m.Steps.length
    · rw [show decide ((m.Steps.length : Int) > 0) = true from decide_eq_true (by omega)]
      obtain ⟨r, hr, r0, r1, _⟩ := kit_Mod_eq (n := m.Steps[0]) (m := 48) (by decide) (hw _ (List.getElem_mem hc)) (by decide)
      have hg : geti m.Steps 0 = some m.Steps[0] := geti_nat hc
      simp only [cond_true, hg, Option.bind_some, hr]
      exact ⟨r, rfl, r0, r1⟩
    · rw [show decide ((m.Steps.length : Int) > 0) = false from decide_eq_false (by omega)]
      exact ⟨0, rfl, by decide, by decide⟩
  obtain ⟨nq, hnq, hnq3⟩ : ∃ nq : Nat, f.tmod 4 = nq ∧ nq ≤ 1000 := ⟨(f % 4).toNat, by rw [Int.tmod_eq_emod_of_nonneg f0]; omega, by omega⟩
  have key := loop_inv (f := kit_Curve_l1 m [(1, 0, 1), (3, 4, 5), (4, 3, 5), (5, 12, 13), (12, 5, 13), (8, 15, 17), (15, 8, 17), (7, 24, 25), (24, 7, 25), (20, 21, 29), (21, 20, 29), (0, 1, 1)] f)
    (fun x => ∃ (i : Nat) (pre : List Spot), x.1 = i ∧ (i : Int) ≤ max 1 (min (m.Steps.length : Int) 5) ∧ pre.length = i ∧ x.2.2.Pts = pre ++ [x.2.1] ∧ Ch (Quad nq) (pre ++ [x.2.1]) ∧ ∀ a ∈ pre ++ [x.2.1], -(20000 + 3029 * i) ≤ a.X ∧ a.X ≤ 20000 + 3029 * i ∧ -(20000 + 3029 * i) ≤ a.Y ∧ a.Y ≤ 20000 + 3029 * i)
    (fun x => (5 - x.1).toNat) (fun c => Made c.Pts ∧ (c.Pts.length : Int) = max 1 (min (m.Steps.length : Int) 5) + 1) (by
      rintro ⟨x1, p, c⟩ ⟨i, pre, rfl, hi, hpl, hpts, hch, hbd⟩
      dsimp only at hpts hch hbd
      obtain rfl : c = ⟨pre ++ [p]⟩ := by cases c; simp at hpts; rw [hpts]
      by_cases hlt : (i : Int) < max 1 (min (m.Steps.length : Int) 5)
      · obtain ⟨v, hQ, hv, hstep⟩ := made_step m hw f nq hnq hnq3 i pre p hlt hpl hbd
        refine ⟨_, hstep, ⟨i + 1, pre ++ [p], rfl, by omega, by simp [hpl], by simp, ?_, ?_⟩, by dsimp only; omega⟩
        · dsimp only
          rw [List.append_assoc]
          refine Ch.snoc ?_ pre hch
          have : vec p ⟨p.X + v.x, p.Y + v.y⟩ = v := by unfold vec; cases v; dsimp only; congr 1 <;> omega
          rw [this]; exact hQ
        · intro a ha
          dsimp only at ha
          rw [List.mem_append] at ha
          rcases ha with ha | ha
          · have := hbd a ha; omega
          · simp only [List.mem_singleton] at ha
            subst ha
            have := hbd p (by simp)
            dsimp only
            omega
      · have hend : kit_Curve_l1 m [(1, 0, 1), (3, 4, 5), (4, 3, 5), (5, 12, 13), (12, 5, 13), (8, 15, 17), (15, 8, 17), (7, 24, 25), (24, 7, 25), (20, 21, 29), (21, 20, 29), (0, 1, 1)] f ((i : Int), p, ⟨pre ++ [p]⟩) = some (.out ⟨pre ++ [p]⟩) := by
          unfold kit_Curve_l1
          dsimp only
          have hcond : decide ((i : Int) < (mm2 true 1 (mm2 false (m.Steps.length : Int) 5))) = false := by rw [mm2_max, mm2_min]; simpa using hlt
          rw [hcond]; rfl
        refine ⟨_, hend, ?_⟩
        refine ⟨⟨by simp; omega, by simp; omega, ⟨nq, hch⟩, fun a ha => ?_⟩, by simp only [List.length_append, List.length_cons, List.length_nil]; omega⟩
        have := hbd a ha
        omega) (0, ⟨m.X.tmod 20001, m.Y.tmod 20001⟩, ⟨[⟨m.X.tmod 20001, m.Y.tmod 20001⟩]⟩) ⟨0, [], rfl, by omega, rfl, rfl, .one _, fun a ha => by
        simp only [List.nil_append, List.mem_singleton] at ha
        have h1 := tmod_bd m.X
        have h2 := tmod_bd m.Y
        rw [ha]
        refine ⟨?_, ?_, ?_, ?_⟩ <;> dsimp only <;> omega⟩
  obtain ⟨c, hc, hm⟩ := key
  refine ⟨c, ?_, hm⟩
  unfold kit_Curve kit_triples
  rw [Option.bind_some, hf, Option.bind_some, hc]
  rfl
theorem kit_Curve_eq (m : KitChain) (hw : ∀ a ∈ m.Steps, wI64 a) : ∃ c, kit_Curve m = some c ∧ Made c.Pts := by
  obtain ⟨c, h1, h2, _⟩ := kit_Curve_full m hw
  exact ⟨c, h1, h2⟩
end Go.Abs.Curve

namespace Go.Abs.Curve
open Go Go.Abs
end Go.Abs.Curve

namespace Go.Abs.Curve
open Go Go.Abs
end Go.Abs.Curve

namespace Go.Abs.Curve
open Go Go.Abs
end Go.Abs.Curve

namespace Go.Abs.Curve
open Go Go.Abs
end Go.Abs.Curve

namespace Go.Abs.Curve
open Go Go.Abs
end Go.Abs.Curve

namespace Go.Abs.Curve
open Go Go.Abs
end Go.Abs.Curve

namespace Go.Abs.Curve
open Go Go.Abs
end Go.Abs.Curve

namespace Go.Abs.Curve
open Go Go.Abs
end Go.Abs.Curve

namespace Go.Abs.Curve
open Go Go.Abs
end Go.Abs.Curve

namespace Go.Abs.Curve
open Go Go.Abs
end Go.Abs.Curve

namespace Go.Abs.Curve
open Go Go.Abs
end Go.Abs.Curve

namespace Go.Abs.Curve
open Go Go.Abs
end Go.Abs.Curve

namespace Go.Abs.Curve
open Go Go.Abs
end Go.Abs.Curve

namespace Go.Abs.Curve
open Go Go.Abs
end Go.Abs.Curve

namespace Go.Abs.Curve
open Go Go.Abs
end Go.Abs.Curve

namespace Go.Abs.Curve
open Go Go.Abs
end Go.Abs.Curve

namespace Go.Abs.Curve
open Go Go.Abs

theorem slices_Clone_eq {l : List Spot} (h : l.length ≤ 1000000000) : slices_Clone_Spot_Spot l = some l := by
  unfold slices_Clone_Spot_Spot
  rw [appc_ok (by simpa using h)]; rfl
theorem Cloneo_eq {l : List Spot} (h : l.length ≤ 1000000000) (hne : l ≠ []) : slices_Clone_Spot_Spoto l = some l := by
  unfold slices_Clone_Spot_Spoto
  cases l with
  | nil => exact absurd rfl hne
  | cons x xs => dsimp only; rw [appc_ok (by simpa using h)]; rfl
theorem subl_one {l : List Spot} (h : 1 ≤ l.length) : subl l 1 (l.length : Int) = some (l.drop 1) := by
  unfold subl
  rw [if_pos ⟨by decide, by omega, Int.le_refl _⟩]
  simp
end Go.Abs.Curve

namespace Go.Abs.Curve
open Go Go.Abs

theorem getS {α : Type} {l : List α} {i : Nat} {a : α} (h : l[i]? = some a) : geti l (i : Int) = some a := by
  unfold geti
  rw [if_pos (by omega), Int.toNat_natCast, h]
theorem getLt {α : Type} {l : List α} {i : Nat} {a : α} (h : l[i]? = some a) : i < l.length := (List.getElem?_eq_some_iff.1 h).1
def anyJ {α : Type} (P : Nat → α → Bool) : Nat → List α → Bool
  | _, [] => false
  | i, a :: r => P i a || anyJ P (i + 1) r
theorem scanJ {α τ : Type} {f : Int → Option (Stp Int (Sum Unit τ))} (l : List α) (P : Nat → α → Bool) (e : τ) (hl : l.length ≤ 1000000000) (hf : ∀ (i : Nat) a, l[i]? = some a → f (i : Int) = some (if P i a then .out (.inr e) else .go (w64 ((i : Int) + 1)))) (he : f (l.length : Int) = some (.out (.inl ()))) :
    loop f 0 = some (if anyJ P 0 l then .inr e else .inl ()) := by
  have key : ∀ (r : List α) (i : Nat), l.drop i = r → i ≤ l.length → loop f (i : Int) = some (if anyJ P i r then .inr e else .inl ()) := by
    intro r
    induction r with
    | nil =>
      intro i hi hil
      have := drop_nil hi
      obtain rfl : i = l.length := by omega
      rw [loop_out he]; rfl
    | cons a r ih =>
      intro i hi _
      have hlt := drop_lt hi
      have h0 : l[i]? = some a := by have := congrArg (fun z => z[0]?) hi; simpa using this
      have hs := hf i a h0
      rw [anyJ]
      cases hp : P i a
      · rw [hp] at hs
        simp only [Bool.false_eq_true, if_false] at hs
        rw [w64_id (by omega)] at hs
        rw [loop_go hs, show ((i : Int) + 1) = ((i + 1 : Nat) : Int) by omega, ih (i + 1) (drop_succ hi) (by omega), Bool.false_or]
      · rw [hp] at hs
        rw [loop_out hs]; rfl
  exact key l 0 rfl (by omega)

/-! ### Equal curves -/
def eqS (a b : Spot) : Bool := a.X == b.X && (a.Y == b.Y && true)
def difS (ys : List Spot) (i : Nat) (a : Spot) : Bool := match ys[i]? with | some y => !eqS a y | none => true
def eqP (xs ys : List Spot) : Bool := (xs.length == ys.length) && !anyJ (difS ys) 0 xs
theorem equal_loop (xs ys : List Spot) (hx : xs.length ≤ 1000000) (hl : xs.length = ys.length) : loop (slices_Equal_Spot_Spot_l1 xs ys) 0 = some (if anyJ (difS ys) 0 xs then .inr false else .inl ()) :=
  scanJ (f := slices_Equal_Spot_Spot_l1 xs ys) xs (difS ys) false (by omega) (fun i a h => by
    have hlt := getLt h
    obtain ⟨y, hy⟩ : ∃ y, ys[i]? = some y := ⟨ys[i], List.getElem?_eq_getElem (by omega)⟩
    unfold slices_Equal_Spot_Spot_l1 difS
    rw [show decide ((i : Int) < (xs.length : Int)) = true from decide_eq_true (by omega), getS h, getS hy, hy]
    simp only [cond_true, Option.bind_some]
    have key : ∀ b : Bool, cond (!b) (some (Stp.out (σ := Int) (Sum.inr (α := Unit) false))) (some (.go (w64 ((i : Int) + 1)))) = some (if (!b) = true then .out (.inr false) else .go (w64 ((i : Int) + 1))) := by intro b; cases b <;> rfl
    exact key (eqS a y)) (by unfold slices_Equal_Spot_Spot_l1; simp)
theorem curve_Same_eq (a b : Curve) (ha : a.Pts.length ≤ 1000000) : curve_Same a b = some (eqP a.Pts b.Pts) := by
  unfold curve_Same slices_Equal_Spot_Spot eqP
  by_cases h : a.Pts.length = b.Pts.length
  · rw [show ((a.Pts.length : Int) != (b.Pts.length : Int)) = false by simp [h], show (a.Pts.length == b.Pts.length) = true by simp [h], cond_false, equal_loop _ _ ha h]
    cases anyJ (difS b.Pts) 0 a.Pts <;> rfl
  · rw [show ((a.Pts.length : Int) != (b.Pts.length : Int)) = true by simp; omega, show (a.Pts.length == b.Pts.length) = false by simpa using h]; rfl
theorem ref01_Same_eq (a b : Curve) (ha : a.Pts.length ≤ 1000000) : ref01_Same a b = some (eqP a.Pts b.Pts) := by
  rw [← curve_Same_eq a b ha]
  change _ = (cond ((a.Pts.length : Int) != (b.Pts.length : Int)) (some false) (thenS (loop (ref01_Same_l1 a b) 0) (fun _ => some true) (fun r => some r))).bind fun v1 => some v1
  rw [show (cond ((a.Pts.length : Int) != (b.Pts.length : Int)) (some false) (thenS (loop (ref01_Same_l1 a b) 0) (fun _ => some true) (fun r => some r))) = ref01_Same a b from rfl]
  cases ref01_Same a b <;> rfl
theorem anyJ_refl : ∀ (r xs : List Spot) (i : Nat), xs.drop i = r → anyJ (difS xs) i r = false
  | [], _, _, _ => rfl
  | a :: r, xs, i, h => by
    have h0 : xs[i]? = some a := by have := congrArg (fun z => z[0]?) h; simpa using this
    rw [anyJ, anyJ_refl r xs (i + 1) (drop_succ h)]
    unfold difS
    rw [h0]
    simp [eqS]
theorem eqP_refl (xs : List Spot) : eqP xs xs = true := by
  unfold eqP
  rw [anyJ_refl xs xs 0 rfl]; simp

/-! ### Joins -/
noncomputable def joinM (c d : Curve) : Curve × Int :=
  if checkM c.Pts ≠ 0 then (⟨[]⟩, checkM c.Pts) else if checkM d.Pts ≠ 0 then (⟨[]⟩, checkM d.Pts)
  else match c.Pts[c.Pts.length - 1]?, d.Pts[0]? with
    | some p, some q => if eqS p q then (if checkM (c.Pts ++ d.Pts.drop 1) ≠ 0 then (⟨[]⟩, checkM (c.Pts ++ d.Pts.drop 1)) else (⟨c.Pts ++ d.Pts.drop 1⟩, 0)) else (⟨[]⟩, 7)
    | _, _ => (⟨[]⟩, 0)
theorem check_len {l : List Spot} (h : checkM l = 0) : 2 ≤ l.length ∧ l.length ≤ 16 := by
  have V := checkM_zero.1 h
  have := V.most
  refine ⟨?_, by omega⟩
  unfold checkM at h
  split at h
  · exact absurd h (by decide)
  · omega
theorem end_eq {e : Int} {a : Curve} : cond (e != 0) (some ((⟨[]⟩ : Curve), e)) (some (a, 0)) = some (if e ≠ 0 then (⟨[]⟩, e) else (a, 0)) := by
  by_cases h : e = 0
  · rw [h]; rfl
  · rw [if_pos h, show (e != 0) = true by simpa using h]; rfl
theorem join_ends {c d : Curve} (h1 : checkM c.Pts = 0) (h2 : checkM d.Pts = 0) : ∃ p q, c.Pts[c.Pts.length - 1]? = some p ∧ d.Pts[0]? = some q ∧ geti c.Pts (w64 ((c.Pts.length : Int) - 1)) = some p ∧ geti d.Pts 0 = some q := by
  have l1 := check_len h1
  have l2 := check_len h2
  have k1 : c.Pts.length - 1 < c.Pts.length := by omega
  have k2 : 0 < d.Pts.length := by omega
  refine ⟨c.Pts[c.Pts.length - 1], d.Pts[0], List.getElem?_eq_getElem k1, List.getElem?_eq_getElem k2, ?_, ?_⟩
  · rw [w64_id (by omega), show (c.Pts.length : Int) - 1 = ((c.Pts.length - 1 : Nat) : Int) by omega, geti_nat k1]
  · rw [show (0 : Int) = ((0 : Nat) : Int) from rfl, geti_nat k2]
theorem ref01_Join_eq (c d : Curve) (hc : c.Pts.length ≤ 100000) (hd : d.Pts.length ≤ 100000) : ref01_Join c d = some (joinM c d) := by
  unfold ref01_Join joinM
  rw [ref01_Check_eq c (by omega), ref01_Check_eq d (by omega), Option.bind_some]
  by_cases h1 : checkM c.Pts = 0
  · rw [if_neg (by simpa using h1), show (checkM c.Pts != 0) = false by simpa using h1, cond_false, Option.bind_some]
    by_cases h2 : checkM d.Pts = 0
    · obtain ⟨p, q, e1, e2, e3, e4⟩ := join_ends h1 h2
      have l1 := check_len h1
      have l2 := check_len h2
      rw [if_neg (by simpa using h2), show (checkM d.Pts != 0) = false by simpa using h2, cond_false, e3, e4, Option.bind_some, Option.bind_some, e1, e2]
      dsimp only
      change cond (!eqS p q) _ _ = _
      cases eqS p q
      · rfl
      · rw [subl_one (by omega), appc_ok (by simp; omega), List.nil_append]
        simp only [Bool.not_true, cond_false, Option.bind_some, if_true]
        rw [appc_ok (by rw [List.length_drop]; omega), Option.bind_some, ref01_Check_eq _ (by show (c.Pts ++ d.Pts.drop 1).length ≤ 1000000; rw [List.length_append, List.length_drop]; omega), Option.bind_some]
        exact end_eq
    · rw [if_pos h2, show (checkM d.Pts != 0) = true by simpa using h2]; rfl
  · rw [if_pos h1, show (checkM c.Pts != 0) = true by simpa using h1]; rfl
theorem through_mk_eq (l : List Spot) (hl : l.length ≤ 1000000) : curve_through_mk l = some ⟨l⟩ := by
  unfold curve_through_mk
  rw [slices_Clone_eq (by omega)]; rfl
theorem Join_mk_eq (c d : Curve) (hc : c.Pts.length ≤ 100000) (hd : d.Pts.length ≤ 100000) : curve_Join_mk c d = some (joinM c d) := by
  unfold curve_Join_mk joinM
  rw [curve_Check_eq c (by omega), curve_Check_eq d (by omega), Option.bind_some]
  by_cases h1 : checkM c.Pts = 0
  · rw [if_neg (by simpa using h1), show (checkM c.Pts != 0) = false by simpa using h1, cond_false, Option.bind_some]
    by_cases h2 : checkM d.Pts = 0
    · obtain ⟨p, q, e1, e2, e3, e4⟩ := join_ends h1 h2
      have l1 := check_len h1
      have l2 := check_len h2
      have hne : c.Pts ≠ [] := by intro e; rw [e] at l1; simp at l1
      rw [if_neg (by simpa using h2), show (checkM d.Pts != 0) = false by simpa using h2, cond_false]
      simp only [thenS]
      rw [e3, e4, Option.bind_some, Option.bind_some, e1, e2]
      dsimp only
      change cond (!eqS p q) _ _ = _
      cases eqS p q
      · rfl
      · rw [subl_one (by omega), Cloneo_eq (by omega) hne]
        simp only [Bool.not_true, cond_false, Option.bind_some, if_true]
        rw [appc_ok (by rw [List.length_drop]; omega), Option.bind_some, through_mk_eq _ (by rw [List.length_append, List.length_drop]; omega), Option.bind_some, curve_Check_eq _ (by show (c.Pts ++ d.Pts.drop 1).length ≤ 1000000; rw [List.length_append, List.length_drop]; omega), Option.bind_some]
        exact end_eq
    · rw [if_pos h2, show (checkM d.Pts != 0) = true by simpa using h2]; rfl
  · rw [if_pos h1, show (checkM c.Pts != 0) = true by simpa using h1]; rfl
theorem joinM_len (c d : Curve) (hc : c.Pts.length ≤ 100000) (hd : d.Pts.length ≤ 100000) : (joinM c d).1.Pts.length ≤ 1000000 := by
  unfold joinM
  split
  · exact Nat.zero_le _
  · split
    · exact Nat.zero_le _
    · split
      · split
        · split
          · exact Nat.zero_le _
          · show (c.Pts ++ d.Pts.drop 1).length ≤ _
            rw [List.length_append, List.length_drop]; omega
        · exact Nat.zero_le _
      · exact Nat.zero_le _

/-! ### The law -/
theorem shift_l3 : ∀ (n : Nat) (i : Int) (c : Curve), 0 ≤ i → i + n = (c.Pts.length : Int) → c.Pts.length ≤ 1000000 → ∃ u, loop law01_CurveJoins_l3 (i, c) = some u := by
  intro n
  induction n with
  | zero =>
    intro i c h0 h hl
    refine ⟨(), loop_out ?_⟩
    unfold law01_CurveJoins_l3
    rw [show decide (i < (c.Pts.length : Int)) = false from decide_eq_false (by omega)]; rfl
  | succ n ih =>
    intro i c h0 h hl
    obtain ⟨j, rfl⟩ : ∃ j : Nat, i = (j : Int) := ⟨_, (Int.toNat_of_nonneg h0).symm⟩
    have hj : j < c.Pts.length := by omega
    have hs : ∃ d : Curve, law01_CurveJoins_l3 ((j : Int), c) = some (.go ((j : Int) + 1, d)) ∧ d.Pts.length = c.Pts.length := by
      unfold law01_CurveJoins_l3
      rw [show decide ((j : Int) < (c.Pts.length : Int)) = true from decide_eq_true (by omega)]
      dsimp only
      rw [geti_nat hj, cond_true, Option.bind_some, Option.bind_some, w64_id (n := (j : Int) + 1) (by omega)]
      exact ⟨_, rfl, by simp [seti]⟩
    obtain ⟨d, hd, e⟩ := hs
    rw [loop_go hd]
    exact ih ((j : Int) + 1) d (by omega) (by rw [e]; omega) (by rw [e]; exact hl)
theorem l4_l3 : law01_CurveJoins_l4 = law01_CurveJoins_l3 := rfl
theorem shift_l1 (t : Spot) : ∀ (n : Nat) (i : Int) (c : Curve), 0 ≤ i → i + n = (c.Pts.length : Int) → c.Pts.length ≤ 1000000 → ∃ d : Curve, loop (law01_CurveJoins_l1 t) (i, c) = some d ∧ d.Pts.length = c.Pts.length := by
  intro n
  induction n with
  | zero =>
    intro i c h0 h hl
    refine ⟨c, loop_out ?_, rfl⟩
    unfold law01_CurveJoins_l1
    rw [show decide (i < (c.Pts.length : Int)) = false from decide_eq_false (by omega)]; rfl
  | succ n ih =>
    intro i c h0 h hl
    obtain ⟨j, rfl⟩ : ∃ j : Nat, i = (j : Int) := ⟨_, (Int.toNat_of_nonneg h0).symm⟩
    have hj : j < c.Pts.length := by omega
    have hs : ∃ d : Curve, law01_CurveJoins_l1 t ((j : Int), c) = some (.go ((j : Int) + 1, d)) ∧ d.Pts.length = c.Pts.length := by
      unfold law01_CurveJoins_l1
      rw [show decide ((j : Int) < (c.Pts.length : Int)) = true from decide_eq_true (by omega)]
      dsimp only
      rw [geti_nat hj, cond_true, Option.bind_some, Option.bind_some, Option.bind_some, w64_id (n := (j : Int) + 1) (by omega)]
      exact ⟨_, rfl, by simp [seti]⟩
    obtain ⟨d, hd, e⟩ := hs
    obtain ⟨y, h1, h2⟩ := ih ((j : Int) + 1) d (by omega) (by rw [e]; omega) (by rw [e]; exact hl)
    exact ⟨y, by rw [loop_go hd]; exact h1, by rw [h2, e]⟩
theorem joins_round (a b c d : Curve) (k : Int) (x y : Curve) (hk : decide (w64 (k + 1) < ([a, b, c, d, a].length : Int)) = true) (h1 : geti [a, b, c, d, a] k = some x) (h2 : geti [a, b, c, d, a] (w64 (k + 1)) = some y) (hx : x.Pts.length ≤ 1000) (hy : y.Pts.length ≤ 1000) :
    law01_CurveJoins_l2 a b c d k = some (.go (w64 (k + 1))) := by
  have hj := joinM_len x y (by omega) (by omega)
  obtain ⟨u1, e1⟩ := shift_l3 x.Pts.length 0 x (by decide) (by omega) (by omega)
  obtain ⟨u2, e2⟩ := shift_l3 (joinM x y).1.Pts.length 0 (joinM x y).1 (by decide) (by omega) hj
  have hcp : curve_Copy_mk x = some x := by unfold curve_Copy_mk; rw [through_mk_eq _ (by omega)]; rfl
  unfold law01_CurveJoins_l2
  rw [hk, cond_true, h1, h2, Option.bind_some, law01_own_eq x (by omega), Option.bind_some, Option.bind_some, law01_own_eq y (by omega), Option.bind_some, Join_mk_eq x y (by omega) (by omega)]
  simp only [ref01_Join_eq x y (show x.Pts.length ≤ 100000 by omega) (show y.Pts.length ≤ 100000 by omega), Option.bind_some, bne_self_eq_false, Bool.not_false, cond_true, ref01_Same_eq _ _ hj, eqP_refl, Bool.not_true, Bool.false_or, curve_Same_eq x _ (show x.Pts.length ≤ 1000000 by omega), ref01_Same_eq x _ (show x.Pts.length ≤ 1000000 by omega), ref01_Same_eq y _ (show y.Pts.length ≤ 1000000 by omega), beq_self_eq_true, cond_false, hcp, e1, l4_l3, e2]
theorem mk_eq : kit_Curve_mk = kit_Curve := rfl
theorem law01_CurveJoins_plain (a b : Curve) (m n : KitChain) (w0 : ∀ p ∈ a.Pts, wI64 p.X ∧ wI64 p.Y) (w1 : ∀ p ∈ b.Pts, wI64 p.X ∧ wI64 p.Y) (w2 : wI64 m.X ∧ wI64 m.Y ∧ ∀ a ∈ m.Steps, wI64 a) (w3 : wI64 n.X ∧ wI64 n.Y ∧ ∀ a ∈ n.Steps, wI64 a) : law01_CurveJoins a b m n = some true := by
  unfold law01_CurveJoins
  rw [law01_long_eq, law01_long_eq, Option.bind_some]
  by_cases ha : a.Pts.length > 20
  · rw [decide_eq_true ha]; simp only [Bool.not_true, cond_false, Option.bind_some, Bool.true_or, cond_true, awake_eq]
  by_cases hb : b.Pts.length > 20
  · rw [decide_eq_false ha, decide_eq_true hb]; simp only [Bool.not_false, cond_true, Option.bind_some, Bool.false_or, awake_eq]
  obtain ⟨c, ec, hc⟩ := kit_Curve_eq m w2.2.2
  obtain ⟨d, ed, hd⟩ := kit_Curve_eq n w3.2.2
  have c6 := hc.six
  have d6 := hd.six
  have c2 := hc.two
  have d2 := hd.two
  have k1 : c.Pts.length - 1 < c.Pts.length := by omega
  have k2 : 0 < d.Pts.length := by omega
  rw [decide_eq_false ha, decide_eq_false hb, mk_eq]
  simp only [Bool.not_false, cond_true, Option.bind_some, Bool.or_self, cond_false, ec, ed]
  rw [w64_id (n := (c.Pts.length : Int) - 1) (by omega), show (c.Pts.length : Int) - 1 = ((c.Pts.length - 1 : Nat) : Int) by omega, geti_nat k1, Option.bind_some, show geti d.Pts 0 = some d.Pts[0] from by rw [show (0 : Int) = ((0 : Nat) : Int) from rfl, geti_nat k2], Option.bind_some]
  unfold ref01_Minus
  rw [Option.bind_some]
  obtain ⟨y, ey, ly⟩ := shift_l1 (Spot.mk (w64 (c.Pts[c.Pts.length - 1].X - d.Pts[0].X)) (w64 (c.Pts[c.Pts.length - 1].Y - d.Pts[0].Y))) d.Pts.length 0 d (by decide) (by omega) (by omega)
  rw [ey, Option.bind_some]
  rw [loop_go (joins_round a b c y 0 a b rfl rfl rfl (by omega) (by omega)), show w64 (0 + 1) = 1 from rfl, loop_go (joins_round a b c y 1 b c rfl rfl rfl (by omega) (by omega)), show w64 (1 + 1) = 2 from rfl, loop_go (joins_round a b c y 2 c y rfl rfl rfl (by omega) (by omega)), show w64 (2 + 1) = 3 from rfl, loop_go (joins_round a b c y 3 y a rfl rfl rfl (by omega) (by omega)), show w64 (3 + 1) = 4 from rfl, loop_out (t := .inl ()) (by unfold law01_CurveJoins_l2; rfl)]
  simp only [thenS, awake_eq, Option.bind_some]
end Go.Abs.Curve
