/-
  Plain facts on the functions: what they compute, and that the law holds of it.
-/
import Derived.Test.YtkpmfcpgmhkleaaFns1

namespace Go.Abs.Curve
open Go Go.Abs

theorem curve_root_spec (n : Int) : ∃ y, curve_root n = some (y, y * y == n) ∧ 0 ≤ y ∧ y ≤ 67108864 ∧ (∀ m, 0 ≤ m → m < y → m * m < n) ∧ (y = 67108864 ∨ n ≤ y * y) := by
  have key := loop_inv (f := curve_root_l1 n) (fun x => 0 ≤ x.1 ∧ x.1 ≤ x.2 ∧ x.2 ≤ 67108864 ∧ (∀ m, 0 ≤ m → m < x.1 → m * m < n) ∧ (x.2 = 67108864 ∨ n ≤ x.2 * x.2)) (fun x => (x.2 - x.1).toNat)
    (fun y => 0 ≤ y ∧ y ≤ 67108864 ∧ (∀ m, 0 ≤ m → m < y → m * m < n) ∧ (y = 67108864 ∨ n ≤ y * y)) (by
      rintro ⟨lo, hi⟩ ⟨h1, h2, h3, h4, h5⟩
      dsimp only at h1 h2 h3 h4 h5
      unfold curve_root_l1
      dsimp only
      by_cases hlt : lo < hi
      · have e1 : w64 (lo + hi) = lo + hi := w64_id (by omega)
        have e2 : w64 ((lo + hi).tdiv 2) = (lo + hi) / 2 := by rw [Int.tdiv_eq_ediv_of_nonneg (by omega)]; exact w64_id (by omega)
        have hm : lo ≤ (lo + hi) / 2 ∧ (lo + hi) / 2 < hi := by omega
        generalize hmid : (lo + hi) / 2 = mid at *
        have hmm : mid * mid ≤ 67108864 * 67108864 := sq_le (by omega) (by omega)
        have hmm0 := sq_nonneg mid
        have e3 : w64 (mid * mid) = mid * mid := w64_id (by omega)
        have e4 : w64 (mid + 1) = mid + 1 := w64_id (by omega)
        simp only [e1, e2, e3, e4, hlt, decide_true, cond_true]
        by_cases hc : mid * mid < n
        · simp only [hc, decide_true, cond_true]
          refine ⟨_, rfl, ⟨by omega, by omega, h3, fun m hm0 hm1 => ?_, h5⟩, by dsimp only; omega⟩
          rcases Int.lt_or_le m mid with q | q
          · have := Int.mul_le_mul (show m ≤ mid by omega) (show m ≤ mid by omega) hm0 (by omega); omega
          · have : m = mid := by dsimp only at hm1; omega
            subst this; exact hc
        · simp only [hc, decide_false, cond_false]
          exact ⟨_, rfl, ⟨h1, by dsimp only; omega, by dsimp only; omega, h4, .inr (by dsimp only; omega)⟩, by dsimp only; omega⟩
      · simp only [hlt, decide_false, cond_false]
        obtain rfl : lo = hi := by omega
        exact ⟨_, rfl, h1, h3, h4, h5⟩) (0, 67108864) ⟨by decide, by decide, by decide, fun m h1 h2 => by dsimp only at h2; omega, .inl rfl⟩
  obtain ⟨y, hy, h1, h2, h3, h4⟩ := key
  refine ⟨y, ?_, h1, h2, h3, h4⟩
  have hmm : y * y ≤ 67108864 * 67108864 := sq_le (by omega) (by omega)
  have hmm0 := sq_nonneg y
  unfold curve_root
  rw [hy, Option.bind_some, w64_id (by omega)]
/-- The least number whose square is not less. -/
noncomputable def rt (n : Int) : Int := (curve_root_spec n).choose
theorem curve_root_rt (n : Int) : curve_root n = some (rt n, rt n * rt n == n) := (curve_root_spec n).choose_spec.1
theorem rt_nonneg (n : Int) : 0 ≤ rt n := (curve_root_spec n).choose_spec.2.1
theorem rt_le (n : Int) : rt n ≤ 67108864 := (curve_root_spec n).choose_spec.2.2.1
theorem rt_min (n m : Int) (h1 : 0 ≤ m) (h2 : m < rt n) : m * m < n := (curve_root_spec n).choose_spec.2.2.2.1 m h1 h2
theorem rt_max (n : Int) : rt n = 67108864 ∨ n ≤ rt n * rt n := (curve_root_spec n).choose_spec.2.2.2.2
theorem rt_sq {l : Int} (h0 : 0 ≤ l) (h1 : l ≤ 67108864) : rt (l * l) = l := by
  rcases Int.lt_trichotomy (rt (l * l)) l with q | q | q
  · rcases rt_max (l * l) with h | h
    · omega
    · have h2 := rt_nonneg (l * l)
      have := Int.mul_lt_mul' (show rt (l * l) ≤ l by omega) q h2 (by omega); omega
  · exact q
  · have := rt_min (l * l) l h0 q; omega

theorem ref01_root_spec (n : Int) (h0 : 0 ≤ n) (h1 : n < 18014398509481984) : ∃ r, ref01_root n = some r ∧ 0 ≤ r ∧ r < 134217728 ∧ r * r ≤ n ∧ n < (r + 1) * (r + 1) := by
  have key := loop_inv (f := ref01_root_l1 n) (fun x => 0 ≤ x.1 ∧ x.1 * x.1 ≤ n ∧ ((∃ k : Nat, k ≤ 26 ∧ x.2 = 2 ^ k ∧ x.1 + 2 * 2 ^ k ≤ 134217728 ∧ n < (x.1 + 2 * 2 ^ k) * (x.1 + 2 * 2 ^ k)) ∨ (x.2 = 0 ∧ x.1 < 134217728 ∧ n < (x.1 + 1) * (x.1 + 1)))) (fun x => x.2.toNat)
    (fun r => 0 ≤ r ∧ r < 134217728 ∧ r * r ≤ n ∧ n < (r + 1) * (r + 1)) (by
      rintro ⟨r, bit⟩ ⟨q1, q2, q3⟩
      dsimp only at q1 q2 q3
      unfold ref01_root_l1
      dsimp only
      rcases q3 with ⟨k, hk, rfl, q4, q5⟩ | ⟨rfl, q4, q5⟩
      · have hp : (0 : Int) < 2 ^ k := Int.pow_pos (by decide)
        generalize hb : (2 : Int) ^ k = b at *
        have e1 : w64 (r + b) = r + b := w64_id (by omega)
        have hmm : (r + b) * (r + b) ≤ 134217728 * 134217728 := sq_le (by omega) (by omega)
        have hmm0 := sq_nonneg (r + b)
        have e2 : w64 ((r + b) * (r + b)) = (r + b) * (r + b) := w64_id (by omega)
        have e3 : w64 (b.tdiv 2) = b / 2 := by rw [Int.tdiv_eq_ediv_of_nonneg (by omega)]; exact w64_id (by omega)
        have hb0 : b > 0 := by omega
        simp only [e1, e2, e3, hb0, decide_true, cond_true]
        have hnext : ∀ r', 0 ≤ r' → r' * r' ≤ n → r' + b ≤ 134217728 → n < (r' + b) * (r' + b) → (∃ j : Nat, j ≤ 26 ∧ b / 2 = 2 ^ j ∧ r' + 2 * 2 ^ j ≤ 134217728 ∧ n < (r' + 2 * 2 ^ j) * (r' + 2 * 2 ^ j)) ∨ (b / 2 = 0 ∧ r' < 134217728 ∧ n < (r' + 1) * (r' + 1)) := by
          intro r' a1 a2 a3 a4
          cases k with
          | zero =>
            have : b = 1 := by rw [← hb]; rfl
            subst this
            exact .inr ⟨by decide, by omega, a4⟩
          | succ j =>
            have hj : b = 2 * 2 ^ j := by rw [← hb, Int.pow_succ]; omega
            refine .inl ⟨j, by omega, by omega, by omega, by rw [← hj]; exact a4⟩
        by_cases hc : (r + b) * (r + b) ≤ n
        · simp only [hc, decide_true, cond_true]
          refine ⟨_, rfl, ⟨by dsimp only; omega, hc, hnext (r + b) (by omega) hc (by omega) (by rw [show r + b + b = r + 2 * b by omega]; exact q5)⟩, by dsimp only; omega⟩
        · simp only [hc, decide_false, cond_false]
          exact ⟨_, rfl, ⟨q1, q2, hnext r q1 q2 (by omega) (by omega)⟩, by dsimp only; omega⟩
      · simp only [show ¬ (0 : Int) > 0 by decide, decide_false, cond_false]
        exact ⟨_, rfl, q1, q4, q2, q5⟩) (0, 67108864) ⟨by decide, by dsimp only; omega, .inl ⟨26, by decide, by decide, by decide, by dsimp only; omega⟩⟩
  obtain ⟨r, hr, a⟩ := key
  exact ⟨r, by unfold ref01_root; rw [hr]; rfl, a⟩
theorem ref01_root_rt {n : Int} (h0 : 0 ≤ n) (h1 : n ≤ 4503599627370496) : ∃ r, ref01_root n = some r ∧ 0 ≤ r ∧ r < 134217728 ∧ (r * r = n ↔ rt n * rt n = n) ∧ (r * r = n → r = rt n) := by
  obtain ⟨r, hr, a1, a2, a3, a4⟩ := ref01_root_spec n h0 (by omega)
  have hr26 : r ≤ 67108864 := by
    rcases Int.lt_or_le r 67108865 with q | q
    · omega
    · have := Int.mul_le_mul q q (by decide) (by omega); omega
  refine ⟨r, hr, a1, a2, ⟨fun h => ?_, fun h => ?_⟩, fun h => ?_⟩
  · rw [← h, rt_sq a1 hr26]
  · rcases Int.lt_trichotomy r (rt n) with q | q | q
    · have := Int.mul_le_mul (show r + 1 ≤ rt n by omega) (show r + 1 ≤ rt n by omega) (by omega) (rt_nonneg n); omega
    · rw [q]; exact h
    · have h2 := rt_nonneg n
      have := Int.mul_lt_mul' (show rt n ≤ r by omega) q h2 (by omega); omega
  · rw [← h, rt_sq a1 hr26]
end Go.Abs.Curve

namespace Go.Abs.Curve
open Go Go.Abs

def okS (p : Spot) : Bool := decide (-16777216 ≤ p.X) && decide (p.X ≤ 16777216) && decide (-16777216 ≤ p.Y) && decide (p.Y ≤ 16777216)
theorem okS_iff {p : Spot} : okS p = true ↔ -16777216 ≤ p.X ∧ p.X ≤ 16777216 ∧ -16777216 ≤ p.Y ∧ p.Y ≤ 16777216 := by simp [okS, and_assoc]
theorem fair_cond (p : Spot) : ((decide ((mm2 false p.X p.Y) < (-16777216))) || (decide ((mm2 true p.X p.Y) > 16777216))) = !okS p := by
  rw [mm2_min, mm2_max]
  cases h : okS p with
  | true => have := okS_iff.1 h; simp; omega
  | false =>
    have : ¬ (-16777216 ≤ p.X ∧ p.X ≤ 16777216 ∧ -16777216 ≤ p.Y ∧ p.Y ≤ 16777216) := fun q => by rw [okS_iff.2 q] at h; cases h
    simp; omega
theorem curve_fair_go (l : List Spot) (hl : l.length ≤ 1000000) : ∀ (r : List Spot) (i : Nat), l.drop i = r → loop (curve_fair_l1 l) (i : Int) = some (if r.all okS then .inl () else .inr false) := by
  intro r
  induction r with
  | nil =>
    intro i hi
    have := drop_nil hi
    refine loop_out ?_
    unfold curve_fair_l1
    simp only [show ¬ (i : Int) < l.length by omega, decide_false, cond_false, List.all_nil, if_true]
  | cons p r ih =>
    intro i hi
    have hlt := drop_lt hi
    have hstep : curve_fair_l1 l (i : Int) = if okS p then some (.go ((i + 1 : Nat) : Int)) else some (.out (.inr false)) := by
      unfold curve_fair_l1
      simp only [show (i : Int) < l.length by omega, decide_true, cond_true, geti_drop hi, Option.bind_some, fair_cond]
      cases h : okS p with
      | true => simp only [Bool.not_true, cond_false, if_true]; rw [w64_id (by omega)]; rfl
      | false => simp
    cases h : okS p with
    | true =>
      rw [h, if_pos rfl] at hstep
      rw [loop_go hstep, ih (i + 1) (drop_succ hi)]
      simp [h]
    | false =>
      rw [h] at hstep
      rw [loop_out hstep]
      simp [h]
theorem curve_fair_eq (l : List Spot) (hl : l.length ≤ 1000000) : curve_fair l = some (l.all okS) := by
  unfold curve_fair
  have := curve_fair_go l hl l 0 (by simp)
  rw [show ((0 : Nat) : Int) = 0 from rfl] at this
  rw [this]
  cases l.all okS <;> rfl
theorem ref01_Valid_eq (p : Spot) : ref01_Valid p = some (okS p) := by
  unfold ref01_Valid okS; rfl

def vec (p q : Spot) : CurveVector := ⟨q.X - p.X, q.Y - p.Y⟩
def dotv (v w : CurveVector) : Int := v.x * w.x + v.y * w.y
/-- A vector between valid spots. -/
def okV (v : CurveVector) : Prop := -33554432 ≤ v.x ∧ v.x ≤ 33554432 ∧ -33554432 ≤ v.y ∧ v.y ≤ 33554432
theorem okV_vec {p q : Spot} (hp : okS p = true) (hq : okS q = true) : okV (vec p q) := by
  have := okS_iff.1 hp; have := okS_iff.1 hq
  unfold okV vec; dsimp only; omega
theorem curve_from_eq {p q : Spot} (hp : okS p = true) (hq : okS q = true) : curve_from p q = some (vec p q) := by
  have := okS_iff.1 hp; have := okS_iff.1 hq
  unfold curve_from vec
  rw [w64_id (by omega), w64_id (by omega)]
theorem dot_bd {v w : CurveVector} (hv : okV v) (hw : okV w) : -2251799813685248 ≤ dotv v w ∧ dotv v w ≤ 2251799813685248 ∧ (-1125899906842624 ≤ v.x * w.x ∧ v.x * w.x ≤ 1125899906842624) ∧ -1125899906842624 ≤ v.y * w.y ∧ v.y * w.y ≤ 1125899906842624 := by
  obtain ⟨a1, a2, a3, a4⟩ := hv
  obtain ⟨b1, b2, b3, b4⟩ := hw
  have h1 := mul_bd ⟨a1, a2⟩ ⟨b1, b2⟩
  have h2 := mul_bd ⟨a3, a4⟩ ⟨b3, b4⟩
  unfold dotv
  omega
theorem curve_dot_eq {v w : CurveVector} (hv : okV v) (hw : okV w) : curve_vector_dot v w = some (dotv v w) := by
  have h := dot_bd hv hw
  unfold curve_vector_dot
  rw [w64_id (n := v.x * w.x) (by omega), w64_id (n := v.y * w.y) (by omega), w64_id (by unfold dotv at h; omega)]
  rfl
theorem dot_nonneg (v : CurveVector) : 0 ≤ dotv v v := by have := sq_nonneg v.x; have := sq_nonneg v.y; unfold dotv; omega

def vs (v : CurveVector) : Spot := ⟨v.x, v.y⟩
theorem ref01_Minus_eq {p q : Spot} (hp : okS p = true) (hq : okS q = true) : ref01_Minus q p = some (vs (vec p q)) := by
  have := okS_iff.1 hp; have := okS_iff.1 hq
  unfold ref01_Minus vec vs
  rw [w64_id (by omega), w64_id (by omega)]
theorem ref01_Dot_eq {v w : CurveVector} (hv : okV v) (hw : okV w) : ref01_Dot (vs v) (vs w) = some (dotv v w) := by
  have h := dot_bd hv hw
  unfold ref01_Dot vs
  dsimp only
  rw [w64_id (n := v.x * w.x) (by omega), w64_id (n := v.y * w.y) (by omega), w64_id (by unfold dotv at h; omega)]
  rfl

/-- The error of a chain of points, from a piece on; the piece ahead of it. -/
noncomputable def goM : Option CurveVector → List Spot → Int
  | last, p :: q :: r =>
    if rt (dotv (vec p q) (vec p q)) * rt (dotv (vec p q) (vec p q)) ≠ dotv (vec p q) (vec p q) then 3
    else if rt (dotv (vec p q) (vec p q)) < 1000 ∨ rt (dotv (vec p q) (vec p q)) > 1048576 then 2
    else match last with
      | some u => if dotv u (vec p q) ≤ 0 then 12 else goM (some (vec p q)) (q :: r)
      | none => goM (some (vec p q)) (q :: r)
  | _, _ => 0
theorem goM_cons (last : Option CurveVector) (p q : Spot) (r : List Spot) : goM last (p :: q :: r) =
    if rt (dotv (vec p q) (vec p q)) * rt (dotv (vec p q) (vec p q)) ≠ dotv (vec p q) (vec p q) then 3
    else if rt (dotv (vec p q) (vec p q)) < 1000 ∨ rt (dotv (vec p q) (vec p q)) > 1048576 then 2
    else match last with
      | some u => if dotv u (vec p q) ≤ 0 then 12 else goM (some (vec p q)) (q :: r)
      | none => goM (some (vec p q)) (q :: r) := by
  conv => lhs; unfold goM
noncomputable def checkM (l : List Spot) : Int := if l.length < 2 then 6 else if l.length > 16 then 5 else if l.all okS then goM none l else 2

theorem curve_Check_go (c : Curve) (hl : c.Pts.length ≤ 1000000) (hok : c.Pts.all okS = true) : ∀ (r : List Spot) (p : Spot) (i : Nat) (last : CurveVector), c.Pts.drop i = p :: r → okV last →
    loop (curve_Check_l1 c) ((i : Int), last) = some (if goM (if i = 0 then none else some last) (p :: r) = 0 then .inl () else .inr (goM (if i = 0 then none else some last) (p :: r))) := by
  intro r
  induction r with
  | nil =>
    intro p i last hi hlast
    have hlt := drop_lt hi
    have := drop_nil (drop_succ hi)
    refine loop_out ?_
    unfold curve_Check_l1
    dsimp only
    rw [w64_id (n := (c.Pts.length : Int) - 1) (by omega)]
    simp only [show ¬ (i : Int) < (c.Pts.length : Int) - 1 by omega, decide_false, cond_false, goM, if_true]
  | cons q r ih =>
    intro p i last hi hlast
    have hlt := drop_lt hi
    have hi1 := drop_succ hi
    have hlt1 := drop_lt hi1
    have hp : okS p = true := List.all_eq_true.1 hok p (List.mem_of_mem_drop (i := i) (by rw [hi]; simp))
    have hq : okS q = true := List.all_eq_true.1 hok q (List.mem_of_mem_drop (i := i) (by rw [hi]; simp))
    have hv := okV_vec hp hq
    have hg1 : geti c.Pts ((i : Int) + 1) = some q := by have := geti_drop hi1; simpa using this
    have hstep : curve_Check_l1 c ((i : Int), last) =
        if rt (dotv (vec p q) (vec p q)) * rt (dotv (vec p q) (vec p q)) ≠ dotv (vec p q) (vec p q) then some (.out (.inr 3))
        else if rt (dotv (vec p q) (vec p q)) < 1000 ∨ rt (dotv (vec p q) (vec p q)) > 1048576 then some (.out (.inr 2))
        else if i ≠ 0 ∧ dotv last (vec p q) ≤ 0 then some (.out (.inr 12)) else some (.go (((i + 1 : Nat) : Int), vec p q)) := by
      unfold curve_Check_l1
      dsimp only
      rw [w64_id (n := (c.Pts.length : Int) - 1) (by omega), w64_id (n := (i : Int) + 1) (by omega)]
      simp only [show (i : Int) < (c.Pts.length : Int) - 1 by omega, decide_true, cond_true, geti_drop hi, hg1, Option.bind_some, curve_from_eq hp hq, curve_dot_eq hv hv, curve_root_rt]
      by_cases h1 : rt (dotv (vec p q) (vec p q)) * rt (dotv (vec p q) (vec p q)) = dotv (vec p q) (vec p q)
      · simp only [h1, beq_self_eq_true, Bool.not_true, cond_false, ne_eq, not_true_eq_false, if_false]
        by_cases h2 : rt (dotv (vec p q) (vec p q)) < 1000 ∨ rt (dotv (vec p q) (vec p q)) > 1048576
        · rw [if_pos h2]
          have : (decide (rt (dotv (vec p q) (vec p q)) < 1000) || decide (rt (dotv (vec p q) (vec p q)) > 1048576)) = true := by simpa using h2
          rw [this]; rfl
        · rw [if_neg h2]
          have : (decide (rt (dotv (vec p q) (vec p q)) < 1000) || decide (rt (dotv (vec p q) (vec p q)) > 1048576)) = false := by simpa using h2
          rw [this]
          simp only [cond_false]
          by_cases h3 : i = 0
          · subst h3
            simp only [Int.natCast_zero, gt_iff_lt, Int.lt_irrefl, decide_false, cond_false, Bool.false_and, Option.bind_some, ne_eq, not_true_eq_false, false_and, if_false]
            rfl
          · have h4 : (i : Int) > 0 := by omega
            simp only [h4, decide_true, cond_true, curve_dot_eq hlast hv, Option.bind_some, Bool.true_and, ne_eq, h3, not_false_eq_true, true_and]
            by_cases h5 : dotv last (vec p q) ≤ 0 <;> simp [h5]
      · have : (rt (dotv (vec p q) (vec p q)) * rt (dotv (vec p q) (vec p q)) == dotv (vec p q) (vec p q)) = false := by simpa using h1
        simp only [this, Bool.not_false, cond_true, ne_eq, h1, not_false_eq_true, if_true]
    rw [goM_cons]
    by_cases h1 : rt (dotv (vec p q) (vec p q)) * rt (dotv (vec p q) (vec p q)) ≠ dotv (vec p q) (vec p q)
    · rw [if_pos h1] at hstep
      rw [loop_out hstep, if_pos h1]; rfl
    · rw [if_neg h1] at hstep ⊢
      by_cases h2 : rt (dotv (vec p q) (vec p q)) < 1000 ∨ rt (dotv (vec p q) (vec p q)) > 1048576
      · rw [if_pos h2] at hstep
        rw [loop_out hstep, if_pos h2]; rfl
      · rw [if_neg h2] at hstep ⊢
        by_cases h3 : i = 0
        · subst h3
          rw [if_neg (by simp)] at hstep
          rw [loop_go hstep, ih q (0 + 1) (vec p q) hi1 hv]
          simp
        · by_cases h5 : dotv last (vec p q) ≤ 0
          · rw [if_pos ⟨h3, h5⟩] at hstep
            rw [loop_out hstep]
            simp [h3, h5]
          · rw [if_neg (fun h => h5 h.2)] at hstep
            rw [loop_go hstep, ih q (i + 1) (vec p q) hi1 hv]
            simp [h3, h5]
theorem curve_Check_eq (c : Curve) (hl : c.Pts.length ≤ 1000000) : curve_Check c = some (checkM c.Pts) := by
  unfold curve_Check checkM
  by_cases h1 : c.Pts.length < 2
  · rw [if_pos h1, show decide ((c.Pts.length : Int) < 2) = true by simp; omega]; rfl
  · rw [if_neg h1, show decide ((c.Pts.length : Int) < 2) = false by simp; omega]
    simp only [cond_false]
    by_cases h2 : c.Pts.length > 16
    · rw [if_pos h2, show decide ((c.Pts.length : Int) > 16) = true by simp; omega]; rfl
    · rw [if_neg h2, show decide ((c.Pts.length : Int) > 16) = false by simp; omega]
      simp only [cond_false, curve_fair_eq c.Pts hl, Option.bind_some]
      cases h3 : c.Pts.all okS with
      | false => rfl
      | true =>
        simp only [Bool.not_true, cond_false, if_true]
        cases hp : c.Pts with
        | nil => rw [hp] at h1; simp at h1
        | cons p r =>
          have := curve_Check_go c hl h3 r p 0 ⟨0, 0⟩ (by rw [hp]; rfl) ⟨by decide, by decide, by decide, by decide⟩
          rw [if_pos rfl, show ((0 : Nat) : Int) = 0 from rfl] at this
          rw [this]
          by_cases h4 : goM none (p :: r) = 0
          · rw [if_pos h4, h4]; rfl
          · rw [if_neg h4]; rfl
end Go.Abs.Curve

namespace Go.Abs.Curve
open Go Go.Abs

theorem dotv_comm (v w : CurveVector) : dotv v w = dotv w v := by unfold dotv; rw [Int.mul_comm v.x, Int.mul_comm v.y]
theorem ref01_Check_go1 (c : Curve) (hl : c.Pts.length ≤ 1000000) : ∀ (r : List Spot) (i : Nat), c.Pts.drop i = r → loop (ref01_Check_l1 c) (i : Int) = some (if r.all okS then .inl () else .inr 2) := by
  intro r
  induction r with
  | nil =>
    intro i hi
    have := drop_nil hi
    refine loop_out ?_
    unfold ref01_Check_l1
    simp only [show ¬ (i : Int) < c.Pts.length by omega, decide_false, cond_false, List.all_nil, if_true]
  | cons p r ih =>
    intro i hi
    have hlt := drop_lt hi
    have hstep : ref01_Check_l1 c (i : Int) = if okS p then some (.go ((i + 1 : Nat) : Int)) else some (.out (.inr 2)) := by
      unfold ref01_Check_l1
      simp only [show (i : Int) < c.Pts.length by omega, decide_true, cond_true, geti_drop hi, Option.bind_some, ref01_Valid_eq]
      cases h : okS p with
      | true => simp only [Bool.not_true, cond_false, if_true]; rw [w64_id (by omega)]; rfl
      | false => simp
    cases h : okS p with
    | true =>
      rw [h, if_pos rfl] at hstep
      rw [loop_go hstep, ih (i + 1) (drop_succ hi)]
      simp [h]
    | false =>
      rw [h] at hstep
      rw [loop_out hstep]
      simp [h]
theorem sq_dot {v : CurveVector} (hv : okV v) : ∃ l, ref01_root (dotv v v) = some l ∧ (w64 (l * l) != dotv v v) = !(rt (dotv v v) * rt (dotv v v) == dotv v v) ∧ (rt (dotv v v) * rt (dotv v v) = dotv v v → l = rt (dotv v v)) := by
  have hb := dot_bd hv hv
  obtain ⟨l, h1, h2, h3, h4, h5⟩ := ref01_root_rt (dot_nonneg v) (by omega)
  have hmm : l * l ≤ 134217728 * 134217728 := sq_le (by omega) (by omega)
  have hmm0 := sq_nonneg l
  refine ⟨l, h1, ?_, fun h => h5 (h4.2 h)⟩
  rw [w64_id (by omega)]
  by_cases h : l * l = dotv v v
  · simp [h, h4.1 h]
  · have h' : ¬ rt (dotv v v) * rt (dotv v v) = dotv v v := fun q => h (h4.2 q)
    have e1 : (l * l != dotv v v) = true := bne_iff_ne.2 h
    have e2 : (rt (dotv v v) * rt (dotv v v) == dotv v v) = false := beq_eq_false_iff_ne.2 h'
    rw [e1, e2]; rfl
theorem ref01_Check_go2 (c : Curve) (hl : c.Pts.length ≤ 1000000) (hok : c.Pts.all okS = true) : ∀ (r : List Spot) (p : Spot) (i : Nat) (last : Option CurveVector), c.Pts.drop i = p :: r →
    (i = 0 ∧ last = none ∨ ∃ j a, i = j + 1 ∧ c.Pts.drop j = a :: p :: r ∧ last = some (vec a p)) →
    loop (ref01_Check_l2 c) (i : Int) = some (if goM last (p :: r) = 0 then .inl () else .inr (goM last (p :: r))) := by
  intro r
  induction r with
  | nil =>
    intro p i last hi hlast
    have hlt := drop_lt hi
    have := drop_nil (drop_succ hi)
    refine loop_out ?_
    unfold ref01_Check_l2
    rw [w64_id (n := (i : Int) + 1) (by omega)]
    simp only [show ¬ (i : Int) + 1 < (c.Pts.length : Int) by omega, decide_false, cond_false, goM, if_true]
  | cons q r ih =>
    intro p i last hi hlast
    have hlt := drop_lt hi
    have hi1 := drop_succ hi
    have hlt1 := drop_lt hi1
    have hp : okS p = true := List.all_eq_true.1 hok p (List.mem_of_mem_drop (i := i) (by rw [hi]; simp))
    have hq : okS q = true := List.all_eq_true.1 hok q (List.mem_of_mem_drop (i := i) (by rw [hi]; simp))
    have hv := okV_vec hp hq
    have hg1 : geti c.Pts ((i : Int) + 1) = some q := by have := geti_drop hi1; simpa using this
    obtain ⟨l, hl1, hl2, hl3⟩ := sq_dot hv
    have hstep : ref01_Check_l2 c (i : Int) =
        if rt (dotv (vec p q) (vec p q)) * rt (dotv (vec p q) (vec p q)) ≠ dotv (vec p q) (vec p q) then some (.out (.inr 3))
        else if rt (dotv (vec p q) (vec p q)) < 1000 ∨ rt (dotv (vec p q) (vec p q)) > 1048576 then some (.out (.inr 2))
        else match last with
          | some u => if dotv u (vec p q) ≤ 0 then some (.out (.inr 12)) else some (.go ((i + 1 : Nat) : Int))
          | none => some (.go ((i + 1 : Nat) : Int)) := by
      unfold ref01_Check_l2
      rw [w64_id (n := (i : Int) + 1) (by omega)]
      simp only [show (i : Int) + 1 < (c.Pts.length : Int) by omega, decide_true, cond_true, geti_drop hi, hg1, Option.bind_some, ref01_Minus_eq hp hq, ref01_Dot_eq hv hv, hl1, hl2]
      by_cases h1 : rt (dotv (vec p q) (vec p q)) * rt (dotv (vec p q) (vec p q)) = dotv (vec p q) (vec p q)
      · simp only [h1, beq_self_eq_true, Bool.not_true, cond_false, ne_eq, not_true_eq_false, if_false, hl3 h1]
        by_cases h2 : rt (dotv (vec p q) (vec p q)) < 1000 ∨ rt (dotv (vec p q) (vec p q)) > 1048576
        · rw [if_pos h2]
          have : (decide (rt (dotv (vec p q) (vec p q)) < 1000) || decide (rt (dotv (vec p q) (vec p q)) > 1048576)) = true := by simpa using h2
          rw [this]; rfl
        · rw [if_neg h2]
          have : (decide (rt (dotv (vec p q) (vec p q)) < 1000) || decide (rt (dotv (vec p q) (vec p q)) > 1048576)) = false := by simpa using h2
          rw [this]
          simp only [cond_false]
          rcases hlast with ⟨rfl, rfl⟩ | ⟨j, a, rfl, hj, rfl⟩
          · simp only [Int.natCast_zero, gt_iff_lt, Int.lt_irrefl, decide_false, cond_false, Bool.false_and, Option.bind_some]
            rfl
          · have h4 : (((j + 1 : Nat) : Int)) > 0 := by omega
            have ha : okS a = true := List.all_eq_true.1 hok a (List.mem_of_mem_drop (i := j) (by rw [hj]; simp))
            have hva := okV_vec ha hp
            have hgj : geti c.Pts (w64 (((j + 1 : Nat) : Int) - 1)) = some a := by
              rw [w64_id (by omega), show (((j + 1 : Nat) : Int) - 1) = (j : Int) by omega]
              exact geti_drop hj
            simp only [h4, decide_true, cond_true, hgj, Option.bind_some, ref01_Minus_eq ha hp, ref01_Dot_eq hv hva, Bool.true_and]
            rw [dotv_comm (vec p q) (vec a p)]
            by_cases h5 : dotv (vec a p) (vec p q) ≤ 0
            · simp [h5]
            · simp [h5]
      · have : (rt (dotv (vec p q) (vec p q)) * rt (dotv (vec p q) (vec p q)) == dotv (vec p q) (vec p q)) = false := by simpa using h1
        simp only [this, Bool.not_false, cond_true, ne_eq, h1, not_false_eq_true, if_true]
    rw [goM_cons]
    have hrec := ih q (i + 1) (some (vec p q)) hi1 (.inr ⟨i, p, rfl, hi, rfl⟩)
    by_cases h1 : rt (dotv (vec p q) (vec p q)) * rt (dotv (vec p q) (vec p q)) ≠ dotv (vec p q) (vec p q)
    · rw [if_pos h1] at hstep
      rw [loop_out hstep, if_pos h1]; rfl
    · rw [if_neg h1] at hstep ⊢
      by_cases h2 : rt (dotv (vec p q) (vec p q)) < 1000 ∨ rt (dotv (vec p q) (vec p q)) > 1048576
      · rw [if_pos h2] at hstep
        rw [loop_out hstep, if_pos h2]; rfl
      · rw [if_neg h2] at hstep ⊢
        cases last with
        | none => rw [loop_go hstep, hrec]
        | some u =>
          dsimp only at hstep ⊢
          by_cases h5 : dotv u (vec p q) ≤ 0
          · rw [if_pos h5] at hstep
            rw [loop_out hstep]; simp [h5]
          · rw [if_neg h5] at hstep
            rw [loop_go hstep, hrec]; simp [h5]
theorem ref01_Check_eq (c : Curve) (hl : c.Pts.length ≤ 1000000) : ref01_Check c = some (checkM c.Pts) := by
  unfold ref01_Check checkM
  by_cases h1 : c.Pts.length < 2
  · rw [if_pos h1, show decide ((c.Pts.length : Int) < 2) = true by simp; omega]; rfl
  · rw [if_neg h1, show decide ((c.Pts.length : Int) < 2) = false by simp; omega]
    simp only [cond_false]
    by_cases h2 : c.Pts.length > 16
    · rw [if_pos h2, show decide ((c.Pts.length : Int) > 16) = true by simp; omega]; rfl
    · rw [if_neg h2, show decide ((c.Pts.length : Int) > 16) = false by simp; omega]
      have hg := ref01_Check_go1 c hl c.Pts 0 (by simp)
      rw [show ((0 : Nat) : Int) = 0 from rfl] at hg
      simp only [cond_false, hg]
      cases h3 : c.Pts.all okS with
      | false => rfl
      | true =>
        simp only [if_true, thenS]
        cases hp : c.Pts with
        | nil => rw [hp] at h1; simp at h1
        | cons p r =>
          have := ref01_Check_go2 c hl h3 r p 0 none (by rw [hp]; rfl) (.inl ⟨rfl, rfl⟩)
          rw [show ((0 : Nat) : Int) = 0 from rfl] at this
          rw [this]
          by_cases h4 : goM none (p :: r) = 0
          · rw [if_pos h4, h4]
          · rw [if_neg h4]
/-- What a valid chain is. -/
inductive Good : Option CurveVector → List Spot → Prop
  | one (last : Option CurveVector) (p : Spot) : Good last [p]
  | cons (last : Option CurveVector) (p q : Spot) (r : List Spot) (h1 : rt (dotv (vec p q) (vec p q)) * rt (dotv (vec p q) (vec p q)) = dotv (vec p q) (vec p q)) (h2 : 1000 ≤ rt (dotv (vec p q) (vec p q))) (h3 : rt (dotv (vec p q) (vec p q)) ≤ 1048576)
      (h4 : ∀ u, last = some u → 0 < dotv u (vec p q)) (h : Good (some (vec p q)) (q :: r)) : Good last (p :: q :: r)
theorem good_of_goM : ∀ (r : List Spot) (p : Spot) (last : Option CurveVector), goM last (p :: r) = 0 → Good last (p :: r) := by
  intro r
  induction r with
  | nil => intro p last _; exact .one _ _
  | cons q r ih =>
    intro p last h
    rw [goM_cons] at h
    split at h
    · cases h
    · rename_i h1
      split at h
      · cases h
      · rename_i h2
        have h1 : rt (dotv (vec p q) (vec p q)) * rt (dotv (vec p q) (vec p q)) = dotv (vec p q) (vec p q) := by simpa using h1
        cases last with
        | none => exact .cons _ _ _ _ h1 (by omega) (by omega) (fun u hu => by cases hu) (ih q _ h)
        | some u =>
          dsimp only at h
          split at h
          · cases h
          · exact .cons _ _ _ _ h1 (by omega) (by omega) (fun u' hu => by cases hu; omega) (ih q _ h)
theorem goM_of_good {last : Option CurveVector} {l : List Spot} (h : Good last l) : goM last l = 0 := by
  induction h with
  | one => rfl
  | cons last p q r h1 h2 h3 h4 h ih =>
    rw [goM_cons, if_neg (by simpa using h1), if_neg (by omega)]
    cases last with
    | none => exact ih
    | some u => dsimp only; rw [if_neg (by have := h4 u rfl; omega)]; exact ih
structure Valid (l : List Spot) : Prop where
  two : 2 ≤ l.length
  most : l.length ≤ 16
  ok : l.all okS = true
  good : Good none l
theorem checkM_zero {l : List Spot} : checkM l = 0 ↔ Valid l := by
  unfold checkM
  constructor
  · intro h
    split at h
    · cases h
    · rename_i h1
      split at h
      · cases h
      · rename_i h2
        split at h
        · rename_i h3
          cases l with
          | nil => simp at h1
          | cons p r => exact ⟨by omega, by omega, h3, good_of_goM r p none h⟩
        · cases h
  · rintro ⟨h1, h2, h3, h4⟩
    rw [if_neg (by omega), if_neg (by omega), if_pos h3]
    exact goM_of_good h4
end Go.Abs.Curve

namespace Go.Abs.Curve
open Go Go.Abs

/-- The pieces of a chain: the number, the piece. -/
noncomputable def piecesM : Nat → Int → List Spot → List (Int × CurvePiece)
  | i, s, p :: q :: r => ((i : Int), ⟨p, vec p q, rt (dotv (vec p q) (vec p q)), s⟩) :: piecesM (i + 1) (w64 (s + rt (dotv (vec p q) (vec p q)))) (q :: r)
  | _, _, _ => []
theorem piecesM_cons (i : Nat) (s : Int) (p q : Spot) (r : List Spot) : piecesM i s (p :: q :: r) = ((i : Int), ⟨p, vec p q, rt (dotv (vec p q) (vec p q)), s⟩) :: piecesM (i + 1) (w64 (s + rt (dotv (vec p q) (vec p q)))) (q :: r) := by conv => lhs; unfold piecesM
theorem piecesGo_eq (pts : List Spot) (hok : pts.all okS = true) : ∀ (r : List Spot) (p : Spot) (i : Nat) (s : Int), pts.drop i = p :: r → piecesGo pts r.length i s = some (piecesM i s (p :: r)) := by
  intro r
  induction r with
  | nil => intro p i s _; rfl
  | cons q r ih =>
    intro p i s hi
    have hi1 := drop_succ hi
    have hp : okS p = true := List.all_eq_true.1 hok p (List.mem_of_mem_drop (i := i) (by rw [hi]; simp))
    have hq : okS q = true := List.all_eq_true.1 hok q (List.mem_of_mem_drop (i := i) (by rw [hi]; simp))
    have hv := okV_vec hp hq
    have h0 : pts[i]? = some p := by have := congrArg (fun z => z[0]?) hi; simpa using this
    have h1 : pts[i + 1]? = some q := by have := congrArg (fun z => z[0]?) hi1; simpa using this
    rw [List.length_cons, piecesGo, h0, h1]
    simp only [Option.bind_some, curve_from_eq hp hq, curve_dot_eq hv hv, curve_root_rt]
    rw [ih q (i + 1) _ hi1, piecesM_cons]
    rfl
theorem piecesC_eq {pts : List Spot} (h : Valid pts) : piecesC pts = some (piecesM 0 0 pts) := by
  unfold piecesC
  have := h.most
  rw [if_pos (by omega)]
  cases hp : pts with
  | nil => have := h.two; rw [hp] at this; simp at this
  | cons p r => exact piecesGo_eq (p :: r) (by rw [← hp]; exact h.ok) r p 0 0 rfl
/-- The lengths. -/
noncomputable def lens : List Spot → List Int
  | p :: q :: r => rt (dotv (vec p q) (vec p q)) :: lens (q :: r)
  | _ => []
theorem lens_cons (p q : Spot) (r : List Spot) : lens (p :: q :: r) = rt (dotv (vec p q) (vec p q)) :: lens (q :: r) := by conv => lhs; unfold lens
theorem lens_length : ∀ (r : List Spot) (p : Spot), (lens (p :: r)).length = r.length
  | [], _ => rfl
  | q :: r, p => by rw [lens_cons, List.length_cons, lens_length r q, List.length_cons]
theorem piecesM_lens : ∀ (r : List Spot) (p : Spot) (i : Nat) (s : Int), (piecesM i s (p :: r)).map (·.2.l) = lens (p :: r)
  | [], _, _, _ => rfl
  | q :: r, p, i, s => by rw [piecesM_cons, lens_cons, List.map_cons, piecesM_lens r q]
theorem pieces_loop : ∀ (L : List (Int × CurvePiece)) (out : List Int), out.length + L.length ≤ 1000000000 → loopL curve_Pieces_l1 (fun x => x) L out = some (out ++ L.map (·.2.l)) := by
  intro L
  induction L with
  | nil => intro out _; simp [loopL]
  | cons a L ih =>
    intro out h
    simp only [List.length_cons] at h
    have : curve_Pieces_l1 out a = some (.go (out ++ [a.2.l])) := by
      unfold curve_Pieces_l1
      rw [appc_ok (by simp; omega)]; rfl
    rw [loopL, this]
    dsimp only
    rw [ih _ (by simp; omega)]
    simp
theorem curve_Pieces_eq (c : Curve) (hl : c.Pts.length ≤ 1000000) : curve_Pieces c = some (if checkM c.Pts = 0 then lens c.Pts else []) := by
  unfold curve_Pieces
  rw [curve_Check_eq c hl, Option.bind_some]
  by_cases h : checkM c.Pts = 0
  · rw [if_pos h, h]
    have hv := checkM_zero.1 h
    have := hv.most
    simp only [bne_self_eq_false, cond_false, piecesC_eq hv, Option.bind_some]
    cases hp : c.Pts with
    | nil => have := hv.two; rw [hp] at this; simp at this
    | cons p r =>
      have e := piecesM_lens r p 0 0
      rw [pieces_loop _ _ (by
        have := congrArg List.length e
        rw [List.length_map, lens_length] at this
        rw [this]; rw [hp] at hl; simp at hl ⊢; omega)]
      rw [e]; rfl
  · rw [if_neg h, show (checkM c.Pts != 0) = true from bne_iff_ne.2 h]; rfl

theorem ref01_pieces_loop (c : Curve) (hl : c.Pts.length ≤ 1000000) (hok : c.Pts.all okS = true) : ∀ (r : List Spot) (p : Spot) (i : Nat) (out : List Int) (last : Option CurveVector), c.Pts.drop i = p :: r → Good last (p :: r) → out.length + r.length ≤ 1000000 →
    loop (ref01_Pieces_l1 c) (out, (i : Int)) = some (out ++ lens (p :: r)) := by
  intro r
  induction r with
  | nil =>
    intro p i out last hi _ _
    have hlt := drop_lt hi
    have := drop_nil (drop_succ hi)
    refine loop_out ?_
    unfold ref01_Pieces_l1
    dsimp only
    rw [w64_id (n := (i : Int) + 1) (by omega)]
    simp only [show ¬ (i : Int) + 1 < (c.Pts.length : Int) by omega, decide_false, cond_false, lens, List.append_nil]
  | cons q r ih =>
    intro p i out last hi hg ho
    have hlt := drop_lt hi
    have hi1 := drop_succ hi
    have hlt1 := drop_lt hi1
    have hp : okS p = true := List.all_eq_true.1 hok p (List.mem_of_mem_drop (i := i) (by rw [hi]; simp))
    have hq : okS q = true := List.all_eq_true.1 hok q (List.mem_of_mem_drop (i := i) (by rw [hi]; simp))
    have hv := okV_vec hp hq
    have hg1 : geti c.Pts ((i : Int) + 1) = some q := by have := geti_drop hi1; simpa using this
    obtain ⟨l, hl1, hl2, hl3⟩ := sq_dot hv
    cases hg with
    | cons _ _ _ _ h1 h2 h3 h4 hg =>
      have hll := hl3 h1
      subst hll
      simp only [List.length_cons] at ho
      have hstep : ref01_Pieces_l1 c (out, (i : Int)) = some (.go (out ++ [rt (dotv (vec p q) (vec p q))], ((i + 1 : Nat) : Int))) := by
        unfold ref01_Pieces_l1
        dsimp only
        rw [w64_id (n := (i : Int) + 1) (by omega)]
        simp only [show (i : Int) + 1 < (c.Pts.length : Int) by omega, decide_true, cond_true, geti_drop hi, hg1, Option.bind_some, ref01_Minus_eq hp hq, ref01_Dot_eq hv hv, hl1]
        rw [appc_ok (by simp; omega)]
        rfl
      rw [loop_go hstep, ih q (i + 1) _ _ hi1 hg (by simp; omega), lens_cons]
      simp
theorem ref01_Pieces_eq (c : Curve) (hl : c.Pts.length ≤ 1000000) : ref01_Pieces c = some (if checkM c.Pts = 0 then lens c.Pts else []) := by
  unfold ref01_Pieces
  rw [ref01_Check_eq c hl, Option.bind_some]
  by_cases h : checkM c.Pts = 0
  · rw [if_pos h, h]
    have hv := checkM_zero.1 h
    simp only [bne_self_eq_false, cond_false]
    cases hp : c.Pts with
    | nil => have := hv.two; rw [hp] at this; simp at this
    | cons p r =>
      have := ref01_pieces_loop c hl hv.ok r p 0 [] none (by rw [hp]; rfl) (by rw [← hp]; exact hv.good) (by rw [hp] at hl; simp at hl ⊢; omega)
      rw [show ((0 : Nat) : Int) = 0 from rfl] at this
      rw [this]; rfl
  · rw [if_neg h, show (checkM c.Pts != 0) = true from bne_iff_ne.2 h]; rfl

/-- A sum, as the programs take it. -/
def sumW : Int → List Int → Int
  | s, [] => s
  | s, a :: l => sumW (w64 (s + a)) l
theorem curve_Length_loop (l : List Int) (hl : l.length ≤ 1000000) : ∀ (r : List Int) (i : Nat) (s : Int), l.drop i = r → loop (curve_Length_l1 l) (s, (i : Int)) = some (sumW s r) := by
  intro r
  induction r with
  | nil =>
    intro i s hi
    have := drop_nil hi
    refine loop_out ?_
    unfold curve_Length_l1
    simp only [show ¬ (i : Int) < l.length by omega, decide_false, cond_false, sumW]
  | cons a r ih =>
    intro i s hi
    have hlt := drop_lt hi
    have hstep : curve_Length_l1 l (s, (i : Int)) = some (.go (w64 (s + a), ((i + 1 : Nat) : Int))) := by
      unfold curve_Length_l1
      simp only [show (i : Int) < l.length by omega, decide_true, cond_true, geti_drop hi, Option.bind_some]
      rw [w64_id (n := (i : Int) + 1) (by omega)]; rfl
    rw [loop_go hstep, ih (i + 1) _ (drop_succ hi), sumW]
theorem ref01_Length_loop (l : List Int) (hl : l.length ≤ 1000000) : ∀ (r : List Int) (i : Nat) (s : Int), l.drop i = r → loop (ref01_Length_l1 l) (s, (i : Int)) = some (sumW s r) := by
  intro r
  induction r with
  | nil =>
    intro i s hi
    have := drop_nil hi
    refine loop_out ?_
    unfold ref01_Length_l1
    simp only [show ¬ (i : Int) < l.length by omega, decide_false, cond_false, sumW]
  | cons a r ih =>
    intro i s hi
    have hlt := drop_lt hi
    have hstep : ref01_Length_l1 l (s, (i : Int)) = some (.go (w64 (s + a), ((i + 1 : Nat) : Int))) := by
      unfold ref01_Length_l1
      simp only [show (i : Int) < l.length by omega, decide_true, cond_true, geti_drop hi, Option.bind_some]
      rw [w64_id (n := (i : Int) + 1) (by omega)]; rfl
    rw [loop_go hstep, ih (i + 1) _ (drop_succ hi), sumW]
noncomputable def piecesL (c : Curve) : List Int := if checkM c.Pts = 0 then lens c.Pts else []
theorem lens_le : ∀ l : List Spot, (lens l).length ≤ l.length
  | [] => by simp [lens]
  | p :: r => by rw [lens_length]; simp
theorem piecesL_le (c : Curve) : (piecesL c).length ≤ c.Pts.length := by
  unfold piecesL
  split
  · exact lens_le _
  · simp
theorem curve_Length_eq (c : Curve) (hl : c.Pts.length ≤ 1000000) : curve_Length c = some (sumW 0 (piecesL c)) := by
  unfold curve_Length
  rw [curve_Pieces_eq c hl, Option.bind_some]
  have := piecesL_le c
  have h := curve_Length_loop (piecesL c) (by omega) (piecesL c) 0 0 (by simp)
  rw [show ((0 : Nat) : Int) = 0 from rfl] at h
  show (loop (curve_Length_l1 (piecesL c)) (0, 0)).bind _ = _
  rw [h]; rfl
theorem ref01_Length_eq (c : Curve) (hl : c.Pts.length ≤ 1000000) : ref01_Length c = some (sumW 0 (piecesL c)) := by
  unfold ref01_Length
  rw [ref01_Pieces_eq c hl, Option.bind_some]
  have := piecesL_le c
  have h := ref01_Length_loop (piecesL c) (by omega) (piecesL c) 0 0 (by simp)
  rw [show ((0 : Nat) : Int) = 0 from rfl] at h
  show (loop (ref01_Length_l1 (piecesL c)) (0, 0)).bind _ = _
  rw [h]; rfl
end Go.Abs.Curve

namespace Go.Abs.Curve
open Go Go.Abs

theorem sameLongs_go (a b : List Int) (hl : a.length ≤ 1000000) : ∀ (n : Nat) (i : Nat), a.length - i = n → (∀ j, j < i → a[j]? = b[j]?) → i ≤ a.length → i ≤ b.length →
    loop (kit_SameLongs_l1 a b) (i : Int) = some (if a.take (min a.length b.length) = b.take (min a.length b.length) then .inl () else .inr false) := by
  intro n
  induction n with
  | zero =>
    intro i hi hj h1 h2
    have hia : i = a.length := by omega
    subst hia
    have : kit_SameLongs_l1 a b (a.length : Int) = some (.out (.inl ())) := by
      unfold kit_SameLongs_l1
      simp only [Int.lt_irrefl, decide_false, Bool.false_and, cond_false]
    rw [loop_out this]
    have e : a.take (min a.length b.length) = b.take (min a.length b.length) := by
      rw [Nat.min_eq_left h2]
      apply List.ext_getElem?
      intro j
      rw [List.getElem?_take, List.getElem?_take]
      split
      · exact hj j ‹_›
      · rfl
    rw [if_pos e]
  | succ n ih =>
    intro i hi hj h1 h2
    have hlt : i < a.length := by omega
    by_cases hb : i < b.length
    · have hstep : kit_SameLongs_l1 a b (i : Int) = if a[i] = b[i] then some (.go ((i + 1 : Nat) : Int)) else some (.out (.inr false)) := by
        unfold kit_SameLongs_l1
        simp only [show (i : Int) < a.length by omega, show (i : Int) < b.length by omega, decide_true, Bool.true_and, cond_true, geti_nat hlt, geti_nat hb, Option.bind_some]
        by_cases h : a[i] = b[i]
        · rw [if_pos h, h]
          simp only [bne_self_eq_false, cond_false]
          rw [w64_id (n := (i : Int) + 1) (by omega)]; rfl
        · rw [if_neg h, bne_iff_ne.2 h]; rfl
      by_cases h : a[i] = b[i]
      · rw [if_pos h] at hstep
        rw [loop_go hstep]
        refine ih (i + 1) (by omega) (fun j hj' => ?_) (by omega) (by omega)
        rcases Nat.lt_succ_iff_lt_or_eq.1 hj' with q | rfl
        · exact hj j q
        · rw [List.getElem?_eq_getElem hlt, List.getElem?_eq_getElem hb, h]
      · rw [if_neg h] at hstep
        rw [loop_out hstep, if_neg]
        intro e
        have := congrArg (fun z => z[i]?) e
        simp only [List.getElem?_take, show i < min a.length b.length by omega, if_true, List.getElem?_eq_getElem hlt, List.getElem?_eq_getElem hb, Option.some.injEq] at this
        exact h this
    · have hib : i = b.length := by omega
      have hstep : kit_SameLongs_l1 a b (i : Int) = some (.out (.inl ())) := by
        unfold kit_SameLongs_l1
        simp only [show ¬ (i : Int) < b.length by omega, decide_false, Bool.and_false, cond_false]
      rw [loop_out hstep, if_pos]
      rw [Nat.min_eq_right (by omega)]
      apply List.ext_getElem?
      intro j
      rw [List.getElem?_take, List.getElem?_take]
      split
      · exact hj j (by omega)
      · rfl
theorem kit_SameLongs_eq (a b : List Int) (hl : a.length ≤ 1000000) : kit_SameLongs a b = some (decide (a = b)) := by
  unfold kit_SameLongs
  have h := sameLongs_go a b hl a.length 0 (by simp) (fun j hj => by omega) (by omega) (by omega)
  rw [show ((0 : Nat) : Int) = 0 from rfl] at h
  rw [h]
  by_cases he : a.length = b.length
  · have e1 : a.take (min a.length b.length) = a := List.take_of_length_le (by omega)
    have e2 : b.take (min a.length b.length) = b := List.take_of_length_le (by omega)
    rw [e1, e2]
    by_cases hab : a = b
    · simp [hab, thenS]
    · simp [hab, thenS]
  · have hne : a ≠ b := fun e => he (by rw [e])
    have e1 : ((a.length : Int) == (b.length : Int)) = false := beq_eq_false_iff_ne.2 (by omega)
    split
    · simp only [thenS, e1, hne, decide_false]
    · simp only [thenS, hne, decide_false]
theorem sameSpots_go (a : List Spot) (hl : a.length ≤ 1000000) : ∀ (r : List Spot) (i : Nat), a.drop i = r → loop (kit_SameSpots_l1 a a) (i : Int) = some (.inl ()) := by
  intro r
  induction r with
  | nil =>
    intro i hi
    have := drop_nil hi
    refine loop_out ?_
    unfold kit_SameSpots_l1
    simp only [show ¬ (i : Int) < a.length by omega, decide_false, cond_false]
  | cons p r ih =>
    intro i hi
    have hlt := drop_lt hi
    have hstep : kit_SameSpots_l1 a a (i : Int) = some (.go ((i + 1 : Nat) : Int)) := by
      unfold kit_SameSpots_l1
      simp only [show (i : Int) < a.length by omega, decide_true, cond_true, geti_drop hi, Option.bind_some, beq_self_eq_true, Bool.and_self, Bool.not_true, cond_false]
      rw [w64_id (n := (i : Int) + 1) (by omega)]; rfl
    rw [loop_go hstep, ih (i + 1) (drop_succ hi)]
theorem kit_SameSpots_self (a : List Spot) (hl : a.length ≤ 1000000) : kit_SameSpots a a = some true := by
  unfold kit_SameSpots
  have h := sameSpots_go a hl a 0 (by simp)
  rw [show ((0 : Nat) : Int) = 0 from rfl] at h
  simp only [bne_self_eq_false, cond_false, h]
  rfl
theorem law01_own_eq (c : Curve) (hl : c.Pts.length ≤ 1000000) : law01_own c = some c := by
  unfold law01_own kit_OwnSpots
  rw [appc_ok (by simp; omega)]
  simp

/-! ### The chapter's examples -/
theorem of6 (a b c d e f : Int) : law01_of [a, b, c, d, e, f] = some ⟨[⟨a, b⟩, ⟨c, d⟩, ⟨e, f⟩]⟩ := by
  unfold law01_of
  rw [loop_go (s' := (2, ⟨[⟨a, b⟩]⟩)) rfl, loop_go (s' := (4, ⟨[⟨a, b⟩, ⟨c, d⟩]⟩)) rfl, loop_go (s' := (6, ⟨[⟨a, b⟩, ⟨c, d⟩, ⟨e, f⟩]⟩)) rfl, loop_out (t := ⟨[⟨a, b⟩, ⟨c, d⟩, ⟨e, f⟩]⟩) rfl]
  rfl
theorem of4 (a b c d : Int) : law01_of [a, b, c, d] = some ⟨[⟨a, b⟩, ⟨c, d⟩]⟩ := by
  unfold law01_of
  rw [loop_go (s' := (2, ⟨[⟨a, b⟩]⟩)) rfl, loop_go (s' := (4, ⟨[⟨a, b⟩, ⟨c, d⟩]⟩)) rfl, loop_out (t := ⟨[⟨a, b⟩, ⟨c, d⟩]⟩) rfl]
  rfl
def bentC : Curve := ⟨[⟨0, 0⟩, ⟨3000, 4000⟩, ⟨8000, 4000⟩]⟩
theorem bent_eq : law01_bent = some bentC := by unfold law01_bent; rw [of6]; rfl
theorem rt_5000 : rt 25000000 = 5000 := rt_sq (l := 5000) (by decide) (by decide)
theorem bent_d1 : dotv (vec ⟨0, 0⟩ ⟨3000, 4000⟩) (vec ⟨0, 0⟩ ⟨3000, 4000⟩) = 25000000 := by decide
theorem bent_d2 : dotv (vec ⟨3000, 4000⟩ ⟨8000, 4000⟩) (vec ⟨3000, 4000⟩ ⟨8000, 4000⟩) = 25000000 := by decide
theorem bent_valid : Valid bentC.Pts := by
  refine ⟨by decide, by decide, by decide, ?_⟩
  refine .cons _ _ _ _ ?_ ?_ ?_ (fun u hu => by cases hu) (.cons _ _ _ _ ?_ ?_ ?_ (fun u hu => by cases hu; decide) (.one _ _))
  all_goals first | rw [bent_d1, rt_5000] | rw [bent_d2, rt_5000]
  all_goals decide
theorem bent_lens : lens bentC.Pts = [5000, 5000] := by
  show lens [_, _, _] = _
  rw [lens_cons, lens_cons, bent_d1, bent_d2, rt_5000]
  rfl
theorem bent_pieces : piecesM 0 0 bentC.Pts = [(0, ⟨⟨0, 0⟩, ⟨3000, 4000⟩, 5000, 0⟩), (1, ⟨⟨3000, 4000⟩, ⟨5000, 0⟩, 5000, 5000⟩)] := by
  show piecesM 0 0 [_, _, _] = _
  rw [piecesM_cons, piecesM_cons, bent_d1, bent_d2, rt_5000]
  rfl
theorem bent_Length : curve_Length bentC = some 10000 := by
  rw [curve_Length_eq _ (by decide), piecesL, if_pos (checkM_zero.2 bent_valid), bent_lens]
  rfl
theorem bent_At : curve_At bentC 2500 = some ⟨1500, 2000⟩ := by
  unfold curve_At
  rw [curve_Check_eq _ (by decide), checkM_zero.2 bent_valid]
  simp only [Option.bind_some, bne_self_eq_false, cond_false]
  unfold curve_find
  rw [piecesC_eq bent_valid, bent_pieces]
  rfl
theorem of_bad : curve_Check ⟨[⟨0, 0⟩, ⟨1000, 1000⟩]⟩ = some 3 := by
  rw [curve_Check_eq _ (by decide)]
  have hd : dotv (vec ⟨0, 0⟩ ⟨1000, 1000⟩) (vec ⟨0, 0⟩ ⟨1000, 1000⟩) = 2000000 := by decide
  have hr : rt 2000000 * rt 2000000 ≠ 2000000 := by
    intro h
    have h0 := rt_nonneg 2000000
    rcases Int.lt_or_le (rt 2000000) 1415 with q | q
    · have := Int.mul_le_mul (show rt 2000000 ≤ 1414 by omega) (show rt 2000000 ≤ 1414 by omega) h0 (by decide); omega
    · have := Int.mul_le_mul q q (by decide) h0; omega
  unfold checkM
  rw [if_neg (by decide), if_neg (by decide), if_pos (by decide), goM_cons, hd, if_pos hr]
theorem awake_eq : law01_awake = some true := by
  unfold law01_awake
  simp only [bent_eq, Option.bind_some, bent_Length, beq_self_eq_true, cond_true, bent_At, Bool.and_self, of4, of_bad]
theorem law01_long_eq (c : Curve) : law01_long c = some (decide (c.Pts.length > 20)) := by
  unfold law01_long
  congr 1
  by_cases h : c.Pts.length > 20 <;> simp [h] <;> omega
theorem law01_CurveChecks_plain (c : Curve) : law01_CurveChecks c = some true := by
  unfold law01_CurveChecks
  rw [law01_long_eq, Option.bind_some]
  by_cases hl : c.Pts.length > 20
  · simp only [hl, decide_true, cond_true, awake_eq, Option.bind_some]
  · simp only [hl, decide_false, cond_false]
    have hl' : c.Pts.length ≤ 1000000 := by omega
    have hp := piecesL_le c
    have e1 : curve_Pieces c = some (piecesL c) := curve_Pieces_eq c hl'
    have e2 : ref01_Pieces c = some (piecesL c) := ref01_Pieces_eq c hl'
    simp only [law01_own_eq c hl', curve_Check_eq c hl', ref01_Check_eq c hl', curve_Length_eq c hl', ref01_Length_eq c hl', e1, e2, Option.bind_some, beq_self_eq_true, cond_true, Bool.and_self, kit_SameLongs_eq _ _ (show (piecesL c).length ≤ 1000000 by omega), decide_true, kit_SameSpots_self _ hl', awake_eq]
end Go.Abs.Curve
