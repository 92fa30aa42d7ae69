/-
  Plain facts on the functions: what they compute, and that the law holds of it.
-/
import Derived.Test.YtkpmfcpgmhkleaaFns1

namespace Go.Abs.Curve
open Go Go.Abs

theorem curve_root_spec (n : Int) : ∃ y, curve_root n = some (y, y * y == n) ∧ 0 ≤ y ∧ y ≤ 67108864 ∧ (∀ m, 0 ≤ m → m < y → m * m < n) ∧ (y = 67108864 ∨ n ≤ y * y) := by
  have key := loop_inv (f := curve_root_l1 n) (fun x => 0 ≤ x.1 ∧ x.1 ≤ x.2 ∧ x.2 ≤ 67108864 ∧ (∀ m, 0 ≤ m → m < x.1 → m * m < n) ∧ (x.2 = 67108864 ∨ n ≤ x.2 * x.2)) (fun x => (x.2 - x.1).toNat)
    (fun y => 0 ≤ y ∧ y ≤ 67108864 ∧ (∀ m, 0 ≤ m → m < y → m * m < n) ∧ (y = 67108864 ∨ n ≤ y * y)) (by
      rintro ⟨lo, hi⟩ ⟨h1, h2, h3, h4, h5⟩
      dsimp only at h1 h2 h3 h4 h5
      unfold curve_root_l1
      dsimp only
      by_cases hlt : lo < hi
      · have e1 : w64 (lo + hi) = lo + hi := w64_id (by omega)
        have e2 : w64 ((lo + hi).tdiv 2) = (lo + hi) / 2 := by rw [Int.tdiv_eq_ediv_of_nonneg (by omega)]; exact w64_id (by omega)
        have hm : lo ≤ (lo + hi) / 2 ∧ (lo + hi) / 2 < hi := by omega
        generalize hmid : (lo + hi) / 2 = mid at *
        have hmm : mid * mid ≤ 67108864 * 67108864 := sq_le (by omega) (by omega)
        have hmm0 := sq_nonneg mid
        have e3 : w64 (mid * mid) = mid * mid := w64_id (by omega)
        have e4 : w64 (mid + 1) = mid + 1 := w64_id (by omega)
        simp only [e1, e2, e3, e4, hlt, decide_true, cond_true]
        by_cases hc : mid * mid < n
        · simp only [hc, decide_true, cond_true]
          refine ⟨_, rfl, ⟨by omega, by omega, h3, fun m hm0 hm1 => ?_, h5⟩, by dsimp only; omega⟩
          rcases Int.lt_or_le m mid with q | q
          · have := Int.mul_le_mul (show m ≤ mid by omega) (show m ≤ mid by omega) hm0 (by omega); omega
          · have : m = mid := by dsimp only at hm1; omega
            subst this; exact hc
        · simp only [hc, decide_false, cond_false]
          exact ⟨_, rfl, ⟨h1, by dsimp only; omega, by dsimp only; omega, h4, .inr (by dsimp only; omega)⟩, by dsimp only; omega⟩
      · simp only [hlt, decide_false, cond_false]
        obtain rfl : lo = hi := by omega
        exact ⟨_, rfl, h1, h3, h4, h5⟩) (0, 67108864) ⟨by decide, by decide, by decide, fun m h1 h2 => by dsimp only at h2; omega, .inl rfl⟩
  obtain ⟨y, hy, h1, h2, h3, h4⟩ := key
  refine ⟨y, ?_, h1, h2, h3, h4⟩
  have hmm : y * y ≤ 67108864 * 67108864 := sq_le (by omega) (by omega)
  have hmm0 := sq_nonneg y
  unfold curve_root
  rw [hy, Option.bind_some, w64_id (by omega)]
/-- The least number whose square is not less. -/
noncomputable def rt (n : Int) : Int := (curve_root_spec n).choose
theorem curve_root_rt (n : Int) : curve_root n = some (rt n, rt n * rt n == n) := (curve_root_spec n).choose_spec.1
theorem rt_nonneg (n : Int) : 0 ≤ rt n := (curve_root_spec n).choose_spec.2.1
theorem rt_min (n m : Int) (h1 : 0 ≤ m) (h2 : m < rt n) : m * m < n := (curve_root_spec n).choose_spec.2.2.2.1 m h1 h2
theorem rt_max (n : Int) : rt n = 67108864 ∨ n ≤ rt n * rt n := (curve_root_spec n).choose_spec.2.2.2.2
theorem rt_sq {l : Int} (h0 : 0 ≤ l) (h1 : l ≤ 67108864) : rt (l * l) = l := by
  rcases Int.lt_trichotomy (rt (l * l)) l with q | q | q
  · rcases rt_max (l * l) with h | h
    · omega
    · have h2 := rt_nonneg (l * l)
      have := Int.mul_lt_mul' (show rt (l * l) ≤ l by omega) q h2 (by omega); omega
  · exact q
  · have := rt_min (l * l) l h0 q; omega

end Go.Abs.Curve

namespace Go.Abs.Curve
open Go Go.Abs

def okS (p : Spot) : Bool := decide (-16777216 ≤ p.X) && decide (p.X ≤ 16777216) && decide (-16777216 ≤ p.Y) && decide (p.Y ≤ 16777216)
theorem okS_iff {p : Spot} : okS p = true ↔ -16777216 ≤ p.X ∧ p.X ≤ 16777216 ∧ -16777216 ≤ p.Y ∧ p.Y ≤ 16777216 := by simp [okS, and_assoc]
theorem fair_cond (p : Spot) : ((decide ((mm2 false p.X p.Y) < (-16777216))) || (decide ((mm2 true p.X p.Y) > 16777216))) = !okS p := by
  rw [mm2_min, mm2_max]
  cases h : okS p with
  | true => have := okS_iff.1 h; simp; omega
  | false =>
    have : ¬ (-16777216 ≤ p.X ∧ p.X ≤ 16777216 ∧ -16777216 ≤ p.Y ∧ p.Y ≤ 16777216) := fun q => by rw [okS_iff.2 q] at h; cases h
    simp; omega
theorem curve_fair_go (l : List Spot) (hl : l.length ≤ 1000000) : ∀ (r : List Spot) (i : Nat), l.drop i = r → loop (curve_fair_l1 l) (i : Int) = some (if r.all okS then .inl () else .inr false) := by
  intro r
  induction r with
  | nil =>
    intro i hi
    have := drop_nil hi
    refine loop_out ?_
    unfold curve_fair_l1
    simp only [show ¬ (i : Int) < l.length by omega, decide_false, cond_false, List.all_nil, if_true]
  | cons p r ih =>
    intro i hi
    have hlt := drop_lt hi
    have hstep : curve_fair_l1 l (i : Int) = if okS p then some (.go ((i + 1 : Nat) : Int)) else some (.out (.inr false)) := by
      unfold curve_fair_l1
      simp only [show (i : Int) < l.length by omega, decide_true, cond_true, geti_drop hi, Option.bind_some, fair_cond]
      cases h : okS p with
      | true => simp only [Bool.not_true, cond_false, if_true]; rw [w64_id (by omega)]; rfl
      | false => simp
    cases h : okS p with
    | true =>
      rw [h, if_pos rfl] at hstep
      rw [loop_go hstep, ih (i + 1) (drop_succ hi)]
      simp [h]
    | false =>
      rw [h] at hstep
      rw [loop_out hstep]
      simp [h]
theorem curve_fair_eq (l : List Spot) (hl : l.length ≤ 1000000) : curve_fair l = some (l.all okS) := by
  unfold curve_fair
  have := curve_fair_go l hl l 0 (by simp)
  rw [show ((0 : Nat) : Int) = 0 from rfl] at this
  rw [this]
  cases l.all okS <;> rfl
theorem ref01_Valid_eq (p : Spot) : ref01_Valid p = some (okS p) := by
  unfold ref01_Valid okS; rfl

def vec (p q : Spot) : CurveVector := ⟨q.X - p.X, q.Y - p.Y⟩
def dotv (v w : CurveVector) : Int := v.x * w.x + v.y * w.y
/-- A vector between valid spots. -/
def okV (v : CurveVector) : Prop := -33554432 ≤ v.x ∧ v.x ≤ 33554432 ∧ -33554432 ≤ v.y ∧ v.y ≤ 33554432
theorem okV_vec {p q : Spot} (hp : okS p = true) (hq : okS q = true) : okV (vec p q) := by
  have := okS_iff.1 hp; have := okS_iff.1 hq
  unfold okV vec; dsimp only; omega
theorem curve_from_eq {p q : Spot} (hp : okS p = true) (hq : okS q = true) : curve_from p q = some (vec p q) := by
  have := okS_iff.1 hp; have := okS_iff.1 hq
  unfold curve_from vec
  rw [w64_id (by omega), w64_id (by omega)]
theorem dot_bd {v w : CurveVector} (hv : okV v) (hw : okV w) : -2251799813685248 ≤ dotv v w ∧ dotv v w ≤ 2251799813685248 ∧ (-1125899906842624 ≤ v.x * w.x ∧ v.x * w.x ≤ 1125899906842624) ∧ -1125899906842624 ≤ v.y * w.y ∧ v.y * w.y ≤ 1125899906842624 := by
  obtain ⟨a1, a2, a3, a4⟩ := hv
  obtain ⟨b1, b2, b3, b4⟩ := hw
  have h1 := mul_bd ⟨a1, a2⟩ ⟨b1, b2⟩
  have h2 := mul_bd ⟨a3, a4⟩ ⟨b3, b4⟩
  unfold dotv
  omega
theorem curve_dot_eq {v w : CurveVector} (hv : okV v) (hw : okV w) : curve_vector_dot v w = some (dotv v w) := by
  have h := dot_bd hv hw
  unfold curve_vector_dot
  rw [w64_id (n := v.x * w.x) (by omega), w64_id (n := v.y * w.y) (by omega), w64_id (by unfold dotv at h; omega)]
  rfl
def vs (v : CurveVector) : Spot := ⟨v.x, v.y⟩
theorem ref01_Minus_eq {p q : Spot} (hp : okS p = true) (hq : okS q = true) : ref01_Minus q p = some (vs (vec p q)) := by
  have := okS_iff.1 hp; have := okS_iff.1 hq
  unfold ref01_Minus vec vs
  rw [w64_id (by omega), w64_id (by omega)]
theorem ref01_Dot_eq {v w : CurveVector} (hv : okV v) (hw : okV w) : ref01_Dot (vs v) (vs w) = some (dotv v w) := by
  have h := dot_bd hv hw
  unfold ref01_Dot vs
  dsimp only
  rw [w64_id (n := v.x * w.x) (by omega), w64_id (n := v.y * w.y) (by omega), w64_id (by unfold dotv at h; omega)]
  rfl

/-- The error of a chain of points, from a piece on; the piece ahead of it. -/
noncomputable def goM : Option CurveVector → List Spot → Int
  | last, p :: q :: r =>
    if rt (dotv (vec p q) (vec p q)) * rt (dotv (vec p q) (vec p q)) ≠ dotv (vec p q) (vec p q) then 3
    else if rt (dotv (vec p q) (vec p q)) < 1000 ∨ rt (dotv (vec p q) (vec p q)) > 1048576 then 2
    else match last with
      | some u => if dotv u (vec p q) ≤ 0 then 12 else goM (some (vec p q)) (q :: r)
      | none => goM (some (vec p q)) (q :: r)
  | _, _ => 0
theorem goM_cons (last : Option CurveVector) (p q : Spot) (r : List Spot) : goM last (p :: q :: r) =
    if rt (dotv (vec p q) (vec p q)) * rt (dotv (vec p q) (vec p q)) ≠ dotv (vec p q) (vec p q) then 3
    else if rt (dotv (vec p q) (vec p q)) < 1000 ∨ rt (dotv (vec p q) (vec p q)) > 1048576 then 2
    else match last with
      | some u => if dotv u (vec p q) ≤ 0 then 12 else goM (some (vec p q)) (q :: r)
      | none => goM (some (vec p q)) (q :: r) := by
  conv => lhs; unfold goM
noncomputable def checkM (l : List Spot) : Int := if l.length < 2 then 6 else if l.length > 16 then 5 else if l.all okS then goM none l else 2

theorem curve_Check_go (c : Curve) (hl : c.Pts.length ≤ 1000000) (hok : c.Pts.all okS = true) : ∀ (r : List Spot) (p : Spot) (i : Nat) (last : CurveVector), c.Pts.drop i = p :: r → okV last →
    loop (curve_Check_l1 c) ((i : Int), last) = some (if goM (if i = 0 then none else some last) (p :: r) = 0 then .inl () else .inr (goM (if i = 0 then none else some last) (p :: r))) := by
  intro r
  induction r with
  | nil =>
    intro p i last hi hlast
    have hlt := drop_lt hi
    have := drop_nil (drop_succ hi)
    refine loop_out ?_
    unfold curve_Check_l1
    dsimp only
    rw [w64_id (n := (c.Pts.length : Int) - 1) (by omega)]
    simp only [show ¬ (i : Int) < (c.Pts.length : Int) - 1 by omega, decide_false, cond_false, goM, if_true]
  | cons q r ih =>
    intro p i last hi hlast
    have hlt := drop_lt hi
    have hi1 := drop_succ hi
    have hlt1 := drop_lt hi1
    have hp : okS p = true := List.all_eq_true.1 hok p (List.mem_of_mem_drop (i := i) (by rw [hi]; simp))
    have hq : okS q = true := List.all_eq_true.1 hok q (List.mem_of_mem_drop (i := i) (by rw [hi]; simp))
    have hv := okV_vec hp hq
    have hg1 : geti c.Pts ((i : Int) + 1) = some q := by have := geti_drop hi1; simpa using this
    have hstep : curve_Check_l1 c ((i : Int), last) =
        if rt (dotv (vec p q) (vec p q)) * rt (dotv (vec p q) (vec p q)) ≠ dotv (vec p q) (vec p q) then some (.out (.inr 3))
        else if rt (dotv (vec p q) (vec p q)) < 1000 ∨ rt (dotv (vec p q) (vec p q)) > 1048576 then some (.out (.inr 2))
        else if i ≠ 0 ∧ dotv last (vec p q) ≤ 0 then some (.out (.inr 12)) else some (.go (((i + 1 : Nat) : Int), vec p q)) := by
      unfold curve_Check_l1
      dsimp only
      rw [w64_id (n := (c.Pts.length : Int) - 1) (by omega), w64_id (n := (i : Int) + 1) (by omega)]
      simp only [show (i : Int) < (c.Pts.length : Int) - 1 by omega, decide_true, cond_true, geti_drop hi, hg1, Option.bind_some, curve_from_eq hp hq, curve_dot_eq hv hv, curve_root_rt]
      by_cases h1 : rt (dotv (vec p q) (vec p q)) * rt (dotv (vec p q) (vec p q)) = dotv (vec p q) (vec p q)
      · simp only [h1, beq_self_eq_true, Bool.not_true, cond_false, ne_eq, not_true_eq_false, if_false]
        by_cases h2 : rt (dotv (vec p q) (vec p q)) < 1000 ∨ rt (dotv (vec p q) (vec p q)) > 1048576
        · rw [if_pos h2]
          have : (decide (rt (dotv (vec p q) (vec p q)) < 1000) || decide (rt (dotv (vec p q) (vec p q)) > 1048576)) = true := by simpa using h2
          rw [this]; rfl
        · rw [if_neg h2]
          have : (decide (rt (dotv (vec p q) (vec p q)) < 1000) || decide (rt (dotv (vec p q) (vec p q)) > 1048576)) = false := by simpa using h2
          rw [this]
          simp only [cond_false]
          by_cases h3 : i = 0
          · subst h3
            simp only [Int.natCast_zero, gt_iff_lt, Int.lt_irrefl, decide_false, cond_false, Bool.false_and, Option.bind_some, not_true_eq_false, false_and, if_false]
            rfl
          · have h4 : (i : Int) > 0 := by omega
            simp only [h4, decide_true, cond_true, curve_dot_eq hlast hv, Option.bind_some, Bool.true_and, h3, not_false_eq_true, true_and]
            by_cases h5 : dotv last (vec p q) ≤ 0 <;> simp [h5]
      · have : (rt (dotv (vec p q) (vec p q)) * rt (dotv (vec p q) (vec p q)) == dotv (vec p q) (vec p q)) = false := by simpa using h1
        simp only [this, Bool.not_false, cond_true, ne_eq, h1, not_false_eq_true, if_true]
    rw [goM_cons]
    by_cases h1 : rt (dotv (vec p q) (vec p q)) * rt (dotv (vec p q) (vec p q)) ≠ dotv (vec p q) (vec p q)
    · rw [if_pos h1] at hstep
      rw [loop_out hstep, if_pos h1]; rfl
    · rw [if_neg h1] at hstep ⊢
      by_cases h2 : rt (dotv (vec p q) (vec p q)) < 1000 ∨ rt (dotv (vec p q) (vec p q)) > 1048576
      · rw [if_pos h2] at hstep
        rw [loop_out hstep, if_pos h2]; rfl
      · rw [if_neg h2] at hstep ⊢
        by_cases h3 : i = 0
        · subst h3
          rw [if_neg (by simp)] at hstep
          rw [loop_go hstep, ih q (0 + 1) (vec p q) hi1 hv]
          simp
        · by_cases h5 : dotv last (vec p q) ≤ 0
          · rw [if_pos ⟨h3, h5⟩] at hstep
            rw [loop_out hstep]
            simp [h3, h5]
          · rw [if_neg (fun h => h5 h.2)] at hstep
            rw [loop_go hstep, ih q (i + 1) (vec p q) hi1 hv]
            simp [h3, h5]
theorem curve_Check_eq (c : Curve) (hl : c.Pts.length ≤ 1000000) : curve_Check c = some (checkM c.Pts) := by
  unfold curve_Check checkM
  by_cases h1 : c.Pts.length < 2
  · rw [if_pos h1, show decide ((c.Pts.length : Int) < 2) = true by simp; omega]; rfl
  · rw [if_neg h1, show decide ((c.Pts.length : Int) < 2) = false by simp; omega]
    simp only [cond_false]
    by_cases h2 : c.Pts.length > 16
    · rw [if_pos h2, show decide ((c.Pts.length : Int) > 16) = true by simp; omega]; rfl
    · rw [if_neg h2, show decide ((c.Pts.length : Int) > 16) = false by simp; omega]
      simp only [cond_false, curve_fair_eq c.Pts hl, Option.bind_some]
      cases h3 : c.Pts.all okS with
      | false => rfl
      | true =>
        simp only [Bool.not_true, cond_false, if_true]
        cases hp : c.Pts with
        | nil => rw [hp] at h1; simp at h1
        | cons p r =>
          have := curve_Check_go c hl h3 r p 0 ⟨0, 0⟩ (by rw [hp]; rfl) ⟨by decide, by decide, by decide, by decide⟩
          rw [if_pos rfl, show ((0 : Nat) : Int) = 0 from rfl] at this
          rw [this]
          by_cases h4 : goM none (p :: r) = 0
          · rw [if_pos h4, h4]; rfl
          · rw [if_neg h4]; rfl
end Go.Abs.Curve

namespace Go.Abs.Curve
open Go Go.Abs

/-- What a valid chain is. -/
inductive Good : Option CurveVector → List Spot → Prop
  | one (last : Option CurveVector) (p : Spot) : Good last [p]
  | cons (last : Option CurveVector) (p q : Spot) (r : List Spot) (h1 : rt (dotv (vec p q) (vec p q)) * rt (dotv (vec p q) (vec p q)) = dotv (vec p q) (vec p q)) (h2 : 1000 ≤ rt (dotv (vec p q) (vec p q))) (h3 : rt (dotv (vec p q) (vec p q)) ≤ 1048576)
      (h4 : ∀ u, last = some u → 0 < dotv u (vec p q)) (h : Good (some (vec p q)) (q :: r)) : Good last (p :: q :: r)
theorem good_of_goM : ∀ (r : List Spot) (p : Spot) (last : Option CurveVector), goM last (p :: r) = 0 → Good last (p :: r) := by
  intro r
  induction r with
  | nil => intro p last _; exact .one _ _
  | cons q r ih =>
    intro p last h
    rw [goM_cons] at h
    split at h
    · cases h
    · rename_i h1
      split at h
      · cases h
      · rename_i h2
        have h1 : rt (dotv (vec p q) (vec p q)) * rt (dotv (vec p q) (vec p q)) = dotv (vec p q) (vec p q) := by simpa using h1
        cases last with
        | none => exact .cons _ _ _ _ h1 (by omega) (by omega) (fun u hu => by cases hu) (ih q _ h)
        | some u =>
          dsimp only at h
          split at h
          · cases h
          · exact .cons _ _ _ _ h1 (by omega) (by omega) (fun u' hu => by cases hu; omega) (ih q _ h)
theorem goM_of_good {last : Option CurveVector} {l : List Spot} (h : Good last l) : goM last l = 0 := by
  induction h with
  | one => rfl
  | cons last p q r h1 h2 h3 h4 h ih =>
    rw [goM_cons, if_neg (by simpa using h1), if_neg (by omega)]
    cases last with
    | none => exact ih
    | some u => dsimp only; rw [if_neg (by have := h4 u rfl; omega)]; exact ih
structure Valid (l : List Spot) : Prop where
  two : 2 ≤ l.length
  most : l.length ≤ 16
  ok : l.all okS = true
  good : Good none l
theorem checkM_zero {l : List Spot} : checkM l = 0 ↔ Valid l := by
  unfold checkM
  constructor
  · intro h
    split at h
    · cases h
    · rename_i h1
      split at h
      · cases h
      · rename_i h2
        split at h
        · rename_i h3
          cases l with
          | nil => simp at h1
          | cons p r => exact ⟨by omega, by omega, h3, good_of_goM r p none h⟩
        · cases h
  · rintro ⟨h1, h2, h3, h4⟩
    rw [if_neg (by omega), if_neg (by omega), if_pos h3]
    exact goM_of_good h4
end Go.Abs.Curve

namespace Go.Abs.Curve
open Go Go.Abs

/-- The pieces of a chain: the number, the piece. -/
noncomputable def piecesM : Nat → Int → List Spot → List (Int × CurvePiece)
  | i, s, p :: q :: r => ((i : Int), ⟨p, vec p q, rt (dotv (vec p q) (vec p q)), s⟩) :: piecesM (i + 1) (w64 (s + rt (dotv (vec p q) (vec p q)))) (q :: r)
  | _, _, _ => []
theorem piecesM_cons (i : Nat) (s : Int) (p q : Spot) (r : List Spot) : piecesM i s (p :: q :: r) = ((i : Int), ⟨p, vec p q, rt (dotv (vec p q) (vec p q)), s⟩) :: piecesM (i + 1) (w64 (s + rt (dotv (vec p q) (vec p q)))) (q :: r) := by conv => lhs; unfold piecesM
theorem piecesGo_eq (pts : List Spot) (hok : pts.all okS = true) : ∀ (r : List Spot) (p : Spot) (i : Nat) (s : Int), pts.drop i = p :: r → piecesGo pts r.length i s = some (piecesM i s (p :: r)) := by
  intro r
  induction r with
  | nil => intro p i s _; rfl
  | cons q r ih =>
    intro p i s hi
    have hi1 := drop_succ hi
    have hp : okS p = true := List.all_eq_true.1 hok p (List.mem_of_mem_drop (i := i) (by rw [hi]; simp))
    have hq : okS q = true := List.all_eq_true.1 hok q (List.mem_of_mem_drop (i := i) (by rw [hi]; simp))
    have hv := okV_vec hp hq
    have h0 : pts[i]? = some p := by have := congrArg (fun z => z[0]?) hi; simpa using this
    have h1 : pts[i + 1]? = some q := by have := congrArg (fun z => z[0]?) hi1; simpa using this
    rw [List.length_cons, piecesGo, h0, h1]
    simp only [Option.bind_some, curve_from_eq hp hq, curve_dot_eq hv hv, curve_root_rt]
    rw [ih q (i + 1) _ hi1, piecesM_cons]
    rfl
theorem piecesC_eq {pts : List Spot} (h : Valid pts) : piecesC pts = some (piecesM 0 0 pts) := by
  unfold piecesC
  have := h.most
  rw [if_pos (by omega)]
  cases hp : pts with
  | nil => have := h.two; rw [hp] at this; simp at this
  | cons p r => exact piecesGo_eq (p :: r) (by rw [← hp]; exact h.ok) r p 0 0 rfl
/-- The lengths. -/
noncomputable def lens : List Spot → List Int
  | p :: q :: r => rt (dotv (vec p q) (vec p q)) :: lens (q :: r)
  | _ => []
theorem lens_cons (p q : Spot) (r : List Spot) : lens (p :: q :: r) = rt (dotv (vec p q) (vec p q)) :: lens (q :: r) := by conv => lhs; unfold lens
theorem lens_length : ∀ (r : List Spot) (p : Spot), (lens (p :: r)).length = r.length
  | [], _ => rfl
  | q :: r, p => by rw [lens_cons, List.length_cons, lens_length r q, List.length_cons]
theorem piecesM_lens : ∀ (r : List Spot) (p : Spot) (i : Nat) (s : Int), (piecesM i s (p :: r)).map (·.2.l) = lens (p :: r)
  | [], _, _, _ => rfl
  | q :: r, p, i, s => by rw [piecesM_cons, lens_cons, List.map_cons, piecesM_lens r q]
theorem pieces_loop : ∀ (L : List (Int × CurvePiece)) (out : List Int), out.length + L.length ≤ 1000000000 → loopL curve_Pieces_l1 (fun x => x) L out = some (out ++ L.map (·.2.l)) := by
  intro L
  induction L with
  | nil => intro out _; simp [loopL]
  | cons a L ih =>
    intro out h
    simp only [List.length_cons] at h
    have : curve_Pieces_l1 out a = some (.go (out ++ [a.2.l])) := by
      unfold curve_Pieces_l1
      rw [appc_ok (by simp; omega)]; rfl
    rw [loopL, this]
    dsimp only
    rw [ih _ (by simp; omega)]
    simp
theorem curve_Pieces_eq (c : Curve) (hl : c.Pts.length ≤ 1000000) : curve_Pieces c = some (if checkM c.Pts = 0 then lens c.Pts else []) := by
  unfold curve_Pieces
  rw [curve_Check_eq c hl, Option.bind_some]
  by_cases h : checkM c.Pts = 0
  · rw [if_pos h, h]
    have hv := checkM_zero.1 h
    have := hv.most
    simp only [bne_self_eq_false, cond_false, piecesC_eq hv, Option.bind_some]
    cases hp : c.Pts with
    | nil => have := hv.two; rw [hp] at this; simp at this
    | cons p r =>
      have e := piecesM_lens r p 0 0
      rw [pieces_loop _ _ (by
        have := congrArg List.length e
        rw [List.length_map, lens_length] at this
        rw [this]; rw [hp] at hl; simp at hl ⊢; omega)]
      rw [e]; rfl
  · rw [if_neg h, show (checkM c.Pts != 0) = true from bne_iff_ne.2 h]; rfl

/-- A sum, as the programs take it. -/
def sumW : Int → List Int → Int
  | s, [] => s
  | s, a :: l => sumW (w64 (s + a)) l
theorem curve_Length_loop (l : List Int) (hl : l.length ≤ 1000000) : ∀ (r : List Int) (i : Nat) (s : Int), l.drop i = r → loop (curve_Length_l1 l) (s, (i : Int)) = some (sumW s r) := by
  intro r
  induction r with
  | nil =>
    intro i s hi
    have := drop_nil hi
    refine loop_out ?_
    unfold curve_Length_l1
    simp only [show ¬ (i : Int) < l.length by omega, decide_false, cond_false, sumW]
  | cons a r ih =>
    intro i s hi
    have hlt := drop_lt hi
    have hstep : curve_Length_l1 l (s, (i : Int)) = some (.go (w64 (s + a), ((i + 1 : Nat) : Int))) := by
      unfold curve_Length_l1
      simp only [show (i : Int) < l.length by omega, decide_true, cond_true, geti_drop hi, Option.bind_some]
      rw [w64_id (n := (i : Int) + 1) (by omega)]; rfl
    rw [loop_go hstep, ih (i + 1) _ (drop_succ hi), sumW]
noncomputable def piecesL (c : Curve) : List Int := if checkM c.Pts = 0 then lens c.Pts else []
theorem lens_le : ∀ l : List Spot, (lens l).length ≤ l.length
  | [] => by simp [lens]
  | p :: r => by rw [lens_length]; simp
theorem piecesL_le (c : Curve) : (piecesL c).length ≤ c.Pts.length := by
  unfold piecesL
  split
  · exact lens_le _
  · simp
theorem curve_Length_eq (c : Curve) (hl : c.Pts.length ≤ 1000000) : curve_Length c = some (sumW 0 (piecesL c)) := by
  unfold curve_Length
  rw [curve_Pieces_eq c hl, Option.bind_some]
  have := piecesL_le c
  have h := curve_Length_loop (piecesL c) (by omega) (piecesL c) 0 0 (by simp)
  rw [show ((0 : Nat) : Int) = 0 from rfl] at h
  show (loop (curve_Length_l1 (piecesL c)) (0, 0)).bind _ = _
  rw [h]; rfl
end Go.Abs.Curve

namespace Go.Abs.Curve
open Go Go.Abs

theorem of6 (a b c d e f : Int) : law01_of [a, b, c, d, e, f] = some ⟨[⟨a, b⟩, ⟨c, d⟩, ⟨e, f⟩]⟩ := by
  unfold law01_of
  rw [loop_go (s' := (2, ⟨[⟨a, b⟩]⟩)) rfl, loop_go (s' := (4, ⟨[⟨a, b⟩, ⟨c, d⟩]⟩)) rfl, loop_go (s' := (6, ⟨[⟨a, b⟩, ⟨c, d⟩, ⟨e, f⟩]⟩)) rfl, loop_out (t := ⟨[⟨a, b⟩, ⟨c, d⟩, ⟨e, f⟩]⟩) rfl]
  rfl
theorem of4 (a b c d : Int) : law01_of [a, b, c, d] = some ⟨[⟨a, b⟩, ⟨c, d⟩]⟩ := by
  unfold law01_of
  rw [loop_go (s' := (2, ⟨[⟨a, b⟩]⟩)) rfl, loop_go (s' := (4, ⟨[⟨a, b⟩, ⟨c, d⟩]⟩)) rfl, loop_out (t := ⟨[⟨a, b⟩, ⟨c, d⟩]⟩) rfl]
  rfl
def bentC : Curve := ⟨[⟨0, 0⟩, ⟨3000, 4000⟩, ⟨8000, 4000⟩]⟩
theorem bent_eq : law01_bent = some bentC := by unfold law01_bent; rw [of6]; rfl
theorem rt_5000 : rt 25000000 = 5000 := rt_sq (l := 5000) (by decide) (by decide)
theorem bent_d1 : dotv (vec ⟨0, 0⟩ ⟨3000, 4000⟩) (vec ⟨0, 0⟩ ⟨3000, 4000⟩) = 25000000 := by decide
theorem bent_d2 : dotv (vec ⟨3000, 4000⟩ ⟨8000, 4000⟩) (vec ⟨3000, 4000⟩ ⟨8000, 4000⟩) = 25000000 := by decide
theorem bent_valid : Valid bentC.Pts := by
  refine ⟨by decide, by decide, by decide, ?_⟩
  refine .cons _ _ _ _ ?_ ?_ ?_ (fun u hu => by cases hu) (.cons _ _ _ _ ?_ ?_ ?_ (fun u hu => by cases hu; decide) (.one _ _))
  all_goals first | rw [bent_d1, rt_5000] | rw [bent_d2, rt_5000]
  all_goals decide
theorem bent_lens : lens bentC.Pts = [5000, 5000] := by
  show lens [_, _, _] = _
  rw [lens_cons, lens_cons, bent_d1, bent_d2, rt_5000]
  rfl
theorem bent_pieces : piecesM 0 0 bentC.Pts = [(0, ⟨⟨0, 0⟩, ⟨3000, 4000⟩, 5000, 0⟩), (1, ⟨⟨3000, 4000⟩, ⟨5000, 0⟩, 5000, 5000⟩)] := by
  show piecesM 0 0 [_, _, _] = _
  rw [piecesM_cons, piecesM_cons, bent_d1, bent_d2, rt_5000]
  rfl
theorem bent_Length : curve_Length bentC = some 10000 := by
  rw [curve_Length_eq _ (by decide), piecesL, if_pos (checkM_zero.2 bent_valid), bent_lens]
  rfl
theorem bent_At : curve_At bentC 2500 = some ⟨1500, 2000⟩ := by
  unfold curve_At
  rw [curve_Check_eq _ (by decide), checkM_zero.2 bent_valid]
  simp only [Option.bind_some, bne_self_eq_false, cond_false]
  unfold curve_find
  rw [piecesC_eq bent_valid, bent_pieces]
  rfl
theorem of_bad : curve_Check ⟨[⟨0, 0⟩, ⟨1000, 1000⟩]⟩ = some 3 := by
  rw [curve_Check_eq _ (by decide)]
  have hd : dotv (vec ⟨0, 0⟩ ⟨1000, 1000⟩) (vec ⟨0, 0⟩ ⟨1000, 1000⟩) = 2000000 := by decide
  have hr : rt 2000000 * rt 2000000 ≠ 2000000 := by
    intro h
    have h0 := rt_nonneg 2000000
    rcases Int.lt_or_le (rt 2000000) 1415 with q | q
    · have := Int.mul_le_mul (show rt 2000000 ≤ 1414 by omega) (show rt 2000000 ≤ 1414 by omega) h0 (by decide); omega
    · have := Int.mul_le_mul q q (by decide) h0; omega
  unfold checkM
  rw [if_neg (by decide), if_neg (by decide), if_pos (by decide), goM_cons, hd, if_pos hr]
theorem awake_eq : law01_awake = some true := by
  unfold law01_awake
  simp only [bent_eq, Option.bind_some, bent_Length, beq_self_eq_true, cond_true, bent_At, Bool.and_self, of4, of_bad]
end Go.Abs.Curve

namespace Go.Abs.Curve
open Go Go.Abs

end Go.Abs.Curve

namespace Go.Abs.Curve
open Go Go.Abs

end Go.Abs.Curve

namespace Go.Abs.Curve
open Go Go.Abs

/-- A quarter turn, so many times. -/
def rotM : Nat → CurveVector → CurveVector
  | 0, v => v
  | n + 1, v => rotM n ⟨-v.y, v.x⟩
theorem rot_dot : ∀ (n : Nat) (v w : CurveVector), dotv (rotM n v) (rotM n w) = dotv v w
  | 0, _, _ => rfl
  | n + 1, v, w => by rw [rotM, rotM, rot_dot n]; unfold dotv; grind
/-- A piece's vector, made of numbers: in one quadrant. -/
def Quad (n : Nat) (v : CurveVector) : Prop := ∃ x y L : Int, v = rotM n ⟨x, y⟩ ∧ 0 < x ∧ 0 ≤ y ∧ x * x + y * y = L * L ∧ 1000 ≤ L ∧ L ≤ 3029 ∧ x ≤ L ∧ y ≤ L
inductive Ch (Q : CurveVector → Prop) : List Spot → Prop
  | one (p : Spot) : Ch Q [p]
  | cons (p q : Spot) (r : List Spot) (h : Q (vec p q)) (hr : Ch Q (q :: r)) : Ch Q (p :: q :: r)
theorem good_of_ch {n : Nat} : ∀ (r : List Spot) (p : Spot) (last : Option CurveVector), Ch (Quad n) (p :: r) → (∀ u, last = some u → Quad n u) → Good last (p :: r)
  | [], p, last, _, _ => .one _ _
  | q :: r, p, last, hc, hl => by
    cases hc with
    | cons _ _ _ h1 h2 =>
      have hq := h1
      obtain ⟨x, y, L, hv, hx, hy, hsq, hL1, hL2, hxL, hyL⟩ := h1
      have hd : dotv (vec p q) (vec p q) = L * L := by rw [hv, rot_dot]; unfold dotv; exact hsq
      have hrt : rt (dotv (vec p q) (vec p q)) = L := by rw [hd]; exact rt_sq (by omega) (by omega)
      refine .cons _ _ _ _ (by rw [hrt, hd]) (by rw [hrt]; exact hL1) (by rw [hrt]; omega) (fun u hu => ?_) (good_of_ch r q _ h2 (fun u hu => by cases hu; exact hq))
      obtain ⟨x', y', L', hv', hx', hy', _⟩ := hl u hu
      rw [hv, hv', rot_dot]
      unfold dotv
      have := Int.mul_pos hx' hx
      have := Int.mul_nonneg hy' hy
      dsimp only
      omega
/-- What the curves made of numbers are like. -/
structure Made (l : List Spot) : Prop where
  two : 2 ≤ l.length
  six : l.length ≤ 6
  ch : ∃ n, Ch (Quad n) l
  bd : ∀ p ∈ l, -50000 ≤ p.X ∧ p.X ≤ 50000 ∧ -50000 ≤ p.Y ∧ p.Y ≤ 50000
theorem Made.valid {l : List Spot} (h : Made l) : Valid l := by
  obtain ⟨n, hc⟩ := h.ch
  have := h.two; have := h.six
  refine ⟨h.two, by omega, List.all_eq_true.2 fun p hp => okS_iff.2 (by have := h.bd p hp; omega), ?_⟩
  match l, h, hc with
  | p :: r, _, hc => exact good_of_ch r p none hc (fun u hu => by cases hu)
  | [], h, _ => exact absurd h.two (by simp)
end Go.Abs.Curve

namespace Go.Abs.Curve
open Go Go.Abs
end Go.Abs.Curve

namespace Go.Abs.Curve
open Go Go.Abs
end Go.Abs.Curve

namespace Go.Abs.Curve
open Go Go.Abs
def crossv (v w : CurveVector) : Int := v.x * w.y - v.y * w.x
def sgn (x : Int) : Int := if x > 0 then 1 else if x < 0 then -1 else 0
theorem sgn_cases (x : Int) : (0 < x ∧ sgn x = 1) ∨ (x < 0 ∧ sgn x = -1) ∨ (x = 0 ∧ sgn x = 0) := by 
  unfold sgn
  split
  · omega
  · split <;> omega
theorem cross_bd {v w : CurveVector} (hv : okV v) (hw : okV w) : -2251799813685248 ≤ crossv v w ∧ crossv v w ≤ 2251799813685248 ∧ (-1125899906842624 ≤ v.x * w.y ∧ v.x * w.y ≤ 1125899906842624) ∧ -1125899906842624 ≤ v.y * w.x ∧ v.y * w.x ≤ 1125899906842624 := by
  obtain ⟨v1, v2, v3, v4⟩ := hv
  obtain ⟨w1, w2, w3, w4⟩ := hw
  have m1 := mul_bd ⟨v1, v2⟩ ⟨w3, w4⟩
  have m2 := mul_bd ⟨v3, v4⟩ ⟨w1, w2⟩
  unfold crossv
  omega
theorem curve_cross_eq {v w : CurveVector} (hv : okV v) (hw : okV w) : curve_vector_cross v w = some (crossv v w) := by
  have := cross_bd hv hw
  unfold crossv at this
  unfold curve_vector_cross crossv
  rw [w64_id (n := v.x * w.y) (by omega), w64_id (n := v.y * w.x) (by omega), w64_id (by omega)]
theorem ref01_Cross_eq {v w : CurveVector} (hv : okV v) (hw : okV w) : ref01_Cross (vs v) (vs w) = some (crossv v w) := by
  have := cross_bd hv hw
  unfold crossv at this
  unfold ref01_Cross crossv vs
  dsimp only
  rw [w64_id (n := v.x * w.y) (by omega), w64_id (n := v.y * w.x) (by omega), w64_id (by omega)]
def sideM (p q r : Spot) : Int := cond (okS p && okS q && okS r) (sgn (crossv (vec p q) (vec p r))) 0
theorem side_cases (p q r : Spot) : sideM p q r = 1 ∨ sideM p q r = -1 ∨ sideM p q r = 0 := by
  unfold sideM
  have := sgn_cases (crossv (vec p q) (vec p r))
  cases okS p && okS q && okS r
  · simp
  · simp only [cond_true]; omega
theorem curve_Side_eq (p q r : Spot) : curve_Side p q r = some (sideM p q r) := by
  unfold curve_Side sideM
  rw [curve_fair_eq [p, q, r] (by simp)]
  simp only [List.all_cons, List.all_nil, Bool.and_true, Option.bind_some, Bool.and_assoc]
  cases hp : okS p
  · rfl
  cases hq : okS q
  · rfl
  cases hr : okS r
  · rfl
  simp only [Bool.and_self, Bool.not_true, cond_false, cond_true, curve_from_eq hp hq, curve_from_eq hp hr, Option.bind_some, curve_cross_eq (okV_vec hp hq) (okV_vec hp hr)]
  unfold curve_sign sgn
  generalize crossv (vec p q) (vec p r) = x
  rw [cond_if, cond_if]
  split
  · rfl
  · split <;> rfl
theorem ref01_Side_eq (p q r : Spot) : ref01_Side p q r = some (sideM p q r) := by
  unfold ref01_Side sideM
  simp only [ref01_Valid_eq, Option.bind_some]
  cases hp : okS p
  · rfl
  cases hq : okS q
  · rfl
  cases hr : okS r
  · rfl
  simp only [Bool.and_self, Bool.not_true, Bool.not_false, Bool.or_self, cond_false, cond_true, ref01_Minus_eq hp hq, ref01_Minus_eq hp hr, Option.bind_some, ref01_Cross_eq (okV_vec hp hq) (okV_vec hp hr)]
  unfold sgn
  generalize crossv (vec p q) (vec p r) = x
  rw [cond_if, cond_if]
  split
  · rfl
  · split <;> rfl
def dist2M (p q : Spot) : Int := cond (okS p && okS q) (dotv (vec p q) (vec p q)) 0
theorem curve_Dist2_eq (p q : Spot) : curve_Dist2 p q = some (dist2M p q) := by
  unfold curve_Dist2 dist2M
  rw [curve_fair_eq [p, q] (by simp)]
  simp only [List.all_cons, List.all_nil, Bool.and_true, Option.bind_some]
  cases hp : okS p
  · rfl
  cases hq : okS q
  · rfl
  simp only [Bool.and_self, Bool.not_true, cond_false, cond_true, curve_from_eq hp hq, Option.bind_some, curve_dot_eq (okV_vec hp hq) (okV_vec hp hq)]
theorem ref01_Dist2_eq (p q : Spot) : ref01_Dist2 p q = some (dist2M p q) := by
  unfold ref01_Dist2 dist2M
  simp only [ref01_Valid_eq, Option.bind_some]
  cases hp : okS p
  · rfl
  cases hq : okS q
  · rfl
  simp only [Bool.and_self, Bool.not_true, Bool.not_false, Bool.or_self, cond_false, cond_true, ref01_Minus_eq hp hq, Option.bind_some, ref01_Dot_eq (okV_vec hp hq) (okV_vec hp hq)]
def betM (p q r : Spot) : Bool := (((decide (min p.X q.X ≤ r.X)) && (decide (r.X ≤ max p.X q.X))) && (decide (min p.Y q.Y ≤ r.Y))) && (decide (r.Y ≤ max p.Y q.Y))
theorem curve_between_eq (p q r : Spot) : curve_between p q r = some (betM p q r) := by unfold curve_between betM; simp only [mm2_min, mm2_max]
theorem ref01_between_eq (p q r : Spot) : ref01_between p q r = some (betM p q r) := by unfold ref01_between betM; simp only [mm2_min, mm2_max]
def blk (s1 s2 s3 s4 : Int) (b1 b2 b3 b4 : Bool) : Bool := (decide (s1 * s2 < 0) && decide (s3 * s4 < 0)) || (s1 == 0 && b1) || (s2 == 0 && b2) || (s3 == 0 && b3) || (s4 == 0 && b4)
def blocksM (p q r s : Spot) : Bool := (okS p && okS q && okS r && okS s) && blk (sideM p q r) (sideM p q s) (sideM r s p) (sideM r s q) (betM p q r) (betM p q s) (betM r s p) (betM r s q)
theorem w64_side {a b : Int} (ha : a = 1 ∨ a = -1 ∨ a = 0) (hb : b = 1 ∨ b = -1 ∨ b = 0) : w64 (a * b) = a * b := by
  rcases ha with rfl | rfl | rfl <;> rcases hb with rfl | rfl | rfl <;> exact w64_id (by omega)
theorem blk_step (c z1 z2 z3 z4 b1 b2 b3 b4 : Bool) : cond c (some true) ((cond z1 (some b1) (some default)).bind fun v6 => ((cond ((!(z1 && v6)) && z2) (some b2) (some default))).bind fun v7 => ((cond ((!((z1 && v6) || (z2 && v7))) && z3) (some b3) (some default))).bind fun v8 => ((cond ((!(((z1 && v6) || (z2 && v7)) || (z3 && v8))) && z4) (some b4) (some default))).bind fun v9 => some ((((z1 && v6) || (z2 && v7)) || (z3 && v8)) || (z4 && v9))) = some (c || (z1 && b1) || (z2 && b2) || (z3 && b3) || (z4 && b4)) := by
  cases c <;> cases z1 <;> cases b1 <;> cases z2 <;> cases b2 <;> cases z3 <;> cases b3 <;> cases z4 <;> cases b4 <;> rfl
theorem curve_Blocks_eq (p q r s : Spot) : curve_Blocks p q r s = some (blocksM p q r s) := by
  unfold curve_Blocks blocksM blk
  rw [curve_fair_eq [p, q, r, s] (by simp)]
  simp only [List.all_cons, List.all_nil, Bool.and_true, Option.bind_some, curve_Side_eq, curve_between_eq, w64_side (side_cases p q r) (side_cases p q s), w64_side (side_cases r s p) (side_cases r s q), blk_step]
  cases okS p <;> cases okS q <;> cases okS r <;> cases okS s <;> rfl
theorem ref01_Blocks_eq (p q r s : Spot) : ref01_Blocks p q r s = some (blocksM p q r s) := by
  unfold ref01_Blocks blocksM blk
  simp only [ref01_Valid_eq, Option.bind_some, ref01_Side_eq, ref01_between_eq, w64_side (side_cases p q r) (side_cases p q s), w64_side (side_cases r s p) (side_cases r s q), blk_step]
  cases okS p <;> cases okS q <;> cases okS r <;> cases okS s <;> rfl
def seesM (p q : Spot) (n : Int) : Bool := (okS p && okS q) && (decide (n ≥ 0) && decide (n ≤ 33554432) && decide (dist2M p q ≤ n * n))
theorem curve_Sees_eq (p q : Spot) (n : Int) : curve_Sees p q n = some (seesM p q n) := by
  unfold curve_Sees seesM
  rw [curve_fair_eq [p, q] (by simp)]
  simp only [List.all_cons, List.all_nil, Bool.and_true, Option.bind_some, curve_Dist2_eq]
  cases okS p && okS q
  · rfl
  by_cases h : n ≥ 0
  case neg => simp only [h, decide_false]; rfl
  by_cases k : n ≤ 33554432
  case neg => simp only [h, k, decide_false]; rfl
  have := mul_bd (show -33554432 ≤ n ∧ n ≤ 33554432 by omega) (show -33554432 ≤ n ∧ n ≤ 33554432 by omega)
  rw [w64_id (n := n * n) (by omega)]
  simp only [h, k, decide_true, Bool.and_self, cond_true, Option.bind_some, Bool.true_and]
theorem ref01_Sees_eq (p q : Spot) (n : Int) : ref01_Sees p q n = some (seesM p q n) := by
  unfold ref01_Sees seesM
  simp only [ref01_Valid_eq, Option.bind_some, ref01_Dist2_eq]
  cases okS p
  · rfl
  cases okS q
  · rfl
  by_cases h : n ≥ 0
  case neg => simp only [h, decide_false]; rfl
  by_cases k : n ≤ 33554432
  case neg => simp only [h, k, decide_false]; rfl
  have := mul_bd (show -33554432 ≤ n ∧ n ≤ 33554432 by omega) (show -33554432 ≤ n ∧ n ≤ 33554432 by omega)
  rw [w64_id (n := n * n) (by omega)]
  simp only [h, k, decide_true, Bool.and_self, cond_true, Option.bind_some, Bool.true_and]
theorem law01_CurveLooks_plain (a0 a1 a2 a3 : Spot) (a4 : Int) : law01_CurveLooks a0 a1 a2 a3 a4 = some true := by
  unfold law01_CurveLooks
  simp only [curve_Side_eq, ref01_Side_eq, curve_Dist2_eq, ref01_Dist2_eq, curve_Blocks_eq, ref01_Blocks_eq, curve_Sees_eq, ref01_Sees_eq, awake_eq, Option.bind_some, beq_self_eq_true, cond_true, Bool.and_self]
end Go.Abs.Curve

namespace Go.Abs.Curve
open Go Go.Abs
end Go.Abs.Curve
