/-
  Plain facts, second part: the law itself.
-/
import Derived.Test.YtimbepcdlehjjaaGreatPlain

namespace Go.Abs.Roadsz
open Go Go.Abs
theorem top_zero (k : Int) : ((decide (k < 1)) || (decide (k > 3))) = decide ((topM k).1 = 0) := by
  unfold topM
  by_cases h1 : k = 1
  · subst h1; rfl
  · by_cases h2 : k = 2
    · subst h2; rfl
    · by_cases h3 : k = 3
      · subst h3; rfl
      · rw [if_neg h1, if_neg h2, if_neg h3]
        simp only [decide_true, Bool.or_eq_true, decide_eq_true_eq]
        omega
theorem rlane_eq {m : Map} (B : Bear m) {i : Nat} {l : Lane} (hl : m.Lanes[i]? = some l) : ref03_checkLane m (i : Int) = some ((laneE m.Lanes.length i l).getD 0) := by
  have hi := lt_get hl
  have hb := B.lanes
  obtain ⟨p1, p2⟩ := B.pts l (List.mem_of_getElem? hl)
  unfold ref03_checkLane laneE
  rw [geti_get hl, Option.bind_some, top_zero, ref01_Check_eq _ p1, Option.bind_some, rBounds_eq, Option.bind_some, rwithin_eq, rwithin_eq, Option.bind_some, cond_cc, Option.bind_some, wid (n := (i : Int) + 1) (by omega), ordered_eq _ _ _ p2, Option.bind_some]
  by_cases h1 : (topM l.Kind).1 = 0
  · rw [if_pos h1, decide_eq_true h1]; rfl
  · rw [if_neg h1, decide_eq_false h1, cond_false]
    by_cases h2 : checkM l.Curve_.Pts ≠ 0
    · rw [if_pos h2, show (checkM l.Curve_.Pts != 0) = true by simpa using h2]; rfl
    · rw [if_neg h2, show (checkM l.Curve_.Pts != 0) = false by simpa using h2, cond_false]
      cases inR l.Half 200 4000
      · rfl
      · cases inR l.Limit 1 (topM l.Kind).1
        · rfl
        · simp only [Bool.not_true, Bool.not_false, cond_true, cond_false, Bool.false_or, Bool.and_self]
          rw [if_neg (by decide)]
          by_cases h3 : 3 < l.Next.length
          · rw [if_pos h3, show decide ((l.Next.length : Int) > 3) = true from decide_eq_true (by omega)]; rfl
          · rw [if_neg h3, show decide ((l.Next.length : Int) > 3) = false from decide_eq_false (by omega), cond_false]
            cases riseM (m.Lanes.length : Int) ((i : Int) + 1) l.Next <;> rfl
theorem laneE_ne {n i : Nat} {l : Lane} {e : Int} (h : laneE n i l = some e) : e ≠ 0 := by
  unfold laneE at h
  split at h
  · cases h; decide
  · split at h
    · rename_i h2; cases h; exact h2
    · split at h
      · cases h; decide
      · split at h
        · cases h; decide
        · split at h
          · cases h; decide
          · cases h
theorem rlanes_loop {m : Map} (B : Bear m) : loop (ref03_Check_l1 m) 0 = some (outE (firstE (laneE m.Lanes.length) 0 m.Lanes)) :=
  each_loop m.Lanes (ref03_Check_l1 m) (laneE m.Lanes.length) (fun i l hl => by
    have hi := lt_get hl
    have hb := B.lanes
    unfold ref03_Check_l1
    rw [show decide ((i : Int) < (m.Lanes.length : Int)) = true from decide_eq_true (by omega), rlane_eq B hl, cond_true, Option.bind_some, wid (n := (i : Int) + 1) (by omega)]
    cases h : laneE m.Lanes.length i l with
    | none => rfl
    | some e =>
      rw [Option.getD_some, show (e != 0) = true by simpa using laneE_ne h]; rfl) (by
    unfold ref03_Check_l1
    rw [show decide ((m.Lanes.length : Int) < (m.Lanes.length : Int)) = false from decide_eq_false (by omega)]; rfl)
end Go.Abs.Roadsz

namespace Go.Abs.Roadsz
open Go Go.Abs
theorem riseM_mem {high : Int} : ∀ {l : List Int} {low : Int}, riseM high low l = true → ∀ k ∈ l, low ≤ k ∧ k < high
  | [], _, _, k, hk => by cases hk
  | n :: r, low, h, k, hk => by
    unfold riseM at h
    simp only [Bool.and_eq_true, decide_eq_true_eq] at h
    rcases List.mem_cons.1 hk with rfl | hk
    · exact h.1
    · have := riseM_mem h.2 k hk
      omega
/-- What a lane is that has no error of its own. -/
structure LaneOK (n i : Nat) (l : Lane) : Prop where
  kind : (topM l.Kind).1 ≠ 0
  curve : checkM l.Curve_.Pts = 0
  half : inR l.Half 200 4000 = true
  limit : inR l.Limit 1 (topM l.Kind).1 = true
  few : l.Next.length ≤ 3
  next : riseM n (i + 1) l.Next = true
theorem laneE_none {n i : Nat} {l : Lane} (h : laneE n i l = none) : LaneOK n i l := by
  unfold laneE at h
  split at h
  · cases h
  · rename_i h1
    split at h
    · cases h
    · rename_i h2
      split at h
      · cases h
      · rename_i h3
        split at h
        · cases h
        · rename_i h4
          split at h
          · cases h
          · rename_i h5
            simp only [Bool.not_eq_false, Bool.and_eq_true] at h3
            exact ⟨h1, Decidable.not_not.1 h2, h3.1, h3.2, by omega, by simpa using h5⟩
theorem lanes_ok {m : Map} (h : firstE (laneE m.Lanes.length) 0 m.Lanes = none) {i : Nat} {l : Lane} (hl : m.Lanes[i]? = some l) : LaneOK m.Lanes.length i l := by
  have := firstE_none.1 h i l hl
  rw [Nat.zero_add] at this
  exact laneE_none this
end Go.Abs.Roadsz

namespace Go.Abs.Roadsz
open Go Go.Abs
theorem check_two {l : List Spot} (h : checkM l = 0) : 2 ≤ l.length := by
  unfold checkM at h
  split at h
  · cases h
  · omega
def headS (l : List Spot) : Spot := l.headD ⟨0, 0⟩
def lastS (l : List Spot) : Spot := l.getLastD ⟨0, 0⟩
theorem head_geti {l : List Spot} (h : 2 ≤ l.length) : geti l 0 = some (headS l) := by
  cases l with
  | nil => simp at h
  | cons a r => rfl
theorem last_geti {l : List Spot} (h : 2 ≤ l.length) (hl : l.length ≤ 1000000) : geti l (w64 ((l.length : Int) - 1)) = some (lastS l) := by
  rw [wid (by omega), show (l.length : Int) - 1 = ((l.length - 1 : Nat) : Int) by omega]
  refine geti_get ?_
  unfold lastS
  rw [List.getLastD_eq_getLast?, List.getLast?_eq_getElem?]
  rw [List.getElem?_eq_getElem (by omega)]; rfl
def sameS (a b : Spot) : Bool := a.X == b.X && (a.Y == b.Y && true)
def jointE (m : Map) (l : Lane) (_ : Nat) (k : Int) : Option Int :=
  match m.Lanes[k.toNat]? with
  | some n => if n.Kind ≠ l.Kind then some 4 else if sameS (headS n.Curve_.Pts) (lastS l.Curve_.Pts) = false then some 3 else none
  | none => none
def nextE (m : Map) (_ : Nat) (l : Lane) : Option Int := firstE (jointE m l) 0 l.Next
theorem joint_step {m : Map} (B : Bear m) (H : firstE (laneE m.Lanes.length) 0 m.Lanes = none) {i : Nat} {l : Lane} (hl : m.Lanes[i]? = some l) {j : Nat} {k : Int} (hk : l.Next[j]? = some k) :
    ∃ n, geti m.Lanes k = some n ∧ m.Lanes[k.toNat]? = some n ∧ 2 ≤ n.Curve_.Pts.length ∧ n.Curve_.Pts.length ≤ 1000000 := by
  have L := lanes_ok H hl
  have hb := riseM_mem L.next k (List.mem_of_getElem? hk)
  have hlt : k.toNat < m.Lanes.length := by omega
  refine ⟨m.Lanes[k.toNat], ?_, List.getElem?_eq_getElem hlt, check_two (lanes_ok H (List.getElem?_eq_getElem hlt)).curve, (B.pts _ (List.getElem_mem hlt)).1⟩
  unfold geti
  rw [if_pos (by omega), List.getElem?_eq_getElem hlt]
end Go.Abs.Roadsz

namespace Go.Abs.Roadsz
open Go Go.Abs
theorem jointE_ne {m : Map} {l : Lane} {j : Nat} {k e : Int} (h : jointE m l j k = some e) : e ≠ 0 := by
  unfold jointE at h
  split at h
  · split at h
    · cases h; decide
    · split at h
      · cases h; decide
      · cases h
  · cases h
theorem joints_in {m : Map} (B : Bear m) (H : firstE (laneE m.Lanes.length) 0 m.Lanes = none) {i : Nat} {l : Lane} (hl : m.Lanes[i]? = some l) :
    loop (roads_check_joints_l2 ⟨m⟩ l (lastS l.Curve_.Pts)) 0 = some (outE (nextE m i l)) ∧ loop (ref03_checkNext_l2 m l) 0 = some (outE (nextE m i l)) := by
  have L := lanes_ok H hl
  obtain ⟨p1, p2⟩ := B.pts l (List.mem_of_getElem? hl)
  constructor
  · refine each_loop l.Next _ (jointE m l) (fun j k hk => ?_) ?_
    · have hj := lt_get hk
      obtain ⟨n, g1, g2, g3, g4⟩ := joint_step B H hl hk
      unfold roads_check_joints_l2 jointE
      dsimp only
      rw [show decide ((j : Int) < (l.Next.length : Int)) = true from decide_eq_true (by omega), geti_get hk, cond_true, Option.bind_some, g1, Option.bind_some, Option.bind_some, head_geti g3, Option.bind_some, wid (n := (j : Int) + 1) (by omega), g2]
      dsimp only
      rw [show ((headS n.Curve_.Pts).X == (lastS l.Curve_.Pts).X && ((headS n.Curve_.Pts).Y == (lastS l.Curve_.Pts).Y && true)) = sameS (headS n.Curve_.Pts) (lastS l.Curve_.Pts) from rfl]
      by_cases h1 : n.Kind ≠ l.Kind
      · rw [if_pos h1, show (n.Kind != l.Kind) = true by simpa using h1]; rfl
      · rw [if_neg h1, show (n.Kind != l.Kind) = false by simpa using h1]
        cases sameS (headS n.Curve_.Pts) (lastS l.Curve_.Pts) <;> rfl
    · unfold roads_check_joints_l2
      rw [show decide ((l.Next.length : Int) < (l.Next.length : Int)) = false from decide_eq_false (by omega)]; rfl
  · refine each_loop l.Next _ (jointE m l) (fun j k hk => ?_) ?_
    · have hj := lt_get hk
      obtain ⟨n, g1, g2, g3, g4⟩ := joint_step B H hl hk
      unfold ref03_checkNext_l2 jointE
      rw [show decide ((j : Int) < (l.Next.length : Int)) = true from decide_eq_true (by omega), geti_get hk, cond_true, Option.bind_some, g1, Option.bind_some, head_geti g3, Option.bind_some, last_geti (check_two L.curve) p1, Option.bind_some, wid (n := (j : Int) + 1) (by omega), g2]
      dsimp only
      rw [show ((headS n.Curve_.Pts).X == (lastS l.Curve_.Pts).X && ((headS n.Curve_.Pts).Y == (lastS l.Curve_.Pts).Y && true)) = sameS (headS n.Curve_.Pts) (lastS l.Curve_.Pts) from rfl]
      by_cases h1 : n.Kind ≠ l.Kind
      · rw [if_pos h1, show (n.Kind != l.Kind) = true by simpa using h1]; rfl
      · rw [if_neg h1, show (n.Kind != l.Kind) = false by simpa using h1]
        cases sameS (headS n.Curve_.Pts) (lastS l.Curve_.Pts) <;> rfl
    · unfold ref03_checkNext_l2
      rw [show decide ((l.Next.length : Int) < (l.Next.length : Int)) = false from decide_eq_false (by omega)]; rfl
end Go.Abs.Roadsz

namespace Go.Abs.Roadsz
open Go Go.Abs
theorem joints_eq {m : Map} (B : Bear m) (H : firstE (laneE m.Lanes.length) 0 m.Lanes = none) :
    roads_check_joints ⟨m⟩ = some ((firstE (nextE m) 0 m.Lanes).getD 0) ∧ ref03_checkNext m = some ((firstE (nextE m) 0 m.Lanes).getD 0) := by
  have hb := B.lanes
  constructor
  · have h := each_loop m.Lanes (roads_check_joints_l1 ⟨m⟩) (nextE m) (fun i l hl => by
      have hi := lt_get hl
      have L := lanes_ok H hl
      obtain ⟨p1, p2⟩ := B.pts l (List.mem_of_getElem? hl)
      unfold roads_check_joints_l1
      dsimp only
      rw [show decide ((i : Int) < (m.Lanes.length : Int)) = true from decide_eq_true (by omega), geti_get hl, cond_true, Option.bind_some, last_geti (check_two L.curve) p1, Option.bind_some, (joints_in B H hl).1, wid (n := (i : Int) + 1) (by omega)]
      cases nextE m i l <;> rfl) (by
      unfold roads_check_joints_l1
      dsimp only
      rw [show decide ((m.Lanes.length : Int) < (m.Lanes.length : Int)) = false from decide_eq_false (by omega)]; rfl)
    unfold roads_check_joints
    rw [h]
    cases firstE (nextE m) 0 m.Lanes <;> rfl
  · have h := each_loop m.Lanes (ref03_checkNext_l1 m) (nextE m) (fun i l hl => by
      have hi := lt_get hl
      unfold ref03_checkNext_l1
      rw [show decide ((i : Int) < (m.Lanes.length : Int)) = true from decide_eq_true (by omega), geti_get hl, cond_true, Option.bind_some, (joints_in B H hl).2, wid (n := (i : Int) + 1) (by omega)]
      cases nextE m i l <;> rfl) (by
      unfold ref03_checkNext_l1
      rw [show decide ((m.Lanes.length : Int) < (m.Lanes.length : Int)) = false from decide_eq_false (by omega)]; rfl)
    unfold ref03_checkNext
    rw [h]
    cases firstE (nextE m) 0 m.Lanes <;> rfl
end Go.Abs.Roadsz

namespace Go.Abs.Roadsz
open Go Go.Abs

/-- The place of the first element with a property. -/
theorem index_loop {α : Type} {f : Int → Option (Stp Int (Sum Unit Int))} (l : List α) (P : α → Bool) (hl : l.length ≤ 1000000000) (hf : ∀ (i : Nat) a, l[i]? = some a → f (i : Int) = some (if P a then .out (.inr (i : Int)) else .go (w64 ((i : Int) + 1)))) (he : f (l.length : Int) = some (.out (.inl ()))) :
    loop f 0 = some (match l.findIdx? P with | some i => .inr (i : Int) | none => .inl ()) := by
  have key : ∀ (r : List α) (i : Nat), l.drop i = r → i ≤ l.length → loop f (i : Int) = some (match r.findIdx? P with | some j => .inr ((i + j : Nat) : Int) | none => .inl ()) := by
    intro r
    induction r with
    | nil =>
      intro i hi hil
      have := drop_nil hi
      obtain rfl : i = l.length := by omega
      rw [loop_out he]; rfl
    | cons a r ih =>
      intro i hi _
      have hlt := drop_lt hi
      have h0 : l[i]? = some a := by have := congrArg (fun z => z[0]?) hi; simpa using this
      have hs := hf i a h0
      rw [List.findIdx?_cons]
      by_cases hp : P a = true
      · rw [if_pos hp] at hs
        rw [loop_out hs, if_pos hp]; simp
      · rw [if_neg hp] at hs
        rw [w64_id (by omega)] at hs
        rw [loop_go hs, show ((i : Int) + 1) = ((i + 1 : Nat) : Int) by omega, ih (i + 1) (drop_succ hi) (by omega), if_neg hp]
        cases r.findIdx? P with
        | none => rfl
        | some j => simp only [Option.map_some]; congr 3; omega
  have := key l 0 rfl (by omega)
  rw [show ((0 : Nat) : Int) = 0 from rfl] at this
  rw [this]
  cases l.findIdx? P <;> simp
/-- -1, or the place. -/
def idxI {α : Type} (P : α → Bool) (l : List α) : Int := match l.findIdx? P with | some i => (i : Int) | none => -1
theorem idxI_any {α : Type} (P : α → Bool) (l : List α) : decide (idxI P l ≥ 0) = l.any P := by
  unfold idxI
  cases h : l.findIdx? P with
  | none =>
    have := List.findIdx?_eq_none_iff.1 h
    rw [show l.any P = false by rw [List.any_eq_false]; intro x hx; simpa using this x hx]
    decide
  | some i =>
    have := List.findIdx?_isSome (xs := l) (p := P)
    rw [h] at this
    rw [← this]
    simp
/-- What both twins compute of a list. -/
theorem index_eq {α : Type} {f : Int → Option (Stp Int (Sum Unit Int))} (l : List α) (P : α → Bool) (hl : l.length ≤ 1000000000) (hf : ∀ (i : Nat) a, l[i]? = some a → f (i : Int) = some (if P a then .out (.inr (i : Int)) else .go (w64 ((i : Int) + 1)))) (he : f (l.length : Int) = some (.out (.inl ()))) :
    thenS (loop f 0) (fun _ => some (-1)) (fun r => some r) = some (idxI P l) := by
  rw [index_loop l P hl hf he]
  unfold idxI
  cases l.findIdx? P <;> rfl
end Go.Abs.Roadsz

namespace Go.Abs.Roadsz
open Go Go.Abs
theorem ticks_any (l : List Phase) (hl : l.length ≤ 1000000) : slices_ContainsFunc_Phase_Phase_roads_check_signals_1 l = some (l.any fun p => !inR p.Ticks 1 10000) := by
  unfold slices_ContainsFunc_Phase_Phase_roads_check_signals_1 slices_IndexFunc_Phase_Phase_roads_check_signals_1
  rw [index_eq l (fun p => !inR p.Ticks 1 10000) (by omega) (fun i a h => by
    have := lt_get h
    unfold slices_IndexFunc_Phase_Phase_roads_check_signals_1_l1 roads_check_signals_1
    rw [show decide ((i : Int) < (l.length : Int)) = true from decide_eq_true (by omega), geti_get h, cond_true, Option.bind_some, within_eq, Option.bind_some, Option.bind_some]
    cases inR a.Ticks 1 10000 <;> rfl) (by
    unfold slices_IndexFunc_Phase_Phase_roads_check_signals_1_l1
    simp)]
  rw [Option.bind_some, idxI_any]
theorem greens_any (m : Map) (l : List Phase) (hl : l.length ≤ 1000000) (hm : m.Lanes.length ≤ 1000000) (hg : ∀ p ∈ l, p.Green.length ≤ 1000000) : slices_ContainsFunc_Phase_Phase_roads_check_signals_2b l ⟨m⟩ = some (l.any fun p => !riseM m.Lanes.length 0 p.Green) := by
  unfold slices_ContainsFunc_Phase_Phase_roads_check_signals_2b slices_IndexFunc_Phase_Phase_roads_check_signals_2b
  rw [index_eq l (fun p => !riseM m.Lanes.length 0 p.Green) (by omega) (fun i a h => by
    have := lt_get h
    unfold slices_IndexFunc_Phase_Phase_roads_check_signals_2b_l1 roads_check_signals_2_b
    dsimp only
    rw [show decide ((i : Int) < (l.length : Int)) = true from decide_eq_true (by omega), geti_get h, cond_true, Option.bind_some, rising_eq _ _ _ (hg a (List.mem_of_getElem? h)) (by omega) (by omega), Option.bind_some, Option.bind_some]
    cases riseM (m.Lanes.length : Int) 0 a.Green <;> rfl) (by
    unfold slices_IndexFunc_Phase_Phase_roads_check_signals_2b_l1
    simp)]
  rw [Option.bind_some, idxI_any]
end Go.Abs.Roadsz

namespace Go.Abs.Roadsz
open Go Go.Abs
structure BearS (m : Map) : Prop where
  many : m.Signals.length ≤ 1000000
  phases : ∀ s ∈ m.Signals, s.Phases.length ≤ 1000000 ∧ ∀ p ∈ s.Phases, p.Green.length ≤ 1000000
def signalE (m : Map) (_ : Nat) (s : Signal) : Option Int :=
  if s.Phases.length = 0 then some 6
  else if 6 < s.Phases.length then some 8
  else if inR s.Offset 0 1099511627776 = false then some 2
  else if (s.Phases.any fun p => !inR p.Ticks 1 10000) = true then some 2
  else if (s.Phases.any fun p => !riseM m.Lanes.length 0 p.Green) = true then some 11 else none
theorem signals_eq {m : Map} (B : Bear m) (S : BearS m) : roads_check_signals ⟨m⟩ = some ((firstE (signalE m) 0 m.Signals).getD 0) := by
  have h := each_loop m.Signals (roads_check_signals_l1 ⟨m⟩) (signalE m) (fun i s hs => by
    have hi := lt_get hs
    have hb := S.many
    obtain ⟨p1, p2⟩ := S.phases s (List.mem_of_getElem? hs)
    unfold roads_check_signals_l1 signalE
    dsimp only
    rw [show decide ((i : Int) < (m.Signals.length : Int)) = true from decide_eq_true (by omega), geti_get hs, cond_true, Option.bind_some, within_eq, Option.bind_some, ticks_any _ p1, Option.bind_some, greens_any m _ p1 B.lanes p2, Option.bind_some, wid (n := (i : Int) + 1) (by omega)]
    by_cases h1 : s.Phases.length = 0
    · rw [if_pos h1, h1]; rfl
    · rw [if_neg h1, show ((s.Phases.length : Int) == 0) = false by simp only [beq_eq_false_iff_ne]; omega, cond_false]
      by_cases h2 : 6 < s.Phases.length
      · rw [if_pos h2, show decide ((s.Phases.length : Int) > 6) = true from decide_eq_true (by omega)]; rfl
      · rw [if_neg h2, show decide ((s.Phases.length : Int) > 6) = false from decide_eq_false (by omega), cond_false]
        cases inR s.Offset 0 1099511627776
        · rfl
        · cases (s.Phases.any fun p => !inR p.Ticks 1 10000)
          · cases (s.Phases.any fun p => !riseM m.Lanes.length 0 p.Green) <;> rfl
          · rfl) (by
    unfold roads_check_signals_l1
    dsimp only
    rw [show decide ((m.Signals.length : Int) < (m.Signals.length : Int)) = false from decide_eq_false (by omega)]; rfl)
  unfold roads_check_signals
  rw [h]
  cases firstE (signalE m) 0 m.Signals <;> rfl
end Go.Abs.Roadsz

namespace Go.Abs.Roadsz
open Go Go.Abs
theorem rticks_loop (s : Signal) (hl : s.Phases.length ≤ 1000000) : ∀ (r : List Phase) (i : Nat) (b : Bool), s.Phases.drop i = r → i ≤ s.Phases.length → loop (ref03_checkSignal_l1 s) (b, (i : Int)) = some (b && !(r.any fun p => !inR p.Ticks 1 10000)) := by
  intro r
  induction r with
  | nil =>
    intro i b hi hil
    have := drop_nil hi
    refine loop_out ?_
    unfold ref03_checkSignal_l1
    dsimp only
    rw [show decide ((i : Int) < (s.Phases.length : Int)) = false from decide_eq_false (by omega)]
    simp
  | cons p r ih =>
    intro i b hi hil
    have hlt := drop_lt hi
    have hs : ref03_checkSignal_l1 s (b, (i : Int)) = some (.go (b && inR p.Ticks 1 10000, ((i + 1 : Nat) : Int))) := by
      unfold ref03_checkSignal_l1
      dsimp only
      rw [show decide ((i : Int) < (s.Phases.length : Int)) = true from decide_eq_true (by omega), geti_drop hi, wid (n := (i : Int) + 1) (by omega)]
      cases b <;> rfl
    rw [loop_go hs, ih (i + 1) _ (drop_succ hi) (by omega), List.any_cons]
    cases b <;> cases inR p.Ticks 1 10000 <;> simp
end Go.Abs.Roadsz

namespace Go.Abs.Roadsz
open Go Go.Abs
theorem rgreens_loop (m : Map) (s : Signal) (hl : s.Phases.length ≤ 1000000) (hg : ∀ p ∈ s.Phases, p.Green.length ≤ 1000000) : loop (ref03_checkSignal_l2 m s) 0 = some (if (s.Phases.any fun p => !riseM m.Lanes.length 0 p.Green) = true then .inr 11 else .inl ()) := by
  have h := each_loop s.Phases (ref03_checkSignal_l2 m s) (fun _ p => if riseM m.Lanes.length 0 p.Green then none else some 11) (fun i p hp => by
    have := lt_get hp
    unfold ref03_checkSignal_l2
    rw [show decide ((i : Int) < (s.Phases.length : Int)) = true from decide_eq_true (by omega), geti_get hp, cond_true, Option.bind_some, ordered_eq _ _ _ (hg p (List.mem_of_getElem? hp)), Option.bind_some, wid (n := (i : Int) + 1) (by omega)]
    cases riseM (m.Lanes.length : Int) 0 p.Green <;> rfl) (by
    unfold ref03_checkSignal_l2
    rw [show decide ((s.Phases.length : Int) < (s.Phases.length : Int)) = false from decide_eq_false (by omega)]; rfl)
  rw [h]
  have key : ∀ (l : List Phase) (i : Nat), outE (firstE (fun (_ : Nat) (p : Phase) => if riseM (m.Lanes.length : Int) 0 p.Green = true then none else some (11 : Int)) i l) = if (l.any fun p => !riseM m.Lanes.length 0 p.Green) = true then .inr 11 else .inl () := by
    intro l
    induction l with
    | nil => intro i; rfl
    | cons p r ih =>
      intro i
      unfold firstE
      rw [List.any_cons]
      cases hq : riseM (m.Lanes.length : Int) 0 p.Green
      · rfl
      · exact ih (i + 1)
  rw [key]
end Go.Abs.Roadsz

/-! Loops over lists, as functions on lists. -/
namespace Go.Abs
open Go
section
variable {α β σ S τ : Type}
/-- What a loop over a list makes, with a state, and with a way out. -/
def gfold (step : Nat → σ → α → Sum σ τ) (fin : σ → τ) : Nat → σ → List α → τ
  | _, s, [] => fin s
  | i, s, a :: r => match step i s a with
    | .inl s' => gfold step fin (i + 1) s' r
    | .inr t => t
theorem get_drop {l : List α} {i : Nat} {a : α} {r : List α} (h : l.drop i = a :: r) : l[i]? = some a := by
  have := congrArg (fun z => z[0]?) h
  simpa using this
theorem gloop {F : S → Option (Stp S τ)} (pk : Nat → σ → S) (l : List α) (inv : Nat → σ → Prop) (step : Nat → σ → α → Sum σ τ) (fin : σ → τ) {s0 : σ} {S0 : S} (hS : pk 0 s0 = S0) (hi : inv 0 s0)
    (hF : ∀ i a s, l[i]? = some a → inv i s → F (pk i s) = some (match step i s a with | .inl s' => .go (pk (i + 1) s') | .inr t => .out t))
    (hI : ∀ i a s s', l[i]? = some a → inv i s → step i s a = .inl s' → inv (i + 1) s')
    (h0 : ∀ s, inv l.length s → F (pk l.length s) = some (.out (fin s))) : loop F S0 = some (gfold step fin 0 s0 l) := by
  have key : ∀ (r : List α) (i : Nat) (s : σ), l.drop i = r → i ≤ l.length → inv i s → loop F (pk i s) = some (gfold step fin i s r) := by
    intro r
    induction r with
    | nil =>
      intro i s hi hil hv
      have := drop_nil hi
      obtain rfl : i = l.length := by omega
      exact loop_out (h0 s hv)
    | cons a r ih =>
      intro i s hi hil hv
      have hlt := drop_lt hi
      have ha := get_drop hi
      have hs := hF i a s ha hv
      unfold gfold
      cases h : step i s a with
      | inl s' => rw [h] at hs; rw [loop_go hs]; exact ih (i + 1) s' (drop_succ hi) (by omega) (hI i a s s' ha hv h)
      | inr t => rw [h] at hs; exact loop_out hs
  rw [← hS]
  exact key l 0 s0 rfl (by omega) hi
/-- The same without a way out. -/
def ifold (step : Nat → σ → α → σ) : Nat → σ → List α → σ
  | _, s, [] => s
  | i, s, a :: r => ifold step (i + 1) (step i s a) r
theorem gfold_ifold (step : Nat → σ → α → σ) (fin : σ → τ) : ∀ (l : List α) (i : Nat) (s : σ), gfold (fun i s a => .inl (step i s a)) fin i s l = fin (ifold step i s l)
  | [], _, _ => rfl
  | _ :: r, i, _ => gfold_ifold step fin r (i + 1) _
theorem floop {F : S → Option (Stp S τ)} (pk : Nat → σ → S) (l : List α) (inv : Nat → σ → Prop) (step : Nat → σ → α → σ) (fin : σ → τ) {s0 : σ} {S0 : S} (hS : pk 0 s0 = S0) (hi : inv 0 s0)
    (hF : ∀ i a s, l[i]? = some a → inv i s → F (pk i s) = some (.go (pk (i + 1) (step i s a))))
    (hI : ∀ i a s, l[i]? = some a → inv i s → inv (i + 1) (step i s a))
    (h0 : ∀ s, inv l.length s → F (pk l.length s) = some (.out (fin s))) : loop F S0 = some (fin (ifold step 0 s0 l)) := by
  rw [← gfold_ifold step fin]
  exact gloop pk l inv _ fin hS hi hF (fun i a s s' h1 h2 h3 => by cases h3; exact hI i a s h1 h2) h0
/-- The elements that a loop gathers. -/
def pickI (g : Nat → α → Option β) : Nat → List α → List β
  | _, [] => []
  | i, a :: r => match g i a with
    | some b => b :: pickI g (i + 1) r
    | none => pickI g (i + 1) r
theorem pickI_len (g : Nat → α → Option β) : ∀ (l : List α) (i : Nat), (pickI g i l).length ≤ l.length
  | [], _ => Nat.le_refl _
  | a :: r, i => by
    have := pickI_len g r (i + 1)
    unfold pickI
    cases g i a <;> simp only [List.length_cons] <;> omega
theorem ifold_pick (g : Nat → α → Option β) : ∀ (l : List α) (i : Nat) (s : List β), ifold (fun i s a => match g i a with | some b => s ++ [b] | none => s) i s l = s ++ pickI g i l
  | [], _, s => by simp [ifold, pickI]
  | a :: r, i, s => by
    unfold ifold pickI
    rw [ifold_pick g r (i + 1)]
    cases g i a <;> simp
theorem ploop {F : S → Option (Stp S τ)} (pk : Nat → List β → S) (l : List α) (g : Nat → α → Option β) (fin : List β → τ) {S0 : S} (hS : pk 0 [] = S0)
    (hF : ∀ i a (s : List β), l[i]? = some a → s.length ≤ i → F (pk i s) = some (.go (pk (i + 1) (match g i a with | some b => s ++ [b] | none => s))))
    (h0 : ∀ s, F (pk l.length s) = some (.out (fin s))) : loop F S0 = some (fin (pickI g 0 l)) := by
  have := floop pk l (fun i s => s.length ≤ i) (fun i s a => match g i a with | some b => s ++ [b] | none => s) fin hS (by simp) hF (fun i a s _ hs => by
    cases g i a <;> simp <;> omega) (fun s _ => h0 s)
  rw [this, ifold_pick, List.nil_append]
theorem ploop2 {F : List β × Int → Option (Stp (List β × Int) τ)} (l : List α) (g : Nat → α → Option β) (fin : List β → τ)
    (hF : ∀ (i : Nat) a (s : List β), l[i]? = some a → s.length ≤ i → F (s, (i : Int)) = some (.go ((match g i a with | some b => s ++ [b] | none => s), ((i + 1 : Nat) : Int))))
    (h0 : ∀ s, F (s, (l.length : Int)) = some (.out (fin s))) : loop F ([], 0) = some (fin (pickI g 0 l)) := ploop (fun i s => (s, (i : Int))) l g fin rfl hF h0
theorem floop2 {F : σ × Int → Option (Stp (σ × Int) τ)} (l : List α) (step : Nat → σ → α → σ) (fin : σ → τ) (s0 : σ)
    (hF : ∀ (i : Nat) a s, l[i]? = some a → F (s, (i : Int)) = some (.go (step i s a, ((i + 1 : Nat) : Int))))
    (h0 : ∀ s, F (s, (l.length : Int)) = some (.out (fin s))) : loop F (s0, 0) = some (fin (ifold step 0 s0 l)) :=
  floop (fun i s => (s, (i : Int))) l (fun _ _ => True) step fin rfl trivial (fun i a s h _ => hF i a s h) (fun _ _ _ _ _ => trivial) (fun s _ => h0 s)
/-- Is there one? -/
theorem aloop {F : Int → Option (Stp Int (Sum Unit β))} (l : List α) (p : α → Bool) (v : β) (hF : ∀ (i : Nat) a, l[i]? = some a → F (i : Int) = some (if p a then .out (.inr v) else .go ((i + 1 : Nat) : Int))) (h0 : F (l.length : Int) = some (.out (.inl ()))) :
    loop F 0 = some (if l.any p then .inr v else .inl ()) := by
  have key : ∀ (l : List α) (i : Nat), gfold (fun _ _ a => if p a then Sum.inr (Sum.inr v) else Sum.inl ()) (fun _ => (Sum.inl () : Sum Unit β)) i () l = if l.any p then .inr v else .inl () := by
    intro l
    induction l with
    | nil => intro i; rfl
    | cons a r ih =>
      intro i
      unfold gfold
      rw [List.any_cons]
      cases h : p a
      · exact ih (i + 1)
      · rfl
  rw [← key l 0]
  exact gloop (F := F) (σ := Unit) (fun i _ => (i : Int)) l (fun _ _ => True) _ _ (s0 := ()) rfl trivial (fun i a _ h _ => by rw [hF i a h]; cases p a <;> rfl) (fun _ _ _ _ _ _ _ => trivial) (fun _ _ => h0)
end
theorem lt_dec {i : Nat} {n : Nat} (h : i < n) : decide ((i : Int) < (n : Int)) = true := decide_eq_true (by omega)
theorem nlt_dec (n : Nat) : decide ((n : Int) < (n : Int)) = false := decide_eq_false (by omega)
theorem w64_succ {i : Nat} {n : Nat} (h : i < n) (hn : n ≤ 1000000000000) : w64 ((i : Int) + 1) = ((i + 1 : Nat) : Int) := by rw [w64_id (by omega)]; omega
end Go.Abs

namespace Go.Abs.Roadsz
open Go Go.Abs
structure BearZ (m : Map) : Prop where
  many : m.Zones.length ≤ 1000000
  parts : ∀ z ∈ m.Zones, z.Parts.length ≤ 1000000
noncomputable def laneLen (m : Map) (k : Int) : Int := ((m.Lanes[k.toNat]?).map fun l => lenM l.Curve_).getD 0
noncomputable def partBad (m : Map) (p : Part) : Bool := decide (p.From < 0) || decide (p.From ≥ p.To) || decide (p.To > laneLen m p.Lane_) || decide (p.Rank < 0) || decide (p.Rank > 100)
noncomputable def zoneE (m : Map) (_ : Nat) (z : Zone) : Option Int :=
  if z.Parts.length < 2 then some 6
  else if 6 < z.Parts.length then some 8
  else if z.Signal_ < 0 ∨ (m.Signals.length : Int) < z.Signal_ then some 2
  else if riseM m.Lanes.length 0 (z.Parts.map (·.Lane_)) = false then some 11
  else if z.Parts.any (partBad m) = true then some 2 else none
theorem lane_of {m : Map} {k : Int} (h0 : 0 ≤ k) (h1 : k < m.Lanes.length) : ∃ l, m.Lanes[k.toNat]? = some l ∧ geti m.Lanes k = some l := by
  have hlt : k.toNat < m.Lanes.length := by omega
  refine ⟨m.Lanes[k.toNat], List.getElem?_eq_getElem hlt, ?_⟩
  unfold geti
  rw [if_pos h0, List.getElem?_eq_getElem hlt]
theorem long_at {m : Map} (B : Bear m) {k : Int} (h0 : 0 ≤ k) (h1 : k < m.Lanes.length) : roads_long m k = some (laneLen m k) := by
  obtain ⟨l, e1, e2⟩ := lane_of h0 h1
  have := long_eq (m := m) e1 (B.pts l (List.mem_of_getElem? e1)).1
  rw [show ((k.toNat : Nat) : Int) = k by omega] at this
  rw [this, laneLen, e1]; rfl
theorem rlong_at {m : Map} (B : Bear m) {k : Int} (h0 : 0 ≤ k) (h1 : k < m.Lanes.length) : ∃ l, geti m.Lanes k = some l ∧ ref01_Length l.Curve_ = some (laneLen m k) := by
  obtain ⟨l, e1, e2⟩ := lane_of h0 h1
  refine ⟨l, e2, ?_⟩
  rw [ref01_Length_eq _ (B.pts l (List.mem_of_getElem? e1)).1, laneLen, e1]; rfl
theorem pick_map {α β : Type} (f : α → β) : ∀ (l : List α) (i : Nat), pickI (fun _ a => some (f a)) i l = l.map f
  | [], _ => rfl
  | a :: r, i => by rw [pickI, pick_map f r]; rfl
theorem zlanes {z : Zone} {F : List Int × Int → Option (Stp (List Int × Int) (List Int))} (hl : z.Parts.length ≤ 1000000)
    (hF : ∀ x, F x = cond (decide (x.2 < (z.Parts.length : Int))) ((geti z.Parts x.2).bind fun v => (appc x.1 [v.Lane_]).bind fun w => some (.go (w, w64 (x.2 + 1)))) (some (.out x.1))) :
    loop F ([], 0) = some (z.Parts.map (·.Lane_)) := by
  rw [← pick_map (fun p : Part => p.Lane_) z.Parts 0]
  refine ploop (fun i s => (s, (i : Int))) z.Parts (fun _ p => some p.Lane_) id rfl (fun i a s ha hs => ?_) (fun s => ?_)
  · have hi := lt_get ha
    rw [hF, lt_dec hi, geti_get ha, cond_true, Option.bind_some, appc_ok (by simp; omega), Option.bind_some, w64_succ hi (by omega)]
  · rw [hF, nlt_dec]; rfl
theorem zones_eq {m : Map} (B : Bear m) (Z : BearZ m) : roads_check_zones ⟨m⟩ = some ((firstE (zoneE m) 0 m.Zones).getD 0) := by
  have hb := B.lanes
  have h := each_loop m.Zones (roads_check_zones_l1 ⟨m⟩) (zoneE m) (fun i z hz => by
    have hi := lt_get hz
    have hm := Z.many
    have p1 := Z.parts z (List.mem_of_getElem? hz)
    unfold roads_check_zones_l1 zoneE
    dsimp only
    rw [lt_dec hi, geti_get hz, cond_true, Option.bind_some, zlanes p1 (F := roads_check_zones_l2 z) (fun x => rfl), Option.bind_some, rising_eq _ _ _ (by simpa using p1) (by omega) (by omega), Option.bind_some, w64_succ hi (by omega)]
    by_cases h1 : z.Parts.length < 2
    · rw [if_pos h1, show decide ((z.Parts.length : Int) < 2) = true from decide_eq_true (by omega)]; rfl
    · rw [if_neg h1, show decide ((z.Parts.length : Int) < 2) = false from decide_eq_false (by omega), cond_false]
      by_cases h2 : 6 < z.Parts.length
      · rw [if_pos h2, show decide ((z.Parts.length : Int) > 6) = true from decide_eq_true (by omega)]; rfl
      · rw [if_neg h2, show decide ((z.Parts.length : Int) > 6) = false from decide_eq_false (by omega), cond_false]
        by_cases h3 : z.Signal_ < 0 ∨ (m.Signals.length : Int) < z.Signal_
        · rw [if_pos h3, show ((decide (z.Signal_ < 0)) || (decide (z.Signal_ > (m.Signals.length : Int)))) = true by simpa using h3]; rfl
        · rw [if_neg h3, show ((decide (z.Signal_ < 0)) || (decide (z.Signal_ > (m.Signals.length : Int)))) = false by rw [Bool.eq_false_iff]; simpa using h3, cond_false]
          cases h4 : riseM (m.Lanes.length : Int) 0 (z.Parts.map (·.Lane_))
          · rfl
          · rw [if_neg (by decide)]
            have := aloop (F := roads_check_zones_l3 ⟨m⟩ z) z.Parts (partBad m) (2 : Int) (fun j p hp => by
              have hj := lt_get hp
              have hk := riseM_mem h4 p.Lane_ (List.mem_map.2 ⟨p, List.mem_of_getElem? hp, rfl⟩)
              unfold roads_check_zones_l3 partBad
              dsimp only
              rw [lt_dec hj, geti_get hp, cond_true, Option.bind_some, long_at B hk.1 hk.2, w64_succ hj (by omega)]
              cases h5 : (decide (p.From < 0) || decide (p.From ≥ p.To))
              · simp only [Bool.not_false, cond_true, Option.bind_some]
                cases (false || decide (p.To > laneLen m p.Lane_) || decide (p.Rank < 0) || decide (p.Rank > 100)) <;> rfl
              · rfl) (by unfold roads_check_zones_l3; rw [nlt_dec]; rfl)
            rw [this]
            cases z.Parts.any (partBad m) <;> rfl) (by
    unfold roads_check_zones_l1
    dsimp only
    rw [nlt_dec]; rfl)
  unfold roads_check_zones
  rw [h]
  cases firstE (zoneE m) 0 m.Zones <;> rfl
theorem rzone_eq {m : Map} (B : Bear m) (Z : BearZ m) {i : Nat} {z : Zone} (hz : m.Zones[i]? = some z) : ref03_checkZone m z = some ((zoneE m i z).getD 0) := by
  have hb := B.lanes
  have p1 := Z.parts z (List.mem_of_getElem? hz)
  unfold ref03_checkZone zoneE
  rw [zlanes p1 (F := ref03_checkZone_l1 z) (fun x => rfl), Option.bind_some, ordered_eq _ _ _ (by simpa using p1), Option.bind_some]
  by_cases h1 : z.Parts.length < 2
  · rw [if_pos h1, show decide ((z.Parts.length : Int) < 2) = true from decide_eq_true (by omega)]; rfl
  · rw [if_neg h1, show decide ((z.Parts.length : Int) < 2) = false from decide_eq_false (by omega), cond_false]
    by_cases h2 : 6 < z.Parts.length
    · rw [if_pos h2, show decide ((z.Parts.length : Int) > 6) = true from decide_eq_true (by omega)]; rfl
    · rw [if_neg h2, show decide ((z.Parts.length : Int) > 6) = false from decide_eq_false (by omega), cond_false]
      by_cases h3 : z.Signal_ < 0 ∨ (m.Signals.length : Int) < z.Signal_
      · rw [if_pos h3, show ((decide (z.Signal_ < 0)) || (decide (z.Signal_ > (m.Signals.length : Int)))) = true by simpa using h3]; rfl
      · rw [if_neg h3, show ((decide (z.Signal_ < 0)) || (decide (z.Signal_ > (m.Signals.length : Int)))) = false by rw [Bool.eq_false_iff]; simpa using h3, cond_false]
        cases h4 : riseM (m.Lanes.length : Int) 0 (z.Parts.map (·.Lane_))
        · rfl
        · rw [if_neg (by decide)]
          have := aloop (F := ref03_checkZone_l2 m z) z.Parts (partBad m) (2 : Int) (fun j p hp => by
            have hj := lt_get hp
            have hk := riseM_mem h4 p.Lane_ (List.mem_map.2 ⟨p, List.mem_of_getElem? hp, rfl⟩)
            obtain ⟨l, e1, e2⟩ := rlong_at B hk.1 hk.2
            unfold ref03_checkZone_l2 partBad
            rw [lt_dec hj, geti_get hp, cond_true, Option.bind_some, e1, w64_succ hj (by omega)]
            cases h5 : (decide (p.From < 0) || decide (p.From ≥ p.To))
            · simp only [Bool.not_false, cond_true, Option.bind_some, e2]
              cases (false || decide (p.To > laneLen m p.Lane_) || decide (p.Rank < 0) || decide (p.Rank > 100)) <;> rfl
            · rfl) (by unfold ref03_checkZone_l2; rw [nlt_dec]; rfl)
          rw [this]
          cases z.Parts.any (partBad m) <;> rfl
end Go.Abs.Roadsz

namespace Go.Abs.Roadsz
open Go Go.Abs
structure BearW (m : Map) : Prop where
  many : m.Works.length ≤ 1000000
noncomputable def workE (m : Map) (_ : Nat) (w : Work) : Option Int :=
  if w.Lane_ < 0 ∨ (m.Lanes.length : Int) ≤ w.Lane_ then some 7
  else if (decide (w.From < 0) || decide (w.From > w.To) || decide (w.To > laneLen m w.Lane_) || decide (w.Begin < 0) || decide (w.Begin ≥ w.End) || decide (w.End > 1099511627776) || !inR w.Limit 0 ((m.Lanes[w.Lane_.toNat]?).map fun l => (topM l.Kind).1).get!) = true then some 2 else none
theorem works_eq {m : Map} (B : Bear m) (W : BearW m) : roads_check_works ⟨m⟩ = some ((firstE (workE m) 0 m.Works).getD 0) := by
  have hb := B.lanes
  have h := each_loop m.Works (roads_check_works_l1 ⟨m⟩) (workE m) (fun i w hw => by
    have hi := lt_get hw
    have hm := W.many
    unfold roads_check_works_l1 workE
    dsimp only
    rw [lt_dec hi, geti_get hw, cond_true, Option.bind_some, w64_succ hi (by omega)]
    by_cases h1 : w.Lane_ < 0 ∨ (m.Lanes.length : Int) ≤ w.Lane_
    · rw [if_pos h1, show ((decide (w.Lane_ < 0)) || (decide (w.Lane_ ≥ (m.Lanes.length : Int)))) = true by simpa using h1]; rfl
    · rw [if_neg h1, show ((decide (w.Lane_ < 0)) || (decide (w.Lane_ ≥ (m.Lanes.length : Int)))) = false by rw [Bool.eq_false_iff]; simpa using h1, cond_false]
      obtain ⟨l, e1, e2⟩ := lane_of (m := m) (k := w.Lane_) (by omega) (by omega)
      rw [e2, Option.bind_some, Bounds_eq, Option.bind_some, long_at B (by omega) (by omega), within_eq, e1]
      simp only [Option.map_some, Option.get!_some]
      cases (decide (w.From < 0) || decide (w.From > w.To))
      · simp only [Bool.not_false, cond_true, Option.bind_some]
        cases (false || decide (w.To > laneLen m w.Lane_) || decide (w.Begin < 0) || decide (w.Begin ≥ w.End) || decide (w.End > 1099511627776))
        · simp only [Bool.not_false, cond_true, Option.bind_some]
          by_cases hq : inR w.Limit 0 (topM l.Kind).1 = true <;> simp [hq]
        · rfl
      · rfl) (by
    unfold roads_check_works_l1
    dsimp only
    rw [nlt_dec]; rfl)
  unfold roads_check_works
  rw [h]
  cases firstE (workE m) 0 m.Works <;> rfl
theorem rwork_eq {m : Map} (B : Bear m) {i : Nat} (w : Work) : ref03_checkWork m w = some ((workE m i w).getD 0) := by
  have hb := B.lanes
  unfold ref03_checkWork workE
  by_cases h1 : w.Lane_ < 0 ∨ (m.Lanes.length : Int) ≤ w.Lane_
  · rw [if_pos h1, show ((decide (w.Lane_ < 0)) || (decide (w.Lane_ ≥ (m.Lanes.length : Int)))) = true by simpa using h1]; rfl
  · rw [if_neg h1, show ((decide (w.Lane_ < 0)) || (decide (w.Lane_ ≥ (m.Lanes.length : Int)))) = false by rw [Bool.eq_false_iff]; simpa using h1, cond_false]
    obtain ⟨l, e1, e2⟩ := lane_of (m := m) (k := w.Lane_) (by omega) (by omega)
    obtain ⟨l', e3, e4⟩ := rlong_at B (k := w.Lane_) (by omega) (by omega)
    rw [e2] at e3
    cases e3
    rw [e2, Option.bind_some, rBounds_eq, Option.bind_some, e4, rwithin_eq, e1]
    simp only [Option.map_some, Option.get!_some]
    cases (decide (w.From < 0) || decide (w.From > w.To))
    · simp only [Bool.not_false, cond_true, Option.bind_some]
      cases (false || decide (w.To > laneLen m w.Lane_) || decide (w.Begin < 0) || decide (w.Begin ≥ w.End) || decide (w.End > 1099511627776))
      · simp only [Bool.not_false, cond_true, Option.bind_some]
        by_cases hq : inR w.Limit 0 (topM l.Kind).1 = true <;> simp [hq]
      · rfl
    · rfl
theorem rsignal_eq {m : Map} (S : BearS m) (i : Nat) {s : Signal} (hs : s ∈ m.Signals) : ref03_checkSignal m s = some ((signalE m i s).getD 0) := by
  obtain ⟨p1, p2⟩ := S.phases s hs
  unfold ref03_checkSignal signalE
  rw [rwithin_eq, Option.bind_some, show (0 : Int) = ((0 : Nat) : Int) from rfl, rticks_loop s p1 s.Phases 0 _ rfl (by omega), Option.bind_some]
  rw [show ((0 : Nat) : Int) = 0 from rfl, rgreens_loop m s p1 p2]
  by_cases h1 : s.Phases.length = 0
  · rw [if_pos h1, h1]; rfl
  · rw [if_neg h1, show ((s.Phases.length : Int) == 0) = false by simp only [beq_eq_false_iff_ne]; omega, cond_false]
    by_cases h2 : 6 < s.Phases.length
    · rw [if_pos h2, show decide ((s.Phases.length : Int) > 6) = true from decide_eq_true (by omega)]; rfl
    · rw [if_neg h2, show decide ((s.Phases.length : Int) > 6) = false from decide_eq_false (by omega), cond_false]
      cases inR s.Offset 0 1099511627776
      · rfl
      · cases (s.Phases.any fun p => !inR p.Ticks 1 10000)
        · cases (s.Phases.any fun p => !riseM m.Lanes.length 0 p.Green) <;> rfl
        · rfl
end Go.Abs.Roadsz

namespace Go.Abs.Roadsz
open Go Go.Abs
/-- All lists of a map are of bearable lengths. -/
structure BearM (m : Map) : Prop where
  toBear : Bear m
  toBearS : BearS m
  toBearZ : BearZ m
  toBearW : BearW m
theorem BearM.lanes {m : Map} (B : BearM m) : m.Lanes.length ≤ 1000000 := B.toBear.lanes
noncomputable def chkR (m : Map) : Int :=
  if inR m.Version 0 1099511627776 = false then 2
  else if m.Lanes.length = 0 then 6
  else if 12 < m.Lanes.length ∨ 12 < m.Zones.length ∨ 4 < m.Signals.length ∨ 8 < m.Works.length then 8
  else ((firstE (laneE m.Lanes.length) 0 m.Lanes).or ((firstE (nextE m) 0 m.Lanes).or ((firstE (signalE m) 0 m.Signals).or ((firstE (zoneE m) 0 m.Zones).or (firstE (workE m) 0 m.Works))))).getD 0
theorem firstE_ne {α : Type} {g : Nat → α → Option Int} (h : ∀ i a e, g i a = some e → e ≠ 0) : ∀ {l : List α} {i : Nat} {e : Int}, firstE g i l = some e → e ≠ 0
  | [], _, _, q => by cases q
  | a :: r, i, e, q => by
    unfold firstE at q
    cases hg : g i a with
    | some e' => rw [hg] at q; cases q; exact h i a e hg
    | none => rw [hg] at q; exact firstE_ne h q
theorem zoneE_ne {m : Map} {i : Nat} {z : Zone} {e : Int} (h : zoneE m i z = some e) : e ≠ 0 := by
  unfold zoneE at h
  repeat' split at h
  all_goals first | (cases h; decide) | cases h
theorem signalE_ne {m : Map} {i : Nat} {z : Signal} {e : Int} (h : signalE m i z = some e) : e ≠ 0 := by
  unfold signalE at h
  repeat' split at h
  all_goals first | (cases h; decide) | cases h
theorem workE_ne {m : Map} {i : Nat} {z : Work} {e : Int} (h : workE m i z = some e) : e ≠ 0 := by
  unfold workE at h
  repeat' split at h
  all_goals first | (cases h; decide) | cases h
theorem nextE_ne {m : Map} {i : Nat} {z : Lane} {e : Int} (h : nextE m i z = some e) : e ≠ 0 := firstE_ne (fun _ _ _ => jointE_ne) h
/-- A loop that goes on as long as there is no error. -/
theorem eloop {α : Type} {F : Int × Int → Option (Stp (Int × Int) Int)} (l : List α) (g : Nat → α → Option Int) (hg : ∀ i a e, g i a = some e → e ≠ 0) (hl : l.length ≤ 1000000)
    (hF : ∀ (i : Nat) a, l[i]? = some a → F (0, (i : Int)) = some (.go ((g i a).getD 0, ((i + 1 : Nat) : Int)))) (h0 : ∀ (i : Nat) (e : Int), e ≠ 0 → F (e, (i : Int)) = some (.out e)) (h1 : F (0, (l.length : Int)) = some (.out 0)) (e0 : Option Int) (he : ∀ e, e0 = some e → e ≠ 0) :
    loop F (e0.getD 0, 0) = some ((e0.or (firstE g 0 l)).getD 0) := by
  have key : ∀ (r : List α) (i : Nat), l.drop i = r → i ≤ l.length → loop F (0, (i : Int)) = some ((firstE g i r).getD 0) := by
    intro r
    induction r with
    | nil =>
      intro i hi hil
      have := drop_nil hi
      obtain rfl : i = l.length := by omega
      exact loop_out h1
    | cons a r ih =>
      intro i hi hil
      have hlt := drop_lt hi
      have hs := hF i a (get_drop hi)
      rw [loop_go hs]
      unfold firstE
      cases h : g i a with
      | some e => exact loop_out (h0 (i + 1) e (hg i a e h))
      | none => exact ih (i + 1) (drop_succ hi) (by omega)
  cases e0 with
  | some e => exact loop_out (h0 0 e (he e rfl))
  | none => exact key l 0 rfl (by omega)
theorem ref03_Check_eq {m : Map} (B : BearM m) : ref03_Check m = some (chkR m) := by
  have hb := B.lanes
  unfold ref03_Check chkR
  rw [rwithin_eq, Option.bind_some]
  cases inR m.Version 0 1099511627776
  · rfl
  · simp only [Bool.not_true, cond_false, Bool.true_eq_false, if_false]
    by_cases h1 : m.Lanes.length = 0
    · rw [if_pos h1, h1]; rfl
    · rw [if_neg h1, show ((m.Lanes.length : Int) == 0) = false by simp only [beq_eq_false_iff_ne]; omega, cond_false]
      by_cases h2 : 12 < m.Lanes.length ∨ 12 < m.Zones.length ∨ 4 < m.Signals.length ∨ 8 < m.Works.length
      · rw [if_pos h2, show ((((decide ((m.Lanes.length : Int) > 12)) || (decide ((m.Zones.length : Int) > 12))) || (decide ((m.Signals.length : Int) > 4))) || (decide ((m.Works.length : Int) > 8))) = true by simp; omega]; rfl
      · rw [if_neg h2, show ((((decide ((m.Lanes.length : Int) > 12)) || (decide ((m.Zones.length : Int) > 12))) || (decide ((m.Signals.length : Int) > 4))) || (decide ((m.Works.length : Int) > 8))) = false by simp; omega, cond_false]
        rw [rlanes_loop B.toBear]
        cases H : firstE (laneE m.Lanes.length) 0 m.Lanes with
        | some e => rfl
        | none =>
          have n1 : ∀ e, firstE (nextE m) 0 m.Lanes = some e → e ≠ 0 := fun e h => firstE_ne (fun _ _ _ => nextE_ne) h
          have n2 : ∀ e, (firstE (nextE m) 0 m.Lanes).or (firstE (signalE m) 0 m.Signals) = some e → e ≠ 0 := fun e h => by
            rcases Option.or_eq_some_iff.1 h with h | ⟨_, h⟩
            · exact n1 e h
            · exact firstE_ne (fun _ _ _ => signalE_ne) h
          have n3 : ∀ e, ((firstE (nextE m) 0 m.Lanes).or (firstE (signalE m) 0 m.Signals)).or (firstE (zoneE m) 0 m.Zones) = some e → e ≠ 0 := fun e h => by
            rcases Option.or_eq_some_iff.1 h with h | ⟨_, h⟩
            · exact n2 e h
            · exact firstE_ne (fun _ _ _ => zoneE_ne) h
          simp only [outE, thenS, Option.none_or]
          rw [(joints_eq B.toBear H).2, Option.bind_some]
          rw [eloop m.Signals (signalE m) (fun _ _ _ => signalE_ne) B.toBearS.many (fun i a ha => by
            have hi := lt_get ha
            have hm := B.toBearS.many
            unfold ref03_Check_l2
            dsimp only
            rw [lt_dec hi, geti_get ha, Bool.true_and, show ((0 : Int) == 0) = true from rfl, cond_true, Option.bind_some, rsignal_eq B.toBearS i (List.mem_of_getElem? ha), w64_succ hi (by omega)]; rfl) (fun i e he => by
            unfold ref03_Check_l2
            dsimp only
            rw [show (e == 0) = false by simpa using he, Bool.and_false]; rfl) (by unfold ref03_Check_l2; dsimp only; rw [nlt_dec]; rfl) _ n1, Option.bind_some]
          rw [eloop m.Zones (zoneE m) (fun _ _ _ => zoneE_ne) B.toBearZ.many (fun i a ha => by
            have hi := lt_get ha
            have hm := B.toBearZ.many
            unfold ref03_Check_l3
            dsimp only
            rw [lt_dec hi, geti_get ha, Bool.true_and, show ((0 : Int) == 0) = true from rfl, cond_true, Option.bind_some, rzone_eq B.toBear B.toBearZ ha, w64_succ hi (by omega)]; rfl) (fun i e he => by
            unfold ref03_Check_l3
            dsimp only
            rw [show (e == 0) = false by simpa using he, Bool.and_false]; rfl) (by unfold ref03_Check_l3; dsimp only; rw [nlt_dec]; rfl) _ n2, Option.bind_some]
          rw [eloop m.Works (workE m) (fun _ _ _ => workE_ne) B.toBearW.many (fun i a ha => by
            have hi := lt_get ha
            have hm := B.toBearW.many
            unfold ref03_Check_l4
            dsimp only
            rw [lt_dec hi, geti_get ha, Bool.true_and, show ((0 : Int) == 0) = true from rfl, cond_true, Option.bind_some, rwork_eq B.toBear (i := i) a, w64_succ hi (by omega)]; rfl) (fun i e he => by
            unfold ref03_Check_l4
            dsimp only
            rw [show (e == 0) = false by simpa using he, Bool.and_false]; rfl) (by unfold ref03_Check_l4; dsimp only; rw [nlt_dec]; rfl) _ n3, Option.bind_some]
          rw [Option.or_assoc, Option.or_assoc]
theorem roads_Check_eq {m : Map} (B : BearM m) : roads_Check m = some (chkR m) := by
  have hb := B.lanes
  have s0 : roads_Check_l1 m 0 = (roads_check_numbers ⟨m⟩).bind fun v2 => cond (v2 != 0) (some (.out (.inr v2))) (some (.go 1)) := rfl
  have s1 : roads_Check_l1 m 1 = (roads_check_lanes ⟨m⟩).bind fun v2 => cond (v2 != 0) (some (.out (.inr v2))) (some (.go 2)) := rfl
  have s2 : roads_Check_l1 m 2 = (roads_check_joints ⟨m⟩).bind fun v2 => cond (v2 != 0) (some (.out (.inr v2))) (some (.go 3)) := rfl
  have s3 : roads_Check_l1 m 3 = (roads_check_signals ⟨m⟩).bind fun v2 => cond (v2 != 0) (some (.out (.inr v2))) (some (.go 4)) := rfl
  have s4 : roads_Check_l1 m 4 = (roads_check_zones ⟨m⟩).bind fun v2 => cond (v2 != 0) (some (.out (.inr v2))) (some (.go 5)) := rfl
  have s5 : roads_Check_l1 m 5 = (roads_check_works ⟨m⟩).bind fun v2 => cond (v2 != 0) (some (.out (.inr v2))) (some (.go 6)) := rfl
  have s6 : roads_Check_l1 m 6 = some (.out (.inl ())) := rfl
  have stp : ∀ (i j : Int) (e : Option Int) (X : Option Int), (∀ e', e = some e' → e' ≠ 0) → X = some (e.getD 0) → roads_Check_l1 m i = X.bind (fun v2 => cond (v2 != 0) (some (.out (.inr v2))) (some (.go j))) → loop (roads_Check_l1 m) i = match e with | some e' => some (.inr e') | none => loop (roads_Check_l1 m) j := by
    intro i j e X he hX hs
    subst hX
    rw [Option.bind_some] at hs
    cases e with
    | none => exact loop_go hs
    | some e' =>
      rw [Option.getD_some, show (e' != 0) = true by simpa using he e' rfl] at hs
      exact loop_out hs
  unfold roads_Check chkR
  have hnum : roads_check_numbers ⟨m⟩ = some ((if inR m.Version 0 1099511627776 = false then some 2 else if m.Lanes.length = 0 then some 6 else if 12 < m.Lanes.length ∨ 12 < m.Zones.length ∨ 4 < m.Signals.length ∨ 8 < m.Works.length then some 8 else none : Option Int).getD 0) := by
    unfold roads_check_numbers
    dsimp only
    rw [within_eq, Option.bind_some]
    cases inR m.Version 0 1099511627776
    · rfl
    · simp only [Bool.not_true, cond_false, Bool.true_eq_false, if_false]
      by_cases h1 : m.Lanes.length = 0
      · rw [if_pos h1, h1]; rfl
      · rw [if_neg h1, show ((m.Lanes.length : Int) == 0) = false by simp only [beq_eq_false_iff_ne]; omega, cond_false]
        by_cases h2 : 12 < m.Lanes.length ∨ 12 < m.Zones.length ∨ 4 < m.Signals.length ∨ 8 < m.Works.length
        · rw [if_pos h2, show ((((decide ((m.Lanes.length : Int) > 12)) || (decide ((m.Zones.length : Int) > 12))) || (decide ((m.Signals.length : Int) > 4))) || (decide ((m.Works.length : Int) > 8))) = true by simp; omega]; rfl
        · rw [if_neg h2, show ((((decide ((m.Lanes.length : Int) > 12)) || (decide ((m.Zones.length : Int) > 12))) || (decide ((m.Signals.length : Int) > 4))) || (decide ((m.Works.length : Int) > 8))) = false by simp; omega]; rfl
  rw [stp 0 1 _ _ (by repeat' split
                      all_goals (intro e' h; first | (cases h; decide) | cases h)) hnum s0]
  by_cases q1 : inR m.Version 0 1099511627776 = false
  · rw [if_pos q1, if_pos q1]; rfl
  · rw [if_neg q1, if_neg q1]
    by_cases q2 : m.Lanes.length = 0
    · rw [if_pos q2, if_pos q2]; rfl
    · rw [if_neg q2, if_neg q2]
      by_cases q3 : 12 < m.Lanes.length ∨ 12 < m.Zones.length ∨ 4 < m.Signals.length ∨ 8 < m.Works.length
      · rw [if_pos q3, if_pos q3]; rfl
      · rw [if_neg q3, if_neg q3]
        dsimp only
        rw [stp 1 2 _ _ (fun e' h => firstE_ne (fun _ _ _ => laneE_ne) h) (lanes_eq B.toBear) s1]
        cases H : firstE (laneE m.Lanes.length) 0 m.Lanes with
        | some e => rfl
        | none =>
          dsimp only
          rw [stp 2 3 _ _ (fun e' h => firstE_ne (fun _ _ _ => nextE_ne) h) (joints_eq B.toBear H).1 s2]
          cases firstE (nextE m) 0 m.Lanes with
          | some e => rfl
          | none =>
            dsimp only
            rw [stp 3 4 _ _ (fun e' h => firstE_ne (fun _ _ _ => signalE_ne) h) (signals_eq B.toBear B.toBearS) s3]
            cases firstE (signalE m) 0 m.Signals with
            | some e => rfl
            | none =>
              dsimp only
              rw [stp 4 5 _ _ (fun e' h => firstE_ne (fun _ _ _ => zoneE_ne) h) (zones_eq B.toBear B.toBearZ) s4]
              cases firstE (zoneE m) 0 m.Zones with
              | some e => rfl
              | none =>
                dsimp only
                rw [stp 5 6 _ _ (fun e' h => firstE_ne (fun _ _ _ => workE_ne) h) (works_eq B.toBear B.toBearW) s5]
                cases firstE (workE m) 0 m.Works with
                | some e => rfl
                | none => dsimp only; rw [loop_out s6]; rfl
end Go.Abs.Roadsz

namespace Go.Abs.Roadsz
open Go Go.Abs
/-- What a valid map is. -/
structure ValR (m : Map) : Prop where
  ver : 0 ≤ m.Version ∧ m.Version ≤ 1099511627776
  pos : 0 < m.Lanes.length
  lanes : m.Lanes.length ≤ 12
  zones : m.Zones.length ≤ 12
  signals : m.Signals.length ≤ 4
  works : m.Works.length ≤ 8
  laneE : firstE (laneE m.Lanes.length) 0 m.Lanes = none
  nextE : firstE (nextE m) 0 m.Lanes = none
  signalE : firstE (signalE m) 0 m.Signals = none
  zoneE : firstE (zoneE m) 0 m.Zones = none
  workE : firstE (workE m) 0 m.Works = none
theorem getD_none {α : Type} {g : Nat → α → Option Int} {l : List α} (h : ∀ i a e, g i a = some e → e ≠ 0) (h0 : (firstE g 0 l).getD 0 = 0) : firstE g 0 l = none := by
  cases q : firstE g 0 l with
  | none => rfl
  | some e => rw [q] at h0; exact absurd h0 (firstE_ne h q)
theorem chkR_zero {m : Map} : chkR m = 0 ↔ ValR m := by
  unfold chkR
  constructor
  · intro h
    split at h
    · cases h
    · rename_i h1
      split at h
      · cases h
      · rename_i h2
        split at h
        · cases h
        · rename_i h3
          simp only [inR, Bool.not_eq_false, Bool.and_eq_true, decide_eq_true_eq] at h1
          have key : ∀ {o r : Option Int}, (∀ e, o = some e → e ≠ 0) → (o.or r).getD 0 = 0 → o = none ∧ r.getD 0 = 0 := by
            intro o r ho hr
            cases o with
            | none => exact ⟨rfl, hr⟩
            | some e => exact absurd hr (ho e rfl)
          obtain ⟨a1, h⟩ := key (fun e h => firstE_ne (fun _ _ _ => laneE_ne) h) h
          obtain ⟨a2, h⟩ := key (fun e h => firstE_ne (fun _ _ _ => nextE_ne) h) h
          obtain ⟨a3, h⟩ := key (fun e h => firstE_ne (fun _ _ _ => signalE_ne) h) h
          obtain ⟨a4, h⟩ := key (fun e h => firstE_ne (fun _ _ _ => zoneE_ne) h) h
          exact ⟨h1, by omega, by omega, by omega, by omega, by omega, a1, a2, a3, a4, getD_none (fun _ _ _ => workE_ne) h⟩
  · rintro ⟨h1, h2, h3, h4, h5, h6, a1, a2, a3, a4, a5⟩
    rw [if_neg (by simp only [inR, Bool.not_eq_false, Bool.and_eq_true, decide_eq_true_eq]; exact h1), if_neg (by omega), if_neg (by omega), a1, a2, a3, a4, a5]; rfl
section
variable {m : Map}
theorem ValR.laneOK (V : ValR m) {i : Nat} {l : Lane} (h : m.Lanes[i]? = some l) : LaneOK m.Lanes.length i l := lanes_ok V.laneE h
theorem ValR.next (V : ValR m) {i : Nat} {l : Lane} (h : m.Lanes[i]? = some l) {k : Int} (hk : k ∈ l.Next) : (i : Int) < k ∧ k < m.Lanes.length := by
  have := riseM_mem (V.laneOK h).next k hk
  omega
end
/-- The lanes in which a lane goes on. -/
def nextOf (m : Map) (a : Nat) : List Int := ((m.Lanes[a]?).map (·.Next)).getD []
theorem ValR.nextOf {m : Map} (V : ValR m) {a : Nat} {k : Int} (hk : k ∈ Roadsz.nextOf m a) : (a : Int) < k ∧ k < m.Lanes.length := by
  unfold Roadsz.nextOf at hk
  cases h : m.Lanes[a]? with
  | none => rw [h] at hk; cases hk
  | some l => rw [h] at hk; exact V.next h hk
def leadsN (m : Map) (b : Int) : Nat → Nat → Bool
  | 0, _ => false
  | n + 1, a => (nextOf m a).any fun k => k == b || leadsN m b n k.toNat
theorem leadsN_stop {m : Map} (V : ValR m) (b : Int) : ∀ (n n' a : Nat), m.Lanes.length ≤ a + n → m.Lanes.length ≤ a + n' → leadsN m b n a = leadsN m b n' a := by
  intro n
  induction n with
  | zero =>
    intro n' a h h'
    have : nextOf m a = [] := by
      unfold nextOf
      rw [List.getElem?_eq_none (by omega)]; rfl
    cases n' with
    | zero => rfl
    | succ n' => rw [leadsN, leadsN, this]; rfl
  | succ n ih =>
    intro n' a h h'
    cases n' with
    | zero =>
      have : nextOf m a = [] := by
        unfold nextOf
        rw [List.getElem?_eq_none (by omega)]; rfl
      rw [leadsN, leadsN, this]; rfl
    | succ n' =>
      rw [leadsN, leadsN]
      rw [Bool.eq_iff_iff, List.any_eq_true, List.any_eq_true]
      refine exists_congr fun k => and_congr_right fun hk => ?_
      have := V.nextOf hk
      rw [ih n' k.toNat (by omega) (by omega)]
/-- Does a lane lead to another one? -/
def leadsM (m : Map) (a : Nat) (b : Int) : Bool := leadsN m b m.Lanes.length a
theorem leadsM_eq {m : Map} (V : ValR m) (a : Nat) (b : Int) : leadsM m a b = (nextOf m a).any fun k => k == b || leadsM m k.toNat b := by
  unfold leadsM
  rw [leadsN_stop V b _ (m.Lanes.length + 1) a (by omega) (by omega), leadsN]
end Go.Abs.Roadsz

namespace Go.Abs.Roadsz
open Go Go.Abs
theorem wrap32 {x : Nat} (h : x < 2 ^ 32) : IntKind.wrap .u32 (x : Int) = (x : Int) := by
  have e : IntKind.wrap .u32 (x : Int) = (x : Int) % 4294967296 := rfl
  rw [e]; omega
theorem wrap64 {x : Int} (h0 : 0 ≤ x) (h : x < 4294967296) : IntKind.wrap .u64 x = x := by
  have e : IntKind.wrap .u64 x = x % 18446744073709551616 := rfl
  rw [e]; omega
theorem bv32 {x : Nat} (_ : x < 2 ^ 32) : BitVec.ofInt 32 (x : Int) = BitVec.ofNat 32 x := by
  rw [BitVec.ofInt_natCast]
theorem or32 {x y : Nat} (hx : x < 2 ^ 32) (hy : y < 2 ^ 32) : IntKind.wrap .u32 (((BitVec.ofInt (IntKind.bits .u32) (x : Int) ||| BitVec.ofInt (IntKind.bits .u32) (y : Int)).toNat : Nat)) = ((x ||| y : Nat) : Int) := by
  have : (BitVec.ofInt (IntKind.bits .u32) (x : Int) ||| BitVec.ofInt (IntKind.bits .u32) (y : Int)).toNat = x ||| y := by
    show (BitVec.ofInt 32 (x : Int) ||| BitVec.ofInt 32 (y : Int)).toNat = x ||| y
    rw [bv32 hx, bv32 hy, BitVec.toNat_or, BitVec.toNat_ofNat, BitVec.toNat_ofNat, Nat.mod_eq_of_lt hx, Nat.mod_eq_of_lt hy]
  rw [this]
  exact wrap32 (Nat.or_lt_two_pow hx hy)
theorem bit1 (x : Nat) (b : Nat) : (((x >>> b) &&& 1) == 1) = x.testBit b := by
  rw [Nat.testBit, Nat.and_comm]
  have : 1 &&& (x >>> b) = (x >>> b) % 2 := Nat.one_and_eq_mod_two _
  rw [this]
  rcases Nat.mod_two_eq_zero_or_one (x >>> b) with h | h <;> rw [h] <;> rfl
theorem shl1 {k : Int} (h0 : 0 ≤ k) (h : k < 32) : shlc .u32 1 (IntKind.wrap .u64 k) = some ((2 ^ k.toNat : Nat) : Int) := by
  rw [wrap64 h0 (by omega)]
  unfold shlc
  rw [if_neg (by omega)]
  have : min k.toNat (IntKind.bits .u32) = k.toNat := by show min k.toNat 32 = _; omega
  rw [this, Int.one_mul, show ((2 : Int) ^ k.toNat) = ((2 ^ k.toNat : Nat) : Int) by simp]
  rw [wrap32 (Nat.pow_lt_pow_right (by decide) (by omega))]
theorem set_has_eq {x : Nat} (hx : x < 2 ^ 32) {b : Int} (h0 : 0 ≤ b) (h : b < 32) : roads_set_has (x : Int) b = some (x.testBit b.toNat) := by
  unfold roads_set_has shrc
  rw [wrap64 h0 (by omega), if_neg (by omega), Option.bind_some]
  have e1 : min b.toNat (IntKind.bits .u32) = b.toNat := by show min b.toNat 32 = _; omega
  have e2 : ((x : Int).fdiv (2 ^ b.toNat)) = ((x >>> b.toNat : Nat) : Int) := by
    rw [show ((2 : Int) ^ b.toNat) = ((2 ^ b.toNat : Nat) : Int) by simp, Nat.shiftRight_eq_div_pow]
    rw [Int.fdiv_eq_ediv_of_nonneg _ (Int.natCast_nonneg _)]; rfl
  have hy : x >>> b.toNat < 2 ^ 32 := by rw [Nat.shiftRight_eq_div_pow]; exact Nat.lt_of_le_of_lt (Nat.div_le_self _ _) hx
  rw [e1, e2]
  have e3 : (BitVec.ofInt (IntKind.bits .u32) ((x >>> b.toNat : Nat) : Int) &&& BitVec.ofInt (IntKind.bits .u32) 1).toNat = x >>> b.toNat &&& 1 := by
    show (BitVec.ofInt 32 ((x >>> b.toNat : Nat) : Int) &&& BitVec.ofInt 32 ((1 : Nat) : Int)).toNat = _
    rw [bv32 hy, bv32 (by decide), BitVec.toNat_and, BitVec.toNat_ofNat, BitVec.toNat_ofNat, Nat.mod_eq_of_lt hy]
  rw [e3, wrap32 (Nat.lt_of_le_of_lt (Nat.and_le_right) (by decide)), ← bit1]
  congr 1
  rw [Bool.eq_iff_iff]; simp only [beq_iff_eq]; omega
abbrev T12 := Int × Int × Int × Int × Int × Int × Int × Int × Int × Int × Int × Int
def ofL (v : List Int) : T12 := ((v.getD 0 0), (v.getD 1 0), (v.getD 2 0), (v.getD 3 0), (v.getD 4 0), (v.getD 5 0), (v.getD 6 0), (v.getD 7 0), (v.getD 8 0), (v.getD 9 0), (v.getD 10 0), (v.getD 11 0))
def toL (t : T12) : List Int := [t.1, t.2.1, t.2.2.1, t.2.2.2.1, t.2.2.2.2.1, t.2.2.2.2.2.1, t.2.2.2.2.2.2.1, t.2.2.2.2.2.2.2.1, t.2.2.2.2.2.2.2.2.1, t.2.2.2.2.2.2.2.2.2.1, t.2.2.2.2.2.2.2.2.2.2.1, t.2.2.2.2.2.2.2.2.2.2.2]
theorem toL_ofL {v : List Int} (h : v.length = 12) : toL (ofL v) = v := by
  match v, h with
  | [_, _, _, _, _, _, _, _, _, _, _, _], _ => rfl
def castL (l : List Nat) : List Int := l.map fun x : Nat => (x : Int)
theorem castL_get {l : List Nat} {i : Nat} {x : Nat} (h : l[i]? = some x) : geti (castL l) (i : Int) = some (x : Int) := geti_get (by rw [castL, List.getElem?_map, h]; rfl)
/-- The round of the inner loop. -/
theorem reach_step {l : List Nat} (hl : l.length = 12) {i : Nat} {x : Nat} (hx : l[i]? = some x) (hx32 : x < 2 ^ 32) {k : Int} {y : Nat} (hk0 : 0 ≤ k) (hk : k < 12) (hy : l[k.toNat]? = some y) (hy32 : y < 2 ^ 32) {ln : Lane} {j : Nat} (hj : ln.Next[j]? = some k) (hn : ln.Next.length ≤ 1000000) (z : T12) :
    roads_reach_l2 ((i : Int), z) ln ((j : Int), ofL (castL l)) = some (.go (((j + 1 : Nat) : Int), ofL (castL (l.set i (x ||| (y ||| 2 ^ k.toNat)))))) := by
  have hi : i < 12 := by have := (List.getElem?_eq_some_iff.1 hx).1; omega
  have hp : 2 ^ k.toNat < 2 ^ 32 := Nat.pow_lt_pow_right (by decide) (by omega)
  unfold roads_reach_l2
  dsimp only
  rw [lt_dec (lt_get hj), geti_get hj, cond_true, Option.bind_some]
  have e : ∀ t : T12, [t.1, t.2.1, t.2.2.1, t.2.2.2.1, t.2.2.2.2.1, t.2.2.2.2.2.1, t.2.2.2.2.2.2.1, t.2.2.2.2.2.2.2.1, t.2.2.2.2.2.2.2.2.1, t.2.2.2.2.2.2.2.2.2.1, t.2.2.2.2.2.2.2.2.2.2.1, t.2.2.2.2.2.2.2.2.2.2.2] = toL t := fun _ => rfl
  rw [e, toL_ofL (by simpa [castL] using hl), castL_get hx, Option.bind_some]
  have hy' := castL_get hy
  rw [show ((k.toNat : Nat) : Int) = k by omega] at hy'
  rw [hy', Option.bind_some, shl1 hk0 (by omega), Option.bind_some, Option.bind_some, or32 hy32 hp, or32 hx32 (Nat.or_lt_two_pow hy32 hp)]
  unfold setc
  rw [if_pos ⟨by omega, by simp [castL]; omega⟩, Option.bind_some, w64_succ (lt_get hj) (by omega)]
  have : (castL l).set (i : Int).toNat ((x ||| (y ||| 2 ^ k.toNat) : Nat) : Int) = castL (l.set i (x ||| (y ||| 2 ^ k.toNat))) := by
    rw [Int.toNat_natCast, castL, castL, List.map_set]
  rw [this]; rfl
/-- What is known of the sets of the lanes from a number on. -/
structure Reach (m : Map) (i : Nat) (l : List Nat) : Prop where
  len : l.length = 12
  small : ∀ (a x : Nat), l[a]? = some x → x < 2 ^ 32
  zero : ∀ (a : Nat), a < i → l[a]? = some 0
  bits : ∀ (a x : Nat), i ≤ a → a < m.Lanes.length → l[a]? = some x → ∀ b : Nat, x.testBit b = leadsM m a (b : Int)
theorem Reach.get {m : Map} {i : Nat} {l : List Nat} (R : Reach m i l) {a : Nat} (h : a < 12) : ∃ x, l[a]? = some x ∧ x < 2 ^ 32 := by
  have := R.len
  exact ⟨l[a], List.getElem?_eq_getElem (by omega), R.small a _ (List.getElem?_eq_getElem (by omega))⟩
theorem reach_in {m : Map} (V : ValR m) {i : Nat} {ln : Lane} (hln : m.Lanes[i]? = some ln) {l0 : List Nat} (R : Reach m (i + 1) l0) (z : T12) : ∀ (r : List Int) (j : Nat) (l : List Nat) (x : Nat), ln.Next.drop j = r → l.length = 12 → l[i]? = some x → x < 2 ^ 32 → (∀ a : Nat, a ≠ i → l[a]? = l0[a]?) → (∀ b : Nat, x.testBit b = (ln.Next.take j).any fun k => k == (b : Int) || leadsM m k.toNat (b : Int)) →
    ∃ l', loop (roads_reach_l2 ((i : Int), z) ln) ((j : Int), ofL (castL l)) = some (ofL (castL l')) ∧ Reach m i l' := by
  have hi := lt_get hln
  have h12 := V.lanes
  have hn := (V.laneOK hln).few
  intro r
  induction r with
  | nil =>
    intro j l x hj hl hx hx32 hoth hb
    have hjl := drop_nil hj
    refine ⟨l, loop_out ?_, hl, fun a y hy => ?_, fun a ha => ?_, fun a y ha ha' hy b => ?_⟩
    · unfold roads_reach_l2
      dsimp only
      rw [show decide ((j : Int) < (ln.Next.length : Int)) = false from decide_eq_false (by omega)]; rfl
    · by_cases e : a = i
      · subst e; rw [hx] at hy; cases hy; exact hx32
      · rw [hoth a e] at hy; exact R.small a y hy
    · rw [hoth a (by omega)]; exact R.zero a (by omega)
    · by_cases e : a = i
      · subst e; rw [hx] at hy; cases hy
        rw [hb b, leadsM_eq V a, List.take_of_length_le hjl]
        unfold Roadsz.nextOf
        rw [hln]; rfl
      · rw [hoth a e] at hy; exact R.bits a y (by omega) ha' hy b
  | cons k r ih =>
    intro j l x hj hl hx hx32 hoth hb
    have hk := get_drop hj
    have hkm := V.next hln (List.mem_of_getElem? hk)
    obtain ⟨y, hy, hy32⟩ := R.get (a := k.toNat) (by omega)
    have hy' : l[k.toNat]? = some y := by rw [hoth k.toNat (by omega)]; exact hy
    have hp : 2 ^ k.toNat < 2 ^ 32 := Nat.pow_lt_pow_right (by decide) (by omega)
    rw [loop_go (reach_step hl hx hx32 (by omega) (by omega) hy' hy32 hk (by omega) z)]
    refine ih (j + 1) _ _ (drop_succ hj) (by simpa using hl) (by rw [List.getElem?_set_self (by omega)]) (Nat.or_lt_two_pow hx32 (Nat.or_lt_two_pow hy32 hp)) (fun a ha => by rw [List.getElem?_set_ne (Ne.symm ha)]; exact hoth a ha) (fun b => ?_)
    rw [Nat.testBit_or, Nat.testBit_or, hb b, R.bits k.toNat y (by omega) (by omega) hy b, Nat.testBit_two_pow, List.take_add_one, hk]
    simp only [Option.toList_some, List.any_append, List.any_cons, List.any_nil, Bool.or_false]
    rw [Bool.or_comm (leadsM m k.toNat b)]
    congr 2
    rw [Bool.eq_iff_iff]; simp only [decide_eq_true_eq, beq_iff_eq]; omega
theorem reach_out {m : Map} (V : ValR m) : ∀ (i : Nat) (l : List Nat), i ≤ m.Lanes.length → Reach m i l → ∃ l', loop (roads_reach_l1 m) ((i : Int) - 1, ofL (castL l)) = some (ofL (castL l')) ∧ Reach m 0 l'
  | 0, l, _, R => ⟨l, loop_out rfl, R⟩
  | i + 1, l, hi, R => by
    have h12 := V.lanes
    have hln : m.Lanes[i]? = some m.Lanes[i] := List.getElem?_eq_getElem (by omega)
    obtain ⟨x, hx, _⟩ := R.get (a := i) (by omega)
    have hx0 := R.zero i (by omega)
    obtain ⟨l1, e1, R1⟩ := reach_in V hln R (ofL (castL l)) m.Lanes[i].Next 0 l 0 rfl R.len hx0 (by decide) (fun _ _ => rfl) (fun b => by simp)
    obtain ⟨l2, e2, R2⟩ := reach_out V i l1 (by omega) R1
    refine ⟨l2, ?_, R2⟩
    rw [← e2]
    refine loop_go ?_
    unfold roads_reach_l1
    dsimp only
    rw [show ((i + 1 : Nat) : Int) - 1 = (i : Int) by omega, show decide ((i : Int) ≥ 0) = true from decide_eq_true (by omega), geti_get hln, cond_true, Option.bind_some]
    rw [show (0 : Int) = ((0 : Nat) : Int) from rfl, e1, Option.bind_some, w64_id (by omega)]
theorem reach_eq {m : Map} (V : ValR m) : ∃ l, roads_reach m = some (ofL (castL l)) ∧ Reach m 0 l := by
  have h12 := V.lanes
  have hp := V.pos
  have R0 : Reach m m.Lanes.length (List.replicate 12 0) := by
    refine ⟨by simp, fun a x hx => ?_, fun a ha => ?_, fun a x h1 h2 => by omega⟩
    · rw [List.getElem?_replicate] at hx
      split at hx
      · cases hx; decide
      · cases hx
    · rw [List.getElem?_replicate, if_pos (by omega)]
  obtain ⟨l, e, R⟩ := reach_out V m.Lanes.length (List.replicate 12 0) (Nat.le_refl _) R0
  refine ⟨l, ?_, R⟩
  unfold roads_reach
  rw [w64_id (by omega)]
  have : ((0, 0, 0, 0, 0, 0, 0, 0, 0, 0, 0, 0) : T12) = ofL (castL (List.replicate 12 0)) := rfl
  rw [this, e]; rfl
/-- The bit of a set. -/
theorem reach_bit {m : Map} {l : List Nat} (V : ValR m) (R : Reach m 0 l) {a b : Int} (ha : 0 ≤ a) (ha' : a < m.Lanes.length) (hb : 0 ≤ b) (hb' : b < 32) : ((geti (toL (ofL (castL l))) a).bind fun v => roads_set_has v b) = some (leadsM m a.toNat b) := by
  have h12 := V.lanes
  obtain ⟨x, hx, h32⟩ := R.get (a := a.toNat) (by omega)
  have := castL_get hx
  rw [show ((a.toNat : Nat) : Int) = a by omega] at this
  rw [toL_ofL (by simpa [castL] using R.len), this, Option.bind_some, set_has_eq h32 hb hb', R.bits a.toNat x (by omega) (by omega) hx b.toNat, show ((b.toNat : Nat) : Int) = b by omega]
end Go.Abs.Roadsz

namespace Go.Abs.Roadsz
open Go Go.Abs
theorem leadsM_lt {m : Map} (V : ValR m) {b : Int} : ∀ (n a : Nat), m.Lanes.length ≤ a + n → leadsM m a b = true → (a : Int) < b ∧ b < m.Lanes.length
  | 0, a, hn, h => by
    rw [leadsM_eq V] at h
    have : nextOf m a = [] := by
      unfold nextOf
      rw [List.getElem?_eq_none (by omega)]; rfl
    rw [this] at h
    cases h
  | n + 1, a, hn, h => by
    rw [leadsM_eq V, List.any_eq_true] at h
    obtain ⟨k, hk, h⟩ := h
    have := V.nextOf hk
    rcases Bool.or_eq_true _ _ ▸ h with h | h
    · have := eq_of_beq h; omega
    · have := leadsM_lt V n k.toNat (by omega) h; omega
theorem leads_up {m : Map} (V : ValR m) {a : Nat} {b : Int} (h : leadsM m a b = true) : (a : Int) < b ∧ b < m.Lanes.length := leadsM_lt V m.Lanes.length a (by omega) h
theorem ref03_leads_eq {m : Map} (V : ValR m) (b : Int) : ∀ (n a : Nat), a < m.Lanes.length → m.Lanes.length ≤ a + n → ref03_leads_n n m (a : Int) b = some (leadsM m a b)
  | 0, a, ha, hn => by omega
  | n + 1, a, ha, hn => by
    have hl : m.Lanes[a]? = some m.Lanes[a] := List.getElem?_eq_getElem ha
    have hfew := (V.laneOK hl).few
    show ref03_leads_b (ref03_leads_n n) m (a : Int) b = _
    unfold ref03_leads_b
    rw [geti_get hl, Option.bind_some, aloop m.Lanes[a].Next (fun k => k == b || leadsM m k.toNat b) true (fun i k hk => by
      have hi := lt_get hk
      have hkm := V.next hl (List.mem_of_getElem? hk)
      unfold ref03_leads_b_l1
      have := ref03_leads_eq V b n k.toNat (by omega) (by omega)
      rw [show ((k.toNat : Nat) : Int) = k by omega] at this
      rw [lt_dec hi, geti_get hk, cond_true, Option.bind_some, w64_succ hi (by omega)]
      cases k == b
      · simp only [Bool.not_false, cond_true, Option.bind_some, Bool.false_or]
        rw [this, Option.bind_some]
        cases leadsM m k.toNat b <;> rfl
      · rfl) (by
      unfold ref03_leads_b_l1
      rw [nlt_dec]; rfl)]
    rw [leadsM_eq V, nextOf, hl, Option.map_some, Option.getD_some]
    cases (m.Lanes[a].Next.any fun k => k == b || leadsM m k.toNat b) <;> rfl
theorem ref03_leads_at {m : Map} (V : ValR m) {a b : Int} (h0 : 0 ≤ a) (h : a < m.Lanes.length) : ref03_leads m a b = some (leadsM m a.toNat b) := by
  have h12 := V.lanes
  have := ref03_leads_eq V b 100 a.toNat (by omega) (by omega)
  rw [show ((a.toNat : Nat) : Int) = a by omega] at this
  exact this
/-! ### Is a lane there? -/
theorem ref03_length_at {m : Map} (B : BearM m) {k : Int} (h0 : 0 ≤ k) (h1 : k < m.Lanes.length) : ref03_length m k = some (laneLen m k) := by
  obtain ⟨l, e1, e2⟩ := rlong_at B.toBear h0 h1
  unfold ref03_length
  rw [e1, Option.bind_some, e2]; rfl
theorem contains_eq (l : List Int) (hl : l.length ≤ 1000000) (k : Int) : slices_Contains_int_int l k = some (l.contains k) := by
  unfold slices_Contains_int_int slices_Index_int_int
  rw [index_eq l (fun x => k == x) (by omega) (fun i a h => by
    have hi := lt_get h
    unfold slices_Index_int_int_l1
    rw [lt_dec hi, geti_get h, cond_true, Option.bind_some]
    cases k == a <;> rfl) (by unfold slices_Index_int_int_l1; rw [nlt_dec]; rfl)]
  rw [Option.bind_some, idxI_any, List.contains_eq_any_beq]
theorem has_eq (l : List Int) (hl : l.length ≤ 1000000) (k : Int) : ref03_has l k = some (l.contains k) := by
  unfold ref03_has
  rw [aloop l (fun x => x == k) true (fun i a h => by
    have hi := lt_get h
    unfold ref03_has_l1
    rw [lt_dec hi, geti_get h, cond_true, Option.bind_some, w64_succ hi (by omega)]
    cases a == k <;> rfl) (by unfold ref03_has_l1; rw [nlt_dec]; rfl)]
  rw [List.contains_eq_any_beq, show (fun x => x == k) = (fun x => k == x) from funext fun x => by rw [Bool.beq_comm]]
  cases l.any fun x => k == x <;> rfl
/-- What comes before a lane. -/
def beforeM (m : Map) (k : Int) : List Int := pickI (fun i (l : Lane) => if l.Next.contains k then some (i : Int) else none) 0 m.Lanes
theorem before_eq {m : Map} (B : BearM m) (k : Int) : roads_before m k = some (beforeM m k) := by
  unfold roads_before beforeM
  have hb := B.lanes
  rw [ploop2 m.Lanes (fun i (l : Lane) => if l.Next.contains k then some (i : Int) else none) id (fun i l s h hs => by
    have hi := lt_get h
    unfold roads_before_l1
    dsimp only
    rw [lt_dec hi, geti_get h, cond_true, Option.bind_some, contains_eq _ (B.toBear.pts l (List.mem_of_getElem? h)).2, Option.bind_some, appc_ok (by simp; omega), w64_succ hi (by omega)]
    cases l.Next.contains k <;> rfl) (fun s => by unfold roads_before_l1; rw [nlt_dec]; rfl)]
  rfl
theorem rbefore_eq {m : Map} (B : BearM m) (k : Int) : ref03_before m k = some (beforeM m k) := by
  unfold ref03_before beforeM
  have hb := B.lanes
  rw [ploop2 m.Lanes (fun i (l : Lane) => if l.Next.contains k then some (i : Int) else none) id (fun i l s h hs => by
    have hi := lt_get h
    unfold ref03_before_l1
    dsimp only
    rw [lt_dec hi, geti_get h, cond_true, Option.bind_some, has_eq _ (B.toBear.pts l (List.mem_of_getElem? h)).2, Option.bind_some, appc_ok (by simp; omega), w64_succ hi (by omega)]
    cases l.Next.contains k <;> rfl) (fun s => by unfold ref03_before_l1; rw [nlt_dec]; rfl)]
  rfl
end Go.Abs.Roadsz

namespace Go.Abs.Roadsz
open Go Go.Abs
def partM (z : Zone) (k : Int) : Part × Bool := match z.Parts.find? (fun p => p.Lane_ == k) with | some p => (p, true) | none => (⟨0, 0, 0, 0⟩, false)
theorem part_eq {z : Zone} (hl : z.Parts.length ≤ 1000000) (k : Int) : roads_part z k = some (partM z k) := by
  unfold roads_part slices_IndexFunc_Part_Part_roads_part_1b partM
  rw [index_eq z.Parts (fun p => p.Lane_ == k) (by omega) (fun i a h => by
    have hi := lt_get h
    unfold slices_IndexFunc_Part_Part_roads_part_1b_l1 roads_part_1_b
    rw [lt_dec hi, geti_get h, cond_true, Option.bind_some, Option.bind_some]
    cases a.Lane_ == k <;> rfl) (by unfold slices_IndexFunc_Part_Part_roads_part_1b_l1; rw [nlt_dec]; rfl), Option.bind_some]
  unfold idxI
  cases h : z.Parts.findIdx? (fun p => p.Lane_ == k) with
  | none =>
    have : z.Parts.find? (fun p => p.Lane_ == k) = none := by
      rw [List.find?_eq_none]
      have := List.findIdx?_eq_none_iff.1 h
      intro x hx; simpa using this x hx
    rw [this]; rfl
  | some i =>
    obtain ⟨hi, h1, h2⟩ := List.findIdx?_eq_some_iff_getElem.1 h
    have : z.Parts.find? (fun p => p.Lane_ == k) = some z.Parts[i] := by
      rw [List.find?_eq_some_iff_getElem]
      exact ⟨h1, i, hi, rfl, fun j hj => by simpa using h2 j hj⟩
    rw [this]
    dsimp only
    rw [show decide ((i : Int) < 0) = false from decide_eq_false (by omega), cond_false, geti_nat hi]; rfl
/-- Is a lane an entry of a zone? -/
def entryM (m : Map) (z : Zone) (b : Int) : Bool := !(z.Parts.any fun p => leadsM m p.Lane_.toNat b)
structure ZoneOK (m : Map) (z : Zone) : Prop where
  two : 2 ≤ z.Parts.length
  six : z.Parts.length ≤ 6
  sig : 0 ≤ z.Signal_ ∧ z.Signal_ ≤ m.Signals.length
  rise : riseM m.Lanes.length 0 (z.Parts.map (·.Lane_)) = true
  part : ∀ p ∈ z.Parts, 0 ≤ p.From ∧ p.From < p.To ∧ p.To ≤ laneLen m p.Lane_ ∧ 0 ≤ p.Rank ∧ p.Rank ≤ 100
theorem zoneE_none {m : Map} {i : Nat} {z : Zone} (h : zoneE m i z = none) : ZoneOK m z := by
  unfold zoneE at h
  split at h
  · cases h
  · rename_i h1
    split at h
    · cases h
    · rename_i h2
      split at h
      · cases h
      · rename_i h3
        split at h
        · cases h
        · rename_i h4
          split at h
          · cases h
          · rename_i h5
            refine ⟨by omega, by omega, by omega, by simpa using h4, fun p hp => ?_⟩
            have := List.any_eq_false.1 (Bool.eq_false_iff.2 h5) p hp
            simp only [partBad, Bool.or_eq_true, decide_eq_true_eq, not_or, Int.not_lt, Int.not_le, ge_iff_le, gt_iff_lt] at this
            omega
theorem ValR.zoneOK {m : Map} (V : ValR m) {z : Zone} (hz : z ∈ m.Zones) : ZoneOK m z := by
  obtain ⟨i, hi, rfl⟩ := List.mem_iff_getElem.1 hz
  have := firstE_none.1 V.zoneE i _ (List.getElem?_eq_getElem hi)
  exact zoneE_none this
theorem ZoneOK.lane {m : Map} {z : Zone} (O : ZoneOK m z) {p : Part} (hp : p ∈ z.Parts) : 0 ≤ p.Lane_ ∧ p.Lane_ < m.Lanes.length := riseM_mem O.rise p.Lane_ (List.mem_map.2 ⟨p, hp, rfl⟩)
theorem entry_eq {m : Map} (V : ValR m) {z : Zone} (O : ZoneOK m z) {b : Int} (h0 : 0 ≤ b) (h1 : b < 32) : roads_entry m z b = some (entryM m z b) := by
  obtain ⟨l, e, R⟩ := reach_eq V
  have h6 := O.six
  unfold roads_entry slices_ContainsFunc_Part_Part_roads_entry_1oo slices_IndexFunc_Part_Part_roads_entry_1oo entryM
  rw [e, Option.bind_some, index_eq z.Parts (fun p => leadsM m p.Lane_.toNat b) (by omega) (fun i a h => by
    have hi := lt_get h
    have hk := O.lane (List.mem_of_getElem? h)
    have hbit := reach_bit V R hk.1 hk.2 h0 h1
    unfold slices_IndexFunc_Part_Part_roads_entry_1oo_l1 roads_entry_1_o_o
    rw [lt_dec hi, geti_get h, cond_true, Option.bind_some]
    cases hg : geti (toL (ofL (castL l))) a.Lane_ with
    | none => rw [hg] at hbit; cases hbit
    | some v =>
      rw [hg, Option.bind_some] at hbit
      have hg' : geti ([(ofL (castL l)).1, (ofL (castL l)).2.1, (ofL (castL l)).2.2.1, (ofL (castL l)).2.2.2.1, (ofL (castL l)).2.2.2.2.1, (ofL (castL l)).2.2.2.2.2.1, (ofL (castL l)).2.2.2.2.2.2.1, (ofL (castL l)).2.2.2.2.2.2.2.1, (ofL (castL l)).2.2.2.2.2.2.2.2.1, (ofL (castL l)).2.2.2.2.2.2.2.2.2.1, (ofL (castL l)).2.2.2.2.2.2.2.2.2.2.1, (ofL (castL l)).2.2.2.2.2.2.2.2.2.2.2] : List Int) a.Lane_ = some v := hg
      rw [hg', Option.bind_some, hbit, Option.bind_some, Option.bind_some]
      cases leadsM m a.Lane_.toNat b <;> rfl) (by unfold slices_IndexFunc_Part_Part_roads_entry_1oo_l1; rw [nlt_dec]; rfl)]
  rw [Option.bind_some, idxI_any, Option.bind_some]
theorem rentry_eq {m : Map} (V : ValR m) {z : Zone} (O : ZoneOK m z) (b : Int) : ref03_entry m z b = some (entryM m z b) := by
  have h6 := O.six
  unfold ref03_entry entryM
  rw [aloop z.Parts (fun p => leadsM m p.Lane_.toNat b) false (fun i a h => by
    have hi := lt_get h
    have hk := O.lane (List.mem_of_getElem? h)
    unfold ref03_entry_l1
    rw [lt_dec hi, geti_get h, cond_true, Option.bind_some, w64_succ hi (by omega)]
    cases q : a.Lane_ != b
    · have e : a.Lane_ = b := by simpa using q
      have : leadsM m a.Lane_.toNat b = false := by
        rw [Bool.eq_false_iff]
        intro h'
        have := leads_up V h'
        omega
      rw [this]; rfl
    · simp only [cond_true, Option.bind_some, Bool.true_and]
      rw [ref03_leads_at V hk.1 hk.2, Option.bind_some]
      cases leadsM m a.Lane_.toNat b <;> rfl) (by unfold ref03_entry_l1; rw [nlt_dec]; rfl)]
  cases z.Parts.any fun p => leadsM m p.Lane_.toNat b <;> rfl
def entriesM (m : Map) (z : Zone) : List Int := pickI (fun _ (p : Part) => if entryM m z p.Lane_ then some p.Lane_ else none) 0 z.Parts
theorem entries_eq {m : Map} (V : ValR m) {z : Zone} (O : ZoneOK m z) : roads_entries m z = some (entriesM m z) := by
  have h6 := O.six
  have h12 := V.lanes
  unfold roads_entries entriesM
  rw [ploop2 z.Parts (fun _ (p : Part) => if entryM m z p.Lane_ then some p.Lane_ else none) id (fun i p s h hs => by
    have hi := lt_get h
    have hk := O.lane (List.mem_of_getElem? h)
    unfold roads_entries_l1
    dsimp only
    rw [lt_dec hi, geti_get h, cond_true, Option.bind_some, entry_eq V O hk.1 (by omega), Option.bind_some, appc_ok (by simp; omega), w64_succ hi (by omega)]
    cases entryM m z p.Lane_ <;> rfl) (fun s => by unfold roads_entries_l1; rw [nlt_dec]; rfl)]
  rfl
theorem rentries_eq {m : Map} (V : ValR m) {z : Zone} (O : ZoneOK m z) : ref03_entries m z = some (entriesM m z) := by
  have h6 := O.six
  unfold ref03_entries entriesM
  rw [ploop2 z.Parts (fun _ (p : Part) => if entryM m z p.Lane_ then some p.Lane_ else none) id (fun i p s h hs => by
    have hi := lt_get h
    unfold ref03_entries_l1
    dsimp only
    rw [lt_dec hi, geti_get h, cond_true, Option.bind_some, rentry_eq V O, Option.bind_some, Option.bind_some, appc_ok (by simp; omega), w64_succ hi (by omega)]
    cases entryM m z p.Lane_ <;> rfl) (fun s => by unfold ref03_entries_l1; rw [nlt_dec]; rfl)]
  rfl
end Go.Abs.Roadsz

namespace Go.Abs.Roadsz
open Go Go.Abs
def smallM (m : Map) : Bool := !(decide (m.Lanes.length > 14) || decide (m.Zones.length > 14) || decide (m.Signals.length > 6) || decide (m.Works.length > 10)) && !(m.Lanes.any fun l => decide (l.Curve_.Pts.length > 18) || decide (l.Next.length > 5)) && !(m.Zones.any fun z => decide (z.Parts.length > 8)) && !(m.Signals.any fun s => decide (s.Phases.length > 8) || s.Phases.any fun p => decide (p.Green.length > 14))
theorem small_eq (m : Map) : kit_Small m = some (smallM m) := by
  unfold kit_Small smallM
  by_cases h : m.Lanes.length > 14 ∨ m.Zones.length > 14 ∨ m.Signals.length > 6 ∨ m.Works.length > 10
  · rw [show (((decide ((m.Lanes.length : Int) > 14)) || (decide ((m.Zones.length : Int) > 14)) || (decide ((m.Signals.length : Int) > 6))) || (decide ((m.Works.length : Int) > 10))) = true by simp; omega, show ((((decide (m.Lanes.length > 14)) || (decide (m.Zones.length > 14))) || (decide (m.Signals.length > 6))) || (decide (m.Works.length > 10))) = true by simp; omega]
    rfl
  · rw [show (((decide ((m.Lanes.length : Int) > 14)) || (decide ((m.Zones.length : Int) > 14)) || (decide ((m.Signals.length : Int) > 6))) || (decide ((m.Works.length : Int) > 10))) = false by simp; omega, show ((((decide (m.Lanes.length > 14)) || (decide (m.Zones.length > 14))) || (decide (m.Signals.length > 6))) || (decide (m.Works.length > 10))) = false by simp; omega, cond_false]
    rw [aloop m.Lanes (fun l => decide (l.Curve_.Pts.length > 18) || decide (l.Next.length > 5)) false (fun i l hl => by
      have hi := lt_get hl
      unfold kit_Small_l1
      rw [lt_dec hi, geti_get hl, cond_true, Option.bind_some, w64_succ hi (by omega)]
      by_cases h1 : l.Curve_.Pts.length > 18
      · rw [show decide ((l.Curve_.Pts.length : Int) > 18) = true from decide_eq_true (by omega), show decide (l.Curve_.Pts.length > 18) = true from decide_eq_true h1]; rfl
      · rw [show decide ((l.Curve_.Pts.length : Int) > 18) = false from decide_eq_false (by omega), show decide (l.Curve_.Pts.length > 18) = false from decide_eq_false h1]
        simp only [Bool.not_false, cond_true, Option.bind_some, Bool.false_or]
        by_cases h2 : l.Next.length > 5
        · rw [show decide ((l.Next.length : Int) > 5) = true from decide_eq_true (by omega), show decide (l.Next.length > 5) = true from decide_eq_true h2]; rfl
        · rw [show decide ((l.Next.length : Int) > 5) = false from decide_eq_false (by omega), show decide (l.Next.length > 5) = false from decide_eq_false h2]; rfl) (by unfold kit_Small_l1; rw [nlt_dec]; rfl)]
    cases m.Lanes.any fun l => decide (l.Curve_.Pts.length > 18) || decide (l.Next.length > 5)
    · simp only [Bool.false_eq_true, if_false, thenS, Bool.not_false, Bool.true_and]
      rw [aloop m.Zones (fun z => decide (z.Parts.length > 8)) false (fun i z hz => by
        have hi := lt_get hz
        unfold kit_Small_l2
        rw [lt_dec hi, geti_get hz, cond_true, Option.bind_some, w64_succ hi (by omega)]
        by_cases h1 : z.Parts.length > 8
        · rw [show decide ((z.Parts.length : Int) > 8) = true from decide_eq_true (by omega), show decide (z.Parts.length > 8) = true from decide_eq_true h1]; rfl
        · rw [show decide ((z.Parts.length : Int) > 8) = false from decide_eq_false (by omega), show decide (z.Parts.length > 8) = false from decide_eq_false h1]; rfl) (by unfold kit_Small_l2; rw [nlt_dec]; rfl)]
      cases m.Zones.any fun z => decide (z.Parts.length > 8)
      · simp only [Bool.false_eq_true, if_false, Bool.not_false, Bool.true_and]
        rw [aloop m.Signals (fun s => decide (s.Phases.length > 8) || s.Phases.any fun p => decide (p.Green.length > 14)) false (fun i s hs => by
          have hi := lt_get hs
          unfold kit_Small_l3
          rw [lt_dec hi, geti_get hs, cond_true, Option.bind_some, w64_succ hi (by omega)]
          by_cases h1 : s.Phases.length > 8
          · rw [show decide ((s.Phases.length : Int) > 8) = true from decide_eq_true (by omega), show decide (s.Phases.length > 8) = true from decide_eq_true h1]; rfl
          · rw [show decide ((s.Phases.length : Int) > 8) = false from decide_eq_false (by omega), show decide (s.Phases.length > 8) = false from decide_eq_false h1, cond_false, Bool.false_or]
            rw [aloop s.Phases (fun p => decide (p.Green.length > 14)) false (fun j p hp => by
              have hj := lt_get hp
              unfold kit_Small_l4
              rw [geti_get hs, Option.bind_some, lt_dec hj, cond_true, Option.bind_some, geti_get hp, Option.bind_some, w64_succ hj (by omega)]
              by_cases h1 : p.Green.length > 14
              · rw [show decide ((p.Green.length : Int) > 14) = true from decide_eq_true (by omega), show decide (p.Green.length > 14) = true from decide_eq_true h1]; rfl
              · rw [show decide ((p.Green.length : Int) > 14) = false from decide_eq_false (by omega), show decide (p.Green.length > 14) = false from decide_eq_false h1]; rfl) (by unfold kit_Small_l4; rw [geti_get hs, Option.bind_some, nlt_dec]; rfl)]
            cases s.Phases.any fun p => decide (p.Green.length > 14) <;> rfl) (by unfold kit_Small_l3; rw [nlt_dec]; rfl)]
        cases m.Signals.any fun s => decide (s.Phases.length > 8) || s.Phases.any fun p => decide (p.Green.length > 14) <;> rfl
      · rfl
    · rfl
theorem small_bear {m : Map} (h : smallM m = true) : BearM m := by
  unfold smallM at h
  simp only [Bool.and_eq_true, Bool.not_eq_true', Bool.or_eq_false_iff, decide_eq_false_iff_not, List.any_eq_false, Bool.or_eq_true, decide_eq_true_eq, not_or, Nat.not_lt, gt_iff_lt, List.any_eq_true, not_exists, not_and] at h
  obtain ⟨⟨⟨⟨⟨⟨h1, h2⟩, h3⟩, h4⟩, h5⟩, h6⟩, h7⟩ := h
  refine ⟨⟨by omega, fun l hl => ?_⟩, ⟨by omega, fun s hs => ⟨?_, fun p hp => ?_⟩⟩, ⟨by omega, fun z hz => ?_⟩, ⟨by omega⟩⟩
  · have := h5 l hl; omega
  · have := (h7 s hs).1; omega
  · have := (h7 s hs).2 p hp; omega
  · have := h6 z hz; omega
end Go.Abs.Roadsz

namespace Go.Abs.Roadsz
open Go Go.Abs
theorem awake_eq : law03_awake = some true := law03_awake_le _ (by decide +kernel)
end Go.Abs.Roadsz

namespace Go.Abs.Roadsz
open Go Go.Abs
theorem before_len (m : Map) (k : Int) : (beforeM m k).length ≤ m.Lanes.length := pickI_len _ _ _
end Go.Abs.Roadsz

namespace Go.Abs.Roadsz
open Go Go.Abs
end Go.Abs.Roadsz

namespace Go.Abs.Roadsz
open Go Go.Abs
end Go.Abs.Roadsz

namespace Go.Abs.Roadsz
open Go Go.Abs
end Go.Abs.Roadsz

namespace Go.Abs
theorem pickI_mem {α β : Type} {g : Nat → α → Option β} {x : β} : ∀ {l : List α} {i : Nat}, x ∈ pickI g i l ↔ ∃ j a, l[j]? = some a ∧ g (i + j) a = some x
  | [], i => by simp [pickI]
  | a :: r, i => by
    unfold pickI
    have ih := pickI_mem (g := g) (x := x) (l := r) (i := i + 1)
    have sh : (∃ j b, (a :: r)[j]? = some b ∧ g (i + j) b = some x) ↔ g i a = some x ∨ ∃ j b, r[j]? = some b ∧ g (i + 1 + j) b = some x := by
      constructor
      · rintro ⟨j, b, h1, h2⟩
        cases j with
        | zero => simp at h1; subst h1; exact .inl h2
        | succ j => exact .inr ⟨j, b, by simpa using h1, by rwa [show i + 1 + j = i + (j + 1) by omega]⟩
      · rintro (h | ⟨j, b, h1, h2⟩)
        · exact ⟨0, a, rfl, h⟩
        · exact ⟨j + 1, b, by simpa using h1, by rwa [show i + (j + 1) = i + 1 + j by omega]⟩
    rw [sh, ← ih]
    cases h : g i a with
    | none => simp
    | some b => simp [eq_comm]
end Go.Abs
namespace Go.Abs.Roadsz
open Go Go.Abs
theorem mem_before {m : Map} {k x : Int} : x ∈ beforeM m k ↔ ∃ (i : Nat) (l : Lane), m.Lanes[i]? = some l ∧ k ∈ l.Next ∧ x = (i : Int) := by
  unfold beforeM
  rw [pickI_mem]
  refine exists_congr fun i => exists_congr fun l => and_congr_right fun _ => ?_
  rw [Nat.zero_add]
  by_cases h : l.Next.contains k = true
  · rw [if_pos h]
    simp only [Option.some.injEq]
    exact ⟨fun e => ⟨by simpa using h, e.symm⟩, fun e => e.2.symm⟩
  · rw [if_neg h]
    simp only [reduceCtorEq, false_iff, not_and]
    intro hk
    exact absurd (by simpa using hk) h
theorem any_true_fold {α : Type} (p : α → Bool) : ∀ (l : List α) (i : Nat) (b : Bool), ifold (fun _ b a => b || p a) i b l = (b || l.any p)
  | [], _, b => by simp [ifold]
  | a :: r, i, b => by rw [ifold, any_true_fold p r, List.any_cons, Bool.or_assoc]
end Go.Abs.Roadsz

namespace Go.Abs.Roadsz
open Go Go.Abs
/-! ### How long lanes are -/
theorem sum_bd : ∀ (l : List Int) (s : Int), (∀ x ∈ l, 0 ≤ x ∧ x ≤ 1048576) → 0 ≤ s → s + 1048576 * l.length ≤ 9000000000000000000 → s ≤ sumW s l ∧ sumW s l ≤ s + 1048576 * l.length
  | [], s, _, _, _ => by simp [sumW]
  | a :: r, s, h, h0, h1 => by
    have ha := h a (by simp)
    simp only [List.length_cons] at h1 ⊢
    rw [sumW, w64_id (by omega)]
    have := sum_bd r (s + a) (fun x hx => h x (by simp [hx])) (by omega) (by omega)
    omega
theorem lens_mem : ∀ {l : List Spot} {last : Option CurveVector}, Good last l → ∀ x ∈ lens l, 1000 ≤ x ∧ x ≤ 1048576 := by
  intro l last h
  induction h with
  | one last p => intro x hx; simp [lens] at hx
  | cons last p q r h1 h2 h3 h4 h ih =>
    intro x hx
    rw [lens_cons, List.mem_cons] at hx
    rcases hx with rfl | hx
    · exact ⟨h2, h3⟩
    · exact ih x hx
theorem lenM_bd {c : Curve} (h : checkM c.Pts = 0) : 1000 ≤ lenM c ∧ lenM c ≤ 16777216 := by
  have V := checkM_zero.1 h
  unfold lenM piecesL
  rw [if_pos h]
  have h16 := V.most
  have h2 := V.two
  have hm := lens_mem V.good
  cases hp : c.Pts with
  | nil => rw [hp] at h2; simp at h2
  | cons p r =>
    rw [hp] at hm h16 h2
    cases r with
    | nil => simp at h2
    | cons q r =>
      simp only [List.length_cons] at h16
      rw [lens_cons] at hm ⊢
      have ha := hm _ (List.mem_cons_self)
      have hl := lens_length r q
      rw [sumW, w64_id (by omega), Int.zero_add]
      have := sum_bd (lens (q :: r)) (rt (dotv (vec p q) (vec p q))) (fun x hx => by have := hm x (List.mem_cons_of_mem _ hx); omega) (by omega) (by rw [hl]; omega)
      rw [hl] at this
      omega
theorem ValR.long {m : Map} (V : ValR m) {k : Int} (h0 : 0 ≤ k) (h1 : k < m.Lanes.length) : 1000 ≤ laneLen m k ∧ laneLen m k ≤ 16777216 := by
  obtain ⟨l, e1, e2⟩ := lane_of h0 h1
  unfold laneLen
  rw [e1]
  exact lenM_bd (V.laneOK e1).curve
/-! ### Routes -/
end Go.Abs.Roadsz

namespace Go.Abs.Roadsz
open Go Go.Abs
end Go.Abs.Roadsz

namespace Go.Abs
open Go
section
variable {α β σ τ : Type}
/-- Gathering goes on behind what is there. -/
theorem ploop3 {F : List β × Int → Option (Stp (List β × Int) τ)} (l : List α) (g : Nat → α → Option β) (fin : List β → τ) (s0 : List β) (B : Nat) (hB : s0.length + l.length ≤ B)
    (hF : ∀ (i : Nat) a (s : List β), l[i]? = some a → s.length + 1 ≤ B → F (s, (i : Int)) = some (.go ((match g i a with | some b => s ++ [b] | none => s), ((i + 1 : Nat) : Int))))
    (h0 : ∀ s, F (s, (l.length : Int)) = some (.out (fin s))) : loop F (s0, 0) = some (fin (s0 ++ pickI g 0 l)) := by
  have := floop (F := F) (fun i s => (s, (i : Int))) l (fun i s => s.length ≤ s0.length + i) (fun i s a => match g i a with | some b => s ++ [b] | none => s) fin (s0 := s0) (S0 := (s0, 0)) rfl (by simp) (fun i a s h hs => hF i a s h (by have := (List.getElem?_eq_some_iff.1 h).1; omega)) (fun i a s _ hs => by
    cases g i a <;> simp <;> omega) (fun s _ => h0 s)
  exact this.trans (congrArg (fun x => some (fin x)) (ifold_pick g l 0 s0))
/-- What rounds put one behind the other. -/
def flatI (g : Nat → α → List β) : Nat → List α → List β
  | _, [] => []
  | i, a :: r => g i a ++ flatI g (i + 1) r
theorem flatI_len (g : Nat → α → List β) (C : Nat) : ∀ (l : List α) (i : Nat), (∀ (j : Nat) a, l[j]? = some a → (g (i + j) a).length ≤ C) → (flatI g i l).length ≤ l.length * C
  | [], _, _ => by simp [flatI]
  | a :: r, i, h => by
    have h1 := h 0 a rfl
    have h2 := flatI_len g C r (i + 1) (fun j b hb => by have := h (j + 1) b (by simpa using hb); rwa [show i + 1 + j = i + (j + 1) by omega])
    rw [flatI, List.length_append, List.length_cons, Nat.succ_mul]
    rw [Nat.add_zero] at h1
    omega
theorem nloop {F : List β × Int → Option (Stp (List β × Int) τ)} (l : List α) (g : Nat → α → List β) (fin : List β → τ) (s0 : List β) (C B : Nat) (hB : s0.length + l.length * C ≤ B) (hC : ∀ (i : Nat) a, l[i]? = some a → (g i a).length ≤ C)
    (hF : ∀ (i : Nat) a (s : List β), l[i]? = some a → s.length + C ≤ B → F (s, (i : Int)) = some (.go (s ++ g i a, ((i + 1 : Nat) : Int))))
    (h0 : ∀ s, F (s, (l.length : Int)) = some (.out (fin s))) : loop F (s0, 0) = some (fin (s0 ++ flatI g 0 l)) := by
  have key : ∀ (r : List α) (i : Nat) (s : List β), ifold (fun i s a => s ++ g i a) i s r = s ++ flatI g i r := by
    intro r
    induction r with
    | nil => intro i s; simp [ifold, flatI]
    | cons a r ih => intro i s; rw [ifold, ih, flatI, List.append_assoc]
  have := floop (F := F) (fun i s => (s, (i : Int))) l (fun i s => i ≤ l.length → s.length ≤ s0.length + i * C) (fun i s a => s ++ g i a) fin (s0 := s0) (S0 := (s0, 0)) rfl (by simp) (fun i a s h hs => by
    have hi := (List.getElem?_eq_some_iff.1 h).1
    have := hs (by omega)
    have e : i * C + C ≤ l.length * C := by rw [← Nat.succ_mul]; exact Nat.mul_le_mul_right _ hi
    exact hF i a s h (by omega)) (fun i a s h hs => by
    intro hi
    have := hs (by omega)
    have := hC i a h
    rw [List.length_append, Nat.succ_mul]; omega) (fun s _ => h0 s)
  rw [this, key]
/-- From a place on. -/
theorem ploopK {F : List β × Int → Option (Stp (List β × Int) τ)} (l : List α) (k : Nat) (hk : k ≤ l.length) (g : α → Option β) (fin : List β → τ) (s0 : List β) (B : Nat) (hB : s0.length + l.length ≤ B)
    (hF : ∀ (i : Nat) a (s : List β), k ≤ i → l[i]? = some a → s.length + 1 ≤ B → F (s, (i : Int)) = some (.go ((match g a with | some b => s ++ [b] | none => s), ((i + 1 : Nat) : Int))))
    (h0 : ∀ s, F (s, (l.length : Int)) = some (.out (fin s))) : loop F (s0, (k : Int)) = some (fin (s0 ++ pickI (fun _ a => g a) 0 (l.drop k))) := by
  have := floop (F := F) (fun i s => (s, ((k + i : Nat) : Int))) (l.drop k) (fun i s => s.length ≤ s0.length + i) (fun _ s a => match g a with | some b => s ++ [b] | none => s) fin (s0 := s0) (S0 := (s0, (k : Int))) rfl (by simp) (fun i a s h hs => by
    rw [List.getElem?_drop] at h
    have := (List.getElem?_eq_some_iff.1 h).1
    rw [hF (k + i) a s (by omega) h (by omega), Nat.add_assoc]) (fun i a s _ hs => by
    cases g a <;> simp <;> omega) (fun s _ => by
    have e : k + (l.drop k).length = l.length := by rw [List.length_drop]; omega
    rw [e]; exact h0 s)
  exact this.trans (congrArg (fun x => some (fin x)) (ifold_pick (fun _ a => g a) (l.drop k) 0 s0))
/-- What pairs of a list give. -/
def pairL (f : α → α → Option β) : List α → List β
  | [] => []
  | a :: r => pickI (fun _ b => f a b) 0 r ++ pairL f r
theorem pairL_flat (f : α → α → Option β) (l : List α) : ∀ (r : List α) (i : Nat), l.drop i = r → flatI (fun i a => pickI (fun _ b => f a b) 0 (l.drop (i + 1))) i r = pairL f r
  | [], i, _ => rfl
  | a :: r, i, h => by
    have h1 : l.drop (i + 1) = r := by have := congrArg (List.drop 1) h; simpa using this
    rw [flatI, pairL, h1, pairL_flat f l r (i + 1) h1]
end
end Go.Abs

namespace Go.Abs.Roadsz
open Go Go.Abs
theorem rpart_eq {z : Zone} (hl : z.Parts.length ≤ 1000000) (k : Int) : ref03_part z k = some (partM z k) := by
  have key : ∀ (r : List Part) (i : Nat), z.Parts.drop i = r → i ≤ z.Parts.length → thenS (loop (ref03_part_l1 z k) (i : Int)) (fun _ => some ((⟨0, 0, 0, 0⟩ : Part), false)) (fun r => some r) = some (match r.find? (fun p => p.Lane_ == k) with | some p => (p, true) | none => (⟨0, 0, 0, 0⟩, false)) := by
    intro r
    induction r with
    | nil =>
      intro i hi hil
      have := drop_nil hi
      obtain rfl : i = z.Parts.length := by omega
      rw [loop_out (t := .inl ()) (by unfold ref03_part_l1; rw [nlt_dec]; rfl)]; rfl
    | cons p r ih =>
      intro i hi hil
      have hlt := drop_lt hi
      have hp := get_drop hi
      rw [List.find?_cons]
      cases q : p.Lane_ == k
      · rw [loop_go (s' := ((i + 1 : Nat) : Int)) (by unfold ref03_part_l1; rw [lt_dec hlt, geti_get hp, cond_true, Option.bind_some, q, w64_succ hlt (by omega)]; rfl)]
        exact ih (i + 1) (drop_succ hi) (by omega)
      · rw [loop_out (t := .inr (p, true)) (by unfold ref03_part_l1; rw [lt_dec hlt, geti_get hp, cond_true, Option.bind_some, q, cond_true, Option.bind_some])]; rfl
  exact key z.Parts 0 rfl (by omega)
/-- Parts from 0 on, and up to the ends of all that come before. -/
noncomputable def closedM (m : Map) (z : Zone) (a : Int) : Bool := (partM z a).2 && (partM z a).1.From == 0 && !((beforeM m a).any fun k => !(partM z k).2 || (partM z k).1.To != laneLen m k)
theorem before_lane {m : Map} {k x : Int} (h : x ∈ beforeM m k) : 0 ≤ x ∧ x < m.Lanes.length := by
  obtain ⟨i, l, h1, _, rfl⟩ := mem_before.1 h
  have := lt_get h1
  omega
theorem closed_eq {m : Map} (B : BearM m) {z : Zone} (hz : z.Parts.length ≤ 1000000) (a : Int) : roads_closed m z a = some (closedM m z a) := by
  have hb := B.lanes
  have hl := before_len m a
  unfold roads_closed closedM
  rw [part_eq hz, Option.bind_some]
  cases (partM z a).2
  · rfl
  · cases q : (partM z a).1.From != 0
    · rw [show ((partM z a).1.From == 0) = true by simpa using q]
      simp only [Bool.not_true, Bool.or_self, cond_false, Bool.true_and]
      rw [before_eq B, Option.bind_some, aloop (beforeM m a) (fun k => !(partM z k).2 || (partM z k).1.To != laneLen m k) false (fun i k hk => by
        have hi := lt_get hk
        have hm := before_lane (List.mem_of_getElem? hk)
        unfold roads_closed_l1
        rw [lt_dec hi, geti_get hk, cond_true, Option.bind_some, part_eq hz, Option.bind_some, w64_succ hi (by omega)]
        cases (partM z k).2
        · rfl
        · simp only [Bool.not_true, Bool.not_false, cond_true, Bool.false_or]
          rw [long_at B.toBear hm.1 hm.2, Option.bind_some]
          cases (partM z k).1.To != laneLen m k <;> rfl) (by unfold roads_closed_l1; rw [nlt_dec]; rfl)]
      cases (beforeM m a).any fun k => !(partM z k).2 || (partM z k).1.To != laneLen m k <;> rfl
    · rw [show ((partM z a).1.From == 0) = false by simpa using q]; rfl
theorem whole_eq {m : Map} (B : BearM m) {z : Zone} (hz : z.Parts.length ≤ 1000000) (a : Int) : ref03_whole m z a = some (closedM m z a) := by
  have hb := B.lanes
  have hl := before_len m a
  unfold ref03_whole closedM
  rw [rpart_eq hz, Option.bind_some]
  cases (partM z a).2
  · rfl
  · cases q : (partM z a).1.From != 0
    · rw [show ((partM z a).1.From == 0) = true by simpa using q]
      simp only [Bool.not_true, Bool.or_self, cond_false, Bool.true_and]
      rw [rbefore_eq B, Option.bind_some, aloop (beforeM m a) (fun k => !(partM z k).2 || (partM z k).1.To != laneLen m k) false (fun i k hk => by
        have hi := lt_get hk
        have hm := before_lane (List.mem_of_getElem? hk)
        unfold ref03_whole_l1
        rw [lt_dec hi, geti_get hk, cond_true, Option.bind_some, rpart_eq hz, Option.bind_some, w64_succ hi (by omega)]
        cases (partM z k).2
        · rfl
        · simp only [Bool.not_true, Bool.not_false, cond_true, Bool.false_or, Option.bind_some]
          rw [ref03_length_at B hm.1 hm.2, Option.bind_some]
          cases (partM z k).1.To != laneLen m k <;> rfl) (by unfold ref03_whole_l1; rw [nlt_dec]; rfl)]
      cases (beforeM m a).any fun k => !(partM z k).2 || (partM z k).1.To != laneLen m k <;> rfl
    · rw [show ((partM z a).1.From == 0) = false by simpa using q]; rfl
noncomputable def guardM (m : Map) (a : Int) (z : Zone) : Bool := closedM m z a && !((beforeM m a).any fun k => !entryM m z k)
noncomputable def mergesM (m : Map) : List Clash := pickI (fun i (_ : Lane) => if 1 < (beforeM m (i : Int)).length ∧ (m.Zones.any (guardM m (i : Int))) = false then some ⟨1, -1, (i : Int), -1⟩ else none) 0 m.Lanes
theorem guard_any {m : Map} (B : BearM m) (V : ValR m) (a : Int) : slices_ContainsFunc_Zone_Zone_roads_merges_1bbb m.Zones m a (beforeM m a) = some (m.Zones.any (guardM m a)) := by
  have hb := B.lanes
  have hl := before_len m a
  have h12 := V.lanes
  have hz := V.zones
  unfold slices_ContainsFunc_Zone_Zone_roads_merges_1bbb slices_IndexFunc_Zone_Zone_roads_merges_1bbb
  rw [index_eq m.Zones (guardM m a) (by omega) (fun i z h => by
    have hi := lt_get h
    have O := V.zoneOK (List.mem_of_getElem? h)
    have h6 := O.six
    unfold slices_IndexFunc_Zone_Zone_roads_merges_1bbb_l1 roads_merges_1_b_b_b guardM
    rw [lt_dec hi, geti_get h, cond_true, Option.bind_some, closed_eq B (by omega), Option.bind_some]
    cases closedM m z a
    · rfl
    · simp only [cond_true, Bool.true_and]
      unfold slices_ContainsFunc_int_int_roads_merges_1_1bb slices_IndexFunc_int_int_roads_merges_1_1bb
      rw [index_eq (beforeM m a) (fun k => !entryM m z k) (by omega) (fun j k hk => by
        have hj := lt_get hk
        have hm := before_lane (List.mem_of_getElem? hk)
        unfold slices_IndexFunc_int_int_roads_merges_1_1bb_l1 roads_merges_1_1_b_b
        rw [lt_dec hj, geti_get hk, cond_true, Option.bind_some, entry_eq V O hm.1 (by omega), Option.bind_some, Option.bind_some]
        cases entryM m z k <;> rfl) (by unfold slices_IndexFunc_int_int_roads_merges_1_1bb_l1; rw [nlt_dec]; rfl)]
      rw [Option.bind_some, idxI_any, Option.bind_some, Option.bind_some]
      cases (beforeM m a).any fun k => !entryM m z k <;> rfl) (by unfold slices_IndexFunc_Zone_Zone_roads_merges_1bbb_l1; rw [nlt_dec]; rfl)]
  rw [Option.bind_some, idxI_any]
theorem merges_eq {m : Map} (B : BearM m) (V : ValR m) : roads_merges m = some (mergesM m) := by
  have h12 := V.lanes
  unfold roads_merges mergesM
  rw [ploop2 m.Lanes (fun i (_ : Lane) => if 1 < (beforeM m (i : Int)).length ∧ (m.Zones.any (guardM m (i : Int))) = false then some (⟨1, -1, (i : Int), -1⟩ : Clash) else none) id (fun i l s h hs => by
    have hi := lt_get h
    unfold roads_merges_l1
    dsimp only
    rw [lt_dec hi, cond_true, before_eq B, Option.bind_some, guard_any B V, Option.bind_some, appc_ok (by simp; omega), Option.bind_some, w64_succ hi (by omega)]
    by_cases q : 1 < (beforeM m (i : Int)).length
    · rw [show decide (((beforeM m (i : Int)).length : Int) > 1) = true from decide_eq_true (by omega)]
      cases m.Zones.any (guardM m (i : Int))
      · rw [if_pos ⟨q, rfl⟩]; rfl
      · rw [if_neg (by simp)]; rfl
    · rw [show decide (((beforeM m (i : Int)).length : Int) > 1) = false from decide_eq_false (by omega), if_neg (fun x => q x.1)]; rfl) (fun s => by unfold roads_merges_l1; rw [nlt_dec]; rfl)]
  rfl
theorem apart_eq {m : Map} (B : BearM m) (V : ValR m) {z : Zone} (O : ZoneOK m z) (a : Int) : ref03_apart m z a = some (!((beforeM m a).any fun k => !entryM m z k)) := by
  have hl := before_len m a
  have h12 := V.lanes
  unfold ref03_apart
  rw [rbefore_eq B, Option.bind_some, aloop (beforeM m a) (fun k => !entryM m z k) false (fun j k hk => by
    have hj := lt_get hk
    unfold ref03_apart_l1
    rw [lt_dec hj, geti_get hk, cond_true, Option.bind_some, rentry_eq V O, Option.bind_some, w64_succ hj (by omega)]
    cases entryM m z k <;> rfl) (by unfold ref03_apart_l1; rw [nlt_dec]; rfl)]
  cases (beforeM m a).any fun k => !entryM m z k <;> rfl
theorem rmerges_eq {m : Map} (B : BearM m) (V : ValR m) : ref03_merges m = some (mergesM m) := by
  have h12 := V.lanes
  have hz := V.zones
  unfold ref03_merges mergesM
  rw [ploop2 m.Lanes (fun i (_ : Lane) => if 1 < (beforeM m (i : Int)).length ∧ (m.Zones.any (guardM m (i : Int))) = false then some (⟨1, -1, (i : Int), -1⟩ : Clash) else none) id (fun i l s h hs => by
    have hi := lt_get h
    unfold ref03_merges_l1
    dsimp only
    rw [lt_dec hi, cond_true, rbefore_eq B, Option.bind_some, w64_succ hi (by omega)]
    rw [floop2 m.Zones (fun _ b z => b || guardM m (i : Int) z) id (decide (((beforeM m (i : Int)).length : Int) < 2)) (fun j z b hzj => by
      have hj := lt_get hzj
      have O := V.zoneOK (List.mem_of_getElem? hzj)
      have h6 := O.six
      unfold ref03_merges_l2 guardM
      dsimp only
      rw [lt_dec hj, geti_get hzj, cond_true, w64_succ hj (by omega)]
      cases b
      · simp only [Bool.not_false, cond_true, Option.bind_some, Bool.true_and, Bool.false_or]
        rw [whole_eq B (by omega), Option.bind_some]
        cases closedM m z (i : Int)
        · rfl
        · simp only [cond_true, Option.bind_some, Bool.true_and]
          rw [apart_eq B V O, Option.bind_some]
      · rfl) (fun s => by unfold ref03_merges_l2; rw [nlt_dec]; rfl)]
    rw [any_true_fold, Option.bind_some, appc_ok (by simp; omega), Option.bind_some]
    by_cases q : 1 < (beforeM m (i : Int)).length
    · rw [show decide (((beforeM m (i : Int)).length : Int) < 2) = false from decide_eq_false (by omega)]
      cases m.Zones.any (guardM m (i : Int))
      · rw [if_pos ⟨q, rfl⟩]; rfl
      · rw [if_neg (by simp)]; rfl
    · rw [show decide (((beforeM m (i : Int)).length : Int) < 2) = true from decide_eq_true (by omega), if_neg (fun x => q x.1)]; rfl) (fun s => by unfold ref03_merges_l1; rw [nlt_dec]; rfl)]
  rfl
noncomputable def chainsM (m : Map) : List Clash := flatI (fun i (z : Zone) => pickI (fun _ (p : Part) => if !entryM m z p.Lane_ && !closedM m z p.Lane_ then some ⟨2, (i : Int), p.Lane_, -1⟩ else none) 0 z.Parts) 0 m.Zones
theorem chains_eq {m : Map} (B : BearM m) (V : ValR m) : roads_chains m = some (chainsM m) := by
  have h12 := V.lanes
  have hz := V.zones
  unfold roads_chains chainsM
  rw [nloop m.Zones (fun i (z : Zone) => pickI (fun _ (p : Part) => if !entryM m z p.Lane_ && !closedM m z p.Lane_ then some (⟨2, (i : Int), p.Lane_, -1⟩ : Clash) else none) 0 z.Parts) id [] 6 1000 (by simp; omega) (fun i z h => Nat.le_trans (pickI_len _ _ _) (V.zoneOK (List.mem_of_getElem? h)).six) (fun i z s h hs => by
    have hi := lt_get h
    have O := V.zoneOK (List.mem_of_getElem? h)
    have h6 := O.six
    unfold roads_chains_l1
    dsimp only
    rw [lt_dec hi, geti_get h, cond_true, Option.bind_some, w64_succ hi (by omega)]
    rw [ploop3 z.Parts (fun _ (p : Part) => if !entryM m z p.Lane_ && !closedM m z p.Lane_ then some (⟨2, (i : Int), p.Lane_, -1⟩ : Clash) else none) id s 2000 (by omega) (fun j p s h hs => by
      have hj := lt_get h
      have hk := O.lane (List.mem_of_getElem? h)
      unfold roads_chains_l2
      dsimp only
      rw [lt_dec hj, geti_get h, cond_true, Option.bind_some, entry_eq V O hk.1 (by omega), Option.bind_some, closed_eq B (by omega), appc_ok (by simp; omega), Option.bind_some, w64_succ hj (by omega)]
      cases entryM m z p.Lane_
      · cases closedM m z p.Lane_ <;> rfl
      · rfl) (fun s => by unfold roads_chains_l2; rw [nlt_dec]; rfl)]
    rfl) (fun s => by unfold roads_chains_l1; rw [nlt_dec]; rfl)]
  rfl
theorem rchains_eq {m : Map} (B : BearM m) (V : ValR m) : ref03_chains m = some (chainsM m) := by
  have h12 := V.lanes
  have hz := V.zones
  unfold ref03_chains chainsM
  rw [nloop m.Zones (fun i (z : Zone) => pickI (fun _ (p : Part) => if !entryM m z p.Lane_ && !closedM m z p.Lane_ then some (⟨2, (i : Int), p.Lane_, -1⟩ : Clash) else none) 0 z.Parts) id [] 6 1000 (by simp; omega) (fun i z h => Nat.le_trans (pickI_len _ _ _) (V.zoneOK (List.mem_of_getElem? h)).six) (fun i z s h hs => by
    have hi := lt_get h
    have O := V.zoneOK (List.mem_of_getElem? h)
    have h6 := O.six
    unfold ref03_chains_l1
    dsimp only
    rw [lt_dec hi, geti_get h, cond_true, Option.bind_some, w64_succ hi (by omega)]
    rw [ploop3 z.Parts (fun _ (p : Part) => if !entryM m z p.Lane_ && !closedM m z p.Lane_ then some (⟨2, (i : Int), p.Lane_, -1⟩ : Clash) else none) id s 2000 (by omega) (fun j p s h hs => by
      have hj := lt_get h
      unfold ref03_chains_l2
      dsimp only
      rw [lt_dec hj, geti_get h, cond_true, Option.bind_some, rentry_eq V O, Option.bind_some, whole_eq B (by omega), appc_ok (by simp; omega), Option.bind_some, w64_succ hj (by omega)]
      cases entryM m z p.Lane_
      · cases closedM m z p.Lane_ <;> rfl
      · rfl) (fun s => by unfold ref03_chains_l2; rw [nlt_dec]; rfl)]
    rfl) (fun s => by unfold ref03_chains_l1; rw [nlt_dec]; rfl)]
  rfl
end Go.Abs.Roadsz

namespace Go.Abs.Roadsz
open Go Go.Abs
def rankB (z : Zone) (a b : Int) : Bool := z.Signal_ == 0 && (partM z a).1.Rank == (partM z b).1.Rank
def bothM (s : Signal) (a b : Int) : Bool := s.Phases.any fun p => p.Green.contains a && p.Green.contains b
def greenB (m : Map) (z : Zone) (a b : Int) : Bool := decide (z.Signal_ > 0) && (match m.Signals[(z.Signal_ - 1).toNat]? with | some s => bothM s a b | none => false)
def pairsM (m : Map) (kind : Int) (bad : Zone → Int → Int → Bool) : List Clash := flatI (fun i (z : Zone) => pairL (fun a b => if bad z a b then some ⟨kind, (i : Int), a, b⟩ else none) (entriesM m z)) 0 m.Zones
theorem pairL_len {α β : Type} (f : α → α → Option β) : ∀ (l : List α), (pairL f l).length ≤ l.length * l.length
  | [] => Nat.le_refl _
  | a :: r => by
    have h1 := pickI_len (fun (_ : Nat) b => f a b) r 0
    have h2 := pairL_len f r
    rw [pairL, List.length_append, List.length_cons, Nat.succ_mul, Nat.mul_succ]
    omega
theorem entriesM_len (m : Map) (z : Zone) : (entriesM m z).length ≤ z.Parts.length := pickI_len _ _ _
theorem pairL6 {β : Type} (f : Int → Int → Option β) {m : Map} {z : Zone} (O : ZoneOK m z) : (pairL f (entriesM m z)).length ≤ 36 := by
  have := pairL_len f (entriesM m z)
  have h1 := Nat.le_trans (entriesM_len m z) O.six
  exact Nat.le_trans this (Nat.le_trans (Nat.mul_le_mul h1 h1) (by decide))
/-- The three loops of the program. -/
theorem pairs_gen {m : Map} (V : ValR m) (kind : Int) (bad : Zone → Int → Int → Bool) (L1 : List Clash × Int → Option (Stp (List Clash × Int) (List Clash)))
    (L2 : List Clash × Int → Zone → List Int → List Clash × Int → Option (Stp (List Clash × Int) (List Clash))) (L3 : List Clash × Int → Zone → Int → List Int → List Clash × Int → Option (Stp (List Clash × Int) (List Clash)))
    (h1 : ∀ x, L1 x = cond (decide (x.2 < (m.Zones.length : Int))) ((geti m.Zones x.2).bind fun v1 => (roads_entries m v1).bind fun v2 => (loop (L2 x v1 v2) (x.1, 0)).bind fun y2 => some (.go (y2, (w64 (x.2 + 1))))) (some (.out x.1)))
    (h2 : ∀ x v1 v2 y, L2 x v1 v2 y = cond (decide (y.2 < (v2.length : Int))) ((geti v2 y.2).bind fun v3 => (subl v2 (w64 (y.2 + 1)) (v2.length : Int)).bind fun v4 => (loop (L3 x v1 v3 v4) (y.1, 0)).bind fun y3 => some (.go (y3, (w64 (y.2 + 1))))) (some (.out y.1)))
    (h3 : ∀ (x : List Clash × Int) v1 v3 v4 (s : List Clash) (j : Nat) (b : Int), v1 ∈ m.Zones → v4[j]? = some b → v4.length ≤ 6 → s.length + 1 ≤ 2000 → L3 x v1 v3 v4 (s, (j : Int)) = some (.go ((if bad v1 v3 b then s ++ [⟨kind, x.2, v3, b⟩] else s), ((j + 1 : Nat) : Int))))
    (h4 : ∀ x v1 v3 v4 s, L3 x v1 v3 v4 (s, (v4.length : Int)) = some (.out s)) : loop L1 ([], 0) = some (pairsM m kind bad) := by
  have hz := V.zones
  unfold pairsM
  rw [nloop m.Zones (fun i (z : Zone) => pairL (fun a b => if bad z a b then some (⟨kind, (i : Int), a, b⟩ : Clash) else none) (entriesM m z)) id [] 36 1000 (by simp; omega) (fun i z h => pairL6 _ (V.zoneOK (List.mem_of_getElem? h))) (fun i z s h hs => by
    have hi := lt_get h
    have O := V.zoneOK (List.mem_of_getElem? h)
    have he := Nat.le_trans (entriesM_len m z) O.six
    rw [h1]
    dsimp only
    rw [lt_dec hi, geti_get h, cond_true, Option.bind_some, entries_eq V O, Option.bind_some, w64_succ hi (by omega)]
    rw [nloop (entriesM m z) (fun j a => pickI (fun _ b => if bad z a b then some (⟨kind, (i : Int), a, b⟩ : Clash) else none) 0 ((entriesM m z).drop (j + 1))) id s 6 1100 (by omega) (fun j a h => Nat.le_trans (pickI_len _ _ _) (by rw [List.length_drop]; omega)) (fun j a t ha ht => by
      have hj := lt_get ha
      have hd : ((entriesM m z).drop (j + 1)).length ≤ 6 := by rw [List.length_drop]; omega
      rw [h2]
      dsimp only
      rw [lt_dec hj, geti_get ha, cond_true, Option.bind_some, w64_succ hj (by omega)]
      have : subl (entriesM m z) ((j + 1 : Nat) : Int) ((entriesM m z).length : Int) = some ((entriesM m z).drop (j + 1)) := by
        unfold subl
        rw [if_pos (by omega), Int.toNat_natCast, Int.toNat_natCast, List.take_length]
      rw [this, Option.bind_some]
      rw [ploop3 ((entriesM m z).drop (j + 1)) (fun _ b => if bad z a b then some (⟨kind, (i : Int), a, b⟩ : Clash) else none) id t 1200 (by omega) (fun g b q hb hq => by
        rw [h3 _ _ _ _ _ _ _ (List.mem_of_getElem? h) hb hd (by omega)]
        cases bad z a b <;> rfl) (fun q => h4 _ _ _ _ q)]
      rfl) (fun q => by rw [h2, nlt_dec]; rfl)]
    rw [pairL_flat _ (entriesM m z) (entriesM m z) 0 rfl]; rfl) (fun s => by rw [h1, nlt_dec]; rfl)]
  rfl
theorem ranks_eq {m : Map} (V : ValR m) : roads_ranks m = some (pairsM m 3 rankB) := by
  unfold roads_ranks roads_pairs_roads_ranks_1
  rw [pairs_gen V 3 rankB (roads_pairs_roads_ranks_1_l1 m 3) (fun x v1 v2 y => roads_pairs_roads_ranks_1_l2 3 x v1 v2 y) (fun x v1 v3 v4 y => roads_pairs_roads_ranks_1_l3 3 x v1 v3 v4 y) (fun _ => rfl) (fun _ _ _ _ => rfl) (fun x v1 v3 v4 s j b hz hb h6 hs => by
    have hj := lt_get hb
    have O := V.zoneOK hz
    have h6' := O.six
    unfold roads_pairs_roads_ranks_1_l3 roads_ranks_1
    dsimp only
    rw [lt_dec hj, geti_get hb, cond_true, Option.bind_some, part_eq (by omega), part_eq (by omega), Option.bind_some, Option.bind_some, Option.bind_some, appc_ok (by simp; omega), Option.bind_some, w64_succ hj (by omega)]
    unfold rankB
    cases (v1.Signal_ == 0 && (partM v1 v3).1.Rank == (partM v1 b).1.Rank) <;> rfl) (fun x v1 v3 v4 s => by unfold roads_pairs_roads_ranks_1_l3; rw [nlt_dec]; rfl)]
  rfl
theorem both_any {l : List Phase} (hl : l.length ≤ 1000000) (hg : ∀ p ∈ l, p.Green.length ≤ 1000000) (a b : Int) : slices_ContainsFunc_Phase_Phase_roads_greens_1_1bb l a b = some (l.any fun p => p.Green.contains a && p.Green.contains b) := by
  unfold slices_ContainsFunc_Phase_Phase_roads_greens_1_1bb slices_IndexFunc_Phase_Phase_roads_greens_1_1bb
  rw [index_eq l (fun p => p.Green.contains a && p.Green.contains b) (by omega) (fun i p h => by
    have hi := lt_get h
    have hp := hg p (List.mem_of_getElem? h)
    unfold slices_IndexFunc_Phase_Phase_roads_greens_1_1bb_l1 roads_greens_1_1_b_b
    rw [lt_dec hi, geti_get h, cond_true, Option.bind_some, contains_eq _ hp, contains_eq _ hp, Option.bind_some]
    cases p.Green.contains a
    · rfl
    · cases p.Green.contains b <;> rfl) (by unfold slices_IndexFunc_Phase_Phase_roads_greens_1_1bb_l1; rw [nlt_dec]; rfl)]
  rw [Option.bind_some, idxI_any]
theorem sig_of {m : Map} {k : Int} (h0 : 0 ≤ k) (h1 : k < m.Signals.length) : ∃ s, m.Signals[k.toNat]? = some s ∧ geti m.Signals k = some s := by
  have hlt : k.toNat < m.Signals.length := by omega
  refine ⟨m.Signals[k.toNat], List.getElem?_eq_getElem hlt, ?_⟩
  unfold geti
  rw [if_pos h0, List.getElem?_eq_getElem hlt]
theorem greenB_eq {m : Map} (B : BearM m) (V : ValR m) {z : Zone} (hz : z ∈ m.Zones) (a b : Int) : roads_greens_1_b z a b m = some (greenB m z a b) := by
  have O := V.zoneOK hz
  have hs := O.sig
  have h4 := V.signals
  unfold roads_greens_1_b greenB
  by_cases q : z.Signal_ > 0
  · obtain ⟨s, s1, s2⟩ := sig_of (m := m) (k := z.Signal_ - 1) (by omega) (by omega)
    obtain ⟨p1, p2⟩ := B.toBearS.phases s (List.mem_of_getElem? s1)
    rw [decide_eq_true q, wid (n := z.Signal_ - 1) (by omega), cond_true, s2, Option.bind_some, cond_true, both_any p1 p2, s1]; rfl
  · rw [decide_eq_false q]; rfl
theorem greens_eq {m : Map} (B : BearM m) (V : ValR m) : roads_greens m = some (pairsM m 4 (greenB m)) := by
  unfold roads_greens roads_pairs_roads_greens_1o
  rw [pairs_gen V 4 (greenB m) (roads_pairs_roads_greens_1o_l1 m 4 m) (fun x v1 v2 y => roads_pairs_roads_greens_1o_l2 4 m x v1 v2 y) (fun x v1 v3 v4 y => roads_pairs_roads_greens_1o_l3 4 m x v1 v3 v4 y) (fun _ => rfl) (fun _ _ _ _ => rfl) (fun x v1 v3 v4 s j b hz hb h6 hs => by
    have hj := lt_get hb
    unfold roads_pairs_roads_greens_1o_l3
    dsimp only
    rw [lt_dec hj, geti_get hb, cond_true, Option.bind_some, greenB_eq B V hz, Option.bind_some, appc_ok (by simp; omega), Option.bind_some, w64_succ hj (by omega)]
    cases greenB m v1 v3 b <;> rfl) (fun x v1 v3 v4 s => by unfold roads_pairs_roads_greens_1o_l3; rw [nlt_dec]; rfl)]
  rfl
theorem rboth_eq {s : Signal} (hl : s.Phases.length ≤ 1000000) (hg : ∀ p ∈ s.Phases, p.Green.length ≤ 1000000) (a b : Int) : ref03_both s a b = some (bothM s a b) := by
  unfold ref03_both bothM
  rw [aloop s.Phases (fun p => p.Green.contains a && p.Green.contains b) true (fun i p h => by
    have hi := lt_get h
    have hp := hg p (List.mem_of_getElem? h)
    unfold ref03_both_l1
    rw [lt_dec hi, geti_get h, cond_true, Option.bind_some, has_eq _ hp, Option.bind_some, w64_succ hi (by omega)]
    cases p.Green.contains a
    · rfl
    · simp only [cond_true, Option.bind_some]
      rw [has_eq _ hp, Option.bind_some]
      cases p.Green.contains b <;> rfl) (by unfold ref03_both_l1; rw [nlt_dec]; rfl)]
  cases s.Phases.any fun p => p.Green.contains a && p.Green.contains b <;> rfl
def badM (m : Map) (kind : Int) (z : Zone) (a b : Int) : Bool := if kind = 4 then greenB m z a b else rankB z a b
theorem rpairs_eq {m : Map} (B : BearM m) (V : ValR m) (kind : Int) : ref03_pairs m kind = some (pairsM m kind (badM m kind)) := by
  have hz := V.zones
  unfold ref03_pairs pairsM
  rw [nloop m.Zones (fun i (z : Zone) => pairL (fun a b => if badM m kind z a b then some (⟨kind, (i : Int), a, b⟩ : Clash) else none) (entriesM m z)) id [] 36 1000 (by simp; omega) (fun i z h => pairL6 _ (V.zoneOK (List.mem_of_getElem? h))) (fun i z s h hs => by
    have hi := lt_get h
    have O := V.zoneOK (List.mem_of_getElem? h)
    have he := Nat.le_trans (entriesM_len m z) O.six
    have h6 := O.six
    unfold ref03_pairs_l1
    dsimp only
    rw [lt_dec hi, geti_get h, cond_true, Option.bind_some, rentries_eq V O, Option.bind_some, w64_succ hi (by omega)]
    rw [nloop (entriesM m z) (fun j a => pickI (fun _ b => if badM m kind z a b then some (⟨kind, (i : Int), a, b⟩ : Clash) else none) 0 ((entriesM m z).drop (j + 1))) id s 6 1100 (by omega) (fun j a h => Nat.le_trans (pickI_len _ _ _) (by rw [List.length_drop]; omega)) (fun j a t ha ht => by
      have hj := lt_get ha
      unfold ref03_pairs_l2
      dsimp only
      rw [lt_dec hj, cond_true, w64_succ hj (by omega)]
      rw [ploopK (entriesM m z) (j + 1) hj (fun b => if badM m kind z a b then some (⟨kind, (i : Int), a, b⟩ : Clash) else none) id t 1200 (by omega) (fun g b q hg hb hq => by
        have hlg := lt_get hb
        have hs := O.sig
        have h4 := V.signals
        have hbad : (cond (kind == 4) (((cond (decide (z.Signal_ > 0)) (geti m.Signals (w64 (z.Signal_ - 1))) (some default))).bind fun v7 => ((cond (decide (z.Signal_ > 0)) (geti (entriesM m z) (j : Int)) (some default))).bind fun v8 => ((cond (decide (z.Signal_ > 0)) (geti (entriesM m z) (g : Int)) (some default))).bind fun v9 => ((cond (decide (z.Signal_ > 0)) (ref03_both v7 v8 v9) (some default))).bind fun v10 => some ((decide (z.Signal_ > 0)) && v10)) (some ((z.Signal_ == 0) && ((partM z a).1.Rank == (partM z b).1.Rank)))) = some (badM m kind z a b) := by
          unfold badM
          by_cases hk : kind = 4
          · rw [if_pos hk, hk, show ((4 : Int) == 4) = true from rfl, cond_true]
            unfold greenB
            by_cases q : z.Signal_ > 0
            · obtain ⟨s, s1, s2⟩ := sig_of (m := m) (k := z.Signal_ - 1) (by omega) (by omega)
              obtain ⟨p1, p2⟩ := B.toBearS.phases s (List.mem_of_getElem? s1)
              rw [decide_eq_true q, wid (n := z.Signal_ - 1) (by omega), cond_true, s2, Option.bind_some, cond_true, geti_get ha, Option.bind_some, cond_true, geti_get hb, Option.bind_some, cond_true, rboth_eq p1 p2, s1]; rfl
            · rw [decide_eq_false q]; rfl
          · rw [if_neg hk, show (kind == 4) = false by simpa using hk]; rfl
        unfold ref03_pairs_l3
        dsimp only
        rw [lt_dec hlg, cond_true, geti_get ha, Option.bind_some, rpart_eq (by omega), Option.bind_some, geti_get hb, Option.bind_some, rpart_eq (by omega), Option.bind_some]
        rw [geti_get ha, geti_get hb] at hbad
        rw [hbad, Option.bind_some, Option.bind_some, Option.bind_some, appc_ok (by simp; omega), Option.bind_some, w64_succ hlg (by omega)]
        cases badM m kind z a b <;> rfl) (fun q => by unfold ref03_pairs_l3; rw [nlt_dec]; rfl)]
      rfl) (fun q => by unfold ref03_pairs_l2; rw [nlt_dec]; rfl)]
    rw [pairL_flat _ (entriesM m z) (entriesM m z) 0 rfl]; rfl) (fun s => by unfold ref03_pairs_l1; rw [nlt_dec]; rfl)]
  rfl
noncomputable def fitM (m : Map) : Bool := decide (chkR m = 0) && (mergesM m).isEmpty && (chainsM m).isEmpty && (pairsM m 3 rankB).isEmpty && (pairsM m 4 (greenB m)).isEmpty
theorem sum0 (a b c d : Nat) (ha : a ≤ 1000) (hb : b ≤ 1000) (hc : c ≤ 1000) (hd : d ≤ 1000) : (w64 ((w64 ((w64 ((a : Int) + (b : Int))) + (c : Int))) + (d : Int)) == 0) = (a == 0 && b == 0 && c == 0 && d == 0) := by
  rw [w64_id (n := (a : Int) + b) (by omega), w64_id (n := (a : Int) + b + c) (by omega), w64_id (by omega), Bool.eq_iff_iff]
  simp only [beq_iff_eq, Bool.and_eq_true]
  omega
theorem isEmpty_len {α : Type} (l : List α) : l.isEmpty = (l.length == 0) := by cases l <;> rfl
theorem pairsM_len {m : Map} (V : ValR m) (k : Int) (bad : Zone → Int → Int → Bool) : (pairsM m k bad).length ≤ 1000 := by
  have hz := V.zones
  refine Nat.le_trans (flatI_len _ 36 _ _ (fun j z h => pairL6 _ (V.zoneOK (List.mem_of_getElem? h)))) (by omega)
theorem chainsM_len {m : Map} (V : ValR m) : (chainsM m).length ≤ 1000 := by
  have hz := V.zones
  refine Nat.le_trans (flatI_len _ 6 _ _ (fun j z h => Nat.le_trans (pickI_len _ _ _) (V.zoneOK (List.mem_of_getElem? h)).six)) (by omega)
theorem mergesM_len {m : Map} (V : ValR m) : (mergesM m).length ≤ 1000 := Nat.le_trans (pickI_len _ _ _) (by have := V.lanes; omega)
theorem Fit_eq {m : Map} (B : BearM m) : roads_Fit m = some (fitM m) := by
  unfold roads_Fit fitM
  rw [roads_Check_eq B, Option.bind_some]
  by_cases q : chkR m = 0
  · have V := chkR_zero.1 q
    rw [q, show ((0 : Int) == 0) = true from rfl, cond_true, merges_eq B V, Option.bind_some, cond_true, chains_eq B V, Option.bind_some, cond_true, ranks_eq V, Option.bind_some, cond_true, greens_eq B V, Option.bind_some, sum0 _ _ _ _ (mergesM_len V) (chainsM_len V) (pairsM_len V _ _) (pairsM_len V _ _)]
    simp only [isEmpty_len, decide_true, Bool.true_and]
  · rw [show (chkR m == 0) = false by simpa using q, decide_eq_false q]; rfl
theorem rFit_eq {m : Map} (B : BearM m) : ref03_Fit m = some (fitM m) := by
  unfold ref03_Fit fitM
  rw [ref03_Check_eq B, Option.bind_some]
  by_cases q : chkR m = 0
  · have V := chkR_zero.1 q
    rw [q, show ((0 : Int) != 0) = false from rfl, cond_false, rmerges_eq B V, Option.bind_some, rchains_eq B V, Option.bind_some, rpairs_eq B V, Option.bind_some, rpairs_eq B V, Option.bind_some, sum0 _ _ _ _ (mergesM_len V) (chainsM_len V) (pairsM_len V _ _) (pairsM_len V _ _)]
    simp only [isEmpty_len, decide_true, Bool.true_and]
    rfl
  · rw [show (chkR m != 0) = true by simpa using q, decide_eq_false q]; rfl
end Go.Abs.Roadsz

namespace Go.Abs
open Go
theorem ifold_all {α : Type} : ∀ (l : List α) (i : Nat) (s : List α), ifold (fun _ s a => s ++ [a]) i s l = s ++ l
  | [], _, s => by simp [ifold]
  | a :: r, i, s => by rw [ifold, ifold_all r]; simp
theorem appc_nil {α : Type} {l : List α} (h : l.length ≤ 1000000) : appc ([] : List α) l = some l := appc_ok (by simp; omega)
/-- A loop that copies a list, in a state. -/
theorem cloop {α S τ : Type} {F : S → Option (Stp S τ)} (pk : Nat → List α → S) (l : List α) (fin : List α → τ) {S0 : S} (hS : pk 0 [] = S0)
    (hF : ∀ (i : Nat) a (s : List α), l[i]? = some a → s.length ≤ i → F (pk i s) = some (.go (pk (i + 1) (s ++ [a])))) (h0 : ∀ s, F (pk l.length s) = some (.out (fin s))) : loop F S0 = some (fin l) := by
  have := floop pk l (fun i s => s.length ≤ i) (fun _ s a => s ++ [a]) fin hS (by simp) hF (fun i a s _ hs => by simp; omega) (fun s _ => h0 s)
  rw [this, ifold_all, List.nil_append]
end Go.Abs
namespace Go.Abs.Roadsz
open Go Go.Abs
theorem ints_eq {l : List Int} (h : l.length ≤ 1000000) : ref03_ints l = some l := by unfold ref03_ints; rw [appc_nil h]; rfl
theorem OwnLane_eq {l : Lane} (h1 : l.Curve_.Pts.length ≤ 1000000) (h2 : l.Next.length ≤ 1000000) : ref03_OwnLane l = some l := by
  unfold ref03_OwnLane ref01_Copy
  rw [appc_nil h1, Option.bind_some, Option.bind_some, ints_eq h2]; rfl
theorem OwnZone_eq {z : Zone} (h : z.Parts.length ≤ 1000000) : ref03_OwnZone z = some z := by unfold ref03_OwnZone; rw [appc_nil h]; rfl
theorem OwnSignal_eq {s : Signal} (h1 : s.Phases.length ≤ 1000000) (h2 : ∀ p ∈ s.Phases, p.Green.length ≤ 1000000) : ref03_OwnSignal s = some s := by
  unfold ref03_OwnSignal
  rw [cloop (fun i l => (l, (i : Int))) s.Phases id (S0 := ([], 0)) rfl (fun i p l h hl => by
    have hi := lt_get h
    unfold ref03_OwnSignal_l1
    dsimp only
    rw [lt_dec hi, geti_get h, cond_true, Option.bind_some, Option.bind_some, ints_eq (h2 p (List.mem_of_getElem? h)), Option.bind_some, appc_ok (by simp; omega), Option.bind_some, w64_succ hi (by omega)]) (fun l => by unfold ref03_OwnSignal_l1; rw [nlt_dec]; rfl)]
  rfl
theorem Copy_eq {m : Map} (B : BearM m) : ref03_Copy m = some m := by
  have b1 := B.toBear.lanes
  have b2 := B.toBearZ.many
  have b3 := B.toBearS.many
  unfold ref03_Copy
  rw [appc_nil B.toBearW.many, Option.bind_some]
  rw [cloop (fun i l => ((i : Int), ⟨m.Version, l, [], [], m.Works⟩)) m.Lanes (fun l => ⟨m.Version, l, [], [], m.Works⟩) (S0 := ((0 : Int), (⟨m.Version, [], [], [], m.Works⟩ : Map))) rfl (fun i p l h hl => by
    have hi := lt_get h
    obtain ⟨p1, p2⟩ := B.toBear.pts p (List.mem_of_getElem? h)
    unfold ref03_Copy_l1
    dsimp only
    rw [lt_dec hi, geti_get h, cond_true, Option.bind_some, OwnLane_eq p1 p2, Option.bind_some, appc_ok (by simp; omega), Option.bind_some, w64_succ hi (by omega)]) (fun l => by unfold ref03_Copy_l1; rw [nlt_dec]; rfl), Option.bind_some]
  rw [cloop (fun i l => ((i : Int), ⟨m.Version, m.Lanes, l, [], m.Works⟩)) m.Zones (fun l => ⟨m.Version, m.Lanes, l, [], m.Works⟩) (S0 := ((0 : Int), (⟨m.Version, m.Lanes, [], [], m.Works⟩ : Map))) rfl (fun i p l h hl => by
    have hi := lt_get h
    have p1 := B.toBearZ.parts p (List.mem_of_getElem? h)
    unfold ref03_Copy_l2
    dsimp only
    rw [lt_dec hi, geti_get h, cond_true, Option.bind_some, OwnZone_eq p1, Option.bind_some, appc_ok (by simp; omega), Option.bind_some, w64_succ hi (by omega)]) (fun l => by unfold ref03_Copy_l2; rw [nlt_dec]; rfl), Option.bind_some]
  rw [cloop (fun i l => ((i : Int), ⟨m.Version, m.Lanes, m.Zones, l, m.Works⟩)) m.Signals (fun l => ⟨m.Version, m.Lanes, m.Zones, l, m.Works⟩) (S0 := ((0 : Int), (⟨m.Version, m.Lanes, m.Zones, [], m.Works⟩ : Map))) rfl (fun i p l h hl => by
    have hi := lt_get h
    obtain ⟨p1, p2⟩ := B.toBearS.phases p (List.mem_of_getElem? h)
    unfold ref03_Copy_l3
    dsimp only
    rw [lt_dec hi, geti_get h, cond_true, Option.bind_some, OwnSignal_eq p1 p2, Option.bind_some, appc_ok (by simp; omega), Option.bind_some, w64_succ hi (by omega)]) (fun l => by unfold ref03_Copy_l3; rw [nlt_dec]; rfl)]
  rfl
/-! ### What is the same as itself -/
theorem sameInts_self {l : List Int} (h : l.length ≤ 1000000) : ref03_sameInts l l = some true := by
  unfold ref03_sameInts
  rw [aloop l (fun _ => false) false (fun i a h => by
    have hi := lt_get h
    unfold ref03_sameInts_l1
    rw [lt_dec hi, geti_get h, w64_succ hi (by omega)]
    simp) (by unfold ref03_sameInts_l1; rw [nlt_dec]; rfl)]
  simp [thenS]
theorem curveSame_self {c : Curve} (h : c.Pts.length ≤ 1000000) : ref01_Same c c = some true := by
  unfold ref01_Same
  rw [show ((c.Pts.length : Int) != (c.Pts.length : Int)) = false by simp, cond_false, aloop c.Pts (fun _ => false) false (fun i a h => by
    have hi := lt_get h
    unfold ref01_Same_l1
    rw [lt_dec hi, geti_get h, w64_succ hi (by omega)]
    simp) (by unfold ref01_Same_l1; rw [nlt_dec]; rfl)]
  simp [thenS]
theorem SameLane_self {l : Lane} (h1 : l.Curve_.Pts.length ≤ 1000000) (h2 : l.Next.length ≤ 1000000) : ref03_SameLane l l = some true := by
  unfold ref03_SameLane
  rw [curveSame_self h1, sameInts_self h2]
  simp
theorem SameZone_self {z : Zone} (h : z.Parts.length ≤ 1000000) : ref03_SameZone z z = some true := by
  unfold ref03_SameZone
  rw [aloop z.Parts (fun _ => false) false (fun i a h => by
    have hi := lt_get h
    unfold ref03_SameZone_l1
    rw [lt_dec hi, geti_get h, w64_succ hi (by omega)]
    simp) (by unfold ref03_SameZone_l1; rw [nlt_dec]; rfl)]
  simp [thenS]
theorem SameSignal_self {s : Signal} (h1 : s.Phases.length ≤ 1000000) (h2 : ∀ p ∈ s.Phases, p.Green.length ≤ 1000000) : ref03_SameSignal s s = some true := by
  unfold ref03_SameSignal
  rw [aloop s.Phases (fun _ => false) false (fun i a h => by
    have hi := lt_get h
    unfold ref03_SameSignal_l1
    rw [lt_dec hi, geti_get h, w64_succ hi (by omega)]
    simp [sameInts_self (h2 a (List.mem_of_getElem? h))]) (by unfold ref03_SameSignal_l1; rw [nlt_dec]; rfl)]
  simp [thenS]
theorem Same_self {m : Map} (B : BearM m) : ref03_Same m m = some true := by
  have b1 := B.toBear.lanes
  have b2 := B.toBearZ.many
  have b3 := B.toBearS.many
  have b4 := B.toBearW.many
  have row : ∀ (t : Int) (n : Nat), ref03_rows m t = some (n : Int) → n ≤ 1000000 → (∀ i : Nat, i < n → ref03_sameRow m m t (i : Int) = some true) → loop (ref03_Same_l2 m m t) 0 = some (.inl ()) := by
    intro t n hn hle hr
    have := gloop (F := ref03_Same_l2 m m t) (σ := Unit) (fun i _ => (i : Int)) (List.range n) (fun _ _ => True) (fun _ _ _ => .inl ()) (fun _ => (.inl () : Sum Unit Bool)) (s0 := ()) (S0 := 0) rfl trivial (fun i a _ h _ => by
      have hi := lt_get h
      rw [List.length_range] at hi
      unfold ref03_Same_l2
      rw [hn, Option.bind_some, lt_dec hi, cond_true, hr i hi, Option.bind_some, w64_succ hi (by omega)]; rfl) (fun _ _ _ _ _ _ _ => trivial) (fun _ _ => by unfold ref03_Same_l2; rw [hn, Option.bind_some, List.length_range, nlt_dec]; rfl)
    rw [this]
    have key : ∀ (l : List Nat) (i : Nat), gfold (fun _ (_ : Unit) (_ : Nat) => (.inl () : Sum Unit (Sum Unit Bool))) (fun _ => (.inl () : Sum Unit Bool)) i () l = .inl () := by
      intro l
      induction l with
      | nil => intro i; rfl
      | cons a r ih => intro i; exact ih (i + 1)
    rw [key]
  have r1 := row 1 m.Lanes.length rfl b1 (fun i hi => by
    have e := List.getElem?_eq_getElem hi
    obtain ⟨p1, p2⟩ := B.toBear.pts _ (List.getElem_mem hi)
    unfold ref03_sameRow
    rw [show ((1 : Int) == 1) = true from rfl, cond_true, geti_get e, Option.bind_some, Option.bind_some, SameLane_self p1 p2]; rfl)
  have r2 := row 2 m.Zones.length rfl b2 (fun i hi => by
    have e := List.getElem?_eq_getElem hi
    have p1 := B.toBearZ.parts _ (List.getElem_mem hi)
    unfold ref03_sameRow
    rw [show ((2 : Int) == 1) = false from rfl, show ((2 : Int) == 2) = true from rfl, cond_false, cond_true, geti_get e, Option.bind_some, Option.bind_some, SameZone_self p1]; rfl)
  have r3 := row 3 m.Signals.length rfl b3 (fun i hi => by
    have e := List.getElem?_eq_getElem hi
    obtain ⟨p1, p2⟩ := B.toBearS.phases _ (List.getElem_mem hi)
    unfold ref03_sameRow
    rw [show ((3 : Int) == 1) = false from rfl, show ((3 : Int) == 2) = false from rfl, show ((3 : Int) == 3) = true from rfl, cond_false, cond_false, cond_true, geti_get e, Option.bind_some, Option.bind_some, SameSignal_self p1 p2]; rfl)
  have r4 := row 4 m.Works.length rfl b4 (fun i hi => by
    have e := List.getElem?_eq_getElem hi
    unfold ref03_sameRow
    rw [show ((4 : Int) == 1) = false from rfl, show ((4 : Int) == 2) = false from rfl, show ((4 : Int) == 3) = false from rfl, cond_false, cond_false, cond_false, geti_get e, Option.bind_some, Option.bind_some]
    simp)
  have s : ∀ (t t' : Int) (n : Int), decide (t ≤ 4) = true → ref03_rows m t = some n → w64 (t + 1) = t' → loop (ref03_Same_l2 m m t) 0 = some (.inl ()) → ref03_Same_l1 m m t = some (.go t') := by
    intro t t' n h1 h2 h3 h4
    unfold ref03_Same_l1
    rw [h1, cond_true, h2, Option.bind_some, Option.bind_some, show (n != n) = false by simp, cond_false, h4, h3]; rfl
  unfold ref03_Same
  rw [loop_go (s 1 2 _ rfl rfl rfl r1), loop_go (s 2 3 _ rfl rfl rfl r2), loop_go (s 3 4 _ rfl rfl rfl r3), loop_go (s 4 5 _ rfl rfl rfl r4), loop_out (t := .inl ()) rfl]
  simp [thenS]
theorem law03_RoadsChecks_plain (m : Map) : law03_RoadsChecks m = some true := by
  unfold law03_RoadsChecks
  rw [small_eq, Option.bind_some, awake_eq]
  cases hs : smallM m
  · rfl
  · have B := small_bear hs
    rw [Copy_eq B]
    simp only [Bool.not_true, cond_false, Option.bind_some]
    rw [roads_Check_eq B, ref03_Check_eq B, Fit_eq B, rFit_eq B, Same_self B]
    simp
end Go.Abs.Roadsz
