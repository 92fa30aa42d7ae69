/-
  Plain facts, second part: the law itself.
-/
import Derived.Test.YtdkgjoilcfoclaaGreatPlain


namespace Go.Abs.Convoyz
open Go Go.Abs

/-! ### Gaps -/
theorem scan_none {α τ : Type} {f : Int → Option (Stp Int (Sum Unit τ))} (l : List α) (hl : l.length ≤ 1000000000) (hf : ∀ (i : Nat) a, l[i]? = some a → f (i : Int) = some (.go (w64 ((i : Int) + 1)))) (he : f (l.length : Int) = some (.out (.inl ()))) : loop f 0 = some (.inl ()) := by
  have key : ∀ (r : List α) (i : Nat), l.drop i = r → i ≤ l.length → loop f (i : Int) = some (.inl ()) := by
    intro r
    induction r with
    | nil =>
      intro i hi hil
      have := drop_nil hi
      obtain rfl : i = l.length := by omega
      exact loop_out he
    | cons a r ih =>
      intro i hi _
      have hlt := drop_lt hi
      have h0 : l[i]? = some a := by have := congrArg (fun z => z[0]?) hi; simpa using this
      have hs := hf i a h0
      rw [w64_id (by omega)] at hs
      rw [loop_go hs]
      exact ih (i + 1) (drop_succ hi) (by omega)
  exact key l 0 rfl (by omega)
theorem sameNotes_refl (l : List Note) (hl : l.length ≤ 1000000000) : kit_SameNotes l l = some true := by
  unfold kit_SameNotes
  rw [scan_none l hl (fun i a h => by
    have := get_lt h
    unfold kit_SameNotes_l1
    rw [show decide ((i : Int) < (l.length : Int)) = true from decide_eq_true (by omega), geti_some h]
    simp) (by unfold kit_SameNotes_l1; simp)]
  simp [thenS]
theorem same_refl (c : Convoy) (hl : c.Mates.length ≤ 1000000) : ref09_Same c c = some true := by
  unfold ref09_Same
  rw [scan_none c.Mates (by omega) (fun i a h => by
    have := get_lt h
    unfold ref09_Same_l1
    rw [show decide ((i : Int) < (c.Mates.length : Int)) = true from decide_eq_true (by omega), geti_some h]
    simp) (by unfold ref09_Same_l1; simp)]
  simp [thenS]

/-! ### Notes -/
def notesAt (c : Convoy) (i : Nat) (m : Mate) : List Note :=
  [⟨1, m.ID, 0, c.Tick, w64 (m.S - m.Len), m.V, 0⟩]
  ++ ((match c.Mates[i + 1]? with | some k => [⟨4, m.ID, k.ID, c.Tick, w64 (m.S - m.Len), m.V, 0⟩] | none => [])
  ++ (if (m.Until != 0) && decide (m.Until ≥ c.Tick) then [⟨3, m.ID, m.Ward, c.Tick, w64 (m.S - m.Len), m.V, m.Until⟩] else []))
def notesL (c : Convoy) : Nat → List Mate → List Note
  | _, [] => []
  | i, m :: r => notesAt c i m ++ notesL c (i + 1) r
def askL (c : Convoy) : List Note := if c.Guest_.ID ≠ 0 then (match (besM c).2 with
  | .negSucc _ => []
  | .ofNat b => match c.Mates[b]? with | some k => [⟨2, c.Guest_.ID, k.ID, c.Tick, w64 (c.Guest_.S - c.Guest_.Len), c.Guest_.V, 0⟩] | none => []) else []
def notesM (c : Convoy) : List Note := if chkM c ≠ 0 then [] else notesL c 0 c.Mates ++ askL c
theorem notesAt_len (c : Convoy) (i : Nat) (m : Mate) : (notesAt c i m).length ≤ 3 := by
  unfold notesAt
  have h1 : ((match c.Mates[i + 1]? with | some k => [(⟨4, m.ID, k.ID, c.Tick, w64 (m.S - m.Len), m.V, 0⟩ : Note)] | none => [])).length ≤ 1 := by cases c.Mates[i + 1]? <;> simp
  have h2 : ((if (m.Until != 0) && decide (m.Until ≥ c.Tick) then [(⟨3, m.ID, m.Ward, c.Tick, w64 (m.S - m.Len), m.V, m.Until⟩ : Note)] else [])).length ≤ 1 := by split <;> simp
  simp only [List.length_append, List.length_cons, List.length_nil]
  omega
theorem notesL_len (c : Convoy) : ∀ (r : List Mate) (i : Nat), (notesL c i r).length ≤ 3 * r.length
  | [], _ => by simp [notesL]
  | m :: r, i => by
    have := notesL_len c r (i + 1)
    have := notesAt_len c i m
    simp only [notesL, List.length_append, List.length_cons]
    omega
theorem next_get (c : Convoy) (hl : c.Mates.length ≤ 1000000) (i : Nat) (hi : i < c.Mates.length) : (decide (w64 ((i : Int) + 1) < (c.Mates.length : Int)) = true ∧ ∃ k, c.Mates[i + 1]? = some k ∧ geti c.Mates (w64 ((i : Int) + 1)) = some k) ∨ (decide (w64 ((i : Int) + 1) < (c.Mates.length : Int)) = false ∧ c.Mates[i + 1]? = none) := by
  rw [w64_id (by omega)]
  by_cases h : i + 1 < c.Mates.length
  · exact .inl ⟨decide_eq_true (by omega), c.Mates[i + 1], List.getElem?_eq_getElem h, by rw [show (i : Int) + 1 = ((i + 1 : Nat) : Int) by omega, geti_nat h]⟩
  · exact .inr ⟨decide_eq_false (by omega), List.getElem?_eq_none_iff.2 (by omega)⟩
theorem notes_step (c : Convoy) (hl : c.Mates.length ≤ 1000000) (i : Nat) (m : Mate) (h : c.Mates[i]? = some m) (acc : List Note) (ha : acc.length ≤ 3 * i) : convoy_Notes_l1 c (acc, (i : Int)) = some (.go (acc ++ notesAt c i m, ((i + 1 : Nat) : Int))) ∧ ref09_Notes_l1 c (acc, (i : Int)) = some (.go (acc ++ notesAt c i m, ((i + 1 : Nat) : Int))) := by
  have hlt := get_lt h
  have ew : w64 ((i : Int) + 1) = ((i + 1 : Nat) : Int) := by rw [w64_id (by omega)]; omega
  unfold convoy_Notes_l1 ref09_Notes_l1 notesAt
  rw [show decide ((i : Int) < (c.Mates.length : Int)) = true from decide_eq_true (by omega)]
  dsimp only
  rw [geti_some h]
  simp only [cond_true, Option.bind_some, convoy_rear_eq, ref09_rear_eq]
  rw [appc_ok (by simp; omega)]
  simp only [Option.bind_some]
  rcases next_get c hl i hlt with ⟨q, k, g1, g2⟩ | ⟨q, g1⟩
  · rw [q, g1, g2]
    simp only [cond_true, Option.bind_some]
    rw [appc_ok (by simp; omega)]
    simp only [Option.bind_some]
    cases (m.Until != 0) && decide (m.Until ≥ c.Tick)
    · simp only [cond_false, Bool.false_eq_true, if_false, List.append_nil, ew, Option.bind_some, List.append_assoc, and_self]
    · simp only [cond_true, if_true]
      rw [appc_ok (by simp; omega)]
      simp only [Option.bind_some, ew, List.append_assoc, and_self]
  · rw [q, g1]
    simp only [cond_false, Option.bind_some]
    cases (m.Until != 0) && decide (m.Until ≥ c.Tick)
    · simp only [cond_false, Bool.false_eq_true, if_false, List.append_nil, ew, Option.bind_some, and_self]
    · simp only [cond_true, if_true]
      rw [appc_ok (by simp; omega)]
      simp only [Option.bind_some, ew, List.append_assoc, List.nil_append, and_self]
theorem notes_loop {f : List Note × Int → Option (Stp (List Note × Int) (List Note))} (c : Convoy) (hf : ∀ (i : Nat) m acc, c.Mates[i]? = some m → acc.length ≤ 3 * i → f (acc, (i : Int)) = some (.go (acc ++ notesAt c i m, ((i + 1 : Nat) : Int)))) (he : ∀ acc, f (acc, (c.Mates.length : Int)) = some (.out acc)) : ∀ (r : List Mate) (i : Nat) (acc : List Note), c.Mates.drop i = r → i ≤ c.Mates.length → acc.length ≤ 3 * i → loop f (acc, (i : Int)) = some (acc ++ notesL c i r) := by
  intro r
  induction r with
  | nil =>
    intro i acc hi hil _
    have := drop_nil hi
    obtain rfl : i = c.Mates.length := by omega
    rw [loop_out (he acc)]; simp [notesL]
  | cons a r ih =>
    intro i acc hi _ ha
    have hlt := drop_lt hi
    have h0 : c.Mates[i]? = some a := by have := congrArg (fun z => z[0]?) hi; simpa using this
    rw [loop_go (hf i a acc h0 ha), ih (i + 1) _ (drop_succ hi) (by omega) (by have := notesAt_len c i a; simp only [List.length_append]; omega), notesL, List.append_assoc]
theorem ask_eq (c : Convoy) (ns : List Note) (hn : ns.length ≤ 1000) : (decide ((besM c).2 ≥ 0) = true ∧ ∃ k : Mate, geti c.Mates (besM c).2 = some k ∧ (c.Guest_.ID ≠ 0 → askL c = [⟨2, c.Guest_.ID, k.ID, c.Tick, w64 (c.Guest_.S - c.Guest_.Len), c.Guest_.V, 0⟩])) ∨ (decide ((besM c).2 ≥ 0) = false ∧ askL c = []) := by
  have b := (besM_lt c).2.2
  unfold askL
  rcases b with e | ⟨j, hj, e⟩
  · refine .inr ⟨by rw [show (besM c).2 = -1 from e]; rfl, ?_⟩
    rw [e]
    split <;> rfl
  · refine .inl ⟨decide_eq_true (by omega), c.Mates[j], by rw [e, geti_nat hj], fun h => ?_⟩
    rw [if_pos h, e]
    change (match c.Mates[j]? with | some k => _ | none => _) = _
    rw [List.getElem?_eq_getElem hj]
theorem notes_both (c : Convoy) (hl : c.Mates.length ≤ 1000000) : convoy_Notes c = some (notesM c) ∧ ref09_Notes c = some (notesM c) ∧ (notesM c).length ≤ 100 := by
  unfold convoy_Notes ref09_Notes notesM
  rw [convoy_Check_eq c hl, ref09_Check_eq c hl, Option.bind_some, Option.bind_some]
  by_cases h : chkM c = 0
  · have n := num_len (chk_num h)
    have len := notesL_len c c.Mates 0
    have l1 := notes_loop (f := convoy_Notes_l1 c) c (fun i m acc hm ha => (notes_step c hl i m hm acc ha).1) (fun acc => by unfold convoy_Notes_l1; simp) c.Mates 0 [] rfl (by omega) (by simp)
    have l2 := notes_loop (f := ref09_Notes_l1 c) c (fun i m acc hm ha => (notes_step c hl i m hm acc ha).2) (fun acc => by unfold ref09_Notes_l1; simp) c.Mates 0 [] rfl (by omega) (by simp)
    rw [show ((0 : Nat) : Int) = 0 from rfl, List.nil_append] at l1 l2
    rw [if_neg (by rw [h]; decide), h, show ((0 : Int) != 0) = false from rfl, cond_false, cond_false, l1, l2, convoy_beside_eq c hl, ref09_beside_eq h]
    simp only [Option.bind_some]
    rcases ask_eq c (notesL c 0 c.Mates) (by omega) with ⟨q, k, g1, g2⟩ | ⟨q, g2⟩
    · rw [q, g1]
      by_cases z : c.Guest_.ID = 0
      · rw [show askL c = [] by unfold askL; rw [if_neg (by simpa using z)], show (c.Guest_.ID != 0) = false by simpa using z]
        simp only [cond_false, Bool.false_and, List.append_nil, true_and]; omega
      · rw [g2 z, show (c.Guest_.ID != 0) = true by simpa using z]
        simp only [cond_true, Option.bind_some, Bool.true_and]
        rw [appc_ok (by simp; omega)]
        exact ⟨rfl, rfl, by simp; omega⟩
    · rw [q, g2]
      simp only [cond_false, Bool.and_false, List.append_nil, true_and]
      refine ⟨?_, by omega⟩
      cases (c.Guest_.ID != 0) <;> rfl
  · rw [if_pos h, show (chkM c != 0) = true by simpa using h]
    exact ⟨rfl, rfl, by simp⟩

/-! ### The law -/
end Go.Abs.Convoyz

namespace Go.Abs.Convoyz
open Go Go.Abs

/-! ### Equal convoys -/
def eqM (v1 v2 : Mate) : Bool := (v1.ID == v2.ID && (v1.S == v2.S && (v1.V == v2.V && (v1.Len == v2.Len && (v1.Ahead == v2.Ahead && (v1.Guess_.R == v2.Guess_.R && (v1.Guess_.V == v2.Guess_.V && (v1.Trust == v2.Trust && (v1.Ward == v2.Ward && (v1.WardGuess.R == v2.WardGuess.R && (v1.WardGuess.V == v2.WardGuess.V && (v1.Until == v2.Until && true))))))))))))
def eqG (v1 v2 : Guest) : Bool := (v1.ID == v2.ID && (v1.S == v2.S && (v1.V == v2.V && (v1.Len == v2.Len && (v1.End == v2.End && (v1.Ahead == v2.Ahead && (v1.Guess_.R == v2.Guess_.R && (v1.Guess_.V == v2.Guess_.V && (v1.From == v2.From && (v1.Until == v2.Until && true))))))))))
def difP (ys : List Mate) (i : Nat) (a : Mate) : Bool := match ys[i]? with | some y => !eqM a y | none => true
def eqL (xs ys : List Mate) : Bool := (xs.length == ys.length) && !anyI (difP ys) 0 xs
def eqC (a b : Convoy) : Bool := ((a.Tick == b.Tick) && (a.Gap == b.Gap) && eqG a.Guest_ b.Guest_) && eqL a.Mates b.Mates
theorem equal_loop (xs ys : List Mate) (hx : xs.length ≤ 1000000) (hl : xs.length = ys.length) : loop (slices_Equal_Mate_Mate_l1 xs ys) 0 = some (if anyI (difP ys) 0 xs then .inr false else .inl ()) := by
  have := scan (f := slices_Equal_Mate_Mate_l1 xs ys) xs (difP ys) false (by omega) 0 (fun i a _ h => by
    have hlt := get_lt h
    obtain ⟨y, hy⟩ : ∃ y, ys[i]? = some y := ⟨ys[i], List.getElem?_eq_getElem (by omega)⟩
    unfold slices_Equal_Mate_Mate_l1 difP
    rw [show decide ((i : Int) < (xs.length : Int)) = true from decide_eq_true (by omega), geti_some h, geti_some hy, hy]
    simp only [cond_true, Option.bind_some, cond_some]
    have key : ∀ b : Bool, some (cond (!b) (Stp.out (σ := Int) (Sum.inr (α := Unit) false)) (.go (w64 ((i : Int) + 1)))) = some (if (!b) = true then .out (.inr false) else .go (w64 ((i : Int) + 1))) := by intro b; cases b <;> rfl
    exact key (eqM a y)) (by unfold slices_Equal_Mate_Mate_l1; simp) (by omega)
  rw [show ((0 : Nat) : Int) = 0 from rfl, List.drop_zero] at this
  exact this
theorem ref09_Same_eq (a b : Convoy) (ha : a.Mates.length ≤ 1000000) : ref09_Same a b = some (eqC a b) := by
  change cond ((((a.Tick != b.Tick) || (a.Gap != b.Gap)) || !eqG a.Guest_ b.Guest_) || ((a.Mates.length : Int) != (b.Mates.length : Int))) (some false) (thenS (loop (slices_Equal_Mate_Mate_l1 a.Mates b.Mates) 0) (fun _ => some true) (fun r => some r)) = _
  unfold eqC eqL
  rw [show (a.Tick != b.Tick) = !(a.Tick == b.Tick) from rfl, show (a.Gap != b.Gap) = !(a.Gap == b.Gap) from rfl]
  by_cases h : a.Mates.length = b.Mates.length
  · rw [show ((a.Mates.length : Int) != (b.Mates.length : Int)) = false by simp [h], show (a.Mates.length == b.Mates.length) = true by simp [h], equal_loop _ _ ha h]
    cases (a.Tick == b.Tick) <;> cases (a.Gap == b.Gap) <;> cases eqG a.Guest_ b.Guest_ <;> cases anyI (difP b.Mates) 0 a.Mates <;> rfl
  · rw [show ((a.Mates.length : Int) != (b.Mates.length : Int)) = true by simp; omega, show (a.Mates.length == b.Mates.length) = false by simpa using h]
    simp
theorem eqC_refl (c : Convoy) (hl : c.Mates.length ≤ 1000000) : eqC c c = true := by
  have := same_refl c hl
  rw [ref09_Same_eq c c hl] at this
  exact Option.some.inj this

/-! ### Copies, guests -/
end Go.Abs.Convoyz

namespace Go.Abs.Convoyz
open Go Go.Abs

/-! ### What a step is -/
def countsM (n : Note) (t : Int) : Bool := within n.Kind 1 4 && within n.From 1 99 && within n.Stamp (max 0 (t - 20)) t && guessM ⟨n.R, n.V⟩ && within n.Until 0 2199023255552
def agedM (n : Note) (t : Int) : Guess := ageM ⟨n.R, n.V⟩ (t - n.Stamp)
def sightP (id : Int) (x : Sight) : Bool := x.By == id && decide (x.Lo ≤ x.Hi) && decide (x.VLo ≤ x.VHi) && decide (-20000 ≤ x.Lo) && decide (x.Hi ≤ 2199023255552) && decide (0 ≤ x.VLo) && decide (x.VHi ≤ 2000)
def sightM (l : List Sight) (id : Int) : Option Sight := l.find? (sightP id)
/-- A mate hears a hail. -/
def hailM (m : Mate) (n : Note) (x : Option Sight) (t : Int) : Mate :=
  let m := if m.Until ≠ 0 ∧ n.From = m.Ward then { m with WardGuess := betterM m.WardGuess (agedM n t) } else m
  if m.Ahead ≠ 0 ∧ n.From = m.Ahead then
    match x with
    | some x => if n.Stamp = t ∧ (within n.R x.Lo x.Hi && within n.V x.VLo x.VHi) = false then { m with Trust := false } else m
    | none => if m.Trust then { m with Guess_ := betterM m.Guess_ (agedM n t) } else m
  else m
def askM (m : Mate) (n : Note) (t : Int) : Mate :=
  if n.To ≠ m.ID then m
  else if m.Ward = 0 ∨ (n.From = m.Ward ∧ m.Until ≠ 0 ∧ m.Until < n.Stamp) then { m with Ward := n.From, WardGuess := agedM n t, Until := 0 }
  else if n.From = m.Ward then { m with WardGuess := betterM m.WardGuess (agedM n t) }
  else m
def doneM (m : Mate) (n : Note) (x : Option Sight) (t : Int) : Mate :=
  if n.To ≠ m.ID ∨ m.Until = 0 ∨ n.From ≠ m.Ward then m
  else { m with Ahead := m.Ward, Guess_ := (match x with | some _ => m.WardGuess | none => betterM m.WardGuess (agedM n t)), Trust := true, Ward := 0, WardGuess := ⟨0, 0⟩, Until := 0 }
def hearM (m : Mate) (n : Note) (x : Option Sight) (t : Int) : Mate :=
  if n.Kind = 1 then hailM m n x t else if n.Kind = 2 then askM m n t else if n.Kind = 4 then doneM m n x t else m
def asksM (m : Mate) (t : Int) (n : Note) : Bool := countsM n t && n.Kind == 2 && n.To == m.ID && n.From == m.Ward && n.From != m.ID
def forgetM (m : Mate) (asked : Bool) : Mate := if m.Ward ≠ 0 ∧ m.Until = 0 ∧ asked = false then { m with Ward := 0, WardGuess := ⟨0, 0⟩, Until := 0 } else m
def seeM (m : Mate) (x : Option Sight) : Mate := match x with
  | some x => if m.Ahead ≠ 0 then { m with Guess_ := betterM m.Guess_ ⟨x.Lo, x.VLo⟩ } else m
  | none => m
def grantM (gap t : Int) (m : Mate) : Mate := if m.Ward ≠ 0 ∧ m.Until = 0 ∧ safeM m.S m.V gap m.WardGuess = true then { m with Until := t + 30 } else m
def heardM (notes : List Note) (x : Option Sight) (t : Int) (m : Mate) : Mate := notes.foldl (fun k n => if countsM n t && n.From != m.ID then hearM k n x t else k) m
def believeM (c : Convoy) (notes : List Note) (sights : List Sight) (m : Mate) : Mate :=
  let k := heardM notes (sightM sights m.ID) c.Tick m
  grantM c.Gap c.Tick (seeM (forgetM k (notes.any (asksM k c.Tick))) (sightM sights m.ID))
/-- The speed after a tick. -/
def speedM (v a : Int) : Int := max 0 (min (v + a) 2000)
/-- The greatest acceleration that is right, from one on down to -90. -/
def downM (right : Int → Bool) : Nat → Int → Int
  | 0, a => a
  | k + 1, a => if right a then a else downM right k (a - 1)
def greatM (right : Int → Bool) (want : Int) : Int := downM right (max (-90) (min want 30) + 90).toNat (max (-90) (min want 30))
def mayM (gap : Int) (m : Mate) (a : Int) : Bool := keepM gap m (m.S + speedM m.V a) (speedM m.V a) (ageM m.Guess_ 1) (ageM m.WardGuess 1)
def wantM (m : Mate) (want : Int) : Int := if m.Ward ≠ 0 ∧ m.Until = 0 then min want (-20) else want
def driveM (gap : Int) (m : Mate) (want : Int) : Mate :=
  let v := speedM m.V (greatM (mayM gap m) (wantM m want))
  { m with S := m.S + v, V := v, Guess_ := if m.Ahead ≠ 0 then ageM m.Guess_ 1 else m.Guess_, WardGuess := if m.Ward ≠ 0 then ageM m.WardGuess 1 else m.WardGuess }
def idAt (c : Convoy) (i : Int) : Int := if 0 ≤ i then (match c.Mates[i.toNat]? with | some m => m.ID | none => 0) else 0
def nearM (g : Guest) (id : Int) (x : Guess) : Guest := { g with Ahead := id, Guess_ := if g.Ahead ≠ 0 then betterM g.Guess_ x else x }
def learnM (front back t : Int) (g : Guest) (n : Note) : Guest :=
  if countsM n t then
    if n.Kind = 1 ∧ front ≠ 0 ∧ n.From = front then nearM g front (agedM n t)
    else if n.Kind = 3 ∧ n.To = g.ID ∧ back ≠ 0 ∧ n.From = back ∧ t ≤ n.Until then { g with From := back, Until := n.Until }
    else g
  else g
def learnsM (c : Convoy) (notes : List Note) (sights : List Sight) : Guest :=
  let front := idAt c (besM c).1
  let back := idAt c (besM c).2
  let g := if c.Guest_.Ahead ≠ front then { c.Guest_ with Ahead := 0, Guess_ := ⟨0, 0⟩ } else c.Guest_
  let g := notes.foldl (learnM front back c.Tick) g
  match sightM sights g.ID with
  | some x => if front ≠ 0 then nearM g front ⟨x.Lo, x.VLo⟩ else g
  | none => g
def mergeM (c : Convoy) (g : Guest) : Bool :=
  let front := idAt c (besM c).1
  let back := idAt c (besM c).2
  (front == 0 || (g.Ahead == front && safeM g.S g.V c.Gap g.Guess_)) && (back == 0 || (g.From == back && decide (c.Tick ≤ g.Until)))
def rollM (g : Guest) (want : Int) : Guest :=
  let v := speedM g.V (greatM (fun a => decide (g.S + speedM g.V a + stopM (speedM g.V a) < g.End)) want)
  { g with S := g.S + v, V := v, Guess_ := if g.Ahead ≠ 0 then ageM g.Guess_ 1 else g.Guess_ }
def farM (c : Convoy) : Bool := decide (1099511625776 < c.Guest_.S) || c.Mates.any (fun m => decide (1099511625776 < m.S))
def wantsM (l : List Int) (i : Nat) : Int := l.getD i 0
def newMate (g : Guest) : Mate := ⟨g.ID, g.S, g.V, g.Len, g.Ahead, g.Guess_, true, 0, ⟨0, 0⟩, 0⟩
def matesM (c : Convoy) (wants : List Int) (notes : List Note) (sights : List Sight) : List Mate := c.Mates.mapIdx fun i m => driveM c.Gap (believeM c notes sights m) (wantsM wants i)
def stepM (c : Convoy) (wants : List Int) (notes : List Note) (sights : List Sight) : Convoy × Int :=
  if chkM c ≠ 0 then (C0, chkM c)
  else if 60 < notes.length ∨ 60 < sights.length ∨ c.Tick = 1099511627776 ∨ farM c = true then (C0, 2)
  else
    let ms := matesM c wants notes sights
    if c.Guest_.ID = 0 then (⟨c.Tick + 1, c.Gap, ms, G0⟩, 0)
    else
      let g := learnsM c notes sights
      let w := wantsM wants c.Mates.length
      if mergeM c g then (⟨c.Tick + 1, c.Gap, ms.take ((besM c).1 + 1).toNat ++ driveM c.Gap (newMate g) w :: ms.drop ((besM c).1 + 1).toNat, G0⟩, 0)
      else (⟨c.Tick + 1, c.Gap, ms, rollM g w⟩, 0)
end Go.Abs.Convoyz

namespace Go.Abs.Convoyz
open Go Go.Abs

/-! ### What stays true of a convoy: somebody's body, and what is below it -/
inductive Body (c : Convoy) (id : Int) : Int → Int → Prop
  | mate (i : Nat) (m : Mate) (h : c.Mates[i]? = some m) (hid : m.ID = id) : Body c id (m.S - m.Len) m.V
  | guest (h : c.Guest_.ID = id) (h0 : id ≠ 0) : Body c id (c.Guest_.S - c.Guest_.Len) c.Guest_.V
def Bel (c : Convoy) (id : Int) (g : Guess) : Prop := ∃ r v, Body c id r v ∧ Lower g ⟨r, v⟩
/-- A guess's numbers. -/
def GB (g : Guess) : Prop := (-20000 ≤ g.R ∧ g.R ≤ 2199023255552) ∧ 0 ≤ g.V ∧ g.V ≤ 2000
theorem GB.num {g : Guess} (h : GB g) : (-20000 ≤ g.R ∧ g.R ≤ 2199023255552) ∧ 0 ≤ g.V ∧ g.V ≤ 2000 := h
theorem Lower.refl (g : Guess) : Lower g g := ⟨Int.le_refl _, Int.le_refl _⟩
theorem speed_bd (v a : Int) : 0 ≤ speedM v a ∧ speedM v a ≤ 2000 := by unfold speedM; omega
/-- What is true of a mate at a place; what it believes may be newer than the convoy. -/
structure MateI (G T : Int) (c : Convoy) (i : Nat) (m : Mate) : Prop where
  id : 1 ≤ m.ID ∧ m.ID ≤ 99
  s : 0 ≤ m.S ∧ m.S ≤ 17000000 + 2000 * c.Tick
  v : 0 ≤ m.V ∧ m.V ≤ 2000
  len : 300 ≤ m.Len ∧ m.Len ≤ 20000
  g : GB m.Guess_
  w : GB m.WardGuess
  ahead : m.Ahead ≠ 0 → ∃ (k : Nat) (km : Mate), k < i ∧ c.Mates[k]? = some km ∧ km.ID = m.Ahead ∧ Lower m.Guess_ ⟨km.S - km.Len, km.V⟩
  ward : m.Ward ≠ 0 → m.Ward = G ∧ Bel c G m.WardGuess
  untl : m.Until ≠ 0 → m.Ward ≠ 0
  ub : 0 ≤ m.Until ∧ m.Until ≤ c.Tick + 30
  sA : m.Ahead ≠ 0 → Lower ⟨m.S + c.Gap, m.V⟩ m.Guess_
  sW : m.Until ≠ 0 → Lower ⟨m.S + c.Gap, m.V⟩ m.WardGuess
  pred : ∀ k, 0 < i → c.Mates[i - 1]? = some k → k.ID = m.Ahead ∨ (k.ID = m.Ward ∧ m.Until ≠ 0 ∧ T ≤ m.Until)
  first : i = 0 → m.Ahead = 0
structure GuestI (G T : Int) (c : Convoy) (g : Guest) : Prop where
  id : g.ID = G
  gid : 1 ≤ G ∧ G ≤ 99
  new : ∀ (i : Nat) m, c.Mates[i]? = some m → m.ID ≠ G
  s : 0 ≤ g.S ∧ g.S ≤ 17000000 + 2000 * c.Tick
  v : 0 ≤ g.V ∧ g.V ≤ 2000
  len : 300 ≤ g.Len ∧ g.Len ≤ 20000
  stops : g.S + stopM g.V < g.End
  fin : g.End ≤ 1099511627776
  gs : GB g.Guess_
  ahead : g.Ahead ≠ 0 → ∃ (k : Nat) (km : Mate), c.Mates[k]? = some km ∧ km.ID = g.Ahead ∧ Lower g.Guess_ ⟨km.S - km.Len, km.V⟩
  from_ : 0 ≤ g.From ∧ g.From ≤ 99
  ub : 0 ≤ g.Until ∧ g.Until ≤ c.Tick + 30
  fromU : g.From ≠ 0 → 0 < g.Until
  grant : g.From ≠ 0 → c.Tick ≤ g.Until → ∃ (k : Nat) (km : Mate), c.Mates[k]? = some km ∧ km.ID = g.From ∧ km.Ward = G ∧ km.Until = g.Until
  now : T = c.Tick
structure Inv (G T : Int) (c : Convoy) : Prop where
  tick : 0 ≤ c.Tick ∧ c.Tick ≤ 1000
  gap : 1 ≤ c.Gap ∧ c.Gap ≤ 20000
  gpos : G ≠ 0
  one : 1 ≤ c.Mates.length
  many : c.Mates.length + (if c.Guest_.ID = 0 then 0 else 1) ≤ 8
  mates : ∀ (i : Nat) m, c.Mates[i]? = some m → MateI G T c i m
  dist : ∀ (i j : Nat) a b, c.Mates[i]? = some a → c.Mates[j]? = some b → a.ID = b.ID → i = j
  guest : c.Guest_ = G0 ∨ GuestI G T c c.Guest_
section
variable {G T : Int} {c : Convoy}
theorem Inv.noG (I : Inv G T c) (h : c.Guest_.ID ≠ 0) : GuestI G T c c.Guest_ := by
  rcases I.guest with e | e
  · rw [e] at h; exact absurd rfl h
  · exact e
/-- What a mate keeps while it hears. -/
structure Same4 (m0 k : Mate) : Prop where
  id : k.ID = m0.ID
  s : k.S = m0.S
  v : k.V = m0.V
  len : k.Len = m0.Len
theorem Same4.refl (m : Mate) : Same4 m m := ⟨rfl, rfl, rfl, rfl⟩
theorem Same4.trans {a b d : Mate} (h : Same4 a b) (h' : Same4 b d) : Same4 a d := ⟨h'.id.trans h.id, h'.s.trans h.s, h'.v.trans h.v, h'.len.trans h.len⟩
theorem hear_same (m : Mate) (n : Note) (x : Option Sight) (t : Int) : Same4 m (hearM m n x t) := by
  unfold hearM hailM askM doneM
  cases x <;> dsimp only <;> (repeat' split) <;> exact ⟨rfl, rfl, rfl, rfl⟩
end
end Go.Abs.Convoyz

namespace Go.Abs.Convoyz
open Go Go.Abs

section
variable {G T : Int} {c : Convoy}
/-! ### The chain of mates -/
theorem forget_same (m : Mate) (b : Bool) : Same4 m (forgetM m b) := by unfold forgetM; split <;> exact ⟨rfl, rfl, rfl, rfl⟩
theorem see_same (m : Mate) (x : Option Sight) : Same4 m (seeM m x) := by unfold seeM; cases x <;> dsimp only <;> (repeat' split) <;> exact ⟨rfl, rfl, rfl, rfl⟩
theorem grant_same (gap t : Int) (m : Mate) : Same4 m (grantM gap t m) := by unfold grantM; split <;> exact ⟨rfl, rfl, rfl, rfl⟩
theorem down_ok (right : Int → Bool) : ∀ (k : Nat) (a : Int), a = -90 + k → (-90 ≤ downM right k a ∧ downM right k a ≤ a) ∧ (right (-90) = true → right (downM right k a) = true)
  | 0, a, h => by
    obtain rfl : a = -90 := by omega
    exact ⟨⟨Int.le_refl _, Int.le_refl _⟩, id⟩
  | k + 1, a, h => by
    unfold downM
    split
    · rename_i q; exact ⟨by omega, fun _ => q⟩
    · have := down_ok right k (a - 1) (by omega)
      exact ⟨by omega, this.2⟩
theorem great_ok (right : Int → Bool) (want : Int) : (-90 ≤ greatM right want ∧ greatM right want ≤ max (-90) (min want 30)) ∧ (right (-90) = true → right (greatM right want) = true) :=
  down_ok right _ _ (by omega)
end
end Go.Abs.Convoyz

namespace Go.Abs.Convoyz
open Go Go.Abs

section
variable {G T : Int} {c : Convoy}
/-! ### The guest -/
theorem drove_mates (notes : List Note) (sights : List Sight) (wants : List Int) {i : Nat} {m : Mate} (hm : c.Mates[i]? = some m) : (matesM c wants notes sights)[i]? = some (driveM c.Gap (believeM c notes sights m) (wantsM wants i)) := by
  unfold matesM
  rw [List.getElem?_mapIdx, hm]; rfl
theorem len_mates (notes : List Note) (sights : List Sight) (wants : List Int) : (matesM c wants notes sights).length = c.Mates.length := List.length_mapIdx
section
variable {notes : List Note} {sights : List Sight} {wants : List Int}
end
end
end Go.Abs.Convoyz

namespace Go.Abs.Convoyz
open Go Go.Abs

section
variable {G T : Int} {c : Convoy}
end
end Go.Abs.Convoyz

namespace Go.Abs.Convoyz
open Go Go.Abs

section
variable {G T : Int} {c : Convoy} {notes : List Note} {sights : List Sight} {wants : List Int}
end
end Go.Abs.Convoyz

namespace Go.Abs.Convoyz
open Go Go.Abs

section
variable {G T : Int} {c : Convoy}
/-! ### What is sent, and what is sighted -/
end
end Go.Abs.Convoyz

namespace Go.Abs.Convoyz
open Go Go.Abs

/-! ### The program's step is the model's -/
theorem appc_eq {α : Type} {xs ys : List α} (h : xs.length + ys.length ≤ 1000000000) : appc xs ys = some (xs ++ ys) := by unfold appc; rw [if_pos h]
def S0 : Sight := ⟨0, 0, 0, 0, 0⟩
def mind (t gap : Int) (x : Option Sight) (m : Mate) : ConvoyMind := ⟨m, t, gap, x.getD S0, x.isSome⟩
theorem counts_eq (n : Note) {t : Int} (h0 : 0 ≤ t) (h1 : t ≤ 1099511627776) : convoy_counts n t = some (countsM n t) := by
  unfold convoy_counts countsM
  simp only [convoy_within_eq, fairGuess_eq, mm2_max, cond_some, Option.bind_some]
  rw [w64_id (n := t - 20) (by omega)]
  have e : ∀ a b d : Bool, (a && cond a b d) = (a && b) := by intro a b d; cases a <;> rfl
  simp only [e, within, ge_iff_le, Bool.and_assoc]
theorem counts_stamp {n : Note} {t : Int} (h : countsM n t = true) : (1 ≤ n.Kind ∧ n.Kind ≤ 4) ∧ (1 ≤ n.From ∧ n.From ≤ 99) ∧ 0 ≤ n.Stamp ∧ t - 20 ≤ n.Stamp ∧ n.Stamp ≤ t := by
  unfold countsM at h
  simp only [Bool.and_eq_true, within_iff] at h
  omega
def letterM (t : Int) (n : Note) : ConvoyLetter := ⟨n, agedM n t⟩
def lettersM (notes : List Note) (t : Int) : List ConvoyLetter := (notes.filter (countsM · t)).map (letterM t)
theorem post_eq (notes : List Note) {t : Int} (h0 : 0 ≤ t) (h1 : t ≤ 1099511627776) (hl : notes.length ≤ 1000000) : convoy_post notes t = some (lettersM notes t) := by
  have key : ∀ (r : List Note) (i : Nat) (ls : List ConvoyLetter), notes.drop i = r → ls.length ≤ i → i ≤ notes.length → loop (convoy_post_l1 notes t) (ls, (i : Int)) = some (ls ++ lettersM r t) := by
    intro r
    induction r with
    | nil =>
      intro i ls hi _ hil
      have := drop_nil hi
      refine loop_out ?_
      unfold convoy_post_l1
      dsimp only
      rw [show decide ((i : Int) < (notes.length : Int)) = false from decide_eq_false (by omega)]
      simp [lettersM]
    | cons n r ih =>
      intro i ls hi hli hil
      have hlt := drop_lt hi
      have hs : convoy_post_l1 notes t (ls, (i : Int)) = some (.go (if countsM n t then ls ++ [letterM t n] else ls, (((i + 1 : Nat)) : Int))) := by
        unfold convoy_post_l1
        dsimp only
        rw [show decide ((i : Int) < (notes.length : Int)) = true from decide_eq_true (by omega), geti_drop hi, w64_id (n := (i : Int) + 1) (by omega)]
        simp only [cond_true, Option.bind_some, counts_eq n h0 h1]
        cases hc : countsM n t
        · simp only [cond_false, Bool.false_eq_true, if_false]; rfl
        · have := counts_stamp hc
          rw [w64_id (n := t - n.Stamp) (by omega), (Age_eq _ _).1]
          simp only [cond_true, Option.bind_some, if_true]
          rw [appc_eq (by simp only [List.length_cons, List.length_nil]; omega)]
          rfl
      rw [loop_go hs, ih (i + 1) _ (drop_succ hi) (by split <;> (try simp only [List.length_append, List.length_cons, List.length_nil]) <;> omega) (by omega)]
      unfold lettersM
      cases hc : countsM n t
      · simp [hc]
      · simp [hc, letterM]
  unfold convoy_post
  have := key notes 0 [] rfl (by simp) (by omega)
  rw [show ((0 : Nat) : Int) = 0 from rfl] at this
  rw [this]; rfl
theorem find_idx {α : Type} (P : α → Bool) : ∀ (l : List α), l.find? P = (l.findIdx? P).bind fun i => l[i]?
  | [] => rfl
  | a :: r => by
    rw [List.find?_cons, List.findIdx?_cons]
    cases h : P a
    · simp only [find_idx P r, Bool.false_eq_true, if_false]
      cases r.findIdx? P <;> simp
    · simp
theorem sight_eq (l : List Sight) (id : Int) (hl : l.length ≤ 1000000) : convoy_look l id = some ((sightM l id).getD S0, (sightM l id).isSome) := by
  unfold convoy_look slices_IndexFunc_Sight_Sight_convoy_look_1b
  rw [index_eq l (sightP id) (by omega) (fun i a h => by
    have := get_lt h
    unfold slices_IndexFunc_Sight_Sight_convoy_look_1b_l1 convoy_look_1_b
    rw [show decide ((i : Int) < (l.length : Int)) = true from decide_eq_true (by omega), geti_some h]
    simp only [cond_true, Option.bind_some]
    unfold sightP
    simp only [ge_iff_le]
    cases (a.By == id && decide (a.Lo ≤ a.Hi) && decide (a.VLo ≤ a.VHi) && decide (-20000 ≤ a.Lo) && decide (a.Hi ≤ 2199023255552) && decide (0 ≤ a.VLo) && decide (a.VHi ≤ 2000)) <;> rfl) (by
    unfold slices_IndexFunc_Sight_Sight_convoy_look_1b_l1
    simp)]
  rw [Option.bind_some]
  unfold sightM
  rw [find_idx]
  unfold idxI
  cases h : l.findIdx? (sightP id) with
  | none => rfl
  | some i =>
    obtain ⟨q, _⟩ := List.findIdx?_eq_some_iff_getElem.1 h
    rw [show decide (((match some i with | some i => (i : Int) | none => -1) : Int) < 0) = false from decide_eq_false (by dsimp only; omega)]
    dsimp only
    rw [cond_false, geti_nat q, Option.bind_some, Option.bind_some, List.getElem?_eq_getElem q]
    rfl
theorem bne_if {α : Type} (a b : Int) (x y : α) : cond (a != b) x y = if a ≠ b then x else y := by
  by_cases h : a = b
  · rw [if_neg (by simpa using h), h]; simp
  · rw [if_pos h, show (a != b) = true by simpa using h]; rfl
theorem hail_eq (t gap : Int) (x : Option Sight) (m : Mate) (n : Note) : convoy_mind_hail_oa (mind t gap x m) (letterM t n) = some (mind t gap x (hailM m n x t)) := by
  have e1 : (cond ((m.Until != 0) && (n.From == m.Ward)) ((convoy_Better m.WardGuess (agedM n t)).bind fun v1 => some (ConvoyMind.mk (Mate.mk m.ID m.S m.V m.Len m.Ahead m.Guess_ m.Trust m.Ward v1 m.Until) t gap (x.getD S0) x.isSome)) (some (mind t gap x m))) = some (mind t gap x (if m.Until ≠ 0 ∧ n.From = m.Ward then { m with WardGuess := betterM m.WardGuess (agedM n t) } else m)) := by
    rw [convoy_Better_eq]
    by_cases h : m.Until ≠ 0 ∧ n.From = m.Ward
    · rw [if_pos h, show ((m.Until != 0) && (n.From == m.Ward)) = true by simpa using h]; rfl
    · rw [if_neg h, show ((m.Until != 0) && (n.From == m.Ward)) = false by rw [Bool.eq_false_iff]; simpa using h]; rfl
  unfold convoy_mind_hail_oa hailM
  refine (congrArg (fun z => Option.bind z _) e1).trans ?_
  rw [Option.bind_some]
  generalize (if m.Until ≠ 0 ∧ n.From = m.Ward then { m with WardGuess := betterM m.WardGuess (agedM n t) } else m) = k
  dsimp only [mind, letterM]
  simp only [convoy_within_eq, convoy_Better_eq, cond_some, Option.bind_some]
  by_cases h : k.Ahead ≠ 0 ∧ n.From = k.Ahead
  · rw [if_pos h, show ((k.Ahead == 0) || (n.From != k.Ahead)) = false by simp [h.1, h.2]]
    cases x with
    | none => cases hT : k.Trust <;> simp
    | some x =>
      dsimp only [Option.getD_some, Option.isSome_some]
      by_cases hs : n.Stamp = t
      · rw [hs, show (t == t) = true by simp]
        cases within n.R x.Lo x.Hi <;> cases within n.V x.VLo x.VHi <;> simp
      · rw [show (n.Stamp == t) = false by simpa using hs, if_neg (fun z => hs z.1)]
        rfl
  · rw [if_neg h, show ((k.Ahead == 0) || (n.From != k.Ahead)) = true by
      by_cases a : k.Ahead = 0
      · simp [a]
      · simp only [not_and] at h
        simp [a, h a]]
    rfl
theorem cond_ite {α : Type} {b : Bool} {P : Prop} [Decidable P] {x y : α} (h : b = true ↔ P) : cond b x y = if P then x else y := by
  by_cases p : P
  · rw [if_pos p, h.2 p]; rfl
  · rw [if_neg p, Bool.eq_false_iff.2 (fun q => p (h.1 q))]; rfl
theorem asking_eq (t gap : Int) (x : Option Sight) (m : Mate) (n : Note) : convoy_mind_ask_oa (mind t gap x m) (letterM t n) = some (mind t gap x (askM m n t)) := by
  unfold convoy_mind_ask_oa askM
  dsimp only [mind, letterM]
  simp only [convoy_Better_eq, Option.bind_some]
  refine (cond_ite (P := n.To ≠ m.ID) (by simp)).trans ?_
  split
  · rfl
  · refine (cond_ite (P := m.Ward = 0 ∨ (n.From = m.Ward ∧ m.Until ≠ 0 ∧ m.Until < n.Stamp)) (by simp [and_assoc])).trans ?_
    split
    · rfl
    · refine (cond_ite (P := n.From = m.Ward) (by simp)).trans ?_
      split <;> rfl
theorem merged_eq (t gap : Int) (x : Option Sight) (m : Mate) (n : Note) : convoy_mind_done_oa (mind t gap x m) (letterM t n) = some (mind t gap x (doneM m n x t)) := by
  unfold convoy_mind_done_oa doneM convoy_mind_forget_o
  dsimp only [mind, letterM]
  simp only [convoy_Better_eq, Option.bind_some]
  by_cases h : n.To ≠ m.ID ∨ m.Until = 0 ∨ n.From ≠ m.Ward
  · rw [if_pos h, show ((n.To != m.ID) || (m.Until == 0) || (n.From != m.Ward)) = true by simpa [or_assoc] using h]; rfl
  · rw [if_neg h, show ((n.To != m.ID) || (m.Until == 0) || (n.From != m.Ward)) = false by rw [Bool.eq_false_iff]; simpa [or_assoc] using h]
    cases x <;> rfl
theorem hear_eq (t gap : Int) (x : Option Sight) (m : Mate) (n : Note) (hc : countsM n t = true) : ((convoy_hears n.Kind).bind fun v => choose_convoy_mind_hail_oa v (mind t gap x m) (letterM t n)) = some (mind t gap x (hearM m n x t)) := by
  have hk := (counts_stamp hc).1
  unfold hearM
  rcases (show n.Kind = 1 ∨ n.Kind = 2 ∨ n.Kind = 3 ∨ n.Kind = 4 by omega) with h | h | h | h <;> rw [h]
  · rw [if_pos rfl, ← hail_eq t gap x m n]; rfl
  · rw [if_neg (by decide), if_pos rfl, ← asking_eq t gap x m n]; rfl
  · rw [if_neg (by decide), if_neg (by decide), if_neg (by decide)]; rfl
  · rw [if_neg (by decide), if_neg (by decide), if_pos rfl, ← merged_eq t gap x m n]; rfl
theorem fold_filter {α β : Type} (P : α → Bool) (f : β → α → β) : ∀ (l : List α) (b : β), (l.filter P).foldl f b = l.foldl (fun b a => if P a then f b a else b) b
  | [], _ => rfl
  | a :: r, b => by
    rw [List.filter_cons, List.foldl_cons]
    cases h : P a
    · simp [fold_filter P f r]
    · simp [fold_filter P f r]
theorem thinks_loop (t gap : Int) (x : Option Sight) (id : Int) (ls : List Note) (hl : ls.length ≤ 1000000) (hc : ∀ n ∈ ls, countsM n t = true) :
    ∀ (r : List Note) (i : Nat) (m : Mate), ls.drop i = r → i ≤ ls.length → m.ID = id → loop (convoy_mind_thinks_o_l1 (ls.map (letterM t))) ((i : Int), mind t gap x m) = some (mind t gap x (r.foldl (fun k n => if n.From != id then hearM k n x t else k) m)) := by
  intro r
  induction r with
  | nil =>
    intro i m hi hil _
    have := drop_nil hi
    refine loop_out ?_
    unfold convoy_mind_thinks_o_l1
    dsimp only
    rw [List.length_map, show decide ((i : Int) < (ls.length : Int)) = false from decide_eq_false (by omega)]
    rfl
  | cons n r ih =>
    intro i m hi hil hid
    have hlt := drop_lt hi
    have hn : n ∈ ls := List.mem_of_mem_drop (by rw [hi]; exact List.mem_cons_self)
    have hd : (ls.map (letterM t)).drop i = letterM t n :: r.map (letterM t) := by rw [← List.map_drop, hi]; rfl
    have hs : convoy_mind_thinks_o_l1 (ls.map (letterM t)) ((i : Int), mind t gap x m) = some (.go (((i + 1 : Nat) : Int), mind t gap x (if n.From != id then hearM m n x t else m))) := by
      unfold convoy_mind_thinks_o_l1
      dsimp only
      rw [List.length_map, show decide ((i : Int) < (ls.length : Int)) = true from decide_eq_true (by omega), geti_drop hd, w64_id (n := (i : Int) + 1) (by omega)]
      simp only [cond_true, Option.bind_some]
      rw [show (letterM t n).Note_ = n from rfl, show (mind t gap x m).Mate_ = m from rfl, hid]
      have := hear_eq t gap x m n (hc n hn)
      cases hf : (n.From != id)
      · rfl
      · rw [cond_true, if_pos rfl]
        cases hh : convoy_hears n.Kind with
        | none => rw [hh] at this; cases this
        | some v =>
          rw [hh, Option.bind_some] at this
          rw [Option.bind_some, this]; rfl
    rw [loop_go hs, ih (i + 1) _ (drop_succ hi) (by omega) (by
      split
      · rw [(hear_same _ _ _ _).id]; exact hid
      · exact hid)]
    rfl
theorem asks_eq (t gap : Int) (x : Option Sight) (m : Mate) (ls : List Note) (hl : ls.length ≤ 1000000) : slices_ContainsFunc_letter_letter_convoy_mind_thinks_1bb (ls.map (letterM t)) (mind t gap x m) = some (ls.any fun n => n.Kind == 2 && n.To == m.ID && n.From == m.Ward && n.From != m.ID) := by
  unfold slices_ContainsFunc_letter_letter_convoy_mind_thinks_1bb slices_IndexFunc_letter_letter_convoy_mind_thinks_1bb
  rw [index_eq (ls.map (letterM t)) (fun l => l.Note_.Kind == 2 && l.Note_.To == m.ID && l.Note_.From == m.Ward && l.Note_.From != m.ID) (by rw [List.length_map]; omega) (fun i a h => by
    have := get_lt h
    unfold slices_IndexFunc_letter_letter_convoy_mind_thinks_1bb_l1 convoy_mind_thinks_1_bb
    rw [show decide ((i : Int) < ((ls.map (letterM t)).length : Int)) = true from decide_eq_true (by omega), geti_some h]
    simp only [cond_true, Option.bind_some, mind]
    cases (a.Note_.Kind == 2 && a.Note_.To == m.ID && a.Note_.From == m.Ward && a.Note_.From != m.ID) <;> rfl) (by
    unfold slices_IndexFunc_letter_letter_convoy_mind_thinks_1bb_l1
    simp)]
  rw [Option.bind_some, idxI_any, List.any_map]; rfl
theorem thinks_eq (c : Convoy) (notes : List Note) (sights : List Sight) (m : Mate) (hl : notes.length ≤ 1000000) (h0 : 0 ≤ c.Tick) (h1 : c.Tick ≤ 1099511627776) :
    convoy_mind_thinks_o (mind c.Tick c.Gap (sightM sights m.ID) m) (lettersM notes c.Tick) = some (mind c.Tick c.Gap (sightM sights m.ID) (believeM c notes sights m)) := by
  have hfl : (notes.filter (countsM · c.Tick)).length ≤ 1000000 := Nat.le_trans (List.length_filter_le _ _) hl
  have hloop := thinks_loop c.Tick c.Gap (sightM sights m.ID) m.ID (notes.filter (countsM · c.Tick)) hfl (fun n hn => (List.mem_filter.1 hn).2) _ 0 m rfl (by omega) rfl
  rw [show ((0 : Nat) : Int) = 0 from rfl, List.drop_zero, fold_filter] at hloop
  have hh : notes.foldl (fun b a => if countsM a c.Tick = true then (if (a.From != m.ID) = true then hearM b a (sightM sights m.ID) c.Tick else b) else b) m = heardM notes (sightM sights m.ID) c.Tick m := by
    unfold heardM
    congr 1
    funext b a
    cases countsM a c.Tick <;> cases (a.From != m.ID) <;> rfl
  rw [hh] at hloop
  unfold believeM
  dsimp only
  unfold convoy_mind_thinks_o
  rw [show lettersM notes c.Tick = (notes.filter (countsM · c.Tick)).map (letterM c.Tick) from rfl, hloop, Option.bind_some]
  generalize sightM sights m.ID = x
  generalize heardM notes x c.Tick m = k
  have ha : (notes.filter (countsM · c.Tick)).any (fun n => n.Kind == 2 && n.To == k.ID && n.From == k.Ward && n.From != k.ID) = notes.any (asksM k c.Tick) := by
    rw [List.any_filter]
    congr 1
    funext n
    unfold asksM
    simp only [Bool.and_assoc]
  rw [asks_eq _ _ _ _ _ hfl, ha]
  generalize notes.any (asksM k c.Tick) = q
  -- forget
  have e1 : ((cond (((mind c.Tick c.Gap x k).Mate_.Ward != 0) && ((mind c.Tick c.Gap x k).Mate_.Until == 0)) (some q) (some default)).bind fun v4 => (cond ((((mind c.Tick c.Gap x k).Mate_.Ward != 0) && ((mind c.Tick c.Gap x k).Mate_.Until == 0)) && (!v4)) ((convoy_mind_forget_o (mind c.Tick c.Gap x k)).bind fun v5 => some v5) (some (mind c.Tick c.Gap x k)))) = some (mind c.Tick c.Gap x (forgetM k q)) := by
    unfold forgetM convoy_mind_forget_o
    dsimp only [mind]
    by_cases h : k.Ward ≠ 0 ∧ k.Until = 0
    · rw [show ((k.Ward != 0) && (k.Until == 0)) = true by simpa using h]
      cases q
      · rw [if_pos ⟨h.1, h.2, rfl⟩]; rfl
      · rw [if_neg (fun z => by cases z.2.2)]; rfl
    · rw [show ((k.Ward != 0) && (k.Until == 0)) = false by rw [Bool.eq_false_iff]; simpa using h, if_neg (fun z => h ⟨z.1, z.2.1⟩)]; rfl
  have assoc1 : ∀ {α β γ : Type} (a : Option α) (f : α → Option β) (g : β → Option γ), (a.bind fun v => (f v).bind g) = (a.bind f).bind g := fun a f g => by cases a <;> rfl
  refine (assoc1 _ _ _).trans ?_
  rw [e1, Option.bind_some]
  generalize forgetM k q = k1
  have e2 : (cond ((mind c.Tick c.Gap x k1).sees && ((mind c.Tick c.Gap x k1).Mate_.Ahead != 0)) ((convoy_Better (mind c.Tick c.Gap x k1).Mate_.Guess_ (Guess.mk (mind c.Tick c.Gap x k1).sight.Lo (mind c.Tick c.Gap x k1).sight.VLo)).bind fun v6 => some (ConvoyMind.mk (Mate.mk k1.ID k1.S k1.V k1.Len k1.Ahead v6 k1.Trust k1.Ward k1.WardGuess k1.Until) c.Tick c.Gap (x.getD S0) x.isSome)) (some (mind c.Tick c.Gap x k1))) = some (mind c.Tick c.Gap x (seeM k1 x)) := by
    unfold seeM
    cases x with
    | none => rfl
    | some x =>
      dsimp only [mind, Option.isSome_some, Option.getD_some]
      rw [convoy_Better_eq, Option.bind_some, Bool.true_and]
      refine (cond_ite (P := k1.Ahead ≠ 0) (by simp)).trans ?_
      split <;> rfl
  refine (congrArg (fun z => Option.bind z _) e2).trans ?_
  rw [Option.bind_some]
  generalize seeM k1 x = k2
  unfold grantM
  dsimp only [mind]
  rw [convoy_Safe_eq, cond_some, Option.bind_some, w64_id (n := c.Tick + 30) (by omega)]
  refine (cond_ite (P := k2.Ward ≠ 0 ∧ k2.Until = 0 ∧ safeM k2.S k2.V c.Gap k2.WardGuess = true) ?_).trans ?_
  · have e : ∀ a b d : Bool, (a && cond a b d) = (a && b) := by intro a b d; cases a <;> rfl
    rw [e]
    simp [and_assoc]
  · split <;> rfl

/-! ### The moves -/
theorem moved_eq {s v a : Int} (hs : 0 ≤ s ∧ s ≤ 2000000000000) (hv : 0 ≤ v ∧ v ≤ 2000) (ha : -90 ≤ a ∧ a ≤ 30) : convoy_moved s v a = some (s + speedM v a, speedM v a) := by
  unfold convoy_moved
  rw [mm2_max, mm2_min, w64_id (n := v + a) (by omega)]
  have := speed_bd v a
  rw [show max 0 (min (v + a) 2000) = speedM v a from rfl, w64_id (by omega)]
theorem great_loop {f : Int → Option (Stp Int Int)} (right : Int → Bool) (hf : ∀ a, -90 < a → a ≤ 30 → f a = some (if right a then .out a else .go (a - 1))) (h0 : f (-90) = some (.out (-90))) :
    ∀ (k : Nat) (a : Int), a = -90 + k → a ≤ 30 → loop f a = some (downM right k a)
  | 0, a, h, _ => by
    obtain rfl : a = -90 := by omega
    exact loop_out h0
  | k + 1, a, h, h1 => by
    have hs := hf a (by omega) h1
    unfold downM
    cases hr : right a
    · rw [hr] at hs
      rw [loop_go hs, if_neg (by simp)]
      exact great_loop right hf h0 k (a - 1) (by omega) (by omega)
    · rw [hr] at hs
      rw [loop_out hs, if_pos rfl]
theorem drives_eq (t gap : Int) (x : Option Sight) (m : Mate) (want : Int) (hs : 0 ≤ m.S ∧ m.S ≤ 2000000000000) (hv : 0 ≤ m.V ∧ m.V ≤ 2000) : convoy_mind_drives_b (mind t gap x m) want = some (driveM gap m want) := by
  unfold convoy_mind_drives_b driveM
  dsimp only [mind]
  have e1 : (cond ((m.Ward != 0) && (m.Until == 0)) (some (mm2 false want (-20))) (some want)) = some (wantM m want) := by
    unfold wantM
    rw [mm2_min]
    refine (cond_ite (P := m.Ward ≠ 0 ∧ m.Until = 0) (by simp)).trans ?_
    split <;> rfl
  rw [e1, Option.bind_some, (Age_eq _ _).1, (Age_eq _ _).1, Option.bind_some, Option.bind_some]
  have e2 : convoy_greatest_convoy_mind_drives_1bbbb m.S m.V (wantM m want) ⟨m, t, gap, x.getD S0, x.isSome⟩ (ageM m.Guess_ 1) (ageM m.WardGuess 1) = some (greatM (mayM gap m) (wantM m want)) := by
    unfold convoy_greatest_convoy_mind_drives_1bbbb greatM
    rw [mm2_max, mm2_min, great_loop (mayM gap m) (fun a h1 h2 => by
      unfold convoy_greatest_convoy_mind_drives_1bbbb_l1 convoy_mind_drives_1_bb_b_b
      rw [show decide (a > -90) = true from decide_eq_true h1, moved_eq hs hv (by omega), w64_id (n := a - 1) (by omega)]
      simp only [cond_true, Option.bind_some, keeps_eq]
      rw [show keepM gap m (m.S + speedM m.V a) (speedM m.V a) (ageM m.Guess_ 1) (ageM m.WardGuess 1) = mayM gap m a from rfl]
      cases mayM gap m a <;> rfl) (by
      unfold convoy_greatest_convoy_mind_drives_1bbbb_l1
      rfl) (max (-90) (min (wantM m want) 30) + 90).toNat _ (by omega) (by omega)]
    rfl
  rw [e2, Option.bind_some]
  have hg := (great_ok (mayM gap m) (wantM m want)).1
  rw [moved_eq hs hv (by omega), Option.bind_some]
  dsimp only
  simp only [bne_if]
  by_cases h1 : m.Ahead ≠ 0 <;> by_cases h2 : m.Ward ≠ 0
  · simp only [if_pos h1, if_pos h2]; rfl
  · simp only [if_pos h1, if_neg h2]; rfl
  · simp only [if_neg h1, if_pos h2]; rfl
  · simp only [if_neg h1, if_neg h2]; rfl
end Go.Abs.Convoyz

namespace Go.Abs.Convoyz
open Go Go.Abs

theorem want_eq (wants : List Int) (i : Nat) : convoy_Step_2_b (i : Int) wants = some (wantsM wants i) := by
  unfold convoy_Step_2_b wantsM
  by_cases h : i < wants.length
  · rw [show decide ((i : Int) < (wants.length : Int)) = true from decide_eq_true (by omega), geti_nat h, List.getD, List.getElem?_eq_getElem h]; rfl
  · rw [show decide ((i : Int) < (wants.length : Int)) = false from decide_eq_false (by omega), List.getD, List.getElem?_eq_none (by omega)]; rfl
theorem id_eq (c : Convoy) (a : Int) (h : a < (c.Mates.length : Int)) : cond (decide (a ≥ 0)) ((geti c.Mates a).bind fun v => some v.ID) (some 0) = some (idAt c a) := by
  unfold idAt
  by_cases h0 : 0 ≤ a
  · obtain ⟨k, rfl⟩ : ∃ k : Nat, a = (k : Int) := ⟨a.toNat, (Int.toNat_of_nonneg h0).symm⟩
    have hk : k < c.Mates.length := by omega
    rw [show decide ((k : Int) ≥ 0) = true from decide_eq_true h0, geti_nat hk, if_pos h0, Int.toNat_natCast, List.getElem?_eq_getElem hk]; rfl
  · rw [show decide (a ≥ 0) = false from decide_eq_false (by omega), if_neg h0]; rfl
theorem nearer_eq (g : Guest) (id : Int) (x : Guess) : convoy_nearer_o g id x = some (nearM g id x) := by
  unfold convoy_nearer_o nearM
  rw [convoy_Better_eq, Option.bind_some, bne_if]
  split <;> rfl
theorem arrives_loop (c : Convoy) (y1 y2 : Int) (ls : List Note) (hl : ls.length ≤ 1000000) (hc : ∀ n ∈ ls, countsM n c.Tick = true) :
    ∀ (r : List Note) (i : Nat) (g : Guest), ls.drop i = r → i ≤ ls.length → loop (convoy_arrives_l1 c (ls.map (letterM c.Tick)) y1 y2) ((i : Int), g) = some (r.foldl (learnM y1 y2 c.Tick) g) := by
  intro r
  induction r with
  | nil =>
    intro i g hi hil
    have := drop_nil hi
    refine loop_out ?_
    unfold convoy_arrives_l1
    dsimp only
    rw [List.length_map, show decide ((i : Int) < (ls.length : Int)) = false from decide_eq_false (by omega)]
    rfl
  | cons n r ih =>
    intro i g hi hil
    have hlt := drop_lt hi
    have hn : n ∈ ls := List.mem_of_mem_drop (by rw [hi]; exact List.mem_cons_self)
    have hd : (ls.map (letterM c.Tick)).drop i = letterM c.Tick n :: r.map (letterM c.Tick) := by rw [← List.map_drop, hi]; rfl
    have hs : convoy_arrives_l1 c (ls.map (letterM c.Tick)) y1 y2 ((i : Int), g) = some (.go (((i + 1 : Nat) : Int), learnM y1 y2 c.Tick g n)) := by
      have hf := (counts_stamp (hc n hn)).2.1
      unfold convoy_arrives_l1
      dsimp only
      rw [List.length_map, show decide ((i : Int) < (ls.length : Int)) = true from decide_eq_true (by omega), geti_drop hd, w64_id (n := (i : Int) + 1) (by omega)]
      simp only [cond_true, Option.bind_some, nearer_eq]
      rw [show (letterM c.Tick n).Note_ = n from rfl, show (letterM c.Tick n).guess = agedM n c.Tick from rfl]
      unfold learnM
      rw [if_pos (hc n hn)]
      refine (cond_ite (P := n.Kind = 1 ∧ y1 ≠ 0 ∧ n.From = y1) ?_).trans ?_
      · simp only [Bool.and_eq_true, beq_iff_eq]
        constructor
        · rintro ⟨a, b⟩; exact ⟨a, by omega, b⟩
        · rintro ⟨a, _, b⟩; exact ⟨a, b⟩
      split
      · rfl
      · refine (cond_ite (P := n.Kind = 3 ∧ n.To = g.ID ∧ y2 ≠ 0 ∧ n.From = y2 ∧ c.Tick ≤ n.Until) ?_).trans ?_
        · simp only [Bool.and_eq_true, beq_iff_eq, decide_eq_true_eq, ge_iff_le]
          constructor
          · rintro ⟨⟨⟨a, b⟩, d⟩, e⟩; exact ⟨a, b, by omega, d, e⟩
          · rintro ⟨a, b, _, d, e⟩; exact ⟨⟨⟨a, b⟩, d⟩, e⟩
        split <;> rfl
    rw [loop_go hs, ih (i + 1) _ (drop_succ hi) (by omega)]
    rfl
theorem fold_learn (y1 y2 t : Int) : ∀ (l : List Note) (g : Guest), (l.filter (countsM · t)).foldl (learnM y1 y2 t) g = l.foldl (learnM y1 y2 t) g
  | [], _ => rfl
  | n :: r, g => by
    rw [List.filter_cons, List.foldl_cons]
    cases h : countsM n t
    · rw [if_neg (by simp), fold_learn y1 y2 t r, show learnM y1 y2 t g n = g by unfold learnM; rw [h]; rfl]
    · rw [if_pos rfl, List.foldl_cons, fold_learn y1 y2 t r]
theorem arrives_eq (c : Convoy) (notes : List Note) (sights : List Sight) (hl : notes.length ≤ 1000000) (hs : sights.length ≤ 1000000) (hm : c.Mates.length ≤ 1000000) :
    convoy_arrives c (lettersM notes c.Tick) sights = some (learnsM c notes sights, mergeM c (learnsM c notes sights)) := by
  have hfl : (notes.filter (countsM · c.Tick)).length ≤ 1000000 := Nat.le_trans (List.length_filter_le _ _) hl
  obtain ⟨b1, b2, b3⟩ := besM_lt c
  unfold convoy_arrives
  rw [convoy_beside_eq c hm, Option.bind_some, id_eq c _ b1, Option.bind_some, id_eq c _ (by rcases b3 with h | ⟨j, h1, h2⟩ <;> omega), Option.bind_some]
  unfold learnsM
  dsimp only
  have e0 : (cond (c.Guest_.Ahead != idAt c (besM c).1) (some (Guest.mk c.Guest_.ID c.Guest_.S c.Guest_.V c.Guest_.Len c.Guest_.End 0 (Guess.mk 0 0) c.Guest_.From c.Guest_.Until)) (some c.Guest_)) = some (if c.Guest_.Ahead ≠ idAt c (besM c).1 then { c.Guest_ with Ahead := 0, Guess_ := ⟨0, 0⟩ } else c.Guest_) := by
    rw [bne_if]; split <;> rfl
  rw [e0, Option.bind_some]
  generalize (if c.Guest_.Ahead ≠ idAt c (besM c).1 then { c.Guest_ with Ahead := 0, Guess_ := ⟨0, 0⟩ } else c.Guest_) = g
  have hloop := arrives_loop c (idAt c (besM c).1) (idAt c (besM c).2) (notes.filter (countsM · c.Tick)) hfl (fun n hn => (List.mem_filter.1 hn).2) _ 0 g rfl (by omega)
  rw [show ((0 : Nat) : Int) = 0 from rfl, List.drop_zero, fold_learn] at hloop
  rw [show lettersM notes c.Tick = (notes.filter (countsM · c.Tick)).map (letterM c.Tick) from rfl, hloop, Option.bind_some]
  generalize notes.foldl (learnM (idAt c (besM c).1) (idAt c (besM c).2) c.Tick) g = k
  rw [sight_eq sights k.ID hs, Option.bind_some]
  dsimp only
  have fin : ∀ q : Guest, ((cond ((!(idAt c (besM c).1 == 0)) && (q.Ahead == idAt c (besM c).1)) (convoy_Safe q.S q.V c.Gap q.Guess_) (some default)).bind fun v8 => some (q, (((idAt c (besM c).1 == 0) || ((q.Ahead == idAt c (besM c).1) && v8)) && ((idAt c (besM c).2 == 0) || ((q.From == idAt c (besM c).2) && (decide (c.Tick ≤ q.Until))))))) = some (q, mergeM c q) := by
    intro q
    rw [convoy_Safe_eq, cond_some, Option.bind_some]
    unfold mergeM
    dsimp only
    have e2 : ∀ a b d e : Bool, (a || (b && cond (!a && b) d e)) = (a || (b && d)) := by intro a b d e; cases a <;> cases b <;> rfl
    rw [e2]
  cases sightM sights k.ID with
  | none => exact fin k
  | some x =>
    rw [nearer_eq, Option.bind_some, show (some x).isSome = true from rfl, Bool.true_and, bne_if]
    dsimp only [Option.getD_some]
    split
    · exact fin _
    · exact fin _
theorem rolls_eq {g : Guest} (want : Int) (hs : 0 ≤ g.S ∧ g.S ≤ 2000000000000) (hv : 0 ≤ g.V ∧ g.V ≤ 2000) : convoy_rolls g want = some (rollM g want) := by
  unfold convoy_rolls rollM
  dsimp only
  have e2 : convoy_greatest_convoy_rolls_1b g.S g.V want g = some (greatM (fun a => decide (g.S + speedM g.V a + stopM (speedM g.V a) < g.End)) want) := by
    unfold convoy_greatest_convoy_rolls_1b greatM
    rw [mm2_max, mm2_min, great_loop (fun a => decide (g.S + speedM g.V a + stopM (speedM g.V a) < g.End)) (fun a h1 h2 => by
      unfold convoy_greatest_convoy_rolls_1b_l1 convoy_rolls_1_b
      rw [show decide (a > -90) = true from decide_eq_true h1, moved_eq hs hv (by omega), w64_id (n := a - 1) (by omega)]
      have b1 := speed_bd g.V a
      have b2 := stop2000 b1.2
      simp only [cond_true, Option.bind_some, convoy_stop_eq]
      rw [w64_id (n := g.S + speedM g.V a + stopM (speedM g.V a)) (by omega)]
      cases decide (g.S + speedM g.V a + stopM (speedM g.V a) < g.End) <;> rfl) (by
      unfold convoy_greatest_convoy_rolls_1b_l1
      rfl) (max (-90) (min want 30) + 90).toNat _ (by omega) (by omega)]
    rfl
  have hg := (great_ok (fun a => decide (g.S + speedM g.V a + stopM (speedM g.V a) < g.End)) want).1
  rw [e2, Option.bind_some, moved_eq hs hv (by omega), Option.bind_some, (Age_eq _ _).1, Option.bind_some, bne_if]
  dsimp only
  split <;> rfl

/-! ### The whole step -/
theorem chk_tick {c : Convoy} (h : chkM c = 0) : (0 ≤ c.Tick ∧ c.Tick ≤ 1099511627776) ∧ 1 ≤ c.Gap ∧ c.Gap ≤ 20000 := by
  obtain ⟨⟨a, b⟩, _⟩ := num_parts (chk_num h)
  rw [within_iff] at a b
  exact ⟨a, b⟩
theorem noGuest_G0 {g : Guest} (h : noGuest g = true) : g = G0 := by
  unfold noGuest at h
  simp only [Bool.and_eq_true, beq_iff_eq, and_true] at h
  obtain ⟨a, b, d, e, f, k, l, m, n, o⟩ := h
  cases g with
  | mk a1 a2 a3 a4 a5 a6 a7 a8 a9 =>
    cases a7 with
    | mk r v =>
      dsimp only at *
      subst_vars
      rfl
theorem chk_guest {c : Convoy} (h : chkM c = 0) : c.Guest_ = G0 ∨ guestM c.Guest_ = true := by
  obtain ⟨_, _, _, _, e⟩ := num_parts (chk_num h)
  rw [Bool.or_eq_true] at e
  rcases e with e | e
  · exact .inl (noGuest_G0 e)
  · exact .inr e
theorem guest_body {g : Guest} (h : guestM g = true) : (1 ≤ g.ID ∧ g.ID ≤ 99) ∧ (0 ≤ g.S ∧ g.S ≤ 1099511627776) ∧ (0 ≤ g.V ∧ g.V ≤ 2000) ∧ (300 ≤ g.Len ∧ g.Len ≤ 20000) := by
  unfold guestM bodyM at h
  simp only [Bool.and_eq_true, within_iff] at h
  omega
theorem step_loop (c : Convoy) (wants : List Int) (notes : List Note) (sights : List Sight) (h : chkM c = 0) (hl : notes.length ≤ 1000000) (hs : sights.length ≤ 1000000) :
    ∀ (r : List Mate) (i : Nat), c.Mates.drop i = r → i ≤ c.Mates.length → loop (convoy_Step_l1 c wants sights (lettersM notes c.Tick)) ((i : Int), ⟨c.Tick + 1, c.Gap, (matesM c wants notes sights).take i, G0⟩) = some ⟨c.Tick + 1, c.Gap, matesM c wants notes sights, G0⟩ := by
  have hlen := (num_len (chk_num h)).2
  have htk := (chk_tick h).1
  intro r
  induction r with
  | nil =>
    intro i hi hil
    have := drop_nil hi
    refine loop_out ?_
    unfold convoy_Step_l1
    dsimp only
    rw [show decide ((i : Int) < (c.Mates.length : Int)) = false from decide_eq_false (by omega), List.take_of_length_le (by rw [len_mates]; omega)]
    rfl
  | cons m r ih =>
    intro i hi hil
    have hlt := drop_lt hi
    have h0 : c.Mates[i]? = some m := by have := congrArg (fun z => z[0]?) hi; simpa using this
    have mb := chk_mate h h0
    obtain ⟨q1, q2, q3⟩ : (1 ≤ m.ID ∧ m.ID ≤ 99) ∧ (0 ≤ m.S ∧ m.S ≤ 1099511627776) ∧ (0 ≤ m.V ∧ m.V ≤ 2000) := by
      have := mateB_iff.2 mb
      unfold mateM bodyM at this
      simp only [Bool.and_eq_true, within_iff] at this
      omega
    have hsame : Same4 m (believeM c notes sights m) := by
      unfold believeM heardM
      dsimp only
      have key : ∀ (l : List Note) (k : Mate), Same4 m k → Same4 m (l.foldl (fun k n => if countsM n c.Tick && n.From != m.ID then hearM k n (sightM sights m.ID) c.Tick else k) k) := by
        intro l
        induction l with
        | nil => exact fun k hk => hk
        | cons n r ih2 =>
          intro k hk
          rw [List.foldl_cons]
          refine ih2 _ ?_
          split
          · exact hk.trans (hear_same _ _ _ _)
          · exact hk
      exact ((key notes m (Same4.refl m)).trans (forget_same _ _)).trans (see_same _ _) |>.trans (grant_same _ _ _)
    have hstep : convoy_Step_l1 c wants sights (lettersM notes c.Tick) ((i : Int), ⟨c.Tick + 1, c.Gap, (matesM c wants notes sights).take i, G0⟩) = some (.go (((i + 1 : Nat) : Int), ⟨c.Tick + 1, c.Gap, (matesM c wants notes sights).take (i + 1), G0⟩)) := by
      unfold convoy_Step_l1
      dsimp only
      rw [show decide ((i : Int) < (c.Mates.length : Int)) = true from decide_eq_true (by omega), geti_drop hi, w64_id (n := (i : Int) + 1) (by omega)]
      simp only [cond_true, Option.bind_some]
      rw [sight_eq sights m.ID hs, Option.bind_some]
      have ht := thinks_eq c notes sights m hl htk.1 htk.2
      unfold mind at ht
      dsimp only
      rw [ht, Option.bind_some, want_eq, Option.bind_some]
      have hd := drives_eq c.Tick c.Gap (sightM sights m.ID) (believeM c notes sights m) (wantsM wants i) (by rw [hsame.s]; omega) (by rw [hsame.v]; exact q3)
      unfold mind at hd
      rw [hd, Option.bind_some, appc_eq (by rw [List.length_take, len_mates]; simp only [List.length_cons, List.length_nil]; omega), Option.bind_some, List.take_add_one, drove_mates notes sights wants h0]
      rfl
    rw [loop_go hstep]
    exact ih (i + 1) (drop_succ hi) (by omega)
theorem far_any (l : List Mate) (hl : l.length ≤ 1000000) : slices_ContainsFunc_Mate_Mate_convoy_Step_1 l = some (l.any fun m => decide (1099511625776 < m.S)) := by
  unfold slices_ContainsFunc_Mate_Mate_convoy_Step_1 slices_IndexFunc_Mate_Mate_convoy_Step_1
  rw [index_eq l (fun m => decide (1099511625776 < m.S)) (by omega) (fun i a h => by
    have := get_lt h
    unfold slices_IndexFunc_Mate_Mate_convoy_Step_1_l1 convoy_Step_1
    rw [show decide ((i : Int) < (l.length : Int)) = true from decide_eq_true (by omega), geti_some h]
    simp only [cond_true, Option.bind_some, gt_iff_lt]
    cases decide (1099511625776 < a.S) <;> rfl) (by
    unfold slices_IndexFunc_Mate_Mate_convoy_Step_1_l1
    simp)]
  rw [Option.bind_some, idxI_any]
theorem learns_body (c : Convoy) (notes : List Note) (sights : List Sight) : (learnsM c notes sights).ID = c.Guest_.ID ∧ (learnsM c notes sights).S = c.Guest_.S ∧ (learnsM c notes sights).V = c.Guest_.V ∧ (learnsM c notes sights).Len = c.Guest_.Len ∧ (learnsM c notes sights).End = c.Guest_.End := by
  have key : ∀ (a b t : Int) (l : List Note) (g k : Guest), (k.ID = g.ID ∧ k.S = g.S ∧ k.V = g.V ∧ k.Len = g.Len ∧ k.End = g.End) → ((l.foldl (learnM a b t) k).ID = g.ID ∧ (l.foldl (learnM a b t) k).S = g.S ∧ (l.foldl (learnM a b t) k).V = g.V ∧ (l.foldl (learnM a b t) k).Len = g.Len ∧ (l.foldl (learnM a b t) k).End = g.End) := by
    intro a b t l
    induction l with
    | nil => exact fun _ _ h => h
    | cons n r ih =>
      intro g k h
      rw [List.foldl_cons]
      refine ih g _ ?_
      unfold learnM nearM
      split
      · split
        · exact h
        · split <;> exact h
      · exact h
  unfold learnsM
  dsimp only
  have h1 := key (idAt c (besM c).1) (idAt c (besM c).2) c.Tick notes c.Guest_ (if c.Guest_.Ahead ≠ idAt c (besM c).1 then { c.Guest_ with Ahead := 0, Guess_ := ⟨0, 0⟩ } else c.Guest_) (by split <;> exact ⟨rfl, rfl, rfl, rfl, rfl⟩)
  generalize notes.foldl (learnM (idAt c (besM c).1) (idAt c (besM c).2) c.Tick) _ = k at h1
  cases sightM sights k.ID with
  | none => exact h1
  | some x =>
    dsimp only
    split
    · exact h1
    · exact h1
theorem convoy_Step_eq (c : Convoy) (wants : List Int) (notes : List Note) (sights : List Sight) (hl : notes.length ≤ 1000000) (hs : sights.length ≤ 1000000) (hm : c.Mates.length ≤ 1000000) : convoy_Step c wants notes sights = some (stepM c wants notes sights) := by
  unfold convoy_Step stepM
  rw [convoy_Check_eq c hm, Option.bind_some]
  by_cases h : chkM c = 0
  · rw [if_neg (by simpa using h), show (chkM c != 0) = false by simpa using h, cond_false, far_any _ hm, mm2_max]
    have e1 : ∀ X Y : Option (Convoy × Int), ((cond (!(((decide (max (notes.length : Int) (sights.length : Int) > 60)) || (decide (c.Tick ≥ 1099511627776))) || (decide (c.Guest_.S > 1099511625776)))) (some (c.Mates.any fun m => decide (1099511625776 < m.S))) (some default)).bind fun v2 => cond ((((decide (max (notes.length : Int) (sights.length : Int) > 60)) || (decide (c.Tick ≥ 1099511627776))) || (decide (c.Guest_.S > 1099511625776))) || v2) X Y) = if 60 < notes.length ∨ 60 < sights.length ∨ c.Tick = 1099511627776 ∨ farM c = true then X else Y := by
      intro X Y
      rw [cond_some, Option.bind_some]
      refine cond_ite ?_
      have e : ∀ a b d : Bool, (a || cond (!a) b d) = (a || b) := by intro a b d; cases a <;> rfl
      rw [e]
      have htk := (chk_tick h).1
      unfold farM
      simp only [Bool.or_eq_true, decide_eq_true_eq, gt_iff_lt, ge_iff_le]
      constructor
      · rintro (((a | a) | a) | a)
        · by_cases q : 60 < notes.length
          · exact .inl q
          · exact .inr (.inl (by omega))
        · exact .inr (.inr (.inl (by omega)))
        · exact .inr (.inr (.inr (.inl a)))
        · exact .inr (.inr (.inr (.inr a)))
      · rintro (a | a | a | a | a)
        · exact .inl (.inl (.inl (by omega)))
        · exact .inl (.inl (.inl (by omega)))
        · exact .inl (.inl (.inr (by omega)))
        · exact .inl (.inr a)
        · exact .inr a
    refine (e1 _ _).trans ?_
    have htk := (chk_tick h).1
    by_cases hf : 60 < notes.length ∨ 60 < sights.length ∨ c.Tick = 1099511627776 ∨ farM c = true
    · rw [if_pos hf, if_pos hf]; rfl
    · rw [if_neg hf, if_neg hf, post_eq notes htk.1 htk.2 hl, Option.bind_some, w64_id (n := c.Tick + 1) (by omega)]
      have hloop := step_loop c wants notes sights h hl hs _ 0 rfl (by omega)
      rw [show ((0 : Nat) : Int) = 0 from rfl, List.take_zero] at hloop
      refine (congrArg (fun z => Option.bind z _) hloop).trans ?_
      rw [Option.bind_some]
      by_cases hg : c.Guest_.ID = 0
      · rw [if_pos hg, show (c.Guest_.ID == 0) = true by simpa using hg]; rfl
      · rw [if_neg hg, show (c.Guest_.ID == 0) = false by simpa using hg, cond_false, want_eq, Option.bind_some, arrives_eq c notes sights hl hs hm, Option.bind_some]
        dsimp only
        have gb := guest_body (g := c.Guest_) (by
          rcases chk_guest h with e | e
          · rw [e] at hg; exact absurd rfl hg
          · exact e)
        obtain ⟨l1, l2, l3, l4, l5⟩ := learns_body c notes sights
        generalize learnsM c notes sights = g at l1 l2 l3 l4 l5
        cases hj : mergeM c g
        · rw [Bool.not_false, cond_true, rolls_eq _ (by rw [l2]; omega) (by rw [l3]; omega), Option.bind_some, if_neg (by simp)]
        · rw [Bool.not_true, cond_false, convoy_beside_eq c hm, Option.bind_some, if_pos rfl]
          have hd := drives_eq c.Tick c.Gap none (newMate g) (wantsM wants c.Mates.length) (by show 0 ≤ g.S ∧ _; rw [l2]; show _ ∧ g.S ≤ _; rw [l2]; omega) (by show 0 ≤ g.V ∧ g.V ≤ _; rw [l3]; omega)
          have hd' : convoy_mind_drives_b (ConvoyMind.mk (Mate.mk g.ID g.S g.V g.Len g.Ahead g.Guess_ true 0 (Guess.mk 0 0) 0) c.Tick c.Gap (Sight.mk 0 0 0 0 0) false) (wantsM wants c.Mates.length) = some (driveM c.Gap (newMate g) (wantsM wants c.Mates.length)) := hd
          rw [hd', Option.bind_some]
          obtain ⟨b1, b2, _⟩ := besM_lt c
          have hml := num_len (chk_num h)
          rw [w64_id (by omega)]
          unfold insertc
          rw [if_pos (by rw [len_mates]; simp only [List.length_cons, List.length_nil]; omega), Option.bind_some]
          simp
  · rw [if_pos (by simpa using h), show (chkM c != 0) = true by simpa using h]; rfl
end Go.Abs.Convoyz

namespace Go.Abs.Convoyz
open Go Go.Abs

theorem chk_gb {c : Convoy} (h : chkM c = 0) : guestBad c = false := by
  unfold chkM at h
  split at h
  · rename_i q; exact absurd h q
  · split at h
    · rename_i q; exact absurd h q
    · split at h
      · exact absurd h (by decide)
      · split at h
        · exact absurd h (by decide)
        · rename_i q
          simp only [Bool.or_eq_true, not_or, Bool.not_eq_true] at q
          exact q.2
/-- The kit's convoys are as they should be. -/
theorem base_mate {gap : Int} {l : List Mate} (hc : Chn gap l) (hg : 1 ≤ gap ∧ gap ≤ 3000) (h2 : l.length ≤ 5) {G : Int} {c : Convoy} (hcm : c.Mates = newL l) (hcg : c.Gap = gap) (hct : c.Tick = 0) {i : Nat} {m : Mate} (hm : c.Mates[i]? = some m) : MateI G 0 c i m := by
  rw [hcm] at hm
  have N := new_at hc hm
  have hlt := get_lt hm
  rw [newL_len] at hlt
  obtain ⟨kS, kV, kL⟩ := N.kit
  have gM : GB m.Guess_ := by
    unfold GB
    rcases Nat.eq_zero_or_pos i with z | z
    · rw [N.zero z]; dsimp only; omega
    · obtain ⟨k, _, _, e, _, _, q1, q2, q3⟩ := N.pred z
      rw [e]; dsimp only; omega
  have hw : GB m.WardGuess := by rw [N.wg]; unfold GB; dsimp only; omega
  refine ⟨by rw [N.id]; omega, by rw [hct]; omega, kV, by omega, gM, hw, fun h => ?_, fun h => absurd N.ward h, fun h => absurd N.untl h, by rw [N.untl, hct]; omega, fun h => ?_, fun h => absurd N.untl h, fun k h0 hk => ?_, fun z => by rw [N.ahead, z]; rfl⟩
  · have z : 0 < i := by rw [N.ahead] at h; omega
    obtain ⟨k, e1, e2, e3, _⟩ := N.pred z
    refine ⟨i - 1, k, by omega, by rw [hcm]; exact e1, by rw [e2, N.ahead], ?_⟩
    rw [e3]; exact Lower.refl _
  · have z : 0 < i := by rw [N.ahead] at h; omega
    obtain ⟨k, e1, e2, e3, _, s, _⟩ := N.pred z
    have := gM.num
    rw [hcg]
    exact (safeM_iff (sane5 (by omega))).1 s
  · rw [hcm] at hk
    have N2 := new_at hc hk
    left
    rw [N2.id, N.ahead]; omega
theorem base_inv {b : Bool} {c : Convoy} (K : KitC b c) : ∃ G, Inv G 0 c ∧ c.Tick = 0 ∧ (b = false → c.Guest_ = G0) ∧ (c.Guest_.ID ≠ 0 → c.Guest_.ID = G) ∧ (∀ (i : Nat) m, c.Mates[i]? = some m → m.Trust = true ∧ m.Ward = 0 ∧ m.Until = 0 ∧ m.ID ≠ G ∧ 16000000 ≤ m.S) := by
  obtain ⟨gap, l, hg, hc, hl, hcase⟩ := K.is
  have key : ∀ (G : Int), 70 ≤ G → ∀ c' : Convoy, c'.Mates = newL l → ∀ (i : Nat) m, c'.Mates[i]? = some m → m.Trust = true ∧ m.Ward = 0 ∧ m.Until = 0 ∧ m.ID ≠ G ∧ 16000000 ≤ m.S := fun G hG c' e i m hm => by
    rw [e] at hm
    have N := new_at hc hm
    have hlt := get_lt hm
    rw [newL_len] at hlt
    have := N.kit.1
    exact ⟨N.trust, N.ward, N.untl, by rw [N.id]; omega, this.1⟩
  have dist : ∀ c' : Convoy, c'.Mates = newL l → ∀ (i j : Nat) x y, c'.Mates[i]? = some x → c'.Mates[j]? = some y → x.ID = y.ID → i = j := fun c' e i j x y hx hy hxy => by
    rw [e] at hx hy
    rw [(new_at hc hx).id, (new_at hc hy).id] at hxy
    omega
  rcases hcase with e | ⟨hb, g, g1, g2, g3, g4, e⟩
  · refine ⟨99, ⟨by rw [e]; show (0 : Int) ≤ 0 ∧ (0 : Int) ≤ 1000; omega, by rw [e]; show 1 ≤ gap ∧ gap ≤ 20000; omega, by decide, ?_, ?_, fun i m hm => base_mate hc hg hl.2 (by rw [e]; rfl) (by rw [e]; rfl) (by rw [e]; rfl) hm, dist c (by rw [e]; rfl), .inl (by rw [e]; rfl)⟩, by rw [e]; rfl, fun _ => by rw [e]; rfl, fun h => absurd (by rw [e]; rfl) h, key 99 (by decide) c (by rw [e]; rfl)⟩
    · rw [e]; show 1 ≤ (newL l).length; rw [newL_len]; exact hl.1
    · rw [e, if_pos (by rfl)]; show (newL l).length + 0 ≤ 8; rw [newL_len]; omega
  · have ch := K.chk
    have hid : c.Guest_.ID = g.ID := by rw [e]; rfl
    have hgid : c.Guest_.ID ≠ 0 := by omega
    have gm : guestM c.Guest_ = true := by
      rcases chk_guest ch with q | q
      · rw [q] at hgid; exact absurd rfl hgid
      · exact q
    obtain ⟨b1, b2, b3, b4⟩ := guest_body gm
    have hend : c.Guest_.End ≤ 1099511627776 := by
      unfold guestM at gm
      simp only [Bool.and_eq_true, within_iff] at gm
      exact gm.2.2.2.2.1.2
    have hstop : c.Guest_.S + stopM c.Guest_.V < c.Guest_.End := by
      have := chk_gb ch
      have s2 := stop2000 b3.2
      unfold guestBad at this
      rw [w64_id (by omega)] at this
      simp only [Bool.and_eq_false_iff, bne_eq_false_iff_eq, decide_eq_false_iff_not] at this
      rcases this with q | q
      · exact absurd q hgid
      · omega
    have hS : c.Guest_.S = g.S := by rw [e]; rfl
    refine ⟨g.ID, ⟨by rw [e]; show (0 : Int) ≤ 0 ∧ (0 : Int) ≤ 1000; omega, by rw [e]; show 1 ≤ gap ∧ gap ≤ 20000; omega, by omega, ?_, ?_, fun i m hm => base_mate hc hg hl.2 (by rw [e]; rfl) (by rw [e]; rfl) (by rw [e]; rfl) hm, dist c (by rw [e]; rfl), .inr ?_⟩, by rw [e]; rfl, (fun h => by rw [hb] at h; cases h), fun _ => hid, key g.ID g1.1 c (by rw [e]; rfl)⟩
    · rw [e]; show 1 ≤ (newL l).length; rw [newL_len]; exact hl.1
    · rw [if_neg hgid, e]; show (newL l).length + 1 ≤ 8; rw [newL_len]; omega
    · refine ⟨hid, by omega, fun i m hm => ?_, ?_, b3, b4, hstop, hend, ?_, fun h => absurd (by rw [e]; rfl) h, by rw [e]; show (0 : Int) ≤ 0 ∧ (0 : Int) ≤ 99; omega, by rw [e]; show (0 : Int) ≤ 0 ∧ (0 : Int) ≤ 0 + 30; omega, fun h => absurd (by rw [e]; rfl) h, fun h => absurd (by rw [e]; rfl) h, by rw [e]; rfl⟩
      · rw [e] at hm
        have N := new_at hc (show (newL l)[i]? = some m from hm)
        have hlt := get_lt (show (newL l)[i]? = some m from hm)
        rw [newL_len] at hlt
        rw [N.id]; omega
      · rw [show c.Tick = 0 by rw [e]; rfl]; omega
      · rw [show c.Guest_.Guess_ = ⟨0, 0⟩ by rw [e]; rfl]; unfold GB; dsimp only; omega

/-! ### The kit's numbers, sights and post -/
theorem wanted_ok (n : Int) (h0 : 0 ≤ n) (hn : n ≤ 1000) : ∀ (r : KitRing), 0 ≤ r.at_ → r.at_ ≤ 900000000 → ∃ w r', law09_wanted_o r n = some (w, r') ∧ w.length = n.toNat ∧ 0 ≤ r'.at_ ∧ r'.at_ = r.at_ + n ∧ ∀ x ∈ w, -100 ≤ x ∧ x ≤ 49 := by
  intro r a0 a1
  have key : ∀ (k : Nat) (i : Nat) (w : List Int) (r : KitRing), (i : Int) + k = n → w.length = i → (∀ x ∈ w, -100 ≤ x ∧ x ≤ 49) → 0 ≤ r.at_ → r.at_ + k ≤ 900001000 → ∃ w' r', loop (law09_wanted_o_l1 n) (w, (i : Int), r) = some (w', r') ∧ w'.length = i + k ∧ r'.at_ = r.at_ + k ∧ ∀ x ∈ w', -100 ≤ x ∧ x ≤ 49 := by
    intro k
    induction k with
    | zero =>
      intro i w r hi hw hx _ _
      refine ⟨w, r, loop_out ?_, by omega, by omega, hx⟩
      unfold law09_wanted_o_l1
      dsimp only
      rw [show decide ((i : Int) < n) = false from decide_eq_false (by omega)]; rfl
    | succ k ih =>
      intro i w r hi hw hx b0 b1
      obtain ⟨x, e, x0, x1⟩ := next_ok r (k := 150) b0 (by omega) (by decide) (by decide)
      have hs : law09_wanted_o_l1 n (w, (i : Int), r) = some (.go (w ++ [x - 100], ((i + 1 : Nat) : Int), ⟨r.l, r.at_ + 1⟩)) := by
        unfold law09_wanted_o_l1
        dsimp only
        rw [show decide ((i : Int) < n) = true from decide_eq_true (by omega), cond_true, e, Option.bind_some, w64_id (n := x - 100) (by omega), appc_eq (by simp; omega), Option.bind_some, w64_id (n := (i : Int) + 1) (by omega)]
        rfl
      obtain ⟨w', r', q1, q2, q3, q4⟩ := ih (i + 1) (w ++ [x - 100]) ⟨r.l, r.at_ + 1⟩ (by omega) (by simp [hw]) (fun y hy => by
        rw [List.mem_append, List.mem_singleton] at hy
        rcases hy with hy | hy
        · exact hx y hy
        · omega) (by dsimp only; omega) (by dsimp only; omega)
      exact ⟨w', r', by rw [loop_go hs]; exact q1, by omega, by dsimp only at q3; omega, q4⟩
  obtain ⟨w', r', q1, q2, q3, q4⟩ := key n.toNat 0 [] r (by omega) rfl (by simp) a0 (by omega)
  rw [show ((0 : Nat) : Int) = 0 from rfl] at q1
  refine ⟨w', r', ?_, by omega, by omega, by omega, q4⟩
  unfold law09_wanted_o
  rw [q1]; rfl
end Go.Abs.Convoyz

namespace Go.Abs.Convoyz
open Go Go.Abs

theorem newRing_eq (l : List Int) : kit_NewRing_m l = some ⟨l, 0⟩ := rfl
/-- A convoy in which nobody is a ward. -/
structure Free (G : Int) (c : Convoy) : Prop where
  guest : c.Guest_ = G0
  noG : ∀ (i : Nat) m, c.Mates[i]? = some m → m.ID ≠ G
theorem Free.nobel {G T : Int} {c : Convoy} (I : Inv G T c) (F : Free G c) {g : Guess} : ¬ Bel c G g := by
  rintro ⟨r, v, hb, _⟩
  cases hb with
  | mate i m hm hid => exact F.noG i m hm hid
  | guest h h0 => rw [F.guest] at h; exact h0 h.symm
theorem Free.ward {G T : Int} {c : Convoy} (I : Inv G T c) (F : Free G c) {i : Nat} {m : Mate} (M : MateI G T c i m) : m.Ward = 0 ∧ m.Until = 0 := by
  have h1 : m.Ward = 0 := Classical.byContradiction fun h => F.nobel I (M.ward h).2
  exact ⟨h1, Classical.byContradiction fun h => M.untl h h1⟩
end Go.Abs.Convoyz

namespace Go.Abs.Convoyz
open Go Go.Abs

theorem send_ok (p : KitPost) (l : List Note) (t : Int) (hp : p.sent.length ≤ 1000000) (hl : l.length ≤ 1000000) (h0 : 0 ≤ t ∧ t ≤ 1000000) : ∃ q, kit_Post_Send_o p l t = some q ∧ (∀ n ∈ q.sent, n ∈ p.sent ∨ n ∈ l) ∧ q.sent.length ≤ p.sent.length + l.length := by
  have key : ∀ (r : List Note) (i : Nat) (w : List Note), p.sent.drop i = r → i ≤ p.sent.length → w.length ≤ i → (∀ n ∈ w, n ∈ p.sent) → ∃ w', loop (kit_Post_Send_o_l1 p t) (w, (i : Int)) = some w' ∧ w'.length ≤ p.sent.length ∧ ∀ n ∈ w', n ∈ p.sent := by
    intro r
    induction r with
    | nil =>
      intro i w hi hil hw hm
      have := drop_nil hi
      refine ⟨w, loop_out ?_, by omega, hm⟩
      unfold kit_Post_Send_o_l1
      dsimp only
      rw [show decide ((i : Int) < (p.sent.length : Int)) = false from decide_eq_false (by omega)]; rfl
    | cons n r ih =>
      intro i w hi hil hw hm
      have hlt := drop_lt hi
      have hn : n ∈ p.sent := List.mem_of_mem_drop (by rw [hi]; exact List.mem_cons_self)
      have hs : kit_Post_Send_o_l1 p t (w, (i : Int)) = some (.go (if n.Stamp ≥ t - 20 - 1 then w ++ [n] else w, ((i + 1 : Nat) : Int))) := by
        unfold kit_Post_Send_o_l1
        dsimp only
        rw [show decide ((i : Int) < (p.sent.length : Int)) = true from decide_eq_true (by omega), geti_drop hi, cond_true, Option.bind_some, Option.bind_some, w64_id (n := t - 20) (by omega), w64_id (n := t - 20 - 1) (by omega), appc_eq (by simp; omega), Option.bind_some, w64_id (n := (i : Int) + 1) (by omega)]
        refine (cond_ite (P := n.Stamp ≥ t - 20 - 1) (by simp)).trans ?_
        split <;> rfl
      obtain ⟨w', q1, q2, q3⟩ := ih (i + 1) (if n.Stamp ≥ t - 20 - 1 then w ++ [n] else w) (drop_succ hi) (by omega) (by split <;> (try simp only [List.length_append, List.length_cons, List.length_nil]) <;> omega) (fun z hz => by
        split at hz
        · rw [List.mem_append, List.mem_singleton] at hz
          rcases hz with hz | rfl
          · exact hm z hz
          · exact hn
        · exact hm z hz)
      exact ⟨w', by rw [loop_go hs]; exact q1, q2, q3⟩
  obtain ⟨w', q1, q2, q3⟩ := key _ 0 [] rfl (by omega) (by simp) (by simp)
  rw [show ((0 : Nat) : Int) = 0 from rfl] at q1
  unfold kit_Post_Send_o
  rw [q1, Option.bind_some, appc_eq (by omega), Option.bind_some]
  refine ⟨_, rfl, fun n hn => ?_, by simp only [List.length_append]; omega⟩
  rcases List.mem_append.1 hn with h | h
  · exact .inl (q3 n h)
  · exact .inr h
theorem deliver_ok (p : KitPost) (r : KitRing) (t : Int) (hp : p.sent.length ≤ 1000000) (a0 : 0 ≤ r.at_) (a1 : r.at_ ≤ 900000000) :
    ∃ ns r', kit_Post_Deliver_o_ok p r t = some (ns, r') ∧ ns.length ≤ 41 ∧ (∀ n ∈ ns, n ∈ p.sent) ∧ r.at_ ≤ r'.at_ ∧ r'.at_ ≤ r.at_ + p.sent.length + 2 := by
  obtain ⟨how, e1, h0, h1⟩ := next_ok r (k := 4) a0 (by omega) (by decide) (by decide)
  have key : ∀ (k : Nat) (i : Int) (w : List Note) (r1 : KitRing), i = (k : Int) - 1 → k ≤ p.sent.length → w.length ≤ 40 → (∀ n ∈ w, n ∈ p.sent) → 0 ≤ r1.at_ → r1.at_ + k ≤ 902000000 → ∃ w' r', loop (kit_Post_Deliver_o_ok_l1 p t (how, ⟨r.l, r.at_ + 1⟩)) (w, i, r1) = some (w', r') ∧ w'.length ≤ 40 ∧ (∀ n ∈ w', n ∈ p.sent) ∧ r1.at_ ≤ r'.at_ ∧ r'.at_ ≤ r1.at_ + k := by
    intro k
    induction k with
    | zero =>
      intro i w r1 hi _ hw hm _ _
      refine ⟨w, r1, loop_out ?_, hw, hm, by omega, by omega⟩
      unfold kit_Post_Deliver_o_ok_l1
      dsimp only
      rw [show decide (i ≥ 0) = false from decide_eq_false (by omega)]; rfl
    | succ k ih =>
      intro i w r1 hi hk hw hm b0 b1
      obtain rfl : i = (k : Int) := by omega
      by_cases hw40 : (w.length : Int) < 40
      · obtain ⟨x, e, _, _⟩ := next_ok r1 (k := 5) b0 (by omega) (by decide) (by decide)
        have hg : geti p.sent (k : Int) = some p.sent[k] := geti_nat (by omega)
        have hs : ∃ (w1 : List Note) (r2 : KitRing), kit_Post_Deliver_o_ok_l1 p t (how, ⟨r.l, r.at_ + 1⟩) (w, (k : Int), r1) = some (.go (w1, (k : Int) - 1, r2)) ∧ (w1 = w ∨ w1 = w ++ [p.sent[k]]) ∧ r1.at_ ≤ r2.at_ ∧ r2.at_ ≤ r1.at_ + 1 := by
          unfold kit_Post_Deliver_o_ok_l1
          dsimp only
          rw [show decide ((k : Int) ≥ 0) = true from decide_eq_true (by omega), show decide ((w.length : Int) < 40) = true from decide_eq_true hw40, hg, e, w64_id (n := (k : Int) - 1) (by omega)]
          have happ : appc w [p.sent[k]] = some (w ++ [p.sent[k]]) := appc_eq (by simp only [List.length_cons, List.length_nil]; omega)
          simp only [Bool.and_self, cond_true, cond_some, Option.bind_some, happ]
          generalize (decide (how > 0) && !((cond (decide (how > 0)) p.sent[k] default).Stamp == t && decide (how > 1))) = q1
          generalize (decide (how > 0) && ((cond (decide (how > 0)) p.sent[k] default).Stamp == t && decide (how > 1) || (cond q1 (x, (⟨r1.l, r1.at_ + 1⟩ : KitRing)) default).1 == 0)) = q2
          cases q2
          · refine ⟨_, _, rfl, .inl rfl, ?_, ?_⟩ <;> cases q1 <;> simp <;> omega
          · refine ⟨_, _, rfl, .inr rfl, ?_, ?_⟩ <;> cases q1 <;> simp <;> omega
        obtain ⟨w1, r2, hgo, h1, h2, h3⟩ := hs
        obtain ⟨w', r', q1, q2, q3, q4, q5⟩ := ih ((k : Int) - 1) w1 r2 rfl (by omega) (by
          rcases h1 with h1 | h1
          · rw [h1]; exact hw
          · rw [h1, List.length_append]; simp only [List.length_cons, List.length_nil]; omega) (fun z hz => by
          rcases h1 with h1 | h1
          · rw [h1] at hz; exact hm z hz
          · rw [h1, List.mem_append, List.mem_singleton] at hz
            rcases hz with hz | rfl
            · exact hm z hz
            · exact List.getElem_mem _) (by omega) (by omega)
        exact ⟨w', r', by rw [loop_go hgo]; exact q1, q2, q3, by omega, by omega⟩
      · refine ⟨w, r1, loop_out ?_, hw, hm, by omega, by omega⟩
        unfold kit_Post_Deliver_o_ok_l1
        dsimp only
        rw [show decide ((w.length : Int) < 40) = false from decide_eq_false hw40, Bool.and_false]; rfl
  obtain ⟨w, r1, q1, q2, q3, q4, q5⟩ := key p.sent.length ((p.sent.length : Int) - 1) [] ⟨r.l, r.at_ + 1⟩ rfl (Nat.le_refl _) (by simp) (by simp) (by dsimp only; omega) (by dsimp only; omega)
  dsimp only at q4 q5
  unfold kit_Post_Deliver_o_ok
  rw [e1, Option.bind_some, w64_id (n := (p.sent.length : Int) - 1) (by omega)]
  dsimp only
  rw [q1, Option.bind_some]
  dsimp only
  by_cases hc : (decide ((w.length : Int) > 1) && how == 3) = true
  · rw [hc, cond_true]
    simp only [Bool.and_eq_true, decide_eq_true_eq] at hc
    obtain ⟨x, e, x0, x1⟩ := next_ok r1 (k := (w.length : Int)) (by omega) (by omega) (by omega) (by omega)
    obtain ⟨j, rfl⟩ : ∃ j : Nat, x = (j : Int) := ⟨x.toNat, (Int.toNat_of_nonneg x0).symm⟩
    rw [e, Option.bind_some]
    dsimp only
    have hj : j < w.length := by omega
    have h0' : 0 < w.length := by omega
    have g0 : ∀ l : List Note, (hl : 0 < l.length) → geti l 0 = some (l[0]'hl) := fun l hl => geti_nat (i := 0) hl
    have sl : ∀ (l : List Note) (i : Int) (b : Note), (seti l i b).length = l.length := fun l i b => by unfold seti; exact List.length_set
    have hl3 : (seti (seti w 0 w[j]) (j : Int) (w[0]'h0')).length = w.length := by rw [sl, sl]
    rw [geti_nat hj, Option.bind_some, g0 w h0', Option.bind_some, Option.bind_some, geti_nat (by rw [sl]; exact hj), Option.bind_some, g0 _ (by rw [sl, sl]; exact h0'), Option.bind_some, appc_eq (by simp only [List.length_cons, List.length_nil]; omega), Option.bind_some]
    have hset : ∀ z ∈ seti (seti w 0 w[j]) (j : Int) (w[0]'h0'), z ∈ p.sent := by
      intro z hz
      unfold seti at hz
      rcases List.mem_or_eq_of_mem_set hz with hz | rfl
      · rcases List.mem_or_eq_of_mem_set hz with hz | rfl
        · exact q3 z hz
        · exact q3 _ (List.getElem_mem _)
      · exact q3 _ (List.getElem_mem _)
    refine ⟨_, _, rfl, by rw [List.length_append]; simp only [List.length_cons, List.length_nil]; omega, fun z hz => ?_, by dsimp only; omega, by dsimp only; omega⟩
    rw [List.mem_append, List.mem_singleton] at hz
    rcases hz with hz | rfl
    · exact hset z hz
    · exact hset _ (List.getElem_mem _)
  · rw [show (decide ((w.length : Int) > 1) && how == 3) = false by simpa using hc, cond_false]
    exact ⟨w, r1, rfl, by omega, q3, by omega, by omega⟩

end Go.Abs.Convoyz

namespace Go.Abs.Convoyz
open Go Go.Abs

/-! ### The document's step is the model's -/
theorem rcounts_eq (n : Note) {t : Int} (h0 : 0 ≤ t) (h1 : t ≤ 1099511627776) : ref09_counts n t = some (countsM n t) := by
  unfold ref09_counts countsM guessM
  simp only [ref09_between_eq, cond_some, Option.bind_some]
  rw [w64_id (n := t - 20) (by omega)]
  have e : ∀ a b d : Bool, (a && cond a b d) = (a && b) := by intro a b d; cases a <;> rfl
  simp only [e, within, ge_iff_le]
  congr 1
  rw [Bool.eq_iff_iff]
  simp only [Bool.and_eq_true, decide_eq_true_eq]
  omega
theorem raged_eq (n : Note) {t : Int} (hc : countsM n t = true) (_h1 : t ≤ 1099511627776) : ref09_aged n t = some (agedM n t) := by
  have := counts_stamp hc
  unfold ref09_aged
  rw [w64_id (n := t - n.Stamp) (by omega), (Age_eq _ _).2]; rfl
theorem rsight_eq (l : List Sight) (id : Int) (hl : l.length ≤ 1000000) : ref09_sight l id = some ((sightM l id).getD S0, (sightM l id).isSome) := by
  have key : ∀ (r : List Sight) (i : Nat), l.drop i = r → i ≤ l.length → loop (ref09_sight_l1 l id) (i : Int) = some (match sightM r id with | some x => .inr (x, true) | none => .inl ()) := by
    intro r
    induction r with
    | nil =>
      intro i hi hil
      have := drop_nil hi
      refine loop_out ?_
      unfold ref09_sight_l1
      rw [show decide ((i : Int) < (l.length : Int)) = false from decide_eq_false (by omega)]; rfl
    | cons a r ih =>
      intro i hi hil
      have hlt := drop_lt hi
      have hs : ref09_sight_l1 l id (i : Int) = some (if sightP id a then .out (.inr (a, true)) else .go ((i + 1 : Nat) : Int)) := by
        unfold ref09_sight_l1
        rw [show decide ((i : Int) < (l.length : Int)) = true from decide_eq_true (by omega), geti_drop hi, w64_id (n := (i : Int) + 1) (by omega), cond_true, Option.bind_some]
        refine (cond_ite (P := sightP id a = true) ?_).trans ?_
        · unfold sightP
          simp only [Bool.and_eq_true, decide_eq_true_eq, beq_iff_eq, ge_iff_le]
        · split <;> rfl
      unfold sightM
      rw [List.find?_cons]
      cases h : sightP id a
      · rw [h] at hs
        rw [loop_go hs, ih (i + 1) (drop_succ hi) (by omega)]
        rfl
      · rw [h] at hs
        rw [loop_out hs]
  unfold ref09_sight
  have := key _ 0 rfl (by omega)
  rw [show ((0 : Nat) : Int) = 0 from rfl, List.drop_zero] at this
  rw [this]
  cases sightM l id <;> rfl
theorem rhears_eq (m : Mate) (n : Note) (x : Option Sight) {t : Int} (hc : countsM n t = true) (h1 : t ≤ 1099511627776) : ref09_hears m n (x.getD S0) x.isSome t = some (hearM m n x t) := by
  have hk := (counts_stamp hc).1
  unfold ref09_hears hearM hailM askM doneM
  rw [raged_eq n hc h1, Option.bind_some]
  generalize agedM n t = g at *
  simp only [ref09_Better_eq, ref09_between_eq, Option.bind_some]
  rcases (show n.Kind = 1 ∨ n.Kind = 2 ∨ n.Kind = 3 ∨ n.Kind = 4 by omega) with h | h | h | h <;> rw [h]
  · rw [if_pos rfl]
    have e1 : (cond ((((1 : Int) == 1) && (m.Until != 0)) && (n.From == m.Ward)) (some (Mate.mk m.ID m.S m.V m.Len m.Ahead m.Guess_ m.Trust m.Ward (betterM m.WardGuess g) m.Until)) (some m)) = some (if m.Until ≠ 0 ∧ n.From = m.Ward then { m with WardGuess := betterM m.WardGuess g } else m) := by
      refine (cond_ite (P := m.Until ≠ 0 ∧ n.From = m.Ward) (by simp)).trans ?_
      split <;> rfl
    refine (congrArg (fun z => Option.bind z _) e1).trans ?_
    rw [Option.bind_some]
    generalize (if m.Until ≠ 0 ∧ n.From = m.Ward then { m with WardGuess := betterM m.WardGuess g } else m) = k
    by_cases hA : k.Ahead ≠ 0 ∧ n.From = k.Ahead
    · rw [if_pos hA, show ((((1 : Int) == 1) && (k.Ahead != 0)) && (n.From == k.Ahead)) = true by simpa using hA]
      cases x with
      | none => cases hT : k.Trust <;> simp [hT]
      | some x =>
        dsimp only [Option.getD_some, Option.isSome_some]
        by_cases hs : n.Stamp = t
        · rw [hs, show (t == t) = true by simp]
          cases within n.R x.Lo x.Hi <;> cases within n.V x.VLo x.VHi <;> simp
        · rw [show (n.Stamp == t) = false by simpa using hs, if_neg (fun z => hs z.1)]
          rfl
    · rw [if_neg hA, show ((((1 : Int) == 1) && (k.Ahead != 0)) && (n.From == k.Ahead)) = false by rw [Bool.eq_false_iff]; simpa using hA]
      rfl
  · rw [if_neg (by decide), if_pos rfl]
    have e0 : (cond ((((2 : Int) == 1) && (m.Until != 0)) && (n.From == m.Ward)) (some (Mate.mk m.ID m.S m.V m.Len m.Ahead m.Guess_ m.Trust m.Ward (betterM m.WardGuess g) m.Until)) (some m)) = some m := rfl
    refine (congrArg (fun z => Option.bind z _) e0).trans ?_
    rw [Option.bind_some]
    have e2 : ((((2 : Int) == 1) && (m.Ahead != 0)) && (n.From == m.Ahead)) = false := rfl
    rw [e2, cond_false]
    by_cases hT : n.To = m.ID
    · rw [if_neg (by simpa using hT), show (((2 : Int) == 2) && (n.To == m.ID)) = true by simpa using hT, cond_true]
      by_cases h2 : m.Ward = 0 ∨ (n.From = m.Ward ∧ m.Until ≠ 0 ∧ m.Until < n.Stamp)
      · rw [if_pos h2, show ((m.Ward == 0) || (((n.From == m.Ward) && (m.Until != 0)) && (decide (n.Stamp > m.Until)))) = true by simpa [and_assoc] using h2]; rfl
      · rw [if_neg h2, show ((m.Ward == 0) || (((n.From == m.Ward) && (m.Until != 0)) && (decide (n.Stamp > m.Until)))) = false by rw [Bool.eq_false_iff]; simpa [and_assoc] using h2, cond_false]
        by_cases h3 : n.From = m.Ward
        · rw [if_pos h3, show (n.From == m.Ward) = true by simpa using h3]; rfl
        · rw [if_neg h3, show (n.From == m.Ward) = false by simpa using h3]; rfl
    · rw [if_pos hT, show (((2 : Int) == 2) && (n.To == m.ID)) = false by simpa using hT]; rfl
  · rw [if_neg (by decide), if_neg (by decide), if_neg (by decide)]; rfl
  · rw [if_neg (by decide), if_neg (by decide), if_pos rfl]
    have e0 : (cond ((((4 : Int) == 1) && (m.Until != 0)) && (n.From == m.Ward)) (some (Mate.mk m.ID m.S m.V m.Len m.Ahead m.Guess_ m.Trust m.Ward (betterM m.WardGuess g) m.Until)) (some m)) = some m := rfl
    refine (congrArg (fun z => Option.bind z _) e0).trans ?_
    rw [Option.bind_some]
    have e2 : ((((4 : Int) == 1) && (m.Ahead != 0)) && (n.From == m.Ahead)) = false := rfl
    have e3 : (((4 : Int) == 2) && (n.To == m.ID)) = false := rfl
    rw [e2, cond_false, e3, cond_false]
    by_cases hd : n.To ≠ m.ID ∨ m.Until = 0 ∨ n.From ≠ m.Ward
    · rw [if_pos hd, show ((((4 : Int) == 4) && (n.To == m.ID)) && (m.Until != 0) && (n.From == m.Ward)) = false by
        rw [Bool.eq_false_iff]
        simp only [ne_eq, Bool.and_eq_true, beq_iff_eq, bne_iff_ne]
        rintro ⟨⟨⟨_, a⟩, b⟩, d⟩
        rcases hd with hd | hd | hd
        · exact hd a
        · exact b hd
        · exact hd d]
      rfl
    · rw [if_neg hd, show ((((4 : Int) == 4) && (n.To == m.ID)) && (m.Until != 0) && (n.From == m.Ward)) = true by
        simp only [ne_eq, not_or, Decidable.not_not] at hd
        simp [hd.1, hd.2.1, hd.2.2]]
      cases x <;> rfl
theorem rmoved_eq {s v a : Int} (hs : 0 ≤ s ∧ s ≤ 2000000000000) (hv : 0 ≤ v ∧ v ≤ 2000) (ha : -90 ≤ a ∧ a ≤ 30) : ref09_moved s v a = some (s + speedM v a, speedM v a) := moved_eq hs hv ha
theorem rwant_eq (wants : List Int) (i : Nat) : ref09_want wants (i : Int) = some (wantsM wants i) := want_eq wants i
theorem rmay_eq (c : Convoy) (m : Mate) {a : Int} (hs : 0 ≤ m.S ∧ m.S ≤ 2000000000000) (hv : 0 ≤ m.V ∧ m.V ≤ 2000) (ha : -90 ≤ a ∧ a ≤ 30) : ref09_may c m a = some (mayM c.Gap m a) := by
  unfold ref09_may
  rw [rmoved_eq hs hv ha, Option.bind_some]
  simp only [(Age_eq _ _).2, cond_some, Option.bind_some, ref09_Safe_eq]
  unfold mayM keepM
  cases h1 : (m.Ahead == 0) <;> cases h2 : (m.Until == 0) <;> cases h3 : safeM (m.S + speedM m.V a) (speedM m.V a) c.Gap (ageM m.Guess_ 1) <;> simp_all
theorem rdrives_eq (c : Convoy) (m : Mate) (want : Int) (hs : 0 ≤ m.S ∧ m.S ≤ 2000000000000) (hv : 0 ≤ m.V ∧ m.V ≤ 2000) : ref09_drives c m want = some (driveM c.Gap m want) := by
  unfold ref09_drives driveM
  dsimp only
  have e1 : (cond ((m.Ward != 0) && (m.Until == 0)) (some (mm2 false want (-20))) (some want)) = some (wantM m want) := by
    unfold wantM
    rw [mm2_min]
    refine (cond_ite (P := m.Ward ≠ 0 ∧ m.Until = 0) (by simp)).trans ?_
    split <;> rfl
  rw [e1, Option.bind_some, mm2_max, mm2_min, great_loop (mayM c.Gap m) (fun a h1 h2 => by
      unfold ref09_drives_l1
      rw [show decide (a > -90) = true from decide_eq_true h1, rmay_eq c m hs hv (by omega), w64_id (n := a - 1) (by omega)]
      simp only [cond_true, Option.bind_some]
      cases mayM c.Gap m a <;> rfl) (by
      unfold ref09_drives_l1
      rfl) (max (-90) (min (wantM m want) 30) + 90).toNat _ (by omega) (by omega), Option.bind_some]
  have hg := (great_ok (mayM c.Gap m) (wantM m want)).1
  rw [show downM (mayM c.Gap m) (max (-90) (min (wantM m want) 30) + 90).toNat (max (-90) (min (wantM m want) 30)) = greatM (mayM c.Gap m) (wantM m want) from rfl, rmoved_eq hs hv (by omega), Option.bind_some]
  dsimp only
  simp only [bne_if, (Age_eq _ _).2, Option.bind_some]
  by_cases h1 : m.Ahead ≠ 0 <;> by_cases h2 : m.Ward ≠ 0
  · simp only [if_pos h1, if_pos h2, Option.bind_some]
  · simp only [if_pos h1, if_neg h2, Option.bind_some]
  · simp only [if_neg h1, if_pos h2, Option.bind_some]
  · simp only [if_neg h1, if_neg h2, Option.bind_some]
theorem rrolls_eq {g : Guest} (want : Int) (hs : 0 ≤ g.S ∧ g.S ≤ 2000000000000) (hv : 0 ≤ g.V ∧ g.V ≤ 2000) : ref09_rolls g want = some (rollM g want) := by
  unfold ref09_rolls rollM
  dsimp only
  rw [mm2_max, mm2_min, great_loop (fun a => decide (g.S + speedM g.V a + stopM (speedM g.V a) < g.End)) (fun a h1 h2 => by
      unfold ref09_rolls_l1
      rw [show decide (a > -90) = true from decide_eq_true h1, rmoved_eq hs hv (by omega), w64_id (n := a - 1) (by omega)]
      have b1 := speed_bd g.V a
      have b2 := stop2000 b1.2
      simp only [cond_true, Option.bind_some, ref09_stop_eq]
      rw [w64_id (n := g.S + speedM g.V a + stopM (speedM g.V a)) (by omega)]
      cases decide (g.S + speedM g.V a + stopM (speedM g.V a) < g.End) <;> rfl) (by
      unfold ref09_rolls_l1
      rfl) (max (-90) (min want 30) + 90).toNat _ (by omega) (by omega), Option.bind_some]
  have hg := (great_ok (fun a => decide (g.S + speedM g.V a + stopM (speedM g.V a) < g.End)) want).1
  rw [show downM (fun a => decide (g.S + speedM g.V a + stopM (speedM g.V a) < g.End)) (max (-90) (min want 30) + 90).toNat (max (-90) (min want 30)) = greatM (fun a => decide (g.S + speedM g.V a + stopM (speedM g.V a) < g.End)) want from rfl, rmoved_eq hs hv (by omega), Option.bind_some, (Age_eq _ _).2, Option.bind_some, bne_if]
  split <;> rfl
end Go.Abs.Convoyz

namespace Go.Abs.Convoyz
open Go Go.Abs
theorem rbel1 (c : Convoy) (notes : List Note) (x : Option Sight) (id : Int) (hl : notes.length ≤ 1000000) (h0 : 0 ≤ c.Tick) (h1 : c.Tick ≤ 1099511627776) :
    ∀ (r : List Note) (i : Nat) (k : Mate), notes.drop i = r → i ≤ notes.length → k.ID = id → loop (ref09_believes_l1 c notes (x.getD S0, x.isSome)) ((i : Int), k) = some (r.foldl (fun k n => if countsM n c.Tick && n.From != id then hearM k n x c.Tick else k) k) := by
  intro r
  induction r with
  | nil =>
    intro i k hi hil _
    have := drop_nil hi
    refine loop_out ?_
    unfold ref09_believes_l1
    dsimp only
    rw [show decide ((i : Int) < (notes.length : Int)) = false from decide_eq_false (by omega)]
    rfl
  | cons n r ih =>
    intro i k hi hil hid
    have hlt := drop_lt hi
    have hs : ref09_believes_l1 c notes (x.getD S0, x.isSome) ((i : Int), k) = some (.go (((i + 1 : Nat) : Int), if countsM n c.Tick && n.From != id then hearM k n x c.Tick else k)) := by
      unfold ref09_believes_l1
      dsimp only
      rw [show decide ((i : Int) < (notes.length : Int)) = true from decide_eq_true (by omega), geti_drop hi, w64_id (n := (i : Int) + 1) (by omega)]
      simp only [cond_true, Option.bind_some, rcounts_eq n h0 h1]
      cases hc : countsM n c.Tick
      · rfl
      · rw [cond_true, Option.bind_some, rhears_eq k n x hc h1, hid, Option.bind_some]
        cases (n.From != id) <;> rfl
    rw [loop_go hs, ih (i + 1) _ (drop_succ hi) (by omega) (by
      split
      · rw [(hear_same _ _ _ _).id]; exact hid
      · exact hid)]
    rfl
theorem rbel2 (c : Convoy) (notes : List Note) (y : Mate) (hl : notes.length ≤ 1000000) (h0 : 0 ≤ c.Tick) (h1 : c.Tick ≤ 1099511627776) :
    ∀ (r : List Note) (i : Nat) (b : Bool), notes.drop i = r → i ≤ notes.length → loop (ref09_believes_l2 c notes y) (b, (i : Int)) = some (b || r.any (asksM y c.Tick)) := by
  intro r
  induction r with
  | nil =>
    intro i b hi hil
    have := drop_nil hi
    refine loop_out ?_
    unfold ref09_believes_l2
    dsimp only
    rw [show decide ((i : Int) < (notes.length : Int)) = false from decide_eq_false (by omega)]
    simp
  | cons n r ih =>
    intro i b hi hil
    have hlt := drop_lt hi
    have hs : ref09_believes_l2 c notes y (b, (i : Int)) = some (.go (b || asksM y c.Tick n, ((i + 1 : Nat) : Int))) := by
      unfold ref09_believes_l2
      dsimp only
      rw [show decide ((i : Int) < (notes.length : Int)) = true from decide_eq_true (by omega), geti_drop hi, w64_id (n := (i : Int) + 1) (by omega)]
      simp only [cond_true, Option.bind_some, rcounts_eq n h0 h1, cond_some]
      cases b <;> rfl
    rw [loop_go hs, ih (i + 1) _ (drop_succ hi) (by omega), List.any_cons, Bool.or_assoc]
theorem rbelieves_eq (c : Convoy) (notes : List Note) (sights : List Sight) (m : Mate) (hl : notes.length ≤ 1000000) (hs : sights.length ≤ 1000000) (h0 : 0 ≤ c.Tick) (h1 : c.Tick ≤ 1099511627776) :
    ref09_believes c m notes sights = some (believeM c notes sights m) := by
  have l1 := rbel1 c notes (sightM sights m.ID) m.ID hl h0 h1 _ 0 m rfl (by omega) rfl
  rw [show ((0 : Nat) : Int) = 0 from rfl, List.drop_zero] at l1
  unfold ref09_believes believeM
  dsimp only
  rw [rsight_eq sights m.ID hs, Option.bind_some, l1, Option.bind_some]
  rw [show notes.foldl (fun k n => if (countsM n c.Tick && n.From != m.ID) = true then hearM k n (sightM sights m.ID) c.Tick else k) m = heardM notes (sightM sights m.ID) c.Tick m from rfl]
  generalize heardM notes (sightM sights m.ID) c.Tick m = k
  generalize sightM sights m.ID = x
  have l2 := rbel2 c notes k hl h0 h1 _ 0 false rfl (by omega)
  rw [show ((0 : Nat) : Int) = 0 from rfl, List.drop_zero, Bool.false_or] at l2
  rw [l2, Option.bind_some]
  generalize notes.any (asksM k c.Tick) = q
  have e1 : (cond (((k.Ward != 0) && (k.Until == 0)) && (!q)) (some (Mate.mk k.ID k.S k.V k.Len k.Ahead k.Guess_ k.Trust 0 (Guess.mk 0 0) k.Until)) (some k)) = some (forgetM k q) := by
    unfold forgetM
    refine (cond_ite (P := k.Ward ≠ 0 ∧ k.Until = 0 ∧ q = false) (by simp [and_assoc])).trans ?_
    split
    · rename_i h; rw [h.2.1]
    · rfl
  rw [e1, Option.bind_some]
  generalize forgetM k q = k1
  have e2 : (cond (x.isSome && (k1.Ahead != 0)) ((ref09_Better k1.Guess_ (Guess.mk (x.getD S0).Lo (x.getD S0).VLo)).bind fun v9 => some (Mate.mk k1.ID k1.S k1.V k1.Len k1.Ahead v9 k1.Trust k1.Ward k1.WardGuess k1.Until)) (some k1)) = some (seeM k1 x) := by
    unfold seeM
    cases x with
    | none => rfl
    | some x =>
      dsimp only [Option.isSome_some, Option.getD_some]
      rw [ref09_Better_eq, Option.bind_some, Bool.true_and]
      refine (cond_ite (P := k1.Ahead ≠ 0) (by simp)).trans ?_
      split <;> rfl
  refine (congrArg (fun z => Option.bind z _) e2).trans ?_
  rw [Option.bind_some]
  generalize seeM k1 x = k2
  unfold grantM
  rw [ref09_Safe_eq, cond_some, Option.bind_some, w64_id (n := c.Tick + 30) (by omega)]
  refine (cond_ite (P := k2.Ward ≠ 0 ∧ k2.Until = 0 ∧ safeM k2.S k2.V c.Gap k2.WardGuess = true) ?_).trans ?_
  · have e : ∀ a b d : Bool, (a && cond a b d) = (a && b) := by intro a b d; cases a <;> rfl
    rw [e]
    simp [and_assoc]
  · split <;> rfl
theorem rnearer_eq (g : Guest) (id : Int) (x : Guess) (hg : g.Ahead = 0 ∨ g.Ahead = id) : ref09_nearer g id x = some (nearM g id x) := by
  unfold ref09_nearer nearM
  rw [ref09_Better_eq, Option.bind_some]
  by_cases h : g.Ahead = 0
  · rw [show (g.Ahead == 0) = true by simpa using h, if_neg (by simpa using h)]; rfl
  · rw [show (g.Ahead == 0) = false by simpa using h, if_pos h, ← hg.resolve_left h]; rfl
theorem learn_ahead {front back t : Int} {g : Guest} (n : Note) (hg : g.Ahead = 0 ∨ g.Ahead = front) : (learnM front back t g n).Ahead = 0 ∨ (learnM front back t g n).Ahead = front := by
  unfold learnM nearM
  split
  · split
    · exact .inr rfl
    · split <;> exact hg
  · exact hg
theorem rlearns_loop (c : Convoy) (front back : Int) (notes : List Note) (hl : notes.length ≤ 1000000) (h0 : 0 ≤ c.Tick) (h1 : c.Tick ≤ 1099511627776) :
    ∀ (r : List Note) (i : Nat) (g : Guest), notes.drop i = r → i ≤ notes.length → (g.Ahead = 0 ∨ g.Ahead = front) → loop (ref09_learns_l1 c notes front back) ((i : Int), g) = some (r.foldl (learnM front back c.Tick) g) ∧ ((r.foldl (learnM front back c.Tick) g).Ahead = 0 ∨ (r.foldl (learnM front back c.Tick) g).Ahead = front) := by
  intro r
  induction r with
  | nil =>
    intro i g hi hil hg
    have := drop_nil hi
    refine ⟨loop_out ?_, hg⟩
    unfold ref09_learns_l1
    dsimp only
    rw [show decide ((i : Int) < (notes.length : Int)) = false from decide_eq_false (by omega)]
    rfl
  | cons n r ih =>
    intro i g hi hil hg
    have hlt := drop_lt hi
    have hs : ref09_learns_l1 c notes front back ((i : Int), g) = some (.go (((i + 1 : Nat) : Int), learnM front back c.Tick g n)) := by
      unfold ref09_learns_l1
      dsimp only
      rw [show decide ((i : Int) < (notes.length : Int)) = true from decide_eq_true (by omega), geti_drop hi, w64_id (n := (i : Int) + 1) (by omega)]
      simp only [cond_true, Option.bind_some, rcounts_eq n h0 h1]
      unfold learnM
      cases hc : countsM n c.Tick
      · rfl
      · rw [raged_eq n hc h1, Option.bind_some, rnearer_eq g front _ hg, Option.bind_some, Bool.not_true, cond_false, if_pos rfl]
        have hk := (counts_stamp hc).1
        by_cases a : n.Kind = 1 ∧ front ≠ 0 ∧ n.From = front
        · rw [if_pos a, show (((n.Kind == 1) && (front != 0)) && (n.From == front)) = true by simpa [and_assoc] using a, cond_true, Option.bind_some, show (n.Kind == 3) = false by rw [a.1]; rfl]
          rfl
        · rw [if_neg a, show (((n.Kind == 1) && (front != 0)) && (n.From == front)) = false by rw [Bool.eq_false_iff]; simpa [and_assoc] using a, cond_false, Option.bind_some]
          by_cases b : n.Kind = 3 ∧ n.To = g.ID ∧ back ≠ 0 ∧ n.From = back ∧ c.Tick ≤ n.Until
          · rw [if_pos b, show (((((n.Kind == 3) && (n.To == g.ID)) && (back != 0)) && (n.From == back)) && (decide (n.Until ≥ c.Tick))) = true by simpa [and_assoc] using b]; rfl
          · rw [if_neg b, show (((((n.Kind == 3) && (n.To == g.ID)) && (back != 0)) && (n.From == back)) && (decide (n.Until ≥ c.Tick))) = false by rw [Bool.eq_false_iff]; simpa [and_assoc] using b]; rfl
    have := ih (i + 1) (learnM front back c.Tick g n) (drop_succ hi) (by omega) (learn_ahead n hg)
    rw [loop_go hs]
    exact this
theorem rlearns_eq (c : Convoy) (notes : List Note) (sights : List Sight) (h : chkM c = 0) (hl : notes.length ≤ 1000000) (hs : sights.length ≤ 1000000) :
    ref09_learns c notes sights = some (learnsM c notes sights) := by
  have htk := (chk_tick h).1
  obtain ⟨b1, b2, b3⟩ := besM_lt c
  unfold ref09_learns
  rw [ref09_beside_eq h, Option.bind_some, id_eq c _ b1, Option.bind_some, id_eq c _ (by rcases b3 with h | ⟨j, h1, h2⟩ <;> omega), Option.bind_some]
  unfold learnsM
  dsimp only
  have e0 : (cond (c.Guest_.Ahead != idAt c (besM c).1) (some (Guest.mk c.Guest_.ID c.Guest_.S c.Guest_.V c.Guest_.Len c.Guest_.End 0 (Guess.mk 0 0) c.Guest_.From c.Guest_.Until)) (some c.Guest_)) = some (if c.Guest_.Ahead ≠ idAt c (besM c).1 then { c.Guest_ with Ahead := 0, Guess_ := ⟨0, 0⟩ } else c.Guest_) := by
    rw [bne_if]; split <;> rfl
  have hg : (if c.Guest_.Ahead ≠ idAt c (besM c).1 then { c.Guest_ with Ahead := 0, Guess_ := ⟨0, 0⟩ } else c.Guest_).Ahead = 0 ∨ (if c.Guest_.Ahead ≠ idAt c (besM c).1 then { c.Guest_ with Ahead := 0, Guess_ := ⟨0, 0⟩ } else c.Guest_).Ahead = idAt c (besM c).1 := by
    split
    · exact .inl rfl
    · rename_i q; exact .inr (Decidable.not_not.1 q)
  rw [e0, Option.bind_some]
  generalize (if c.Guest_.Ahead ≠ idAt c (besM c).1 then { c.Guest_ with Ahead := 0, Guess_ := ⟨0, 0⟩ } else c.Guest_) = g at hg
  obtain ⟨hloop, hk⟩ := rlearns_loop c (idAt c (besM c).1) (idAt c (besM c).2) notes hl htk.1 htk.2 _ 0 g rfl (by omega) hg
  rw [show ((0 : Nat) : Int) = 0 from rfl, List.drop_zero] at hloop
  rw [List.drop_zero] at hk
  rw [hloop, Option.bind_some]
  generalize notes.foldl (learnM (idAt c (besM c).1) (idAt c (besM c).2) c.Tick) g = k at hk
  rw [rsight_eq sights k.ID hs, Option.bind_some]
  dsimp only
  cases sightM sights k.ID with
  | none => rfl
  | some x =>
    rw [rnearer_eq _ _ _ hk, Option.bind_some, show (some x).isSome = true from rfl, Bool.true_and, bne_if]
    dsimp only [Option.getD_some]
    split <;> rfl
theorem rfar_eq (c : Convoy) (hl : c.Mates.length ≤ 1000000) : ref09_far c = some (farM c) := by
  have key : ∀ (r : List Mate) (i : Nat) (b : Bool), c.Mates.drop i = r → i ≤ c.Mates.length → loop (ref09_far_l1 c) (b, (i : Int)) = some (b || r.any fun m => decide (1099511625776 < m.S)) := by
    intro r
    induction r with
    | nil =>
      intro i b hi hil
      have := drop_nil hi
      refine loop_out ?_
      unfold ref09_far_l1
      dsimp only
      rw [show decide ((i : Int) < (c.Mates.length : Int)) = false from decide_eq_false (by omega)]
      simp
    | cons m r ih =>
      intro i b hi hil
      have hlt := drop_lt hi
      have hs : ref09_far_l1 c (b, (i : Int)) = some (.go (b || decide (1099511625776 < m.S), ((i + 1 : Nat) : Int))) := by
        unfold ref09_far_l1
        dsimp only
        rw [show decide ((i : Int) < (c.Mates.length : Int)) = true from decide_eq_true (by omega), geti_drop hi, w64_id (n := (i : Int) + 1) (by omega)]
        cases b <;> rfl
      rw [loop_go hs, ih (i + 1) _ (drop_succ hi) (by omega), List.any_cons, Bool.or_assoc]
  unfold ref09_far
  have := key _ 0 (decide (c.Guest_.S > 1099511625776)) rfl (by omega)
  rw [show ((0 : Nat) : Int) = 0 from rfl, List.drop_zero] at this
  rw [this]; rfl
end Go.Abs.Convoyz

namespace Go.Abs.Convoyz
open Go Go.Abs
theorem mate_nums {c : Convoy} (h : chkM c = 0) {i : Nat} {m : Mate} (h0 : c.Mates[i]? = some m) : (1 ≤ m.ID ∧ m.ID ≤ 99) ∧ (0 ≤ m.S ∧ m.S ≤ 1099511627776) ∧ (0 ≤ m.V ∧ m.V ≤ 2000) := by
  have := mateB_iff.2 (chk_mate h h0)
  unfold mateM bodyM at this
  simp only [Bool.and_eq_true, within_iff] at this
  omega
theorem at_mate {c : Convoy} (h : chkM c = 0) {a : Int} (ha : a < (c.Mates.length : Int)) : ∃ v : Mate, cond (decide (a ≥ 0)) (geti c.Mates a) (some default) = some v ∧ (0 ≤ a → v.ID = idAt c a ∧ idAt c a ≠ 0) ∧ (a < 0 → idAt c a = 0) := by
  unfold idAt
  by_cases h0 : 0 ≤ a
  · obtain ⟨k, rfl⟩ : ∃ k : Nat, a = (k : Int) := ⟨a.toNat, (Int.toNat_of_nonneg h0).symm⟩
    have hk : k < c.Mates.length := by omega
    have hm := mate_nums h (List.getElem?_eq_getElem hk)
    refine ⟨c.Mates[k], by rw [show decide ((k : Int) ≥ 0) = true from decide_eq_true h0, geti_nat hk]; rfl, fun _ => ?_, fun q => by omega⟩
    rw [if_pos h0, Int.toNat_natCast, List.getElem?_eq_getElem hk]
    exact ⟨rfl, by show c.Mates[k].ID ≠ 0; omega⟩
  · refine ⟨default, by rw [show decide (a ≥ 0) = false from decide_eq_false (by omega)]; rfl, fun q => absurd q h0, fun _ => by rw [if_neg h0]⟩
theorem rmerges_eq (c : Convoy) (g : Guest) (h : chkM c = 0) : ref09_merges c g = some (mergeM c g) := by
  obtain ⟨b1, b2, b3⟩ := besM_lt c
  have hb : (besM c).2 < (c.Mates.length : Int) := by rcases b3 with h | ⟨j, h1, h2⟩ <;> omega
  obtain ⟨v, e1, i1, j1⟩ := at_mate h b1
  obtain ⟨w, e2, i2, j2⟩ := at_mate h hb
  unfold ref09_merges mergeM
  rw [ref09_beside_eq h, Option.bind_some, e1, Option.bind_some, ref09_Safe_eq, cond_some, Option.bind_some, show (!(decide ((besM c).2 < 0))) = decide ((besM c).2 ≥ 0) by
    by_cases q : (besM c).2 < 0
    · rw [decide_eq_true q, decide_eq_false (by omega)]; rfl
    · rw [decide_eq_false q, decide_eq_true (by omega)]; rfl, e2, Option.bind_some]
  dsimp only
  have hB : (decide ((besM c).2 < 0) || (g.From == w.ID && decide (c.Tick ≤ g.Until))) = (idAt c (besM c).2 == 0 || g.From == idAt c (besM c).2 && decide (c.Tick ≤ g.Until)) := by
    by_cases q : (besM c).2 < 0
    · rw [decide_eq_true q, j2 q]; rfl
    · obtain ⟨p1, p2⟩ := i2 (by omega)
      rw [decide_eq_false q, p1, show (idAt c (besM c).2 == 0) = false by simpa using p2]
  rw [hB]
  generalize (idAt c (besM c).2 == 0 || g.From == idAt c (besM c).2 && decide (c.Tick ≤ g.Until)) = B
  by_cases q : (besM c).1 < 0
  · rw [decide_eq_false (p := (besM c).1 ≥ 0) (by omega), j1 q]; rfl
  · obtain ⟨p1, p2⟩ := i1 (by omega)
    rw [decide_eq_true (p := (besM c).1 ≥ 0) (by omega), p1, show (idAt c (besM c).1 == 0) = false by simpa using p2]
    cases hA : (g.Ahead == idAt c (besM c).1)
    · rw [show (g.Ahead != idAt c (besM c).1) = true by simpa using hA]; rfl
    · rw [show (g.Ahead != idAt c (besM c).1) = false by simpa using hA]
      cases safeM g.S g.V c.Gap g.Guess_ <;> cases B <;> rfl
def mkM (j : Bool) (P : Nat) (ms : List Mate) (nw : Mate) (i : Nat) : List Mate := if j = true ∧ P ≤ i then ms.take P ++ nw :: (ms.take i).drop P else ms.take i
theorem mk_succ {j : Bool} {P : Nat} {ms : List Mate} {nw m : Mate} {i : Nat} (hm : ms[i]? = some m) : (if j = true ∧ P = i + 1 then (mkM j P ms nw i ++ [m]) ++ [nw] else mkM j P ms nw i ++ [m]) = mkM j P ms nw (i + 1) := by
  have hi : i < ms.length := by
    rcases Nat.lt_or_ge i ms.length with q | q
    · exact q
    · rw [List.getElem?_eq_none q] at hm; cases hm
  have ht : ms.take (i + 1) = ms.take i ++ [m] := by rw [List.take_add_one, hm]; rfl
  unfold mkM
  by_cases hj : j = true
  · by_cases h1 : P = i + 1
    · subst h1
      rw [if_pos ⟨hj, rfl⟩, if_neg (by omega), if_pos ⟨hj, by omega⟩, ht, List.drop_eq_nil_of_le (by simp only [List.length_append, List.length_take, List.length_cons, List.length_nil]; omega)]
    · rw [if_neg (fun z => h1 z.2)]
      by_cases h2 : P ≤ i
      · rw [if_pos ⟨hj, h2⟩, if_pos ⟨hj, by omega⟩, ht, List.drop_append_of_le_length (by rw [List.length_take]; omega)]
        simp
      · rw [if_neg (fun z => h2 z.2), if_neg (by omega), ht]
  · rw [if_neg (fun z => hj z.1), if_neg (fun z => hj z.1), if_neg (fun z => hj z.1), ht]
theorem mk_len {j : Bool} {P : Nat} {ms : List Mate} {nw : Mate} {i : Nat} : (mkM j P ms nw i).length ≤ 2 * ms.length + 1 := by
  unfold mkM
  split
  · simp only [List.length_append, List.length_take, List.length_cons, List.length_drop]; omega
  · rw [List.length_take]; omega
theorem believe_same (c : Convoy) (notes : List Note) (sights : List Sight) (m : Mate) : Same4 m (believeM c notes sights m) := by
  unfold believeM heardM
  dsimp only
  have key : ∀ (l : List Note) (k : Mate), Same4 m k → Same4 m (l.foldl (fun k n => if countsM n c.Tick && n.From != m.ID then hearM k n (sightM sights m.ID) c.Tick else k) k) := by
    intro l
    induction l with
    | nil => exact fun k hk => hk
    | cons n r ih2 =>
      intro k hk
      rw [List.foldl_cons]
      refine ih2 _ ?_
      split
      · exact hk.trans (hear_same _ _ _ _)
      · exact hk
  exact ((key notes m (Same4.refl m)).trans (forget_same _ _)).trans (see_same _ _) |>.trans (grant_same _ _ _)
theorem rstep_loop (c : Convoy) (wants : List Int) (notes : List Note) (sights : List Sight) (h : chkM c = 0) (hl : notes.length ≤ 1000000) (hs : sights.length ≤ 1000000) (v3 : Int × Int) (j : Bool) (g : Guest) (P : Nat) (hP : v3.1 = (P : Int) - 1) (hg : j = true → (0 ≤ g.S ∧ g.S ≤ 2000000000000) ∧ 0 ≤ g.V ∧ g.V ≤ 2000) :
    ∀ (r : List Mate) (i : Nat), c.Mates.drop i = r → i ≤ c.Mates.length → loop (ref09_Step_l1 c wants notes sights v3 (j, g)) ((i : Int), ⟨c.Tick + 1, c.Gap, mkM j P (matesM c wants notes sights) (driveM c.Gap (newMate g) (wantsM wants c.Mates.length)) i, G0⟩) = some ⟨c.Tick + 1, c.Gap, mkM j P (matesM c wants notes sights) (driveM c.Gap (newMate g) (wantsM wants c.Mates.length)) c.Mates.length, G0⟩ := by
  have hlen := (num_len (chk_num h)).2
  have htk := (chk_tick h).1
  intro r
  induction r with
  | nil =>
    intro i hi hil
    have := drop_nil hi
    refine loop_out ?_
    unfold ref09_Step_l1
    dsimp only
    rw [show decide ((i : Int) < (c.Mates.length : Int)) = false from decide_eq_false (by omega), show i = c.Mates.length by omega]
    rfl
  | cons m r ih =>
    intro i hi hil
    have hlt := drop_lt hi
    have h0 : c.Mates[i]? = some m := by have := congrArg (fun z => z[0]?) hi; simpa using this
    obtain ⟨q1, q2, q3⟩ := mate_nums h h0
    have hsame := believe_same c notes sights m
    have hml := mk_len (j := j) (P := P) (ms := matesM c wants notes sights) (nw := driveM c.Gap (newMate g) (wantsM wants c.Mates.length)) (i := i)
    rw [len_mates] at hml
    have hstep : ref09_Step_l1 c wants notes sights v3 (j, g) ((i : Int), ⟨c.Tick + 1, c.Gap, mkM j P (matesM c wants notes sights) (driveM c.Gap (newMate g) (wantsM wants c.Mates.length)) i, G0⟩) = some (.go (((i + 1 : Nat) : Int), ⟨c.Tick + 1, c.Gap, mkM j P (matesM c wants notes sights) (driveM c.Gap (newMate g) (wantsM wants c.Mates.length)) (i + 1), G0⟩)) := by
      rw [← mk_succ (drove_mates notes sights wants h0)]
      generalize mkM j P (matesM c wants notes sights) (driveM c.Gap (newMate g) (wantsM wants c.Mates.length)) i = acc at hml
      unfold ref09_Step_l1
      dsimp only
      rw [show decide ((i : Int) < (c.Mates.length : Int)) = true from decide_eq_true (by omega), show decide ((i : Int) ≥ 0) = true from decide_eq_true (by omega), geti_drop hi, w64_id (n := (i : Int) + 1) (by omega)]
      simp only [cond_true, Option.bind_some]
      rw [rbelieves_eq c notes sights m hl hs htk.1 htk.2, Option.bind_some, rwant_eq, Option.bind_some, rdrives_eq c _ _ (by rw [hsame.s]; omega) (by rw [hsame.v]; exact q3), Option.bind_some, appc_eq (by simp only [List.length_cons, List.length_nil]; omega), Option.bind_some, Option.bind_some, rwant_eq, Option.bind_some]
      dsimp only
      by_cases hj : j = true ∧ P = i + 1
      · rw [if_pos hj, show (j && ((i : Int) == v3.1)) = true by
          rw [hj.1, hP, hj.2]; simp, cond_true]
        have hd := rdrives_eq c (newMate g) (wantsM wants c.Mates.length) (hg hj.1).1 (hg hj.1).2
        have hd' : ref09_drives c (Mate.mk g.ID g.S g.V g.Len g.Ahead g.Guess_ true 0 (Guess.mk 0 0) 0) (wantsM wants c.Mates.length) = some (driveM c.Gap (newMate g) (wantsM wants c.Mates.length)) := hd
        rw [hd', Option.bind_some, appc_eq (by simp only [List.length_append, List.length_cons, List.length_nil]; omega)]
        rfl
      · rw [if_neg hj, show (j && ((i : Int) == v3.1)) = false by
          rw [Bool.eq_false_iff]
          simp only [ne_eq, Bool.and_eq_true, beq_iff_eq, not_and]
          intro a b
          exact hj ⟨a, by omega⟩]
        rfl
    rw [loop_go hstep]
    exact ih (i + 1) (drop_succ hi) (by omega)
theorem ref09_Step_eq (c : Convoy) (wants : List Int) (notes : List Note) (sights : List Sight) (hl : notes.length ≤ 1000000) (hs : sights.length ≤ 1000000) (hm : c.Mates.length ≤ 1000000) : ref09_Step c wants notes sights = some (stepM c wants notes sights) := by
  unfold ref09_Step stepM
  rw [ref09_Check_eq c hm, Option.bind_some]
  by_cases h : chkM c = 0
  · rw [if_neg (by simpa using h), show (chkM c != 0) = false by simpa using h, cond_false, rfar_eq c hm]
    have e1 : ∀ X Y : Option (Convoy × Int), ((cond (!(((decide ((notes.length : Int) > 60)) || (decide ((sights.length : Int) > 60))) || (c.Tick == 1099511627776))) (some (farM c)) (some default)).bind fun v2 => cond ((((decide ((notes.length : Int) > 60)) || (decide ((sights.length : Int) > 60))) || (c.Tick == 1099511627776)) || v2) X Y) = if 60 < notes.length ∨ 60 < sights.length ∨ c.Tick = 1099511627776 ∨ farM c = true then X else Y := by
      intro X Y
      rw [cond_some, Option.bind_some]
      refine cond_ite ?_
      have e : ∀ a b d : Bool, (a || cond (!a) b d) = (a || b) := by intro a b d; cases a <;> rfl
      rw [e]
      simp only [Bool.or_eq_true, decide_eq_true_eq, gt_iff_lt, beq_iff_eq, or_assoc]
      constructor
      · rintro (a | a | a)
        · exact .inl (by omega)
        · exact .inr (.inl (by omega))
        · exact .inr (.inr a)
      · rintro (a | a | a)
        · exact .inl (by omega)
        · exact .inr (.inl (by omega))
        · exact .inr (.inr a)
    refine (e1 _ _).trans ?_
    have htk := (chk_tick h).1
    have hlen := (num_len (chk_num h)).2
    by_cases hf : 60 < notes.length ∨ 60 < sights.length ∨ c.Tick = 1099511627776 ∨ farM c = true
    · rw [if_pos hf, if_pos hf]; rfl
    · rw [if_neg hf, if_neg hf, ref09_beside_eq h, Option.bind_some, w64_id (n := c.Tick + 1) (by omega)]
      obtain ⟨b1, b2, _⟩ := besM_lt c
      obtain ⟨P, hP⟩ : ∃ P : Nat, (besM c).1 = (P : Int) - 1 := ⟨((besM c).1 + 1).toNat, by omega⟩
      -- what the loop gives
      have whole : ∀ (j : Bool) (g : Guest), (j = true → (0 ≤ g.S ∧ g.S ≤ 2000000000000) ∧ 0 ≤ g.V ∧ g.V ≤ 2000) →
          loop (ref09_Step_l1 c wants notes sights (besM c) (j, g)) (-1, ⟨c.Tick + 1, c.Gap, [], G0⟩) = some ⟨c.Tick + 1, c.Gap, mkM j P (matesM c wants notes sights) (driveM c.Gap (newMate g) (wantsM wants c.Mates.length)) c.Mates.length, G0⟩ := by
        intro j g hg
        have first : ref09_Step_l1 c wants notes sights (besM c) (j, g) (-1, ⟨c.Tick + 1, c.Gap, [], G0⟩) = some (.go (((0 : Nat) : Int), ⟨c.Tick + 1, c.Gap, mkM j P (matesM c wants notes sights) (driveM c.Gap (newMate g) (wantsM wants c.Mates.length)) 0, G0⟩)) := by
          unfold ref09_Step_l1 mkM
          dsimp only
          rw [show decide ((-1 : Int) < (c.Mates.length : Int)) = true from decide_eq_true (by omega), show decide ((-1 : Int) ≥ 0) = false from rfl, cond_true, cond_false, Option.bind_some, rwant_eq, Option.bind_some]
          by_cases hj : j = true ∧ P = 0
          · rw [if_pos ⟨hj.1, by omega⟩, show (j && ((-1 : Int) == (besM c).1)) = true by rw [hj.1, hP, hj.2]; rfl, cond_true]
            have hd := rdrives_eq c (newMate g) (wantsM wants c.Mates.length) (hg hj.1).1 (hg hj.1).2
            have hd' : ref09_drives c (Mate.mk g.ID g.S g.V g.Len g.Ahead g.Guess_ true 0 (Guess.mk 0 0) 0) (wantsM wants c.Mates.length) = some (driveM c.Gap (newMate g) (wantsM wants c.Mates.length)) := hd
            rw [hd', Option.bind_some, appc_eq (by simp), hj.2]
            rfl
          · rw [if_neg (fun z => hj ⟨z.1, by omega⟩), show (j && ((-1 : Int) == (besM c).1)) = false by
              rw [Bool.eq_false_iff]
              simp only [ne_eq, Bool.and_eq_true, beq_iff_eq, not_and]
              intro a b
              exact hj ⟨a, by omega⟩]
            rfl
        rw [loop_go first]
        exact rstep_loop c wants notes sights h hl hs (besM c) j g P hP hg _ 0 rfl (by omega)
      have htake : (matesM c wants notes sights).take c.Mates.length = matesM c wants notes sights := List.take_of_length_le (by rw [len_mates]; omega)
      by_cases hg : c.Guest_.ID = 0
      · rw [if_pos hg, show (c.Guest_.ID != 0) = false by simpa using hg, cond_false, Option.bind_some]
        refine (congrArg (fun z => Option.bind z _) (whole false c.Guest_ (fun q => by cases q))).trans ?_
        rw [Option.bind_some]
        dsimp only
        rw [show (c.Guest_.ID != 0) = false by simpa using hg, Bool.false_and, cond_false]
        unfold mkM
        rw [if_neg (fun z => by cases z.1), htake]
      · rw [if_neg hg, show (c.Guest_.ID != 0) = true by simpa using hg, cond_true, rlearns_eq c notes sights h hl hs, Option.bind_some, rmerges_eq c _ h, Option.bind_some, Option.bind_some]
        have gb := guest_body (g := c.Guest_) (by
          rcases chk_guest h with e | e
          · rw [e] at hg; exact absurd rfl hg
          · exact e)
        obtain ⟨l1, l2, l3, l4, l5⟩ := learns_body c notes sights
        dsimp only
        generalize learnsM c notes sights = g at l1 l2 l3 l4 l5
        refine (congrArg (fun z => Option.bind z _) (whole (mergeM c g) g (fun _ => by rw [l2, l3]; omega))).trans ?_
        rw [Option.bind_some]
        dsimp only
        rw [l1, show (c.Guest_.ID != 0) = true by simpa using hg, Bool.true_and, rwant_eq, Option.bind_some, rrolls_eq _ (by rw [l2]; omega) (by rw [l3]; omega)]
        cases hj : mergeM c g
        · rw [Bool.not_false, cond_true, Option.bind_some, if_neg (by simp)]
          unfold mkM
          rw [if_neg (fun z => by cases z.1), htake]
        · rw [Bool.not_true, cond_false, if_pos rfl]
          unfold mkM
          rw [if_pos ⟨rfl, by omega⟩, htake, show ((besM c).1 + 1).toNat = P by omega]
  · rw [if_pos (by simpa using h), show (chkM c != 0) = true by simpa using h]; rfl
end Go.Abs.Convoyz

namespace Go.Abs.Convoyz
open Go Go.Abs
theorem step_size (c : Convoy) (wants : List Int) (notes : List Note) (sights : List Sight) : (stepM c wants notes sights).1.Mates.length ≤ c.Mates.length + 1 ∧ ((stepM c wants notes sights).2 = 0 → (stepM c wants notes sights).1.Tick = c.Tick + 1) := by
  unfold stepM
  split
  · rename_i h; exact ⟨Nat.zero_le _, fun q => absurd q h⟩
  · split
    · exact ⟨Nat.zero_le _, fun q => absurd q (by decide)⟩
    · dsimp only
      split
      · exact ⟨by dsimp only; rw [len_mates]; omega, fun _ => rfl⟩
      · split
        · exact ⟨by simp only [List.length_append, List.length_take, List.length_cons, List.length_drop, len_mates]; omega, fun _ => rfl⟩
        · exact ⟨by dsimp only; rw [len_mates]; omega, fun _ => rfl⟩
theorem runs_more (more : List Note) (x1 : Int × KitRing × Convoy × KitPost) : ∀ (k i : Nat) (w : List Note) (r : KitRing), i + k = 3 → w.length + k ≤ 1000 → 0 ≤ r.at_ → r.at_ + 3 * k ≤ 800000000 →
    ∃ w' r', loop (law09_ConvoyRuns_l2 more x1) (w, (i : Int), r) = some (w', r') ∧ w'.length ≤ w.length + k ∧ r.at_ ≤ r'.at_ ∧ r'.at_ ≤ r.at_ + 3 * k + 1 := by
  intro k
  induction k with
  | zero =>
    intro i w r hi hw a0 a1
    refine ⟨w, r, loop_out ?_, by omega, Int.le_refl _, by omega⟩
    unfold law09_ConvoyRuns_l2
    dsimp only
    rw [show decide ((i : Int) < 3) = false from decide_eq_false (by omega)]
    rfl
  | succ k ih =>
    intro i w r hi hw a0 a1
    by_cases hm : 0 < more.length
    · obtain ⟨y1, e1, _, _⟩ := next_ok r (k := 4) a0 (by omega) (by decide) (by decide)
      obtain ⟨y2, e2, c0, c1⟩ := next_any ⟨r.l, r.at_ + 1⟩ (k := (more.length : Int)) (by dsimp only; omega) (by dsimp only; omega) (by omega)
      obtain ⟨y3, e3, _, _⟩ := next_ok ⟨r.l, r.at_ + 1 + 1⟩ (k := 3) (by dsimp only; omega) (by dsimp only; omega) (by decide) (by decide)
      dsimp only at e2 e3
      obtain ⟨j, rfl⟩ : ∃ j : Nat, y2 = (j : Int) := ⟨y2.toNat, (Int.toNat_of_nonneg c0).symm⟩
      have body : ∃ n' : Note, law09_ConvoyRuns_l2 more x1 (w, (i : Int), r) = cond (y1 == 0) (some (.go (w ++ [n'], ((i + 1 : Nat) : Int), ⟨r.l, r.at_ + 1 + 1 + 1⟩))) (some (.out (w, ⟨r.l, r.at_ + 1⟩))) := by
        unfold law09_ConvoyRuns_l2
        dsimp only
        rw [show decide ((i : Int) < 3) = true from decide_eq_true (by omega), show decide ((more.length : Int) > 0) = true from decide_eq_true (by omega)]
        simp only [Bool.and_self, cond_true, Bool.true_and]
        rw [e1, Option.bind_some]
        dsimp only
        rw [e2, Option.bind_some]
        dsimp only
        rw [geti_nat (show j < more.length by omega), Option.bind_some, e3, Option.bind_some, appc_eq (by simp; omega), Option.bind_some, w64_id (n := (i : Int) + 1) (by omega)]
        exact ⟨_, rfl⟩
      obtain ⟨n', body⟩ := body
      cases hy : (y1 == 0)
      · rw [hy, cond_false] at body
        exact ⟨w, _, loop_out body, by omega, by dsimp only; omega, by dsimp only; omega⟩
      · rw [hy, cond_true] at body
        obtain ⟨w', r', q1, q2, q3, q4⟩ := ih (i + 1) (w ++ [n']) ⟨r.l, r.at_ + 1 + 1 + 1⟩ (by omega) (by simp only [List.length_append, List.length_cons, List.length_nil]; omega) (by dsimp only; omega) (by dsimp only; omega)
        dsimp only at q3 q4
        exact ⟨w', r', by rw [loop_go body]; exact q1, by simp only [List.length_append, List.length_cons, List.length_nil] at q2; omega, by omega, by omega⟩
    · refine ⟨w, r, loop_out ?_, by omega, Int.le_refl _, by omega⟩
      unfold law09_ConvoyRuns_l2
      dsimp only
      rw [show decide ((more.length : Int) > 0) = false from decide_eq_false (by omega), Bool.and_false]
      rfl
end Go.Abs.Convoyz

namespace Go.Abs.Convoyz
open Go Go.Abs
theorem runs_sights (x1 : Int × KitRing × Convoy × KitPost) (hm : x1.2.2.1.Mates.length ≤ 1000) : ∀ (q : List Mate) (i : Nat) (s : List Sight) (r : KitRing), x1.2.2.1.Mates.drop i = q → i ≤ x1.2.2.1.Mates.length → s.length ≤ i → 0 ≤ r.at_ → r.at_ + 5 * q.length ≤ 800000000 →
    ∃ s' r', loop (law09_ConvoyRuns_l3 x1) (s, (i : Int), r) = some (s', r') ∧ s'.length ≤ x1.2.2.1.Mates.length ∧ r.at_ ≤ r'.at_ ∧ r'.at_ ≤ r.at_ + 5 * q.length := by
  intro q
  induction q with
  | nil =>
    intro i s r hi hil hs a0 a1
    have := drop_nil hi
    refine ⟨s, r, loop_out ?_, by omega, Int.le_refl _, by simp⟩
    unfold law09_ConvoyRuns_l3
    dsimp only
    rw [show decide ((i : Int) < (x1.2.2.1.Mates.length : Int)) = false from decide_eq_false (by omega)]
    rfl
  | cons m q ih =>
    intro i s r hi hil hs a0 a1
    have hlt := drop_lt hi
    simp only [List.length_cons] at a1
    obtain ⟨y1, e1, _, _⟩ := next_ok r (k := 101) a0 (by omega) (by decide) (by decide)
    obtain ⟨y2, e2, _, _⟩ := next_ok ⟨r.l, r.at_ + 1⟩ (k := 101) (by dsimp only; omega) (by dsimp only; omega) (by decide) (by decide)
    obtain ⟨y3, e3, _, _⟩ := next_ok ⟨r.l, r.at_ + 1 + 1⟩ (k := 6) (by dsimp only; omega) (by dsimp only; omega) (by decide) (by decide)
    obtain ⟨y4, e4, _, _⟩ := next_ok ⟨r.l, r.at_ + 1 + 1 + 1⟩ (k := 6) (by dsimp only; omega) (by dsimp only; omega) (by decide) (by decide)
    obtain ⟨y5, e5, _, _⟩ := next_ok ⟨r.l, r.at_ + 1 + 1 + 1 + 1⟩ (k := 3) (by dsimp only; omega) (by dsimp only; omega) (by decide) (by decide)
    dsimp only at e2 e3 e4 e5
    have hbody : ∃ (s1 : List Sight) (r1 : KitRing), law09_ConvoyRuns_l3 x1 (s, (i : Int), r) = some (.go (s1, ((i + 1 : Nat) : Int), r1)) ∧ s1.length ≤ s.length + 1 ∧ r.at_ ≤ r1.at_ ∧ r1.at_ ≤ r.at_ + 5 := by
      unfold law09_ConvoyRuns_l3
      dsimp only
      rw [show decide ((i : Int) < (x1.2.2.1.Mates.length : Int)) = true from decide_eq_true (by omega), geti_drop hi, cond_true, Option.bind_some, e1, Option.bind_some]
      dsimp only
      rw [e2, Option.bind_some]
      dsimp only
      rw [e3, Option.bind_some]
      dsimp only
      rw [e4, Option.bind_some, ref09_Look_eq _ _ _ (by omega), Option.bind_some, w64_id (n := (i : Int) + 1) (by omega)]
      generalize lookM x1.2.2.1 m.ID [y1, y2, y3, y4] = v
      dsimp only
      cases (v.2 == 0)
      · exact ⟨s, _, rfl, by omega, by dsimp only [cond_false]; omega, by dsimp only [cond_false]; omega⟩
      · rw [cond_true, e5, Option.bind_some, Bool.true_and]
        dsimp only
        cases decide (y5 > 0)
        · exact ⟨s, _, rfl, by omega, by dsimp only [cond_true]; omega, by dsimp only [cond_true]; omega⟩
        · rw [cond_true, appc_eq (by simp; omega), Option.bind_some]
          exact ⟨s ++ [v.1], _, rfl, by simp, by dsimp only [cond_true]; omega, by dsimp only [cond_true]; omega⟩
    obtain ⟨s1, r1, hgo, h1, h2, h3⟩ := hbody
    obtain ⟨s', r', q1, q2, q3, q4⟩ := ih (i + 1) s1 r1 (drop_succ hi) (by omega) (by omega) (by omega) (by omega)
    exact ⟨s', r', by rw [loop_go hgo]; exact q1, q2, by omega, by simp only [List.length_cons]; omega⟩
theorem runs_loop (more : List Note) : ∀ (n : Nat) (r : KitRing) (c : Convoy) (p : KitPost), c.Mates.length + n ≤ 100 → 0 ≤ c.Tick → c.Tick + n ≤ 1000 → p.sent.length + 100 * n ≤ 10000 → 0 ≤ r.at_ → r.at_ + 100000 * n ≤ 100000000 →
    loop (law09_ConvoyRuns_l1 more) ((n : Int), r, c, p) = some (.inl ()) ∨ loop (law09_ConvoyRuns_l1 more) ((n : Int), r, c, p) = some (.inr true) := by
  intro n
  induction n with
  | zero =>
    intro r c p _ _ _ _ _ _
    refine .inl (loop_out ?_)
    unfold law09_ConvoyRuns_l1
    rfl
  | succ n ih =>
    intro r c p hm t0 t1 hp a0 a1
    obtain ⟨n1, n2, n3⟩ := notes_both c (by omega)
    obtain ⟨p', e1, _, hp'⟩ := send_ok p (notesM c) c.Tick (by omega) (by omega) (by omega)
    obtain ⟨ns, r1, e2, l1, _, b1, b2⟩ := deliver_ok p' r c.Tick (by omega) a0 (by omega)
    obtain ⟨ns', r2, e3, l2, b3, b4⟩ := runs_more more (((n + 1 : Nat) : Int), r, c, p) 3 0 ns r1 rfl (by omega) (by omega) (by omega)
    obtain ⟨s, r3, e4, l3, b5, b6⟩ := runs_sights (((n + 1 : Nat) : Int), r, c, p) (by dsimp only; omega) _ 0 [] r2 rfl (by omega) (by simp) (by omega) (by rw [List.drop_zero]; dsimp only; omega)
    rw [List.drop_zero] at b6
    dsimp only at l3 b6
    obtain ⟨w, r4, e5, _, b7, b8, _⟩ := wanted_ok ((c.Mates.length : Int) + 1) (by omega) (by omega) r3 (by omega) (by omega)
    have e6 := convoy_Step_eq c w ns' s (by omega) (by omega) (by omega)
    have e7 := ref09_Step_eq c w ns' s (by omega) (by omega) (by omega)
    obtain ⟨z1, z2⟩ := step_size c w ns' s
    generalize stepM c w ns' s = d at e6 e7 z1 z2
    have e8 : ref09_Same d.1 d.1 = some true := by rw [ref09_Same_eq _ _ (by omega), eqC_refl _ (by omega)]
    have body : law09_ConvoyRuns_l1 more (((n + 1 : Nat) : Int), r, c, p) = cond (d.2 != 0) (some (.out (.inr true))) (some (.go ((n : Int), r4, d.1, p'))) := by
      unfold law09_ConvoyRuns_l1
      dsimp only
      rw [show decide (((n + 1 : Nat) : Int) > 0) = true from decide_eq_true (by omega), cond_true, n2, Option.bind_some, n1, Option.bind_some, sameNotes_refl _ (by omega), Option.bind_some, Bool.not_true, cond_false, e1, Option.bind_some, e2, Option.bind_some]
      dsimp only
      rw [show (0 : Int) = ((0 : Nat) : Int) from rfl, e3, Option.bind_some]
      dsimp only
      rw [e4, Option.bind_some]
      dsimp only
      rw [w64_id (n := (c.Mates.length : Int) + 1) (by omega), e5, Option.bind_some]
      dsimp only
      rw [e6, Option.bind_some, e7, Option.bind_some, show (d.2 != d.2) = false by simp, Bool.not_false, cond_true, e8, Option.bind_some, awake_eq, Option.bind_some, w64_id (by omega), show ((n + 1 : Nat) : Int) - 1 = (n : Int) by omega]
      rfl
    cases hd : (d.2 != 0)
    · rw [hd, cond_false] at body
      have hd0 : d.2 = 0 := by simpa using hd
      have := z2 hd0
      rw [loop_go body]
      exact ih r4 d.1 p' (by omega) (by omega) (by omega) (by omega) (by omega) (by omega)
    · rw [hd, cond_true] at body
      exact .inr (loop_out body)
theorem law09_ConvoyRuns_plain (a0 : List Int) (a1 : Int) (a2 : List Note) : law09_ConvoyRuns a0 a1 a2 = some true := by
  unfold law09_ConvoyRuns
  rw [newRing_eq, Option.bind_some]
  obtain ⟨c, r, e, K, h1, h2, h3⟩ := kit_convoy ⟨a0, 0⟩ true (Int.le_refl _) (show (0 : Int) ≤ 1000 by decide)
  dsimp only at h2 h3
  rw [e, Option.bind_some, (kit_Mod_eq (m := 31) (by decide) (by decide)).1, Option.bind_some]
  have hn : 0 ≤ a1 % 31 ∧ a1 % 31 < 31 := by omega
  obtain ⟨n, hn'⟩ : ∃ n : Nat, a1 % 31 = (n : Int) := ⟨(a1 % 31).toNat, (Int.toNat_of_nonneg hn.1).symm⟩
  obtain ⟨_, _, t0, _⟩ := base_inv K
  have hl := K.len
  dsimp only
  rw [hn']
  rcases runs_loop a2 n r c ⟨[]⟩ (by omega) (by omega) (by omega) (by simp; omega) (by omega) (by omega) with q | q
  · rw [q, thenS, awake_eq]; rfl
  · rw [q]; rfl
end Go.Abs.Convoyz
