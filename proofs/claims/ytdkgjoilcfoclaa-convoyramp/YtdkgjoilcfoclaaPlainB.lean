/-
  Plain facts, second part: the law itself.
-/
import Derived.Test.YtdkgjoilcfoclaaPlain

namespace Go.Abs.Convoy
open Go Go.Abs

/-! ### What stays true of a convoy: somebody's body, and what is below it -/
inductive Body (c : Convoy) (id : Int) : Int → Int → Prop
  | mate (i : Nat) (m : Mate) (h : c.Mates[i]? = some m) (hid : m.ID = id) : Body c id (m.S - m.Len) m.V
  | guest (h : c.Guest_.ID = id) (h0 : id ≠ 0) : Body c id (c.Guest_.S - c.Guest_.Len) c.Guest_.V
def Bel (c : Convoy) (id : Int) (g : Guess) : Prop := ∃ r v, Body c id r v ∧ Lower g ⟨r, v⟩
/-- A guess's numbers. -/
def GB (g : Guess) : Prop := (-20000 ≤ g.R ∧ g.R ≤ 2199023255552) ∧ 0 ≤ g.V ∧ g.V ≤ 2000
theorem GB.num {g : Guess} (h : GB g) : (-20000 ≤ g.R ∧ g.R ≤ 2199023255552) ∧ 0 ≤ g.V ∧ g.V ≤ 2000 := h
theorem Lower.refl (g : Guess) : Lower g g := ⟨Int.le_refl _, Int.le_refl _⟩
theorem better_of {g h : Guess} (hg : GB g) (hh : GB h) : betterM g h = g ∨ (betterM g h = h ∧ Lower g h) := by
  have a := hg.num
  have b := hh.num
  rw [better_eq (sane4 (by omega))]
  split
  · rename_i q; exact .inr ⟨rfl, q⟩
  · exact .inl rfl
theorem better_GB {g h : Guess} (hg : GB g) (hh : GB h) : GB (betterM g h) := by
  rcases better_of hg hh with e | ⟨e, _⟩ <;> rw [e] <;> assumption
theorem better_up {g h : Guess} (hg : GB g) (hh : GB h) : Lower g (betterM g h) := by
  rcases better_of hg hh with e | ⟨e, l⟩ <;> rw [e]
  · exact Lower.refl g
  · exact l
theorem better_low {g h x : Guess} (hg : GB g) (hh : GB h) (a : Lower g x) (b : Lower h x) : Lower (betterM g h) x := by
  rcases better_of hg hh with e | ⟨e, _⟩ <;> rw [e] <;> assumption
theorem age1_of {g : Guess} (hg : GB g) : ageM g 1 = age1 g := by
  have a := hg.num
  unfold ageM
  rw [if_pos (by simp [saneM, sane1_iff]; omega)]
  rfl
theorem ageN_succ' : ∀ (n : Nat) (g : Guess), ageN (n + 1) g = age1 (ageN n g)
  | 0, g => rfl
  | n + 1, g => by
    show ageN (n + 1) (age1 g) = age1 (ageN n (age1 g))
    exact ageN_succ' n (age1 g)
/-- The one above a guess stays above the aged guess, whatever it does. -/
theorem age_move {g : Guess} {r v w : Int} (hg : 0 ≤ g.V ∧ g.V ≤ 2000) (hv : 0 ≤ v ∧ v ≤ 2000) (hw : max 0 (v - 90) ≤ w ∧ w ≤ 2000) (L : Lower g ⟨r, v⟩) : Lower (age1 g) ⟨r + w, w⟩ := by
  refine (age1_lower hg hv L).trans ⟨?_, ?_⟩
  · unfold age1; dsimp only; omega
  · have := stop_mono hw.1 (by omega)
    unfold endM age1; dsimp only; omega
theorem age1_V {g : Guess} (h : 0 ≤ g.V ∧ g.V ≤ 2000) : 0 ≤ (age1 g).V ∧ (age1 g).V ≤ 2000 := by unfold age1; dsimp only; omega
theorem ageN_V : ∀ (n : Nat) {g : Guess}, (0 ≤ g.V ∧ g.V ≤ 2000) → 0 ≤ (ageN n g).V ∧ (ageN n g).V ≤ 2000
  | 0, _, h => h
  | n + 1, _, h => ageN_V n (age1_V h)
theorem ageN_R : ∀ (n : Nat) {g : Guess}, (0 ≤ g.V ∧ g.V ≤ 2000) → g.R ≤ (ageN n g).R
  | 0, _, _ => Int.le_refl _
  | n + 1, g, h => by
    have := ageN_R n (age1_V h)
    have e : g.R ≤ (age1 g).R := by unfold age1; dsimp only; omega
    exact Int.le_trans e this
theorem speed_bd (v a : Int) : 0 ≤ speedM v a ∧ speedM v a ≤ 2000 := by unfold speedM; omega
theorem speed_low {v a : Int} (h : 0 ≤ v ∧ v ≤ 2000) (ha : -90 ≤ a) : max 0 (v - 90) ≤ speedM v a := by unfold speedM; omega

/-- What is true of a mate at a place; what it believes may be newer than the convoy. -/
structure MateI (G T : Int) (c : Convoy) (i : Nat) (m : Mate) : Prop where
  id : 1 ≤ m.ID ∧ m.ID ≤ 99
  s : 0 ≤ m.S ∧ m.S ≤ 17000000 + 2000 * c.Tick
  v : 0 ≤ m.V ∧ m.V ≤ 2000
  len : 300 ≤ m.Len ∧ m.Len ≤ 20000
  g : GB m.Guess_
  w : GB m.WardGuess
  ahead : m.Ahead ≠ 0 → ∃ (k : Nat) (km : Mate), k < i ∧ c.Mates[k]? = some km ∧ km.ID = m.Ahead ∧ Lower m.Guess_ ⟨km.S - km.Len, km.V⟩
  ward : m.Ward ≠ 0 → m.Ward = G ∧ Bel c G m.WardGuess
  untl : m.Until ≠ 0 → m.Ward ≠ 0
  ub : 0 ≤ m.Until ∧ m.Until ≤ c.Tick + 30
  sA : m.Ahead ≠ 0 → Lower ⟨m.S + c.Gap, m.V⟩ m.Guess_
  sW : m.Until ≠ 0 → Lower ⟨m.S + c.Gap, m.V⟩ m.WardGuess
  pred : ∀ k, 0 < i → c.Mates[i - 1]? = some k → k.ID = m.Ahead ∨ (k.ID = m.Ward ∧ m.Until ≠ 0 ∧ T ≤ m.Until)
  first : i = 0 → m.Ahead = 0
structure GuestI (G T : Int) (c : Convoy) (g : Guest) : Prop where
  id : g.ID = G
  gid : 1 ≤ G ∧ G ≤ 99
  new : ∀ (i : Nat) m, c.Mates[i]? = some m → m.ID ≠ G
  s : 0 ≤ g.S ∧ g.S ≤ 17000000 + 2000 * c.Tick
  v : 0 ≤ g.V ∧ g.V ≤ 2000
  len : 300 ≤ g.Len ∧ g.Len ≤ 20000
  stops : g.S + stopM g.V < g.End
  fin : g.End ≤ 1099511627776
  gs : GB g.Guess_
  ahead : g.Ahead ≠ 0 → ∃ (k : Nat) (km : Mate), c.Mates[k]? = some km ∧ km.ID = g.Ahead ∧ Lower g.Guess_ ⟨km.S - km.Len, km.V⟩
  from_ : 0 ≤ g.From ∧ g.From ≤ 99
  ub : 0 ≤ g.Until ∧ g.Until ≤ c.Tick + 30
  fromU : g.From ≠ 0 → 0 < g.Until
  grant : g.From ≠ 0 → c.Tick ≤ g.Until → ∃ (k : Nat) (km : Mate), c.Mates[k]? = some km ∧ km.ID = g.From ∧ km.Ward = G ∧ km.Until = g.Until
  now : T = c.Tick
structure Inv (G T : Int) (c : Convoy) : Prop where
  tick : 0 ≤ c.Tick ∧ c.Tick ≤ 1000
  gap : 1 ≤ c.Gap ∧ c.Gap ≤ 20000
  gpos : G ≠ 0
  one : 1 ≤ c.Mates.length
  many : c.Mates.length + (if c.Guest_.ID = 0 then 0 else 1) ≤ 8
  mates : ∀ (i : Nat) m, c.Mates[i]? = some m → MateI G T c i m
  dist : ∀ (i j : Nat) a b, c.Mates[i]? = some a → c.Mates[j]? = some b → a.ID = b.ID → i = j
  guest : c.Guest_ = G0 ∨ GuestI G T c c.Guest_
/-- What is true of a note that was sent. -/
structure NoteI (G T : Int) (c : Convoy) (n : Note) : Prop where
  stamp : 0 ≤ n.Stamp ∧ n.Stamp ≤ c.Tick
  gb : GB ⟨n.R, n.V⟩
  bel : Bel c n.From (ageN (c.Tick - n.Stamp).toNat ⟨n.R, n.V⟩)
  ask : n.Kind = 2 → n.From = G ∧ n.Stamp ≤ T
  grant : n.Kind = 3 → n.To = G ∧ (0 < n.Until ∧ n.Until ≤ c.Tick + 30) ∧ (c.Guest_.ID = G → c.Tick ≤ n.Until → ∃ (k : Nat) (km : Mate), c.Mates[k]? = some km ∧ km.ID = n.From ∧ km.Ward = G ∧ km.Until = n.Until)
  done : n.Kind = 4 → n.From = G → ∃ (i : Nat) (k m : Mate), c.Mates[i]? = some k ∧ k.ID = G ∧ c.Mates[i + 1]? = some m ∧ m.ID = n.To

section
variable {G T : Int} {c : Convoy}
theorem Inv.noG (I : Inv G T c) (h : c.Guest_.ID ≠ 0) : GuestI G T c c.Guest_ := by
  rcases I.guest with e | e
  · rw [e] at h; exact absurd rfl h
  · exact e
/-- A body is one. -/
theorem Inv.body (I : Inv G T c) {id r v r' v' : Int} (h : Body c id r v) (h' : Body c id r' v') : r = r' ∧ v = v' := by
  cases h with
  | mate i m hm hid =>
    cases h' with
    | mate j k hk hid' =>
      obtain rfl := I.dist i j m k hm hk (hid.trans hid'.symm)
      rw [hm] at hk; cases hk; exact ⟨rfl, rfl⟩
    | guest hg h0 =>
      have gi := I.noG (by rw [hg]; exact h0)
      exact absurd (hid.trans (hg.symm.trans gi.id)) (gi.new i m hm)
  | guest hg h0 =>
    have gi := I.noG (by rw [hg]; exact h0)
    cases h' with
    | mate j k hk hid' => exact absurd (hid'.trans (hg.symm.trans gi.id)) (gi.new j k hk)
    | guest => exact ⟨rfl, rfl⟩
theorem Inv.bel (I : Inv G T c) {id r v : Int} {g : Guess} (h : Bel c id g) (h' : Body c id r v) : Lower g ⟨r, v⟩ := by
  obtain ⟨r', v', hb, L⟩ := h
  obtain ⟨rfl, rfl⟩ := I.body hb h'
  exact L
theorem Inv.bodyB (I : Inv G T c) {id r v : Int} (h : Body c id r v) : (-20000 ≤ r ∧ r ≤ 17000000 + 2000 * c.Tick) ∧ 0 ≤ v ∧ v ≤ 2000 := by
  cases h with
  | mate i m hm hid => have M := I.mates i m hm; have := M.s; have := M.v; have := M.len; omega
  | guest hg h0 => have M := I.noG (by rw [hg]; exact h0); have := M.s; have := M.v; have := M.len; omega
theorem bel_GB (I : Inv G T c) {id : Int} {g : Guess} (hv : 0 ≤ g.V ∧ g.V ≤ 2000) (hr : -20000 ≤ g.R) (h : Bel c id g) : GB g := by
  obtain ⟨r, v, hb, L⟩ := h
  have b := I.bodyB hb
  have := I.tick
  have := L.1
  unfold GB; dsimp only at this; omega
theorem bel_better {id : Int} {g h : Guess} (I : Inv G T c) (hg : GB g) (hh : GB h) (a : Bel c id g) (b : Bel c id h) : Bel c id (betterM g h) := by
  obtain ⟨r, v, hb, L⟩ := a
  exact ⟨r, v, hb, better_low hg hh L (I.bel b hb)⟩

/-! ### One note -/
/-- What a note's guess is. -/
theorem note_guess (I : Inv G T c) {n : Note} (N : NoteI G T c n) (hc : countsM n c.Tick = true) : GB (agedM n c.Tick) ∧ Bel c n.From (agedM n c.Tick) := by
  have hs : c.Tick - n.Stamp ≤ 20 := by
    unfold countsM at hc
    simp only [Bool.and_eq_true, within_iff] at hc
    omega
  have st := N.stamp
  have gb := N.gb
  have e : agedM n c.Tick = ageN (c.Tick - n.Stamp).toNat ⟨n.R, n.V⟩ := by
    unfold agedM ageM
    have := gb.num
    dsimp only at this
    rw [if_pos (by simp [saneM, sane1_iff]; omega)]
    congr 1; omega
  rw [e]
  refine ⟨bel_GB I (ageN_V _ gb.2) ?_ N.bel, N.bel⟩
  have := ageN_R (c.Tick - n.Stamp).toNat gb.2
  have := gb.1
  dsimp only at *
  omega

theorem MateI.setW {i : Nat} {m : Mate} (M : MateI G T c i m) {w : Guess} (h1 : GB w) (h2 : m.Ward ≠ 0 → Bel c G w) (h3 : m.Until ≠ 0 → Lower ⟨m.S + c.Gap, m.V⟩ w) : MateI G T c i { m with WardGuess := w } :=
  ⟨M.id, M.s, M.v, M.len, M.g, h1, M.ahead, fun h => ⟨(M.ward h).1, h2 h⟩, M.untl, M.ub, M.sA, h3, M.pred, M.first⟩
theorem MateI.setG {i : Nat} {m : Mate} (M : MateI G T c i m) {g : Guess} (h1 : GB g) (h2 : m.Ahead ≠ 0 → ∃ (k : Nat) (km : Mate), k < i ∧ c.Mates[k]? = some km ∧ km.ID = m.Ahead ∧ Lower g ⟨km.S - km.Len, km.V⟩) (h3 : m.Ahead ≠ 0 → Lower ⟨m.S + c.Gap, m.V⟩ g) : MateI G T c i { m with Guess_ := g } :=
  ⟨M.id, M.s, M.v, M.len, h1, M.w, h2, M.ward, M.untl, M.ub, h3, M.sW, M.pred, M.first⟩
theorem MateI.setT {i : Nat} {m : Mate} (M : MateI G T c i m) (b : Bool) : MateI G T c i { m with Trust := b } :=
  ⟨M.id, M.s, M.v, M.len, M.g, M.w, M.ahead, M.ward, M.untl, M.ub, M.sA, M.sW, M.pred, M.first⟩
theorem MateI.setA {i : Nat} {m : Mate} (M : MateI G T c i m) {f : Int} {w : Guess} (ht : 0 ≤ c.Tick) (hp : ∀ k, 0 < i → c.Mates[i - 1]? = some k → k.ID = m.Ahead) (h1 : GB w) (h2 : f ≠ 0 → f = G ∧ Bel c G w) : MateI G T c i { m with Ward := f, WardGuess := w, Until := 0 } :=
  ⟨M.id, M.s, M.v, M.len, M.g, h1, M.ahead, h2, fun h => absurd rfl h, ⟨Int.le_refl _, by dsimp only; omega⟩, M.sA, fun h => absurd rfl h, fun k a b => .inl (hp k a b), M.first⟩
theorem pred_ahead {i : Nat} {m : Mate} (M : MateI G T c i m) (h : m.Until = 0) : ∀ k, 0 < i → c.Mates[i - 1]? = some k → k.ID = m.Ahead := fun k a b => by
  rcases M.pred k a b with e | ⟨_, e, _⟩
  · exact e
  · exact absurd h e
theorem hail_inv (I : Inv G T c) {i : Nat} {m : Mate} {n : Note} {x : Option Sight} (M : MateI G T c i m) (N : NoteI G T c n) (hc : countsM n c.Tick = true) : MateI G T c i (hailM m n x c.Tick) := by
  obtain ⟨ga, ba⟩ := note_guess I N hc
  have M1 : MateI G T c i (if m.Until ≠ 0 ∧ n.From = m.Ward then { m with WardGuess := betterM m.WardGuess (agedM n c.Tick) } else m) := by
    split
    · rename_i h
      refine M.setW (better_GB M.w ga) (fun hw => ?_) (fun hu => (M.sW hu).trans (better_up M.w ga))
      obtain ⟨e, b⟩ := M.ward hw
      exact bel_better I M.w ga b (by rw [← e, ← h.2]; exact ba)
    · exact M
  unfold hailM
  dsimp only
  generalize hk : (if m.Until ≠ 0 ∧ n.From = m.Ward then { m with WardGuess := betterM m.WardGuess (agedM n c.Tick) } else m) = k at M1
  clear hk M
  split
  · rename_i ha
    cases x with
    | some x =>
      dsimp only
      split
      · exact M1.setT false
      · exact M1
    | none =>
      dsimp only
      split
      · refine M1.setG (better_GB M1.g ga) (fun _ => ?_) (fun h => (M1.sA h).trans (better_up M1.g ga))
        obtain ⟨j, km, h1, h2, h3, h4⟩ := M1.ahead ha.1
        exact ⟨j, km, h1, h2, h3, better_low M1.g ga h4 (I.bel (by rw [ha.2] at ba; exact ba) (.mate j km h2 h3))⟩
      · exact M1
  · exact M1
theorem ask_inv (I : Inv G T c) {i : Nat} {m : Mate} {n : Note} (M : MateI G T c i m) (N : NoteI G T c n) (hc : countsM n c.Tick = true) (hk : n.Kind = 2) : MateI G T c i (askM m n c.Tick) := by
  obtain ⟨ga, ba⟩ := note_guess I N hc
  obtain ⟨hf, hT⟩ := N.ask hk
  unfold askM
  split
  · exact M
  · split
    · rename_i h
      refine M.setA I.tick.1 (fun k a b => ?_) ga (fun _ => ⟨hf, by rw [← hf]; exact ba⟩)
      rcases M.pred k a b with e | ⟨e1, e2, e3⟩
      · exact e
      · rcases h with h | ⟨h1, h2, h3⟩
        · exact absurd h (M.untl e2)
        · omega
    · split
      · rename_i h
        refine M.setW (better_GB M.w ga) (fun hw => ?_) (fun hu => (M.sW hu).trans (better_up M.w ga))
        exact bel_better I M.w ga (M.ward hw).2 (by rw [← hf]; exact ba)
      · exact M
theorem done_inv (I : Inv G T c) {i : Nat} {m m0 : Mate} {n : Note} {x : Option Sight} (M : MateI G T c i m) (hm : c.Mates[i]? = some m0) (hid : m.ID = m0.ID) (N : NoteI G T c n) (hc : countsM n c.Tick = true) (hk : n.Kind = 4) : MateI G T c i (doneM m n x c.Tick) := by
  obtain ⟨ga, ba⟩ := note_guess I N hc
  unfold doneM
  split
  · exact M
  · rename_i h
    simp only [not_or, Decidable.not_not] at h
    obtain ⟨h1, h2, h3⟩ := h
    have hw := M.untl h2
    obtain ⟨eG, bG⟩ := M.ward hw
    obtain ⟨j, kk, mm, a1, a2, a3, a4⟩ := N.done hk (h3.trans eG)
    obtain rfl : j + 1 = i := I.dist _ _ _ _ a3 hm (a4.trans (h1.trans hid))
    have hb : Body c G (kk.S - kk.Len) kk.V := .mate j kk a1 a2
    have ba' : Bel c G (agedM n c.Tick) := by rw [← eG, ← h3]; exact ba
    have key : ∀ g, GB g → Bel c G g → Lower m.WardGuess g → MateI G T c (j + 1) { m with Ahead := m.Ward, Guess_ := g, Trust := true, Ward := 0, WardGuess := ⟨0, 0⟩, Until := 0 } := fun g h1 h2 h3 =>
      ⟨M.id, M.s, M.v, M.len, h1, by unfold GB; dsimp only; omega, fun _ => ⟨j, kk, by omega, a1, a2.trans eG.symm, I.bel h2 hb⟩, fun h => absurd rfl h, fun h => absurd rfl h, ⟨Int.le_refl _, by have := I.tick; dsimp only; omega⟩,
        fun _ => (M.sW (by assumption)).trans h3, fun h => absurd rfl h, fun k _ hk => by
          rw [Nat.add_sub_cancel, a1] at hk; cases hk; exact .inl (a2.trans eG.symm), fun h => by omega⟩
    cases x with
    | some x => exact key _ M.w bG (Lower.refl _)
    | none => exact key _ (better_GB M.w ga) (bel_better I M.w ga bG ba') (better_up M.w ga)
theorem hear_inv (I : Inv G T c) {i : Nat} {m m0 : Mate} {n : Note} {x : Option Sight} (M : MateI G T c i m) (hm : c.Mates[i]? = some m0) (hid : m.ID = m0.ID) (N : NoteI G T c n) (hc : countsM n c.Tick = true) : MateI G T c i (hearM m n x c.Tick) := by
  unfold hearM
  split
  · exact hail_inv I M N hc
  · split
    · rename_i h; exact ask_inv I M N hc h
    · split
      · rename_i h; exact done_inv I M hm hid N hc h
      · exact M

/-- What a mate keeps while it hears. -/
structure Same4 (m0 k : Mate) : Prop where
  id : k.ID = m0.ID
  s : k.S = m0.S
  v : k.V = m0.V
  len : k.Len = m0.Len
theorem Same4.refl (m : Mate) : Same4 m m := ⟨rfl, rfl, rfl, rfl⟩
theorem Same4.trans {a b d : Mate} (h : Same4 a b) (h' : Same4 b d) : Same4 a d := ⟨h'.id.trans h.id, h'.s.trans h.s, h'.v.trans h.v, h'.len.trans h.len⟩
theorem hear_same (m : Mate) (n : Note) (x : Option Sight) (t : Int) : Same4 m (hearM m n x t) := by
  unfold hearM hailM askM doneM
  cases x <;> dsimp only <;> (repeat' split) <;> exact ⟨rfl, rfl, rfl, rfl⟩
/-- A grant that holds is kept as long as the guest has not merged. -/
def Holds (G u : Int) (m : Mate) : Prop := m.Ward = G ∧ m.Until = u
theorem hear_holds (I : Inv G T c) {m : Mate} {n : Note} {x : Option Sight} {u : Int} (H : Holds G u m) (hu : 0 < u) (ht : c.Tick ≤ u) (hg : c.Guest_.ID = G) (N : NoteI G T c n) : Holds G u (hearM m n x c.Tick) := by
  obtain ⟨h1, h2⟩ := H
  have gi := I.noG (by rw [hg]; exact I.gpos)
  unfold hearM
  split
  · unfold hailM
    cases x <;> dsimp only <;> (repeat' split) <;> exact ⟨h1, h2⟩
  · split
    · unfold askM
      split
      · exact ⟨h1, h2⟩
      · split
        · rename_i h
          have := N.stamp
          have := I.gpos
          omega
        · split <;> exact ⟨h1, h2⟩
    · split
      · rename_i hk
        unfold doneM
        split
        · exact ⟨h1, h2⟩
        · rename_i h
          simp only [not_or, Decidable.not_not] at h
          obtain ⟨j, kk, mm, a1, a2, _⟩ := N.done hk (h.2.2.trans h1)
          exact absurd a2 (gi.new j kk a1)
      · exact ⟨h1, h2⟩
end
end Go.Abs.Convoy

namespace Go.Abs.Convoy
open Go Go.Abs

section
variable {G T : Int} {c : Convoy}
/-! ### The chain of mates -/
theorem pred_lower (I : Inv G T c) {i : Nat} {m k : Mate} (hm : c.Mates[i]? = some m) (hi : 0 < i) (hk : c.Mates[i - 1]? = some k) : Lower ⟨m.S + c.Gap, m.V⟩ ⟨k.S - k.Len, k.V⟩ := by
  have M := I.mates i m hm
  have K := I.mates _ k hk
  rcases M.pred k hi hk with e | ⟨e, u, _⟩
  · have h0 : m.Ahead ≠ 0 := by have := K.id; omega
    obtain ⟨j, km, h1, h2, h3, h4⟩ := M.ahead h0
    obtain rfl : j = i - 1 := I.dist _ _ _ _ h2 hk (h3.trans e.symm)
    rw [hk] at h2; cases h2
    exact (M.sA h0).trans h4
  · obtain ⟨e1, b⟩ := M.ward (M.untl u)
    exact (M.sW u).trans (I.bel b (.mate _ k hk (e.trans e1)))
theorem chain_lower (I : Inv G T c) : ∀ (d i : Nat) {m k : Mate}, c.Mates[i]? = some k → c.Mates[i + d]? = some m → Lower ⟨m.S - m.Len, m.V⟩ ⟨k.S - k.Len, k.V⟩
  | 0, i, m, k, hk, hm => by
    rw [Nat.add_zero, hk] at hm; cases hm; exact Lower.refl _
  | d + 1, i, m, k, hk, hm => by
    have hlt := get_lt hm
    obtain ⟨p, hp⟩ : ∃ p, c.Mates[i + d]? = some p := ⟨_, List.getElem?_eq_getElem (by omega)⟩
    have h1 := pred_lower I hm (by omega) (by rw [show i + (d + 1) - 1 = i + d by omega]; exact hp)
    have M := I.mates _ m hm
    refine Lower.trans ⟨?_, ?_⟩ (h1.trans (chain_lower I d i hk hp))
    · have := M.len; have := I.gap; dsimp only; omega
    · have := M.len; have := I.gap; unfold endM; dsimp only; omega

/-! ### Sights -/
structure SightI (G : Int) (c : Convoy) (x : Sight) : Prop where
  mate : ∀ (i : Nat) m k, c.Mates[i]? = some m → m.ID = x.By → 0 < i → c.Mates[i - 1]? = some k → Lower ⟨x.Lo, x.VLo⟩ ⟨k.S - k.Len, k.V⟩
  guest : c.Guest_.ID ≠ 0 → c.Guest_.ID = x.By → ∀ (k : Nat) km, (besM c).1 = (k : Int) → c.Mates[k]? = some km → Lower ⟨x.Lo, x.VLo⟩ ⟨km.S - km.Len, km.V⟩
theorem sight_of {l : List Sight} {id : Int} {x : Sight} (h : sightM l id = some x) : x ∈ l ∧ x.By = id ∧ GB ⟨x.Lo, x.VLo⟩ := by
  have h1 := List.mem_of_find?_eq_some h
  have h2 := List.find?_some h
  unfold sightP at h2
  simp only [Bool.and_eq_true, decide_eq_true_eq, beq_iff_eq] at h2
  refine ⟨h1, h2.1.1.1.1.1.1, ?_⟩
  unfold GB; dsimp only; omega

/-! ### What a mate believes -/
theorem forget_inv (I : Inv G T c) {i : Nat} {m : Mate} (M : MateI G T c i m) (b : Bool) : MateI G T c i (forgetM m b) := by
  unfold forgetM
  split
  · rename_i h
    exact M.setA I.tick.1 (pred_ahead M h.2.1) (by unfold GB; dsimp only; omega) (fun h => absurd rfl h)
  · exact M
theorem see_inv (I : Inv G T c) {i : Nat} {m m0 : Mate} {l : List Sight} (hl : ∀ x ∈ l, SightI G c x) (M : MateI G T c i m) (hm : c.Mates[i]? = some m0) : MateI G T c i (seeM m (sightM l m0.ID)) := by
  cases hx : sightM l m0.ID with
  | none => exact M
  | some x =>
    obtain ⟨h1, h2, h3⟩ := sight_of hx
    unfold seeM
    dsimp only
    split
    · refine M.setG (better_GB M.g h3) (fun ha => ?_) (fun ha => (M.sA ha).trans (better_up M.g h3))
      obtain ⟨j, km, a1, a2, a3, a4⟩ := M.ahead ha
      have hlt := get_lt hm
      obtain ⟨p, hp⟩ : ∃ p, c.Mates[i - 1]? = some p := ⟨_, List.getElem?_eq_getElem (by omega)⟩
      have q := (hl x h1).mate i m0 p hm h2.symm (by omega) hp
      exact ⟨j, km, a1, a2, a3, better_low M.g h3 a4 (q.trans (chain_lower I (i - 1 - j) j a2 (by rw [show j + (i - 1 - j) = i - 1 by omega]; exact hp)))⟩
    · exact M
theorem grant_inv (I : Inv G T c) {i : Nat} {m : Mate} (M : MateI G T c i m) : MateI G T c i (grantM c.Gap c.Tick m) := by
  unfold grantM
  split
  · rename_i h
    have e := I.tick
    have gp := I.gap
    have a1 := M.s
    have a2 := M.v
    have a3 := M.w.num
    have hs := (safeM_iff (sane5 (by omega))).1 h.2.2
    exact ⟨M.id, M.s, M.v, M.len, M.g, M.w, M.ahead, M.ward, fun _ => h.1, ⟨by dsimp only; omega, by dsimp only; omega⟩, M.sA, fun _ => hs, fun k a b => .inl (pred_ahead M h.2.1 k a b), M.first⟩
  · exact M
theorem forget_same (m : Mate) (b : Bool) : Same4 m (forgetM m b) := by unfold forgetM; split <;> exact ⟨rfl, rfl, rfl, rfl⟩
theorem see_same (m : Mate) (x : Option Sight) : Same4 m (seeM m x) := by unfold seeM; cases x <;> dsimp only <;> (repeat' split) <;> exact ⟨rfl, rfl, rfl, rfl⟩
theorem grant_same (gap t : Int) (m : Mate) : Same4 m (grantM gap t m) := by unfold grantM; split <;> exact ⟨rfl, rfl, rfl, rfl⟩
/-- What the notes have to be, so that hearing them keeps what is true of a mate. -/
def Kind1 (G T : Int) (c : Convoy) (i : Nat) (m0 : Mate) (x : Option Sight) (n : Note) : Prop :=
  countsM n c.Tick = true → n.From ≠ m0.ID → ∀ k, MateI G T c i k → Same4 m0 k → MateI G T c i (hearM k n x c.Tick)
theorem heard_fold {i : Nat} {m0 : Mate} {x : Option Sight} : ∀ (notes : List Note), (∀ n ∈ notes, Kind1 G T c i m0 x n) → ∀ k, MateI G T c i k → Same4 m0 k →
    MateI G T c i (notes.foldl (fun k n => if countsM n c.Tick && n.From != m0.ID then hearM k n x c.Tick else k) k) ∧ Same4 m0 (notes.foldl (fun k n => if countsM n c.Tick && n.From != m0.ID then hearM k n x c.Tick else k) k)
  | [], _, k, M, S => ⟨M, S⟩
  | n :: r, h, k, M, S => by
    rw [List.foldl_cons]
    refine heard_fold r (fun n hn => h n (List.mem_cons_of_mem _ hn)) _ ?_ ?_
    · split
      · rename_i q
        simp only [Bool.and_eq_true, bne_iff_ne, ne_eq] at q
        exact h n (List.mem_cons_self) q.1 q.2 k M S
      · exact M
    · split
      · exact S.trans (hear_same _ _ _ _)
      · exact S
theorem believe_inv (I : Inv G T c) {i : Nat} {m : Mate} {notes : List Note} {sights : List Sight} (hm : c.Mates[i]? = some m) (hn : ∀ n ∈ notes, Kind1 G T c i m (sightM sights m.ID) n) (hs : ∀ x ∈ sights, SightI G c x) :
    MateI G T c i (believeM c notes sights m) ∧ Same4 m (believeM c notes sights m) := by
  obtain ⟨h1, h2⟩ := heard_fold notes hn m (I.mates i m hm) (Same4.refl m)
  unfold believeM heardM
  dsimp only
  exact ⟨grant_inv I (see_inv I hs (forget_inv I h1 _) hm), ((h2.trans (forget_same _ _)).trans (see_same _ _)).trans (grant_same _ _ _)⟩
theorem kind1_note (I : Inv G T c) {i : Nat} {m : Mate} (hm : c.Mates[i]? = some m) {x : Option Sight} {n : Note} (N : NoteI G T c n) : Kind1 G T c i m x n :=
  fun hc _ _ M S => hear_inv I M hm S.id N hc
/-- A grant that holds. -/
theorem believe_holds (I : Inv G T c) {m : Mate} {notes : List Note} {sights : List Sight} (hn : ∀ n ∈ notes, NoteI G T c n) {u : Int} (H : Holds G u m) (hu : 0 < u) (ht : c.Tick ≤ u) (hg : c.Guest_.ID = G) : Holds G u (believeM c notes sights m) := by
  have key : ∀ (l : List Note), (∀ n ∈ l, NoteI G T c n) → ∀ k, Holds G u k → Holds G u (l.foldl (fun k n => if countsM n c.Tick && n.From != m.ID then hearM k n (sightM sights m.ID) c.Tick else k) k) := by
    intro l
    induction l with
    | nil => exact fun _ k h => h
    | cons n r ih =>
      intro h k hk
      rw [List.foldl_cons]
      refine ih (fun n hn => h n (List.mem_cons_of_mem _ hn)) _ ?_
      split
      · exact hear_holds I hk hu ht hg (h n List.mem_cons_self)
      · exact hk
  have h1 := key notes hn m H
  unfold believeM heardM
  dsimp only
  generalize notes.foldl (fun k n => if countsM n c.Tick && n.From != m.ID then hearM k n (sightM sights m.ID) c.Tick else k) m = k at h1
  obtain ⟨a, b⟩ := h1
  have h2 : Holds G u (forgetM k (notes.any (asksM k c.Tick))) := by
    unfold forgetM
    split
    · rename_i h; omega
    · exact ⟨a, b⟩
  have h3 : ∀ k x, Holds G u k → Holds G u (seeM k x) := by
    intro k x h
    unfold seeM
    cases x <;> dsimp only <;> (repeat' split) <;> exact h
  have h4 := h3 _ (sightM sights m.ID) h2
  generalize seeM _ _ = k' at h4
  unfold grantM
  split
  · rename_i h; have := h4.2; omega
  · exact h4

/-! ### How a mate moves -/
theorem down_ok (right : Int → Bool) : ∀ (k : Nat) (a : Int), a = -90 + k → (-90 ≤ downM right k a ∧ downM right k a ≤ a) ∧ (right (-90) = true → right (downM right k a) = true)
  | 0, a, h => by
    obtain rfl : a = -90 := by omega
    exact ⟨⟨Int.le_refl _, Int.le_refl _⟩, id⟩
  | k + 1, a, h => by
    unfold downM
    split
    · rename_i q; exact ⟨by omega, fun _ => q⟩
    · have := down_ok right k (a - 1) (by omega)
      exact ⟨by omega, this.2⟩
theorem great_ok (right : Int → Bool) (want : Int) : (-90 ≤ greatM right want ∧ greatM right want ≤ max (-90) (min want 30)) ∧ (right (-90) = true → right (greatM right want) = true) :=
  down_ok right _ _ (by omega)
theorem speed_brake {v : Int} (h : 0 ≤ v ∧ v ≤ 2000) : speedM v (-90) = max 0 (v - 90) := by unfold speedM; omega
theorem may_brake (I : Inv G T c) {i : Nat} {m : Mate} (M : MateI G T c i m) : mayM c.Gap m (-90) = true := by
  have e := I.tick
  have gp := I.gap
  have a1 := M.s
  have a2 := M.v
  have a3 := M.g.num
  have a4 := M.w.num
  unfold mayM keepM
  rw [speed_brake M.v, age1_of M.g, age1_of M.w]
  have key : ∀ g : Guess, GB g → Lower ⟨m.S + c.Gap, m.V⟩ g → safeM (m.S + max 0 (m.V - 90)) (max 0 (m.V - 90)) c.Gap (age1 g) = true := by
    intro g hg L
    have b := hg.num
    rw [safeM_iff (sane5 (by unfold age1; dsimp only; omega))]
    have := age1_lower (g := ⟨m.S + c.Gap, m.V⟩) a2 hg.2 L
    unfold age1 at this ⊢
    dsimp only at this
    rwa [show m.S + max 0 (m.V - 90) + c.Gap = m.S + c.Gap + max 0 (m.V - 90) by omega]
  rw [Bool.and_eq_true, Bool.or_eq_true, Bool.or_eq_true]
  constructor
  · by_cases h : m.Ahead = 0
    · left; simpa using h
    · right; exact key _ M.g (M.sA h)
  · by_cases h : m.Until = 0
    · left; simpa using h
    · right; exact key _ M.w (M.sW h)
/-- What a drive does to the numbers. -/
structure Drove (m k : Mate) : Prop where
  id : k.ID = m.ID
  len : k.Len = m.Len
  s : k.S = m.S + k.V
  v : max 0 (m.V - 90) ≤ k.V ∧ k.V ≤ 2000
theorem drive_drove {m : Mate} (hv : 0 ≤ m.V ∧ m.V ≤ 2000) (gap want : Int) : Drove m (driveM gap m want) :=
  ⟨rfl, rfl, rfl, speed_low hv (great_ok _ _).1.1, (speed_bd _ _).2⟩
/-- All bodies move so. -/
structure Moves (c d : Convoy) : Prop where
  tick : d.Tick = c.Tick + 1
  gap : d.Gap = c.Gap
  body : ∀ id r v, Body c id r v → ∃ w, (max 0 (v - 90) ≤ w ∧ w ≤ 2000) ∧ Body d id (r + w) w
theorem bel_moves (I : Inv G T c) {d : Convoy} (mv : Moves c d) {id : Int} {g : Guess} (hg : 0 ≤ g.V ∧ g.V ≤ 2000) (h : Bel c id g) : Bel d id (age1 g) := by
  obtain ⟨r, v, hb, L⟩ := h
  obtain ⟨w, hw, hb'⟩ := mv.body id r v hb
  exact ⟨_, _, hb', age_move hg (I.bodyB hb).2 hw L⟩
theorem drive_inv (I : Inv G T c) {d : Convoy} {i i' : Nat} {T' : Int} {k : Mate} (M : MateI G T c i k) (want : Int) (mv : Moves c d) (hle : c.Tick ≤ 1000)
    (hahead : ∀ (j : Nat) km, j < i → c.Mates[j]? = some km → ∃ (j' : Nat) (km' : Mate), j' < i' ∧ d.Mates[j']? = some km' ∧ Drove km km')
    (hpred : ∀ k', 0 < i' → d.Mates[i' - 1]? = some k' → k'.ID = k.Ahead ∨ (k'.ID = k.Ward ∧ k.Until ≠ 0 ∧ T' ≤ k.Until)) (hfirst : i' = 0 → k.Ahead = 0) : MateI G T' d i' (driveM c.Gap k want) := by
  have e := I.tick
  have gp := I.gap
  have mt := mv.tick
  have hm : keepM c.Gap k (driveM c.Gap k want).S (driveM c.Gap k want).V (ageM k.Guess_ 1) (ageM k.WardGuess 1) = true := (great_ok (mayM c.Gap k) (wantM k want)).2 (may_brake I M)
  have hd := drive_drove M.v c.Gap want (m := k)
  have a1 := M.s
  have a2 := M.v
  have a3 := M.g.num
  have a4 := M.w.num
  unfold keepM at hm
  rw [age1_of M.g, age1_of M.w, Bool.and_eq_true, Bool.or_eq_true, Bool.or_eq_true] at hm
  have hg : (driveM c.Gap k want).Guess_ = if k.Ahead ≠ 0 then age1 k.Guess_ else k.Guess_ := by rw [← age1_of M.g]; rfl
  have hw : (driveM c.Gap k want).WardGuess = if k.Ward ≠ 0 then age1 k.WardGuess else k.WardGuess := by rw [← age1_of M.w]; rfl
  have hAh : (driveM c.Gap k want).Ahead = k.Ahead := rfl
  have hWa : (driveM c.Gap k want).Ward = k.Ward := rfl
  have hUn : (driveM c.Gap k want).Until = k.Until := rfl
  generalize driveM c.Gap k want = k' at *
  have b1 := hd.s
  have b2 := hd.v
  have hA : k.Ahead ≠ 0 → ∃ (j' : Nat) (km' : Mate), j' < i' ∧ d.Mates[j']? = some km' ∧ km'.ID = k.Ahead ∧ Lower (age1 k.Guess_) ⟨km'.S - km'.Len, km'.V⟩ ∧ km'.S - km'.Len ≤ 17000000 + 2000 * c.Tick + 2000 := by
    intro h
    obtain ⟨j, km, h1, h2, h3, h4⟩ := M.ahead h
    obtain ⟨j', km', q1, q2, q3⟩ := hahead j km h1 h2
    have K := I.mates j km h2
    refine ⟨j', km', q1, q2, q3.id.trans h3, ?_, ?_⟩
    · rw [q3.s, q3.len, show km.S + km'.V - km.Len = km.S - km.Len + km'.V by omega]
      exact age_move M.g.2 K.v q3.v h4
    · have := K.s; have := K.len; have := q3.v; rw [q3.s, q3.len]; omega
  refine ⟨by rw [hd.id]; exact M.id, ?_, ⟨by omega, b2.2⟩, by rw [hd.len]; exact M.len, ?_, ?_, ?_, ?_, by rw [hUn, hWa]; exact M.untl, ?_, ?_, ?_, by rw [hAh, hWa, hUn]; exact hpred, by rw [hAh]; exact hfirst⟩
  · rw [b1, mt]; omega
  · rw [hg]
    split
    · rename_i h
      obtain ⟨j', km', _, _, _, L, q⟩ := hA h
      have l1 := L.1
      have := age1_V M.g.2
      have M' := M.g
      unfold GB at M' ⊢
      unfold age1 at l1 ⊢
      dsimp only at l1 ⊢
      omega
    · exact M.g
  · rw [hw]
    split
    · rename_i h
      obtain ⟨_, b⟩ := M.ward h
      obtain ⟨r, v, hb, L⟩ := b
      have bb := I.bodyB hb
      have l1 := L.1
      have M' := M.w
      unfold GB at M' ⊢
      unfold age1
      dsimp only at l1 ⊢
      omega
    · exact M.w
  · rw [hAh]
    intro h
    rw [hg, if_pos h]
    obtain ⟨j', km', q1, q2, q3, q4, _⟩ := hA h
    exact ⟨j', km', q1, q2, q3, q4⟩
  · rw [hWa]
    intro h
    rw [hw, if_pos h]
    exact ⟨(M.ward h).1, bel_moves I mv M.w.2 (M.ward h).2⟩
  · have := M.ub
    rw [hUn]
    omega
  · rw [hAh]
    intro h
    rw [hg, if_pos h, mv.gap]
    rcases hm.1 with q | q
    · exact absurd (by simpa using q) h
    · have e1 : (age1 k.Guess_).R = k.Guess_.R + max 0 (k.Guess_.V - 90) := rfl
      have e2 : (age1 k.Guess_).V = max 0 (k.Guess_.V - 90) := rfl
      clear hA hahead hpred hfirst
      have hs : saneM [k'.S, k'.V, c.Gap, (age1 k.Guess_).R, (age1 k.Guess_).V] = true := sane5 (by omega)
      exact (safeM_iff hs).1 q
  · rw [hUn]
    intro h
    rw [hw, if_pos (M.untl h), mv.gap]
    rcases hm.2 with q | q
    · exact absurd (by simpa using q) h
    · have e1 : (age1 k.WardGuess).R = k.WardGuess.R + max 0 (k.WardGuess.V - 90) := rfl
      have e2 : (age1 k.WardGuess).V = max 0 (k.WardGuess.V - 90) := rfl
      clear hA hahead hpred hfirst
      have hs : saneM [k'.S, k'.V, c.Gap, (age1 k.WardGuess).R, (age1 k.WardGuess).V] = true := sane5 (by omega)
      exact (safeM_iff hs).1 q
end
end Go.Abs.Convoy

namespace Go.Abs.Convoy
open Go Go.Abs

section
variable {G T : Int} {c : Convoy}
/-! ### The guest -/
theorem idAt_of (c : Convoy) (i : Int) : (idAt c i = 0 ∧ ∀ k : Nat, i = (k : Int) → c.Mates[k]? = none) ∨ ∃ (k : Nat) (m : Mate), i = (k : Int) ∧ c.Mates[k]? = some m ∧ idAt c i = m.ID := by
  unfold idAt
  split
  · rename_i h
    obtain ⟨k, rfl⟩ : ∃ k : Nat, i = (k : Int) := ⟨i.toNat, (Int.toNat_of_nonneg h).symm⟩
    rw [Int.toNat_natCast]
    cases hk : c.Mates[k]? with
    | none =>
      refine .inl ⟨rfl, fun j hj => ?_⟩
      have : j = k := by omega
      rw [this]; exact hk
    | some m => exact .inr ⟨k, m, rfl, hk, rfl⟩
  · exact .inl ⟨rfl, fun k hk => by omega⟩
/-- The guest while it hears. -/
structure Hears (G T : Int) (c : Convoy) (g : Guest) : Prop where
  gi : GuestI G T c g
  front : g.Ahead = 0 ∨ g.Ahead = idAt c (besM c).1
theorem near_inv (I : Inv G T c) {g : Guest} (H : Hears G T c g) {x : Guess} (hx : GB x) (hf : idAt c (besM c).1 ≠ 0) (hL : ∀ (k : Nat) km, (besM c).1 = (k : Int) → c.Mates[k]? = some km → Lower x ⟨km.S - km.Len, km.V⟩) : Hears G T c (nearM g (idAt c (besM c).1) x) := by
  obtain ⟨M, F⟩ := H
  rcases idAt_of c (besM c).1 with ⟨e, _⟩ | ⟨k, km, e1, e2, e3⟩
  · exact absurd e hf
  have L := hL k km e1 e2
  have hg : GB (if g.Ahead ≠ 0 then betterM g.Guess_ x else x) := by split; exact better_GB M.gs hx; exact hx
  refine ⟨⟨M.id, M.gid, M.new, M.s, M.v, M.len, M.stops, M.fin, hg, fun _ => ⟨k, km, e2, e3.symm, ?_⟩, M.from_, M.ub, M.fromU, M.grant, M.now⟩, .inr rfl⟩
  show Lower (if g.Ahead ≠ 0 then betterM g.Guess_ x else x) _
  split
  · rename_i h
    refine better_low M.gs hx ?_ L
    obtain ⟨j, kj, a1, a2, a3⟩ := M.ahead h
    have : kj.ID = km.ID := by
      rcases F with q | q
      · exact absurd q h
      · rw [a2, q, e3]
    obtain rfl := I.dist j k kj km a1 e2 this
    rw [e2] at a1; cases a1; exact a3
  · exact L
theorem learn_inv (I : Inv G T c) (hg : c.Guest_.ID = G) {g : Guest} (H : Hears G T c g) {n : Note} (N : NoteI G T c n) : Hears G T c (learnM (idAt c (besM c).1) (idAt c (besM c).2) c.Tick g n) := by
  unfold learnM
  split
  · rename_i hc
    obtain ⟨ga, ba⟩ := note_guess I N hc
    split
    · rename_i h
      refine near_inv I H ga h.2.1 fun k km e1 e2 => ?_
      rcases idAt_of c (besM c).1 with ⟨e, _⟩ | ⟨k', km', q1, q2, q3⟩
      · exact absurd e h.2.1
      · obtain rfl : k = k' := by omega
        rw [e2] at q2; cases q2
        exact I.bel ba (.mate k km e2 (by rw [h.2.2, q3]))
    · split
      · rename_i h
        obtain ⟨M, F⟩ := H
        obtain ⟨n1, n2, n3⟩ := N.grant h.1
        rcases idAt_of c (besM c).2 with ⟨e, _⟩ | ⟨k', km', q1, q2, q3⟩
        · exact absurd e h.2.2.1
        · have K := I.mates k' km' q2
          refine ⟨⟨M.id, M.gid, M.new, M.s, M.v, M.len, M.stops, M.fin, M.gs, M.ahead, by have := K.id; dsimp only; omega, ⟨by dsimp only; omega, n2.2⟩, fun _ => n2.1, fun _ hu => ?_, M.now⟩, F⟩
          obtain ⟨j, km, a1, a2, a3, a4⟩ := n3 hg hu
          exact ⟨j, km, a1, a2.trans h.2.2.2.1, a3, a4⟩
      · exact H
  · exact H
theorem learns_inv (I : Inv G T c) (hg : c.Guest_.ID = G) {notes : List Note} {sights : List Sight} (hn : ∀ n ∈ notes, NoteI G T c n) (hs : ∀ x ∈ sights, SightI G c x) : Hears G T c (learnsM c notes sights) := by
  have gi := I.noG (by rw [hg]; exact I.gpos)
  have H0 : Hears G T c (if c.Guest_.Ahead ≠ idAt c (besM c).1 then { c.Guest_ with Ahead := 0, Guess_ := ⟨0, 0⟩ } else c.Guest_) := by
    split
    · exact ⟨⟨gi.id, gi.gid, gi.new, gi.s, gi.v, gi.len, gi.stops, gi.fin, by unfold GB; dsimp only; omega, fun h => absurd rfl h, gi.from_, gi.ub, gi.fromU, gi.grant, gi.now⟩, .inl rfl⟩
    · rename_i h; exact ⟨gi, .inr (by simpa using h)⟩
  have key : ∀ (l : List Note), (∀ n ∈ l, NoteI G T c n) → ∀ g, Hears G T c g → Hears G T c (l.foldl (learnM (idAt c (besM c).1) (idAt c (besM c).2) c.Tick) g) := by
    intro l
    induction l with
    | nil => exact fun _ g h => h
    | cons n r ih => exact fun h g hg' => ih (fun n hn => h n (List.mem_cons_of_mem _ hn)) _ (learn_inv I hg hg' (h n List.mem_cons_self))
  have H1 := key notes hn _ H0
  unfold learnsM
  dsimp only
  generalize (notes.foldl (learnM (idAt c (besM c).1) (idAt c (besM c).2) c.Tick) (if c.Guest_.Ahead ≠ idAt c (besM c).1 then { c.Guest_ with Ahead := 0, Guess_ := ⟨0, 0⟩ } else c.Guest_)) = g at H1
  cases hx : sightM sights g.ID with
  | none => exact H1
  | some x =>
    obtain ⟨h1, h2, h3⟩ := sight_of hx
    dsimp only
    split
    · rename_i hf
      refine near_inv I H1 h3 hf ((hs x h1).guest (by rw [hg]; exact I.gpos) ?_)
      rw [hg, h2, H1.gi.id]
    · exact H1
/-- The guest as a mate. -/
theorem new_inv (I : Inv G T c) {g : Guest} (H : Hears G T c g) (hm : mergeM c g = true) {p : Nat} (hp : ((besM c).1 + 1).toNat = p) : MateI G T c p (newMate g) := by
  obtain ⟨M, F⟩ := H
  have e := I.tick
  have gp := I.gap
  unfold mergeM at hm
  simp only [Bool.and_eq_true, Bool.or_eq_true, beq_iff_eq, decide_eq_true_eq] at hm
  have hb := (besM_lt c).2.1
  have hA : g.Ahead ≠ 0 → ∃ km, 0 < p ∧ c.Mates[p - 1]? = some km ∧ km.ID = g.Ahead ∧ Lower g.Guess_ ⟨km.S - km.Len, km.V⟩ ∧ Lower ⟨g.S + c.Gap, g.V⟩ g.Guess_ := by
    intro h
    obtain ⟨j, kj, a1, a2, a3⟩ := M.ahead h
    rcases F with q | q
    · exact absurd q h
    rcases idAt_of c (besM c).1 with ⟨z, _⟩ | ⟨k, km, e1, e2, e3⟩
    · exact absurd (q.trans z) h
    obtain rfl := I.dist j k kj km a1 e2 (by rw [a2, q, e3])
    rw [e2] at a1; cases a1
    have hk : p - 1 = j := by omega
    refine ⟨_, by omega, by rw [hk]; exact e2, a2, a3, ?_⟩
    rcases hm.1 with z | ⟨_, z⟩
    · exact absurd (q.trans z) h
    · have s := M.s; have v := M.v; have b := M.gs.num
      exact (safeM_iff (sane5 (by omega))).1 z
  have hid := M.id
  have hgid := M.gid
  refine ⟨by show 1 ≤ g.ID ∧ g.ID ≤ 99; omega, M.s, M.v, M.len, M.gs, by show GB ⟨0, 0⟩; unfold GB; dsimp only; omega, fun h => ?_, fun h => absurd rfl h, fun h => absurd rfl h, ⟨Int.le_refl _, by show (0 : Int) ≤ _; omega⟩, fun h => ?_, fun h => absurd rfl h, fun k h hk => ?_, fun h => ?_⟩
  · obtain ⟨km, h1, h2, h3, h4, _⟩ := hA h
    exact ⟨p - 1, km, by omega, h2, h3, h4⟩
  · obtain ⟨km, h1, h2, h3, _, h4⟩ := hA h
    exact h4
  · left
    clear hA
    rcases idAt_of c (besM c).1 with ⟨z, z'⟩ | ⟨j, km, e1, e2, e3⟩
    · have := z' (p - 1) (by omega)
      rw [hk] at this; cases this
    · obtain rfl : p - 1 = j := by omega
      rw [hk] at e2; cases e2
      have K := I.mates _ k hk
      rcases hm.1 with z | ⟨z, _⟩
      · have := K.id; omega
      · exact (z.trans e3).symm
  · show g.Ahead = 0
    clear hA
    rcases F with q | q
    · exact q
    rcases idAt_of c (besM c).1 with ⟨z, z'⟩ | ⟨j, km, e1, e2, e3⟩
    · exact q.trans z
    · omega
theorem roll_ok {g : Guest} {want : Int} (hv : 0 ≤ g.V ∧ g.V ≤ 2000) (hs : g.S + stopM g.V < g.End) :
    (rollM g want).S = g.S + (rollM g want).V ∧ (max 0 (g.V - 90) ≤ (rollM g want).V ∧ (rollM g want).V ≤ 2000) ∧ (rollM g want).S + stopM (rollM g want).V < g.End := by
  have h := great_ok (fun a => decide (g.S + speedM g.V a + stopM (speedM g.V a) < g.End)) want
  refine ⟨rfl, ⟨speed_low hv h.1.1, (speed_bd _ _).2⟩, ?_⟩
  have := h.2 (by
    rw [speed_brake hv, decide_eq_true_eq]
    have := stopM_next hv.1 (show g.V ≤ 1000000 by omega)
    omega)
  rw [decide_eq_true_eq] at this
  exact this

/-! ### A step -/
theorem drove_mates (notes : List Note) (sights : List Sight) (wants : List Int) {i : Nat} {m : Mate} (hm : c.Mates[i]? = some m) : (matesM c wants notes sights)[i]? = some (driveM c.Gap (believeM c notes sights m) (wantsM wants i)) := by
  unfold matesM
  rw [List.getElem?_mapIdx, hm]; rfl
theorem len_mates (notes : List Note) (sights : List Sight) (wants : List Int) : (matesM c wants notes sights).length = c.Mates.length := List.length_mapIdx
theorem of_mates {notes : List Note} {sights : List Sight} {wants : List Int} {i : Nat} {k : Mate} (h : (matesM c wants notes sights)[i]? = some k) : ∃ m, c.Mates[i]? = some m ∧ k = driveM c.Gap (believeM c notes sights m) (wantsM wants i) := by
  have hlt := get_lt h
  rw [len_mates] at hlt
  have e := drove_mates (c := c) notes sights wants (List.getElem?_eq_getElem hlt)
  rw [h] at e
  exact ⟨_, List.getElem?_eq_getElem hlt, Option.some.inj e⟩
/-- What the notes and the sights of a step are. -/
structure Told (G T : Int) (c : Convoy) (notes : List Note) (sights : List Sight) : Prop where
  kind1 : ∀ (i : Nat) m, c.Mates[i]? = some m → ∀ n ∈ notes, Kind1 G T c i m (sightM sights m.ID) n
  notes : c.Guest_.ID = G → ∀ n ∈ notes, NoteI G T c n
  sights : ∀ x ∈ sights, SightI G c x
theorem told_of (I : Inv G T c) {notes : List Note} {sights : List Sight} (hn : ∀ n ∈ notes, NoteI G T c n) (hs : ∀ x ∈ sights, SightI G c x) : Told G T c notes sights :=
  ⟨fun _ _ hm n h => kind1_note I hm (hn n h), fun _ => hn, hs⟩
section
variable {notes : List Note} {sights : List Sight} {wants : List Int}
theorem mate_step (I : Inv G T c) (t : Told G T c notes sights) {i : Nat} {m : Mate} (hm : c.Mates[i]? = some m) : MateI G T c i (believeM c notes sights m) ∧ Same4 m (believeM c notes sights m) ∧ Drove m (driveM c.Gap (believeM c notes sights m) (wantsM wants i)) := by
  obtain ⟨h1, h2⟩ := believe_inv I hm (t.kind1 i m hm) t.sights
  refine ⟨h1, h2, ?_⟩
  have d := drive_drove h1.v c.Gap (wantsM wants i)
  exact ⟨d.id.trans h2.id, d.len.trans h2.len, by rw [d.s, h2.s], by rw [← h2.v]; exact d.v⟩
/-- No one merges. -/
theorem step_plain (I : Inv G T c) (t : Told G T c notes sights) {g : Guest} {T' : Int} (hT : T' ≤ T ∨ c.Guest_.ID = G) (ht : c.Tick + 1 ≤ 1000)
    (hg : (c.Guest_ = G0 ∧ g = G0) ∨ (c.Guest_.ID = G ∧ ∃ k w, Hears G T c k ∧ T' = c.Tick + 1 ∧ g = rollM k w ∧ k.S = c.Guest_.S ∧ k.V = c.Guest_.V ∧ k.Len = c.Guest_.Len)) :
    Inv G T' ⟨c.Tick + 1, c.Gap, matesM c wants notes sights, g⟩ ∧ Moves c ⟨c.Tick + 1, c.Gap, matesM c wants notes sights, g⟩ := by
  have hgid : g.ID = c.Guest_.ID := by
    rcases hg with ⟨a, b⟩ | ⟨a, k, w, H, _, b, _⟩
    · rw [a, b]
    · rw [b, a]; exact H.gi.id
  have mv : Moves c ⟨c.Tick + 1, c.Gap, matesM c wants notes sights, g⟩ := by
    refine ⟨rfl, rfl, fun id r v hb => ?_⟩
    cases hb with
    | mate i m hm hid =>
      obtain ⟨_, _, d⟩ := mate_step (wants := wants) I t hm
      refine ⟨_, d.v, ?_⟩
      have := Body.mate (c := ⟨c.Tick + 1, c.Gap, matesM c wants notes sights, g⟩) i _ (drove_mates notes sights wants hm) (d.id.trans hid)
      rw [d.s, d.len] at this
      rwa [show m.S - m.Len + (driveM c.Gap (believeM c notes sights m) (wantsM wants i)).V = m.S + (driveM c.Gap (believeM c notes sights m) (wantsM wants i)).V - m.Len by omega]
    | guest h h0 =>
      rcases hg with ⟨a, b⟩ | ⟨a, k, w, H, _, b, e1, e2, e3⟩
      · rw [a] at h; exact absurd h.symm h0
      · obtain ⟨r1, r2, r3⟩ := roll_ok (want := w) H.gi.v H.gi.stops
        refine ⟨g.V, by rw [b, ← e2]; exact r2, ?_⟩
        have := Body.guest (c := ⟨c.Tick + 1, c.Gap, matesM c wants notes sights, g⟩) (hgid.trans h) h0
        dsimp only at this
        rw [b] at this ⊢
        rw [r1, e1, show (rollM k w).Len = c.Guest_.Len from e3] at this
        rwa [show c.Guest_.S - c.Guest_.Len + (rollM k w).V = c.Guest_.S + (rollM k w).V - c.Guest_.Len by omega]
  refine ⟨⟨by have := I.tick; dsimp only; omega, I.gap, I.gpos, by dsimp only; rw [len_mates]; exact I.one, by dsimp only; rw [len_mates, hgid]; exact I.many, fun i k hk => ?_, fun i j a b ha hb hab => ?_, ?_⟩, mv⟩
  · obtain ⟨m, hm, rfl⟩ := of_mates hk
    obtain ⟨h1, h2, h3⟩ := mate_step (wants := wants) I t hm
    refine drive_inv I h1 _ mv I.tick.2 (fun j km hj hkm => ⟨j, _, hj, drove_mates notes sights wants hkm, (mate_step (wants := wants) I t hkm).2.2⟩) (fun k' hi hk' => ?_) h1.first
    obtain ⟨m', hm', rfl⟩ := of_mates hk'
    rw [(mate_step (wants := wants) I t hm').2.2.id]
    rcases h1.pred m' hi hm' with e | ⟨e1, e2, e3⟩
    · exact .inl e
    · rcases hT with q | q
      · exact .inr ⟨e1, e2, by omega⟩
      · have gi := I.noG (by rw [q]; exact I.gpos)
        exact absurd (e1.trans (h1.ward (h1.untl e2)).1) (gi.new _ m' hm')
  · obtain ⟨m, hm, rfl⟩ := of_mates ha
    obtain ⟨m', hm', rfl⟩ := of_mates hb
    rw [(mate_step (wants := wants) I t hm).2.2.id, (mate_step (wants := wants) I t hm').2.2.id] at hab
    exact I.dist i j m m' hm hm' hab
  · rcases hg with ⟨a, b⟩ | ⟨a, k, w, H, eT, b, e1, e2, e3⟩
    · exact .inl b
    · right
      have M := H.gi
      obtain ⟨r1, r2, r3⟩ := roll_ok (want := w) M.v M.stops
      have tk := I.tick
      have hs := M.s
      have hv := M.v
      have hgg : g.Guess_ = if k.Ahead ≠ 0 then age1 k.Guess_ else k.Guess_ := by rw [b, ← age1_of M.gs]; rfl
      have hA : k.Ahead ≠ 0 → ∃ (j : Nat) (km : Mate), (matesM c wants notes sights)[j]? = some km ∧ km.ID = k.Ahead ∧ Lower (age1 k.Guess_) ⟨km.S - km.Len, km.V⟩ ∧ km.S - km.Len ≤ 17000000 + 2000 * c.Tick + 2000 := by
        intro h
        obtain ⟨j, km, a1, a2, a3⟩ := M.ahead h
        obtain ⟨h1, h2, h3⟩ := mate_step (wants := wants) I t a1
        have K := I.mates j km a1
        refine ⟨j, _, drove_mates notes sights wants a1, h3.id.trans a2, ?_, ?_⟩
        · rw [h3.s, h3.len, show km.S + (driveM c.Gap (believeM c notes sights km) (wantsM wants j)).V - km.Len = km.S - km.Len + (driveM c.Gap (believeM c notes sights km) (wantsM wants j)).V by omega]
          exact age_move M.gs.2 K.v h3.v a3
        · have := K.s; have := K.len; have := h3.v; rw [h3.s, h3.len]; omega
      refine ⟨hgid.trans a, M.gid, fun i x hx => ?_, ?_, ?_, by rw [b]; exact M.len, by rw [b]; exact r3, by rw [b]; exact M.fin, ?_, fun h => ?_, by rw [b]; exact M.from_, ?_, fun h => ?_, fun h hu => ?_, eT⟩
      · obtain ⟨m, hm, rfl⟩ := of_mates hx
        rw [(mate_step (wants := wants) I t hm).2.2.id]
        exact M.new i m hm
      · rw [b]; dsimp only; omega
      · rw [b]; dsimp only; omega
      · rw [hgg]
        split
        · rename_i h
          obtain ⟨_, _, _, _, L, q⟩ := hA h
          have l1 := L.1
          have := age1_V M.gs.2
          have M' := M.gs
          unfold GB at M' ⊢
          unfold age1 at l1 ⊢
          dsimp only at l1 ⊢
          omega
        · exact M.gs
      · have h : k.Ahead ≠ 0 := by rw [b] at h; exact h
        obtain ⟨j, km, q1, q2, q3, _⟩ := hA h
        refine ⟨j, km, q1, by rw [b]; exact q2, ?_⟩
        rw [hgg, if_pos h]; exact q3
      · have := M.ub
        rw [b]
        exact ⟨M.ub.1, by show k.Until ≤ _; dsimp only; omega⟩
      · rw [b] at h ⊢; exact M.fromU h
      · rw [b] at h hu ⊢
        have h : k.From ≠ 0 := h
        have hu : c.Tick + 1 ≤ k.Until := hu
        obtain ⟨j, km, q1, q2, q3, q4⟩ := M.grant h (by omega)
        obtain ⟨h1, h2, h3⟩ := mate_step (wants := wants) I t q1
        obtain ⟨w1, w2⟩ := believe_holds (sights := sights) I (t.notes a) (show Holds G k.Until km from ⟨q3, q4⟩) (M.fromU h) (by omega) a
        exact ⟨j, _, drove_mates notes sights wants q1, h3.id.trans q2, w1, w2⟩
/-- The notes stay right. -/
theorem note_moves (I : Inv G T c) {d : Convoy} {T' : Int} (mv : Moves c d) (hT : T ≤ T') {n : Note} (N : NoteI G T c n)
    (hgr : d.Guest_.ID = G → c.Guest_.ID = G ∧ ∀ (k : Nat) km u, c.Mates[k]? = some km → Holds G u km → 0 < u → c.Tick ≤ u → ∃ (k' : Nat) (km' : Mate), d.Mates[k']? = some km' ∧ km'.ID = km.ID ∧ Holds G u km')
    (hdo : ∀ (i : Nat) k m, c.Mates[i]? = some k → k.ID = G → c.Mates[i + 1]? = some m → ∃ (j : Nat) (k' m' : Mate), d.Mates[j]? = some k' ∧ k'.ID = G ∧ d.Mates[j + 1]? = some m' ∧ m'.ID = m.ID) : NoteI G T' d n := by
  have st := N.stamp
  have mt := mv.tick
  refine ⟨by omega, N.gb, ?_, fun h => ⟨(N.ask h).1, by have := (N.ask h).2; omega⟩, fun h => ?_, fun h hf => ?_⟩
  · have := bel_moves I mv (ageN_V (c.Tick - n.Stamp).toNat N.gb.2) N.bel
    rw [← ageN_succ'] at this
    rwa [show (d.Tick - n.Stamp).toNat = (c.Tick - n.Stamp).toNat + 1 by omega]
  · obtain ⟨h1, h2, h3⟩ := N.grant h
    refine ⟨h1, by omega, fun hd hu => ?_⟩
    obtain ⟨e, q⟩ := hgr hd
    obtain ⟨k, km, a1, a2, a3, a4⟩ := h3 e (by omega)
    obtain ⟨k', km', b1, b2, b3, b4⟩ := q k km n.Until a1 ⟨a3, a4⟩ h2.1 (by omega)
    exact ⟨k', km', b1, b2.trans a2, b3, b4⟩
  · obtain ⟨i, k, m, a1, a2, a3, a4⟩ := N.done h hf
    obtain ⟨j, k', m', b1, b2, b3, b4⟩ := hdo i k m a1 a2 a3
    exact ⟨j, k', m', b1, b2, b3, b4.trans a4⟩
end
end
end Go.Abs.Convoy

namespace Go.Abs.Convoy
open Go Go.Abs

section
variable {G T : Int} {c : Convoy}
theorem find_uniq (I : Inv G T c) {k : Nat} {m : Mate} (h : c.Mates[k]? = some m) : c.Mates.findIdx? (idP m.ID) = some k := by
  cases hf : c.Mates.findIdx? (idP m.ID) with
  | none =>
    have := List.findIdx?_eq_none_iff.1 hf m (List.mem_of_getElem? h)
    simp [idP] at this
  | some j =>
    obtain ⟨m', h1, h2⟩ := find_get hf
    rw [I.dist j k m' m h1 h h2]
theorem ward_id (I : Inv G T c) {g : Guess} (h : Bel c G g) : 1 ≤ G ∧ G ≤ 99 := by
  obtain ⟨r, v, hb, _⟩ := h
  cases hb with
  | mate i m hm hid => have := (I.mates i m hm).id; omega
  | guest h h0 => exact (I.noG (by rw [h]; exact h0)).gid
theorem inv_mate (I : Inv G T c) {i : Nat} {m : Mate} (h : c.Mates[i]? = some m) : mateM m = true := by
  have M := I.mates i m h
  have tk := I.tick
  have a1 := M.id; have a2 := M.s; have a3 := M.v; have a4 := M.len; have a5 := M.g; have a6 := M.w; have a7 := M.ub
  have b1 : 0 ≤ m.Ahead ∧ m.Ahead ≤ 99 := by
    by_cases z : m.Ahead = 0
    · omega
    · obtain ⟨k, km, _, h2, h3, _⟩ := M.ahead z
      have := (I.mates k km h2).id
      omega
  have b2 : 0 ≤ m.Ward ∧ m.Ward ≤ 99 := by
    by_cases z : m.Ward = 0
    · omega
    · obtain ⟨e, b⟩ := M.ward z
      have := ward_id I b
      omega
  unfold GB at a5 a6
  unfold mateM bodyM guessM
  simp only [Bool.and_eq_true, within_iff]
  omega
theorem inv_guest (I : Inv G T c) : (noGuest c.Guest_ || guestM c.Guest_) = true := by
  rcases I.guest with e | M
  · rw [e]; rfl
  · have tk := I.tick
    have a0 := M.id; have a1 := M.gid; have a2 := M.s; have a3 := M.v; have a4 := M.len; have a5 := M.gs; have a6 := M.from_; have a7 := M.ub; have a8 := M.stops; have a9 := M.fin
    have a10 := (stopM_nonneg c.Guest_.V).1
    have b1 : 0 ≤ c.Guest_.Ahead ∧ c.Guest_.Ahead ≤ 99 := by
      by_cases z : c.Guest_.Ahead = 0
      · omega
      · obtain ⟨k, km, h2, h3, _⟩ := M.ahead z
        have := (I.mates k km h2).id
        omega
    unfold GB at a5
    rw [Bool.or_eq_true]
    right
    unfold guestM bodyM guessM
    simp only [Bool.and_eq_true, within_iff]
    omega
theorem inv_chk (I : Inv G T c) : chkM c = 0 := by
  have tk := I.tick
  have gp := I.gap
  have one := I.one
  have many := I.many
  have n0 : numM c = 0 := by
    unfold numM
    rw [within_of tk.1 (show c.Tick ≤ 1099511627776 by omega), within_of gp.1 gp.2, if_neg (by decide), if_neg (by omega), if_neg ?_, inv_guest I]
    · rw [show (c.Mates.any fun m => !mateM m) = false from ?_]
      · rfl
      · rw [List.any_eq_false]
        intro m hm
        obtain ⟨i, hi⟩ := List.mem_iff_getElem?.1 hm
        simp [inv_mate I hi]
    · rcases I.guest with e | M
      · rw [e, show noGuest G0 = true from rfl, if_pos rfl]
        rw [e] at many
        omega
      · have : c.Guest_.ID ≠ 0 := by rw [M.id]; exact I.gpos
        rw [if_neg this] at many
        split <;> omega
  have d0 : anyI (dupP c) 0 c.Mates = false := by
    refine anyI_false fun j m hm => ?_
    unfold dupP
    rw [Nat.zero_add, Bool.or_eq_false_iff, List.any_eq_false]
    refine ⟨fun x hx => ?_, ?_⟩
    · obtain ⟨q, hq⟩ := List.mem_iff_getElem?.1 hx
      have q1 := get_lt hq
      rw [List.length_take] at q1
      rw [List.getElem?_take, if_pos (by omega)] at hq
      intro e
      have := I.dist q j x m hq hm (by simpa using e)
      omega
    · rcases I.guest with e | M
      · rw [e]
        have := (I.mates j m hm).id
        simp only [G0, beq_eq_false_iff_ne, ne_eq]; omega
      · rw [M.id]
        simpa using M.new j m hm
  have o0 : anyI (ordP c) 0 c.Mates = false := by
    refine anyI_false fun j m hm => ?_
    unfold ordP
    rw [Nat.zero_add]
    by_cases z : 0 < j
    · have hlt := get_lt hm
      obtain ⟨k, hk⟩ : ∃ k, c.Mates[j - 1]? = some k := ⟨_, List.getElem?_eq_getElem (by omega)⟩
      have L := (pred_lower I hm z hk).1
      have K := I.mates _ k hk
      have k1 := K.s; have k2 := K.len
      rw [hk, show decide (0 < j) = true from decide_eq_true z, Bool.true_and]
      dsimp only at L ⊢
      rw [w64_id (by omega)]
      exact decide_eq_false (by omega)
    · rw [show decide (0 < j) = false from decide_eq_false z]; rfl
  have s0 : anyI staP 0 c.Mates = false := by
    refine anyI_false fun j m hm => ?_
    have M := I.mates j m hm
    unfold staP
    rw [Nat.zero_add, Bool.or_eq_false_iff, Bool.or_eq_false_iff]
    refine ⟨⟨?_, ?_⟩, ?_⟩
    · by_cases z : j = 0
      · rw [M.first z]; simp
      · simp [z]
    · by_cases z : 0 < j
      · have hlt := get_lt hm
        obtain ⟨k, hk⟩ : ∃ k, c.Mates[j - 1]? = some k := ⟨_, List.getElem?_eq_getElem (by omega)⟩
        rcases M.pred k z hk with e | ⟨_, e, _⟩
        · have := (I.mates _ k hk).id
          have : m.Ahead ≠ 0 := by omega
          simp [this]
        · simp [e]
      · simp [z]
    · by_cases z : m.Until = 0
      · simp [z]
      · have := M.untl z
        simp [this]
  have c0 : c.Mates.any (clashP c) = false := by
    rw [List.any_eq_false]
    intro m hm
    obtain ⟨i, hi⟩ := List.mem_iff_getElem?.1 hm
    have M := I.mates i m hi
    have a2 := M.s; have a3 := M.v; have a5 := M.g.num; have a6 := M.w.num
    unfold clashP keepM
    have h1 : (m.Ahead == 0 || safeM m.S m.V c.Gap m.Guess_) = true := by
      by_cases z : m.Ahead = 0
      · simp [z]
      · rw [(safeM_iff (sane5 (by omega))).2 (M.sA z), Bool.or_true]
    have h2 : (m.Until == 0 || safeM m.S m.V c.Gap m.WardGuess) = true := by
      by_cases z : m.Until = 0
      · simp [z]
      · rw [(safeM_iff (sane5 (by omega))).2 (M.sW z), Bool.or_true]
    rw [h1, h2]; simp
  have g0 : guestBad c = false := by
    unfold guestBad
    rcases I.guest with e | M
    · rw [e]; rfl
    · have a2 := M.s; have a3 := M.v; have a8 := M.stops; have a9 := M.fin
      have a10 := stop2000 a3.2
      rw [w64_id (by omega), show decide (c.Guest_.End ≤ c.Guest_.S + stopM c.Guest_.V) = false from decide_eq_false (by omega), Bool.and_false]
  unfold chkM ordM
  rw [n0, d0, o0, s0, c0, g0]
  rfl
end
end Go.Abs.Convoy

namespace Go.Abs.Convoy
open Go Go.Abs

theorem ins_get {α : Type} {l : List α} {p : Nat} (a : α) (hp : p ≤ l.length) (j : Nat) : (l.take p ++ a :: l.drop p)[j]? = if j < p then l[j]? else if j = p then some a else l[j - 1]? := by
  have hl : (l.take p).length = p := by rw [List.length_take]; omega
  by_cases h : j < p
  · rw [if_pos h, List.getElem?_append_left (by rw [hl]; exact h), List.getElem?_take, if_pos h]
  · rw [if_neg h, List.getElem?_append_right (by rw [hl]; omega), hl]
    by_cases h2 : j = p
    · rw [if_pos h2, h2, Nat.sub_self]; rfl
    · rw [if_neg h2]
      obtain ⟨q, rfl⟩ : ∃ q, j = p + 1 + q := ⟨j - p - 1, by omega⟩
      rw [show p + 1 + q - p = q + 1 by omega, List.getElem?_cons_succ, List.getElem?_drop]
      congr 1; omega
section
variable {G T : Int} {c : Convoy} {notes : List Note} {sights : List Sight} {wants : List Int}
/-- The place where the guest merges, and who is behind it. -/
theorem merge_back (I : Inv G T c) {g : Guest} (H : Hears G T c g) (hm : mergeM c g = true) {i : Nat} {m : Mate} (hi : i = ((besM c).1 + 1).toNat) (h : c.Mates[i]? = some m) : 0 < g.Until ∧ c.Tick ≤ g.Until ∧ Holds G g.Until m := by
  have hlt := get_lt h
  have hb : (besM c).2 = (i : Int) := by
    unfold besM at hi ⊢
    cases hf : c.Mates.findIdx? (besP c) with
    | none => rw [hf] at hi; dsimp only at hi; omega
    | some q => rw [hf] at hi; dsimp only at hi ⊢; omega
  have hid : idAt c (besM c).2 = m.ID := by
    rw [hb]; unfold idAt
    rw [if_pos (by omega), Int.toNat_natCast, h]
  have hp := (I.mates i m h).id
  unfold mergeM at hm
  simp only [Bool.and_eq_true, Bool.or_eq_true, beq_iff_eq, decide_eq_true_eq] at hm
  rw [hid] at hm
  rcases hm.2 with z | ⟨z1, z2⟩
  · omega
  · have hF : g.From ≠ 0 := by omega
    obtain ⟨k, km, a1, a2, a3, a4⟩ := H.gi.grant hF z2
    obtain rfl := I.dist k i km m a1 h (a2.trans z1)
    rw [h] at a1; cases a1
    exact ⟨H.gi.fromU hF, z2, a3, a4⟩
theorem step_merge (I : Inv G T c) (t : Told G T c notes sights) (hg : c.Guest_.ID = G) {g : Guest} (H : Hears G T c g) (hgb : g.S = c.Guest_.S ∧ g.V = c.Guest_.V ∧ g.Len = c.Guest_.Len) (hm : mergeM c g = true) (ht : c.Tick + 1 ≤ 1000) (w : Int) {p : Nat} (hp : p = ((besM c).1 + 1).toNat) :
    Inv G T ⟨c.Tick + 1, c.Gap, (matesM c wants notes sights).take p ++ driveM c.Gap (newMate g) w :: (matesM c wants notes sights).drop p, G0⟩ ∧ Moves c ⟨c.Tick + 1, c.Gap, (matesM c wants notes sights).take p ++ driveM c.Gap (newMate g) w :: (matesM c wants notes sights).drop p, G0⟩ := by
  have gi := H.gi
  have hpl : p ≤ (matesM c wants notes sights).length := by
    have := (besM_lt c).1
    rw [len_mates]; omega
  have N := new_inv I H hm hp.symm
  have hk := drive_drove (m := newMate g) gi.v c.Gap w
  have hkid : (driveM c.Gap (newMate g) w).ID = G := gi.id
  generalize hd : (⟨c.Tick + 1, c.Gap, (matesM c wants notes sights).take p ++ driveM c.Gap (newMate g) w :: (matesM c wants notes sights).drop p, G0⟩ : Convoy) = d
  have hdm : ∀ j : Nat, d.Mates[j]? = if j < p then (matesM c wants notes sights)[j]? else if j = p then some (driveM c.Gap (newMate g) w) else (matesM c wants notes sights)[j - 1]? := fun j => by
    rw [← hd]; exact ins_get _ hpl j
  have hdt : d.Tick = c.Tick + 1 := by rw [← hd]
  have hdg : d.Gap = c.Gap := by rw [← hd]
  have hdgu : d.Guest_ = G0 := by rw [← hd]
  -- where an old mate goes
  have hold : ∀ (i : Nat) (m : Mate), c.Mates[i]? = some m → ∃ (j : Nat), ((i < p ∧ j = i) ∨ (p ≤ i ∧ j = i + 1)) ∧ d.Mates[j]? = some (driveM c.Gap (believeM c notes sights m) (wantsM wants i)) := by
    intro i m h
    by_cases hi : i < p
    · exact ⟨i, .inl ⟨hi, rfl⟩, by rw [hdm, if_pos hi]; exact drove_mates notes sights wants h⟩
    · exact ⟨i + 1, .inr ⟨by omega, rfl⟩, by rw [hdm, if_neg (by omega), if_neg (by omega), Nat.add_sub_cancel]; exact drove_mates notes sights wants h⟩
  -- what a new mate was
  have hnew : ∀ (j : Nat) (k : Mate), d.Mates[j]? = some k → (j = p ∧ k = driveM c.Gap (newMate g) w) ∨ ∃ (i : Nat) (m : Mate), ((i < p ∧ j = i) ∨ (p ≤ i ∧ j = i + 1)) ∧ c.Mates[i]? = some m ∧ k = driveM c.Gap (believeM c notes sights m) (wantsM wants i) := by
    intro j k h
    rw [hdm] at h
    split at h
    · obtain ⟨m, h1, h2⟩ := of_mates h
      exact .inr ⟨j, m, .inl ⟨by assumption, rfl⟩, h1, h2⟩
    · split at h
      · exact .inl ⟨by assumption, (Option.some.inj h).symm⟩
      · obtain ⟨m, h1, h2⟩ := of_mates h
        exact .inr ⟨j - 1, m, .inr ⟨by omega, by omega⟩, h1, h2⟩
  have mv : Moves c d := by
    refine ⟨hdt, hdg, fun id r v hb => ?_⟩
    cases hb with
    | mate i m h hid =>
      obtain ⟨_, _, dd⟩ := mate_step (wants := wants) I t h
      obtain ⟨j, _, hj⟩ := hold i m h
      refine ⟨_, dd.v, ?_⟩
      have := Body.mate (c := d) j _ hj (dd.id.trans hid)
      rw [dd.s, dd.len] at this
      rwa [show m.S - m.Len + (driveM c.Gap (believeM c notes sights m) (wantsM wants i)).V = m.S + (driveM c.Gap (believeM c notes sights m) (wantsM wants i)).V - m.Len by omega]
    | guest h h0 =>
      have hj : d.Mates[p]? = some (driveM c.Gap (newMate g) w) := by rw [hdm, if_neg (by omega), if_pos rfl]
      have hv : max 0 (c.Guest_.V - 90) ≤ (driveM c.Gap (newMate g) w).V ∧ (driveM c.Gap (newMate g) w).V ≤ 2000 := by
        have := hk.v
        rw [show (newMate g).V = c.Guest_.V from hgb.2.1] at this
        exact this
      refine ⟨_, hv, ?_⟩
      have := Body.mate (c := d) p _ hj (hkid.trans (hg.symm.trans h))
      rw [hk.s, hk.len, show (newMate g).S = c.Guest_.S from hgb.1, show (newMate g).Len = c.Guest_.Len from hgb.2.2] at this
      rwa [show c.Guest_.S - c.Guest_.Len + (driveM c.Gap (newMate g) w).V = c.Guest_.S + (driveM c.Gap (newMate g) w).V - c.Guest_.Len by omega]
  have hidm : ∀ (i : Nat) (m : Mate), c.Mates[i]? = some m → (driveM c.Gap (believeM c notes sights m) (wantsM wants i)).ID = m.ID := fun i m h => (mate_step (wants := wants) I t h).2.2.id
  refine ⟨⟨by have := I.tick; omega, by rw [hdg]; exact I.gap, I.gpos, ?_, ?_, fun j k hj => ?_, fun i j a b ha hb hab => ?_, .inl hdgu⟩, mv⟩
  · rw [← hd]; simp; omega
  · have := I.many
    rw [if_neg (by rw [hg]; exact I.gpos)] at this
    rw [hdgu, if_pos (by rfl), ← hd]
    simp only [List.length_append, List.length_take, List.length_cons, List.length_drop, len_mates] at hpl ⊢
    omega
  · rcases hnew j k hj with ⟨rfl, rfl⟩ | ⟨i, m, hij, hm0, rfl⟩
    · refine drive_inv I N w mv I.tick.2 (fun j' km hj' hkm => ?_) (fun k' h0 hk' => ?_) N.first
      · obtain ⟨q, hq, hq2⟩ := hold j' km hkm
        exact ⟨q, _, by omega, hq2, (mate_step (wants := wants) I t hkm).2.2⟩
      · rcases hnew _ _ hk' with ⟨z, _⟩ | ⟨i', m', hij', hm', rfl⟩
        · omega
        · left
          rw [hidm i' m' hm']
          have : i' = j - 1 := by omega
          subst this
          rcases N.pred m' h0 hm' with e | ⟨_, e, _⟩
          · exact e
          · exact absurd rfl e
    · obtain ⟨M, S4, D⟩ := mate_step (wants := wants) I t hm0
      refine drive_inv I M _ mv I.tick.2 (fun j' km hj' hkm => ?_) (fun k' h0 hk' => ?_) (fun h0 => ?_)
      · obtain ⟨q, hq, hq2⟩ := hold j' km hkm
        exact ⟨q, _, by omega, hq2, (mate_step (wants := wants) I t hkm).2.2⟩
      · rcases hnew _ _ hk' with ⟨z, rfl⟩ | ⟨i', m', hij', hm', rfl⟩
        · right
          obtain ⟨u1, u2, u3⟩ := merge_back I H hm (i := i) (by omega) hm0
          obtain ⟨w1, w2⟩ := believe_holds (sights := sights) I (t.notes hg) u3 u1 u2 hg
          refine ⟨hkid.trans w1.symm, by omega, ?_⟩
          rw [gi.now, w2]; exact u2
        · rw [hidm i' m' hm']
          have hi' : i' = i - 1 ∧ 0 < i := by omega
          rw [hi'.1] at hm'
          rcases M.pred m' hi'.2 hm' with e | ⟨e1, e2, _⟩
          · exact .inl e
          · exact absurd (e1.trans (M.ward (M.untl e2)).1) (gi.new _ m' hm')
      · exact M.first (by omega)
  · rcases hnew i a ha with ⟨rfl, rfl⟩ | ⟨i1, m1, h1, h2, rfl⟩
    · rcases hnew j b hb with ⟨rfl, rfl⟩ | ⟨j1, m2, h3, h4, rfl⟩
      · rfl
      · rw [hkid, hidm j1 m2 h4] at hab
        exact absurd hab.symm (gi.new j1 m2 h4)
    · rcases hnew j b hb with ⟨rfl, rfl⟩ | ⟨j1, m2, h3, h4, rfl⟩
      · rw [hkid, hidm i1 m1 h2] at hab
        exact absurd hab (gi.new i1 m1 h2)
      · rw [hidm i1 m1 h2, hidm j1 m2 h4] at hab
        have := I.dist i1 j1 m1 m2 h2 h4 hab
        omega

/-- What is true behind a step. -/
structure StepR (G T : Int) (c : Convoy) (wants : List Int) (notes : List Note) (sights : List Sight) (d : Convoy) (T' : Int) : Prop where
  inv : Inv G T' d
  mv : Moves c d
  keep : ∀ n, NoteI G T c n → NoteI G T' d n
  is : (c.Guest_ = G0 ∧ d = ⟨c.Tick + 1, c.Gap, matesM c wants notes sights, G0⟩) ∨
    (c.Guest_.ID = G ∧ Hears G T c (learnsM c notes sights) ∧ mergeM c (learnsM c notes sights) = false ∧ d = ⟨c.Tick + 1, c.Gap, matesM c wants notes sights, rollM (learnsM c notes sights) (wantsM wants c.Mates.length)⟩) ∨
    (c.Guest_.ID = G ∧ Hears G T c (learnsM c notes sights) ∧ mergeM c (learnsM c notes sights) = true ∧ d = ⟨c.Tick + 1, c.Gap, (matesM c wants notes sights).take ((besM c).1 + 1).toNat ++ driveM c.Gap (newMate (learnsM c notes sights)) (wantsM wants c.Mates.length) :: (matesM c wants notes sights).drop ((besM c).1 + 1).toNat, G0⟩)
theorem step_told (I : Inv G T c) (t : Told G T c notes sights) (ht : c.Tick + 1 ≤ 1000) (hn : notes.length ≤ 60) (hs : sights.length ≤ 60) : ∃ d T', stepM c wants notes sights = (d, 0) ∧ StepR G T c wants notes sights d T' := by
  have tk := I.tick
  have hfar : farM c = false := by
    unfold farM
    rw [Bool.or_eq_false_iff, List.any_eq_false]
    constructor
    · rcases I.guest with e | M
      · rw [e]; rfl
      · have := M.s
        exact decide_eq_false (by omega)
    · intro m hm
      obtain ⟨i, hi⟩ := List.mem_iff_getElem?.1 hm
      have := (I.mates i m hi).s
      simp only [decide_eq_true_eq]; omega
  unfold stepM
  rw [if_neg (by rw [inv_chk I]; decide), if_neg (by rw [hfar]; simp; omega)]
  dsimp only
  have keepP : ∀ (d : Convoy) (g : Guest) (T' : Int), Moves c d → T ≤ T' → d.Mates = matesM c wants notes sights → (d.Guest_.ID = G → c.Guest_.ID = G) → ∀ n, NoteI G T c n → NoteI G T' d n := by
    intro d g T' mv hT hdm hgg n N
    refine note_moves I mv hT N (fun h => ⟨hgg h, fun k km u h1 h2 h3 h4 => ?_⟩) (fun i k m h1 h2 h3 => ?_)
    · obtain ⟨w1, w2⟩ := believe_holds (sights := sights) I (t.notes (hgg h)) h2 h3 h4 (hgg h)
      exact ⟨k, _, by rw [hdm]; exact drove_mates notes sights wants h1, (mate_step (wants := wants) I t h1).2.2.id, w1, w2⟩
    · exact ⟨i, _, _, by rw [hdm]; exact drove_mates notes sights wants h1, (mate_step (wants := wants) I t h1).2.2.id.trans h2, by rw [hdm]; exact drove_mates notes sights wants h3, (mate_step (wants := wants) I t h3).2.2.id⟩
  by_cases hg : c.Guest_.ID = 0
  · have e : c.Guest_ = G0 := by
      rcases I.guest with e | M
      · exact e
      · exact absurd hg (by rw [M.id]; exact I.gpos)
    rw [if_pos hg]
    obtain ⟨h1, h2⟩ := step_plain (wants := wants) (T' := T) I t (.inl (Int.le_refl _)) ht (.inl ⟨e, rfl⟩)
    exact ⟨_, T, rfl, h1, h2, keepP _ G0 T h2 (Int.le_refl _) rfl (fun h => absurd h.symm I.gpos), .inl ⟨e, rfl⟩⟩
  · have gi := I.noG hg
    have hgG := gi.id
    have H := learns_inv I hgG (t.notes hgG) t.sights
    rw [if_neg hg]
    have hb : (learnsM c notes sights).S = c.Guest_.S ∧ (learnsM c notes sights).V = c.Guest_.V ∧ (learnsM c notes sights).Len = c.Guest_.Len := by
      have key : ∀ (a b t : Int) (l : List Note) (k : Guest), (k.S = c.Guest_.S ∧ k.V = c.Guest_.V ∧ k.Len = c.Guest_.Len) → ((l.foldl (learnM a b t) k).S = c.Guest_.S ∧ (l.foldl (learnM a b t) k).V = c.Guest_.V ∧ (l.foldl (learnM a b t) k).Len = c.Guest_.Len) := by
        intro a b t l
        induction l with
        | nil => exact fun _ h => h
        | cons n r ih =>
          intro k h
          rw [List.foldl_cons]
          refine ih _ ?_
          unfold learnM nearM
          split
          · split
            · exact h
            · split <;> exact h
          · exact h
      unfold learnsM
      dsimp only
      have h1 := key (idAt c (besM c).1) (idAt c (besM c).2) c.Tick notes (if c.Guest_.Ahead ≠ idAt c (besM c).1 then { c.Guest_ with Ahead := 0, Guess_ := ⟨0, 0⟩ } else c.Guest_) (by split <;> exact ⟨rfl, rfl, rfl⟩)
      generalize notes.foldl (learnM (idAt c (besM c).1) (idAt c (besM c).2) c.Tick) _ = k at h1
      cases sightM sights k.ID with
      | none => exact h1
      | some x =>
        dsimp only
        split
        · exact h1
        · exact h1
    by_cases hj : mergeM c (learnsM c notes sights) = true
    · rw [if_pos hj]
      obtain ⟨h1, h2⟩ := step_merge (wants := wants) I t hgG H hb hj ht (wantsM wants c.Mates.length) rfl
      refine ⟨_, T, rfl, h1, h2, fun n N => ?_, .inr (.inr ⟨hgG, H, hj, rfl⟩)⟩
      exact note_moves I h2 (Int.le_refl _) N (fun h => absurd h.symm I.gpos) (fun i k m q1 q2 _ => absurd q2 (gi.new i k q1))
    · rw [if_neg hj]
      obtain ⟨h1, h2⟩ := step_plain (wants := wants) (T' := c.Tick + 1) I t (.inr hgG) ht (.inr ⟨hgG, learnsM c notes sights, wantsM wants c.Mates.length, H, rfl, rfl, hb.1, hb.2.1, hb.2.2⟩)
      exact ⟨_, c.Tick + 1, rfl, h1, h2, keepP _ G0 _ h2 (by rw [gi.now]; omega) rfl (fun _ => hgG), .inr (.inl ⟨hgG, H, by simpa using hj, rfl⟩)⟩
end
end Go.Abs.Convoy

namespace Go.Abs.Convoy
open Go Go.Abs

section
variable {G T : Int} {c : Convoy}
/-! ### What is sent, and what is sighted -/
theorem notesL_mem (c : Convoy) : ∀ (r : List Mate) (i : Nat) (n : Note), c.Mates.drop i = r → n ∈ notesL c i r → ∃ (j : Nat) (m : Mate), c.Mates[j]? = some m ∧ n ∈ notesAt c j m
  | [], _, _, _, h => by cases h
  | m :: r, i, n, hd, h => by
    rw [notesL, List.mem_append] at h
    rcases h with h | h
    · exact ⟨i, m, by have := congrArg (fun z => z[0]?) hd; simpa using this, h⟩
    · exact notesL_mem c r (i + 1) n (drop_succ hd) h
theorem notes_inv (I : Inv G T c) : ∀ n ∈ notesM c, NoteI G T c n := by
  intro n hn
  have tk := I.tick
  unfold notesM at hn
  rw [if_neg (by rw [inv_chk I]; decide), List.mem_append] at hn
  rcases hn with hn | hn
  · obtain ⟨i, m, hm, hn⟩ := notesL_mem c _ 0 n rfl hn
    have M := I.mates i m hm
    have a1 := M.s; have a2 := M.v; have a3 := M.len
    have hr : w64 (m.S - m.Len) = m.S - m.Len := w64_id (by omega)
    have hgb : GB ⟨m.S - m.Len, m.V⟩ := by unfold GB; dsimp only; omega
    have hbel : Bel c m.ID (ageN (c.Tick - c.Tick).toNat ⟨m.S - m.Len, m.V⟩) := by
      rw [Int.sub_self]
      exact ⟨_, _, .mate i m hm rfl, Lower.refl _⟩
    unfold notesAt at hn
    rw [hr, List.mem_append, List.mem_append] at hn
    rcases hn with hn | hn | hn
    · obtain rfl := List.mem_singleton.1 hn
      exact ⟨by dsimp only; omega, hgb, hbel, (by intro h; dsimp only at h; omega), (by intro h; dsimp only at h; omega), (by intro h; dsimp only at h; omega)⟩
    · cases hk : c.Mates[i + 1]? with
      | none => rw [hk] at hn; cases hn
      | some k =>
        rw [hk] at hn
        obtain rfl := List.mem_singleton.1 hn
        exact ⟨by dsimp only; omega, hgb, hbel, (by intro h; dsimp only at h; omega), (by intro h; dsimp only at h; omega), fun _ h => ⟨i, m, k, hm, h, hk, rfl⟩⟩
    · split at hn
      · rename_i hu
        obtain rfl := List.mem_singleton.1 hn
        simp only [Bool.and_eq_true, bne_iff_ne, ne_eq, decide_eq_true_eq, ge_iff_le] at hu
        have hw := M.ward (M.untl hu.1)
        have := M.ub
        exact ⟨by dsimp only; omega, hgb, hbel, (by intro h; dsimp only at h; omega), fun _ => ⟨hw.1, ⟨by dsimp only; omega, by dsimp only; omega⟩, fun _ _ => ⟨i, m, hm, rfl, hw.1, rfl⟩⟩, (by intro h; dsimp only at h; omega)⟩
      · cases hn
  · unfold askL at hn
    split at hn
    · rename_i hg
      have gi := I.noG hg
      have a1 := gi.s; have a2 := gi.v; have a3 := gi.len
      have hr : w64 (c.Guest_.S - c.Guest_.Len) = c.Guest_.S - c.Guest_.Len := w64_id (by omega)
      have hbel : Bel c c.Guest_.ID (ageN (c.Tick - c.Tick).toNat ⟨c.Guest_.S - c.Guest_.Len, c.Guest_.V⟩) := by
        rw [Int.sub_self]
        exact ⟨_, _, .guest rfl hg, Lower.refl _⟩
      rw [hr] at hn
      split at hn
      · cases hn
      · split at hn
        · obtain rfl := List.mem_singleton.1 hn
          exact ⟨by dsimp only; omega, by unfold GB; dsimp only; omega, hbel, fun _ => ⟨gi.id, by dsimp only; rw [gi.now]; exact Int.le_refl _⟩, (by intro h; dsimp only at h; omega), (by intro h; dsimp only at h; omega)⟩
        · cases hn
    · cases hn
theorem look_inv (I : Inv G T c) {id : Int} {l : List Int} {x : Sight} (h : lookM c id l = (x, 0)) : SightI G c x ∧ x.By = id := by
  unfold lookM at h
  rw [if_neg (by rw [inv_chk I]; decide)] at h
  split at h
  · cases h
  · rename_i a ha
    split at h
    · cases h
    · rename_i m hm
      simp only [Prod.mk.injEq, and_true] at h
      have M := I.mates a m hm
      have n0 := noise_bd l 0 (show (0 : Int) < 101 by decide)
      have n2 := noise_bd l 2 (show (0 : Int) < 6 by decide)
      have v := M.v
      have hL : Lower ⟨m.S - m.Len - noiseM l 0 101, max 0 (m.V - noiseM l 2 6)⟩ ⟨m.S - m.Len, m.V⟩ := by
        refine ⟨by dsimp only; omega, ?_⟩
        have := stop_mono (show max 0 (m.V - noiseM l 2 6) ≤ m.V by omega) (by omega)
        unfold endM; dsimp only; omega
      subst h
      refine ⟨⟨fun i m' k hm' hid hi hk => ?_, fun h0 hid k km hk hkm => ?_⟩, rfl⟩
      · have hne : ¬ (id != 0 && id == c.Guest_.ID) = true := by
          intro z
          simp only [Bool.and_eq_true, bne_iff_ne, ne_eq, beq_iff_eq] at z
          have gi := I.noG (by rw [← z.2]; exact z.1)
          exact gi.new i m' hm' (hid.trans (z.2.trans gi.id))
        rw [if_neg hne] at ha
        have hf := find_uniq I hm'
        have hx : idxI (fun m => m.ID == id) c.Mates = (i : Int) := by
          unfold idxI
          rw [show (fun m : Mate => m.ID == id) = idP m'.ID from by funext z; unfold idP; rw [show m'.ID = id from hid], hf]
        rw [hx] at ha
        have : a = i - 1 := by
          have h1 : (i : Int) - 1 = (a : Int) := ha
          omega
        subst this
        rw [hm] at hk; cases hk
        exact hL
      · have hid' : c.Guest_.ID = id := hid
        rw [if_pos (by simp only [Bool.and_eq_true, bne_iff_ne, ne_eq, beq_iff_eq]; exact ⟨by rw [← hid']; exact h0, hid'.symm⟩)] at ha
        have : a = k := by
          have h1 : (besM c).1 = (a : Int) := ha
          omega
        subst this
        rw [hm] at hkm; cases hkm
        exact hL
end
end Go.Abs.Convoy

namespace Go.Abs.Convoy
open Go Go.Abs

/-! ### The program's step is the model's -/
theorem appc_eq {α : Type} {xs ys : List α} (h : xs.length + ys.length ≤ 1000000000) : appc xs ys = some (xs ++ ys) := by unfold appc; rw [if_pos h]
def S0 : Sight := ⟨0, 0, 0, 0, 0⟩
def mind (t gap : Int) (x : Option Sight) (m : Mate) : ConvoyMind := ⟨m, t, gap, x.getD S0, x.isSome⟩
theorem counts_eq (n : Note) {t : Int} (h0 : 0 ≤ t) (h1 : t ≤ 1099511627776) : convoy_counts n t = some (countsM n t) := by
  unfold convoy_counts countsM
  simp only [convoy_within_eq, fairGuess_eq, mm2_max, cond_some, Option.bind_some]
  rw [w64_id (n := t - 20) (by omega)]
  have e : ∀ a b d : Bool, (a && cond a b d) = (a && b) := by intro a b d; cases a <;> rfl
  simp only [e, within, ge_iff_le, Bool.and_assoc]
theorem counts_stamp {n : Note} {t : Int} (h : countsM n t = true) : (1 ≤ n.Kind ∧ n.Kind ≤ 4) ∧ (1 ≤ n.From ∧ n.From ≤ 99) ∧ 0 ≤ n.Stamp ∧ t - 20 ≤ n.Stamp ∧ n.Stamp ≤ t := by
  unfold countsM at h
  simp only [Bool.and_eq_true, within_iff] at h
  omega
def letterM (t : Int) (n : Note) : ConvoyLetter := ⟨n, agedM n t⟩
def lettersM (notes : List Note) (t : Int) : List ConvoyLetter := (notes.filter (countsM · t)).map (letterM t)
theorem post_eq (notes : List Note) {t : Int} (h0 : 0 ≤ t) (h1 : t ≤ 1099511627776) (hl : notes.length ≤ 1000000) : convoy_post notes t = some (lettersM notes t) := by
  have key : ∀ (r : List Note) (i : Nat) (ls : List ConvoyLetter), notes.drop i = r → ls.length ≤ i → i ≤ notes.length → loop (convoy_post_l1 notes t) (ls, (i : Int)) = some (ls ++ lettersM r t) := by
    intro r
    induction r with
    | nil =>
      intro i ls hi _ hil
      have := drop_nil hi
      refine loop_out ?_
      unfold convoy_post_l1
      dsimp only
      rw [show decide ((i : Int) < (notes.length : Int)) = false from decide_eq_false (by omega)]
      simp [lettersM]
    | cons n r ih =>
      intro i ls hi hli hil
      have hlt := drop_lt hi
      have hs : convoy_post_l1 notes t (ls, (i : Int)) = some (.go (if countsM n t then ls ++ [letterM t n] else ls, (((i + 1 : Nat)) : Int))) := by
        unfold convoy_post_l1
        dsimp only
        rw [show decide ((i : Int) < (notes.length : Int)) = true from decide_eq_true (by omega), geti_drop hi, w64_id (n := (i : Int) + 1) (by omega)]
        simp only [cond_true, Option.bind_some, counts_eq n h0 h1]
        cases hc : countsM n t
        · simp only [cond_false, Bool.false_eq_true, if_false]; rfl
        · have := counts_stamp hc
          rw [w64_id (n := t - n.Stamp) (by omega), (Age_eq _ _).1]
          simp only [cond_true, Option.bind_some, if_true]
          rw [appc_eq (by simp only [List.length_cons, List.length_nil]; omega)]
          rfl
      rw [loop_go hs, ih (i + 1) _ (drop_succ hi) (by split <;> (try simp only [List.length_append, List.length_cons, List.length_nil]) <;> omega) (by omega)]
      unfold lettersM
      cases hc : countsM n t
      · simp [hc]
      · simp [hc, letterM]
  unfold convoy_post
  have := key notes 0 [] rfl (by simp) (by omega)
  rw [show ((0 : Nat) : Int) = 0 from rfl] at this
  rw [this]; rfl
theorem find_idx {α : Type} (P : α → Bool) : ∀ (l : List α), l.find? P = (l.findIdx? P).bind fun i => l[i]?
  | [] => rfl
  | a :: r => by
    rw [List.find?_cons, List.findIdx?_cons]
    cases h : P a
    · simp only [find_idx P r, Bool.false_eq_true, if_false]
      cases r.findIdx? P <;> simp
    · simp
theorem sight_eq (l : List Sight) (id : Int) (hl : l.length ≤ 1000000) : convoy_look l id = some ((sightM l id).getD S0, (sightM l id).isSome) := by
  unfold convoy_look slices_IndexFunc_Sight_Sight_convoy_look_1b
  rw [index_eq l (sightP id) (by omega) (fun i a h => by
    have := get_lt h
    unfold slices_IndexFunc_Sight_Sight_convoy_look_1b_l1 convoy_look_1_b
    rw [show decide ((i : Int) < (l.length : Int)) = true from decide_eq_true (by omega), geti_some h]
    simp only [cond_true, Option.bind_some]
    unfold sightP
    simp only [ge_iff_le]
    cases (a.By == id && decide (a.Lo ≤ a.Hi) && decide (a.VLo ≤ a.VHi) && decide (-20000 ≤ a.Lo) && decide (a.Hi ≤ 2199023255552) && decide (0 ≤ a.VLo) && decide (a.VHi ≤ 2000)) <;> rfl) (by
    unfold slices_IndexFunc_Sight_Sight_convoy_look_1b_l1
    simp)]
  rw [Option.bind_some]
  unfold sightM
  rw [find_idx]
  unfold idxI
  cases h : l.findIdx? (sightP id) with
  | none => rfl
  | some i =>
    obtain ⟨q, _⟩ := List.findIdx?_eq_some_iff_getElem.1 h
    rw [show decide (((match some i with | some i => (i : Int) | none => -1) : Int) < 0) = false from decide_eq_false (by dsimp only; omega)]
    dsimp only
    rw [cond_false, geti_nat q, Option.bind_some, Option.bind_some, List.getElem?_eq_getElem q]
    rfl
theorem bne_if {α : Type} (a b : Int) (x y : α) : cond (a != b) x y = if a ≠ b then x else y := by
  by_cases h : a = b
  · rw [if_neg (by simpa using h), h]; simp
  · rw [if_pos h, show (a != b) = true by simpa using h]; rfl
theorem hail_eq (t gap : Int) (x : Option Sight) (m : Mate) (n : Note) : convoy_mind_hail_oa (mind t gap x m) (letterM t n) = some (mind t gap x (hailM m n x t)) := by
  have e1 : (cond ((m.Until != 0) && (n.From == m.Ward)) ((convoy_Better m.WardGuess (agedM n t)).bind fun v1 => some (ConvoyMind.mk (Mate.mk m.ID m.S m.V m.Len m.Ahead m.Guess_ m.Trust m.Ward v1 m.Until) t gap (x.getD S0) x.isSome)) (some (mind t gap x m))) = some (mind t gap x (if m.Until ≠ 0 ∧ n.From = m.Ward then { m with WardGuess := betterM m.WardGuess (agedM n t) } else m)) := by
    rw [convoy_Better_eq]
    by_cases h : m.Until ≠ 0 ∧ n.From = m.Ward
    · rw [if_pos h, show ((m.Until != 0) && (n.From == m.Ward)) = true by simpa using h]; rfl
    · rw [if_neg h, show ((m.Until != 0) && (n.From == m.Ward)) = false by rw [Bool.eq_false_iff]; simpa using h]; rfl
  unfold convoy_mind_hail_oa hailM
  refine (congrArg (fun z => Option.bind z _) e1).trans ?_
  rw [Option.bind_some]
  generalize (if m.Until ≠ 0 ∧ n.From = m.Ward then { m with WardGuess := betterM m.WardGuess (agedM n t) } else m) = k
  dsimp only [mind, letterM]
  simp only [convoy_within_eq, convoy_Better_eq, cond_some, Option.bind_some]
  by_cases h : k.Ahead ≠ 0 ∧ n.From = k.Ahead
  · rw [if_pos h, show ((k.Ahead == 0) || (n.From != k.Ahead)) = false by simp [h.1, h.2]]
    cases x with
    | none => cases hT : k.Trust <;> simp
    | some x =>
      dsimp only [Option.getD_some, Option.isSome_some]
      by_cases hs : n.Stamp = t
      · rw [hs, show (t == t) = true by simp]
        cases within n.R x.Lo x.Hi <;> cases within n.V x.VLo x.VHi <;> simp
      · rw [show (n.Stamp == t) = false by simpa using hs, if_neg (fun z => hs z.1)]
        rfl
  · rw [if_neg h, show ((k.Ahead == 0) || (n.From != k.Ahead)) = true by
      by_cases a : k.Ahead = 0
      · simp [a]
      · simp only [not_and] at h
        simp [a, h a]]
    rfl
theorem cond_ite {α : Type} {b : Bool} {P : Prop} [Decidable P] {x y : α} (h : b = true ↔ P) : cond b x y = if P then x else y := by
  by_cases p : P
  · rw [if_pos p, h.2 p]; rfl
  · rw [if_neg p, Bool.eq_false_iff.2 (fun q => p (h.1 q))]; rfl
theorem asking_eq (t gap : Int) (x : Option Sight) (m : Mate) (n : Note) : convoy_mind_ask_oa (mind t gap x m) (letterM t n) = some (mind t gap x (askM m n t)) := by
  unfold convoy_mind_ask_oa askM
  dsimp only [mind, letterM]
  simp only [convoy_Better_eq, Option.bind_some]
  refine (cond_ite (P := n.To ≠ m.ID) (by simp)).trans ?_
  split
  · rfl
  · refine (cond_ite (P := m.Ward = 0 ∨ (n.From = m.Ward ∧ m.Until ≠ 0 ∧ m.Until < n.Stamp)) (by simp [and_assoc])).trans ?_
    split
    · rfl
    · refine (cond_ite (P := n.From = m.Ward) (by simp)).trans ?_
      split <;> rfl
theorem merged_eq (t gap : Int) (x : Option Sight) (m : Mate) (n : Note) : convoy_mind_done_oa (mind t gap x m) (letterM t n) = some (mind t gap x (doneM m n x t)) := by
  unfold convoy_mind_done_oa doneM convoy_mind_forget_o
  dsimp only [mind, letterM]
  simp only [convoy_Better_eq, Option.bind_some]
  by_cases h : n.To ≠ m.ID ∨ m.Until = 0 ∨ n.From ≠ m.Ward
  · rw [if_pos h, show ((n.To != m.ID) || (m.Until == 0) || (n.From != m.Ward)) = true by simpa [or_assoc] using h]; rfl
  · rw [if_neg h, show ((n.To != m.ID) || (m.Until == 0) || (n.From != m.Ward)) = false by rw [Bool.eq_false_iff]; simpa [or_assoc] using h]
    cases x <;> rfl
theorem hear_eq (t gap : Int) (x : Option Sight) (m : Mate) (n : Note) (hc : countsM n t = true) : ((convoy_hears n.Kind).bind fun v => choose_convoy_mind_hail_oa v (mind t gap x m) (letterM t n)) = some (mind t gap x (hearM m n x t)) := by
  have hk := (counts_stamp hc).1
  unfold hearM
  rcases (show n.Kind = 1 ∨ n.Kind = 2 ∨ n.Kind = 3 ∨ n.Kind = 4 by omega) with h | h | h | h <;> rw [h]
  · rw [if_pos rfl, ← hail_eq t gap x m n]; rfl
  · rw [if_neg (by decide), if_pos rfl, ← asking_eq t gap x m n]; rfl
  · rw [if_neg (by decide), if_neg (by decide), if_neg (by decide)]; rfl
  · rw [if_neg (by decide), if_neg (by decide), if_pos rfl, ← merged_eq t gap x m n]; rfl
theorem fold_filter {α β : Type} (P : α → Bool) (f : β → α → β) : ∀ (l : List α) (b : β), (l.filter P).foldl f b = l.foldl (fun b a => if P a then f b a else b) b
  | [], _ => rfl
  | a :: r, b => by
    rw [List.filter_cons, List.foldl_cons]
    cases h : P a
    · simp [fold_filter P f r]
    · simp [fold_filter P f r]
theorem thinks_loop (t gap : Int) (x : Option Sight) (id : Int) (ls : List Note) (hl : ls.length ≤ 1000000) (hc : ∀ n ∈ ls, countsM n t = true) :
    ∀ (r : List Note) (i : Nat) (m : Mate), ls.drop i = r → i ≤ ls.length → m.ID = id → loop (convoy_mind_thinks_o_l1 (ls.map (letterM t))) ((i : Int), mind t gap x m) = some (mind t gap x (r.foldl (fun k n => if n.From != id then hearM k n x t else k) m)) := by
  intro r
  induction r with
  | nil =>
    intro i m hi hil _
    have := drop_nil hi
    refine loop_out ?_
    unfold convoy_mind_thinks_o_l1
    dsimp only
    rw [List.length_map, show decide ((i : Int) < (ls.length : Int)) = false from decide_eq_false (by omega)]
    rfl
  | cons n r ih =>
    intro i m hi hil hid
    have hlt := drop_lt hi
    have hn : n ∈ ls := List.mem_of_mem_drop (by rw [hi]; exact List.mem_cons_self)
    have hd : (ls.map (letterM t)).drop i = letterM t n :: r.map (letterM t) := by rw [← List.map_drop, hi]; rfl
    have hs : convoy_mind_thinks_o_l1 (ls.map (letterM t)) ((i : Int), mind t gap x m) = some (.go (((i + 1 : Nat) : Int), mind t gap x (if n.From != id then hearM m n x t else m))) := by
      unfold convoy_mind_thinks_o_l1
      dsimp only
      rw [List.length_map, show decide ((i : Int) < (ls.length : Int)) = true from decide_eq_true (by omega), geti_drop hd, w64_id (n := (i : Int) + 1) (by omega)]
      simp only [cond_true, Option.bind_some]
      rw [show (letterM t n).Note_ = n from rfl, show (mind t gap x m).Mate_ = m from rfl, hid]
      have := hear_eq t gap x m n (hc n hn)
      cases hf : (n.From != id)
      · rfl
      · rw [cond_true, if_pos rfl]
        cases hh : convoy_hears n.Kind with
        | none => rw [hh] at this; cases this
        | some v =>
          rw [hh, Option.bind_some] at this
          rw [Option.bind_some, this]; rfl
    rw [loop_go hs, ih (i + 1) _ (drop_succ hi) (by omega) (by
      split
      · rw [(hear_same _ _ _ _).id]; exact hid
      · exact hid)]
    rfl
theorem asks_eq (t gap : Int) (x : Option Sight) (m : Mate) (ls : List Note) (hl : ls.length ≤ 1000000) : slices_ContainsFunc_letter_letter_convoy_mind_thinks_1bb (ls.map (letterM t)) (mind t gap x m) = some (ls.any fun n => n.Kind == 2 && n.To == m.ID && n.From == m.Ward && n.From != m.ID) := by
  unfold slices_ContainsFunc_letter_letter_convoy_mind_thinks_1bb slices_IndexFunc_letter_letter_convoy_mind_thinks_1bb
  rw [index_eq (ls.map (letterM t)) (fun l => l.Note_.Kind == 2 && l.Note_.To == m.ID && l.Note_.From == m.Ward && l.Note_.From != m.ID) (by rw [List.length_map]; omega) (fun i a h => by
    have := get_lt h
    unfold slices_IndexFunc_letter_letter_convoy_mind_thinks_1bb_l1 convoy_mind_thinks_1_bb
    rw [show decide ((i : Int) < ((ls.map (letterM t)).length : Int)) = true from decide_eq_true (by omega), geti_some h]
    simp only [cond_true, Option.bind_some, mind]
    cases (a.Note_.Kind == 2 && a.Note_.To == m.ID && a.Note_.From == m.Ward && a.Note_.From != m.ID) <;> rfl) (by
    unfold slices_IndexFunc_letter_letter_convoy_mind_thinks_1bb_l1
    simp)]
  rw [Option.bind_some, idxI_any, List.any_map]; rfl
theorem thinks_eq (c : Convoy) (notes : List Note) (sights : List Sight) (m : Mate) (hl : notes.length ≤ 1000000) (h0 : 0 ≤ c.Tick) (h1 : c.Tick ≤ 1099511627776) :
    convoy_mind_thinks_o (mind c.Tick c.Gap (sightM sights m.ID) m) (lettersM notes c.Tick) = some (mind c.Tick c.Gap (sightM sights m.ID) (believeM c notes sights m)) := by
  have hfl : (notes.filter (countsM · c.Tick)).length ≤ 1000000 := Nat.le_trans (List.length_filter_le _ _) hl
  have hloop := thinks_loop c.Tick c.Gap (sightM sights m.ID) m.ID (notes.filter (countsM · c.Tick)) hfl (fun n hn => (List.mem_filter.1 hn).2) _ 0 m rfl (by omega) rfl
  rw [show ((0 : Nat) : Int) = 0 from rfl, List.drop_zero, fold_filter] at hloop
  have hh : notes.foldl (fun b a => if countsM a c.Tick = true then (if (a.From != m.ID) = true then hearM b a (sightM sights m.ID) c.Tick else b) else b) m = heardM notes (sightM sights m.ID) c.Tick m := by
    unfold heardM
    congr 1
    funext b a
    cases countsM a c.Tick <;> cases (a.From != m.ID) <;> rfl
  rw [hh] at hloop
  unfold believeM
  dsimp only
  unfold convoy_mind_thinks_o
  rw [show lettersM notes c.Tick = (notes.filter (countsM · c.Tick)).map (letterM c.Tick) from rfl, hloop, Option.bind_some]
  generalize sightM sights m.ID = x
  generalize heardM notes x c.Tick m = k
  have ha : (notes.filter (countsM · c.Tick)).any (fun n => n.Kind == 2 && n.To == k.ID && n.From == k.Ward && n.From != k.ID) = notes.any (asksM k c.Tick) := by
    rw [List.any_filter]
    congr 1
    funext n
    unfold asksM
    simp only [Bool.and_assoc]
  rw [asks_eq _ _ _ _ _ hfl, ha]
  generalize notes.any (asksM k c.Tick) = q
  -- forget
  have e1 : ((cond (((mind c.Tick c.Gap x k).Mate_.Ward != 0) && ((mind c.Tick c.Gap x k).Mate_.Until == 0)) (some q) (some default)).bind fun v4 => (cond ((((mind c.Tick c.Gap x k).Mate_.Ward != 0) && ((mind c.Tick c.Gap x k).Mate_.Until == 0)) && (!v4)) ((convoy_mind_forget_o (mind c.Tick c.Gap x k)).bind fun v5 => some v5) (some (mind c.Tick c.Gap x k)))) = some (mind c.Tick c.Gap x (forgetM k q)) := by
    unfold forgetM convoy_mind_forget_o
    dsimp only [mind]
    by_cases h : k.Ward ≠ 0 ∧ k.Until = 0
    · rw [show ((k.Ward != 0) && (k.Until == 0)) = true by simpa using h]
      cases q
      · rw [if_pos ⟨h.1, h.2, rfl⟩]; rfl
      · rw [if_neg (fun z => by cases z.2.2)]; rfl
    · rw [show ((k.Ward != 0) && (k.Until == 0)) = false by rw [Bool.eq_false_iff]; simpa using h, if_neg (fun z => h ⟨z.1, z.2.1⟩)]; rfl
  have assoc1 : ∀ {α β γ : Type} (a : Option α) (f : α → Option β) (g : β → Option γ), (a.bind fun v => (f v).bind g) = (a.bind f).bind g := fun a f g => by cases a <;> rfl
  refine (assoc1 _ _ _).trans ?_
  rw [e1, Option.bind_some]
  generalize forgetM k q = k1
  have e2 : (cond ((mind c.Tick c.Gap x k1).sees && ((mind c.Tick c.Gap x k1).Mate_.Ahead != 0)) ((convoy_Better (mind c.Tick c.Gap x k1).Mate_.Guess_ (Guess.mk (mind c.Tick c.Gap x k1).sight.Lo (mind c.Tick c.Gap x k1).sight.VLo)).bind fun v6 => some (ConvoyMind.mk (Mate.mk k1.ID k1.S k1.V k1.Len k1.Ahead v6 k1.Trust k1.Ward k1.WardGuess k1.Until) c.Tick c.Gap (x.getD S0) x.isSome)) (some (mind c.Tick c.Gap x k1))) = some (mind c.Tick c.Gap x (seeM k1 x)) := by
    unfold seeM
    cases x with
    | none => rfl
    | some x =>
      dsimp only [mind, Option.isSome_some, Option.getD_some]
      rw [convoy_Better_eq, Option.bind_some, Bool.true_and]
      refine (cond_ite (P := k1.Ahead ≠ 0) (by simp)).trans ?_
      split <;> rfl
  refine (congrArg (fun z => Option.bind z _) e2).trans ?_
  rw [Option.bind_some]
  generalize seeM k1 x = k2
  unfold grantM
  dsimp only [mind]
  rw [convoy_Safe_eq, cond_some, Option.bind_some, w64_id (n := c.Tick + 30) (by omega)]
  refine (cond_ite (P := k2.Ward ≠ 0 ∧ k2.Until = 0 ∧ safeM k2.S k2.V c.Gap k2.WardGuess = true) ?_).trans ?_
  · have e : ∀ a b d : Bool, (a && cond a b d) = (a && b) := by intro a b d; cases a <;> rfl
    rw [e]
    simp [and_assoc]
  · split <;> rfl

/-! ### The moves -/
theorem moved_eq {s v a : Int} (hs : 0 ≤ s ∧ s ≤ 2000000000000) (hv : 0 ≤ v ∧ v ≤ 2000) (ha : -90 ≤ a ∧ a ≤ 30) : convoy_moved s v a = some (s + speedM v a, speedM v a) := by
  unfold convoy_moved
  rw [mm2_max, mm2_min, w64_id (n := v + a) (by omega)]
  have := speed_bd v a
  rw [show max 0 (min (v + a) 2000) = speedM v a from rfl, w64_id (by omega)]
theorem great_loop {f : Int → Option (Stp Int Int)} (right : Int → Bool) (hf : ∀ a, -90 < a → a ≤ 30 → f a = some (if right a then .out a else .go (a - 1))) (h0 : f (-90) = some (.out (-90))) :
    ∀ (k : Nat) (a : Int), a = -90 + k → a ≤ 30 → loop f a = some (downM right k a)
  | 0, a, h, _ => by
    obtain rfl : a = -90 := by omega
    exact loop_out h0
  | k + 1, a, h, h1 => by
    have hs := hf a (by omega) h1
    unfold downM
    cases hr : right a
    · rw [hr] at hs
      rw [loop_go hs, if_neg (by simp)]
      exact great_loop right hf h0 k (a - 1) (by omega) (by omega)
    · rw [hr] at hs
      rw [loop_out hs, if_pos rfl]
theorem drives_eq (t gap : Int) (x : Option Sight) (m : Mate) (want : Int) (hs : 0 ≤ m.S ∧ m.S ≤ 2000000000000) (hv : 0 ≤ m.V ∧ m.V ≤ 2000) : convoy_mind_drives_b (mind t gap x m) want = some (driveM gap m want) := by
  unfold convoy_mind_drives_b driveM
  dsimp only [mind]
  have e1 : (cond ((m.Ward != 0) && (m.Until == 0)) (some (mm2 false want (-20))) (some want)) = some (wantM m want) := by
    unfold wantM
    rw [mm2_min]
    refine (cond_ite (P := m.Ward ≠ 0 ∧ m.Until = 0) (by simp)).trans ?_
    split <;> rfl
  rw [e1, Option.bind_some, (Age_eq _ _).1, (Age_eq _ _).1, Option.bind_some, Option.bind_some]
  have e2 : convoy_greatest_convoy_mind_drives_1bbbb m.S m.V (wantM m want) ⟨m, t, gap, x.getD S0, x.isSome⟩ (ageM m.Guess_ 1) (ageM m.WardGuess 1) = some (greatM (mayM gap m) (wantM m want)) := by
    unfold convoy_greatest_convoy_mind_drives_1bbbb greatM
    rw [mm2_max, mm2_min, great_loop (mayM gap m) (fun a h1 h2 => by
      unfold convoy_greatest_convoy_mind_drives_1bbbb_l1 convoy_mind_drives_1_bb_b_b
      rw [show decide (a > -90) = true from decide_eq_true h1, moved_eq hs hv (by omega), w64_id (n := a - 1) (by omega)]
      simp only [cond_true, Option.bind_some, keeps_eq]
      rw [show keepM gap m (m.S + speedM m.V a) (speedM m.V a) (ageM m.Guess_ 1) (ageM m.WardGuess 1) = mayM gap m a from rfl]
      cases mayM gap m a <;> rfl) (by
      unfold convoy_greatest_convoy_mind_drives_1bbbb_l1
      rfl) (max (-90) (min (wantM m want) 30) + 90).toNat _ (by omega) (by omega)]
    rfl
  rw [e2, Option.bind_some]
  have hg := (great_ok (mayM gap m) (wantM m want)).1
  rw [moved_eq hs hv (by omega), Option.bind_some]
  dsimp only
  simp only [bne_if]
  by_cases h1 : m.Ahead ≠ 0 <;> by_cases h2 : m.Ward ≠ 0
  · simp only [if_pos h1, if_pos h2]; rfl
  · simp only [if_pos h1, if_neg h2]; rfl
  · simp only [if_neg h1, if_pos h2]; rfl
  · simp only [if_neg h1, if_neg h2]; rfl
end Go.Abs.Convoy

namespace Go.Abs.Convoy
open Go Go.Abs

theorem want_eq (wants : List Int) (i : Nat) : convoy_Step_2_b (i : Int) wants = some (wantsM wants i) := by
  unfold convoy_Step_2_b wantsM
  by_cases h : i < wants.length
  · rw [show decide ((i : Int) < (wants.length : Int)) = true from decide_eq_true (by omega), geti_nat h, List.getD, List.getElem?_eq_getElem h]; rfl
  · rw [show decide ((i : Int) < (wants.length : Int)) = false from decide_eq_false (by omega), List.getD, List.getElem?_eq_none (by omega)]; rfl
theorem id_eq (c : Convoy) (a : Int) (h : a < (c.Mates.length : Int)) : cond (decide (a ≥ 0)) ((geti c.Mates a).bind fun v => some v.ID) (some 0) = some (idAt c a) := by
  unfold idAt
  by_cases h0 : 0 ≤ a
  · obtain ⟨k, rfl⟩ : ∃ k : Nat, a = (k : Int) := ⟨a.toNat, (Int.toNat_of_nonneg h0).symm⟩
    have hk : k < c.Mates.length := by omega
    rw [show decide ((k : Int) ≥ 0) = true from decide_eq_true h0, geti_nat hk, if_pos h0, Int.toNat_natCast, List.getElem?_eq_getElem hk]; rfl
  · rw [show decide (a ≥ 0) = false from decide_eq_false (by omega), if_neg h0]; rfl
theorem nearer_eq (g : Guest) (id : Int) (x : Guess) : convoy_nearer_o g id x = some (nearM g id x) := by
  unfold convoy_nearer_o nearM
  rw [convoy_Better_eq, Option.bind_some, bne_if]
  split <;> rfl
theorem arrives_loop (c : Convoy) (y1 y2 : Int) (ls : List Note) (hl : ls.length ≤ 1000000) (hc : ∀ n ∈ ls, countsM n c.Tick = true) :
    ∀ (r : List Note) (i : Nat) (g : Guest), ls.drop i = r → i ≤ ls.length → loop (convoy_arrives_l1 c (ls.map (letterM c.Tick)) y1 y2) ((i : Int), g) = some (r.foldl (learnM y1 y2 c.Tick) g) := by
  intro r
  induction r with
  | nil =>
    intro i g hi hil
    have := drop_nil hi
    refine loop_out ?_
    unfold convoy_arrives_l1
    dsimp only
    rw [List.length_map, show decide ((i : Int) < (ls.length : Int)) = false from decide_eq_false (by omega)]
    rfl
  | cons n r ih =>
    intro i g hi hil
    have hlt := drop_lt hi
    have hn : n ∈ ls := List.mem_of_mem_drop (by rw [hi]; exact List.mem_cons_self)
    have hd : (ls.map (letterM c.Tick)).drop i = letterM c.Tick n :: r.map (letterM c.Tick) := by rw [← List.map_drop, hi]; rfl
    have hs : convoy_arrives_l1 c (ls.map (letterM c.Tick)) y1 y2 ((i : Int), g) = some (.go (((i + 1 : Nat) : Int), learnM y1 y2 c.Tick g n)) := by
      have hf := (counts_stamp (hc n hn)).2.1
      unfold convoy_arrives_l1
      dsimp only
      rw [List.length_map, show decide ((i : Int) < (ls.length : Int)) = true from decide_eq_true (by omega), geti_drop hd, w64_id (n := (i : Int) + 1) (by omega)]
      simp only [cond_true, Option.bind_some, nearer_eq]
      rw [show (letterM c.Tick n).Note_ = n from rfl, show (letterM c.Tick n).guess = agedM n c.Tick from rfl]
      unfold learnM
      rw [if_pos (hc n hn)]
      refine (cond_ite (P := n.Kind = 1 ∧ y1 ≠ 0 ∧ n.From = y1) ?_).trans ?_
      · simp only [Bool.and_eq_true, beq_iff_eq]
        constructor
        · rintro ⟨a, b⟩; exact ⟨a, by omega, b⟩
        · rintro ⟨a, _, b⟩; exact ⟨a, b⟩
      split
      · rfl
      · refine (cond_ite (P := n.Kind = 3 ∧ n.To = g.ID ∧ y2 ≠ 0 ∧ n.From = y2 ∧ c.Tick ≤ n.Until) ?_).trans ?_
        · simp only [Bool.and_eq_true, beq_iff_eq, decide_eq_true_eq, ge_iff_le]
          constructor
          · rintro ⟨⟨⟨a, b⟩, d⟩, e⟩; exact ⟨a, b, by omega, d, e⟩
          · rintro ⟨a, b, _, d, e⟩; exact ⟨⟨⟨a, b⟩, d⟩, e⟩
        split <;> rfl
    rw [loop_go hs, ih (i + 1) _ (drop_succ hi) (by omega)]
    rfl
theorem fold_learn (y1 y2 t : Int) : ∀ (l : List Note) (g : Guest), (l.filter (countsM · t)).foldl (learnM y1 y2 t) g = l.foldl (learnM y1 y2 t) g
  | [], _ => rfl
  | n :: r, g => by
    rw [List.filter_cons, List.foldl_cons]
    cases h : countsM n t
    · rw [if_neg (by simp), fold_learn y1 y2 t r, show learnM y1 y2 t g n = g by unfold learnM; rw [h]; rfl]
    · rw [if_pos rfl, List.foldl_cons, fold_learn y1 y2 t r]
theorem arrives_eq (c : Convoy) (notes : List Note) (sights : List Sight) (hl : notes.length ≤ 1000000) (hs : sights.length ≤ 1000000) (hm : c.Mates.length ≤ 1000000) :
    convoy_arrives c (lettersM notes c.Tick) sights = some (learnsM c notes sights, mergeM c (learnsM c notes sights)) := by
  have hfl : (notes.filter (countsM · c.Tick)).length ≤ 1000000 := Nat.le_trans (List.length_filter_le _ _) hl
  obtain ⟨b1, b2, b3⟩ := besM_lt c
  unfold convoy_arrives
  rw [convoy_beside_eq c hm, Option.bind_some, id_eq c _ b1, Option.bind_some, id_eq c _ (by rcases b3 with h | ⟨j, h1, h2⟩ <;> omega), Option.bind_some]
  unfold learnsM
  dsimp only
  have e0 : (cond (c.Guest_.Ahead != idAt c (besM c).1) (some (Guest.mk c.Guest_.ID c.Guest_.S c.Guest_.V c.Guest_.Len c.Guest_.End 0 (Guess.mk 0 0) c.Guest_.From c.Guest_.Until)) (some c.Guest_)) = some (if c.Guest_.Ahead ≠ idAt c (besM c).1 then { c.Guest_ with Ahead := 0, Guess_ := ⟨0, 0⟩ } else c.Guest_) := by
    rw [bne_if]; split <;> rfl
  rw [e0, Option.bind_some]
  generalize (if c.Guest_.Ahead ≠ idAt c (besM c).1 then { c.Guest_ with Ahead := 0, Guess_ := ⟨0, 0⟩ } else c.Guest_) = g
  have hloop := arrives_loop c (idAt c (besM c).1) (idAt c (besM c).2) (notes.filter (countsM · c.Tick)) hfl (fun n hn => (List.mem_filter.1 hn).2) _ 0 g rfl (by omega)
  rw [show ((0 : Nat) : Int) = 0 from rfl, List.drop_zero, fold_learn] at hloop
  rw [show lettersM notes c.Tick = (notes.filter (countsM · c.Tick)).map (letterM c.Tick) from rfl, hloop, Option.bind_some]
  generalize notes.foldl (learnM (idAt c (besM c).1) (idAt c (besM c).2) c.Tick) g = k
  rw [sight_eq sights k.ID hs, Option.bind_some]
  dsimp only
  have fin : ∀ q : Guest, ((cond ((!(idAt c (besM c).1 == 0)) && (q.Ahead == idAt c (besM c).1)) (convoy_Safe q.S q.V c.Gap q.Guess_) (some default)).bind fun v8 => some (q, (((idAt c (besM c).1 == 0) || ((q.Ahead == idAt c (besM c).1) && v8)) && ((idAt c (besM c).2 == 0) || ((q.From == idAt c (besM c).2) && (decide (c.Tick ≤ q.Until))))))) = some (q, mergeM c q) := by
    intro q
    rw [convoy_Safe_eq, cond_some, Option.bind_some]
    unfold mergeM
    dsimp only
    have e2 : ∀ a b d e : Bool, (a || (b && cond (!a && b) d e)) = (a || (b && d)) := by intro a b d e; cases a <;> cases b <;> rfl
    rw [e2]
  cases sightM sights k.ID with
  | none => exact fin k
  | some x =>
    rw [nearer_eq, Option.bind_some, show (some x).isSome = true from rfl, Bool.true_and, bne_if]
    dsimp only [Option.getD_some]
    split
    · exact fin _
    · exact fin _
theorem rolls_eq {g : Guest} (want : Int) (hs : 0 ≤ g.S ∧ g.S ≤ 2000000000000) (hv : 0 ≤ g.V ∧ g.V ≤ 2000) : convoy_rolls g want = some (rollM g want) := by
  unfold convoy_rolls rollM
  dsimp only
  have e2 : convoy_greatest_convoy_rolls_1b g.S g.V want g = some (greatM (fun a => decide (g.S + speedM g.V a + stopM (speedM g.V a) < g.End)) want) := by
    unfold convoy_greatest_convoy_rolls_1b greatM
    rw [mm2_max, mm2_min, great_loop (fun a => decide (g.S + speedM g.V a + stopM (speedM g.V a) < g.End)) (fun a h1 h2 => by
      unfold convoy_greatest_convoy_rolls_1b_l1 convoy_rolls_1_b
      rw [show decide (a > -90) = true from decide_eq_true h1, moved_eq hs hv (by omega), w64_id (n := a - 1) (by omega)]
      have b1 := speed_bd g.V a
      have b2 := stop2000 b1.2
      simp only [cond_true, Option.bind_some, convoy_stop_eq]
      rw [w64_id (n := g.S + speedM g.V a + stopM (speedM g.V a)) (by omega)]
      cases decide (g.S + speedM g.V a + stopM (speedM g.V a) < g.End) <;> rfl) (by
      unfold convoy_greatest_convoy_rolls_1b_l1
      rfl) (max (-90) (min want 30) + 90).toNat _ (by omega) (by omega)]
    rfl
  have hg := (great_ok (fun a => decide (g.S + speedM g.V a + stopM (speedM g.V a) < g.End)) want).1
  rw [e2, Option.bind_some, moved_eq hs hv (by omega), Option.bind_some, (Age_eq _ _).1, Option.bind_some, bne_if]
  dsimp only
  split <;> rfl

/-! ### The whole step -/
theorem chk_tick {c : Convoy} (h : chkM c = 0) : (0 ≤ c.Tick ∧ c.Tick ≤ 1099511627776) ∧ 1 ≤ c.Gap ∧ c.Gap ≤ 20000 := by
  obtain ⟨⟨a, b⟩, _⟩ := num_parts (chk_num h)
  rw [within_iff] at a b
  exact ⟨a, b⟩
theorem noGuest_G0 {g : Guest} (h : noGuest g = true) : g = G0 := by
  unfold noGuest at h
  simp only [Bool.and_eq_true, beq_iff_eq, and_true] at h
  obtain ⟨a, b, d, e, f, k, l, m, n, o⟩ := h
  cases g with
  | mk a1 a2 a3 a4 a5 a6 a7 a8 a9 =>
    cases a7 with
    | mk r v =>
      dsimp only at *
      subst_vars
      rfl
theorem chk_guest {c : Convoy} (h : chkM c = 0) : c.Guest_ = G0 ∨ guestM c.Guest_ = true := by
  obtain ⟨_, _, _, _, e⟩ := num_parts (chk_num h)
  rw [Bool.or_eq_true] at e
  rcases e with e | e
  · exact .inl (noGuest_G0 e)
  · exact .inr e
theorem guest_body {g : Guest} (h : guestM g = true) : (1 ≤ g.ID ∧ g.ID ≤ 99) ∧ (0 ≤ g.S ∧ g.S ≤ 1099511627776) ∧ (0 ≤ g.V ∧ g.V ≤ 2000) ∧ (300 ≤ g.Len ∧ g.Len ≤ 20000) := by
  unfold guestM bodyM at h
  simp only [Bool.and_eq_true, within_iff] at h
  omega
theorem step_loop (c : Convoy) (wants : List Int) (notes : List Note) (sights : List Sight) (h : chkM c = 0) (hl : notes.length ≤ 1000000) (hs : sights.length ≤ 1000000) :
    ∀ (r : List Mate) (i : Nat), c.Mates.drop i = r → i ≤ c.Mates.length → loop (convoy_Step_l1 c wants sights (lettersM notes c.Tick)) ((i : Int), ⟨c.Tick + 1, c.Gap, (matesM c wants notes sights).take i, G0⟩) = some ⟨c.Tick + 1, c.Gap, matesM c wants notes sights, G0⟩ := by
  have hlen := (num_len (chk_num h)).2
  have htk := (chk_tick h).1
  intro r
  induction r with
  | nil =>
    intro i hi hil
    have := drop_nil hi
    refine loop_out ?_
    unfold convoy_Step_l1
    dsimp only
    rw [show decide ((i : Int) < (c.Mates.length : Int)) = false from decide_eq_false (by omega), List.take_of_length_le (by rw [len_mates]; omega)]
    rfl
  | cons m r ih =>
    intro i hi hil
    have hlt := drop_lt hi
    have h0 : c.Mates[i]? = some m := by have := congrArg (fun z => z[0]?) hi; simpa using this
    have mb := chk_mate h h0
    obtain ⟨q1, q2, q3⟩ : (1 ≤ m.ID ∧ m.ID ≤ 99) ∧ (0 ≤ m.S ∧ m.S ≤ 1099511627776) ∧ (0 ≤ m.V ∧ m.V ≤ 2000) := by
      have := mateB_iff.2 mb
      unfold mateM bodyM at this
      simp only [Bool.and_eq_true, within_iff] at this
      omega
    have hsame : Same4 m (believeM c notes sights m) := by
      unfold believeM heardM
      dsimp only
      have key : ∀ (l : List Note) (k : Mate), Same4 m k → Same4 m (l.foldl (fun k n => if countsM n c.Tick && n.From != m.ID then hearM k n (sightM sights m.ID) c.Tick else k) k) := by
        intro l
        induction l with
        | nil => exact fun k hk => hk
        | cons n r ih2 =>
          intro k hk
          rw [List.foldl_cons]
          refine ih2 _ ?_
          split
          · exact hk.trans (hear_same _ _ _ _)
          · exact hk
      exact ((key notes m (Same4.refl m)).trans (forget_same _ _)).trans (see_same _ _) |>.trans (grant_same _ _ _)
    have hstep : convoy_Step_l1 c wants sights (lettersM notes c.Tick) ((i : Int), ⟨c.Tick + 1, c.Gap, (matesM c wants notes sights).take i, G0⟩) = some (.go (((i + 1 : Nat) : Int), ⟨c.Tick + 1, c.Gap, (matesM c wants notes sights).take (i + 1), G0⟩)) := by
      unfold convoy_Step_l1
      dsimp only
      rw [show decide ((i : Int) < (c.Mates.length : Int)) = true from decide_eq_true (by omega), geti_drop hi, w64_id (n := (i : Int) + 1) (by omega)]
      simp only [cond_true, Option.bind_some]
      rw [sight_eq sights m.ID hs, Option.bind_some]
      have ht := thinks_eq c notes sights m hl htk.1 htk.2
      unfold mind at ht
      dsimp only
      rw [ht, Option.bind_some, want_eq, Option.bind_some]
      have hd := drives_eq c.Tick c.Gap (sightM sights m.ID) (believeM c notes sights m) (wantsM wants i) (by rw [hsame.s]; omega) (by rw [hsame.v]; exact q3)
      unfold mind at hd
      rw [hd, Option.bind_some, appc_eq (by rw [List.length_take, len_mates]; simp only [List.length_cons, List.length_nil]; omega), Option.bind_some, List.take_add_one, drove_mates notes sights wants h0]
      rfl
    rw [loop_go hstep]
    exact ih (i + 1) (drop_succ hi) (by omega)
theorem far_any (l : List Mate) (hl : l.length ≤ 1000000) : slices_ContainsFunc_Mate_Mate_convoy_Step_1 l = some (l.any fun m => decide (1099511625776 < m.S)) := by
  unfold slices_ContainsFunc_Mate_Mate_convoy_Step_1 slices_IndexFunc_Mate_Mate_convoy_Step_1
  rw [index_eq l (fun m => decide (1099511625776 < m.S)) (by omega) (fun i a h => by
    have := get_lt h
    unfold slices_IndexFunc_Mate_Mate_convoy_Step_1_l1 convoy_Step_1
    rw [show decide ((i : Int) < (l.length : Int)) = true from decide_eq_true (by omega), geti_some h]
    simp only [cond_true, Option.bind_some, gt_iff_lt]
    cases decide (1099511625776 < a.S) <;> rfl) (by
    unfold slices_IndexFunc_Mate_Mate_convoy_Step_1_l1
    simp)]
  rw [Option.bind_some, idxI_any]
theorem learns_body (c : Convoy) (notes : List Note) (sights : List Sight) : (learnsM c notes sights).ID = c.Guest_.ID ∧ (learnsM c notes sights).S = c.Guest_.S ∧ (learnsM c notes sights).V = c.Guest_.V ∧ (learnsM c notes sights).Len = c.Guest_.Len ∧ (learnsM c notes sights).End = c.Guest_.End := by
  have key : ∀ (a b t : Int) (l : List Note) (g k : Guest), (k.ID = g.ID ∧ k.S = g.S ∧ k.V = g.V ∧ k.Len = g.Len ∧ k.End = g.End) → ((l.foldl (learnM a b t) k).ID = g.ID ∧ (l.foldl (learnM a b t) k).S = g.S ∧ (l.foldl (learnM a b t) k).V = g.V ∧ (l.foldl (learnM a b t) k).Len = g.Len ∧ (l.foldl (learnM a b t) k).End = g.End) := by
    intro a b t l
    induction l with
    | nil => exact fun _ _ h => h
    | cons n r ih =>
      intro g k h
      rw [List.foldl_cons]
      refine ih g _ ?_
      unfold learnM nearM
      split
      · split
        · exact h
        · split <;> exact h
      · exact h
  unfold learnsM
  dsimp only
  have h1 := key (idAt c (besM c).1) (idAt c (besM c).2) c.Tick notes c.Guest_ (if c.Guest_.Ahead ≠ idAt c (besM c).1 then { c.Guest_ with Ahead := 0, Guess_ := ⟨0, 0⟩ } else c.Guest_) (by split <;> exact ⟨rfl, rfl, rfl, rfl, rfl⟩)
  generalize notes.foldl (learnM (idAt c (besM c).1) (idAt c (besM c).2) c.Tick) _ = k at h1
  cases sightM sights k.ID with
  | none => exact h1
  | some x =>
    dsimp only
    split
    · exact h1
    · exact h1
theorem convoy_Step_eq (c : Convoy) (wants : List Int) (notes : List Note) (sights : List Sight) (hl : notes.length ≤ 1000000) (hs : sights.length ≤ 1000000) (hm : c.Mates.length ≤ 1000000) : convoy_Step c wants notes sights = some (stepM c wants notes sights) := by
  unfold convoy_Step stepM
  rw [convoy_Check_eq c hm, Option.bind_some]
  by_cases h : chkM c = 0
  · rw [if_neg (by simpa using h), show (chkM c != 0) = false by simpa using h, cond_false, far_any _ hm, mm2_max]
    have e1 : ∀ X Y : Option (Convoy × Int), ((cond (!(((decide (max (notes.length : Int) (sights.length : Int) > 60)) || (decide (c.Tick ≥ 1099511627776))) || (decide (c.Guest_.S > 1099511625776)))) (some (c.Mates.any fun m => decide (1099511625776 < m.S))) (some default)).bind fun v2 => cond ((((decide (max (notes.length : Int) (sights.length : Int) > 60)) || (decide (c.Tick ≥ 1099511627776))) || (decide (c.Guest_.S > 1099511625776))) || v2) X Y) = if 60 < notes.length ∨ 60 < sights.length ∨ c.Tick = 1099511627776 ∨ farM c = true then X else Y := by
      intro X Y
      rw [cond_some, Option.bind_some]
      refine cond_ite ?_
      have e : ∀ a b d : Bool, (a || cond (!a) b d) = (a || b) := by intro a b d; cases a <;> rfl
      rw [e]
      have htk := (chk_tick h).1
      unfold farM
      simp only [Bool.or_eq_true, decide_eq_true_eq, gt_iff_lt, ge_iff_le]
      constructor
      · rintro (((a | a) | a) | a)
        · by_cases q : 60 < notes.length
          · exact .inl q
          · exact .inr (.inl (by omega))
        · exact .inr (.inr (.inl (by omega)))
        · exact .inr (.inr (.inr (.inl a)))
        · exact .inr (.inr (.inr (.inr a)))
      · rintro (a | a | a | a | a)
        · exact .inl (.inl (.inl (by omega)))
        · exact .inl (.inl (.inl (by omega)))
        · exact .inl (.inl (.inr (by omega)))
        · exact .inl (.inr a)
        · exact .inr a
    refine (e1 _ _).trans ?_
    have htk := (chk_tick h).1
    by_cases hf : 60 < notes.length ∨ 60 < sights.length ∨ c.Tick = 1099511627776 ∨ farM c = true
    · rw [if_pos hf, if_pos hf]; rfl
    · rw [if_neg hf, if_neg hf, post_eq notes htk.1 htk.2 hl, Option.bind_some, w64_id (n := c.Tick + 1) (by omega)]
      have hloop := step_loop c wants notes sights h hl hs _ 0 rfl (by omega)
      rw [show ((0 : Nat) : Int) = 0 from rfl, List.take_zero] at hloop
      refine (congrArg (fun z => Option.bind z _) hloop).trans ?_
      rw [Option.bind_some]
      by_cases hg : c.Guest_.ID = 0
      · rw [if_pos hg, show (c.Guest_.ID == 0) = true by simpa using hg]; rfl
      · rw [if_neg hg, show (c.Guest_.ID == 0) = false by simpa using hg, cond_false, want_eq, Option.bind_some, arrives_eq c notes sights hl hs hm, Option.bind_some]
        dsimp only
        have gb := guest_body (g := c.Guest_) (by
          rcases chk_guest h with e | e
          · rw [e] at hg; exact absurd rfl hg
          · exact e)
        obtain ⟨l1, l2, l3, l4, l5⟩ := learns_body c notes sights
        generalize learnsM c notes sights = g at l1 l2 l3 l4 l5
        cases hj : mergeM c g
        · rw [Bool.not_false, cond_true, rolls_eq _ (by rw [l2]; omega) (by rw [l3]; omega), Option.bind_some, if_neg (by simp)]
        · rw [Bool.not_true, cond_false, convoy_beside_eq c hm, Option.bind_some, if_pos rfl]
          have hd := drives_eq c.Tick c.Gap none (newMate g) (wantsM wants c.Mates.length) (by show 0 ≤ g.S ∧ _; rw [l2]; show _ ∧ g.S ≤ _; rw [l2]; omega) (by show 0 ≤ g.V ∧ g.V ≤ _; rw [l3]; omega)
          have hd' : convoy_mind_drives_b (ConvoyMind.mk (Mate.mk g.ID g.S g.V g.Len g.Ahead g.Guess_ true 0 (Guess.mk 0 0) 0) c.Tick c.Gap (Sight.mk 0 0 0 0 0) false) (wantsM wants c.Mates.length) = some (driveM c.Gap (newMate g) (wantsM wants c.Mates.length)) := hd
          rw [hd', Option.bind_some]
          obtain ⟨b1, b2, _⟩ := besM_lt c
          have hml := num_len (chk_num h)
          rw [w64_id (by omega)]
          unfold insertc
          rw [if_pos (by rw [len_mates]; simp only [List.length_cons, List.length_nil]; omega), Option.bind_some]
          simp
  · rw [if_pos (by simpa using h), show (chkM c != 0) = true by simpa using h]; rfl
end Go.Abs.Convoy

namespace Go.Abs.Convoy
open Go Go.Abs

theorem chk_gb {c : Convoy} (h : chkM c = 0) : guestBad c = false := by
  unfold chkM at h
  split at h
  · rename_i q; exact absurd h q
  · split at h
    · rename_i q; exact absurd h q
    · split at h
      · exact absurd h (by decide)
      · split at h
        · exact absurd h (by decide)
        · rename_i q
          simp only [Bool.or_eq_true, not_or, Bool.not_eq_true] at q
          exact q.2
/-- The kit's convoys are as they should be. -/
theorem base_mate {gap : Int} {l : List Mate} (hc : Chn gap l) (hg : 1 ≤ gap ∧ gap ≤ 3000) (h2 : l.length ≤ 5) {G : Int} {c : Convoy} (hcm : c.Mates = newL l) (hcg : c.Gap = gap) (hct : c.Tick = 0) {i : Nat} {m : Mate} (hm : c.Mates[i]? = some m) : MateI G 0 c i m := by
  rw [hcm] at hm
  have N := new_at hc hm
  have hlt := get_lt hm
  rw [newL_len] at hlt
  obtain ⟨kS, kV, kL⟩ := N.kit
  have gM : GB m.Guess_ := by
    unfold GB
    rcases Nat.eq_zero_or_pos i with z | z
    · rw [N.zero z]; dsimp only; omega
    · obtain ⟨k, _, _, e, _, _, q1, q2, q3⟩ := N.pred z
      rw [e]; dsimp only; omega
  have hw : GB m.WardGuess := by rw [N.wg]; unfold GB; dsimp only; omega
  refine ⟨by rw [N.id]; omega, by rw [hct]; omega, kV, by omega, gM, hw, fun h => ?_, fun h => absurd N.ward h, fun h => absurd N.untl h, by rw [N.untl, hct]; omega, fun h => ?_, fun h => absurd N.untl h, fun k h0 hk => ?_, fun z => by rw [N.ahead, z]; rfl⟩
  · have z : 0 < i := by rw [N.ahead] at h; omega
    obtain ⟨k, e1, e2, e3, _⟩ := N.pred z
    refine ⟨i - 1, k, by omega, by rw [hcm]; exact e1, by rw [e2, N.ahead], ?_⟩
    rw [e3]; exact Lower.refl _
  · have z : 0 < i := by rw [N.ahead] at h; omega
    obtain ⟨k, e1, e2, e3, _, s, _⟩ := N.pred z
    have := gM.num
    rw [hcg]
    exact (safeM_iff (sane5 (by omega))).1 s
  · rw [hcm] at hk
    have N2 := new_at hc hk
    left
    rw [N2.id, N.ahead]; omega
theorem base_inv {b : Bool} {c : Convoy} (K : KitC b c) : ∃ G, Inv G 0 c ∧ c.Tick = 0 ∧ (b = false → c.Guest_ = G0) ∧ (c.Guest_.ID ≠ 0 → c.Guest_.ID = G) ∧ (∀ (i : Nat) m, c.Mates[i]? = some m → m.Trust = true ∧ m.Ward = 0 ∧ m.Until = 0 ∧ m.ID ≠ G ∧ 16000000 ≤ m.S) := by
  obtain ⟨gap, l, hg, hc, hl, hcase⟩ := K.is
  have key : ∀ (G : Int), 70 ≤ G → ∀ c' : Convoy, c'.Mates = newL l → ∀ (i : Nat) m, c'.Mates[i]? = some m → m.Trust = true ∧ m.Ward = 0 ∧ m.Until = 0 ∧ m.ID ≠ G ∧ 16000000 ≤ m.S := fun G hG c' e i m hm => by
    rw [e] at hm
    have N := new_at hc hm
    have hlt := get_lt hm
    rw [newL_len] at hlt
    have := N.kit.1
    exact ⟨N.trust, N.ward, N.untl, by rw [N.id]; omega, this.1⟩
  have dist : ∀ c' : Convoy, c'.Mates = newL l → ∀ (i j : Nat) x y, c'.Mates[i]? = some x → c'.Mates[j]? = some y → x.ID = y.ID → i = j := fun c' e i j x y hx hy hxy => by
    rw [e] at hx hy
    rw [(new_at hc hx).id, (new_at hc hy).id] at hxy
    omega
  rcases hcase with e | ⟨hb, g, g1, g2, g3, g4, e⟩
  · refine ⟨99, ⟨by rw [e]; show (0 : Int) ≤ 0 ∧ (0 : Int) ≤ 1000; omega, by rw [e]; show 1 ≤ gap ∧ gap ≤ 20000; omega, by decide, ?_, ?_, fun i m hm => base_mate hc hg hl.2 (by rw [e]; rfl) (by rw [e]; rfl) (by rw [e]; rfl) hm, dist c (by rw [e]; rfl), .inl (by rw [e]; rfl)⟩, by rw [e]; rfl, fun _ => by rw [e]; rfl, fun h => absurd (by rw [e]; rfl) h, key 99 (by decide) c (by rw [e]; rfl)⟩
    · rw [e]; show 1 ≤ (newL l).length; rw [newL_len]; exact hl.1
    · rw [e, if_pos (by rfl)]; show (newL l).length + 0 ≤ 8; rw [newL_len]; omega
  · have ch := K.chk
    have hid : c.Guest_.ID = g.ID := by rw [e]; rfl
    have hgid : c.Guest_.ID ≠ 0 := by omega
    have gm : guestM c.Guest_ = true := by
      rcases chk_guest ch with q | q
      · rw [q] at hgid; exact absurd rfl hgid
      · exact q
    obtain ⟨b1, b2, b3, b4⟩ := guest_body gm
    have hend : c.Guest_.End ≤ 1099511627776 := by
      unfold guestM at gm
      simp only [Bool.and_eq_true, within_iff] at gm
      exact gm.2.2.2.2.1.2
    have hstop : c.Guest_.S + stopM c.Guest_.V < c.Guest_.End := by
      have := chk_gb ch
      have s2 := stop2000 b3.2
      unfold guestBad at this
      rw [w64_id (by omega)] at this
      simp only [Bool.and_eq_false_iff, bne_eq_false_iff_eq, decide_eq_false_iff_not] at this
      rcases this with q | q
      · exact absurd q hgid
      · omega
    have hS : c.Guest_.S = g.S := by rw [e]; rfl
    refine ⟨g.ID, ⟨by rw [e]; show (0 : Int) ≤ 0 ∧ (0 : Int) ≤ 1000; omega, by rw [e]; show 1 ≤ gap ∧ gap ≤ 20000; omega, by omega, ?_, ?_, fun i m hm => base_mate hc hg hl.2 (by rw [e]; rfl) (by rw [e]; rfl) (by rw [e]; rfl) hm, dist c (by rw [e]; rfl), .inr ?_⟩, by rw [e]; rfl, (fun h => by rw [hb] at h; cases h), fun _ => hid, key g.ID g1.1 c (by rw [e]; rfl)⟩
    · rw [e]; show 1 ≤ (newL l).length; rw [newL_len]; exact hl.1
    · rw [if_neg hgid, e]; show (newL l).length + 1 ≤ 8; rw [newL_len]; omega
    · refine ⟨hid, by omega, fun i m hm => ?_, ?_, b3, b4, hstop, hend, ?_, fun h => absurd (by rw [e]; rfl) h, by rw [e]; show (0 : Int) ≤ 0 ∧ (0 : Int) ≤ 99; omega, by rw [e]; show (0 : Int) ≤ 0 ∧ (0 : Int) ≤ 0 + 30; omega, fun h => absurd (by rw [e]; rfl) h, fun h => absurd (by rw [e]; rfl) h, by rw [e]; rfl⟩
      · rw [e] at hm
        have N := new_at hc (show (newL l)[i]? = some m from hm)
        have hlt := get_lt (show (newL l)[i]? = some m from hm)
        rw [newL_len] at hlt
        rw [N.id]; omega
      · rw [show c.Tick = 0 by rw [e]; rfl]; omega
      · rw [show c.Guest_.Guess_ = ⟨0, 0⟩ by rw [e]; rfl]; unfold GB; dsimp only; omega

/-! ### The kit's numbers, sights and post -/
theorem wanted_ok (n : Int) (h0 : 0 ≤ n) (hn : n ≤ 1000) : ∀ (r : KitRing), 0 ≤ r.at_ → r.at_ ≤ 900000000 → ∃ w r', law09_wanted_o r n = some (w, r') ∧ w.length = n.toNat ∧ 0 ≤ r'.at_ ∧ r'.at_ = r.at_ + n ∧ ∀ x ∈ w, -100 ≤ x ∧ x ≤ 49 := by
  intro r a0 a1
  have key : ∀ (k : Nat) (i : Nat) (w : List Int) (r : KitRing), (i : Int) + k = n → w.length = i → (∀ x ∈ w, -100 ≤ x ∧ x ≤ 49) → 0 ≤ r.at_ → r.at_ + k ≤ 900001000 → ∃ w' r', loop (law09_wanted_o_l1 n) (w, (i : Int), r) = some (w', r') ∧ w'.length = i + k ∧ r'.at_ = r.at_ + k ∧ ∀ x ∈ w', -100 ≤ x ∧ x ≤ 49 := by
    intro k
    induction k with
    | zero =>
      intro i w r hi hw hx _ _
      refine ⟨w, r, loop_out ?_, by omega, by omega, hx⟩
      unfold law09_wanted_o_l1
      dsimp only
      rw [show decide ((i : Int) < n) = false from decide_eq_false (by omega)]; rfl
    | succ k ih =>
      intro i w r hi hw hx b0 b1
      obtain ⟨x, e, x0, x1⟩ := next_ok r (k := 150) b0 (by omega) (by decide) (by decide)
      have hs : law09_wanted_o_l1 n (w, (i : Int), r) = some (.go (w ++ [x - 100], ((i + 1 : Nat) : Int), ⟨r.l, r.at_ + 1⟩)) := by
        unfold law09_wanted_o_l1
        dsimp only
        rw [show decide ((i : Int) < n) = true from decide_eq_true (by omega), cond_true, e, Option.bind_some, w64_id (n := x - 100) (by omega), appc_eq (by simp; omega), Option.bind_some, w64_id (n := (i : Int) + 1) (by omega)]
        rfl
      obtain ⟨w', r', q1, q2, q3, q4⟩ := ih (i + 1) (w ++ [x - 100]) ⟨r.l, r.at_ + 1⟩ (by omega) (by simp [hw]) (fun y hy => by
        rw [List.mem_append, List.mem_singleton] at hy
        rcases hy with hy | hy
        · exact hx y hy
        · omega) (by dsimp only; omega) (by dsimp only; omega)
      exact ⟨w', r', by rw [loop_go hs]; exact q1, by omega, by dsimp only at q3; omega, q4⟩
  obtain ⟨w', r', q1, q2, q3, q4⟩ := key n.toNat 0 [] r (by omega) rfl (by simp) a0 (by omega)
  rw [show ((0 : Nat) : Int) = 0 from rfl] at q1
  refine ⟨w', r', ?_, by omega, by omega, by omega, q4⟩
  unfold law09_wanted_o
  rw [q1]; rfl
theorem ids_ok (c : Convoy) (hl : c.Mates.length ≤ 1000) : loop (law09_looks_o_l1 c) ([c.Guest_.ID], 0) = some (c.Guest_.ID :: c.Mates.map (·.ID)) := by
  have key : ∀ (r : List Mate) (i : Nat) (w : List Int), c.Mates.drop i = r → i ≤ c.Mates.length → w.length = i + 1 → loop (law09_looks_o_l1 c) (w, (i : Int)) = some (w ++ r.map (·.ID)) := by
    intro r
    induction r with
    | nil =>
      intro i w hi hil _
      have := drop_nil hi
      refine (loop_out (t := w) ?_).trans (by simp)
      unfold law09_looks_o_l1
      dsimp only
      rw [show decide ((i : Int) < (c.Mates.length : Int)) = false from decide_eq_false (by omega)]; rfl
    | cons m r ih =>
      intro i w hi hil hw
      have hlt := drop_lt hi
      have hs : law09_looks_o_l1 c (w, (i : Int)) = some (.go (w ++ [m.ID], ((i + 1 : Nat) : Int))) := by
        unfold law09_looks_o_l1
        dsimp only
        rw [show decide ((i : Int) < (c.Mates.length : Int)) = true from decide_eq_true (by omega), geti_drop hi, cond_true, Option.bind_some, appc_eq (by simp; omega), Option.bind_some, w64_id (n := (i : Int) + 1) (by omega)]
        rfl
      rw [loop_go hs, ih (i + 1) _ (drop_succ hi) (by omega) (by simp [hw])]
      simp
  have := key _ 0 [c.Guest_.ID] rfl (by omega) rfl
  rw [show ((0 : Nat) : Int) = 0 from rfl] at this
  rw [this]; rfl
/-- The sights: each is one that Look gives; and all of them, if that is asked. -/
theorem looks_ok (c : Convoy) (all : Bool) (hl : c.Mates.length ≤ 100) (r : KitRing) (a0 : 0 ≤ r.at_) (a1 : r.at_ ≤ 900000000) :
    ∃ s r', law09_looks_o r c all = some (s, r') ∧ s.length ≤ c.Mates.length + 1 ∧ r.at_ ≤ r'.at_ ∧ r'.at_ ≤ r.at_ + 5 * (c.Mates.length + 1) ∧ (∀ x ∈ s, ∃ id l, lookM c id l = (x, 0)) ∧
      (all = true → ∀ (i : Nat) m, c.Mates[i]? = some m → ∀ l : List Int, (lookM c m.ID l).2 = 0 → ∃ x ∈ s, x.By = m.ID) := by
  have hids := ids_ok c (by omega)
  have hlen : (c.Guest_.ID :: c.Mates.map (·.ID)).length = c.Mates.length + 1 := by simp
  generalize hids' : (c.Guest_.ID :: c.Mates.map (·.ID)) = ids at hids hlen
  have look2 : ∀ (id : Int) (l l' : List Int), (lookM c id l).2 = (lookM c id l').2 := by
    intro id l l'
    unfold lookM
    split
    · rfl
    · split
      · rfl
      · split <;> rfl
  have lookBy : ∀ (id : Int) (l : List Int), (lookM c id l).2 = 0 → (lookM c id l).1.By = id := by
    intro id l h
    unfold lookM at h ⊢
    by_cases q : chkM c ≠ 0
    · rw [if_pos q] at h; exact absurd h q
    · rw [if_neg q] at h ⊢
      generalize (if (id != 0 && id == c.Guest_.ID) = true then (besM c).1 else idxI (fun m => m.ID == id) c.Mates - 1) = z at h ⊢
      cases z with
      | negSucc n => exact absurd (show (7 : Int) = 0 from h) (by decide)
      | ofNat a =>
        dsimp only at h ⊢
        cases hm : c.Mates[a]? with
        | none => rw [hm] at h; exact absurd (show (7 : Int) = 0 from h) (by decide)
        | some m => rfl
  have key : ∀ (q : List Int) (i : Nat) (s : List Sight) (r : KitRing), ids.drop i = q → i ≤ ids.length → s.length ≤ i → (∀ x ∈ s, ∃ id l, lookM c id l = (x, 0)) → (all = true → ∀ id ∈ ids.take i, ∀ l : List Int, (lookM c id l).2 = 0 → ∃ x ∈ s, x.By = id) → 0 ≤ r.at_ → r.at_ + 5 * q.length ≤ 900001000 →
      ∃ s' r', loop (law09_looks_o_l2 c all ids) (s, (i : Int), r) = some (s', r') ∧ s'.length ≤ ids.length ∧ r.at_ ≤ r'.at_ ∧ r'.at_ ≤ r.at_ + 5 * q.length ∧ (∀ x ∈ s', ∃ id l, lookM c id l = (x, 0)) ∧ (all = true → ∀ id ∈ ids, ∀ l : List Int, (lookM c id l).2 = 0 → ∃ x ∈ s', x.By = id) := by
    intro q
    induction q with
    | nil =>
      intro i s r hi hil hs hx ha _ _
      have := drop_nil hi
      refine ⟨s, r, loop_out ?_, by omega, by omega, by simp, hx, fun h id hid => ha h id ?_⟩
      · unfold law09_looks_o_l2
        dsimp only
        rw [show decide ((i : Int) < (ids.length : Int)) = false from decide_eq_false (by omega)]; rfl
      · rw [List.take_of_length_le (by omega)]; exact hid
    | cons id q ih =>
      intro i s r hi hil hs hx ha b0 b1
      have hlt := drop_lt hi
      simp only [List.length_cons] at b1
      obtain ⟨x1, e1, _, _⟩ := next_ok r (k := 101) b0 (by omega) (by decide) (by decide)
      obtain ⟨x2, e2, _, _⟩ := next_ok ⟨r.l, r.at_ + 1⟩ (k := 101) (by dsimp only; omega) (by dsimp only; omega) (by decide) (by decide)
      obtain ⟨x3, e3, _, _⟩ := next_ok ⟨r.l, r.at_ + 1 + 1⟩ (k := 6) (by dsimp only; omega) (by dsimp only; omega) (by decide) (by decide)
      obtain ⟨x4, e4, _, _⟩ := next_ok ⟨r.l, r.at_ + 1 + 1 + 1⟩ (k := 6) (by dsimp only; omega) (by dsimp only; omega) (by decide) (by decide)
      obtain ⟨x5, e5, _, _⟩ := next_ok ⟨r.l, r.at_ + 1 + 1 + 1 + 1⟩ (k := 2) (by dsimp only; omega) (by dsimp only; omega) (by decide) (by decide)
      dsimp only at e2 e3 e4 e5
      have hcl : convoy_Look c id [x1, x2, x3, x4] = some (lookM c id [x1, x2, x3, x4]) := convoy_Look_eq c id _ (by omega)
      have hLk := look2 id [x1, x2, x3, x4]
      have hBy := lookBy id [x1, x2, x3, x4]
      generalize hv : lookM c id [x1, x2, x3, x4] = v at hcl hLk hBy
      have htake : ids.take (i + 1) = ids.take i ++ [id] := by
        rw [List.take_add_one, show ids[i]? = some id by have := congrArg (fun z => z[0]?) hi; simpa using this]; rfl
      have hs' : ∃ (s1 : List Sight) (r1 : KitRing), law09_looks_o_l2 c all ids (s, (i : Int), r) = some (.go (s1, ((i + 1 : Nat) : Int), r1)) ∧ (s1 = s ∧ (all = true → v.2 ≠ 0) ∨ s1 = s ++ [v.1] ∧ v.2 = 0) ∧ (r.at_ ≤ r1.at_ ∧ r1.at_ ≤ r.at_ + 5) := by
        unfold law09_looks_o_l2
        dsimp only
        rw [show decide ((i : Int) < (ids.length : Int)) = true from decide_eq_true (by omega), geti_drop hi, cond_true, Option.bind_some, e1, Option.bind_some]
        dsimp only
        rw [e2, Option.bind_some]
        dsimp only
        rw [e3, Option.bind_some]
        dsimp only
        rw [e4, Option.bind_some]
        dsimp only
        rw [hcl, Option.bind_some, e5, w64_id (n := (i : Int) + 1) (by omega), appc_eq (by simp; omega)]
        by_cases hz : v.2 = 0
        · rw [show (v.2 == 0) = true by simpa using hz]
          cases all
          · simp only [Bool.not_false, Bool.and_self, cond_true, Option.bind_some, Bool.false_or, Bool.true_and]
            by_cases h5 : x5 = 0
            · rw [show (x5 == 0) = true by simpa using h5]
              exact ⟨_, _, rfl, .inr ⟨rfl, hz⟩, by dsimp only; omega, by dsimp only; omega⟩
            · rw [show (x5 == 0) = false by simpa using h5]
              exact ⟨_, _, rfl, .inl ⟨rfl, fun h => by cases h⟩, by dsimp only; omega, by dsimp only; omega⟩
          · simp only [Bool.not_true, Bool.and_false, cond_false, Option.bind_some, Bool.true_or, Bool.true_and, cond_true]
            exact ⟨_, _, rfl, .inr ⟨rfl, hz⟩, by dsimp only; omega, by dsimp only; omega⟩
        · rw [show (v.2 == 0) = false by simpa using hz]
          simp only [Bool.false_and, cond_false, Option.bind_some]
          exact ⟨_, _, rfl, .inl ⟨rfl, fun _ => hz⟩, by dsimp only; omega, by dsimp only; omega⟩
      obtain ⟨s1, r1, hgo, hs1, c0, c1⟩ := hs'
      obtain ⟨s', r', q1, q2, q3, q4, q5, q6⟩ := ih (i + 1) s1 r1 (drop_succ hi) (by omega) (by
        rcases hs1 with ⟨e, _⟩ | ⟨e, _⟩
        · rw [e]; omega
        · rw [e, List.length_append]; simp only [List.length_cons, List.length_nil]; omega) (fun x hxx => by
        rcases hs1 with ⟨e, _⟩ | ⟨e, z⟩
        · rw [e] at hxx; exact hx x hxx
        · rw [e, List.mem_append, List.mem_singleton] at hxx
          rcases hxx with hxx | rfl
          · exact hx x hxx
          · exact ⟨id, [x1, x2, x3, x4], by rw [hv, ← z]⟩) (fun h id' hid' l hl0 => by
        rw [htake, List.mem_append, List.mem_singleton] at hid'
        rcases hid' with hid' | rfl
        · obtain ⟨x, hx1, hx2⟩ := ha h id' hid' l hl0
          rcases hs1 with ⟨e, _⟩ | ⟨e, _⟩
          · exact ⟨x, by rw [e]; exact hx1, hx2⟩
          · exact ⟨x, by rw [e]; exact List.mem_append_left _ hx1, hx2⟩
        · have hz : v.2 = 0 := (hLk l).trans hl0
          rcases hs1 with ⟨_, z⟩ | ⟨e, _⟩
          · exact absurd hz (z h)
          · exact ⟨v.1, by rw [e]; simp, hBy hz⟩) (by omega) (by omega)
      refine ⟨s', r', by rw [loop_go hgo]; exact q1, q2, by omega, by simp only [List.length_cons]; omega, q5, q6⟩
  obtain ⟨s', r', q1, q2, q3, q4, q5, q6⟩ := key ids 0 [] r rfl (by omega) (by simp) (by simp) (by simp) a0 (by omega)
  rw [show ((0 : Nat) : Int) = 0 from rfl] at q1
  refine ⟨s', r', ?_, by omega, q3, by omega, q5, fun h i m hm l hl0 => q6 h m.ID ?_ l hl0⟩
  · unfold law09_looks_o
    rw [hids, Option.bind_some, q1]; rfl
  · rw [← hids']
    exact List.mem_cons_of_mem _ (List.mem_map_of_mem (List.mem_of_getElem? hm))
end Go.Abs.Convoy

namespace Go.Abs.Convoy
open Go Go.Abs

theorem newRing_eq (l : List Int) : kit_NewRing_m l = some ⟨l, 0⟩ := rfl
/-- A convoy in which nobody is a ward. -/
structure Free (G : Int) (c : Convoy) : Prop where
  guest : c.Guest_ = G0
  noG : ∀ (i : Nat) m, c.Mates[i]? = some m → m.ID ≠ G
theorem Free.nobel {G T : Int} {c : Convoy} (I : Inv G T c) (F : Free G c) {g : Guess} : ¬ Bel c G g := by
  rintro ⟨r, v, hb, _⟩
  cases hb with
  | mate i m hm hid => exact F.noG i m hm hid
  | guest h h0 => rw [F.guest] at h; exact h0 h.symm
theorem Free.ward {G T : Int} {c : Convoy} (I : Inv G T c) (F : Free G c) {i : Nat} {m : Mate} (M : MateI G T c i m) : m.Ward = 0 ∧ m.Until = 0 := by
  have h1 : m.Ward = 0 := Classical.byContradiction fun h => F.nobel I (M.ward h).2
  exact ⟨h1, Classical.byContradiction fun h => M.untl h h1⟩
theorem Free.not {G T : Int} {c : Convoy} (I : Inv G T c) (F : Free G c) : ¬ c.Guest_.ID = G := by
  rw [F.guest]; exact fun h => I.gpos h.symm
end Go.Abs.Convoy

namespace Go.Abs.Convoy
open Go Go.Abs

theorem send_ok (p : KitPost) (l : List Note) (t : Int) (hp : p.sent.length ≤ 1000000) (hl : l.length ≤ 1000000) (h0 : 0 ≤ t ∧ t ≤ 1000000) : ∃ q, kit_Post_Send_o p l t = some q ∧ (∀ n ∈ q.sent, n ∈ p.sent ∨ n ∈ l) ∧ q.sent.length ≤ p.sent.length + l.length := by
  have key : ∀ (r : List Note) (i : Nat) (w : List Note), p.sent.drop i = r → i ≤ p.sent.length → w.length ≤ i → (∀ n ∈ w, n ∈ p.sent) → ∃ w', loop (kit_Post_Send_o_l1 p t) (w, (i : Int)) = some w' ∧ w'.length ≤ p.sent.length ∧ ∀ n ∈ w', n ∈ p.sent := by
    intro r
    induction r with
    | nil =>
      intro i w hi hil hw hm
      have := drop_nil hi
      refine ⟨w, loop_out ?_, by omega, hm⟩
      unfold kit_Post_Send_o_l1
      dsimp only
      rw [show decide ((i : Int) < (p.sent.length : Int)) = false from decide_eq_false (by omega)]; rfl
    | cons n r ih =>
      intro i w hi hil hw hm
      have hlt := drop_lt hi
      have hn : n ∈ p.sent := List.mem_of_mem_drop (by rw [hi]; exact List.mem_cons_self)
      have hs : kit_Post_Send_o_l1 p t (w, (i : Int)) = some (.go (if n.Stamp ≥ t - 20 - 1 then w ++ [n] else w, ((i + 1 : Nat) : Int))) := by
        unfold kit_Post_Send_o_l1
        dsimp only
        rw [show decide ((i : Int) < (p.sent.length : Int)) = true from decide_eq_true (by omega), geti_drop hi, cond_true, Option.bind_some, Option.bind_some, w64_id (n := t - 20) (by omega), w64_id (n := t - 20 - 1) (by omega), appc_eq (by simp; omega), Option.bind_some, w64_id (n := (i : Int) + 1) (by omega)]
        refine (cond_ite (P := n.Stamp ≥ t - 20 - 1) (by simp)).trans ?_
        split <;> rfl
      obtain ⟨w', q1, q2, q3⟩ := ih (i + 1) (if n.Stamp ≥ t - 20 - 1 then w ++ [n] else w) (drop_succ hi) (by omega) (by split <;> (try simp only [List.length_append, List.length_cons, List.length_nil]) <;> omega) (fun z hz => by
        split at hz
        · rw [List.mem_append, List.mem_singleton] at hz
          rcases hz with hz | rfl
          · exact hm z hz
          · exact hn
        · exact hm z hz)
      exact ⟨w', by rw [loop_go hs]; exact q1, q2, q3⟩
  obtain ⟨w', q1, q2, q3⟩ := key _ 0 [] rfl (by omega) (by simp) (by simp)
  rw [show ((0 : Nat) : Int) = 0 from rfl] at q1
  unfold kit_Post_Send_o
  rw [q1, Option.bind_some, appc_eq (by omega), Option.bind_some]
  refine ⟨_, rfl, fun n hn => ?_, by simp only [List.length_append]; omega⟩
  rcases List.mem_append.1 hn with h | h
  · exact .inl (q3 n h)
  · exact .inr h
theorem deliver_ok (p : KitPost) (r : KitRing) (t : Int) (hp : p.sent.length ≤ 1000000) (a0 : 0 ≤ r.at_) (a1 : r.at_ ≤ 900000000) :
    ∃ ns r', kit_Post_Deliver_o_o p r t = some (ns, r') ∧ ns.length ≤ 41 ∧ (∀ n ∈ ns, n ∈ p.sent) ∧ r.at_ ≤ r'.at_ ∧ r'.at_ ≤ r.at_ + p.sent.length + 2 := by
  obtain ⟨how, e1, h0, h1⟩ := next_ok r (k := 4) a0 (by omega) (by decide) (by decide)
  have key : ∀ (k : Nat) (i : Int) (w : List Note) (r1 : KitRing), i = (k : Int) - 1 → k ≤ p.sent.length → w.length ≤ 40 → (∀ n ∈ w, n ∈ p.sent) → 0 ≤ r1.at_ → r1.at_ + k ≤ 902000000 → ∃ w' r', loop (kit_Post_Deliver_o_o_l1 p t (how, ⟨r.l, r.at_ + 1⟩)) (w, i, r1) = some (w', r') ∧ w'.length ≤ 40 ∧ (∀ n ∈ w', n ∈ p.sent) ∧ r1.at_ ≤ r'.at_ ∧ r'.at_ ≤ r1.at_ + k := by
    intro k
    induction k with
    | zero =>
      intro i w r1 hi _ hw hm _ _
      refine ⟨w, r1, loop_out ?_, hw, hm, by omega, by omega⟩
      unfold kit_Post_Deliver_o_o_l1
      dsimp only
      rw [show decide (i ≥ 0) = false from decide_eq_false (by omega)]; rfl
    | succ k ih =>
      intro i w r1 hi hk hw hm b0 b1
      obtain rfl : i = (k : Int) := by omega
      by_cases hw40 : (w.length : Int) < 40
      · obtain ⟨x, e, _, _⟩ := next_ok r1 (k := 5) b0 (by omega) (by decide) (by decide)
        have hg : geti p.sent (k : Int) = some p.sent[k] := geti_nat (by omega)
        have hs : ∃ (w1 : List Note) (r2 : KitRing), kit_Post_Deliver_o_o_l1 p t (how, ⟨r.l, r.at_ + 1⟩) (w, (k : Int), r1) = some (.go (w1, (k : Int) - 1, r2)) ∧ (w1 = w ∨ w1 = w ++ [p.sent[k]]) ∧ r1.at_ ≤ r2.at_ ∧ r2.at_ ≤ r1.at_ + 1 := by
          unfold kit_Post_Deliver_o_o_l1
          dsimp only
          rw [show decide ((k : Int) ≥ 0) = true from decide_eq_true (by omega), show decide ((w.length : Int) < 40) = true from decide_eq_true hw40, hg, e, w64_id (n := (k : Int) - 1) (by omega)]
          have happ : appc w [p.sent[k]] = some (w ++ [p.sent[k]]) := appc_eq (by simp only [List.length_cons, List.length_nil]; omega)
          simp only [Bool.and_self, cond_true, cond_some, Option.bind_some, happ]
          generalize (decide (how > 0) && !((cond (decide (how > 0)) p.sent[k] default).Stamp == t && decide (how > 1))) = q1
          generalize (decide (how > 0) && ((cond (decide (how > 0)) p.sent[k] default).Stamp == t && decide (how > 1) || (cond q1 (x, (⟨r1.l, r1.at_ + 1⟩ : KitRing)) default).1 == 0)) = q2
          cases q2
          · refine ⟨_, _, rfl, .inl rfl, ?_, ?_⟩ <;> cases q1 <;> simp <;> omega
          · refine ⟨_, _, rfl, .inr rfl, ?_, ?_⟩ <;> cases q1 <;> simp <;> omega
        obtain ⟨w1, r2, hgo, h1, h2, h3⟩ := hs
        obtain ⟨w', r', q1, q2, q3, q4, q5⟩ := ih ((k : Int) - 1) w1 r2 rfl (by omega) (by
          rcases h1 with h1 | h1
          · rw [h1]; exact hw
          · rw [h1, List.length_append]; simp only [List.length_cons, List.length_nil]; omega) (fun z hz => by
          rcases h1 with h1 | h1
          · rw [h1] at hz; exact hm z hz
          · rw [h1, List.mem_append, List.mem_singleton] at hz
            rcases hz with hz | rfl
            · exact hm z hz
            · exact List.getElem_mem _) (by omega) (by omega)
        exact ⟨w', r', by rw [loop_go hgo]; exact q1, q2, q3, by omega, by omega⟩
      · refine ⟨w, r1, loop_out ?_, hw, hm, by omega, by omega⟩
        unfold kit_Post_Deliver_o_o_l1
        dsimp only
        rw [show decide ((w.length : Int) < 40) = false from decide_eq_false hw40, Bool.and_false]; rfl
  obtain ⟨w, r1, q1, q2, q3, q4, q5⟩ := key p.sent.length ((p.sent.length : Int) - 1) [] ⟨r.l, r.at_ + 1⟩ rfl (Nat.le_refl _) (by simp) (by simp) (by dsimp only; omega) (by dsimp only; omega)
  dsimp only at q4 q5
  unfold kit_Post_Deliver_o_o
  rw [e1, Option.bind_some, w64_id (n := (p.sent.length : Int) - 1) (by omega)]
  dsimp only
  rw [q1, Option.bind_some]
  dsimp only
  by_cases hc : (decide ((w.length : Int) > 1) && how == 3) = true
  · rw [hc, cond_true]
    simp only [Bool.and_eq_true, decide_eq_true_eq] at hc
    obtain ⟨x, e, x0, x1⟩ := next_ok r1 (k := (w.length : Int)) (by omega) (by omega) (by omega) (by omega)
    obtain ⟨j, rfl⟩ : ∃ j : Nat, x = (j : Int) := ⟨x.toNat, (Int.toNat_of_nonneg x0).symm⟩
    rw [e, Option.bind_some]
    dsimp only
    have hj : j < w.length := by omega
    have h0' : 0 < w.length := by omega
    have g0 : ∀ l : List Note, (hl : 0 < l.length) → geti l 0 = some (l[0]'hl) := fun l hl => geti_nat (i := 0) hl
    have sl : ∀ (l : List Note) (i : Int) (b : Note), (seti l i b).length = l.length := fun l i b => by unfold seti; exact List.length_set
    have hl3 : (seti (seti w 0 w[j]) (j : Int) (w[0]'h0')).length = w.length := by rw [sl, sl]
    rw [geti_nat hj, Option.bind_some, g0 w h0', Option.bind_some, Option.bind_some, geti_nat (by rw [sl]; exact hj), Option.bind_some, g0 _ (by rw [sl, sl]; exact h0'), Option.bind_some, appc_eq (by simp only [List.length_cons, List.length_nil]; omega), Option.bind_some]
    have hset : ∀ z ∈ seti (seti w 0 w[j]) (j : Int) (w[0]'h0'), z ∈ p.sent := by
      intro z hz
      unfold seti at hz
      rcases List.mem_or_eq_of_mem_set hz with hz | rfl
      · rcases List.mem_or_eq_of_mem_set hz with hz | rfl
        · exact q3 z hz
        · exact q3 _ (List.getElem_mem _)
      · exact q3 _ (List.getElem_mem _)
    refine ⟨_, _, rfl, by rw [List.length_append]; simp only [List.length_cons, List.length_nil]; omega, fun z hz => ?_, by dsimp only; omega, by dsimp only; omega⟩
    rw [List.mem_append, List.mem_singleton] at hz
    rcases hz with hz | rfl
    · exact hset z hz
    · exact hset _ (List.getElem_mem _)
  · rw [show (decide ((w.length : Int) > 1) && how == 3) = false by simpa using hc, cond_false]
    exact ⟨w, r1, rfl, by omega, q3, by omega, by omega⟩

/-- A run: the convoy, and what was sent so far. -/
structure Run (G T : Int) (c : Convoy) (p : KitPost) : Prop where
  inv : Inv G T c
  notes : ∀ n ∈ p.sent, NoteI G T c n
  few : (p.sent.length : Int) ≤ 100 * c.Tick
theorem tick_ok {G T : Int} {c : Convoy} {p : KitPost} (R : Run G T c p) (w : List Int) (r : KitRing) (a0 : 0 ≤ r.at_) (a1 : r.at_ ≤ 800000000) (ht : c.Tick + 1 ≤ 1000) :
    ∃ q ns r2 s r3 d T', convoy_Notes c = some (notesM c) ∧ kit_Post_Send_o p (notesM c) c.Tick = some q ∧ kit_Post_Deliver_o_o q r c.Tick = some (ns, r2) ∧ law09_looks_o r2 c false = some (s, r3) ∧ convoy_Step c w ns s = some (d, 0) ∧
      StepR G T c w ns s d T' ∧ Run G T' d q ∧ Told G T c ns s ∧ (r.at_ ≤ r3.at_ ∧ r3.at_ ≤ r.at_ + 200000) ∧ (∀ n ∈ ns, NoteI G T c n) ∧ (∀ n ∈ ns, n ∈ q.sent) ∧ (∀ n ∈ q.sent, n ∈ p.sent ∨ n ∈ notesM c) := by
  have I := R.inv
  have tk := I.tick
  have hl : c.Mates.length ≤ 8 := by have := I.many; omega
  have few := R.few
  obtain ⟨n1, _, n3⟩ := notes_both c (by omega)
  obtain ⟨q, e2, q1, q2⟩ := send_ok p (notesM c) c.Tick (by omega) (by omega) (by omega)
  have hqn : ∀ n ∈ q.sent, NoteI G T c n := fun n hn => by
    rcases q1 n hn with h | h
    · exact R.notes n h
    · exact notes_inv I n h
  obtain ⟨ns, r2, e3, d1, d2, d3, d4⟩ := deliver_ok q r c.Tick (by omega) a0 (by omega)
  obtain ⟨s, r3, e4, s1, s2, s3, s4, _⟩ := looks_ok c false (by omega) r2 (by omega) (by omega)
  have hnn : ∀ n ∈ ns, NoteI G T c n := fun n hn => hqn n (d2 n hn)
  have told := told_of I hnn (fun x hx => by
    obtain ⟨id, l, h⟩ := s4 x hx
    exact (look_inv I h).1)
  obtain ⟨d, T', hst, S⟩ := step_told (wants := w) I told ht (by omega) (by omega)
  refine ⟨q, ns, r2, s, r3, d, T', n1, e2, e3, e4, by rw [convoy_Step_eq c w ns s (by omega) (by omega) (by omega), hst], S, ⟨S.inv, fun n hn => S.keep n (hqn n hn), by rw [S.mv.tick]; omega⟩, told, ⟨by omega, by omega⟩, hnn, d2, q1⟩
theorem run_base {b : Bool} {c : Convoy} (K : KitC b c) : ∃ G, Run G 0 c ⟨[]⟩ ∧ c.Tick = 0 ∧ (c.Guest_.ID ≠ 0 → c.Guest_.ID = G) := by
  obtain ⟨G, I, t0, _, g1, _⟩ := base_inv K
  exact ⟨G, ⟨I, by simp, by simp [t0]⟩, t0, g1⟩
end Go.Abs.Convoy

namespace Go.Abs.Convoy
open Go Go.Abs

/-- Which grant a guest holds. -/
def Grant (ns : List Note) (id f u : Int) : Prop := ∃ n ∈ ns, n.Kind = 3 ∧ n.From = f ∧ n.To = id ∧ n.Until = u
theorem learn_from (c : Convoy) (ns : List Note) (s : List Sight) : ((learnsM c ns s).From = c.Guest_.From ∧ (learnsM c ns s).Until = c.Guest_.Until) ∨ Grant ns c.Guest_.ID (learnsM c ns s).From (learnsM c ns s).Until := by
  have key : ∀ (l : List Note), (∀ n ∈ l, n ∈ ns) → ∀ k : Guest, k.ID = c.Guest_.ID → ((k.From = c.Guest_.From ∧ k.Until = c.Guest_.Until) ∨ Grant ns c.Guest_.ID k.From k.Until) →
      (l.foldl (learnM (idAt c (besM c).1) (idAt c (besM c).2) c.Tick) k).ID = c.Guest_.ID ∧ (((l.foldl (learnM (idAt c (besM c).1) (idAt c (besM c).2) c.Tick) k).From = c.Guest_.From ∧ (l.foldl (learnM (idAt c (besM c).1) (idAt c (besM c).2) c.Tick) k).Until = c.Guest_.Until) ∨ Grant ns c.Guest_.ID (l.foldl (learnM (idAt c (besM c).1) (idAt c (besM c).2) c.Tick) k).From (l.foldl (learnM (idAt c (besM c).1) (idAt c (besM c).2) c.Tick) k).Until) := by
    intro l
    induction l with
    | nil => exact fun _ k h1 h2 => ⟨h1, h2⟩
    | cons n r ih =>
      intro hl k h1 h2
      rw [List.foldl_cons]
      have hn := hl n List.mem_cons_self
      refine ih (fun z hz => hl z (List.mem_cons_of_mem _ hz)) _ ?_ ?_
      · unfold learnM nearM
        split
        · split
          · exact h1
          · split <;> exact h1
        · exact h1
      · unfold learnM nearM
        split
        · split
          · exact h2
          · split
            · rename_i q
              exact .inr ⟨n, hn, q.1, q.2.2.2.1, q.2.1.trans h1, rfl⟩
            · exact h2
        · exact h2
  have h0 := key ns (fun _ h => h) (if c.Guest_.Ahead ≠ idAt c (besM c).1 then { c.Guest_ with Ahead := 0, Guess_ := ⟨0, 0⟩ } else c.Guest_) (by split <;> rfl) (by split <;> exact .inl ⟨rfl, rfl⟩)
  unfold learnsM
  dsimp only
  generalize ns.foldl (learnM (idAt c (besM c).1) (idAt c (besM c).2) c.Tick) _ = k at h0
  cases sightM s k.ID with
  | none => exact h0.2
  | some x =>
    dsimp only
    split
    · exact h0.2
    · exact h0.2
theorem granted_ok (all : List Note) (d : Convoy) (p : Nat) (id tick : Int) (hl : all.length ≤ 1000000) (hd : d.Mates.length ≤ 1000) (hp : p < d.Mates.length) (h : ∀ b, d.Mates[p + 1]? = some b → ∃ n ∈ all, n.Kind = 3 ∧ n.From = b.ID ∧ n.To = id ∧ tick ≤ n.Until) : law09_granted all d (p : Int) id tick = some true := by
  unfold law09_granted
  rw [w64_id (n := (p : Int) + 1) (by omega)]
  by_cases hb : p + 1 < d.Mates.length
  · rw [show decide ((p : Int) + 1 ≥ (d.Mates.length : Int)) = false from decide_eq_false (by omega), cond_false]
    have hbm : d.Mates[p + 1]? = some d.Mates[p + 1] := List.getElem?_eq_getElem hb
    obtain ⟨n, hn, n1, n2, n3, n4⟩ := h _ hbm
    have hs := scan (f := law09_granted_l1 all d (p : Int) id tick) all (fun _ z => z.Kind == 3 && z.From == d.Mates[p + 1].ID && z.To == id && decide (tick ≤ z.Until)) true (by omega) 0 (fun i a _ ha => by
      have hlt := get_lt ha
      unfold law09_granted_l1
      rw [show decide ((i : Int) < (all.length : Int)) = true from decide_eq_true (by omega), cond_true, geti_some ha, Option.bind_some, w64_id (n := (p : Int) + 1) (by omega), show ((p : Int) + 1) = ((p + 1 : Nat) : Int) by omega, geti_nat hb, cond_some, Option.bind_some]
      by_cases hk : a.Kind = 3
      · rw [show (a.Kind == 3) = true by simpa using hk]
        simp only [Bool.true_and, cond_true, ge_iff_le]
        cases (a.From == d.Mates[p + 1].ID && a.To == id && decide (tick ≤ a.Until)) <;> rfl
      · rw [show (a.Kind == 3) = false by simpa using hk]
        rfl) (by unfold law09_granted_l1; simp) (by omega)
    rw [show ((0 : Nat) : Int) = 0 from rfl, List.drop_zero, anyI_any] at hs
    rw [hs, if_pos (List.any_eq_true.2 ⟨n, hn, by simp [n1, n2, n3, n4]⟩)]
    rfl
  · rw [show decide ((p : Int) + 1 ≥ (d.Mates.length : Int)) = true from decide_eq_true (by omega)]; rfl
theorem find_last (v2 : Convoy × KitRing) (v10 : Convoy × Int) (hl : v10.1.Mates.length ≤ 1000) (hd : ∀ (i j : Nat) a b, v10.1.Mates[i]? = some a → v10.1.Mates[j]? = some b → a.ID = b.ID → i = j) {p : Nat} {m : Mate} (hp : v10.1.Mates[p]? = some m) (hid : m.ID = v2.1.Guest_.ID) :
    ∀ (r : List Mate) (i : Nat) (x : Int), v10.1.Mates.drop i = r → i ≤ v10.1.Mates.length → (p < i → x = (p : Int)) → loop (law09_ConvoyRamp_l2 v2 v10) (x, (i : Int)) = some (p : Int) := by
  intro r
  induction r with
  | nil =>
    intro i x hi hil hx
    have := drop_nil hi
    have := get_lt hp
    rw [hx (by omega)]
    refine loop_out ?_
    unfold law09_ConvoyRamp_l2
    dsimp only
    rw [show decide ((i : Int) < (v10.1.Mates.length : Int)) = false from decide_eq_false (by omega)]; rfl
  | cons a r ih =>
    intro i x hi hil hx
    have hlt := drop_lt hi
    have ha : v10.1.Mates[i]? = some a := by have := congrArg (fun z => z[0]?) hi; simpa using this
    have hs : law09_ConvoyRamp_l2 v2 v10 (x, (i : Int)) = some (.go (if a.ID = v2.1.Guest_.ID then (i : Int) else x, ((i + 1 : Nat) : Int))) := by
      unfold law09_ConvoyRamp_l2
      dsimp only
      rw [show decide ((i : Int) < (v10.1.Mates.length : Int)) = true from decide_eq_true (by omega), geti_drop hi, cond_true, Option.bind_some, w64_id (n := (i : Int) + 1) (by omega)]
      refine (cond_ite (P := a.ID = v2.1.Guest_.ID) (by simp)).trans ?_
      split <;> rfl
    rw [loop_go hs]
    refine ih (i + 1) _ (drop_succ hi) (by omega) (fun hlt2 => ?_)
    by_cases h : a.ID = v2.1.Guest_.ID
    · rw [if_pos h, hd i p a m ha hp (h.trans hid.symm)]
    · rw [if_neg h]
      refine hx ?_
      rcases Nat.lt_or_ge p i with z | z
      · exact z
      · have : p = i := by omega
        subst this
        rw [hp] at ha; cases ha
        exact absurd hid h
theorem rampW_l1 (v2 : Convoy × KitRing) (h0 : v2.1.Guest_.ID ≠ 0) : ∀ (n : Nat) (all : List Note) (r : KitRing) (c : Convoy) (p : KitPost) (T : Int), Run v2.1.Guest_.ID T c p → c.Guest_.ID = v2.1.Guest_.ID → (∀ z ∈ p.sent, z ∈ all) → (c.Guest_.From ≠ 0 → Grant all v2.1.Guest_.ID c.Guest_.From c.Guest_.Until) → (all.length : Int) ≤ 100 * c.Tick → c.Tick + n ≤ 300 → 0 ≤ r.at_ → r.at_ + 300000 * n ≤ 200000000 →
    loop (law09_ConvoyRamp_l1 v2) (all, (n : Int), r, c, p) = some (.inr true) ∨ ∃ d T', loop (law09_ConvoyRamp_l1 v2) (all, (n : Int), r, c, p) = some (.inl d) ∧ Inv v2.1.Guest_.ID T' d ∧ d.Tick ≤ 300 := by
  intro n
  induction n with
  | zero =>
    intro all r c p T R _ _ _ _ ht _ _
    right
    refine ⟨c, T, loop_out ?_, R.inv, by omega⟩
    unfold law09_ConvoyRamp_l1
    rfl
  | succ n ih =>
    intro all r c p T R hg hsub hfrom hall ht a0 a1
    have I := R.inv
    have tk := I.tick
    have hl : c.Mates.length ≤ 8 := by have := I.many; omega
    obtain ⟨w, r1, e0, _, _, w2, _⟩ := wanted_ok ((c.Mates.length : Int) + 1) (by omega) (by omega) r a0 (by omega)
    obtain ⟨q, ns, r2, s, r3, d, T', e1, e2, e3, e4, e5, S, R', told, b, hnn, hnq, hqn⟩ := tick_ok R w r1 (by omega) (by omega) (by omega)
    have few : (notesM c).length ≤ 100 := (notes_both c (by omega)).2.2
    have hq : ∀ z ∈ q.sent, z ∈ all ++ notesM c := fun z hz => by
      rw [List.mem_append]
      exact (hqn z hz).imp (hsub z) id
    obtain ⟨l1, l2, l3, l4, l5⟩ := learns_body c ns s
    have hgr : (learnsM c ns s).From ≠ 0 → Grant (all ++ notesM c) v2.1.Guest_.ID (learnsM c ns s).From (learnsM c ns s).Until := by
      intro hz
      rcases learn_from c ns s with ⟨u1, u2⟩ | ⟨z, z1, z2⟩
      · rw [u1] at hz
        obtain ⟨z, z1, z2⟩ := hfrom hz
        rw [u1, u2]
        exact ⟨z, List.mem_append_left _ z1, z2⟩
      · rw [hg] at z2
        exact ⟨z, hq z (hnq z z1), z2⟩
    have pre : law09_ConvoyRamp_l1 v2 (all, ((n + 1 : Nat) : Int), r, c, p) = (cond (d.Guest_.ID == v2.1.Guest_.ID) (cond ((decide (d.Guest_.S ≥ d.Guest_.End)) || (decide (d.Guest_.S < c.Guest_.S))) (some (.out (.inr false))) (some (.go (all ++ notesM c, (n : Int), r3, d, q)))) ((loop (law09_ConvoyRamp_l2 v2 (d, 0)) ((-1), 0)).bind fun y2 => ((cond ((decide (y2 ≥ 0)) && ((d.Mates.length : Int) == (c.Mates.length : Int) + 1)) (law09_granted (all ++ notesM c) d y2 v2.1.Guest_.ID c.Tick) (some default))).bind fun v12 => ((cond (((decide (y2 ≥ 0)) && ((d.Mates.length : Int) == (c.Mates.length : Int) + 1)) && v12) (law09_awake) (some default))).bind fun v13 => some (.out (.inr ((((decide (y2 ≥ 0)) && ((d.Mates.length : Int) == (c.Mates.length : Int) + 1)) && v12) && v13))))) := by
      unfold law09_ConvoyRamp_l1
      dsimp only
      rw [show decide (((n + 1 : Nat) : Int) > 0) = true from decide_eq_true (by omega), show (v2.1.Guest_.ID != 0) = true by simpa using h0]
      simp only [Bool.and_self, cond_true]
      rw [e1, Option.bind_some, e2, Option.bind_some, appc_eq (by omega), Option.bind_some, w64_id (n := (c.Mates.length : Int) + 1) (by omega), e0, Option.bind_some]
      dsimp only
      rw [e3, Option.bind_some]
      dsimp only
      rw [e4, Option.bind_some]
      dsimp only
      rw [e5, Option.bind_some, w64_id (n := ((n + 1 : Nat) : Int) - 1) (by omega), show ((n + 1 : Nat) : Int) - 1 = (n : Int) by omega]
      rfl
    rcases S.is with ⟨z, _⟩ | ⟨_, H, _, ed⟩ | ⟨_, H, hj, ed⟩
    · rw [z] at hg; exact absurd hg.symm h0
    · have hdid : d.Guest_.ID = v2.1.Guest_.ID := by rw [ed]; exact l1.trans hg
      have gd := S.inv.noG (by rw [hdid]; exact h0)
      have gs := gd.stops
      have s0 := (stopM_nonneg d.Guest_.V).1
      obtain ⟨o1, o2, _⟩ := roll_ok (want := wantsM w c.Mates.length) H.gi.v H.gi.stops
      have hS : d.Guest_.S = c.Guest_.S + d.Guest_.V := by rw [ed]; show (rollM _ _).S = _; rw [o1, l2]
      have hV : 0 ≤ d.Guest_.V := gd.v.1
      have hstep : law09_ConvoyRamp_l1 v2 (all, ((n + 1 : Nat) : Int), r, c, p) = some (.go (all ++ notesM c, (n : Int), r3, d, q)) := by
        rw [pre, show (d.Guest_.ID == v2.1.Guest_.ID) = true by simpa using hdid, cond_true, show decide (d.Guest_.S ≥ d.Guest_.End) = false from decide_eq_false (by omega), show decide (d.Guest_.S < c.Guest_.S) = false from decide_eq_false (by omega)]
        rfl
      rw [loop_go hstep]
      exact ih (all ++ notesM c) r3 d q T' R' hdid hq (by rw [ed]; exact hgr) (by rw [List.length_append, S.mv.tick]; omega) (by rw [S.mv.tick]; omega) (by omega) (by omega)
    · left
      have hdg : d.Guest_ = G0 := by rw [ed]
      have hp : ((besM c).1 + 1).toNat ≤ (matesM c w ns s).length := by
        have := (besM_lt c).1
        rw [len_mates]; omega
      have hdm : ∀ j : Nat, d.Mates[j]? = if j < ((besM c).1 + 1).toNat then (matesM c w ns s)[j]? else if j = ((besM c).1 + 1).toNat then some (driveM c.Gap (newMate (learnsM c ns s)) (wantsM w c.Mates.length)) else (matesM c w ns s)[j - 1]? := fun j => by
        rw [ed]; exact ins_get _ hp j
      generalize hpp : ((besM c).1 + 1).toNat = pp at hp hdm
      have hdl : d.Mates.length = c.Mates.length + 1 := by
        rw [ed, hpp]; simp only [List.length_append, List.length_take, List.length_cons, List.length_drop, len_mates] at hp ⊢; omega
      have hpm : d.Mates[pp]? = some (driveM c.Gap (newMate (learnsM c ns s)) (wantsM w c.Mates.length)) := by rw [hdm, if_neg (by omega), if_pos rfl]
      have hfl := find_last v2 (d, 0) (by dsimp only; omega) S.inv.dist hpm (l1.trans hg) _ 0 (-1) rfl (by omega) (fun z => by omega)
      rw [show ((0 : Nat) : Int) = 0 from rfl] at hfl
      have hgranted : law09_granted (all ++ notesM c) d (pp : Int) v2.1.Guest_.ID c.Tick = some true := by
        refine granted_ok _ d pp _ _ (by rw [List.length_append]; omega) (by omega) (get_lt hpm) (fun bb hbb => ?_)
        rw [hdm, if_neg (by omega), if_neg (by omega), Nat.add_sub_cancel] at hbb
        obtain ⟨m, hm, rfl⟩ := of_mates hbb
        obtain ⟨u1, u2, _⟩ := merge_back I H hj (i := pp) hpp.symm hm
        have hback : idAt c (besM c).2 = m.ID := by
          have hlt := get_lt hm
          have hb : (besM c).2 = (pp : Int) := by
            unfold besM at hpp ⊢
            cases hf : c.Mates.findIdx? (besP c) with
            | none => rw [hf] at hpp; dsimp only at hpp; omega
            | some z => rw [hf] at hpp; dsimp only at hpp ⊢; omega
          rw [hb]; unfold idAt
          rw [if_pos (by omega), Int.toNat_natCast, hm]
        have hfm : (learnsM c ns s).From = m.ID := by
          have hid := (I.mates pp m hm).id
          have := hj
          unfold mergeM at this
          simp only [Bool.and_eq_true, Bool.or_eq_true, beq_iff_eq, decide_eq_true_eq] at this
          rw [hback] at this
          rcases this.2 with z | ⟨z, _⟩
          · omega
          · exact z
        have hid := (I.mates pp m hm).id
        obtain ⟨z, z1, z2, z3, z4, z5⟩ := hgr (by omega)
        exact ⟨z, z1, z2, by rw [z3, hfm]; exact ((mate_step (wants := w) I told hm).2.2.id).symm, z4, by omega⟩
      have hstep : law09_ConvoyRamp_l1 v2 (all, ((n + 1 : Nat) : Int), r, c, p) = some (.out (.inr true)) := by
        rw [pre, show (d.Guest_.ID == v2.1.Guest_.ID) = false by rw [hdg]; simp only [beq_eq_false_iff_ne]; exact fun z => h0 z.symm, cond_false, hfl, Option.bind_some, hgranted, show decide ((pp : Int) ≥ 0) = true from decide_eq_true (by omega), show ((d.Mates.length : Int) == (c.Mates.length : Int) + 1) = true by rw [hdl]; simp]
        simp only [Bool.and_self, cond_true, Option.bind_some, awake_eq]
      exact loop_out hstep
theorem rampW_l3 (v2 : Convoy × KitRing) (h0 : v2.1.Guest_.ID ≠ 0) : ∀ (k : Nat) (c : Convoy) (T : Int), k ≤ 25 → Inv v2.1.Guest_.ID T c → c.Tick + k ≤ 500 → loop (law09_ConvoyRamp_l3 v2) (25 - (k : Int), c) = some (.inl ()) := by
  intro k
  induction k with
  | zero =>
    intro c T _ _ _
    refine loop_out ?_
    unfold law09_ConvoyRamp_l3
    rfl
  | succ k ih =>
    intro c T hk I ht
    have tk := I.tick
    have hl : c.Mates.length ≤ 8 := by have := I.many; omega
    have told := told_of (notes := []) (sights := []) I (by simp) (by simp)
    obtain ⟨d, T', hst, S⟩ := step_told (wants := [0, 0, 0, 0, 0, 0, 0, 0, 0]) I told (by omega) (by simp) (by simp)
    have hbad : (d.Guest_.ID == v2.1.Guest_.ID && decide (d.Guest_.S ≥ d.Guest_.End)) = false := by
      by_cases z : d.Guest_.ID = v2.1.Guest_.ID
      · have gd := S.inv.noG (by rw [z]; exact h0)
        have gs := gd.stops
        have s0 := (stopM_nonneg d.Guest_.V).1
        rw [show decide (d.Guest_.S ≥ d.Guest_.End) = false from decide_eq_false (by omega), Bool.and_false]
      · rw [show (d.Guest_.ID == v2.1.Guest_.ID) = false by simpa using z]; rfl
    have hstep : law09_ConvoyRamp_l3 v2 (25 - ((k + 1 : Nat) : Int), c) = some (.go (25 - (k : Int), d)) := by
      unfold law09_ConvoyRamp_l3
      dsimp only
      rw [show decide (25 - ((k + 1 : Nat) : Int) < 25) = true from decide_eq_true (by omega), show (v2.1.Guest_.ID != 0) = true by simpa using h0, convoy_Step_eq c _ [] [] (by simp) (by simp) (by omega), hst]
      simp only [Bool.and_self, cond_true, Option.bind_some]
      rw [hbad, w64_id (by omega), show 25 - ((k + 1 : Nat) : Int) + 1 = 25 - (k : Int) by omega]
      rfl
    rw [loop_go hstep]
    exact ih d T' (by omega) S.inv (by rw [S.mv.tick]; omega)
theorem law09_ConvoyRamp_plain (a0 : List Int) (a1 : Int) : law09_ConvoyRamp a0 a1 = some true := by
  unfold law09_ConvoyRamp
  rw [newRing_eq, Option.bind_some]
  obtain ⟨c, r, e, K, h1, h2, h3⟩ := kit_convoy ⟨a0, 0⟩ true (Int.le_refl _) (show (0 : Int) ≤ 1000 by decide)
  dsimp only at h2 h3
  rw [e, Option.bind_some, (kit_Mod_eq (m := 121) (by decide) (by decide)).1, Option.bind_some]
  have hn := emod_bd a1 (show (0 : Int) < 121 by decide)
  obtain ⟨n, hn'⟩ : ∃ n : Nat, a1 % 121 = (n : Int) := ⟨(a1 % 121).toNat, (Int.toNat_of_nonneg hn.1).symm⟩
  obtain ⟨G, R, t0, hG⟩ := run_base K
  dsimp only
  rw [hn']
  by_cases h0 : c.Guest_.ID = 0
  · have q1 : loop (law09_ConvoyRamp_l1 (c, r)) ([], (n : Int), r, c, ⟨[]⟩) = some (.inl c) := loop_out (by
      unfold law09_ConvoyRamp_l1
      dsimp only
      rw [h0, show ((0 : Int) != 0) = false from rfl, Bool.and_false]; rfl)
    have q2 : loop (law09_ConvoyRamp_l3 (c, r)) (0, c) = some (.inl ()) := loop_out (by
      unfold law09_ConvoyRamp_l3
      dsimp only
      rw [h0, show ((0 : Int) != 0) = false from rfl, Bool.and_false]; rfl)
    rw [q1, thenS, q2, thenS, awake_eq]; rfl
  · have hGe := hG h0
    subst hGe
    have hf : c.Guest_.From ≠ 0 → Grant [] c.Guest_.ID c.Guest_.From c.Guest_.Until := fun z => by
      exfalso
      obtain ⟨gap, l, _, _, _, hcase⟩ := K.is
      rcases hcase with e' | ⟨_, g, _, _, _, _, e'⟩
      · rw [e'] at h0; exact h0 rfl
      · rw [e'] at z; exact z rfl
    rcases rampW_l1 (c, r) h0 n [] r c ⟨[]⟩ 0 R rfl (by simp) hf (by simp [t0]) (by omega) (by omega) (by omega) with q | ⟨d, T', q, Id, dt⟩
    · rw [q]; rfl
    · have q3 := rampW_l3 (c, r) h0 25 d T' (Nat.le_refl _) Id (by omega)
      rw [show (25 : Int) - ((25 : Nat) : Int) = 0 from rfl] at q3
      rw [q, thenS, q3, thenS, awake_eq]; rfl
end Go.Abs.Convoy
