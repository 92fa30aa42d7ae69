/-
  The functions, part 3.
-/
import Derived.Test.YtdkgjoilcfoclaaGreatFns2
set_option maxRecDepth 20000
set_option maxHeartbeats 4000000
set_option linter.unusedVariables false
namespace Go.Abs.Convoyz
open Go Go.Abs Go.Proofs
attribute [local irreducible] regW regT AWL

section
open Go.RowKit Go.Lib

theorem info51 : (Tryz.prog.info? 51).map (fun i => (i.size, i.bytes)) = some (12, 96) := by kernel_rfl
theorem mixed : Tryz.prog.follows .mixedOrders = true := by kernel_rfl

structure Keep (p : Prop) : Prop where
  out : p
set_option maxHeartbeats 4000000 in
set_option maxRecDepth 100000 in
theorem ins_shift (g n c i vg m vc : Nat) (cur cury : Array Value) (ys : List Value) (w : World) (hi : i < n) (hm : 0 < m) (hroom : n + m ≤ c) (hc63 : c ≤ 9223372036854775807) (hvb : vg ≠ g)
    (hg : w.heap[g]? = some (.cells cur 51 (0, 0))) (hgy : w.heap[vg]? = some (.cells cury 51 (0, 0))) (hcs : cur.size = c * 12) (hys : ys.length = m * 12) (hyc : cury.toList.take (m * 12) = ys)
    (h1c : ∀ v ∈ cur.toList.take (n * 12), v.oneCell' = true) (h1v : ∀ v ∈ ys, v.oneCell' = true) :
    Calls Tryz.prog 39 #[.slice (some ⟨g, 0, none⟩) n c, .int .i64 i, .slice (some ⟨vg, 0, none⟩) m vc] w fun e w' =>
      ∃ row, row = cur.toList.take ((i + m) * 12) ++ (cur.toList.drop (i * 12)).take ((n - i) * 12) ++ cur.toList.drop ((i + m) * 12 + (n - i) * 12) ∧
      e = .returned (.slice (some ⟨g, 0, none⟩) (n + m) c) ∧ w' = (w.drew.setRow g row.toArray).setRow g (row.take (i * 12) ++ ys ++ row.drop (i * 12 + m * 12)).toArray := by
  obtain ⟨i0, hi0, hzz⟩ : ∃ i0, Tryz.prog.info? 51 = some i0 ∧ i0.size = 12 := by
    have := info51
    cases h : Tryz.prog.info? 51 with
    | none => rw [h] at this; cases this
    | some i0 => rw [h] at this; simp only [Option.map_some, Option.some.injEq, Prod.mk.injEq] at this; exact ⟨i0, rfl, this.1⟩
  have mixed' := mixed
  have hz1 : ¬ ((m : Int) = 0) := by omega
  have hz2 : ¬ ((i : Int) = (n : Int)) := by omega
  have hov : ∀ lb cb, (callFunc 77 #[.slice (some ⟨vg, 0, none⟩) m vc, .slice (some ⟨g, (i + m) * 12, none⟩) lb cb]).run Tryz.prog w = .ok (.value (.bool false)) w := fun lb cb => by
    rw [run_callFunc_extern Tryz.func77 (by kernel_rfl) (by kernel_rfl) (by kernel_rfl) (e := Extern.SlicesOverlaps.overlaps #[26, 26] #[4]) (by kernel_rfl),
      Lib.run_overlaps_apart w 26 4 51 Tryz.underlying26 12 Tryz.sizeOf51 ⟨vg, 0, none⟩ ⟨g, (i + m) * 12, none⟩ m vc lb cb hvb 51 51 cury.size cur.size (by simp [World.shape?, hgy]) (by simp [World.shape?, hg]) (by omega) (by simp [World.frozen?, hgy]) (by simp [World.frozen?, hgy])]
    rfl
  have hw1 : IntKind.i64.wrap ((i : Int) + (m : Int)) = (i : Int) + (m : Int) := by rw [IntKind.wrap_i64]; omega
  have hw2 : IntKind.i64.wrap ((n : Int) + (m : Int)) = (n : Int) + (m : Int) := by rw [IntKind.wrap_i64]; omega
  have hb1 : (0 : Int) ≤ (i : Int) + (m : Int) := by omega
  have hin : i ≤ n := by omega
  have htn : ((i : Int) + (m : Int)).toNat = i + m := by omega
  have hb2 : ¬ (c = i + m) := by omega
  have hb3 : (i : Int) ≤ (n : Int) + (m : Int) := by omega
  have hb4 : ¬ (c = i) := by omega
  obtain ⟨row, hrow⟩ : ∃ row, row = cur.toList.take ((i + m) * 12) ++ (cur.toList.drop (i * 12)).take ((n - i) * 12) ++ cur.toList.drop ((i + m) * 12 + (n - i) * 12) := ⟨_, rfl⟩
  have hle : (n + m) * 12 ≤ c * 12 := Nat.mul_le_mul_right _ hroom
  have hll : ((cur.toList.drop (i * 12)).take ((n - i) * 12)).length = (n - i) * 12 := by rw [List.length_take, List.length_drop, Array.length_toList, hcs]; omega
  have hcp1 : ∀ ty dc sc, (Builtin.copy_ #[26, 26] ty #[.slice (some ⟨g, (i + m) * 12, none⟩) (n + m - (i + m)) dc, .slice (some ⟨g, i * 12, none⟩) (n + m - i) sc]).run Tryz.prog w.drew = .ok (goInt ((n - i : Nat) : Int)) (w.drew.setRow g row.toArray) := fun ty dc sc => by
    have := run_copy_rowN (P := Tryz.prog) w.drew 26 26 ty 51 i0 g ((i + m) * 12) (n + m - (i + m)) dc ⟨g, i * 12, none⟩ (n + m - i) sc cur 51 ((cur.toList.drop (i * 12)).take ((n - i) * 12)) Tryz.underlying26 hi0 hg (n - i) (by simp only [Nat.min_def]; split <;> omega) (by rw [hll, hzz])
      (row_cells (w := w.drew) hg (i * 12) (by rw [hll])) (by rw [hll, hcs]; omega) (fun v hv => h1c v (by
        rw [Nat.sub_mul, ← List.drop_take] at hv
        exact List.mem_of_mem_drop hv))
    rw [hll] at this
    rw [hrow]
    exact this
  have hrl : row.length = c * 12 := by
    rw [hrow]; simp only [List.length_append, hll, List.length_take, List.length_drop, Array.length_toList, hcs]; omega
  have hg1 : (w.drew.setRow g row.toArray).heap[g]? = some (.cells row.toArray 51 (0, 0)) := setRow_heap w.drew g cur row.toArray 51 (0, 0) hg
  have hgy1 : (w.drew.setRow g row.toArray).heap[vg]? = some (.cells cury 51 (0, 0)) := by rw [setRow_other _ _ _ _ hvb]; exact hgy
  have hcp2 : ∀ ty dc, (Builtin.copy_ #[26, 26] ty #[.slice (some ⟨g, i * 12, none⟩) (n + m - i) dc, .slice (some ⟨vg, 0, none⟩) m vc]).run Tryz.prog (w.drew.setRow g row.toArray) = .ok (goInt (m : Int)) ((w.drew.setRow g row.toArray).setRow g (row.take (i * 12) ++ ys ++ row.drop (i * 12 + m * 12)).toArray) := fun ty dc => by
    have := run_copy_rowN (P := Tryz.prog) (w.drew.setRow g row.toArray) 26 26 ty 51 i0 g (i * 12) (n + m - i) dc ⟨vg, 0, none⟩ m vc row.toArray 51 ys Tryz.underlying26 hi0 hg1 m (by simp only [Nat.min_def]; split <;> omega) (by rw [hys, hzz])
      (row_cells hgy1 0 (by rw [List.drop_zero, hys]; exact hyc.symm)) (by rw [hys]; simp only [List.size_toArray, hrl]; omega) h1v
    rw [hys] at this
    exact this
  have kr := Keep.mk hrow
  clear hrow hll hle
  go_enter Tryz.func39, Tryz.ntmps39
  go_wp2_with (simp only [hov])
  go_region_law_o (refine step_copy_runI rfl _ _ 26 26 rfl _ _ (by simp [Act.eval, Act.put]) (by simp [Act.eval, Act.put]) (hcp1 _ _ _) ?_)
  go_wp2_with (at_builtin; refine wpList_copy_runI _ rfl _ _ 26 26 rfl _ _ rfl rfl (hcp2 _ _) ?_)
  go_ret
  exact ⟨row, kr.out, rfl, by rw [List.append_assoc]⟩

set_option maxHeartbeats 4000000 in
set_option maxRecDepth 100000 in
theorem ins_end (g n c vg m vc : Nat) (w : World) (hn : 0 < n) (hnc : n ≤ c) (hm : 0 < m) (v1 : Value) (w1 : World)
    (hr : (Builtin.append_ #[26, 26] 26 #[.slice (some ⟨g, 0, none⟩) n c, .slice (some ⟨vg, 0, none⟩) m vc]).run Tryz.prog w = .ok v1 w1) :
    Calls Tryz.prog 39 #[.slice (some ⟨g, 0, none⟩) n c, .int .i64 n, .slice (some ⟨vg, 0, none⟩) m vc] w fun e w' => e = .returned v1 ∧ w' = w1 := by
  have mixed' := mixed
  have hz1 : ¬ ((m : Int) = 0) := by omega
  have hin : n ≤ c := by omega
  have hb : (0 : Int) ≤ (n : Int) := by omega
  go_enter Tryz.func39, Tryz.ntmps39
  go_wp2_with (at_builtin; refine Lib.wpList_append_run _ rfl _ _ 26 26 rfl _ _ rfl rfl _ _ hr ?_)
  all_goals go_ret
  all_goals exact ⟨rfl, rfl⟩

set_option maxHeartbeats 4000000 in
set_option maxRecDepth 100000 in
theorem ins_grow (g n c i vg m vc : Nat) (cur cury : Array Value) (xs ys : List Value) (w : World) (hi : i < n) (hm : 0 < m) (hnc : n ≤ c) (hroom : c < n + m) (hbig : n + m ≤ 1000000000)
    (hg : w.heap[g]? = some (.cells cur 51 (0, 0))) (hgy : w.heap[vg]? = some (.cells cury 51 (0, 0))) (hxs : xs.length = n * 12) (hxc : cur.toList.take (n * 12) = xs) (hys : ys.length = m * 12) (hyc : cury.toList.take (m * 12) = ys)
    (h1c : ∀ v ∈ xs, v.oneCell' = true) (h1v : ∀ v ∈ ys, v.oneCell' = true) :
    Calls Tryz.prog 39 #[.slice (some ⟨g, 0, none⟩) n c, .int .i64 i, .slice (some ⟨vg, 0, none⟩) m vc] w fun e w' =>
      ∃ row z z' row1 : List Value, row = xs.take (i * 12) ++ z ++ z' ∧ z.length = (m + (n - i)) * 12 ∧ row1 = row.take (i * 12) ++ ys ++ row.drop (i * 12 + m * 12) ∧ row.length = (grownCap w (n + m) c 51) * 12 ∧
      e = .returned (.slice (some ⟨w.heap.size, 0, none⟩) (n + m) (grownCap w (n + m) c 51)) ∧
      w' = (((w.alloc (.cells row.toArray 51)).drew.setRow w.heap.size row1.toArray).drew).setRow w.heap.size (row1.take ((i + m) * 12) ++ xs.drop (i * 12) ++ row1.drop ((i + m) * 12 + (n - i) * 12)).toArray := by
  obtain ⟨i0, hi0, hzz, hby⟩ : ∃ i0, Tryz.prog.info? 51 = some i0 ∧ i0.size = 12 ∧ i0.bytes = 96 := by
    have := info51
    cases h : Tryz.prog.info? 51 with
    | none => rw [h] at this; cases this
    | some i0 => rw [h] at this; simp only [Option.map_some, Option.some.injEq, Prod.mk.injEq] at this; exact ⟨i0, rfl, this.1, this.2⟩
  obtain ⟨z0, hz0, hzc⟩ : ∃ z0, i0.zero = some z0 ∧ z0.cells.size = 12 := by
    have : (Tryz.prog.info? 51).bind (fun i => i.zero.map fun z => z.cells.size) = some 12 := by kernel_rfl
    rw [hi0] at this
    simp only [Option.bind_some, Option.map_eq_some_iff] at this
    exact this
  have mixed' := mixed
  have hz1 : ¬ ((m : Int) = 0) := by omega
  have hz2 : ¬ ((i : Int) = (n : Int)) := by omega
  have hz3 : (c : Int) < (n : Int) + (m : Int) := by omega
  have hbw : g < w.heap.size := (Array.getElem?_eq_some_iff.1 hg).1
  have hvw : vg < w.heap.size := (Array.getElem?_eq_some_iff.1 hgy).1
  have hkk : (n : Int) + (m : Int) - (i : Int) = ((n + m - i : Nat) : Int) := by omega
  have hik : i + (n + m - i) = n + m := by omega
  have hold : (Builtin.firstCells i0.size i (.slice (some ⟨g, 0, none⟩) i c)).run Tryz.prog w.drew = .ok (xs.take (i * 12)).toArray w.drew := by
    rw [hzz]
    exact run_firstCells_some w.drew 12 i ⟨g, 0, none⟩ i c (xs.take (i * 12)) (by rw [List.length_take, hxs]; omega) (row_cells (w := w.drew) hg 0 (by
      rw [List.drop_zero]; exact take_len (k := min (i * 12) (n * 12)) (by rw [← hxc, List.take_take])))
  have hrz : ∀ ty, (Builtin.append_ #[26, 3] ty #[.slice (some ⟨g, 0, none⟩) i c, .int .i64 ((n : Int) + (m : Int) - (i : Int))]).run Tryz.prog w =
      .ok (.slice (some ⟨w.heap.size, 0, none⟩) (n + m) (grownCap w (n + m) c 51)) (w.drew.alloc (.cells ((xs.take (i * 12)).toArray ++ Builtin.zeroCells z0.cells (n + m - i) ++ Builtin.zeroCells z0.cells (grownCap w (n + m) c 51 - (n + m))) 51)) := fun ty => by
    have h := Lib.run_append_grow_zeros w 26 3 ty 51 i0 z0 .i64 .i64 Tryz.underlying26 Tryz.underlying3 hi0 hz0 (some ⟨g, 0, none⟩) i c (xs.take (i * 12)) hold (n + m - i) (by omega) (by omega) (by omega) (by omega) (by rw [hby]; omega) (by rw [hby, hik]; exact growslice_fits hroom (by omega))
    rw [hik] at h
    rw [hkk]
    exact h
  have hGn : n + m ≤ grownCap w (n + m) c 51 := grownCap_ge w _ _ _
  have hG63 : grownCap w (n + m) c 51 ≤ 9223372036854775807 := by
    have := grownCap_le_maxLen w (n + m) c 51 (by unfold maxLen; omega)
    unfold maxLen at this
    omega
  obtain ⟨CC, hCC⟩ : ∃ G, G = grownCap w (n + m) c 51 := ⟨_, rfl⟩
  rw [← hCC] at hrz hGn hG63 ⊢
  obtain ⟨z, hz⟩ : ∃ z, z = (Builtin.zeroCells z0.cells (n + m - i)).toList := ⟨_, rfl⟩
  obtain ⟨z', hz'⟩ : ∃ z, z = (Builtin.zeroCells z0.cells (CC - (n + m))).toList := ⟨_, rfl⟩
  have hzl : z.length = (m + (n - i)) * 12 := by rw [hz, Array.length_toList, size_zeroCells, hzc]; congr 1; omega
  have hzl' : z'.length = (CC - (n + m)) * 12 := by rw [hz', Array.length_toList, size_zeroCells, hzc]
  obtain ⟨row, hrow⟩ : ∃ row, row = xs.take (i * 12) ++ z ++ z' := ⟨_, rfl⟩
  have hra : (xs.take (i * 12)).toArray ++ Builtin.zeroCells z0.cells (n + m - i) ++ Builtin.zeroCells z0.cells (CC - (n + m)) = row.toArray := by
    apply Array.ext'
    rw [hrow, hz, hz']
    simp
  rw [hra] at hrz
  have hrl : row.length = CC * 12 := by
    rw [hrow]; simp only [List.length_append, hzl, hzl', List.length_take, hxs]; omega
  obtain ⟨row1, hrow1⟩ : ∃ row1, row1 = row.take (i * 12) ++ ys ++ row.drop (i * 12 + m * 12) := ⟨_, rfl⟩
  have hrl1 : row1.length = CC * 12 := by
    rw [hrow1]; simp only [List.length_append, hys, List.length_take, List.length_drop, hrl]; omega
  have hcpA : ∀ (W : World), W.heap = (w.alloc (.cells row.toArray 51)).heap → ∀ ty dc, (Builtin.copy_ #[26, 26] ty #[.slice (some ⟨w.heap.size, i * 12, none⟩) (n + m - i) dc, .slice (some ⟨vg, 0, none⟩) m vc]).run Tryz.prog W = .ok (goInt (m : Int)) (W.setRow w.heap.size row1.toArray) := fun W hW ty dc => by
    have g1 : W.heap[w.heap.size]? = some (.cells row.toArray 51 (0, 0)) := by rw [hW]; exact heap_alloc_new w _
    have g2 : W.heap[vg]? = some (.cells cury 51 (0, 0)) := by rw [hW, heap_alloc_old w _ hvw]; exact hgy
    have := run_copy_rowN (P := Tryz.prog) W 26 26 ty 51 i0 w.heap.size (i * 12) (n + m - i) dc ⟨vg, 0, none⟩ m vc row.toArray 51 ys Tryz.underlying26 hi0 g1 m (by simp only [Nat.min_def]; split <;> omega) (by rw [hys, hzz])
      (row_cells g2 0 (by rw [List.drop_zero, hys]; exact hyc.symm)) (by rw [hys]; simp only [List.size_toArray, hrl]; omega) h1v
    rw [hys] at this
    rw [hrow1]
    exact this
  have hdl : (xs.drop (i * 12)).length = (n - i) * 12 := by rw [List.length_drop, hxs]; omega
  have hcpB : ∀ (W : World), W.heap = ((w.alloc (.cells row.toArray 51)).setRow w.heap.size row1.toArray).heap → ∀ ty dc sc, (Builtin.copy_ #[26, 26] ty #[.slice (some ⟨w.heap.size, (i + m) * 12, none⟩) (n + m - (i + m)) dc, .slice (some ⟨g, i * 12, none⟩) (n - i) sc]).run Tryz.prog W = .ok (goInt ((n - i : Nat) : Int)) (W.setRow w.heap.size (row1.take ((i + m) * 12) ++ xs.drop (i * 12) ++ row1.drop ((i + m) * 12 + (n - i) * 12)).toArray) := fun W hW ty dc sc => by
    have g1 : W.heap[w.heap.size]? = some (.cells row1.toArray 51 (0, 0)) := by rw [hW]; exact setRow_heap _ _ row.toArray row1.toArray 51 (0, 0) (heap_alloc_new w _)
    have g2 : W.heap[g]? = some (.cells cur 51 (0, 0)) := by rw [hW, setRow_other _ _ _ _ (by omega), heap_alloc_old w _ hbw]; exact hg
    have := run_copy_rowN (P := Tryz.prog) W 26 26 ty 51 i0 w.heap.size ((i + m) * 12) (n + m - (i + m)) dc ⟨g, i * 12, none⟩ (n - i) sc row1.toArray 51 (xs.drop (i * 12)) Tryz.underlying26 hi0 g1 (n - i) (by simp only [Nat.min_def]; split <;> omega) (by rw [hdl, hzz])
      (row_cells g2 (i * 12) (by rw [hdl, ← hxc, List.drop_take]; congr 1; omega)) (by rw [hdl]; simp only [List.size_toArray, hrl1]; omega) (fun v hv => h1c v (List.mem_of_mem_drop hv))
    rw [hdl] at this
    exact this
  have hA := hcpA (w.alloc (.cells row.toArray 51)).drew rfl
  have hB := hcpB ((w.alloc (.cells row.toArray 51)).drew.setRow w.heap.size row1.toArray).drew rfl
  clear hcpA hcpB
  have K := Keep.mk (And.intro hrow (And.intro hzl (And.intro hrow1 hrl)))
  have hGi : ¬ (CC = i) := by omega
  have hGim : ¬ (CC = i + m) := by omega
  have hci : ¬ (c = i) := by omega
  have hw1 : IntKind.i64.wrap ((i : Int) + (m : Int)) = (i : Int) + (m : Int) := by rw [IntKind.wrap_i64]; omega
  have hb1 : (0 : Int) ≤ (i : Int) + (m : Int) := by omega
  have hin : i ≤ n := by omega
  have htn : ((i : Int) + (m : Int)).toNat = i + m := by omega
  have hb3 : (i : Int) ≤ (n : Int) := by omega
  clear hkk hik hold hrow hrow1 hra hCC hz hz' hxc hyc
  go_enter Tryz.func39, Tryz.ntmps39
  go_wp2_with (first
    | (at_builtin; refine Lib.wpList_append_run _ rfl _ _ _ _ rfl _ _ rfl rfl _ _ (hrz _) ?_)
    | (at_builtin; refine wpList_copy_runI _ rfl _ _ 26 26 rfl _ _ rfl rfl (hA _ _) ?_))
  go_region_law_o (refine step_copy_runI rfl _ _ 26 26 rfl _ _ (by simp [Act.eval, Act.put]) (by simp [Act.eval, Act.put]) (hB _ _ _) ?_)
  go_wp2
  go_ret
  obtain ⟨k1, k2, k3, k4⟩ := K.out
  exact ⟨row, z, z', row1, k1, k2, k3, k4, rfl, by rw [List.append_assoc]⟩


theorem ins_all (w : World) (x y : Value) (n m i : Nat) (xs ys : List Value) (hx : w.ownsRow 0 51 12 x n xs) (hy : w.ownsRow 0 51 12 y m ys) (hn : 0 < n) (hm : 0 < m) (hi : i ≤ n) (hbig : n + m ≤ 1000000000)
    (hne : ∀ g, x.ownBlock = some g → y.ownBlock ≠ some g) (h1x : ∀ v ∈ xs, v.oneCell' = true) (h1y : ∀ v ∈ ys, v.oneCell' = true) :
    Calls Tryz.prog 39 #[x, .int .i64 i, y] w fun e w' => ∃ v, e = .returned v ∧ w'.ownsRow 0 51 12 v (n + m) (xs.take (i * 12) ++ ys ++ xs.drop (i * 12)) ∧ w.grownBy w' x.ownBlock ∧ (v.ownBlock = x.ownBlock ∨ v.ownBlock = some w.heap.size) := by
  obtain ⟨hxl, hx | ⟨g, c, cur, rfl, _, hg, hnc, hcm, hcs, hxc⟩⟩ := hx
  · omega
  obtain ⟨hyl, hy | ⟨vg, vc, cury, rfl, _, hgy, hmc, hcmy, hcsy, hyc⟩⟩ := hy
  · omega
  have hvg : vg ≠ g := fun e => hne g rfl (by rw [e]; rfl)
  rcases Nat.lt_or_ge i n with hin | hin
  · have hn12 : n * 12 = i * 12 + (n - i) * 12 := by rw [← Nat.add_mul]; congr 1; omega
    rcases Nat.lt_or_ge c (n + m) with hroom | hroom
    · refine (ins_grow g n c i vg m vc cur cury xs ys w hin hm hnc hroom hbig hg hgy hxl hxc hyl hyc h1x h1y).mono ?_
      rintro e w' ⟨row, z, z', row1, k1, k2, k3, k4, rfl, rfl⟩
      have hGn : n + m ≤ grownCap w (n + m) c 51 := grownCap_ge w _ _ _
      have hGm := grownCap_le_maxLen w (n + m) c 51 (by unfold maxLen; omega)
      generalize grownCap w (n + m) c 51 = CC at hGn hGm k4 ⊢
      have hi2 := ins_new xs ys z z' (i * 12) (m * 12) ((n - i) * 12) (by rw [hxl, hn12]) hyl (by rw [k2, Nat.add_mul]) row k1 row1 k3
      rw [← Nat.add_mul i m 12] at hi2
      have e1 : i * 12 + (n - i) * 12 + m * 12 = (n + m) * 12 := by rw [← hn12, Nat.add_mul]
      rw [e1] at hi2
      refine ⟨_, rfl, ⟨?_, .inr ⟨w.heap.size, CC, (row1.take ((i + m) * 12) ++ xs.drop (i * 12) ++ row1.drop ((i + m) * 12 + (n - i) * 12)).toArray, rfl, Nat.zero_le _, ?_, hGn, hGm, ?_, ?_⟩⟩, ?_, .inr rfl⟩
      · simp only [List.length_append, List.length_take, List.length_drop, hxl, hyl]; omega
      · refine setRow_heap _ _ row1.toArray _ 51 (0, 0) ?_
        refine setRow_heap _ _ row.toArray _ 51 (0, 0) ?_
        exact heap_alloc_new w _
      · rw [List.size_toArray, hi2.2, k4]
      · exact hi2.1
      · refine ⟨rfl, rfl, rfl, by simp, fun k hk _ => ?_⟩
        rw [setRow_other _ _ _ _ (by omega)]
        refine (setRow_other _ _ _ _ (by omega)).trans ?_
        exact heap_alloc_old w _ hk
    · refine (ins_shift g n c i vg m vc cur cury ys w hin hm hroom hcm hvg hg hgy hcs hyl hyc (by rw [hxc]; exact h1x) h1y).mono ?_
      rintro e w' ⟨row, k1, rfl, rfl⟩
      have hle : (n + m) * 12 ≤ c * 12 := Nat.mul_le_mul_right _ hroom
      have e1 : i * 12 + (n - i) * 12 + m * 12 = (n + m) * 12 := by rw [← hn12, Nat.add_mul]
      rw [Nat.add_mul i m 12] at k1
      have hi2 := ins_room cur.toList (i * 12) (m * 12) ((n - i) * 12) ys hyl (by rw [e1, Array.length_toList, hcs]; exact hle) row k1
      rw [e1, ← hn12, hxc] at hi2
      refine ⟨_, rfl, ⟨?_, .inr ⟨g, c, (row.take (i * 12) ++ ys ++ row.drop (i * 12 + m * 12)).toArray, rfl, Nat.zero_le _, ?_, hroom, hcm, ?_, ?_⟩⟩, ?_, .inl rfl⟩
      · simp only [List.length_append, List.length_take, List.length_drop, hxl, hyl]; omega
      · refine setRow_heap _ _ row.toArray _ 51 (0, 0) ?_
        exact setRow_heap _ _ cur _ 51 (0, 0) hg
      · rw [List.size_toArray, hi2.2, Array.length_toList, hcs]
      · exact hi2.1
      · refine ⟨rfl, rfl, rfl, by simp, fun k hk hne => ?_⟩
        have hkg : k ≠ g := fun e => hne (by rw [e]; rfl)
        rw [setRow_other _ _ _ _ hkg]
        exact setRow_other _ _ _ _ hkg
  · obtain rfl : i = n := by omega
    obtain ⟨i0, hi0, hzz, hby⟩ : ∃ i0, Tryz.prog.info? 51 = some i0 ∧ i0.size = 12 ∧ i0.bytes = 96 := by
      have := info51
      cases h : Tryz.prog.info? 51 with
      | none => rw [h] at this; cases this
      | some i0 => rw [h] at this; simp only [Option.map_some, Option.some.injEq, Prod.mk.injEq] at this; exact ⟨i0, rfl, this.1, this.2⟩
    obtain ⟨z0, hz0, hzc⟩ : ∃ z0, i0.zero = some z0 ∧ z0.cells.size = 12 := by
      have : (Tryz.prog.info? 51).bind (fun i => i.zero.map fun z => z.cells.size) = some 12 := by kernel_rfl
      rw [hi0] at this
      simp only [Option.bind_some, Option.map_eq_some_iff] at this
      exact this
    obtain ⟨v1, w', r1, r2, r3, _, r5⟩ := run_append_own_at (P := Tryz.prog) w 0 26 26 51 i0 z0 12 96 Tryz.underlying26 hi0 hz0 hzz hby hzc (by omega) (.slice (some ⟨g, 0, none⟩) i c) i xs ⟨hxl, .inr ⟨g, c, cur, rfl, Nat.zero_le _, hg, hnc, hcm, hcs, hxc⟩⟩ ⟨vg, 0, none⟩ m vc ys hyl
      (row_cells hgy 0 (by rw [List.drop_zero, hyl]; exact hyc.symm)) h1y (by unfold maxLen; omega) (by omega) (Nat.zero_le _)
    refine (ins_end g i c vg m vc w hn hnc hm v1 w' r1).mono ?_
    rintro e w'' ⟨rfl, rfl⟩
    refine ⟨v1, rfl, ?_, r3, r5⟩
    rw [List.take_of_length_le (by omega), List.drop_eq_nil_of_le (by omega), List.append_nil]
    exact r2

theorem old_ne01 : oldK 0 ≠ oldK 1 := by intro h; simp [oldK] at h
/-- slices.Insert, as a contract: the row that is handed in becomes the one that is handed out. -/
theorem insert_M (xs ys : List (List D)) (i : Nat) (hx : xs ≠ []) (hy : ys ≠ []) (hi : i ≤ xs.length) (hl : xs.length + ys.length ≤ 1000000000) :
    MCall Tryz.prog 39 [.sl (900000, 0), .d (.v (.int .i64 i)), .sl (900001, 0)] [.arr 51 12 xs, .arr 51 12 ys] (.sl (800000, 0)) [none, none] [some (.arr 51 12 (xs.take i ++ ys ++ xs.drop i))] := by
  refine ⟨rfl, fun vs w => ?_, fun w I ρ vs H hlen hrep => ?_⟩
  · have hn' : ¬ Tryz.f39.name = "runtime.NumGoroutine" := by decide
    have hb : ∃ c, Tryz.f39.body = some c := ⟨_, rfl⟩
    obtain ⟨c, hb⟩ := hb
    simp [callFunc, Tryz.func39, hb, hn']
  have hnx : 0 < xs.length := List.length_pos_iff.2 hx
  have hny : 0 < ys.length := List.length_pos_iff.2 hy
  obtain ⟨a, b, d, rfl⟩ : ∃ a b d, vs = [a, b, d] := by
    match vs, hlen with
    | [a, b, d], _ => exact ⟨a, b, d, rfl⟩
  have r0 := hrep 0 _ rfl
  have r1 := hrep 1 _ rfl
  have r2 := hrep 2 _ rfl
  simp only [List.getD_cons_zero, List.getD_cons_succ] at r0 r1 r2
  have hb0 : G (oldG 0 [Blk.arr 51 12 xs, .arr 51 12 ys]) (oldK 0) = some (.arr 51 12 xs) := rfl
  have hb1 : G (oldG 0 [Blk.arr 51 12 xs, .arr 51 12 ys]) (oldK 1) = some (.arr 51 12 ys) := rfl
  obtain ⟨x0, cx, p1, p2, p3, p4⟩ := H.blk _ _ hb0
  obtain ⟨y0, cy, q1, q2, q3, q4⟩ := H.blk _ _ hb1
  have e0 : a = x0 := by
    cases r0 with
    | sl _ _ h => exact Option.some.inj (h.symm.trans p1)
  have e1 : b = .int .i64 i := by cases r1 with | d _ _ h => cases h with | v => rfl
  have e2 : d = y0 := by
    cases r2 with
    | sl _ _ h => exact Option.some.inj (h.symm.trans q1)
  subst e0 e1 e2
  have locx : ∀ g, a.ownBlock = some g → locOf ρ (oldK 0) (.arr 51 12 xs) = some g := fun g h => by simp [locOf, p1, h]
  have locy : ∀ g, d.ownBlock = some g → locOf ρ (oldK 1) (.arr 51 12 ys) = some g := fun g h => by simp [locOf, q1, h]
  have one : ∀ (es : List (List D)) (cs : List Value), cs.length = es.length * 12 → (∀ e ∈ es, e.length = 12) → (∀ i j d, at2 es i j = some d → d.one = true ∧ RepD w I d (cs.getD (i * 12 + j) undef)) → ∀ v ∈ cs, v.oneCell' = true := by
    intro es cs h1 h2 h3 v hv
    obtain ⟨k, hk, rfl⟩ := List.mem_iff_getElem.1 hv
    have a1 : k / 12 < es.length := by omega
    have a2 : k % 12 < (es[k / 12]).length := by rw [h2 _ (List.getElem_mem a1)]; omega
    obtain ⟨g1, g2⟩ := h3 (k / 12) (k % 12) (es[k / 12][k % 12]) (by simp [at2, a1, a2])
    rw [show k / 12 * 12 + k % 12 = k by omega, List.getD, List.getElem?_eq_getElem hk] at g2
    exact g2.one g1
  refine (ins_all w a d xs.length ys.length i cx cy p2 q2 hnx hny hi hl (fun g h h' => old_ne01 (H.sep _ _ _ _ g hb0 hb1 (locx g h) (locy g h'))) (one xs cx p2.1 p3 p4) (one ys cy q2.1 q3 q4)).mono ?_
  rintro e w' ⟨v, rfl, hrow, hgr, hob⟩
  obtain ⟨u0, hu0⟩ := H.fresh
  have hk0 : ρ (7, u0) = none := hu0 7 u0 (Nat.le_refl _)
  have hva : ∀ g, a.ownBlock = some g → ¬ I g ∧ own ρ (G (oldG 0 [Blk.arr 51 12 xs, .arr 51 12 ys])) g := fun g h => ⟨H.notI _ _ g hb0 (locx g h), _, _, hb0, locx g h⟩
  have hI' : ∀ b, I b → w'.heap[b]? = w.heap[b]? := fun b hb => hgr.block b (H.ilt b hb) (fun e => (hva b e.symm).1 hb)
  have H0 : HeapOK w' I ρ (fun _ => none) := ⟨fun k b hb => (by cases hb), fun k k' b b' g h1 => (by cases h1), fun k b g h1 => (by cases h1), fun k b g h1 => (by cases h1), fun b hb => Nat.lt_of_lt_of_le (H.ilt b hb) hgr.size, ⟨u0, hu0⟩, H.rone⟩
  have hv1 : v.oneCell' = true := by rcases hrow.2 with ⟨rfl, _⟩ | ⟨g, cap, cur, rfl, _⟩ <;> rfl
  have hown : ∀ g, ¬ own ρ (fun _ => none) g := fun g ⟨k, b, h, _⟩ => by cases h
  have hloc : ∀ g, locOf (upd ρ (7, u0) (some v)) (7, u0) (.arr 51 12 (xs.take i ++ ys ++ xs.drop i)) = some g → v.ownBlock = some g := by
    intro g hg; simpa [locOf, upd_same] using hg
  have Hn := heap_add H0 (7, u0) v (.arr 51 12 (xs.take i ++ ys ++ xs.drop i)) hk0 hv1 (fun g hg => by
    have hg' := hloc g hg
    refine ⟨hown g, ?_, (hrow.lt g hg').2⟩
    rcases hob with h | h
    · exact (hva g (h.symm.trans hg')).1
    · rw [h] at hg'; cases hg'
      exact fun hi => Nat.lt_irrefl _ (H.ilt _ hi))
    ⟨v, _, upd_same _ _ _, by
      rw [show (xs.take i ++ ys ++ xs.drop i).length = xs.length + ys.length by simp only [List.length_append, List.length_take, List.length_drop]; omega]
      exact hrow, by
      intro q hq
      rw [List.mem_append, List.mem_append] at hq
      rcases hq with (h | h) | h
      · exact p3 q (List.mem_of_mem_take h)
      · exact q3 q h
      · exact p3 q (List.mem_of_mem_drop h), by
      intro r j d' hd'
      have hj : j < 12 := by
        unfold at2 at hd'
        cases hq : (xs.take i ++ ys ++ xs.drop i)[r]? with
        | none => rw [hq] at hd'; cases hd'
        | some q =>
          rw [hq, Option.bind_some] at hd'
          have hlt := (List.getElem?_eq_some_iff.1 hd').1
          have := List.mem_of_getElem? hq
          rw [List.mem_append, List.mem_append] at this
          rcases this with (h | h) | h
          · rwa [p3 q (List.mem_of_mem_take h)] at hlt
          · rwa [q3 q h] at hlt
          · rwa [p3 q (List.mem_of_mem_drop h)] at hlt
      have hxl := p2.1
      have hyl := q2.1
      have htl : (cx.take (i * 12)).length = i * 12 := by rw [List.length_take, hxl]; omega
      rcases at2_append hd' with ⟨hr, hd1⟩ | ⟨hr, hd1⟩
      · rw [List.length_append, List.length_take, Nat.min_eq_left hi] at hr
        rcases at2_append hd1 with ⟨hr1, hd2⟩ | ⟨hr1, hd2⟩
        · rw [List.length_take, Nat.min_eq_left hi] at hr1
          have hd3 : at2 xs r j = some d' := by
            unfold at2 at hd2 ⊢
            rwa [List.getElem?_take, if_pos hr1] at hd2
          obtain ⟨g1, g2⟩ := p4 r j d' hd3
          refine ⟨g1, ?_⟩
          have := g2.keep hI' (fun _ hb => hb)
          rw [List.getD, List.append_assoc, List.getElem?_append_left (by rw [htl]; omega), List.getElem?_take, if_pos (by omega)]
          rwa [List.getD] at this
        · rw [List.length_take, Nat.min_eq_left hi] at hr1 hd2
          obtain ⟨g1, g2⟩ := q4 (r - i) j d' hd2
          refine ⟨g1, ?_⟩
          have := g2.keep hI' (fun _ hb => hb)
          rw [List.getD, List.append_assoc, List.getElem?_append_right (by rw [htl]; omega), htl, List.getElem?_append_left (by rw [hyl]; omega), show r * 12 + j - i * 12 = (r - i) * 12 + j by omega]
          rwa [List.getD] at this
      · rw [List.length_append, List.length_take, Nat.min_eq_left hi] at hr hd1
        have hd3 : at2 xs (r - ys.length) j = some d' := by
          unfold at2 at hd1 ⊢
          rw [List.getElem?_drop] at hd1
          rwa [show i + (r - (i + ys.length)) = r - ys.length by omega] at hd1
        obtain ⟨g1, g2⟩ := p4 _ j d' hd3
        refine ⟨g1, ?_⟩
        have := g2.keep hI' (fun _ hb => hb)
        rw [List.getD, List.getElem?_append_right (by rw [List.length_append, htl, hyl]; omega), List.length_append, htl, hyl, List.getElem?_drop, show i * 12 + (r * 12 + j - (i * 12 + ys.length * 12)) = (r - ys.length) * 12 + j by omega]
        rwa [List.getD] at this⟩
  refine ⟨v, .sl (7, u0), I, _, _, rfl, .sl _ _ (upd_same _ _ _), Hn, ⟨hgr.os, hgr.tape, hgr.output, hgr.size, fun b hb hn' => hgr.block b hb (fun e => hn' (hva b e.symm).2), fun _ hb => hb, fun _ hb _ => .inl hb, ?_, le_upd hk0⟩, fun _ => (7, u0), rfl, ?_, ?_, ?_, ?_⟩
  · rintro g ⟨k', b', h1, h2⟩ hl
    by_cases ek : k' = (7, u0)
    · subst ek
      rw [upd_same] at h1
      cases h1
      have hg' := hloc g h2
      rcases hob with h | h
      · exact (hva g (h.symm.trans hg')).2
      · rw [h] at hg'; cases hg'; omega
    · rw [upd_ne _ _ _ _ ek] at h1; cases h1
  · intro j b hb
    match j, hb with
    | 0, hb => cases hb
    | 1, hb => cases hb
    | j + 2, hb => simp at hb
  · intro j b hb
    match j, hb with
    | 0, hb => cases hb; exact upd_same _ _ _
    | j + 1, hb => simp at hb
  · intro j _ i _ e; simp only [oldK, Prod.mk.injEq] at e; omega
  · intro j j' h1 h2 _
    simp only [List.length_cons, List.length_nil] at h1 h2
    omega

theorem ins_C : InsC Tryz.prog 39 51 12 := fun xs ys i h1 h2 h3 h4 => insert_M xs ys i h1 h2 h3 h4

end

noncomputable def convoy_Step_l1 (p1 : Convoy) (p2 : (List Int)) (p4 : (List Sight)) (v3 : (List ConvoyLetter)) (x1 : (Int × Convoy)) : Option (Stp (Int × Convoy) Convoy) :=
  cond (decide (x1.1 < (p1.Mates.length : Int))) ((geti p1.Mates x1.1).bind fun v4 => (convoy_look p4 v4.ID).bind fun v5 => (convoy_mind_thinks_o (ConvoyMind.mk v4 p1.Tick p1.Gap v5.1 v5.2) v3).bind fun v6 => (convoy_Step_2_b x1.1 p2).bind fun v7 => (convoy_mind_drives_b v6 v7).bind fun v8 => (appc x1.2.Mates [v8]).bind fun v9 => some (.go ((w64 (x1.1 + 1)), (Convoy.mk x1.2.Tick x1.2.Gap v9 x1.2.Guest_)))) (some (.out x1.2))
noncomputable def convoy_Step (p1 : Convoy) (p2 : (List Int)) (p3 : (List Note)) (p4 : (List Sight)) : Option (Convoy × Int) :=
  (convoy_Check p1).bind fun v1 => cond (v1 != 0) (some ((Convoy.mk 0 0 [] (Guest.mk 0 0 0 0 0 0 (Guess.mk 0 0) 0 0)), v1)) (((cond (!(((decide ((mm2 true (p3.length : Int) (p4.length : Int)) > 60)) || (decide (p1.Tick ≥ 1099511627776))) || (decide (p1.Guest_.S > 1099511625776)))) (slices_ContainsFunc_Mate_Mate_convoy_Step_1 p1.Mates) (some default))).bind fun v2 => cond ((((decide ((mm2 true (p3.length : Int) (p4.length : Int)) > 60)) || (decide (p1.Tick ≥ 1099511627776))) || (decide (p1.Guest_.S > 1099511625776))) || v2) (some ((Convoy.mk 0 0 [] (Guest.mk 0 0 0 0 0 0 (Guess.mk 0 0) 0 0)), 2)) ((convoy_post p3 p1.Tick).bind fun v3 => (loop (convoy_Step_l1 p1 p2 p4 v3) (0, (Convoy.mk (w64 (p1.Tick + 1)) p1.Gap [] (Guest.mk 0 0 0 0 0 0 (Guess.mk 0 0) 0 0)))).bind fun y1 => cond (p1.Guest_.ID == 0) (some (y1, 0)) ((convoy_Step_2_b (p1.Mates.length : Int) p2).bind fun v10 => (convoy_arrives p1 v3 p4).bind fun v11 => cond (!v11.2) ((convoy_rolls v11.1 v10).bind fun v12 => some ((Convoy.mk y1.Tick y1.Gap y1.Mates v12), 0)) ((convoy_beside p1).bind fun v13 => (convoy_mind_drives_b (ConvoyMind.mk (Mate.mk v11.1.ID v11.1.S v11.1.V v11.1.Len v11.1.Ahead v11.1.Guess_ true 0 (Guess.mk 0 0) 0) p1.Tick p1.Gap (Sight.mk 0 0 0 0 0) false) v10).bind fun v14 => (insertc y1.Mates (w64 (v13.1 + 1)) [v14]).bind fun v15 => some ((Convoy.mk y1.Tick y1.Gap v15 y1.Guest_), 0)))))

theorem convoy_Step_ok (p1 : Convoy) (p2 : (List Int)) (p3 : (List Note)) (p4 : (List Sight)) (r : (Convoy × Int)) (h : convoy_Step p1 p2 p3 p4 = some r) : PCall Tryz.prog 15 [(.agg (eConvoy p1)), (.list (List.map eInt_i64 p2)), (.list (List.map eNote p3)), (.list (List.map eSight p4))] (.tup [(.agg (eConvoy r.1)), (i64 r.2)]) := by
 refine l_call (fk Tryz.func15 Tryz.ntmps15 (fun r => if r == 15 then [1015002] else if r == 16 then [1007] else if r == 27 then [1027008] else []) (by with_unfolding_all rfl)) (nl rfl) ?_
 unfold convoy_Step at h
 refine l_sub (s0 := ⟨T [(0, (.d _)), (1, (.d _)), (2, (.d _)), (3, (.d _))], G []⟩) (sbr rfl rfl) ?_
 refine lr (fun u1 hu1 => sn rfl rfl (sn rfl rfl (sn rfl rfl (sv rfl (s_nil (l_seq (lr (fun u2 hu2 => sd rfl (v_loadG rfl (gq rfl) rfl rfl) (bs h fun v1 hv1 h => s_call rfl rfl all2_refl (convoy_Check_ok _  _ hv1) (.inl rfl) (sv rfl (s_nil (lr (fun u3 hu3 => sv rfl (sv rfl (s_nil (cc rfl h (fun c1 h => ?_) (fun c1 h => ?_)))))))))))))))))
 refine lr (fun u4 hu4 => sv rfl (sv rfl (sst rfl G_hit ((zs 13).set 2 (.d .nilS)) rfl (sv rfl (s_nil (l_ret ?_))))))
 cases h
 exact fin_ok (.inr rfl) (resD2 (res_cellG rfl G_hit (nl rfl) rfl) (res_t rfl) rf_d rf_d) (.tup (.cons (.agg (ca rfl (ca rfl (.cons ⟨DLe.nil, rfl⟩ (cz rfl))))) all2_refl))
 refine l_skip (lr (fun u5 hu5 => sv rfl (s_nil (l_seq (lr (fun u6 hu6 => sv rfl (sd rfl (v_len rfl) (sv rfl (sd rfl (v_len rfl) (sv rfl (sv rfl (sv rfl (gp rfl (gw_f rfl) (fun _ => rfl) (gf rfl (vl rfl (gq rfl) rfl) (gf rfl (vb rfl rfl rfl) (sd rfl (v_or rfl rfl (fun hc => gd_pos (not_t hc))) (sv rfl (gp rfl (gw_f rfl) (fun _ => rfl) ?_))))))))))))))))))
 refine g_val _ (.ptr _ _) rfl (gw_f rfl) (fun w5 => (by simp only [gd_pos w5]; rfl)) ?_
 refine gf rfl (vl rfl (gq rfl) rfl) (gf rfl (vb rfl rfl rfl) (sd rfl (v_or rfl rfl (fun hc => gd_pos (not_t hc))) (sv rfl (gp rfl (gw_f rfl) (fun _ => rfl) (gf rfl (vl rfl (gq rfl) rfl) (gf rfl (fun _ => rfl) (bs h fun v2 hv2 h => ?_)))))))
 refine g_call _ (bo v2) (gw_f rfl) (fun w11 => ⟨_, [(dl eMate p1.Mates), (.d (.fn (.func 30) [] []))], _, _, (by simp only [gd_pos w11]; rfl), rfl, all2_refl, slices_ContainsFunc_Mate_Mate_convoy_Step_1_ok _  _ (cond_t w11 hv2), (.inl rfl)⟩) ?_
 refine sd rfl (v_or rfl rfl (fun hc => gd_pos (not_t hc))) (s_nil (cc rfl h (fun c2 h => ?_) (fun c2 h => ?_)))
 refine l_seq (l_sub (s0 := ⟨T [(8, (.ptr _ _))], G [((8, u1), some (.box 32 _))]⟩) (sbr rfl rfl) ?_)
 refine l_reg fun u7 hu7 => sv rfl (sst rfl G_hit ((zs 13).set 2 (.d .nilS)) rfl (sv rfl (s_nil (l_ret ?_))))
 cases h
 exact fin_ok (.inr rfl) (resD2 (res_cellG rfl G_hit (nl rfl) rfl) (res_t rfl) rf_d rf_d) (.tup (.cons (.agg (ca rfl (ca rfl (.cons ⟨DLe.nil, rfl⟩ (cz rfl))))) all2_refl))
 refine l_skip (l_seq (l_sub (s0 := ⟨T [(2, (.d _)), (3, (.d _)), (4, (.ptr _ _)), (5, (.ptr _ _)), (8, (.ptr _ _))], G [((4, u1), some (.box 32 _)), ((5, u1), some (.box 52 _)), ((8, u1), some (.box 32 _))]⟩) (sbr rfl rfl) ?_))
 refine l_reg fun u8 hu8 => s_val (.fn _ _ _) rfl rfl (s_val (.fn _ _ _) rfl rfl (s_nil (lr (fun u9 hu9 => sv rfl (sp rfl rfl (sl rfl G_hit rfl (bs h fun v3 hv3 h => s_call rfl rfl all2_refl (convoy_post_ok _ _  _ hv3) (.inl rfl) (sv rfl (s_nil (lr (fun u10 hu10 => sp rfl rfl (sl rfl G_hit rfl (sv rfl (sp rfl rfl (sl rfl G_hit rfl (sv rfl (sn rfl rfl (sst rfl G_hit ([(di (w64 (p1.Tick + 1))), (di p1.Gap), (.d .nilS)] ++ (zs 10)) rfl (s_nil (l_seq (l_seq (l_sub (s0 := ⟨T [(3, (.d _)), (4, (.ptr _ _)), (8, (.ptr _ _)), (12, (.fn _ _ _)), (13, (.d _)), (14, (.ptr _ _))], G [((4, u1), some (.box 32 _)), ((8, u1), some (.box 32 _)), ((5, u1), some (.box 52 _)), ((14, u10), some (.box 32 _))]⟩) (sbr rfl rfl) ?_))))))))))))))))))))))
 refine l_reg fun u11 hu11 => sp rfl rfl (sl rfl G_hit rfl (sd rfl (v_len rfl) (sv rfl (s_nil (bs h fun y1 hy1 h => l_join (fun s => ∃ g1 : Nat, Sb ⟨T [(3, (dl eSight p4)), (4, (.ptr (4, u1) 0)), (8, (.ptr (8, u1) 0)), (12, (.fn (.func 32) [] [(.ptr (5, u1) 0)])), (13, (dl eConvoyLetter v3)), (14, (.ptr (14, u10) 0))], G [((4, u1), some (.box 32 (dConvoy p1))), ((8, u1), some (.box 32 ((zs 13).set 2 (.d .nilS)))), ((5, u1), some (.box 52 [(dl eInt_i64 p2)])), ((14, u10), some (.box 32 ((dConvoy y1).set 2 (oS y1.Mates (104, g1))))), ((104, g1), oB 51 12 eMate y1.Mates)]⟩ s) ?_ ?_)))))
 refine l_block (l_loop (convoy_Step_l1 p1 p2 p4 v3) (fun (x1 : (Int × Convoy)) (g2 : Nat) => ⟨T [(3, (dl eSight p4)), (4, (.ptr (4, u1) 0)), (8, (.ptr (8, u1) 0)), (12, (.fn (.func 32) [] [(.ptr (5, u1) 0)])), (13, (dl eConvoyLetter v3)), (14, (.ptr (14, u10) 0)), (66, (dl eMate p1.Mates)), (67, (di (p1.Mates.length : Int))), (68, (di x1.1))], G [((4, u1), some (.box 32 (dConvoy p1))), ((8, u1), some (.box 32 ((zs 13).set 2 (.d .nilS)))), ((5, u1), some (.box 52 [(dl eInt_i64 p2)])), ((14, u10), some (.box 32 ((dConvoy x1.2).set 2 (oS x1.2.Mates (104, g2))))), ((104, g2), oB 51 12 eMate x1.2.Mates)]⟩) (0, (Convoy.mk (w64 (p1.Tick + 1)) p1.Gap [] (Guest.mk 0 0 0 0 0 0 (Guess.mk 0 0) 0 0))) 0 _ hy1 (sb_of ⟨.of rfl, .of rfl, .of rfl, .of rfl, .of rfl, .of rfl, .of rfl, .of rfl, .of rfl, trivial⟩ (sbG_some G_hit (.of rfl) (sg rfl (sg rfl (sg rfl (sbG_nil trivial)))))) ?_)
 intro x1 g2 z1 hz1 ez1
 unfold convoy_Step_l1 at hz1
 refine lr (fun u12 hu12 => sv rfl (s_nil (l_seq (cc rfl hz1 (fun c3 hz1 => ?_) (fun c3 hz1 => ?_)))))
 refine l_skip (l_seq (l_block (lr (fun u13 hu13 => sv rfl (bs hz1 fun v4 hv4 hz1 => sd rfl (v_idx rfl rfl hv4 rfl) (sd rfl (v_loadLG rfl hv4 rfl rfl) (sn rfl rfl (sv rfl (sst rfl G_hit (dMate v4) rfl (s_nil (lr (fun u14 hu14 => sd rfl (v_loadG rfl G_hit rfl rfl) (sp rfl rfl (sl rfl (gq rfl) rfl (sp rfl rfl (sl rfl (gq rfl) rfl (sv rfl (sn rfl rfl (sp rfl rfl (s_nil (l_seq (l_sub (s0 := ⟨T [(3, (dl eSight p4)), (4, (.ptr (4, u1) 0)), (8, (.ptr (8, u1) 0)), (12, (.fn (.func 32) [] [(.ptr (5, u1) 0)])), (13, (dl eConvoyLetter v3)), (14, (.ptr (14, u10) 0)), (15, (di x1.1)), (16, (.ptr (16, u13) 0)), (17, (.ptr (79, u14) 0)), (66, (dl eMate p1.Mates)), (67, (di (p1.Mates.length : Int))), (68, (di x1.1))], G [((4, u1), some (.box 32 (dConvoy p1))), ((8, u1), some (.box 32 ((zs 13).set 2 (.d .nilS)))), ((5, u1), some (.box 52 [(dl eInt_i64 p2)])), ((14, u10), some (.box 32 ((dConvoy x1.2).set 2 (oS x1.2.Mates (104, g2))))), ((104, g2), oB 51 12 eMate x1.2.Mates), ((16, u13), some (.box 51 (dMate v4))), ((79, u14), some (.box 79 ((dMate v4) ++ [(di p1.Tick), (di p1.Gap)] ++ (zs 5) ++ [(.d (bo false))])))]⟩) (sb_of ⟨.of rfl, .of rfl, .of rfl, .of rfl, .of rfl, .of rfl, .of rfl, .of rfl, .of rfl, .of rfl, .of rfl, .of rfl, trivial⟩ (sg rfl (sg rfl (sg rfl (sg rfl (sbG_oB (gq rfl) (sg rfl (sbG_some G_hit (.of rfl) trivial)))))))) ?_))))))))))))))))))))))
 refine l_reg fun u15 hu15 => sp rfl rfl (sp rfl rfl (sv rfl (sp rfl rfl (sl rfl (gq rfl) rfl (bs hz1 fun v5 hv5 hz1 => s_call rfl rfl all2_refl (convoy_look_ok _ _  _ hv5) (.inl rfl) (sv rfl (sv rfl (sv rfl (sp rfl rfl (sp rfl rfl (sst rfl (gq rfl) ((dMate v4) ++ [(di p1.Tick), (di p1.Gap)] ++ (dSight v5.1) ++ [(.d (bo false))]) rfl (sp rfl rfl (sp rfl rfl (sst rfl G_hit ((dMate v4) ++ [(di p1.Tick), (di p1.Gap)] ++ (dSight v5.1) ++ [(.d (bo v5.2))]) rfl (s_nil (l_seq (l_sub (s0 := ⟨T [(3, (dl eSight p4)), (4, (.ptr (4, u1) 0)), (8, (.ptr (8, u1) 0)), (12, (.fn (.func 32) [] [(.ptr (5, u1) 0)])), (13, (dl eConvoyLetter v3)), (14, (.ptr (14, u10) 0)), (15, (di x1.1)), (17, (.ptr (79, u14) 0)), (66, (dl eMate p1.Mates)), (67, (di (p1.Mates.length : Int))), (68, (di x1.1))], G [((4, u1), some (.box 32 (dConvoy p1))), ((8, u1), some (.box 32 ((zs 13).set 2 (.d .nilS)))), ((5, u1), some (.box 52 [(dl eInt_i64 p2)])), ((14, u10), some (.box 32 ((dConvoy x1.2).set 2 (oS x1.2.Mates (104, g2))))), ((104, g2), oB 51 12 eMate x1.2.Mates), ((79, u14), some (.box 79 ((dMate v4) ++ [(di p1.Tick), (di p1.Gap)] ++ (dSight v5.1) ++ [(.d (bo v5.2))])))]⟩) (sb_of ⟨.of rfl, .of rfl, .of rfl, .of rfl, .of rfl, .of rfl, .of rfl, .of rfl, .of rfl, .of rfl, .of rfl, trivial⟩ (sg rfl (sg rfl (sg rfl (sg rfl (sbG_oB (gq rfl) (sbG_some G_hit (.of rfl) trivial))))))) ?_)))))))))))))))))
 refine l_reg fun u16 hu16 => sp rfl rfl (sv rfl (bs hz1 fun v6 hv6 hz1 => s_oc (v := .d (.tup [])) (us := [(79, u14)]) (oc_m (convoy_mind_thinks_o_ok _ _ _ hv6) [(79, u14)] [(79, u14)] _ (((79, u14), some (.box 79 (dConvoyMind v6))) :: _) rfl all2_av (kl_cons (kr_ptr (G_skip rfl (G_skip rfl (G_skip rfl (G_skip rfl (G_skip rfl G_hit))))) rfl) (kl_cons kr_d kl_nil)) (live_cons (G_skip rfl (G_skip rfl (G_skip rfl (G_skip rfl (G_skip rfl G_hit))))) live_nil) ⟨⟨_, (G_skip rfl (G_skip rfl (G_skip rfl (G_skip rfl (G_skip rfl G_hit))))), .of rfl⟩, trivial⟩ (fun _ h => h) nd1 rfl rfl rfl) (s_nil (l_draw rfl fun u17 hu17 => sp rfl rfl (s_val (oS x1.2.Mates (104, g2)) rfl (v_load rfl (gq rfl) rfl) (sp rfl rfl (s_val (.fn _ _ _) rfl rfl (sv rfl (bs hz1 fun v7 hv7 hz1 => s_call rfl (rD (rfL_cons (rf_ptr (gq rfl) (rD rfL_nil)) rfL_nil)) all2_refl (convoy_Step_2_b_ok _ _  _ hv7) (.inr rfl) (bs hz1 fun v8 hv8 hz1 => s_call rfl (rfL_cons (rf_ptr G_hit (rD (rD (rD (rD (rD (rD (rD (rD (rD (rD (rD (rD (rD (rD (rD (rD (rD (rD (rD (rD rfL_nil))))))))))))))))))))) (rD rfL_nil)) all2_refl (convoy_mind_drives_b_ok _ _  _ hv8) (.inr rfl) (s_val (dl eMate [v8]) rfl (v_dsliceN eMate ([v8] : List Mate) (fun _ => rfl) rfl rfl ⟨rfl, rfl, rfl, trivial⟩) (bs hz1 fun v9 hv9 hz1 => s_appendO eMate (104, g2) x1.2.Mates v8 [] _ (elems_list (fun _ => rfl)) rfl (gq rfl) hv9 (sp rfl rfl (sst rfl (gq rfl) ((dConvoy x1.2).set 2 (.sl (104, u17))) rfl (s_nil (l_end (l_sub (s0 := ⟨T [(3, (.d _)), (4, (.ptr _ _)), (8, (.ptr _ _)), (12, (.fn _ _ _)), (13, (.d _)), (14, (.ptr _ _)), (66, (.d _)), (67, (.d _)), (68, (.d _))], G [((4, u1), some (.box 32 _)), ((8, u1), some (.box 32 _)), ((5, u1), some (.box 52 _)), ((14, u10), some (.box 32 _)), ((104, u17), some _)]⟩) (sbr rfl rfl) ?_)))))))))))))))))
 refine l_reg fun u18 hu18 => sv rfl (sv rfl (s_nil (l_nil ?_)))
 cases hz1
 exact ⟨rfl, u17, (sb_of ⟨.of rfl, .of rfl, .of rfl, .of rfl, .of rfl, .of rfl, .of rfl, .of rfl, .of rfl, trivial⟩ (sbG_some G_hit (.of rfl) (sg rfl (sg rfl (sbG_some (gq rfl) (.box (cv (cv (.cons (.of (oS_ne (appc_ne hv9)).symm) cw)))) (sbG_own (gq rfl) trivial))))))⟩
 refine l_exitN rfl ?_
 cases hz1
 obtain rfl := ez1 _ rfl
 refine ⟨nofun, awl_pop rfl (l_j ?_)⟩
 exact ⟨g2, (sb_of ⟨.of rfl, .of rfl, .of rfl, .of rfl, .of rfl, .of rfl, trivial⟩ (sbG_some G_hit (.of rfl) (sg rfl (sg rfl (sg rfl (sbG_oB (gq rfl) trivial))))))⟩
 rintro _ ⟨g1, q1⟩
 refine l_sub q1 (l_seq (lr (fun u19 hu19 => sp rfl rfl (sp rfl rfl (sl rfl G_hit rfl (sv rfl (s_nil (cc rfl h (fun c4 h => ?_) (fun c4 h => ?_)))))))))
 refine lr (fun u20 hu20 => s_val (mkAgg ((dConvoy y1).set 2 (oS y1.Mates (104, g1)))) rfl (v_loadG rfl (gq rfl) rfl rfl) (s_store _ _ _ _ _ (cellsV_mkAgg _) rfl rfl (gq rfl) (nl rfl) ((dConvoy y1).set 2 (oS y1.Mates (104, g1))) rfl (sv rfl (s_nil (l_ret ?_)))))
 cases h
 exact fin_ok (.inr rfl) (resD2 (res_cellG rfl G_hit (nl rfl) rfl) (res_t rfl) (rf_mkAgg (rD (rD (rfL_cons (rf_oS (gq rfl)) (rD (rD (rD (rD (rD (rD (rD (rD (rD (rD rfL_nil)))))))))))))) rf_d) (.tup (.cons (.agg (ca rfl (ca rfl (.cons ⟨oD_le, rfl⟩ (cz rfl))))) all2_refl))
 refine l_skip (lr (fun u21 hu21 => s_val (.fn _ _ _) rfl rfl (sp rfl rfl (sl rfl G_hit rfl (sd rfl (v_len rfl) (bs h fun v10 hv10 h => s_call rfl (rD (rfL_cons (rf_ptr (gq rfl) (rD rfL_nil)) rfL_nil)) all2_refl (convoy_Step_2_b_ok _ _  _ hv10) (.inr rfl) (sv rfl (s_nil (lr (fun u22 hu22 => sd rfl (v_loadG rfl G_hit rfl rfl) (sv rfl (sv rfl (bs h fun v11 hv11 h => s_call rfl rfl all2_refl (convoy_arrives_ok _ _ _  _ hv11) (.inl rfl) (sv rfl (sv rfl (sv rfl (sn rfl rfl (sst rfl G_hit (dGuest v11.1) rfl (sv rfl (s_nil (l_seq (l_seq (l_sub (s0 := ⟨T [(4, (.ptr (4, u1) 0)), (8, (.ptr (8, u1) 0)), (14, (.ptr (14, u10) 0)), (18, (di v10)), (19, (.ptr (19, u22) 0)), (20, (.d (bo v11.2)))], G [((4, u1), some (.box 32 (dConvoy p1))), ((8, u1), some (.box 32 ((zs 13).set 2 (.d .nilS)))), ((14, u10), some (.box 32 ((dConvoy y1).set 2 (oS y1.Mates (104, g1))))), ((104, g1), oB 51 12 eMate y1.Mates), ((19, u22), some (.box 30 (dGuest v11.1)))]⟩) (sb_of ⟨.of rfl, .of rfl, .of rfl, .of rfl, .of rfl, .of rfl, trivial⟩ (sg rfl (sg rfl (sg rfl (sbG_oB (gq rfl) (sbG_some G_hit (.of rfl) trivial)))))) ?_)))))))))))))))))))))))
 refine l_reg fun u23 hu23 => sv rfl (s_val (.d (bo (!v11.2))) rfl rfl (s_nil (cc rfl h (fun c5 h => ?_) (fun c5 h => ?_))))
 refine lr (fun u24 hu24 => sd rfl (v_loadG rfl (gq rfl) rfl rfl) (sv rfl (bs h fun v12 hv12 h => s_call rfl rfl all2_refl (convoy_rolls_ok _ _  _ hv12) (.inl rfl) (sp rfl rfl (sst rfl (gq rfl) ([(di y1.Tick), (di y1.Gap), (oS y1.Mates (104, g1))] ++ (dGuest v12)) rfl (s_nil (lr (fun u25 hu25 => s_val (mkAgg ([(di y1.Tick), (di y1.Gap), (oS y1.Mates (104, g1))] ++ (dGuest v12))) rfl (v_loadG rfl G_hit rfl rfl) (s_store _ _ _ _ _ (cellsV_mkAgg _) rfl rfl (gq rfl) (nl rfl) ([(di y1.Tick), (di y1.Gap), (oS y1.Mates (104, g1))] ++ (dGuest v12)) rfl (sv rfl (s_nil (l_ret ?_))))))))))))
 cases h
 exact fin_ok (.inr rfl) (resD2 (res_cellG rfl G_hit (nl rfl) rfl) (res_t rfl) (rf_mkAgg (rD (rD (rfL_cons (rf_oS (gq rfl)) (rD (rD (rD (rD (rD (rD (rD (rD (rD (rD rfL_nil)))))))))))))) rf_d) (.tup (.cons (.agg (ca rfl (ca rfl (.cons ⟨oD_le, rfl⟩ (cz rfl))))) all2_refl))
 refine l_skip (lr (fun u26 hu26 => sp rfl rfl (sl rfl (gq rfl) rfl (sp rfl rfl (sl rfl (gq rfl) rfl (sp rfl rfl (sl rfl (gq rfl) rfl (sp rfl rfl (sl rfl (gq rfl) rfl (sp rfl rfl (sl rfl (gq rfl) rfl (sp rfl rfl (sd rfl (v_loadG rfl (gq rfl) rfl rfl) (sv rfl (sp rfl rfl (sl rfl G_hit rfl (sp rfl rfl (sl rfl G_hit rfl (sv rfl (sn rfl rfl (sp rfl rfl (s_nil (l_seq (l_sub (s0 := ⟨T [(4, (.ptr (4, u1) 0)), (8, (.ptr (8, u1) 0)), (14, (.ptr (14, u10) 0)), (18, (di v10)), (21, (.ptr (149, u26) 0))], G [((4, u1), some (.box 32 (dConvoy p1))), ((8, u1), some (.box 32 ((zs 13).set 2 (.d .nilS)))), ((14, u10), some (.box 32 ((dConvoy y1).set 2 (oS y1.Mates (104, g1))))), ((104, g1), oB 51 12 eMate y1.Mates), ((149, u26), some (.box 79 ([(di v11.1.ID), (di v11.1.S), (di v11.1.V), (di v11.1.Len), (di v11.1.Ahead), (di v11.1.Guess_.R), (di v11.1.Guess_.V), (.d (bo true))] ++ (((zs 11).set 4 (di p1.Tick)).set 5 (di p1.Gap)) ++ [(.d (bo false))])))]⟩) (sb_of ⟨.of rfl, .of rfl, .of rfl, .of rfl, .of rfl, trivial⟩ (sg rfl (sg rfl (sg rfl (sbG_oB (gq rfl) (sbG_some G_hit (.of rfl) trivial)))))) ?_))))))))))))))))))))))))
 refine l_reg fun u27 hu27 => sd rfl (v_loadG rfl G_hit rfl rfl) (bs h fun v13 hv13 h => s_call rfl rfl all2_refl (convoy_beside_ok _  _ hv13) (.inl rfl) (sv rfl (sv rfl (sv rfl (sv rfl (sv rfl (s_nil (l_seq (l_draw rfl fun u28 hu28 => sp rfl rfl (s_val (oS y1.Mates (104, g1)) rfl (v_load rfl (gq rfl) rfl) (sv rfl (sv rfl (sp rfl rfl (sv rfl (bs h fun v14 hv14 h => s_call rfl (rfL_cons (rf_ptr (gq rfl) (rD (rD (rD (rD (rD (rD (rD (rD (rD (rD (rD (rD (rD (rD (rD (rD (rD (rD (rD (rD rfL_nil))))))))))))))))))))) (rD rfL_nil)) all2_refl (convoy_mind_drives_b_ok _ _  _ hv14) (.inr rfl) (s_new (.sl _) (.arr 51 12 (List.map eMate ([v14] : List Mate))) rfl (aval_bsliceN eMate _ (fun _ => rfl) rfl rfl ⟨rfl, rfl, rfl, trivial⟩) (bs h fun v15 hv15 h => s_oc (oc_insert (E := eMate) ins_C hv15 rfl (G_skip rfl (G_skip rfl (G_skip rfl (G_skip rfl G_hit)))) G_hit (key_ne rfl)) (sp rfl rfl (sst rfl (gq rfl) ((dConvoy y1).set 2 (.sl (10270080, u28))) rfl (s_nil (l_seq (l_sub (s0 := ⟨T [(8, (.ptr _ _)), (14, (.ptr _ _))], G [((8, u1), some (.box 32 _)), ((14, u10), some (.box 32 _)), ((10270080, u28), some _)]⟩) (sbr rfl rfl) ?_))))))))))))))))))))))
 refine l_reg fun u29 hu29 => s_val (.agg _) rfl (v_loadG rfl (gq rfl) rfl rfl) (sst rfl G_hit ((dConvoy y1).set 2 (.sl (10270080, u28))) rfl (sv rfl (s_nil (l_ret ?_))))
 cases h
 exact fin_ok (.inr rfl) (resD2 (res_cellG rfl G_hit (nl rfl) rfl) (res_t rfl) (rf_agg (rD (rD (rfL_cons (rf_sl (gq rfl)) (rD (rD (rD (rD (rD (rD (rD (rD (rD (rD rfL_nil)))))))))))))) rf_d) (.refl _)

noncomputable def ref09_far_l1 (p1 : Convoy) (x1 : (Bool × Int)) : Option (Stp (Bool × Int) Bool) :=
  cond (decide (x1.2 < (p1.Mates.length : Int))) (((cond (!x1.1) (geti p1.Mates x1.2) (some default))).bind fun v1 => some (.go ((x1.1 || (decide (v1.S > 1099511625776))), (w64 (x1.2 + 1))))) (some (.out x1.1))
noncomputable def ref09_far (p1 : Convoy) : Option Bool :=
  (loop (ref09_far_l1 p1) ((decide (p1.Guest_.S > 1099511625776)), 0)).bind fun y1 => some y1

theorem ref09_far_ok (p1 : Convoy) (r : Bool) (h : ref09_far p1 = some r) : PCall Tryz.prog 40 [(.agg (eConvoy p1))] (bo r) := by
 refine l_call (fk Tryz.func40 Tryz.ntmps40 m0 (by with_unfolding_all rfl)) (nl rfl) ?_
 unfold ref09_far at h
 refine l_sub (s0 := ⟨T [(0, (.d _))], G []⟩) (sbr rfl rfl) ?_
 refine lr (fun u1 hu1 => sn rfl rfl (sv rfl (s_nil (lr (fun u2 hu2 => sp rfl rfl (sp rfl rfl (sl rfl G_hit rfl (sv rfl (sv rfl (s_nil (l_seq (lr (fun u3 hu3 => sv rfl (s_nil (bs h fun y1 hy1 h => l_join (fun s => ∃ g1 : Unit, Sb ⟨T [(3, (.d (bo y1)))], G []⟩ s) ?_ ?_)))))))))))))))
 refine l_block (l_loop (ref09_far_l1 p1) (fun (x1 : (Bool × Int)) (g2 : Unit) => ⟨T [(1, (.ptr (1, u1) 0)), (3, (.d (bo x1.1))), (4, (di x1.2))], G [((1, u1), some (.box 32 (dConvoy p1)))]⟩) ((decide (p1.Guest_.S > 1099511625776)), 0) () _ hy1 (sbr rfl rfl) ?_)
 intro x1 g2 z1 hz1 ez1
 unfold ref09_far_l1 at hz1
 refine l_seq (lr (fun u4 hu4 => sv rfl (sp rfl rfl (sl rfl G_hit rfl (sd rfl (v_len rfl) (sv rfl (s_nil (cc rfl hz1 (fun c1 hz1 => ?_) (fun c1 hz1 => ?_)))))))))
 refine l_skip (l_seq (l_block (l_reg fun u5 hu5 => sv rfl (sv rfl (gp rfl (gw_f rfl) (fun _ => rfl) (gf rfl (vl rfl G_hit rfl) (gf rfl (fun _ => rfl) (bs hz1 fun v1 hv1 hz1 => gf rfl (fun w4 => (v_idx (gd_pos w4) (gd_pos w4) (cond_t w4 hv1) rfl)) ?_))))))))
 refine gf rfl (fun w5 => (by simp only [gd_pos w5]; rfl)) ?_
 refine gf rfl (fun w6 => (v_loadL (gd_pos w6) (cond_t w6 hv1) rfl)) (gf rfl (vb rfl rfl rfl) (sd rfl (v_or rfl rfl (fun hc => gd_pos (not_t hc))) (sv rfl (s_nil (l_end (l_reg fun u6 hu6 => sv rfl (sv rfl (sv rfl (s_nil (l_nil ?_))))))))))
 cases hz1
 exact ⟨rfl, (), (sbr rfl rfl)⟩
 refine l_exitN rfl ?_
 cases hz1
 obtain rfl := ez1 _ rfl
 refine ⟨nofun, awl_pop rfl (l_j ?_)⟩
 exact ⟨(), (sbr rfl rfl)⟩
 rintro _ ⟨g1, q1⟩
 refine l_sub q1 (lr (fun u7 hu7 => sv rfl (sv rfl (s_nil (l_ret ?_)))))
 cases h
 exact fin_ok (.inr rfl) (resD1 (res_t rfl) rf_d) (.refl _)

noncomputable def ref09_counts (p1 : Note) (p2 : Int) : Option Bool :=
  ((cond ((decide (p1.Kind ≥ 1)) && (decide (p1.Kind ≤ 4))) (ref09_between p1.From 1 99) (some default))).bind fun v1 => ((cond ((((((decide (p1.Kind ≥ 1)) && (decide (p1.Kind ≤ 4))) && v1) && (decide (p1.Stamp ≤ p2))) && (decide (p1.Stamp ≥ (w64 (p2 - 20))))) && (decide (p1.Stamp ≥ 0))) (ref09_between p1.R (-20000) 2199023255552) (some default))).bind fun v2 => ((cond (((((((decide (p1.Kind ≥ 1)) && (decide (p1.Kind ≤ 4))) && v1) && (decide (p1.Stamp ≤ p2))) && (decide (p1.Stamp ≥ (w64 (p2 - 20))))) && (decide (p1.Stamp ≥ 0))) && v2) (ref09_between p1.V 0 2000) (some default))).bind fun v3 => ((cond ((((((((decide (p1.Kind ≥ 1)) && (decide (p1.Kind ≤ 4))) && v1) && (decide (p1.Stamp ≤ p2))) && (decide (p1.Stamp ≥ (w64 (p2 - 20))))) && (decide (p1.Stamp ≥ 0))) && v2) && v3) (ref09_between p1.Until 0 2199023255552) (some default))).bind fun v4 => some (((((((((decide (p1.Kind ≥ 1)) && (decide (p1.Kind ≤ 4))) && v1) && (decide (p1.Stamp ≤ p2))) && (decide (p1.Stamp ≥ (w64 (p2 - 20))))) && (decide (p1.Stamp ≥ 0))) && v2) && v3) && v4)

theorem ref09_counts_ok (p1 : Note) (p2 : Int) (r : Bool) (h : ref09_counts p1 p2 = some r) : PCall Tryz.prog 79 [(.agg (eNote p1)), (i64 p2)] (bo r) := by
 refine l_call (fk Tryz.func79 Tryz.ntmps79 m0 (by with_unfolding_all rfl)) (nl rfl) ?_
 unfold ref09_counts at h
 refine l_sub (s0 := ⟨T [(0, (.d _)), (1, (.d _))], G []⟩) (sbr rfl rfl) ?_
 refine lr (fun u1 hu1 => sn rfl rfl (sv rfl (s_nil (lr (fun u2 hu2 => sp rfl rfl (sl rfl G_hit rfl (sv rfl (sv rfl (gp rfl (gw_t rfl) (fun _ => rfl) (gt rfl (vl rfl G_hit rfl) (gt rfl (vb rfl rfl rfl) (sa rfl rfl rfl (sv rfl (gp rfl (gw_t rfl) (fun _ => rfl) (gt rfl (vl rfl G_hit rfl) (bs h fun v1 hv1 h => ?_))))))))))))))))
 refine g_call _ (bo v1) (gw_t rfl) (fun w6 => ⟨_, [(di p1.From), (di 1), (di 99)], _, _, (by simp only [gd_pos w6]; rfl), rfl, all2_refl, ref09_between_ok _ _ _  _ (cond_t w6 hv1), (.inl rfl)⟩) ?_
 refine sa rfl rfl rfl (sv rfl (gp rfl (gw_t rfl) (fun _ => rfl) (gt rfl (vl rfl G_hit rfl) (gt rfl (fun _ => rfl) (gt rfl (fun w10 => (v_bin (gd_pos w10) (gd_pos w10) rfl)) (sa rfl rfl rfl (sv rfl (gp rfl (gw_t rfl) (fun _ => rfl) (gt rfl (vl rfl G_hit rfl) (gt rfl (fun _ => rfl) (gt rfl (vb rfl rfl rfl) (gt rfl (fun w15 => (v_bin (gd_pos w15) (gd_pos w15) rfl)) (sa rfl rfl rfl (sv rfl (gp rfl (gw_t rfl) (fun _ => rfl) (gt rfl (vl rfl G_hit rfl) (gt rfl (vb rfl rfl rfl) (sa rfl rfl rfl (sv rfl (gp rfl (gw_t rfl) (fun _ => rfl) (gt rfl (vl rfl G_hit rfl) (bs h fun v2 hv2 h => ?_))))))))))))))))))))))
 refine g_call _ (bo v2) (gw_t rfl) (fun w21 => ⟨_, [(di p1.R), (di (-20000)), (di 2199023255552)], _, _, (by simp only [gd_pos w21]; rfl), rfl, all2_refl, ref09_between_ok _ _ _  _ (cond_t w21 hv2), (.inl rfl)⟩) ?_
 refine sa rfl rfl rfl (sv rfl (gp rfl (gw_t rfl) (fun _ => rfl) (gt rfl (vl rfl G_hit rfl) (bs h fun v3 hv3 h => ?_))))
 refine g_call _ (bo v3) (gw_t rfl) (fun w24 => ⟨_, [(di p1.V), (di 0), (di 2000)], _, _, (by simp only [gd_pos w24]; rfl), rfl, all2_refl, ref09_between_ok _ _ _  _ (cond_t w24 hv3), (.inl rfl)⟩) ?_
 refine sa rfl rfl rfl (sv rfl (gp rfl (gw_t rfl) (fun _ => rfl) (gt rfl (vl rfl G_hit rfl) (bs h fun v4 hv4 h => ?_))))
 refine g_call _ (bo v4) (gw_t rfl) (fun w27 => ⟨_, [(di p1.Until), (di 0), (di 2199023255552)], _, _, (by simp only [gd_pos w27]; rfl), rfl, all2_refl, ref09_between_ok _ _ _  _ (cond_t w27 hv4), (.inl rfl)⟩) ?_
 refine sa rfl rfl rfl (sv rfl (s_nil (l_ret ?_)))
 cases h
 exact fin_ok (.inr rfl) (resD1 (res_t rfl) rf_d) (.refl _)

noncomputable def ref09_Age_l1 (p2 : Int) (x1 : (Int × Guess)) : Option (Stp (Int × Guess) Guess) :=
  cond ((decide (x1.1 < p2)) && (decide (x1.1 < 30))) (some (.go ((w64 (x1.1 + 1)), (Guess.mk (w64 (x1.2.R + (mm2 true 0 (w64 (x1.2.V - 90))))) (mm2 true 0 (w64 (x1.2.V - 90))))))) (some (.out x1.2))
noncomputable def ref09_Age (p1 : Guess) (p2 : Int) : Option Guess :=
  (ref09_sane [p1.R, p1.V]).bind fun v1 => cond (!v1) (some (Guess.mk 0 0)) ((loop (ref09_Age_l1 p2) (0, p1)).bind fun y1 => some y1)

theorem ref09_Age_ok (p1 : Guess) (p2 : Int) (r : Guess) (h : ref09_Age p1 p2 = some r) : PCall Tryz.prog 85 [(.agg [(i64 p1.R), (i64 p1.V)]), (i64 p2)] (.agg [(i64 r.R), (i64 r.V)]) := by
 refine l_call (fk Tryz.func85 Tryz.ntmps85 (fun r => if r == 1 then [1004] else []) (by with_unfolding_all rfl)) (nl rfl) ?_
 unfold ref09_Age at h
 refine l_sub (s0 := ⟨T [(0, (.d _)), (1, (.d _))], G []⟩) (sbr rfl rfl) ?_
 refine lr (fun u1 hu1 => sn rfl rfl (sn rfl rfl (s_nil (l_seq (lr (fun u2 hu2 => sp rfl rfl (sl rfl (gq rfl) rfl (sp rfl rfl (sl rfl (gq rfl) rfl (s_val (dl eInt_i64 [p1.R, p1.V]) rfl rfl (bs h fun v1 hv1 h => s_call rfl rfl all2_refl (ref09_sane_ok _  _ hv1) (.inl rfl) (s_val (.d (bo (!v1))) rfl rfl (s_nil (cc rfl h (fun c1 h => ?_) (fun c1 h => ?_)))))))))))))))
 refine lr (fun u3 hu3 => sv rfl (sst rfl G_hit [(di 0), (di 0)] rfl (s_nil (l_ret ?_))))
 cases h
 exact fin_ok (.inr rfl) (resD1 (res_cellG rfl G_hit (nl rfl) rfl) rf_d) (.refl _)
 refine l_skip (l_seq (lr (fun u4 hu4 => sv rfl (s_nil (bs h fun y1 hy1 h => l_join (fun s => ∃ g1 : Unit, Sb ⟨T [(2, (.ptr (2, u1) 0)), (4, (.ptr (4, u1) 0))], G [((2, u1), some (.box 28 [(di y1.R), (di y1.V)])), ((4, u1), some (.box 28 [(di 0), (di 0)]))]⟩ s) ?_ ?_)))))
 refine l_block (l_loop (ref09_Age_l1 p2) (fun (x1 : (Int × Guess)) (g2 : Unit) => ⟨T [(1, (di p2)), (2, (.ptr (2, u1) 0)), (4, (.ptr (4, u1) 0)), (5, (di x1.1))], G [((2, u1), some (.box 28 [(di x1.2.R), (di x1.2.V)])), ((4, u1), some (.box 28 [(di 0), (di 0)]))]⟩) (0, p1) () _ hy1 (sbr rfl rfl) ?_)
 intro x1 g2 z1 hz1 ez1
 unfold ref09_Age_l1 at hz1
 refine l_seq (lr (fun u5 hu5 => sv rfl (sv rfl (sv rfl (sv rfl (gt rfl (fun _ => rfl) (gt rfl (vb rfl rfl rfl) (sa rfl rfl rfl (s_nil (cc rfl hz1 (fun c2 hz1 => ?_) (fun c2 hz1 => ?_)))))))))))
 refine l_skip (l_seq (l_block (lr (fun u6 hu6 => sp rfl rfl (sl rfl G_hit rfl (sv rfl (sv rfl (sp rfl rfl (sst rfl G_hit [(di x1.2.R), (di (mm2 true 0 (w64 (x1.2.V - 90))))] rfl (s_nil (l_reg fun u7 hu7 => sp rfl rfl (sl rfl G_hit rfl (sp rfl rfl (sl rfl G_hit rfl (sv rfl (sp rfl rfl (sst rfl G_hit [(di (w64 (x1.2.R + (mm2 true 0 (w64 (x1.2.V - 90)))))), (di (mm2 true 0 (w64 (x1.2.V - 90))))] rfl (s_nil (l_end (l_sub (s0 := ⟨T [(1, (.d _)), (2, (.ptr _ _)), (4, (.ptr _ _)), (5, (.d _))], G [((2, u1), some (.box 28 _)), ((4, u1), some (.box 28 _))]⟩) (sbr rfl rfl) ?_))))))))))))))))))))
 refine l_reg fun u8 hu8 => sv rfl (sv rfl (sv rfl (s_nil (l_nil ?_))))
 cases hz1
 exact ⟨rfl, (), (sbr rfl rfl)⟩
 refine l_exitN rfl ?_
 cases hz1
 obtain rfl := ez1 _ rfl
 refine ⟨nofun, awl_pop rfl (l_j ?_)⟩
 exact ⟨(), (sbr rfl rfl)⟩
 rintro _ ⟨g1, q1⟩
 refine l_sub q1 (lr (fun u9 hu9 => sd rfl (v_loadG rfl G_hit rfl rfl) (sst rfl (gq rfl) [(di y1.R), (di y1.V)] rfl (s_nil (l_ret ?_)))))
 cases h
 exact fin_ok (.inr rfl) (resD1 (res_cellG rfl G_hit (nl rfl) rfl) rf_d) (.refl _)

noncomputable def ref09_aged (p1 : Note) (p2 : Int) : Option Guess :=
  (ref09_Age (Guess.mk p1.R p1.V) (w64 (p2 - p1.Stamp))).bind fun v1 => some v1

theorem ref09_aged_ok (p1 : Note) (p2 : Int) (r : Guess) (h : ref09_aged p1 p2 = some r) : PCall Tryz.prog 81 [(.agg (eNote p1)), (i64 p2)] (.agg [(i64 r.R), (i64 r.V)]) := by
 refine l_call (fk Tryz.func81 Tryz.ntmps81 m0 (by with_unfolding_all rfl)) (nl rfl) ?_
 unfold ref09_aged at h
 refine l_sub (s0 := ⟨T [(0, (.d _)), (1, (.d _))], G []⟩) (sbr rfl rfl) ?_
 refine lr (fun u1 hu1 => sn rfl rfl (sn rfl rfl (s_nil (lr (fun u2 hu2 => sp rfl rfl (sl rfl (gq rfl) rfl (sp rfl rfl (sl rfl (gq rfl) rfl (sv rfl (sv rfl (sp rfl rfl (sl rfl (gq rfl) rfl (sv rfl (bs h fun v1 hv1 h => s_call rfl rfl all2_refl (ref09_Age_ok _ _  _ hv1) (.inl rfl) (sst rfl G_hit [(di v1.R), (di v1.V)] rfl (s_nil (l_ret ?_)))))))))))))))))
 cases h
 exact fin_ok (.inr rfl) (resD1 (res_cellG rfl G_hit (nl rfl) rfl) rf_d) (.refl _)

noncomputable def ref09_Better (p1 : Guess) (p2 : Guess) : Option Guess :=
  (ref09_sane [p1.R, p1.V, p2.R, p2.V]).bind fun v1 => cond (!v1) (some (Guess.mk 0 0)) (((cond (decide (p2.R ≥ p1.R)) (ref09_stop p2.V) (some default))).bind fun v2 => ((cond (decide (p2.R ≥ p1.R)) (ref09_stop p1.V) (some default))).bind fun v3 => cond ((decide (p2.R ≥ p1.R)) && (decide ((w64 (p2.R + v2)) ≥ (w64 (p1.R + v3))))) (some p2) (some p1))

theorem ref09_Better_ok (p1 : Guess) (p2 : Guess) (r : Guess) (h : ref09_Better p1 p2 = some r) : PCall Tryz.prog 87 [(.agg [(i64 p1.R), (i64 p1.V)]), (.agg [(i64 p2.R), (i64 p2.V)])] (.agg [(i64 r.R), (i64 r.V)]) := by
 refine l_call (fk Tryz.func87 Tryz.ntmps87 (fun r => if r == 1 then [1008] else []) (by with_unfolding_all rfl)) (nl rfl) ?_
 unfold ref09_Better at h
 refine l_sub (s0 := ⟨T [(0, (.d _)), (1, (.d _))], G []⟩) (sbr rfl rfl) ?_
 refine lr (fun u1 hu1 => sn rfl rfl (sn rfl rfl (sn rfl rfl (s_nil (l_seq (lr (fun u2 hu2 => sp rfl rfl (sl rfl (gq rfl) rfl (sp rfl rfl (sl rfl (gq rfl) rfl (sp rfl rfl (sl rfl (gq rfl) rfl (sp rfl rfl (sl rfl (gq rfl) rfl (s_val (dl eInt_i64 [p1.R, p1.V, p2.R, p2.V]) rfl rfl (bs h fun v1 hv1 h => s_call rfl rfl all2_refl (ref09_sane_ok _  _ hv1) (.inl rfl) (s_val (.d (bo (!v1))) rfl rfl (s_nil (cc rfl h (fun c1 h => ?_) (fun c1 h => ?_))))))))))))))))))))
 refine lr (fun u3 hu3 => sv rfl (sst rfl G_hit [(di 0), (di 0)] rfl (s_nil (l_ret ?_))))
 cases h
 exact fin_ok (.inr rfl) (resD1 (res_cellG rfl G_hit (nl rfl) rfl) rf_d) (.refl _)
 refine l_skip (l_seq (l_seq (l_draw rfl fun u4 hu4 => sp rfl rfl (sl rfl (gq rfl) rfl (sp rfl rfl (sl rfl (gq rfl) rfl (sv rfl (sv rfl (gp rfl (gw_t rfl) (fun _ => rfl) (gt rfl (vl rfl (gq rfl) rfl) (gp rfl (gw_t rfl) (fun _ => rfl) (gt rfl (vl rfl (gq rfl) rfl) (bs h fun v2 hv2 h => ?_)))))))))))))
 refine g_call _ (i64 v2) (gw_t rfl) (fun w5 => ⟨_, [(di p2.V)], _, _, (by simp only [gd_pos w5]; rfl), rfl, all2_refl, ref09_stop_ok _  _ (cond_t w5 hv2), (.inl rfl)⟩) ?_
 refine gt rfl (fun w6 => (v_bin (gd_pos w6) (gd_pos w6) rfl)) (gp rfl (gw_t rfl) (fun _ => rfl) (gt rfl (vl rfl (gq rfl) rfl) (gp rfl (gw_t rfl) (fun _ => rfl) (gt rfl (vl rfl (gq rfl) rfl) (bs h fun v3 hv3 h => ?_)))))
 refine g_call _ (i64 v3) (gw_t rfl) (fun w11 => ⟨_, [(di p1.V)], _, _, (by simp only [gd_pos w11]; rfl), rfl, all2_refl, ref09_stop_ok _  _ (cond_t w11 hv3), (.inl rfl)⟩) ?_
 refine gt rfl (fun w12 => (v_bin (gd_pos w12) (gd_pos w12) rfl)) (gt rfl (fun w13 => (v_bin (gd_pos w13) (gd_pos w13) rfl)) (sa rfl rfl rfl (s_nil (cc rfl h (fun c2 h => ?_) (fun c2 h => ?_)))))
 refine l_seq (l_sub (s0 := ⟨T [(3, (.ptr _ _)), (4, (.ptr _ _))], G [((3, u1), some (.box 28 _)), ((4, u1), some (.box 28 _))]⟩) (sbr rfl rfl) ?_)
 refine l_reg fun u5 hu5 => sd rfl (v_loadG rfl G_hit rfl rfl) (sst rfl (gq rfl) [(di p2.R), (di p2.V)] rfl (s_nil (l_ret ?_)))
 cases h
 exact fin_ok (.inr rfl) (resD1 (res_cellG rfl G_hit (nl rfl) rfl) rf_d) (.refl _)
 refine l_skip (l_seq (l_sub (s0 := ⟨T [(2, (.ptr _ _)), (4, (.ptr _ _))], G [((2, u1), some (.box 28 _)), ((4, u1), some (.box 28 _))]⟩) (sbr rfl rfl) ?_))
 refine l_reg fun u6 hu6 => sd rfl (v_loadG rfl G_hit rfl rfl) (sst rfl (gq rfl) [(di p1.R), (di p1.V)] rfl (s_nil (l_ret ?_)))
 cases h
 exact fin_ok (.inr rfl) (resD1 (res_cellG rfl G_hit (nl rfl) rfl) rf_d) (.refl _)

noncomputable def ref09_nearer (p1 : Guest) (p2 : Int) (p3 : Guess) : Option Guest :=
  cond (p1.Ahead == 0) (some (Guest.mk p1.ID p1.S p1.V p1.Len p1.End p2 p3 p1.From p1.Until)) ((ref09_Better p1.Guess_ p3).bind fun v1 => some (Guest.mk p1.ID p1.S p1.V p1.Len p1.End p1.Ahead v1 p1.From p1.Until))

theorem ref09_nearer_ok (p1 : Guest) (p2 : Int) (p3 : Guess) (r : Guest) (h : ref09_nearer p1 p2 p3 = some r) : PCall Tryz.prog 80 [(.agg (eGuest p1)), (i64 p2), (.agg [(i64 p3.R), (i64 p3.V)])] (.agg (eGuest r)) := by
 refine l_call (fk Tryz.func80 Tryz.ntmps80 m0 (by with_unfolding_all rfl)) (nl rfl) ?_
 unfold ref09_nearer at h
 refine l_sub (s0 := ⟨T [(0, (.d _)), (1, (.d _)), (2, (.d _))], G []⟩) (sbr rfl rfl) ?_
 refine lr (fun u1 hu1 => sn rfl rfl (sn rfl rfl (sn rfl rfl (s_nil (l_seq (lr (fun u2 hu2 => sp rfl rfl (sl rfl (gq rfl) rfl (sv rfl (s_nil (cc rfl h (fun c1 h => ?_) (fun c1 h => ?_))))))))))))
 refine l_drawT fun u3 hu3 => t_val (.d _) rfl rfl (t_val (.d _) rfl (v_loadG rfl (gq rfl) rfl rfl) (t_val (.ptr _ _) rfl rfl (t_store _ _ _ _ _ rfl rfl rfl (gq rfl) (nl rfl) ((dGuest p1).set 5 (di p2)) rfl (t_val (.ptr _ _) rfl rfl (t_store _ _ _ _ _ rfl rfl rfl G_hit (nl rfl) ((((dGuest p1).set 5 (di p2)).set 6 (di p3.R)).set 7 (di p3.V)) rfl (t_nil ⟨rfl, ?_⟩))))))
 refine lr (fun u4 hu4 => sd rfl (v_loadG rfl G_hit rfl rfl) (sst rfl (gq rfl) ((((dGuest p1).set 5 (di p2)).set 6 (di p3.R)).set 7 (di p3.V)) rfl (s_nil (l_ret ?_))))
 cases h
 exact fin_ok (.inr rfl) (resD1 (res_cellG rfl G_hit (nl rfl) rfl) rf_d) (.refl _)
 refine l_reg fun u5 hu5 => sp rfl rfl (sd rfl (v_loadG rfl (gq rfl) rfl rfl) (sd rfl (v_loadG rfl (gq rfl) rfl rfl) (bs h fun v1 hv1 h => s_call rfl rfl all2_refl (ref09_Better_ok _ _  _ hv1) (.inl rfl) (sp rfl rfl (sst rfl (gq rfl) (((dGuest p1).set 6 (di v1.R)).set 7 (di v1.V)) rfl (s_nil (lr (fun u6 hu6 => sd rfl (v_loadG rfl G_hit rfl rfl) (sst rfl (gq rfl) (((dGuest p1).set 6 (di v1.R)).set 7 (di v1.V)) rfl (s_nil (l_ret ?_)))))))))))
 cases h
 exact fin_ok (.inr rfl) (resD1 (res_cellG rfl G_hit (nl rfl) rfl) rf_d) (.refl _)

noncomputable def ref09_sight_l1 (p1 : (List Sight)) (p2 : Int) (x1 : Int) : Option (Stp Int (Sum Unit (Sight × Bool))) :=
  cond (decide (x1 < (p1.length : Int))) ((geti p1 x1).bind fun v1 => cond (((((((v1.By == p2) && (decide (v1.Lo ≤ v1.Hi))) && (decide (v1.VLo ≤ v1.VHi))) && (decide (v1.Lo ≥ (-20000)))) && (decide (v1.Hi ≤ 2199023255552))) && (decide (v1.VLo ≥ 0))) && (decide (v1.VHi ≤ 2000))) (some (.out (.inr (v1, true)))) (some (.go (w64 (x1 + 1))))) (some (.out (.inl ())))
noncomputable def ref09_sight (p1 : (List Sight)) (p2 : Int) : Option (Sight × Bool) :=
  thenS (loop (ref09_sight_l1 p1 p2) 0) (fun _ => some ((Sight.mk 0 0 0 0 0), false)) (fun r => some r)

theorem ref09_sight_ok (p1 : (List Sight)) (p2 : Int) (r : (Sight × Bool)) (h : ref09_sight p1 p2 = some r) : PCall Tryz.prog 82 [(.list (List.map eSight p1)), (i64 p2)] (.tup [(.agg (eSight r.1)), (bo r.2)]) := by
 refine l_call (fk Tryz.func82 Tryz.ntmps82 m0 (by with_unfolding_all rfl)) (nl rfl) ?_
 unfold ref09_sight at h
 refine l_sub (s0 := ⟨T [(0, (.d _)), (1, (.d _))], G []⟩) (sbr rfl rfl) ?_
 refine lr (fun u1 hu1 => sn rfl rfl (sv rfl (s_nil (l_seq (lr (fun u2 hu2 => sv rfl (s_nil (js h fun z1 hz1 h => l_join (fun s => ∃ (y1 : Unit) (g1 : Unit), z1 = .inl y1 ∧ Sb ⟨T [(4, (.ptr (4, u1) 0))], G [((4, u1), some (.box 46 (zs 5)))]⟩ s) ?_ ?_))))))))
 refine l_block (l_loop (ref09_sight_l1 p1 p2) (fun (x1 : Int) (g2 : Unit) => ⟨T [(0, (dl eSight p1)), (1, (di p2)), (4, (.ptr (4, u1) 0)), (6, (di x1))], G [((4, u1), some (.box 46 (zs 5)))]⟩) 0 () _ hz1 (sbr rfl rfl) ?_)
 intro x1 g2 z2 hz2 ez2
 unfold ref09_sight_l1 at hz2
 refine l_seq (lr (fun u3 hu3 => sv rfl (sv rfl (sd rfl (v_len rfl) (sv rfl (s_nil (cc rfl hz2 (fun c1 hz2 => ?_) (fun c1 hz2 => ?_))))))))
 refine l_skip (l_seq (l_block (lr (fun u4 hu4 => sv rfl (sv rfl (bs hz2 fun v1 hv1 hz2 => sd rfl (v_idx rfl rfl hv1 rfl) (sd rfl (v_loadLG rfl hv1 rfl rfl) (sn rfl rfl (sst rfl G_hit (dSight v1) rfl (s_nil (lr (fun u5 hu5 => sp rfl rfl (sl rfl G_hit rfl (sv rfl (sv rfl (sv rfl (gp rfl (gw_t rfl) (fun _ => rfl) (gt rfl (vl rfl G_hit rfl) (gp rfl (gw_t rfl) (fun _ => rfl) (gt rfl (vl rfl G_hit rfl) (gt rfl (fun w5 => (v_bin (gd_pos w5) (gd_pos w5) rfl)) (sa rfl rfl rfl (sv rfl (gp rfl (gw_t rfl) (fun _ => rfl) (gt rfl (vl rfl G_hit rfl) (gp rfl (gw_t rfl) (fun _ => rfl) (gt rfl (vl rfl G_hit rfl) (gt rfl (fun w10 => (v_bin (gd_pos w10) (gd_pos w10) rfl)) (sa rfl rfl rfl (sv rfl (gp rfl (gw_t rfl) (fun _ => rfl) (gt rfl (vl rfl G_hit rfl) (gt rfl (vb rfl rfl rfl) (sa rfl rfl rfl (sv rfl (gp rfl (gw_t rfl) (fun _ => rfl) (gt rfl (vl rfl G_hit rfl) (gt rfl (vb rfl rfl rfl) (sa rfl rfl rfl (sv rfl (gp rfl (gw_t rfl) (fun _ => rfl) (gt rfl (vl rfl G_hit rfl) (gt rfl (vb rfl rfl rfl) (sa rfl rfl rfl (sv rfl (gp rfl (gw_t rfl) (fun _ => rfl) (gt rfl (vl rfl G_hit rfl) (gt rfl (vb rfl rfl rfl) (sa rfl rfl rfl (s_nil (cc rfl hz2 (fun c2 hz2 => ?_) (fun c2 hz2 => ?_))))))))))))))))))))))))))))))))))))))))))))))))))))
 refine l_seq (l_sub (s0 := ⟨T [(4, (.ptr _ _)), (7, (.ptr _ _))], G [((4, u1), some (.box 46 _)), ((7, u4), some (.box 46 _))]⟩) (sbr rfl rfl) ?_)
 refine l_reg fun u6 hu6 => sd rfl (v_loadG rfl (gq rfl) rfl rfl) (sst rfl G_hit (dSight v1) rfl (sv rfl (s_nil (l_ret ?_))))
 cases hz2
 obtain rfl := ez2 _ rfl
 refine ⟨nofun, awl_ret ?_⟩
 rw [Sum.elim_inr] at h
 cases h
 exact fin_ok (.inr rfl) (resD2 (res_cellG rfl G_hit (nl rfl) rfl) (res_t rfl) rf_d rf_d) (.refl _)
 refine l_skip (l_end (l_sub (s0 := ⟨T [(0, (.d _)), (1, (.d _)), (4, (.ptr _ _)), (6, (.d _))], G [((4, u1), some (.box 46 _))]⟩) (sbr rfl rfl) ?_))
 refine l_reg fun u7 hu7 => sv rfl (sv rfl (sv rfl (s_nil (l_nil ?_))))
 cases hz2
 exact ⟨rfl, (), (sbr rfl rfl)⟩
 refine l_exitN rfl ?_
 cases hz2
 obtain rfl := ez2 _ rfl
 refine ⟨nofun, awl_pop rfl (l_j ?_)⟩
 exact ⟨_, (), rfl, (sbr rfl rfl)⟩
 rintro _ ⟨y1, g1, rfl, q1⟩
 rw [Sum.elim_inl] at h
 refine l_sub q1 (lr (fun u8 hu8 => sv rfl (sst rfl G_hit (zs 5) rfl (sv rfl (s_nil (l_ret ?_))))))
 cases h
 exact fin_ok (.inr rfl) (resD2 (res_cellG rfl G_hit (nl rfl) rfl) (res_t rfl) rf_d rf_d) (.refl _)

noncomputable def ref09_learns_l1 (p1 : Convoy) (p2 : (List Note)) (y1 : Int) (y2 : Int) (x1 : (Int × Guest)) : Option (Stp (Int × Guest) Guest) :=
  cond (decide (x1.1 < (p2.length : Int))) (((geti p2 x1.1).bind fun v4 => (ref09_counts v4 p1.Tick).bind fun v5 => cond (!v5) (some x1.2) ((cond (((v4.Kind == 1) && (y1 != 0)) && (v4.From == y1)) ((ref09_aged v4 p1.Tick).bind fun v6 => (ref09_nearer x1.2 y1 v6).bind fun v7 => some v7) (some x1.2)).bind fun y6 => cond (((((v4.Kind == 3) && (v4.To == y6.ID)) && (y2 != 0)) && (v4.From == y2)) && (decide (v4.Until ≥ p1.Tick))) (some (Guest.mk y6.ID y6.S y6.V y6.Len y6.End y6.Ahead y6.Guess_ y2 v4.Until)) (some y6))).bind fun y5 => some (.go ((w64 (x1.1 + 1)), y5))) (some (.out x1.2))
noncomputable def ref09_learns (p1 : Convoy) (p2 : (List Note)) (p3 : (List Sight)) : Option Guest :=
  (ref09_beside p1).bind fun v1 => (cond (decide (v1.1 ≥ 0)) ((geti p1.Mates v1.1).bind fun v2 => some v2.ID) (some 0)).bind fun y1 => (cond (decide (v1.2 ≥ 0)) ((geti p1.Mates v1.2).bind fun v3 => some v3.ID) (some 0)).bind fun y2 => (cond (p1.Guest_.Ahead != y1) (some (Guest.mk p1.Guest_.ID p1.Guest_.S p1.Guest_.V p1.Guest_.Len p1.Guest_.End 0 (Guess.mk 0 0) p1.Guest_.From p1.Guest_.Until)) (some p1.Guest_)).bind fun y3 => (loop (ref09_learns_l1 p1 p2 y1 y2) (0, y3)).bind fun y4 => (ref09_sight p3 y4.ID).bind fun v8 => cond (v8.2 && (y1 != 0)) ((ref09_nearer y4 y1 (Guess.mk v8.1.Lo v8.1.VLo)).bind fun v9 => some v9) (some y4)

theorem ref09_learns_ok (p1 : Convoy) (p2 : (List Note)) (p3 : (List Sight)) (r : Guest) (h : ref09_learns p1 p2 p3 = some r) : PCall Tryz.prog 41 [(.agg (eConvoy p1)), (.list (List.map eNote p2)), (.list (List.map eSight p3))] (.agg (eGuest r)) := by
 refine l_call (fk Tryz.func41 Tryz.ntmps41 m0 (by with_unfolding_all rfl)) (nl rfl) ?_
 unfold ref09_learns at h
 refine l_sub (s0 := ⟨T [(0, (.d _)), (1, (.d _)), (2, (.d _))], G []⟩) (sbr rfl rfl) ?_
 refine lr (fun u1 hu1 => sn rfl rfl (sn rfl rfl (s_nil (lr (fun u2 hu2 => sp rfl rfl (sd rfl (v_loadG rfl (gq rfl) rfl rfl) (sn rfl rfl (sst rfl G_hit (dGuest p1.Guest_) rfl (s_nil (lr (fun u3 hu3 => sd rfl (v_loadG rfl (gq rfl) rfl rfl) (bs h fun v1 hv1 h => s_call rfl rfl all2_refl (ref09_beside_ok _  _ hv1) (.inl rfl) (sv rfl (sv rfl (sv rfl (sv rfl (sv rfl (s_nil (lr (fun u4 hu4 => sv rfl (sv rfl (s_nil (l_seq (lr (fun u5 hu5 => sv rfl (sv rfl (s_nil (bs h fun y1 hy1 h => l_join (fun s => ∃ g1 : Unit, Sb ⟨T [(1, (dl eNote p2)), (2, (dl eSight p3)), (3, (.ptr (3, u1) 0)), (6, (.ptr (6, u1) 0)), (7, (.ptr (7, u2) 0)), (9, (di v1.2)), (10, (di y1)), (11, (di 0))], G [((3, u1), some (.box 32 (dConvoy p1))), ((6, u1), some (.box 30 (zs 10))), ((7, u2), some (.box 30 (dGuest p1.Guest_)))]⟩ s) ?_ ?_))))))))))))))))))))))))))))
 refine cc rfl hy1 (fun c1 hy1 => ?_) (fun c1 hy1 => ?_)
 refine l_sub (s0 := ⟨T [(1, (.d _)), (2, (.d _)), (3, (.ptr _ _)), (6, (.ptr _ _)), (7, (.ptr _ _)), (8, (.d _)), (9, (.d _)), (11, (.d _))], G [((3, u1), some (.box 32 _)), ((6, u1), some (.box 30 _)), ((7, u2), some (.box 30 _))]⟩) (sbr rfl rfl) ?_
 refine l_reg fun u6 hu6 => sp rfl rfl (sl rfl G_hit rfl (sv rfl (bs hy1 fun v2 hv2 hy1 => sd rfl (v_idx rfl rfl hv2 rfl) (sv rfl (sd rfl (v_loadL rfl hv2 rfl) (sv rfl (s_nil ?_)))))))
 cases hy1
 exact l_j ⟨(), (sbr rfl rfl)⟩
 refine l_skip ?_
 cases hy1
 exact l_j ⟨(), (sbr rfl rfl)⟩
 rintro _ ⟨g1, q1⟩
 refine l_sub q1 (l_seq (lr (fun u7 hu7 => sv rfl (sv rfl (s_nil (bs h fun y2 hy2 h => l_join (fun s => ∃ g2 : Unit, Sb ⟨T [(1, (dl eNote p2)), (2, (dl eSight p3)), (3, (.ptr (3, u1) 0)), (6, (.ptr (6, u1) 0)), (7, (.ptr (7, u2) 0)), (10, (di y1)), (11, (di y2))], G [((3, u1), some (.box 32 (dConvoy p1))), ((6, u1), some (.box 30 (zs 10))), ((7, u2), some (.box 30 (dGuest p1.Guest_)))]⟩ s) ?_ ?_))))))
 refine cc rfl hy2 (fun c2 hy2 => ?_) (fun c2 hy2 => ?_)
 refine l_reg fun u8 hu8 => sp rfl rfl (sl rfl G_hit rfl (sv rfl (bs hy2 fun v3 hv3 hy2 => sd rfl (v_idx rfl rfl hv3 rfl) (sv rfl (sd rfl (v_loadL rfl hv3 rfl) (sv rfl (s_nil ?_)))))))
 cases hy2
 exact l_j ⟨(), (sbr rfl rfl)⟩
 refine l_skip ?_
 cases hy2
 exact l_j ⟨(), (sbr rfl rfl)⟩
 rintro _ ⟨g2, q2⟩
 refine l_sub q2 (l_seq (lr (fun u9 hu9 => sp rfl rfl (sl rfl (gq rfl) rfl (sv rfl (sv rfl (s_nil (bs h fun y3 hy3 h => l_join (fun s => ∃ g3 : Unit, Sb ⟨T [(1, (dl eNote p2)), (2, (dl eSight p3)), (3, (.ptr (3, u1) 0)), (6, (.ptr (6, u1) 0)), (7, (.ptr (7, u2) 0)), (10, (di y1)), (11, (di y2))], G [((3, u1), some (.box 32 (dConvoy p1))), ((6, u1), some (.box 30 (zs 10))), ((7, u2), some (.box 30 (dGuest y3)))]⟩ s) ?_ ?_))))))))
 refine cc rfl hy3 (fun c3 hy3 => ?_) (fun c3 hy3 => ?_)
 refine l_reg fun u10 hu10 => sv rfl (sp rfl rfl (sst rfl (gq rfl) ((dGuest p1.Guest_).set 5 (di 0)) rfl (sp rfl rfl (sst rfl G_hit ((((dGuest p1.Guest_).set 5 (di 0)).set 6 (di 0)).set 7 (di 0)) rfl (s_nil ?_)))))
 cases hy3
 exact l_j ⟨(), (sbr rfl rfl)⟩
 refine l_skip ?_
 cases hy3
 exact l_j ⟨(), (sbr rfl rfl)⟩
 rintro _ ⟨g3, q3⟩
 refine l_sub q3 (l_seq (lr (fun u11 hu11 => sv rfl (s_nil (bs h fun y4 hy4 h => l_join (fun s => ∃ g4 : Unit, Sb ⟨T [(2, (dl eSight p3)), (6, (.ptr (6, u1) 0)), (7, (.ptr (7, u2) 0)), (10, (di y1))], G [((6, u1), some (.box 30 (zs 10))), ((7, u2), some (.box 30 (dGuest y4)))]⟩ s) ?_ ?_)))))
 refine l_block (l_loop (ref09_learns_l1 p1 p2 y1 y2) (fun (x1 : (Int × Guest)) (g5 : Unit) => ⟨T [(1, (dl eNote p2)), (2, (dl eSight p3)), (3, (.ptr (3, u1) 0)), (6, (.ptr (6, u1) 0)), (7, (.ptr (7, u2) 0)), (10, (di y1)), (11, (di y2)), (12, (di x1.1))], G [((3, u1), some (.box 32 (dConvoy p1))), ((6, u1), some (.box 30 (zs 10))), ((7, u2), some (.box 30 (dGuest x1.2)))]⟩) (0, y3) () _ hy4 (sbr rfl rfl) ?_)
 intro x1 g5 z1 hz1 ez1
 unfold ref09_learns_l1 at hz1
 refine l_seq (lr (fun u12 hu12 => sv rfl (sv rfl (sd rfl (v_len rfl) (sv rfl (s_nil (cc rfl hz1 (fun c4 hz1 => ?_) (fun c4 hz1 => ?_))))))))
 refine l_skip (l_seq (bs hz1 fun y5 hy5 hz1 => l_join (fun s => ∃ g6 : Unit, Sb ⟨T [(1, (dl eNote p2)), (2, (dl eSight p3)), (3, (.ptr (3, u1) 0)), (6, (.ptr (6, u1) 0)), (7, (.ptr (7, u2) 0)), (10, (di y1)), (11, (di y2)), (12, (di x1.1))], G [((3, u1), some (.box 32 (dConvoy p1))), ((6, u1), some (.box 30 (zs 10))), ((7, u2), some (.box 30 (dGuest y5)))]⟩ s) ?_ ?_))
 refine l_block (lr (fun u13 hu13 => sv rfl (sv rfl (bs hy5 fun v4 hv4 hy5 => sd rfl (v_idx rfl rfl hv4 rfl) (sd rfl (v_loadLG rfl hv4 rfl rfl) (sn rfl rfl (sst rfl G_hit (dNote v4) rfl (s_nil (l_seq (lr (fun u14 hu14 => sd rfl (v_loadG rfl G_hit rfl rfl) (sp rfl rfl (sl rfl (gq rfl) rfl (bs hy5 fun v5 hv5 hy5 => s_call rfl rfl all2_refl (ref09_counts_ok _ _  _ hv5) (.inl rfl) (s_val (.d (bo (!v5))) rfl rfl (s_nil (cc rfl hy5 (fun c5 hy5 => ?_) (fun c5 hy5 => ?_))))))))))))))))))
 refine l_exit rfl ?_
 cases hy5
 exact l_j ⟨(), (sbr rfl rfl)⟩
 refine l_skip (l_seq (l_seq (l_sub (s0 := ⟨T [(1, (.d _)), (2, (.d _)), (3, (.ptr _ _)), (6, (.ptr _ _)), (7, (.ptr _ _)), (10, (.d _)), (11, (.d _)), (12, (.d _)), (13, (.ptr _ _))], G [((3, u1), some (.box 32 _)), ((6, u1), some (.box 30 _)), ((7, u2), some (.box 30 _)), ((13, u13), some (.box 43 _))]⟩) (sbr rfl rfl) ?_)))
 refine l_reg fun u15 hu15 => sp rfl rfl (sl rfl (gq rfl) rfl (sv rfl (sv rfl (gt rfl (fun _ => rfl) (gt rfl (vb rfl rfl rfl) (sa rfl rfl rfl (sv rfl (gp rfl (gw_t rfl) (fun _ => rfl) (gt rfl (vl rfl (gq rfl) rfl) (gt rfl (fun _ => rfl) (gt rfl (fun w6 => (v_bin (gd_pos w6) (gd_pos w6) rfl)) (sa rfl rfl rfl (s_nil (bs hy5 fun y6 hy6 hy5 => l_join (fun s => ∃ g7 : Unit, Sb ⟨T [(1, (dl eNote p2)), (2, (dl eSight p3)), (3, (.ptr (3, u1) 0)), (6, (.ptr (6, u1) 0)), (7, (.ptr (7, u2) 0)), (10, (di y1)), (11, (di y2)), (12, (di x1.1)), (13, (.ptr (13, u13) 0))], G [((3, u1), some (.box 32 (dConvoy p1))), ((6, u1), some (.box 30 (zs 10))), ((7, u2), some (.box 30 (dGuest y6))), ((13, u13), some (.box 43 (dNote v4)))]⟩ s) ?_ ?_))))))))))))))
 refine cc rfl hy6 (fun c6 hy6 => ?_) (fun c6 hy6 => ?_)
 refine l_sub (s0 := ⟨T [(1, (.d _)), (2, (.d _)), (3, (.ptr _ _)), (6, (.ptr _ _)), (7, (.ptr _ _)), (10, (.d _)), (11, (.d _)), (12, (.d _)), (13, (.ptr _ _))], G [((3, u1), some (.box 32 _)), ((6, u1), some (.box 30 _)), ((7, u2), some (.box 30 _)), ((13, u13), some (.box 43 _))]⟩) (sbr rfl rfl) ?_
 refine l_draw rfl fun u16 hu16 => sd rfl (v_loadG rfl (gq rfl) rfl rfl) (sv rfl (sd rfl (v_loadG rfl (gq rfl) rfl rfl) (sp rfl rfl (sl rfl G_hit rfl (bs hy6 fun v6 hv6 hy6 => s_call rfl rfl all2_refl (ref09_aged_ok _ _  _ hv6) (.inl rfl) (bs hy6 fun v7 hv7 hy6 => s_call rfl rfl all2_refl (ref09_nearer_ok _ _ _  _ hv7) (.inl rfl) (sst rfl (gq rfl) (dGuest v7) rfl (s_nil ?_))))))))
 cases hy6
 exact l_j ⟨(), (sbr rfl rfl)⟩
 refine l_skip ?_
 cases hy6
 exact l_j ⟨(), (sbr rfl rfl)⟩
 rintro _ ⟨g7, q4⟩
 refine l_sub q4 (lr (fun u17 hu17 => sp rfl rfl (sl rfl (gq rfl) rfl (sv rfl (sv rfl (gp rfl (gw_t rfl) (fun _ => rfl) (gt rfl (vl rfl (gq rfl) rfl) (gp rfl (gw_t rfl) (fun _ => rfl) (gt rfl (vl rfl (gq rfl) rfl) (gt rfl (fun w11 => (v_bin (gd_pos w11) (gd_pos w11) rfl)) (sa rfl rfl rfl (sv rfl (gt rfl (fun _ => rfl) (gt rfl (vb rfl rfl rfl) (sa rfl rfl rfl (sv rfl (gp rfl (gw_t rfl) (fun _ => rfl) (gt rfl (vl rfl (gq rfl) rfl) (gt rfl (fun _ => rfl) (gt rfl (fun w17 => (v_bin (gd_pos w17) (gd_pos w17) rfl)) (sa rfl rfl rfl (sv rfl (gp rfl (gw_t rfl) (fun _ => rfl) (gt rfl (vl rfl (gq rfl) rfl) (gp rfl (gw_t rfl) (fun _ => rfl) (gt rfl (vl rfl G_hit rfl) (gt rfl (fun w22 => (v_bin (gd_pos w22) (gd_pos w22) rfl)) (sa rfl rfl rfl (s_nil (cc rfl hy5 (fun c7 hy5 => ?_) (fun c7 hy5 => ?_)))))))))))))))))))))))))))))))
 refine l_sub (s0 := ⟨T [(1, (.d _)), (2, (.d _)), (3, (.ptr _ _)), (6, (.ptr _ _)), (7, (.ptr _ _)), (10, (.d _)), (11, (.d _)), (12, (.d _)), (13, (.ptr _ _))], G [((3, u1), some (.box 32 _)), ((6, u1), some (.box 30 _)), ((7, u2), some (.box 30 _)), ((13, u13), some (.box 43 _))]⟩) (sbr rfl rfl) ?_
 refine l_drawT fun u18 hu18 => t_val (.d _) rfl rfl (t_val (.ptr _ _) rfl rfl (t_val (.d _) rfl (v_load rfl (gq rfl) rfl) (t_val (.ptr _ _) rfl rfl (t_store _ _ _ _ _ rfl rfl rfl (gq rfl) (nl rfl) ((dGuest y6).set 8 (di y2)) rfl (t_val (.ptr _ _) rfl rfl (t_store _ _ _ _ _ rfl rfl rfl G_hit (nl rfl) (((dGuest y6).set 8 (di y2)).set 9 (di v4.Until)) rfl (t_nil ⟨rfl, ?_⟩)))))))
 refine l_end ?_
 cases hy5
 exact l_j ⟨(), (sbr rfl rfl)⟩
 refine l_skip (l_end ?_)
 cases hy5
 exact l_j ⟨(), (sbr rfl rfl)⟩
 rintro _ ⟨g6, q5⟩
 refine l_sub q5 (l_reg fun u19 hu19 => sv rfl (sv rfl (sv rfl (s_nil (l_nil ?_)))))
 cases hz1
 exact ⟨rfl, (), (sbr rfl rfl)⟩
 refine l_exitN rfl ?_
 cases hz1
 obtain rfl := ez1 _ rfl
 refine ⟨nofun, awl_pop rfl (l_j ?_)⟩
 exact ⟨(), (sbr rfl rfl)⟩
 rintro _ ⟨g4, q6⟩
 refine l_sub q6 (lr (fun u20 hu20 => sv rfl (sp rfl rfl (sl rfl (gq rfl) rfl (bs h fun v8 hv8 h => s_call rfl rfl all2_refl (ref09_sight_ok _ _  _ hv8) (.inl rfl) (sv rfl (sv rfl (sv rfl (sn rfl rfl (sst rfl G_hit (dSight v8.1) rfl (sv rfl (s_nil (l_seq (lr (fun u21 hu21 => sv rfl (sv rfl (gt rfl (fun _ => rfl) (gt rfl (vb rfl rfl rfl) (sa rfl rfl rfl (s_nil (cc rfl h (fun c8 h => ?_) (fun c8 h => ?_))))))))))))))))))))))
 refine l_reg fun u22 hu22 => sd rfl (v_loadG rfl (gq rfl) rfl rfl) (sv rfl (sp rfl rfl (sl rfl G_hit rfl (sp rfl rfl (sl rfl G_hit rfl (sv rfl (bs h fun v9 hv9 h => s_call rfl rfl all2_refl (ref09_nearer_ok _ _ _  _ hv9) (.inl rfl) (sst rfl (gq rfl) (dGuest v9) rfl (s_nil (l_seq (l_sub (s0 := ⟨T [(6, (.ptr _ _)), (7, (.ptr _ _))], G [((6, u1), some (.box 30 _)), ((7, u2), some (.box 30 _))]⟩) (sbr rfl rfl) ?_)))))))))))
 refine l_reg fun u23 hu23 => sd rfl (v_loadG rfl (gq rfl) rfl rfl) (sst rfl G_hit (dGuest v9) rfl (s_nil (l_ret ?_)))
 cases h
 exact fin_ok (.inr rfl) (resD1 (res_cellG rfl G_hit (nl rfl) rfl) rf_d) (.refl _)
 refine l_skip (lr (fun u24 hu24 => sd rfl (v_loadG rfl (gq rfl) rfl rfl) (sst rfl (gq rfl) (dGuest y4) rfl (s_nil (l_ret ?_)))))
 cases h
 exact fin_ok (.inr rfl) (resD1 (res_cellG rfl G_hit (nl rfl) rfl) rf_d) (.refl _)

noncomputable def ref09_merges (p1 : Convoy) (p2 : Guest) : Option Bool :=
  (ref09_beside p1).bind fun v1 => ((cond (decide (v1.1 ≥ 0)) (geti p1.Mates v1.1) (some default))).bind fun v2 => ((cond ((decide (v1.1 ≥ 0)) && (!(p2.Ahead != v2.ID))) (ref09_Safe p2.S p2.V p1.Gap p2.Guess_) (some default))).bind fun v3 => cond ((decide (v1.1 ≥ 0)) && ((p2.Ahead != v2.ID) || (!v3))) (some false) (((cond (!(decide (v1.2 < 0))) (geti p1.Mates v1.2) (some default))).bind fun v4 => some ((decide (v1.2 < 0)) || ((p2.From == v4.ID) && (decide (p1.Tick ≤ p2.Until)))))

theorem ref09_merges_ok (p1 : Convoy) (p2 : Guest) (r : Bool) (h : ref09_merges p1 p2 = some r) : PCall Tryz.prog 42 [(.agg (eConvoy p1)), (.agg (eGuest p2))] (bo r) := by
 refine l_call (fk Tryz.func42 Tryz.ntmps42 m0 (by with_unfolding_all rfl)) (nl rfl) ?_
 unfold ref09_merges at h
 refine l_sub (s0 := ⟨T [(0, (.d _)), (1, (.d _))], G []⟩) (sbr rfl rfl) ?_
 refine lr (fun u1 hu1 => sn rfl rfl (sn rfl rfl (sv rfl (s_nil (lr (fun u2 hu2 => sd rfl (v_loadG rfl (gq rfl) rfl rfl) (bs h fun v1 hv1 h => s_call rfl rfl all2_refl (ref09_beside_ok _  _ hv1) (.inl rfl) (sv rfl (sv rfl (sv rfl (sv rfl (sv rfl (s_nil (l_seq (l_seq (l_draw rfl fun u3 hu3 => sv rfl (sv rfl (sv rfl (gp rfl (gw_t rfl) (fun _ => rfl) (gt rfl (vl rfl G_hit rfl) (gp rfl (gw_t rfl) (fun _ => rfl) (gt rfl (vl rfl (gq rfl) rfl) (gt rfl (fun _ => rfl) (bs h fun v2 hv2 h => gt rfl (fun w6 => (v_idx (gd_pos w6) (gd_pos w6) (cond_t w6 hv2) rfl)) ?_))))))))))))))))))))))))
 refine gt rfl (fun w7 => (by simp only [gd_pos w7]; rfl)) ?_
 refine gt rfl (fun w8 => (v_loadL (gd_pos w8) (cond_t w8 hv2) rfl)) (gt rfl (fun w9 => (v_bin (gd_pos w9) (gd_pos w9) rfl)) (gt rfl (fun w10 => (v_mv (gd_pos w10))) (g_val _ (.ptr _ _) rfl (gw_gf rfl) (fun _ => rfl) (gv rfl (gw_gf rfl) (vl rfl G_hit rfl) (g_val _ (.ptr _ _) rfl (gw_gf rfl) (fun _ => rfl) (gv rfl (gw_gf rfl) (vl rfl G_hit rfl) (g_val _ (.ptr _ _) rfl (gw_gf rfl) (fun _ => rfl) (gv rfl (gw_gf rfl) (vl rfl (gq rfl) rfl) (g_val _ (.ptr _ _) rfl (gw_gf rfl) (fun _ => rfl) (gv rfl (gw_gf rfl) (fun w18 => (v_loadG (gd_pos w18) G_hit rfl rfl)) (bs h fun v3 hv3 h => ?_)))))))))))
 refine g_call _ (bo v3) (gw_gf rfl) (fun w19 => ⟨_, [(di p2.S), (di p2.V), (di p1.Gap), (.d (.agg [(i64 p2.Guess_.R), (i64 p2.Guess_.V)]))], _, _, (by simp only [gd_pos w19]; rfl), rfl, all2_refl, ref09_Safe_ok _ _ _ _  _ (cond_t w19 hv3), (.inl rfl)⟩) ?_
 refine g_val _ (.d (bo (!v3))) rfl (gw_gf rfl) (fun w20 => (by simp only [gd_pos w20]; rfl)) ?_
 refine gt rfl (fun w21 => (v_or (gd_pos w21) rfl (fun hc => gd_pos (and_i w21 (not_t hc))))) (sa rfl rfl rfl (s_nil (cc rfl h (fun c1 h => ?_) (fun c1 h => ?_))))
 refine l_seq (l_sub (s0 := ⟨T [], G []⟩) (sbr rfl rfl) ?_)
 refine l_reg fun u4 hu4 => sv rfl (s_nil (l_ret ?_))
 cases h
 exact fin_ok (.inr rfl) (resD1 (res_t rfl) rf_d) (.refl _)
 refine l_skip (l_seq (l_sub (s0 := ⟨T [(2, (.ptr _ _)), (3, (.ptr _ _)), (6, (.d _))], G [((2, u1), some (.box 32 _)), ((3, u1), some (.box 30 _))]⟩) (sbr rfl rfl) ?_))
 refine l_draw rfl fun u5 hu5 => sv rfl (sv rfl (sv rfl (gp rfl (gw_f rfl) (fun _ => rfl) (gf rfl (vl rfl (gq rfl) rfl) (gp rfl (gw_f rfl) (fun _ => rfl) (gf rfl (vl rfl G_hit rfl) (gf rfl (fun _ => rfl) (bs h fun v4 hv4 h => gf rfl (fun w27 => (v_idx (gd_pos w27) (gd_pos w27) (cond_t w27 hv4) rfl)) ?_))))))))
 refine gf rfl (fun w28 => (by simp only [gd_pos w28]; rfl)) ?_
 refine gf rfl (fun w29 => (v_loadL (gd_pos w29) (cond_t w29 hv4) rfl)) (gf rfl (fun w30 => (v_bin (gd_pos w30) (gd_pos w30) rfl)) (gf rfl (fun w31 => (v_mv (gd_pos w31))) (g_val _ (.ptr _ _) rfl (gw_gt rfl) (fun _ => rfl) (gv rfl (gw_gt rfl) (vl rfl G_hit rfl) (g_val _ (.ptr _ _) rfl (gw_gt rfl) (fun _ => rfl) (gv rfl (gw_gt rfl) (vl rfl (gq rfl) rfl) (gv rfl (gw_gt rfl) (fun w36 => (v_bin (gd_pos w36) (gd_pos w36) rfl)) (gf rfl (fun w37 => (v_and (gd_pos w37) (fun hc => gd_pos (and_i w37 hc)) rfl)) (sd rfl (v_or rfl rfl (fun hc => gd_pos (not_t hc))) (sv rfl (s_nil (l_ret ?_))))))))))))
 cases h
 exact fin_ok (.inr rfl) (resD1 (res_t rfl) rf_d) (.refl _)

noncomputable def ref09_hears (p1 : Mate) (p2 : Note) (p3 : Sight) (p4 : Bool) (p5 : Int) : Option Mate :=
  (ref09_aged p2 p5).bind fun v1 => (cond (((p2.Kind == 1) && (p1.Until != 0)) && (p2.From == p1.Ward)) ((ref09_Better p1.WardGuess v1).bind fun v2 => some (Mate.mk p1.ID p1.S p1.V p1.Len p1.Ahead p1.Guess_ p1.Trust p1.Ward v2 p1.Until)) (some p1)).bind fun y1 => (cond (((p2.Kind == 1) && (y1.Ahead != 0)) && (p2.From == y1.Ahead)) (((cond (p4 && (p2.Stamp == p5)) (ref09_between p2.R p3.Lo p3.Hi) (some default))).bind fun v3 => ((cond ((p4 && (p2.Stamp == p5)) && (!(!v3))) (ref09_between p2.V p3.VLo p3.VHi) (some default))).bind fun v4 => (cond ((p4 && (p2.Stamp == p5)) && ((!v3) || (!v4))) (some (Mate.mk y1.ID y1.S y1.V y1.Len y1.Ahead y1.Guess_ false y1.Ward y1.WardGuess y1.Until)) (some y1)).bind fun y3 => cond ((!p4) && y3.Trust) ((ref09_Better y3.Guess_ v1).bind fun v5 => some (Mate.mk y3.ID y3.S y3.V y3.Len y3.Ahead v5 y3.Trust y3.Ward y3.WardGuess y3.Until)) (some y3)) (cond ((p2.Kind == 2) && (p2.To == y1.ID)) (cond ((y1.Ward == 0) || (((p2.From == y1.Ward) && (y1.Until != 0)) && (decide (p2.Stamp > y1.Until)))) (some (Mate.mk y1.ID y1.S y1.V y1.Len y1.Ahead y1.Guess_ y1.Trust p2.From v1 0)) (cond (p2.From == y1.Ward) ((ref09_Better y1.WardGuess v1).bind fun v6 => some (Mate.mk y1.ID y1.S y1.V y1.Len y1.Ahead y1.Guess_ y1.Trust y1.Ward v6 y1.Until)) (some y1))) (cond ((((p2.Kind == 4) && (p2.To == y1.ID)) && (y1.Until != 0)) && (p2.From == y1.Ward)) (cond (!p4) ((ref09_Better y1.WardGuess v1).bind fun v7 => some (Mate.mk y1.ID y1.S y1.V y1.Len y1.Ward v7 true 0 (Guess.mk 0 0) 0)) (some (Mate.mk y1.ID y1.S y1.V y1.Len y1.Ward y1.WardGuess true 0 (Guess.mk 0 0) 0))) (some y1)))).bind fun y2 => some y2

theorem ref09_hears_ok (p1 : Mate) (p2 : Note) (p3 : Sight) (p4 : Bool) (p5 : Int) (r : Mate) (h : ref09_hears p1 p2 p3 p4 p5 = some r) : PCall Tryz.prog 86 [(.agg (eMate p1)), (.agg (eNote p2)), (.agg (eSight p3)), (bo p4), (i64 p5)] (.agg (eMate r)) := by
 refine l_call (fk Tryz.func86 Tryz.ntmps86 m0 (by with_unfolding_all rfl)) (nl rfl) ?_
 unfold ref09_hears at h
 refine l_sub (s0 := ⟨T [(0, (.d _)), (1, (.d _)), (2, (.d _)), (3, (.d _)), (4, (.d _))], G []⟩) (sbr rfl rfl) ?_
 refine lr (fun u1 hu1 => sn rfl rfl (sn rfl rfl (sn rfl rfl (sn rfl rfl (s_nil (lr (fun u2 hu2 => sd rfl (v_loadG rfl (gq rfl) rfl rfl) (sv rfl (bs h fun v1 hv1 h => s_call rfl rfl all2_refl (ref09_aged_ok _ _  _ hv1) (.inl rfl) (sn rfl rfl (sst rfl G_hit [(di v1.R), (di v1.V)] rfl (s_nil (l_seq (lr (fun u3 hu3 => sp rfl rfl (sl rfl (gq rfl) rfl (sv rfl (sv rfl (gp rfl (gw_t rfl) (fun _ => rfl) (gt rfl (vl rfl (gq rfl) rfl) (gt rfl (vb rfl rfl rfl) (sa rfl rfl rfl (sv rfl (gp rfl (gw_t rfl) (fun _ => rfl) (gt rfl (vl rfl (gq rfl) rfl) (gp rfl (gw_t rfl) (fun _ => rfl) (gt rfl (vl rfl (gq rfl) rfl) (gt rfl (fun w8 => (v_bin (gd_pos w8) (gd_pos w8) rfl)) (sa rfl rfl rfl (s_nil (bs h fun y1 hy1 h => l_join (fun s => ∃ g1 : Unit, Sb ⟨T [(3, (.d (bo p4))), (4, (di p5)), (5, (.ptr (5, u1) 0)), (6, (.ptr (6, u1) 0)), (7, (.ptr (7, u1) 0)), (10, (.ptr (10, u1) 0)), (11, (.ptr (11, u2) 0))], G [((5, u1), some (.box 51 (dMate y1))), ((6, u1), some (.box 43 (dNote p2))), ((7, u1), some (.box 46 (dSight p3))), ((10, u1), some (.box 51 ((zs 12).set 7 (.d (bo false))))), ((11, u2), some (.box 28 [(di v1.R), (di v1.V)]))]⟩ s) ?_ ?_)))))))))))))))))))))))))))))))
 refine cc rfl hy1 (fun c1 hy1 => ?_) (fun c1 hy1 => ?_)
 refine l_sub (s0 := ⟨T [(3, (.d _)), (4, (.d _)), (5, (.ptr _ _)), (6, (.ptr _ _)), (7, (.ptr _ _)), (10, (.ptr _ _)), (11, (.ptr _ _))], G [((5, u1), some (.box 51 _)), ((6, u1), some (.box 43 _)), ((7, u1), some (.box 46 _)), ((10, u1), some (.box 51 _)), ((11, u2), some (.box 28 _))]⟩) (sbr rfl rfl) ?_
 refine l_reg fun u4 hu4 => sp rfl rfl (sd rfl (v_loadG rfl G_hit rfl rfl) (sd rfl (v_loadG rfl (gq rfl) rfl rfl) (bs hy1 fun v2 hv2 hy1 => s_call rfl rfl all2_refl (ref09_Better_ok _ _  _ hv2) (.inl rfl) (sp rfl rfl (sst rfl G_hit (((dMate p1).set 9 (di v2.R)).set 10 (di v2.V)) rfl (s_nil ?_))))))
 cases hy1
 exact l_j ⟨(), (sbr rfl rfl)⟩
 refine l_skip ?_
 cases hy1
 exact l_j ⟨(), (sbr rfl rfl)⟩
 rintro _ ⟨g1, q1⟩
 refine l_sub q1 (l_seq (bs h fun y2 hy2 h => l_join (fun s => ∃ g2 : Unit, Sb ⟨T [(5, (.ptr (5, u1) 0)), (10, (.ptr (10, u1) 0))], G [((5, u1), some (.box 51 (dMate y2))), ((10, u1), some (.box 51 ((zs 12).set 7 (.d (bo false)))))]⟩ s) ?_ ?_))
 refine l_block (lr (fun u5 hu5 => sp rfl rfl (sl rfl (gq rfl) rfl (sv rfl (sv rfl (gp rfl (gw_t rfl) (fun _ => rfl) (gt rfl (vl rfl G_hit rfl) (gt rfl (vb rfl rfl rfl) (sa rfl rfl rfl (sv rfl (gp rfl (gw_t rfl) (fun _ => rfl) (gt rfl (vl rfl (gq rfl) rfl) (gp rfl (gw_t rfl) (fun _ => rfl) (gt rfl (vl rfl G_hit rfl) (gt rfl (fun w16 => (v_bin (gd_pos w16) (gd_pos w16) rfl)) (sa rfl rfl rfl (sv rfl (s_nil (cc rfl hy2 (fun c2 hy2 => ?_) (fun c2 hy2 => ?_))))))))))))))))))))
 refine l_seq (l_seq (l_sub (s0 := ⟨T [(3, (.d _)), (4, (.d _)), (5, (.ptr _ _)), (6, (.ptr _ _)), (7, (.ptr _ _)), (10, (.ptr _ _)), (11, (.ptr _ _))], G [((5, u1), some (.box 51 _)), ((6, u1), some (.box 43 _)), ((7, u1), some (.box 46 _)), ((10, u1), some (.box 51 _)), ((11, u2), some (.box 28 _))]⟩) (sbr rfl rfl) ?_))
 refine l_reg fun u6 hu6 => sv rfl (sv rfl (gp rfl (gw_t rfl) (fun _ => rfl) (gt rfl (vl rfl (gq rfl) rfl) (gt rfl (fun _ => rfl) (gt rfl (fun w20 => (v_bin (gd_pos w20) (gd_pos w20) rfl)) (sa rfl rfl rfl (sv rfl (gp rfl (gw_t rfl) (fun _ => rfl) (gt rfl (vl rfl (gq rfl) rfl) (gp rfl (gw_t rfl) (fun _ => rfl) (gt rfl (vl rfl (gq rfl) rfl) (gp rfl (gw_t rfl) (fun _ => rfl) (gt rfl (vl rfl (gq rfl) rfl) (bs hy2 fun v3 hv3 hy2 => ?_))))))))))))))
 refine g_call _ (bo v3) (gw_t rfl) (fun w27 => ⟨_, [(di p2.R), (di p3.Lo), (di p3.Hi)], _, _, (by simp only [gd_pos w27]; rfl), rfl, all2_refl, ref09_between_ok _ _ _  _ (cond_t w27 hv3), (.inl rfl)⟩) ?_
 refine g_val _ (.d (bo (!v3))) rfl (gw_t rfl) (fun w28 => (by simp only [gd_pos w28]; rfl)) ?_
 refine gt rfl (fun w29 => (v_mv (gd_pos w29))) (g_val _ (.ptr _ _) rfl (gw_gf rfl) (fun _ => rfl) (gv rfl (gw_gf rfl) (vl rfl (gq rfl) rfl) (g_val _ (.ptr _ _) rfl (gw_gf rfl) (fun _ => rfl) (gv rfl (gw_gf rfl) (vl rfl (gq rfl) rfl) (g_val _ (.ptr _ _) rfl (gw_gf rfl) (fun _ => rfl) (gv rfl (gw_gf rfl) (vl rfl (gq rfl) rfl) (bs hy2 fun v4 hv4 hy2 => ?_)))))))
 refine g_call _ (bo v4) (gw_gf rfl) (fun w36 => ⟨_, [(di p2.V), (di p3.VLo), (di p3.VHi)], _, _, (by simp only [gd_pos w36]; rfl), rfl, all2_refl, ref09_between_ok _ _ _  _ (cond_t w36 hv4), (.inl rfl)⟩) ?_
 refine g_val _ (.d (bo (!v4))) rfl (gw_gf rfl) (fun w37 => (by simp only [gd_pos w37]; rfl)) ?_
 refine gt rfl (fun w38 => (v_or (gd_pos w38) rfl (fun hc => gd_pos (and_i w38 (not_t hc))))) (sa rfl rfl rfl (s_nil (bs hy2 fun y3 hy3 hy2 => l_join (fun s => ∃ g3 : Unit, Sb ⟨T [(3, (.d (bo p4))), (5, (.ptr (5, u1) 0)), (10, (.ptr (10, u1) 0)), (11, (.ptr (11, u2) 0))], G [((5, u1), some (.box 51 (dMate y3))), ((10, u1), some (.box 51 ((zs 12).set 7 (.d (bo false))))), ((11, u2), some (.box 28 [(di v1.R), (di v1.V)]))]⟩ s) ?_ ?_)))
 refine cc rfl hy3 (fun c3 hy3 => ?_) (fun c3 hy3 => ?_)
 refine l_sub (s0 := ⟨T [(3, (.d _)), (5, (.ptr _ _)), (10, (.ptr _ _)), (11, (.ptr _ _))], G [((5, u1), some (.box 51 _)), ((10, u1), some (.box 51 _)), ((11, u2), some (.box 28 _))]⟩) (sbr rfl rfl) ?_
 refine l_reg fun u7 hu7 => sp rfl rfl (sst rfl G_hit ((dMate y1).set 7 (.d (bo false))) rfl (s_nil ?_))
 cases hy3
 exact l_j ⟨(), (sbr rfl rfl)⟩
 refine l_skip ?_
 cases hy3
 exact l_j ⟨(), (sbr rfl rfl)⟩
 rintro _ ⟨g3, q2⟩
 refine l_sub q2 (lr (fun u8 hu8 => sv rfl (s_val (.d (bo (!p4))) rfl rfl (sv rfl (gp rfl (gw_t rfl) (fun _ => rfl) (gt rfl (vl rfl G_hit rfl) (sa rfl rfl rfl (s_nil (cc rfl hy2 (fun c4 hy2 => ?_) (fun c4 hy2 => ?_))))))))))
 refine l_reg fun u9 hu9 => sp rfl rfl (sd rfl (v_loadG rfl G_hit rfl rfl) (sd rfl (v_loadG rfl (gq rfl) rfl rfl) (bs hy2 fun v5 hv5 hy2 => s_call rfl rfl all2_refl (ref09_Better_ok _ _  _ hv5) (.inl rfl) (sp rfl rfl (sst rfl G_hit (((dMate y3).set 5 (di v5.R)).set 6 (di v5.V)) rfl (s_nil (l_end ?_)))))))
 cases hy2
 exact l_j ⟨(), (sbr rfl rfl)⟩
 refine l_skip (l_end ?_)
 cases hy2
 exact l_j ⟨(), (sbr rfl rfl)⟩
 refine l_seq (l_sub (s0 := ⟨T [(3, (.d _)), (5, (.ptr _ _)), (6, (.ptr _ _)), (10, (.ptr _ _)), (11, (.ptr _ _))], G [((5, u1), some (.box 51 _)), ((6, u1), some (.box 43 _)), ((10, u1), some (.box 51 _)), ((11, u2), some (.box 28 _))]⟩) (sbr rfl rfl) ?_)
 refine l_reg fun u10 hu10 => sp rfl rfl (sl rfl (gq rfl) rfl (sv rfl (sv rfl (gp rfl (gw_t rfl) (fun _ => rfl) (gt rfl (vl rfl (gq rfl) rfl) (gp rfl (gw_t rfl) (fun _ => rfl) (gt rfl (vl rfl G_hit rfl) (gt rfl (fun w45 => (v_bin (gd_pos w45) (gd_pos w45) rfl)) (sa rfl rfl rfl (sv rfl (s_nil (cc rfl hy2 (fun c5 hy2 => ?_) (fun c5 hy2 => ?_)))))))))))))
 refine lr (fun u11 hu11 => sp rfl rfl (sl rfl G_hit rfl (sv rfl (sv rfl (gp rfl (gw_f rfl) (fun _ => rfl) (gf rfl (vl rfl (gq rfl) rfl) (gp rfl (gw_f rfl) (fun _ => rfl) (gf rfl (vl rfl G_hit rfl) (gf rfl (fun w50 => (v_bin (gd_pos w50) (gd_pos w50) rfl)) (gf rfl (fun w51 => (v_mv (gd_pos w51))) (g_val _ (.ptr _ _) rfl (gw_gt rfl) (fun _ => rfl) (gv rfl (gw_gt rfl) (vl rfl G_hit rfl) (gv rfl (gw_gt rfl) (vb rfl rfl rfl) (gf rfl (fun w55 => (v_and (gd_pos w55) (fun hc => gd_pos (and_i w55 hc)) rfl)) (gf rfl (fun w56 => (v_mv (gd_pos w56))) (g_val _ (.ptr _ _) rfl (gw_gt rfl) (fun _ => rfl) (gv rfl (gw_gt rfl) (vl rfl (gq rfl) rfl) (g_val _ (.ptr _ _) rfl (gw_gt rfl) (fun _ => rfl) (gv rfl (gw_gt rfl) (vl rfl G_hit rfl) (gv rfl (gw_gt rfl) (fun w61 => (v_bin (gd_pos w61) (gd_pos w61) rfl)) (gf rfl (fun w62 => (v_and (gd_pos w62) (fun hc => gd_pos (and_i w62 hc)) rfl)) (sd rfl (v_or rfl rfl (fun hc => gd_pos (not_t hc))) (s_nil (cc rfl hy2 (fun c6 hy2 => ?_) (fun c6 hy2 => ?_)))))))))))))))))))))))))
 refine l_sub (s0 := ⟨T [(5, (.ptr _ _)), (6, (.ptr _ _)), (10, (.ptr _ _)), (11, (.ptr _ _))], G [((5, u1), some (.box 51 _)), ((6, u1), some (.box 43 _)), ((10, u1), some (.box 51 _)), ((11, u2), some (.box 28 _))]⟩) (sbr rfl rfl) ?_
 refine l_drawT fun u12 hu12 => t_val (.ptr _ _) rfl rfl (t_val (.d _) rfl (v_load rfl (gq rfl) rfl) (t_val (.d _) rfl (v_loadG rfl (gq rfl) rfl rfl) (t_val (.ptr _ _) rfl rfl (t_store _ _ _ _ _ rfl rfl rfl G_hit (nl rfl) ((dMate y1).set 8 (di p2.From)) rfl (t_val (.ptr _ _) rfl rfl (t_store _ _ _ _ _ rfl rfl rfl G_hit (nl rfl) ((((dMate y1).set 8 (di p2.From)).set 9 (di v1.R)).set 10 (di v1.V)) rfl (t_val (.ptr _ _) rfl rfl (t_store _ _ _ _ _ rfl rfl rfl G_hit (nl rfl) (((((dMate y1).set 8 (di p2.From)).set 9 (di v1.R)).set 10 (di v1.V)).set 11 (di 0)) rfl (t_nil ⟨rfl, ?_⟩)))))))))
 refine l_end ?_
 cases hy2
 exact l_j ⟨(), (sbr rfl rfl)⟩
 refine l_seq (l_sub (s0 := ⟨T [(5, (.ptr _ _)), (6, (.ptr _ _)), (10, (.ptr _ _)), (11, (.ptr _ _))], G [((5, u1), some (.box 51 _)), ((6, u1), some (.box 43 _)), ((10, u1), some (.box 51 _)), ((11, u2), some (.box 28 _))]⟩) (sbr rfl rfl) ?_)
 refine l_reg fun u13 hu13 => sp rfl rfl (sl rfl (gq rfl) rfl (sp rfl rfl (sl rfl G_hit rfl (sv rfl (s_nil (cc rfl hy2 (fun c7 hy2 => ?_) (fun c7 hy2 => ?_)))))))
 refine l_reg fun u14 hu14 => sp rfl rfl (sd rfl (v_loadG rfl G_hit rfl rfl) (sd rfl (v_loadG rfl (gq rfl) rfl rfl) (bs hy2 fun v6 hv6 hy2 => s_call rfl rfl all2_refl (ref09_Better_ok _ _  _ hv6) (.inl rfl) (sp rfl rfl (sst rfl G_hit (((dMate y1).set 9 (di v6.R)).set 10 (di v6.V)) rfl (s_nil (l_end ?_)))))))
 cases hy2
 exact l_j ⟨(), (sbr rfl rfl)⟩
 refine l_skip (l_end ?_)
 cases hy2
 exact l_j ⟨(), (sbr rfl rfl)⟩
 refine lr (fun u15 hu15 => sp rfl rfl (sl rfl (gq rfl) rfl (sv rfl (sv rfl (gp rfl (gw_t rfl) (fun _ => rfl) (gt rfl (vl rfl (gq rfl) rfl) (gp rfl (gw_t rfl) (fun _ => rfl) (gt rfl (vl rfl G_hit rfl) (gt rfl (fun w67 => (v_bin (gd_pos w67) (gd_pos w67) rfl)) (sa rfl rfl rfl (sv rfl (gp rfl (gw_t rfl) (fun _ => rfl) (gt rfl (vl rfl G_hit rfl) (gt rfl (vb rfl rfl rfl) (sa rfl rfl rfl (sv rfl (gp rfl (gw_t rfl) (fun _ => rfl) (gt rfl (vl rfl (gq rfl) rfl) (gp rfl (gw_t rfl) (fun _ => rfl) (gt rfl (vl rfl G_hit rfl) (gt rfl (fun w75 => (v_bin (gd_pos w75) (gd_pos w75) rfl)) (sa rfl rfl rfl (sv rfl (s_nil (cc rfl hy2 (fun c8 hy2 => ?_) (fun c8 hy2 => ?_))))))))))))))))))))))))))
 refine l_seq (l_sub (s0 := ⟨T [(3, (.d _)), (5, (.ptr _ _)), (10, (.ptr _ _)), (11, (.ptr _ _))], G [((5, u1), some (.box 51 _)), ((10, u1), some (.box 51 _)), ((11, u2), some (.box 28 _))]⟩) (sbr rfl rfl) ?_)
 refine l_reg fun u16 hu16 => sp rfl rfl (sl rfl G_hit rfl (sp rfl rfl (sd rfl (v_loadG rfl G_hit rfl rfl) (sp rfl rfl (sst rfl G_hit ((dMate y1).set 4 (di y1.Ward)) rfl (sp rfl rfl (sst rfl G_hit ((((dMate y1).set 4 (di y1.Ward)).set 5 (di y1.WardGuess.R)).set 6 (di y1.WardGuess.V)) rfl (sp rfl rfl (sst rfl G_hit (((((dMate y1).set 4 (di y1.Ward)).set 5 (di y1.WardGuess.R)).set 6 (di y1.WardGuess.V)).set 7 (.d (bo true))) rfl (s_nil (l_seq (lr (fun u17 hu17 => sv rfl (s_val (.d (bo (!p4))) rfl rfl (s_nil (cc rfl hy2 (fun c9 hy2 => ?_) (fun c9 hy2 => ?_)))))))))))))))))
 refine l_reg fun u18 hu18 => sp rfl rfl (sd rfl (v_loadG rfl G_hit rfl rfl) (sd rfl (v_loadG rfl (gq rfl) rfl rfl) (bs hy2 fun v7 hv7 hy2 => s_call rfl rfl all2_refl (ref09_Better_ok _ _  _ hv7) (.inl rfl) (sp rfl rfl (sst rfl G_hit (((((dMate y1).set 4 (di y1.Ward)).set 5 (di v7.R)).set 6 (di v7.V)).set 7 (.d (bo true))) rfl (s_nil (l_sub (s0 := ⟨T [(5, (.ptr _ _)), (10, (.ptr _ _))], G [((5, u1), some (.box 51 _)), ((10, u1), some (.box 51 _))]⟩) (sbr rfl rfl) ?_)))))))
 refine l_reg fun u19 hu19 => sv rfl (sp rfl rfl (sst rfl G_hit ((((((dMate y1).set 4 (di y1.Ward)).set 5 (di v7.R)).set 6 (di v7.V)).set 7 (.d (bo true))).set 8 (di 0)) rfl (sp rfl rfl (sst rfl G_hit [(di y1.ID), (di y1.S), (di y1.V), (di y1.Len), (di y1.Ward), (di v7.R), (di v7.V), (.d (bo true)), (di 0), (di 0), (di 0), (di y1.Until)] rfl (sp rfl rfl (sst rfl G_hit ([(di y1.ID), (di y1.S), (di y1.V), (di y1.Len), (di y1.Ward), (di v7.R), (di v7.V), (.d (bo true))] ++ (zs 4)) rfl (s_nil (l_end ?_))))))))
 cases hy2
 exact l_j ⟨(), (sbr rfl rfl)⟩
 refine l_skip (l_reg fun u20 hu20 => sv rfl (sp rfl rfl (sst rfl G_hit ((((((dMate y1).set 4 (di y1.Ward)).set 5 (di y1.WardGuess.R)).set 6 (di y1.WardGuess.V)).set 7 (.d (bo true))).set 8 (di 0)) rfl (sp rfl rfl (sst rfl G_hit [(di y1.ID), (di y1.S), (di y1.V), (di y1.Len), (di y1.Ward), (di y1.WardGuess.R), (di y1.WardGuess.V), (.d (bo true)), (di 0), (di 0), (di 0), (di y1.Until)] rfl (sp rfl rfl (sst rfl G_hit ([(di y1.ID), (di y1.S), (di y1.V), (di y1.Len), (di y1.Ward), (di y1.WardGuess.R), (di y1.WardGuess.V), (.d (bo true))] ++ (zs 4)) rfl (s_nil (l_end ?_)))))))))
 cases hy2
 exact l_j ⟨(), (sbr rfl rfl)⟩
 refine l_skip (l_end ?_)
 cases hy2
 exact l_j ⟨(), (sbr rfl rfl)⟩
 rintro _ ⟨g2, q3⟩
 refine l_sub q3 (lr (fun u21 hu21 => sd rfl (v_loadG rfl G_hit rfl rfl) (sst rfl (gq rfl) (dMate y2) rfl (s_nil (l_ret ?_)))))
 cases h
 exact fin_ok (.inr rfl) (resD1 (res_cellG rfl G_hit (nl rfl) rfl) rf_d) (.refl _)

noncomputable def ref09_believes_l2 (p1 : Convoy) (p3 : (List Note)) (y1 : Mate) (x2 : (Bool × Int)) : Option (Stp (Bool × Int) Bool) :=
  cond (decide (x2.2 < (p3.length : Int))) ((geti p3 x2.2).bind fun v7 => ((cond (!x2.1) (ref09_counts v7 p1.Tick) (some default))).bind fun v8 => some (.go ((x2.1 || ((((v8 && (v7.Kind == 2)) && (v7.To == y1.ID)) && (v7.From == y1.Ward)) && (v7.From != y1.ID))), (w64 (x2.2 + 1))))) (some (.out x2.1))
noncomputable def ref09_believes_l1 (p1 : Convoy) (p3 : (List Note)) (v1 : (Sight × Bool)) (x1 : (Int × Mate)) : Option (Stp (Int × Mate) Mate) :=
  cond (decide (x1.1 < (p3.length : Int))) ((geti p3 x1.1).bind fun v2 => (ref09_counts v2 p1.Tick).bind fun v3 => ((cond v3 (geti p3 x1.1) (some default))).bind fun v4 => cond (v3 && (v4.From != x1.2.ID)) ((geti p3 x1.1).bind fun v5 => (ref09_hears x1.2 v5 v1.1 v1.2 p1.Tick).bind fun v6 => some (.go ((w64 (x1.1 + 1)), v6))) (some (.go ((w64 (x1.1 + 1)), x1.2)))) (some (.out x1.2))
noncomputable def ref09_believes (p1 : Convoy) (p2 : Mate) (p3 : (List Note)) (p4 : (List Sight)) : Option Mate :=
  (ref09_sight p4 p2.ID).bind fun v1 => (loop (ref09_believes_l1 p1 p3 v1) (0, p2)).bind fun y1 => (loop (ref09_believes_l2 p1 p3 y1) (false, 0)).bind fun y2 => (cond (((y1.Ward != 0) && (y1.Until == 0)) && (!y2)) (some (Mate.mk y1.ID y1.S y1.V y1.Len y1.Ahead y1.Guess_ y1.Trust 0 (Guess.mk 0 0) y1.Until)) (some y1)).bind fun y3 => (cond (v1.2 && (y3.Ahead != 0)) ((ref09_Better y3.Guess_ (Guess.mk v1.1.Lo v1.1.VLo)).bind fun v9 => some (Mate.mk y3.ID y3.S y3.V y3.Len y3.Ahead v9 y3.Trust y3.Ward y3.WardGuess y3.Until)) (some y3)).bind fun y4 => ((cond ((y4.Ward != 0) && (y4.Until == 0)) (ref09_Safe y4.S y4.V p1.Gap y4.WardGuess) (some default))).bind fun v10 => cond (((y4.Ward != 0) && (y4.Until == 0)) && v10) (some (Mate.mk y4.ID y4.S y4.V y4.Len y4.Ahead y4.Guess_ y4.Trust y4.Ward y4.WardGuess (w64 (p1.Tick + 30)))) (some y4)

theorem ref09_believes_ok (p1 : Convoy) (p2 : Mate) (p3 : (List Note)) (p4 : (List Sight)) (r : Mate) (h : ref09_believes p1 p2 p3 p4 = some r) : PCall Tryz.prog 44 [(.agg (eConvoy p1)), (.agg (eMate p2)), (.list (List.map eNote p3)), (.list (List.map eSight p4))] (.agg (eMate r)) := by
 refine l_call (fk Tryz.func44 Tryz.ntmps44 m0 (by with_unfolding_all rfl)) (nl rfl) ?_
 unfold ref09_believes at h
 refine l_sub (s0 := ⟨T [(0, (.d _)), (1, (.d _)), (2, (.d _)), (3, (.d _))], G []⟩) (sbr rfl rfl) ?_
 refine lr (fun u1 hu1 => sn rfl rfl (sn rfl rfl (sn rfl rfl (s_nil (lr (fun u2 hu2 => sv rfl (sp rfl rfl (sl rfl (gq rfl) rfl (bs h fun v1 hv1 h => s_call rfl rfl all2_refl (ref09_sight_ok _ _  _ hv1) (.inl rfl) (sv rfl (sv rfl (sv rfl (sn rfl rfl (sst rfl G_hit (dSight v1.1) rfl (sv rfl (s_nil (l_seq (lr (fun u3 hu3 => sv rfl (s_nil (bs h fun y1 hy1 h => l_join (fun s => ∃ g1 : Unit, Sb ⟨T [(2, (dl eNote p3)), (4, (.ptr (4, u1) 0)), (5, (.ptr (5, u1) 0)), (8, (.ptr (8, u1) 0)), (9, (.ptr (9, u2) 0)), (10, (.d (bo v1.2)))], G [((4, u1), some (.box 32 (dConvoy p1))), ((5, u1), some (.box 51 (dMate y1))), ((8, u1), some (.box 51 ((zs 12).set 7 (.d (bo false))))), ((9, u2), some (.box 46 (dSight v1.1)))]⟩ s) ?_ ?_)))))))))))))))))))))
 refine l_block (l_loop (ref09_believes_l1 p1 p3 v1) (fun (x1 : (Int × Mate)) (g2 : Unit) => ⟨T [(2, (dl eNote p3)), (4, (.ptr (4, u1) 0)), (5, (.ptr (5, u1) 0)), (8, (.ptr (8, u1) 0)), (9, (.ptr (9, u2) 0)), (10, (.d (bo v1.2))), (11, (di x1.1))], G [((4, u1), some (.box 32 (dConvoy p1))), ((5, u1), some (.box 51 (dMate x1.2))), ((8, u1), some (.box 51 ((zs 12).set 7 (.d (bo false))))), ((9, u2), some (.box 46 (dSight v1.1)))]⟩) (0, p2) () _ hy1 (sbr rfl rfl) ?_)
 intro x1 g2 z1 hz1 ez1
 unfold ref09_believes_l1 at hz1
 refine l_seq (lr (fun u4 hu4 => sv rfl (sv rfl (sd rfl (v_len rfl) (sv rfl (s_nil (cc rfl hz1 (fun c1 hz1 => ?_) (fun c1 hz1 => ?_))))))))
 refine l_skip (l_seq (l_block (l_seq (l_draw rfl fun u5 hu5 => sv rfl (sv rfl (bs hz1 fun v2 hv2 hz1 => sd rfl (v_idx rfl rfl hv2 rfl) (sd rfl (v_loadLG rfl hv2 rfl rfl) (sp rfl rfl (sl rfl G_hit rfl (bs hz1 fun v3 hv3 hz1 => s_call rfl rfl all2_refl (ref09_counts_ok _ _  _ hv3) (.inl rfl) (sv rfl (gt rfl (fun _ => rfl) (gt rfl (fun _ => rfl) (bs hz1 fun v4 hv4 hz1 => gt rfl (fun w3 => (v_idx (gd_pos w3) (gd_pos w3) (cond_t w3 hv4) rfl)) ?_))))))))))))))
 refine gt rfl (fun w4 => (by simp only [gd_pos w4]; rfl)) ?_
 refine gt rfl (fun w5 => (v_loadL (gd_pos w5) (cond_t w5 hv4) rfl)) (gp rfl (gw_t rfl) (fun _ => rfl) (gt rfl (vl rfl (gq rfl) rfl) (gt rfl (fun w8 => (v_bin (gd_pos w8) (gd_pos w8) rfl)) (sa rfl rfl rfl (s_nil (cc rfl hz1 (fun c2 hz1 => ?_) (fun c2 hz1 => ?_)))))))
 refine l_sub (s0 := ⟨T [(2, (.d _)), (4, (.ptr _ _)), (5, (.ptr _ _)), (8, (.ptr _ _)), (9, (.ptr _ _)), (10, (.d _)), (11, (.d _))], G [((4, u1), some (.box 32 _)), ((5, u1), some (.box 51 _)), ((8, u1), some (.box 51 _)), ((9, u2), some (.box 46 _))]⟩) (sbr rfl rfl) ?_
 refine l_draw rfl fun u6 hu6 => sd rfl (v_loadG rfl (gq rfl) rfl rfl) (sv rfl (sv rfl (bs hz1 fun v5 hv5 hz1 => sd rfl (v_idx rfl rfl hv5 rfl) (sd rfl (v_loadLG rfl hv5 rfl rfl) (sd rfl (v_loadG rfl (gq rfl) rfl rfl) (sv rfl (sp rfl rfl (sl rfl G_hit rfl (bs hz1 fun v6 hv6 hz1 => s_call rfl rfl all2_refl (ref09_hears_ok _ _ _ _ _  _ hv6) (.inl rfl) (sst rfl (gq rfl) (dMate v6) rfl (s_nil (l_end (l_reg fun u7 hu7 => sv rfl (sv rfl (sv rfl (s_nil (l_nil ?_)))))))))))))))))
 cases hz1
 exact ⟨rfl, (), (sbr rfl rfl)⟩
 refine l_skip (l_end (l_sub (s0 := ⟨T [(2, (.d _)), (4, (.ptr _ _)), (5, (.ptr _ _)), (8, (.ptr _ _)), (9, (.ptr _ _)), (10, (.d _)), (11, (.d _))], G [((4, u1), some (.box 32 _)), ((5, u1), some (.box 51 _)), ((8, u1), some (.box 51 _)), ((9, u2), some (.box 46 _))]⟩) (sbr rfl rfl) ?_))
 refine l_reg fun u8 hu8 => sv rfl (sv rfl (sv rfl (s_nil (l_nil ?_))))
 cases hz1
 exact ⟨rfl, (), (sbr rfl rfl)⟩
 refine l_exitN rfl ?_
 cases hz1
 obtain rfl := ez1 _ rfl
 refine ⟨nofun, awl_pop rfl (l_j ?_)⟩
 exact ⟨(), (sbr rfl rfl)⟩
 rintro _ ⟨g1, q1⟩
 refine l_sub q1 (lr (fun u9 hu9 => sv rfl (s_nil (l_seq (lr (fun u10 hu10 => sv rfl (s_nil (bs h fun y2 hy2 h => l_join (fun s => ∃ g3 : Unit, Sb ⟨T [(4, (.ptr (4, u1) 0)), (5, (.ptr (5, u1) 0)), (8, (.ptr (8, u1) 0)), (9, (.ptr (9, u2) 0)), (10, (.d (bo v1.2))), (12, (.d (bo y2)))], G [((4, u1), some (.box 32 (dConvoy p1))), ((5, u1), some (.box 51 (dMate y1))), ((8, u1), some (.box 51 ((zs 12).set 7 (.d (bo false))))), ((9, u2), some (.box 46 (dSight v1.1)))]⟩ s) ?_ ?_))))))))
 refine l_block (l_loop (ref09_believes_l2 p1 p3 y1) (fun (x2 : (Bool × Int)) (g4 : Unit) => ⟨T [(2, (dl eNote p3)), (4, (.ptr (4, u1) 0)), (5, (.ptr (5, u1) 0)), (8, (.ptr (8, u1) 0)), (9, (.ptr (9, u2) 0)), (10, (.d (bo v1.2))), (12, (.d (bo x2.1))), (13, (di x2.2))], G [((4, u1), some (.box 32 (dConvoy p1))), ((5, u1), some (.box 51 (dMate y1))), ((8, u1), some (.box 51 ((zs 12).set 7 (.d (bo false))))), ((9, u2), some (.box 46 (dSight v1.1)))]⟩) (false, 0) () _ hy2 (sbr rfl rfl) ?_)
 intro x2 g4 z2 hz2 ez2
 unfold ref09_believes_l2 at hz2
 refine l_seq (lr (fun u11 hu11 => sv rfl (sv rfl (sd rfl (v_len rfl) (sv rfl (s_nil (cc rfl hz2 (fun c3 hz2 => ?_) (fun c3 hz2 => ?_))))))))
 refine l_skip (l_seq (l_block (lr (fun u12 hu12 => sv rfl (sv rfl (bs hz2 fun v7 hv7 hz2 => sd rfl (v_idx rfl rfl hv7 rfl) (sd rfl (v_loadLG rfl hv7 rfl rfl) (sn rfl rfl (sst rfl G_hit (dNote v7) rfl (s_nil (l_sub (s0 := ⟨T [(2, (.d _)), (4, (.ptr _ _)), (5, (.ptr _ _)), (8, (.ptr _ _)), (9, (.ptr _ _)), (10, (.d _)), (12, (.d _)), (13, (.d _)), (14, (.ptr _ _))], G [((4, u1), some (.box 32 _)), ((5, u1), some (.box 51 _)), ((8, u1), some (.box 51 _)), ((9, u2), some (.box 46 _)), ((14, u12), some (.box 43 _))]⟩) (sbr rfl rfl) ?_)))))))))))
 refine l_reg fun u13 hu13 => sv rfl (sv rfl (gf rfl (fun w9 => (v_loadG rfl (gq rfl) rfl rfl)) (gp rfl (gw_f rfl) (fun _ => rfl) (gf rfl (vl rfl G_hit rfl) (bs hz2 fun v8 hv8 hz2 => ?_)))))
 refine g_call _ (bo v8) (gw_f rfl) (fun w12 => ⟨_, [(.d (.agg (eNote v7))), (di p1.Tick)], _, _, (by simp only [gd_pos w12]; rfl), rfl, all2_refl, ref09_counts_ok _ _  _ (cond_t w12 hv8), (.inl rfl)⟩) ?_
 refine gf rfl (fun w13 => (v_mv (gd_pos w13))) (g_val _ (.ptr _ _) rfl (gw_gt rfl) (fun _ => rfl) (gv rfl (gw_gt rfl) (vl rfl (gq rfl) rfl) (gv rfl (gw_gt rfl) (vb rfl rfl rfl) (gf rfl (fun w17 => (v_and (gd_pos w17) (fun hc => gd_pos (and_i w17 hc)) rfl)) (gf rfl (fun w18 => (v_mv (gd_pos w18))) (g_val _ (.ptr _ _) rfl (gw_gt rfl) (fun _ => rfl) (gv rfl (gw_gt rfl) (vl rfl (gq rfl) rfl) (g_val _ (.ptr _ _) rfl (gw_gt rfl) (fun _ => rfl) (gv rfl (gw_gt rfl) (vl rfl (gq rfl) rfl) (gv rfl (gw_gt rfl) (fun w23 => (v_bin (gd_pos w23) (gd_pos w23) rfl)) (gf rfl (fun w24 => (v_and (gd_pos w24) (fun hc => gd_pos (and_i w24 hc)) rfl)) (gf rfl (fun w25 => (v_mv (gd_pos w25))) (g_val _ (.ptr _ _) rfl (gw_gt rfl) (fun _ => rfl) (gv rfl (gw_gt rfl) (vl rfl (gq rfl) rfl) (g_val _ (.ptr _ _) rfl (gw_gt rfl) (fun _ => rfl) (gv rfl (gw_gt rfl) (vl rfl (gq rfl) rfl) (gv rfl (gw_gt rfl) (fun w30 => (v_bin (gd_pos w30) (gd_pos w30) rfl)) (gf rfl (fun w31 => (v_and (gd_pos w31) (fun hc => gd_pos (and_i w31 hc)) rfl)) (gf rfl (fun w32 => (v_mv (gd_pos w32))) (g_val _ (.ptr _ _) rfl (gw_gt rfl) (fun _ => rfl) (gv rfl (gw_gt rfl) (vl rfl (gq rfl) rfl) (g_val _ (.ptr _ _) rfl (gw_gt rfl) (fun _ => rfl) (gv rfl (gw_gt rfl) (vl rfl (gq rfl) rfl) (gv rfl (gw_gt rfl) (fun w37 => (v_bin (gd_pos w37) (gd_pos w37) rfl)) (gf rfl (fun w38 => (v_and (gd_pos w38) (fun hc => gd_pos (and_i w38 hc)) rfl)) (sd rfl (v_or rfl rfl (fun hc => gd_pos (not_t hc))) (sv rfl (s_nil (l_end (l_sub (s0 := ⟨T [(2, (.d _)), (4, (.ptr _ _)), (5, (.ptr _ _)), (8, (.ptr _ _)), (9, (.ptr _ _)), (10, (.d _)), (12, (.d _)), (13, (.d _))], G [((4, u1), some (.box 32 _)), ((5, u1), some (.box 51 _)), ((8, u1), some (.box 51 _)), ((9, u2), some (.box 46 _))]⟩) (sbr rfl rfl) ?_))))))))))))))))))))))))))))))
 refine l_reg fun u14 hu14 => sv rfl (sv rfl (sv rfl (s_nil (l_nil ?_))))
 cases hz2
 exact ⟨rfl, (), (sbr rfl rfl)⟩
 refine l_exitN rfl ?_
 cases hz2
 obtain rfl := ez2 _ rfl
 refine ⟨nofun, awl_pop rfl (l_j ?_)⟩
 exact ⟨(), (sbr rfl rfl)⟩
 rintro _ ⟨g3, q2⟩
 refine l_sub q2 (l_seq (lr (fun u15 hu15 => sp rfl rfl (sl rfl (gq rfl) rfl (sv rfl (sv rfl (gp rfl (gw_t rfl) (fun _ => rfl) (gt rfl (vl rfl (gq rfl) rfl) (gt rfl (vb rfl rfl rfl) (sa rfl rfl rfl (sv rfl (gt rfl (fun _ => rfl) ?_))))))))))))
 refine g_val _ (.d (bo (!y2))) rfl (gw_t rfl) (fun w43 => (by simp only [gd_pos w43]; rfl)) ?_
 refine sa rfl rfl rfl (s_nil (bs h fun y3 hy3 h => l_join (fun s => ∃ g5 : Unit, Sb ⟨T [(4, (.ptr (4, u1) 0)), (5, (.ptr (5, u1) 0)), (8, (.ptr (8, u1) 0)), (9, (.ptr (9, u2) 0)), (10, (.d (bo v1.2)))], G [((4, u1), some (.box 32 (dConvoy p1))), ((5, u1), some (.box 51 (dMate y3))), ((8, u1), some (.box 51 ((zs 12).set 7 (.d (bo false))))), ((9, u2), some (.box 46 (dSight v1.1)))]⟩ s) ?_ ?_))
 refine cc rfl hy3 (fun c4 hy3 => ?_) (fun c4 hy3 => ?_)
 refine l_reg fun u16 hu16 => sv rfl (sp rfl rfl (sst rfl (gq rfl) ((dMate y1).set 8 (di 0)) rfl (sp rfl rfl (sst rfl G_hit ((((dMate y1).set 8 (di 0)).set 9 (di 0)).set 10 (di 0)) rfl (s_nil ?_)))))
 cases hy3
 exact l_j ⟨(), (sbr rfl rfl)⟩
 refine l_skip ?_
 cases hy3
 exact l_j ⟨(), (sbr rfl rfl)⟩
 rintro _ ⟨g5, q3⟩
 refine l_sub q3 (l_seq (lr (fun u17 hu17 => sv rfl (sv rfl (gp rfl (gw_t rfl) (fun _ => rfl) (gt rfl (vl rfl (gq rfl) rfl) (gt rfl (vb rfl rfl rfl) (sa rfl rfl rfl (s_nil (bs h fun y4 hy4 h => l_join (fun s => ∃ g6 : Unit, Sb ⟨T [(4, (.ptr (4, u1) 0)), (5, (.ptr (5, u1) 0)), (8, (.ptr (8, u1) 0))], G [((4, u1), some (.box 32 (dConvoy p1))), ((5, u1), some (.box 51 (dMate y4))), ((8, u1), some (.box 51 ((zs 12).set 7 (.d (bo false)))))]⟩ s) ?_ ?_))))))))))
 refine cc rfl hy4 (fun c5 hy4 => ?_) (fun c5 hy4 => ?_)
 refine l_reg fun u18 hu18 => sp rfl rfl (sd rfl (v_loadG rfl (gq rfl) rfl rfl) (sp rfl rfl (sl rfl (gq rfl) rfl (sp rfl rfl (sl rfl (gq rfl) rfl (sv rfl (bs hy4 fun v9 hv9 hy4 => s_call rfl rfl all2_refl (ref09_Better_ok _ _  _ hv9) (.inl rfl) (sp rfl rfl (sst rfl (gq rfl) (((dMate y3).set 5 (di v9.R)).set 6 (di v9.V)) rfl (s_nil ?_))))))))))
 cases hy4
 exact l_j ⟨(), (sbr rfl rfl)⟩
 refine l_skip ?_
 cases hy4
 exact l_j ⟨(), (sbr rfl rfl)⟩
 rintro _ ⟨g6, q4⟩
 refine l_sub q4 (l_seq (lr (fun u19 hu19 => sp rfl rfl (sl rfl (gq rfl) rfl (sv rfl (sv rfl (gp rfl (gw_t rfl) (fun _ => rfl) (gt rfl (vl rfl (gq rfl) rfl) (gt rfl (vb rfl rfl rfl) (sa rfl rfl rfl (sv rfl (gp rfl (gw_t rfl) (fun _ => rfl) (gt rfl (vl rfl (gq rfl) rfl) (gp rfl (gw_t rfl) (fun _ => rfl) (gt rfl (vl rfl (gq rfl) rfl) (gp rfl (gw_t rfl) (fun _ => rfl) (gt rfl (vl rfl G_hit rfl) (gp rfl (gw_t rfl) (fun _ => rfl) (gt rfl (fun w57 => (v_loadG (gd_pos w57) (gq rfl) rfl rfl)) (bs h fun v10 hv10 h => ?_))))))))))))))))))))
 refine g_call _ (bo v10) (gw_t rfl) (fun w58 => ⟨_, [(di y4.S), (di y4.V), (di p1.Gap), (.d (.agg [(i64 y4.WardGuess.R), (i64 y4.WardGuess.V)]))], _, _, (by simp only [gd_pos w58]; rfl), rfl, all2_refl, ref09_Safe_ok _ _ _ _  _ (cond_t w58 hv10), (.inl rfl)⟩) ?_
 refine sa rfl rfl rfl (s_nil (cc rfl h (fun c6 h => ?_) (fun c6 h => ?_)))
 refine l_sub (s0 := ⟨T [(4, (.ptr _ _)), (5, (.ptr _ _)), (8, (.ptr _ _))], G [((4, u1), some (.box 32 _)), ((5, u1), some (.box 51 _)), ((8, u1), some (.box 51 _))]⟩) (sbr rfl rfl) ?_
 refine l_reg fun u20 hu20 => sp rfl rfl (sl rfl G_hit rfl (sv rfl (sp rfl rfl (sst rfl (gq rfl) ((dMate y4).set 11 (di (w64 (p1.Tick + 30)))) rfl (s_nil (lr (fun u21 hu21 => sd rfl (v_loadG rfl G_hit rfl rfl) (sst rfl (gq rfl) ((dMate y4).set 11 (di (w64 (p1.Tick + 30)))) rfl (s_nil (l_ret ?_))))))))))
 cases h
 exact fin_ok (.inr rfl) (resD1 (res_cellG rfl G_hit (nl rfl) rfl) rf_d) (.refl _)
 refine l_skip (l_seq (l_sub (s0 := ⟨T [(5, (.ptr _ _)), (8, (.ptr _ _))], G [((5, u1), some (.box 51 _)), ((8, u1), some (.box 51 _))]⟩) (sbr rfl rfl) ?_))
 refine l_reg fun u22 hu22 => sd rfl (v_loadG rfl G_hit rfl rfl) (sst rfl (gq rfl) (dMate y4) rfl (s_nil (l_ret ?_)))
 cases h
 exact fin_ok (.inr rfl) (resD1 (res_cellG rfl G_hit (nl rfl) rfl) rf_d) (.refl _)

noncomputable def ref09_want (p1 : (List Int)) (p2 : Int) : Option Int :=
  cond (decide (p2 < (p1.length : Int))) ((geti p1 p2).bind fun v1 => some v1) (some 0)

theorem ref09_want_ok (p1 : (List Int)) (p2 : Int) (r : Int) (h : ref09_want p1 p2 = some r) : PCall Tryz.prog 45 [(.list (List.map eInt_i64 p1)), (i64 p2)] (i64 r) := by
 refine l_call (fk Tryz.func45 Tryz.ntmps45 m0 (by with_unfolding_all rfl)) (nl rfl) ?_
 unfold ref09_want at h
 refine l_sub (s0 := ⟨T [(0, (.d _)), (1, (.d _))], G []⟩) (sbr rfl rfl) ?_
 refine lr (fun u1 hu1 => sv rfl (s_nil (l_seq (lr (fun u2 hu2 => sv rfl (sv rfl (sd rfl (v_len rfl) (sv rfl (s_nil (cc rfl h (fun c1 h => ?_) (fun c1 h => ?_)))))))))))
 refine lr (fun u3 hu3 => sv rfl (sv rfl (bs h fun v1 hv1 h => sd rfl (v_idx rfl rfl hv1 rfl) (sd rfl (v_loadL rfl hv1 rfl) (sv rfl (s_nil (l_ret ?_)))))))
 cases h
 exact fin_ok (.inr rfl) (resD1 (res_t rfl) rf_d) (.refl _)
 refine l_skip (lr (fun u4 hu4 => sv rfl (s_nil (l_ret ?_))))
 cases h
 exact fin_ok (.inr rfl) (resD1 (res_t rfl) rf_d) (.refl _)

noncomputable def ref09_moved (p1 : Int) (p2 : Int) (p3 : Int) : Option (Int × Int) :=
  some ((w64 (p1 + (mm2 true 0 (mm2 false (w64 (p2 + p3)) 2000)))), (mm2 true 0 (mm2 false (w64 (p2 + p3)) 2000)))

theorem ref09_moved_ok (p1 : Int) (p2 : Int) (p3 : Int) (r : (Int × Int)) (h : ref09_moved p1 p2 p3 = some r) : PCall Tryz.prog 84 [(i64 p1), (i64 p2), (i64 p3)] (.tup [(i64 r.1), (i64 r.2)]) := by
 refine l_call (fk Tryz.func84 Tryz.ntmps84 m0 (by with_unfolding_all rfl)) (nl rfl) ?_
 unfold ref09_moved at h
 refine l_sub (s0 := ⟨T [(0, (.d _)), (1, (.d _)), (2, (.d _))], G []⟩) (sbr rfl rfl) ?_
 refine lr (fun u1 hu1 => sv rfl (sv rfl (s_nil (lr (fun u2 hu2 => sv rfl (sv rfl (sv rfl (sv rfl (sv rfl (sv rfl (s_nil (lr (fun u3 hu3 => sv rfl (sv rfl (sv rfl (sv rfl (sv rfl (sv rfl (s_nil (l_ret ?_))))))))))))))))))))
 cases h
 exact fin_ok (.inr rfl) (resD2 (res_t rfl) (res_t rfl) rf_d rf_d) (.refl _)

noncomputable def ref09_may (p1 : Convoy) (p2 : Mate) (p3 : Int) : Option Bool :=
  (ref09_moved p2.S p2.V p3).bind fun v1 => ((cond (!(p2.Ahead == 0)) (ref09_Age p2.Guess_ 1) (some default))).bind fun v2 => ((cond (!(p2.Ahead == 0)) (ref09_Safe v1.1 v1.2 p1.Gap v2) (some default))).bind fun v3 => ((cond (((p2.Ahead == 0) || v3) && (!(p2.Until == 0))) (ref09_Age p2.WardGuess 1) (some default))).bind fun v4 => ((cond (((p2.Ahead == 0) || v3) && (!(p2.Until == 0))) (ref09_Safe v1.1 v1.2 p1.Gap v4) (some default))).bind fun v5 => some (((p2.Ahead == 0) || v3) && ((p2.Until == 0) || v5))

theorem ref09_may_ok (p1 : Convoy) (p2 : Mate) (p3 : Int) (r : Bool) (h : ref09_may p1 p2 p3 = some r) : PCall Tryz.prog 83 [(.agg (eConvoy p1)), (.agg (eMate p2)), (i64 p3)] (bo r) := by
 refine l_call (fk Tryz.func83 Tryz.ntmps83 m0 (by with_unfolding_all rfl)) (nl rfl) ?_
 unfold ref09_may at h
 refine l_sub (s0 := ⟨T [(0, (.d _)), (1, (.d _)), (2, (.d _))], G []⟩) (sbr rfl rfl) ?_
 refine lr (fun u1 hu1 => sn rfl rfl (sn rfl rfl (sv rfl (s_nil (lr (fun u2 hu2 => sp rfl rfl (sl rfl G_hit rfl (sp rfl rfl (sl rfl G_hit rfl (sv rfl (bs h fun v1 hv1 h => s_call rfl rfl all2_refl (ref09_moved_ok _ _ _  _ hv1) (.inl rfl) (sv rfl (sv rfl (sv rfl (sv rfl (sv rfl (s_nil (l_seq (l_draw rfl fun u3 hu3 => sp rfl rfl (sl rfl G_hit rfl (sv rfl (sv rfl (gf rfl (fun _ => rfl) (gf rfl (fun _ => rfl) (gp rfl (gw_f rfl) (fun _ => rfl) (gf rfl (vl rfl (gq rfl) rfl) (gp rfl (gw_f rfl) (fun _ => rfl) (gf rfl (fun w6 => (v_loadG (gd_pos w6) G_hit rfl rfl)) (bs h fun v2 hv2 h => ?_)))))))))))))))))))))))))))))
 refine g_call _ (.agg [(i64 v2.R), (i64 v2.V)]) (gw_f rfl) (fun w7 => ⟨_, [(.d (.agg [(i64 p2.Guess_.R), (i64 p2.Guess_.V)])), (di 1)], _, _, (by simp only [gd_pos w7]; rfl), rfl, all2_refl, ref09_Age_ok _ _  _ (cond_t w7 hv2), (.inl rfl)⟩) ?_
 refine bs h fun v3 hv3 h => ?_
 refine g_call _ (bo v3) (gw_f rfl) (fun w8 => ⟨_, [(di v1.1), (di v1.2), (di p1.Gap), (.d (.agg [(i64 v2.R), (i64 v2.V)]))], _, _, (by simp only [gd_pos w8]; rfl), rfl, all2_refl, ref09_Safe_ok _ _ _ _  _ (cond_t w8 hv3), (.inl rfl)⟩) ?_
 refine sd rfl (v_or rfl rfl (fun hc => gd_pos (not_t hc))) (sv rfl (gp rfl (gw_t rfl) (fun _ => rfl) (gt rfl (vl rfl G_hit rfl) (gt rfl (vb rfl rfl rfl) (gt rfl (fun w12 => (v_mv (gd_pos w12))) (gv rfl (gw_gf rfl) (fun _ => rfl) (gv rfl (gw_gf rfl) (fun _ => rfl) (g_val _ (.ptr _ _) rfl (gw_gf rfl) (fun _ => rfl) (gv rfl (gw_gf rfl) (vl rfl (gq rfl) rfl) (g_val _ (.ptr _ _) rfl (gw_gf rfl) (fun _ => rfl) (gv rfl (gw_gf rfl) (fun w18 => (v_loadG (gd_pos w18) G_hit rfl rfl)) (bs h fun v4 hv4 h => ?_))))))))))))
 refine g_call _ (.agg [(i64 v4.R), (i64 v4.V)]) (gw_gf rfl) (fun w19 => ⟨_, [(.d (.agg [(i64 p2.WardGuess.R), (i64 p2.WardGuess.V)])), (di 1)], _, _, (by simp only [gd_pos w19]; rfl), rfl, all2_refl, ref09_Age_ok _ _  _ (cond_t w19 hv4), (.inl rfl)⟩) ?_
 refine bs h fun v5 hv5 h => ?_
 refine g_call _ (bo v5) (gw_gf rfl) (fun w20 => ⟨_, [(di v1.1), (di v1.2), (di p1.Gap), (.d (.agg [(i64 v4.R), (i64 v4.V)]))], _, _, (by simp only [gd_pos w20]; rfl), rfl, all2_refl, ref09_Safe_ok _ _ _ _  _ (cond_t w20 hv5), (.inl rfl)⟩) ?_
 refine gt rfl (fun w21 => (v_or (gd_pos w21) rfl (fun hc => gd_pos (and_i w21 (not_t hc))))) (sa rfl rfl rfl (sv rfl (s_nil (l_ret ?_))))
 cases h
 exact fin_ok (.inr rfl) (resD1 (res_t rfl) rf_d) (.refl _)

noncomputable def ref09_drives_l1 (p1 : Convoy) (p2 : Mate) (x1 : Int) : Option (Stp Int Int) :=
  ((cond (decide (x1 > (-90))) (ref09_may p1 p2 x1) (some default))).bind fun v1 => cond ((decide (x1 > (-90))) && (!v1)) (some (.go (w64 (x1 - 1)))) (some (.out x1))
noncomputable def ref09_drives (p1 : Convoy) (p2 : Mate) (p3 : Int) : Option Mate :=
  (cond ((p2.Ward != 0) && (p2.Until == 0)) (some (mm2 false p3 (-20))) (some p3)).bind fun y1 => (loop (ref09_drives_l1 p1 p2) (mm2 true (-90) (mm2 false y1 30))).bind fun y2 => (ref09_moved p2.S p2.V y2).bind fun v2 => (cond (p2.Ahead != 0) ((ref09_Age p2.Guess_ 1).bind fun v3 => some (Mate.mk p2.ID v2.1 v2.2 p2.Len p2.Ahead v3 p2.Trust p2.Ward p2.WardGuess p2.Until)) (some (Mate.mk p2.ID v2.1 v2.2 p2.Len p2.Ahead p2.Guess_ p2.Trust p2.Ward p2.WardGuess p2.Until))).bind fun y3 => cond (y3.Ward != 0) ((ref09_Age y3.WardGuess 1).bind fun v4 => some (Mate.mk y3.ID y3.S y3.V y3.Len y3.Ahead y3.Guess_ y3.Trust y3.Ward v4 y3.Until)) (some y3)

theorem ref09_drives_ok (p1 : Convoy) (p2 : Mate) (p3 : Int) (r : Mate) (h : ref09_drives p1 p2 p3 = some r) : PCall Tryz.prog 43 [(.agg (eConvoy p1)), (.agg (eMate p2)), (i64 p3)] (.agg (eMate r)) := by
 refine l_call (fk Tryz.func43 Tryz.ntmps43 m0 (by with_unfolding_all rfl)) (nl rfl) ?_
 unfold ref09_drives at h
 refine l_sub (s0 := ⟨T [(0, (.d _)), (1, (.d _)), (2, (.d _))], G []⟩) (sbr rfl rfl) ?_
 refine lr (fun u1 hu1 => sn rfl rfl (sn rfl rfl (sn rfl rfl (s_nil (l_seq (lr (fun u2 hu2 => sp rfl rfl (sl rfl (gq rfl) rfl (sv rfl (sv rfl (gp rfl (gw_t rfl) (fun _ => rfl) (gt rfl (vl rfl (gq rfl) rfl) (gt rfl (vb rfl rfl rfl) (sa rfl rfl rfl (s_nil (bs h fun y1 hy1 h => l_join (fun s => ∃ g1 : Unit, Sb ⟨T [(2, (di y1)), (3, (.ptr (3, u1) 0)), (4, (.ptr (4, u1) 0)), (6, (.ptr (6, u1) 0))], G [((3, u1), some (.box 32 (dConvoy p1))), ((4, u1), some (.box 51 (dMate p2))), ((6, u1), some (.box 51 ((zs 12).set 7 (.d (bo false)))))]⟩ s) ?_ ?_))))))))))))))))
 refine cc rfl hy1 (fun c1 hy1 => ?_) (fun c1 hy1 => ?_)
 refine l_reg fun u3 hu3 => sv rfl (sv rfl (sv rfl (s_nil ?_)))
 cases hy1
 exact l_j ⟨(), (sbr rfl rfl)⟩
 refine l_skip ?_
 cases hy1
 exact l_j ⟨(), (sbr rfl rfl)⟩
 rintro _ ⟨g1, q1⟩
 refine l_sub q1 (lr (fun u4 hu4 => sv rfl (sv rfl (sv rfl (sv rfl (s_nil (l_seq (bs h fun y2 hy2 h => l_join (fun s => ∃ g2 : Unit, Sb ⟨T [(4, (.ptr (4, u1) 0)), (6, (.ptr (6, u1) 0)), (7, (di y2))], G [((4, u1), some (.box 51 (dMate p2))), ((6, u1), some (.box 51 ((zs 12).set 7 (.d (bo false)))))]⟩ s) ?_ ?_))))))))
 refine l_block (l_loop (ref09_drives_l1 p1 p2) (fun (x1 : Int) (g3 : Unit) => ⟨T [(3, (.ptr (3, u1) 0)), (4, (.ptr (4, u1) 0)), (6, (.ptr (6, u1) 0)), (7, (di x1))], G [((3, u1), some (.box 32 (dConvoy p1))), ((4, u1), some (.box 51 (dMate p2))), ((6, u1), some (.box 51 ((zs 12).set 7 (.d (bo false)))))]⟩) (mm2 true (-90) (mm2 false y1 30)) () _ hy2 (sbr rfl rfl) ?_)
 intro x1 g3 z1 hz1 ez1
 unfold ref09_drives_l1 at hz1
 refine l_seq (lr (fun u5 hu5 => sv rfl (sv rfl (sv rfl (gt rfl (fun w4 => (v_loadG rfl G_hit rfl rfl)) (gt rfl (fun w5 => (v_loadG rfl (gq rfl) rfl rfl)) (gt rfl (fun _ => rfl) (bs hz1 fun v1 hv1 hz1 => ?_))))))))
 refine g_call _ (bo v1) (gw_t rfl) (fun w7 => ⟨_, [(.d (.agg (eConvoy p1))), (.d (.agg (eMate p2))), (di x1)], _, _, (by simp only [gd_pos w7]; rfl), rfl, all2_refl, ref09_may_ok _ _ _  _ (cond_t w7 hv1), (.inl rfl)⟩) ?_
 refine g_val _ (.d (bo (!v1))) rfl (gw_t rfl) (fun w8 => (by simp only [gd_pos w8]; rfl)) ?_
 refine sa rfl rfl rfl (s_nil (cc rfl hz1 (fun c2 hz1 => ?_) (fun c2 hz1 => ?_)))
 refine l_skip (l_block (l_reg fun u6 hu6 => sv rfl (sv rfl (sv rfl (s_nil (l_end (l_nil ?_)))))))
 cases hz1
 exact ⟨rfl, (), (sbr rfl rfl)⟩
 refine l_exitN rfl ?_
 cases hz1
 obtain rfl := ez1 _ rfl
 refine ⟨nofun, awl_pop rfl (l_j ?_)⟩
 exact ⟨(), (sbr rfl rfl)⟩
 rintro _ ⟨g2, q2⟩
 refine l_sub q2 (lr (fun u7 hu7 => sp rfl rfl (sl rfl G_hit rfl (sp rfl rfl (sl rfl G_hit rfl (sv rfl (bs h fun v2 hv2 h => s_call rfl rfl all2_refl (ref09_moved_ok _ _ _  _ hv2) (.inl rfl) (sv rfl (sv rfl (sv rfl (sp rfl rfl (sst rfl G_hit ((dMate p2).set 1 (di v2.1)) rfl (sp rfl rfl (sst rfl G_hit (((dMate p2).set 1 (di v2.1)).set 2 (di v2.2)) rfl (s_nil (l_seq (lr (fun u8 hu8 => sp rfl rfl (sl rfl G_hit rfl (sv rfl (s_nil (bs h fun y3 hy3 h => l_join (fun s => ∃ g4 : Unit, Sb ⟨T [(4, (.ptr (4, u1) 0)), (6, (.ptr (6, u1) 0))], G [((4, u1), some (.box 51 (dMate y3))), ((6, u1), some (.box 51 ((zs 12).set 7 (.d (bo false)))))]⟩ s) ?_ ?_))))))))))))))))))))))
 refine cc rfl hy3 (fun c3 hy3 => ?_) (fun c3 hy3 => ?_)
 refine l_reg fun u9 hu9 => sp rfl rfl (sd rfl (v_loadG rfl G_hit rfl rfl) (bs hy3 fun v3 hv3 hy3 => s_call rfl rfl all2_refl (ref09_Age_ok _ _  _ hv3) (.inl rfl) (sp rfl rfl (sst rfl G_hit (((((dMate p2).set 1 (di v2.1)).set 2 (di v2.2)).set 5 (di v3.R)).set 6 (di v3.V)) rfl (s_nil ?_)))))
 cases hy3
 exact l_j ⟨(), (sbr rfl rfl)⟩
 refine l_skip ?_
 cases hy3
 exact l_j ⟨(), (sbr rfl rfl)⟩
 rintro _ ⟨g4, q3⟩
 refine l_sub q3 (l_seq (lr (fun u10 hu10 => sp rfl rfl (sl rfl G_hit rfl (sv rfl (s_nil (cc rfl h (fun c4 h => ?_) (fun c4 h => ?_))))))))
 refine l_reg fun u11 hu11 => sp rfl rfl (sd rfl (v_loadG rfl G_hit rfl rfl) (bs h fun v4 hv4 h => s_call rfl rfl all2_refl (ref09_Age_ok _ _  _ hv4) (.inl rfl) (sp rfl rfl (sst rfl G_hit (((dMate y3).set 9 (di v4.R)).set 10 (di v4.V)) rfl (s_nil (lr (fun u12 hu12 => sd rfl (v_loadG rfl G_hit rfl rfl) (sst rfl (gq rfl) (((dMate y3).set 9 (di v4.R)).set 10 (di v4.V)) rfl (s_nil (l_ret ?_))))))))))
 cases h
 exact fin_ok (.inr rfl) (resD1 (res_cellG rfl G_hit (nl rfl) rfl) rf_d) (.refl _)
 refine l_skip (lr (fun u13 hu13 => sd rfl (v_loadG rfl G_hit rfl rfl) (sst rfl (gq rfl) (dMate y3) rfl (s_nil (l_ret ?_)))))
 cases h
 exact fin_ok (.inr rfl) (resD1 (res_cellG rfl G_hit (nl rfl) rfl) rf_d) (.refl _)

noncomputable def ref09_rolls_l1 (p1 : Guest) (x1 : Int) : Option (Stp Int Int) :=
  cond (decide (x1 > (-90))) ((ref09_moved p1.S p1.V x1).bind fun v1 => (ref09_stop v1.2).bind fun v2 => cond (decide ((w64 (v1.1 + v2)) < p1.End)) (some (.out x1)) (some (.go (w64 (x1 - 1))))) (some (.out x1))
noncomputable def ref09_rolls (p1 : Guest) (p2 : Int) : Option Guest :=
  (loop (ref09_rolls_l1 p1) (mm2 true (-90) (mm2 false p2 30))).bind fun y1 => (ref09_moved p1.S p1.V y1).bind fun v3 => cond (p1.Ahead != 0) ((ref09_Age p1.Guess_ 1).bind fun v4 => some (Guest.mk p1.ID v3.1 v3.2 p1.Len p1.End p1.Ahead v4 p1.From p1.Until)) (some (Guest.mk p1.ID v3.1 v3.2 p1.Len p1.End p1.Ahead p1.Guess_ p1.From p1.Until))

theorem ref09_rolls_ok (p1 : Guest) (p2 : Int) (r : Guest) (h : ref09_rolls p1 p2 = some r) : PCall Tryz.prog 46 [(.agg (eGuest p1)), (i64 p2)] (.agg (eGuest r)) := by
 refine l_call (fk Tryz.func46 Tryz.ntmps46 m0 (by with_unfolding_all rfl)) (nl rfl) ?_
 unfold ref09_rolls at h
 refine l_sub (s0 := ⟨T [(0, (.d _)), (1, (.d _))], G []⟩) (sbr rfl rfl) ?_
 refine lr (fun u1 hu1 => sn rfl rfl (sn rfl rfl (s_nil (lr (fun u2 hu2 => sv rfl (sv rfl (sv rfl (sv rfl (s_nil (l_seq (bs h fun y1 hy1 h => l_join (fun s => ∃ g1 : Unit, Sb ⟨T [(2, (.ptr (2, u1) 0)), (4, (.ptr (4, u1) 0)), (5, (di y1))], G [((2, u1), some (.box 30 (dGuest p1))), ((4, u1), some (.box 30 (zs 10)))]⟩ s) ?_ ?_)))))))))))
 refine l_block (l_loop (ref09_rolls_l1 p1) (fun (x1 : Int) (g2 : Unit) => ⟨T [(2, (.ptr (2, u1) 0)), (4, (.ptr (4, u1) 0)), (5, (di x1))], G [((2, u1), some (.box 30 (dGuest p1))), ((4, u1), some (.box 30 (zs 10)))]⟩) (mm2 true (-90) (mm2 false p2 30)) () _ hy1 (sbr rfl rfl) ?_)
 intro x1 g2 z1 hz1 ez1
 unfold ref09_rolls_l1 at hz1
 refine l_seq (lr (fun u3 hu3 => sv rfl (sv rfl (s_nil (cc rfl hz1 (fun c1 hz1 => ?_) (fun c1 hz1 => ?_))))))
 refine l_skip (l_block (lr (fun u4 hu4 => sp rfl rfl (sl rfl G_hit rfl (sp rfl rfl (sl rfl G_hit rfl (sv rfl (bs hz1 fun v1 hv1 hz1 => s_call rfl rfl all2_refl (ref09_moved_ok _ _ _  _ hv1) (.inl rfl) (sv rfl (sv rfl (sv rfl (sv rfl (sv rfl (s_nil (l_seq (l_seq (l_draw rfl fun u5 hu5 => sv rfl (sv rfl (bs hz1 fun v2 hv2 hz1 => s_call rfl rfl all2_refl (ref09_stop_ok _  _ hv2) (.inl rfl) (sv rfl (sp rfl rfl (sl rfl G_hit rfl (sv rfl (s_nil (cc rfl hz1 (fun c2 hz1 => ?_) (fun c2 hz1 => ?_))))))))))))))))))))))))))
 refine l_exitN rfl ?_
 cases hz1
 obtain rfl := ez1 _ rfl
 refine ⟨nofun, awl_pop rfl (l_j ?_)⟩
 exact ⟨(), (sbr rfl rfl)⟩
 refine l_skip (l_sub (s0 := ⟨T [(2, (.ptr _ _)), (4, (.ptr _ _)), (5, (.d _))], G [((2, u1), some (.box 30 _)), ((4, u1), some (.box 30 _))]⟩) (sbr rfl rfl) ?_)
 refine l_reg fun u6 hu6 => sv rfl (sv rfl (sv rfl (s_nil (l_end (l_nil ?_)))))
 cases hz1
 exact ⟨rfl, (), (sbr rfl rfl)⟩
 refine l_exitN rfl ?_
 cases hz1
 obtain rfl := ez1 _ rfl
 refine ⟨nofun, awl_pop rfl (l_j ?_)⟩
 exact ⟨(), (sbr rfl rfl)⟩
 rintro _ ⟨g1, q1⟩
 refine l_sub q1 (lr (fun u7 hu7 => sp rfl rfl (sl rfl G_hit rfl (sp rfl rfl (sl rfl G_hit rfl (sv rfl (bs h fun v3 hv3 h => s_call rfl rfl all2_refl (ref09_moved_ok _ _ _  _ hv3) (.inl rfl) (sv rfl (sv rfl (sv rfl (sp rfl rfl (sst rfl G_hit ((dGuest p1).set 1 (di v3.1)) rfl (sp rfl rfl (sst rfl G_hit (((dGuest p1).set 1 (di v3.1)).set 2 (di v3.2)) rfl (s_nil (l_seq (lr (fun u8 hu8 => sp rfl rfl (sl rfl G_hit rfl (sv rfl (s_nil (cc rfl h (fun c3 h => ?_) (fun c3 h => ?_)))))))))))))))))))))))
 refine l_reg fun u9 hu9 => sp rfl rfl (sd rfl (v_loadG rfl G_hit rfl rfl) (bs h fun v4 hv4 h => s_call rfl rfl all2_refl (ref09_Age_ok _ _  _ hv4) (.inl rfl) (sp rfl rfl (sst rfl G_hit (((((dGuest p1).set 1 (di v3.1)).set 2 (di v3.2)).set 6 (di v4.R)).set 7 (di v4.V)) rfl (s_nil (l_seq (l_sub (s0 := ⟨T [(2, (.ptr _ _)), (4, (.ptr _ _))], G [((2, u1), some (.box 30 _)), ((4, u1), some (.box 30 _))]⟩) (sbr rfl rfl) ?_)))))))
 refine l_reg fun u10 hu10 => sd rfl (v_loadG rfl G_hit rfl rfl) (sst rfl (gq rfl) (((((dGuest p1).set 1 (di v3.1)).set 2 (di v3.2)).set 6 (di v4.R)).set 7 (di v4.V)) rfl (s_nil (l_ret ?_)))
 cases h
 exact fin_ok (.inr rfl) (resD1 (res_cellG rfl G_hit (nl rfl) rfl) rf_d) (.refl _)
 refine l_skip (lr (fun u11 hu11 => sd rfl (v_loadG rfl G_hit rfl rfl) (sst rfl (gq rfl) (((dGuest p1).set 1 (di v3.1)).set 2 (di v3.2)) rfl (s_nil (l_ret ?_)))))
 cases h
 exact fin_ok (.inr rfl) (resD1 (res_cellG rfl G_hit (nl rfl) rfl) rf_d) (.refl _)

noncomputable def ref09_Step_l1 (p1 : Convoy) (p2 : (List Int)) (p3 : (List Note)) (p4 : (List Sight)) (v3 : (Int × Int)) (y1 : (Bool × Guest)) (x1 : (Int × Convoy)) : Option (Stp (Int × Convoy) Convoy) :=
  cond (decide (x1.1 < (p1.Mates.length : Int))) (((cond (decide (x1.1 ≥ 0)) ((geti p1.Mates x1.1).bind fun v6 => (ref09_believes p1 v6 p3 p4).bind fun v7 => (ref09_want p2 x1.1).bind fun v8 => (ref09_drives p1 v7 v8).bind fun v9 => (appc x1.2.Mates [v9]).bind fun v10 => some (Convoy.mk x1.2.Tick x1.2.Gap v10 x1.2.Guest_)) (some x1.2)).bind fun y4 => cond (y1.1 && (x1.1 == v3.1)) ((ref09_want p2 (p1.Mates.length : Int)).bind fun v11 => (ref09_drives p1 (Mate.mk y1.2.ID y1.2.S y1.2.V y1.2.Len y1.2.Ahead y1.2.Guess_ true 0 (Guess.mk 0 0) 0) v11).bind fun v12 => (appc y4.Mates [v12]).bind fun v13 => some (Convoy.mk y4.Tick y4.Gap v13 y4.Guest_)) (some y4)).bind fun y3 => some (.go ((w64 (x1.1 + 1)), y3))) (some (.out x1.2))
noncomputable def ref09_Step (p1 : Convoy) (p2 : (List Int)) (p3 : (List Note)) (p4 : (List Sight)) : Option (Convoy × Int) :=
  (ref09_Check p1).bind fun v1 => cond (v1 != 0) (some ((Convoy.mk 0 0 [] (Guest.mk 0 0 0 0 0 0 (Guess.mk 0 0) 0 0)), v1)) (((cond (!(((decide ((p3.length : Int) > 60)) || (decide ((p4.length : Int) > 60))) || (p1.Tick == 1099511627776))) (ref09_far p1) (some default))).bind fun v2 => cond ((((decide ((p3.length : Int) > 60)) || (decide ((p4.length : Int) > 60))) || (p1.Tick == 1099511627776)) || v2) (some ((Convoy.mk 0 0 [] (Guest.mk 0 0 0 0 0 0 (Guess.mk 0 0) 0 0)), 2)) ((ref09_beside p1).bind fun v3 => (cond (p1.Guest_.ID != 0) ((ref09_learns p1 p3 p4).bind fun v4 => (ref09_merges p1 v4).bind fun v5 => some (v5, v4)) (some (false, p1.Guest_))).bind fun y1 => (loop (ref09_Step_l1 p1 p2 p3 p4 v3 y1) ((-1), (Convoy.mk (w64 (p1.Tick + 1)) p1.Gap [] (Guest.mk 0 0 0 0 0 0 (Guess.mk 0 0) 0 0)))).bind fun y2 => cond ((y1.2.ID != 0) && (!y1.1)) ((ref09_want p2 (p1.Mates.length : Int)).bind fun v14 => (ref09_rolls y1.2 v14).bind fun v15 => some ((Convoy.mk y2.Tick y2.Gap y2.Mates v15), 0)) (some (y2, 0))))

theorem ref09_Step_ok (p1 : Convoy) (p2 : (List Int)) (p3 : (List Note)) (p4 : (List Sight)) (r : (Convoy × Int)) (h : ref09_Step p1 p2 p3 p4 = some r) : PCall Tryz.prog 16 [(.agg (eConvoy p1)), (.list (List.map eInt_i64 p2)), (.list (List.map eNote p3)), (.list (List.map eSight p4))] (.tup [(.agg (eConvoy r.1)), (i64 r.2)]) := by
 refine l_call (fk Tryz.func16 Tryz.ntmps16 (fun r => if r == 17 then [1016] else if r == 20 then [1010] else []) (by with_unfolding_all rfl)) (nl rfl) ?_
 unfold ref09_Step at h
 refine l_sub (s0 := ⟨T [(0, (.d _)), (1, (.d _)), (2, (.d _)), (3, (.d _))], G []⟩) (sbr rfl rfl) ?_
 refine lr (fun u1 hu1 => sn rfl rfl (sn rfl rfl (sv rfl (s_nil (l_seq (lr (fun u2 hu2 => sd rfl (v_loadG rfl (gq rfl) rfl rfl) (bs h fun v1 hv1 h => s_call rfl rfl all2_refl (ref09_Check_ok _  _ hv1) (.inl rfl) (sv rfl (s_nil (lr (fun u3 hu3 => sv rfl (sv rfl (s_nil (cc rfl h (fun c1 h => ?_) (fun c1 h => ?_))))))))))))))))
 refine lr (fun u4 hu4 => sv rfl (sv rfl (sst rfl G_hit ((zs 13).set 2 (.d .nilS)) rfl (sv rfl (s_nil (l_ret ?_))))))
 cases h
 exact fin_ok (.inr rfl) (resD2 (res_cellG rfl G_hit (nl rfl) rfl) (res_t rfl) rf_d rf_d) (.tup (.cons (.agg (ca rfl (ca rfl (.cons ⟨DLe.nil, rfl⟩ (cz rfl))))) all2_refl))
 refine l_skip (l_seq (lr (fun u5 hu5 => sv rfl (sd rfl (v_len rfl) (sv rfl (sv rfl (gf rfl (fun _ => rfl) (gf rfl (fun w2 => (v_len (gd_pos w2))) (gf rfl (vb rfl rfl rfl) (sd rfl (v_or rfl rfl (fun hc => gd_pos (not_t hc))) (sv rfl (gp rfl (gw_f rfl) (fun _ => rfl) (gf rfl (vl rfl (gq rfl) rfl) (gf rfl (vb rfl rfl rfl) (sd rfl (v_or rfl rfl (fun hc => gd_pos (not_t hc))) (sv rfl (gf rfl (fun w7 => (v_loadG rfl (gq rfl) rfl rfl)) (bs h fun v2 hv2 h => ?_))))))))))))))))))
 refine g_call _ (bo v2) (gw_f rfl) (fun w8 => ⟨_, [(.d (.agg (eConvoy p1)))], _, _, (by simp only [gd_pos w8]; rfl), rfl, all2_refl, ref09_far_ok _  _ (cond_t w8 hv2), (.inl rfl)⟩) ?_
 refine sd rfl (v_or rfl rfl (fun hc => gd_pos (not_t hc))) (s_nil (cc rfl h (fun c2 h => ?_) (fun c2 h => ?_)))
 refine l_seq (l_sub (s0 := ⟨T [(8, (.ptr _ _))], G [((8, u1), some (.box 32 _))]⟩) (sbr rfl rfl) ?_)
 refine l_reg fun u6 hu6 => sv rfl (sst rfl G_hit ((zs 13).set 2 (.d .nilS)) rfl (sv rfl (s_nil (l_ret ?_))))
 cases h
 exact fin_ok (.inr rfl) (resD2 (res_cellG rfl G_hit (nl rfl) rfl) (res_t rfl) rf_d rf_d) (.tup (.cons (.agg (ca rfl (ca rfl (.cons ⟨DLe.nil, rfl⟩ (cz rfl))))) all2_refl))
 refine l_skip (l_seq (l_sub (s0 := ⟨T [(1, (.d _)), (2, (.d _)), (3, (.d _)), (4, (.ptr _ _)), (8, (.ptr _ _))], G [((4, u1), some (.box 32 _)), ((8, u1), some (.box 32 _))]⟩) (sbr rfl rfl) ?_))
 refine l_reg fun u7 hu7 => sp rfl rfl (sl rfl G_hit rfl (sv rfl (sp rfl rfl (sl rfl G_hit rfl (sv rfl (sn rfl rfl (sst rfl G_hit ([(di (w64 (p1.Tick + 1))), (di p1.Gap), (.d .nilS)] ++ (zs 10)) rfl (s_nil (lr (fun u8 hu8 => sd rfl (v_loadG rfl (gq rfl) rfl rfl) (bs h fun v3 hv3 h => s_call rfl rfl all2_refl (ref09_beside_ok _  _ hv3) (.inl rfl) (sv rfl (sv rfl (sv rfl (sv rfl (sv rfl (s_nil (l_seq (l_sub (s0 := ⟨T [(1, (.d _)), (2, (.d _)), (3, (.d _)), (4, (.ptr _ _)), (8, (.ptr _ _)), (11, (.ptr _ _)), (12, (.d _))], G [((4, u1), some (.box 32 _)), ((8, u1), some (.box 32 _)), ((11, u7), some (.box 32 _))]⟩) (sbr rfl rfl) ?_)))))))))))))))))))
 refine l_reg fun u9 hu9 => sv rfl (s_nil (lr (fun u10 hu10 => sp rfl rfl (sd rfl (v_loadG rfl G_hit rfl rfl) (sn rfl rfl (sst rfl G_hit (dGuest p1.Guest_) rfl (s_nil (l_seq (lr (fun u11 hu11 => sp rfl rfl (sl rfl G_hit rfl (sv rfl (s_nil (bs h fun y1 hy1 h => l_join (fun s => ∃ g1 : Unit, Sb ⟨T [(1, (dl eInt_i64 p2)), (2, (dl eNote p3)), (3, (dl eSight p4)), (4, (.ptr (4, u1) 0)), (8, (.ptr (8, u1) 0)), (11, (.ptr (11, u7) 0)), (12, (di v3.1)), (14, (.d (bo y1.1))), (15, (.ptr (15, u10) 0))], G [((4, u1), some (.box 32 (dConvoy p1))), ((8, u1), some (.box 32 ((zs 13).set 2 (.d .nilS)))), ((11, u7), some (.box 32 ([(di (w64 (p1.Tick + 1))), (di p1.Gap), (.d .nilS)] ++ (zs 10)))), ((15, u10), some (.box 30 (dGuest y1.2)))]⟩ s) ?_ ?_))))))))))))))
 refine cc rfl hy1 (fun c3 hy1 => ?_) (fun c3 hy1 => ?_)
 refine lr (fun u12 hu12 => sd rfl (v_loadG rfl (gq rfl) rfl rfl) (sv rfl (sv rfl (bs hy1 fun v4 hv4 hy1 => s_call rfl rfl all2_refl (ref09_learns_ok _ _ _  _ hv4) (.inl rfl) (sst rfl G_hit (dGuest v4) rfl (s_nil (l_sub (s0 := ⟨T [(1, (.d _)), (2, (.d _)), (3, (.d _)), (4, (.ptr _ _)), (8, (.ptr _ _)), (11, (.ptr _ _)), (12, (.d _)), (15, (.ptr _ _))], G [((4, u1), some (.box 32 _)), ((8, u1), some (.box 32 _)), ((11, u7), some (.box 32 _)), ((15, u10), some (.box 30 _))]⟩) (sbr rfl rfl) ?_)))))))
 refine l_reg fun u13 hu13 => sd rfl (v_loadG rfl G_hit rfl rfl) (sd rfl (v_loadG rfl (gq rfl) rfl rfl) (bs hy1 fun v5 hv5 hy1 => s_call rfl rfl all2_refl (ref09_merges_ok _ _  _ hv5) (.inl rfl) (sv rfl (s_nil ?_))))
 cases hy1
 exact l_j ⟨(), (sbr rfl rfl)⟩
 refine l_skip ?_
 cases hy1
 exact l_j ⟨(), (sbr rfl rfl)⟩
 rintro _ ⟨g1, q1⟩
 refine l_sub q1 (l_seq (lr (fun u14 hu14 => sv rfl (s_nil (bs h fun y2 hy2 h => l_join (fun s => ∃ g2 : ({d : Nat // d ∈ [91, 123]} × Nat), Sb ⟨T [(1, (dl eInt_i64 p2)), (4, (.ptr (4, u1) 0)), (8, (.ptr (8, u1) 0)), (11, (.ptr (11, u7) 0)), (14, (.d (bo y1.1))), (15, (.ptr (15, u10) 0))], G [((4, u1), some (.box 32 (dConvoy p1))), ((8, u1), some (.box 32 ((zs 13).set 2 (.d .nilS)))), ((11, u7), some (.box 32 ((dConvoy y2).set 2 (oS y2.Mates (g2.1.val, g2.2))))), ((15, u10), some (.box 30 (dGuest y1.2))), ((g2.1.val, g2.2), oB 51 12 eMate y2.Mates)]⟩ s) ?_ ?_)))))
 refine l_block (l_loop (ref09_Step_l1 p1 p2 p3 p4 v3 y1) (fun (x1 : (Int × Convoy)) (g3 : ({d : Nat // d ∈ [91, 123]} × Nat)) => ⟨T [(1, (dl eInt_i64 p2)), (2, (dl eNote p3)), (3, (dl eSight p4)), (4, (.ptr (4, u1) 0)), (8, (.ptr (8, u1) 0)), (11, (.ptr (11, u7) 0)), (12, (di v3.1)), (14, (.d (bo y1.1))), (15, (.ptr (15, u10) 0)), (16, (di x1.1))], G [((4, u1), some (.box 32 (dConvoy p1))), ((8, u1), some (.box 32 ((zs 13).set 2 (.d .nilS)))), ((11, u7), some (.box 32 ((dConvoy x1.2).set 2 (oS x1.2.Mates (g3.1.val, g3.2))))), ((15, u10), some (.box 30 (dGuest y1.2))), ((g3.1.val, g3.2), oB 51 12 eMate x1.2.Mates)]⟩) ((-1), (Convoy.mk (w64 (p1.Tick + 1)) p1.Gap [] (Guest.mk 0 0 0 0 0 0 (Guess.mk 0 0) 0 0))) (⟨91, .head _⟩, 0) _ hy2 (sb_of ⟨.of rfl, .of rfl, .of rfl, .of rfl, .of rfl, .of rfl, .of rfl, .of rfl, .of rfl, .of rfl, trivial⟩ (sbG_some G_hit (.of rfl) (sg rfl (sg rfl (sg rfl (sbG_nil trivial)))))) ?_)
 intro x1 g3 z1 hz1 ez1
 unfold ref09_Step_l1 at hz1
 refine l_seq (lr (fun u15 hu15 => sv rfl (sp rfl rfl (sl rfl G_hit rfl (sd rfl (v_len rfl) (sv rfl (s_nil (cc rfl hz1 (fun c4 hz1 => ?_) (fun c4 hz1 => ?_)))))))))
 refine l_skip (l_seq (bs hz1 fun y3 hy3 hz1 => l_join (fun s => ∃ g4 : ({d : Nat // d ∈ [91, 123]} × Nat), Sb ⟨T [(1, (dl eInt_i64 p2)), (2, (dl eNote p3)), (3, (dl eSight p4)), (4, (.ptr (4, u1) 0)), (8, (.ptr (8, u1) 0)), (11, (.ptr (11, u7) 0)), (12, (di v3.1)), (14, (.d (bo y1.1))), (15, (.ptr (15, u10) 0)), (16, (di x1.1))], G [((4, u1), some (.box 32 (dConvoy p1))), ((8, u1), some (.box 32 ((zs 13).set 2 (.d .nilS)))), ((11, u7), some (.box 32 ((dConvoy y3).set 2 (oS y3.Mates (g4.1.val, g4.2))))), ((15, u10), some (.box 30 (dGuest y1.2))), ((g4.1.val, g4.2), oB 51 12 eMate y3.Mates)]⟩ s) ?_ ?_))
 refine l_block (l_seq (lr (fun u16 hu16 => sv rfl (sv rfl (s_nil (bs hy3 fun y4 hy4 hy3 => l_join (fun s => ∃ g5 : ({d : Nat // d ∈ [91, 123]} × Nat), Sb ⟨T [(1, (dl eInt_i64 p2)), (2, (dl eNote p3)), (3, (dl eSight p4)), (4, (.ptr (4, u1) 0)), (8, (.ptr (8, u1) 0)), (11, (.ptr (11, u7) 0)), (12, (di v3.1)), (14, (.d (bo y1.1))), (15, (.ptr (15, u10) 0)), (16, (di x1.1))], G [((4, u1), some (.box 32 (dConvoy p1))), ((8, u1), some (.box 32 ((zs 13).set 2 (.d .nilS)))), ((11, u7), some (.box 32 ((dConvoy y4).set 2 (oS y4.Mates (g5.1.val, g5.2))))), ((15, u10), some (.box 30 (dGuest y1.2))), ((g5.1.val, g5.2), oB 51 12 eMate y4.Mates)]⟩ s) ?_ ?_))))))
 refine cc rfl hy4 (fun c5 hy4 => ?_) (fun c5 hy4 => ?_)
 refine l_draw rfl fun u17 hu17 => sp rfl rfl (s_val (oS x1.2.Mates (g3.1.val, g3.2)) rfl (v_load rfl (gq rfl) rfl) (sd rfl (v_loadG rfl G_hit rfl rfl) (sd rfl (v_loadG rfl G_hit rfl rfl) (sp rfl rfl (sl rfl G_hit rfl (sv rfl (bs hy4 fun v6 hv6 hy4 => sd rfl (v_idx rfl rfl hv6 rfl) (sd rfl (v_loadLG rfl hv6 rfl rfl) (sv rfl (sv rfl (bs hy4 fun v7 hv7 hy4 => s_call rfl rfl all2_refl (ref09_believes_ok _ _ _ _  _ hv7) (.inl rfl) (sv rfl (sv rfl (bs hy4 fun v8 hv8 hy4 => s_call rfl rfl all2_refl (ref09_want_ok _ _  _ hv8) (.inl rfl) (bs hy4 fun v9 hv9 hy4 => s_call rfl rfl all2_refl (ref09_drives_ok _ _ _  _ hv9) (.inl rfl) (s_val (dl eMate [v9]) rfl (v_dsliceN eMate ([v9] : List Mate) (fun _ => rfl) rfl rfl ⟨rfl, rfl, rfl, trivial⟩) (bs hy4 fun v10 hv10 hy4 => s_appendO eMate (g3.1.val, g3.2) x1.2.Mates v9 [] _ (elems_list (fun _ => rfl)) rfl (G_skip (neL g3.1.property rfl) (G_skip (neL g3.1.property rfl) (G_skip (neL g3.1.property rfl) (G_skip (neL g3.1.property rfl) G_hit)))) hv10 (sp rfl rfl (s_store _ _ _ _ _ rfl rfl rfl (G_skip rfl (G_skip (neR g3.1.property rfl) (gq rfl))) (nl rfl) ((dConvoy x1.2).set 2 (.sl (91, u17))) rfl (s_nil ?_))))))))))))))))))))
 cases hy4
 exact l_j ⟨(⟨91, .head _⟩, u17), (sb_of ⟨.of rfl, .of rfl, .of rfl, .of rfl, .of rfl, .of rfl, .of rfl, .of rfl, .of rfl, .of rfl, trivial⟩ (sbG_some (G_skip rfl (G_skip rfl (G_skip (neR g3.1.property rfl) G_hit))) (.of rfl) (sbG_some (G_skip rfl (G_skip rfl (G_skip (neR g3.1.property rfl) (gq rfl)))) (.of rfl) (sbG_some G_hit (.box (cv (cv (.cons (.of (oS_ne (appc_ne hv10)).symm) cw)))) (sbG_some (G_skip rfl (G_skip rfl (G_skip (neR g3.1.property rfl) (gq rfl)))) (.of rfl) (sbG_own (gq rfl) trivial))))))⟩
 refine l_skip ?_
 cases hy4
 exact l_j ⟨(g3.1, g3.2), (sb_of ⟨.of rfl, .of rfl, .of rfl, .of rfl, .of rfl, .of rfl, .of rfl, .of rfl, .of rfl, .of rfl, trivial⟩ (sbG_some G_hit (.of rfl) (sg rfl (sg rfl (sg rfl (sbG_oB (G_skip (neL g3.1.property rfl) (G_skip (neL g3.1.property rfl) (G_skip (neL g3.1.property rfl) (G_skip (neL g3.1.property rfl) G_hit)))) trivial))))))⟩
 rintro _ ⟨g5, q2⟩
 refine l_sub q2 (lr (fun u18 hu18 => sv rfl (sv rfl (gt rfl (fun _ => rfl) (gt rfl (fun _ => rfl) (gt rfl (fun w11 => (v_bin (gd_pos w11) (gd_pos w11) rfl)) (sa rfl rfl rfl (s_nil (cc rfl hy3 (fun c6 hy3 => ?_) (fun c6 hy3 => ?_))))))))))
 refine lr (fun u19 hu19 => sp rfl rfl (sl rfl (gq rfl) rfl (sp rfl rfl (sl rfl (gq rfl) rfl (sp rfl rfl (sl rfl (gq rfl) rfl (sp rfl rfl (sl rfl (gq rfl) rfl (sp rfl rfl (sl rfl (gq rfl) rfl (sp rfl rfl (sd rfl (v_loadG rfl (gq rfl) rfl rfl) (sv rfl (sn rfl rfl (sst rfl G_hit ([(di y1.2.ID), (di y1.2.S), (di y1.2.V), (di y1.2.Len), (di y1.2.Ahead), (di y1.2.Guess_.R), (di y1.2.Guess_.V), (.d (bo true))] ++ (zs 4)) rfl (s_nil (l_sub (s0 := ⟨T [(1, (dl eInt_i64 p2)), (2, (dl eNote p3)), (3, (dl eSight p4)), (4, (.ptr (4, u1) 0)), (8, (.ptr (8, u1) 0)), (11, (.ptr (11, u7) 0)), (12, (di v3.1)), (14, (.d (bo y1.1))), (15, (.ptr (15, u10) 0)), (16, (di x1.1)), (17, (.ptr (17, u19) 0))], G [((4, u1), some (.box 32 (dConvoy p1))), ((8, u1), some (.box 32 ((zs 13).set 2 (.d .nilS)))), ((11, u7), some (.box 32 ((dConvoy y4).set 2 (oS y4.Mates (g5.1.val, g5.2))))), ((g5.1.val, g5.2), oB 51 12 eMate y4.Mates), ((15, u10), some (.box 30 (dGuest y1.2))), ((17, u19), some (.box 51 ([(di y1.2.ID), (di y1.2.S), (di y1.2.V), (di y1.2.Len), (di y1.2.Ahead), (di y1.2.Guess_.R), (di y1.2.Guess_.V), (.d (bo true))] ++ (zs 4))))]⟩) (sb_of ⟨.of rfl, .of rfl, .of rfl, .of rfl, .of rfl, .of rfl, .of rfl, .of rfl, .of rfl, .of rfl, .of rfl, trivial⟩ (sg rfl (sg rfl (sg rfl (sbG_oB (G_skip (neL g5.1.property rfl) (G_skip (neL g5.1.property rfl) (G_skip (neL g5.1.property rfl) (G_skip (neL g5.1.property rfl) (G_skip (neL g5.1.property rfl) (G_skip (neL g5.1.property rfl) G_hit)))))) (sg rfl (sbG_some G_hit (.of rfl) trivial))))))) ?_)))))))))))))))))
 refine l_draw rfl fun u20 hu20 => sp rfl rfl (s_val (oS y4.Mates (g5.1.val, g5.2)) rfl (v_load rfl (gq rfl) rfl) (sd rfl (v_loadG rfl G_hit rfl rfl) (sd rfl (v_loadG rfl (G_skip rfl (G_skip rfl (G_skip rfl (G_skip (neR g5.1.property rfl) (gq rfl))))) rfl rfl) (sv rfl (sp rfl rfl (sl rfl G_hit rfl (sd rfl (v_len rfl) (bs hy3 fun v11 hv11 hy3 => s_call rfl rfl all2_refl (ref09_want_ok _ _  _ hv11) (.inl rfl) (bs hy3 fun v12 hv12 hy3 => s_call rfl rfl all2_refl (ref09_drives_ok _ _ _  _ hv12) (.inl rfl) (s_val (dl eMate [v12]) rfl (v_dsliceN eMate ([v12] : List Mate) (fun _ => rfl) rfl rfl ⟨rfl, rfl, rfl, trivial⟩) (bs hy3 fun v13 hv13 hy3 => s_appendO eMate (g5.1.val, g5.2) y4.Mates v12 [] _ (elems_list (fun _ => rfl)) rfl (G_skip (neL g5.1.property rfl) (G_skip (neL g5.1.property rfl) (G_skip (neL g5.1.property rfl) G_hit))) hv13 (sp rfl rfl (s_store _ _ _ _ _ rfl rfl rfl (G_skip rfl (G_skip (neR g5.1.property rfl) (gq rfl))) (nl rfl) ((dConvoy y4).set 2 (.sl (123, u20))) rfl (s_nil (l_end ?_)))))))))))))))
 cases hy3
 exact l_j ⟨(⟨123, .tail _ (.head _)⟩, u20), (sb_of ⟨.of rfl, .of rfl, .of rfl, .of rfl, .of rfl, .of rfl, .of rfl, .of rfl, .of rfl, .of rfl, trivial⟩ (sbG_some (G_skip rfl (G_skip rfl (G_skip (neR g5.1.property rfl) G_hit))) (.of rfl) (sbG_some (G_skip rfl (G_skip rfl (G_skip (neR g5.1.property rfl) (gq rfl)))) (.of rfl) (sbG_some G_hit (.box (cv (cv (.cons (.of (oS_ne (appc_ne hv13)).symm) cw)))) (sbG_some (G_skip rfl (G_skip rfl (G_skip (neR g5.1.property rfl) (G_skip rfl (G_skip rfl (G_skip rfl (G_skip (neR g5.1.property rfl) G_hit))))))) (.of rfl) (sbG_own (gq rfl) trivial))))))⟩
 refine l_skip (l_end ?_)
 cases hy3
 exact l_j ⟨(g5.1, g5.2), (sb_of ⟨.of rfl, .of rfl, .of rfl, .of rfl, .of rfl, .of rfl, .of rfl, .of rfl, .of rfl, .of rfl, trivial⟩ (sbG_some G_hit (.of rfl) (sg rfl (sg rfl (sg rfl (sbG_oB (G_skip (neL g5.1.property rfl) (G_skip (neL g5.1.property rfl) (G_skip (neL g5.1.property rfl) (G_skip (neL g5.1.property rfl) G_hit)))) trivial))))))⟩
 rintro _ ⟨g4, q3⟩
 refine l_sub q3 (l_reg fun u21 hu21 => sv rfl (sv rfl (sv rfl (s_nil (l_nil ?_)))))
 cases hz1
 exact ⟨rfl, (g4.1, g4.2), (sb_of ⟨.of rfl, .of rfl, .of rfl, .of rfl, .of rfl, .of rfl, .of rfl, .of rfl, .of rfl, .of rfl, trivial⟩ (sbG_some G_hit (.of rfl) (sg rfl (sg rfl (sg rfl (sbG_oB (G_skip (neL g4.1.property rfl) (G_skip (neL g4.1.property rfl) (G_skip (neL g4.1.property rfl) (G_skip (neL g4.1.property rfl) G_hit)))) trivial))))))⟩
 refine l_exitN rfl ?_
 cases hz1
 obtain rfl := ez1 _ rfl
 refine ⟨nofun, awl_pop rfl (l_j ?_)⟩
 exact ⟨(g3.1, g3.2), (sb_of ⟨.of rfl, .of rfl, .of rfl, .of rfl, .of rfl, .of rfl, trivial⟩ (sbG_some G_hit (.of rfl) (sg rfl (sg rfl (sg rfl (sbG_oB (G_skip (neL g3.1.property rfl) (G_skip (neL g3.1.property rfl) (G_skip (neL g3.1.property rfl) (G_skip (neL g3.1.property rfl) G_hit)))) trivial))))))⟩
 rintro _ ⟨g2, q4⟩
 refine l_sub q4 (l_seq (lr (fun u22 hu22 => sp rfl rfl (sl rfl (gq rfl) rfl (sv rfl (sv rfl (gt rfl (fun _ => rfl) ?_)))))))
 refine g_val _ (.d (bo (!y1.1))) rfl (gw_t rfl) (fun w13 => (by simp only [gd_pos w13]; rfl)) ?_
 refine sa rfl rfl rfl (s_nil (cc rfl h (fun c7 h => ?_) (fun c7 h => ?_)))
 refine l_draw rfl fun u23 hu23 => sd rfl (v_loadG rfl (gq rfl) rfl rfl) (sv rfl (sp rfl rfl (sl rfl G_hit rfl (sd rfl (v_len rfl) (bs h fun v14 hv14 h => s_call rfl rfl all2_refl (ref09_want_ok _ _  _ hv14) (.inl rfl) (bs h fun v15 hv15 h => s_call rfl rfl all2_refl (ref09_rolls_ok _ _  _ hv15) (.inl rfl) (sp rfl rfl (sst rfl (gq rfl) ([(di y2.Tick), (di y2.Gap), (oS y2.Mates (g2.1.val, g2.2))] ++ (dGuest v15)) rfl (s_nil (l_seq (l_sub (s0 := ⟨T [(8, (.ptr (8, u1) 0)), (11, (.ptr (11, u7) 0))], G [((8, u1), some (.box 32 ((zs 13).set 2 (.d .nilS)))), ((11, u7), some (.box 32 ([(di y2.Tick), (di y2.Gap), (oS y2.Mates (g2.1.val, g2.2))] ++ (dGuest v15)))), ((g2.1.val, g2.2), oB 51 12 eMate y2.Mates)]⟩) (sb_of ⟨.of rfl, .of rfl, trivial⟩ (sg rfl (sbG_some G_hit (.of rfl) (sbG_oB (G_skip (neL g2.1.property rfl) (G_skip (neL g2.1.property rfl) (G_skip (neL g2.1.property rfl) (G_skip (neL g2.1.property rfl) (G_skip (neL g2.1.property rfl) G_hit))))) trivial)))) ?_)))))))))))
 refine l_reg fun u24 hu24 => s_val (mkAgg ([(di y2.Tick), (di y2.Gap), (oS y2.Mates (g2.1.val, g2.2))] ++ (dGuest v15))) rfl (v_loadG rfl (gq rfl) rfl rfl) (s_store _ _ _ _ _ (cellsV_mkAgg _) rfl rfl G_hit (nl rfl) ([(di y2.Tick), (di y2.Gap), (oS y2.Mates (g2.1.val, g2.2))] ++ (dGuest v15)) rfl (sv rfl (s_nil (l_ret ?_))))
 cases h
 exact fin_ok (.inr rfl) (resD2 (res_cellG rfl G_hit (nl rfl) rfl) (res_t rfl) (rf_mkAgg (rD (rD (rfL_cons (rf_oS (G_skip (neL g2.1.property rfl) (G_skip (neL g2.1.property rfl) (G_skip (neL g2.1.property rfl) G_hit)))) (rD (rD (rD (rD (rD (rD (rD (rD (rD (rD rfL_nil)))))))))))))) rf_d) (.tup (.cons (.agg (ca rfl (ca rfl (.cons ⟨oD_le, rfl⟩ (cz rfl))))) all2_refl))
 refine l_skip (lr (fun u25 hu25 => s_val (mkAgg ((dConvoy y2).set 2 (oS y2.Mates (g2.1.val, g2.2)))) rfl (v_loadG rfl (gq rfl) rfl rfl) (s_store _ _ _ _ _ (cellsV_mkAgg _) rfl rfl (gq rfl) (nl rfl) ((dConvoy y2).set 2 (oS y2.Mates (g2.1.val, g2.2))) rfl (sv rfl (s_nil (l_ret ?_))))))
 cases h
 exact fin_ok (.inr rfl) (resD2 (res_cellG rfl G_hit (nl rfl) rfl) (res_t rfl) (rf_mkAgg (rD (rD (rfL_cons (rf_oS (G_skip (neL g2.1.property rfl) (G_skip (neL g2.1.property rfl) (G_skip (neL g2.1.property rfl) (G_skip (neL g2.1.property rfl) (G_skip (neL g2.1.property rfl) G_hit)))))) (rD (rD (rD (rD (rD (rD (rD (rD (rD (rD rfL_nil)))))))))))))) rf_d) (.tup (.cons (.agg (ca rfl (ca rfl (.cons ⟨oD_le, rfl⟩ (cz rfl))))) all2_refl))

noncomputable def ref09_Same_l1 (p1 : Convoy) (p2 : Convoy) (x1 : Int) : Option (Stp Int (Sum Unit Bool)) :=
  cond (decide (x1 < (p1.Mates.length : Int))) ((geti p1.Mates x1).bind fun v1 => (geti p2.Mates x1).bind fun v2 => cond (!(v1.ID == v2.ID && (v1.S == v2.S && (v1.V == v2.V && (v1.Len == v2.Len && (v1.Ahead == v2.Ahead && (v1.Guess_.R == v2.Guess_.R && (v1.Guess_.V == v2.Guess_.V && (v1.Trust == v2.Trust && (v1.Ward == v2.Ward && (v1.WardGuess.R == v2.WardGuess.R && (v1.WardGuess.V == v2.WardGuess.V && (v1.Until == v2.Until && true))))))))))))) (some (.out (.inr false))) (some (.go (w64 (x1 + 1))))) (some (.out (.inl ())))
noncomputable def ref09_Same (p1 : Convoy) (p2 : Convoy) : Option Bool :=
  cond ((((p1.Tick != p2.Tick) || (p1.Gap != p2.Gap)) || (!(p1.Guest_.ID == p2.Guest_.ID && (p1.Guest_.S == p2.Guest_.S && (p1.Guest_.V == p2.Guest_.V && (p1.Guest_.Len == p2.Guest_.Len && (p1.Guest_.End == p2.Guest_.End && (p1.Guest_.Ahead == p2.Guest_.Ahead && (p1.Guest_.Guess_.R == p2.Guest_.Guess_.R && (p1.Guest_.Guess_.V == p2.Guest_.Guess_.V && (p1.Guest_.From == p2.Guest_.From && (p1.Guest_.Until == p2.Guest_.Until && true)))))))))))) || ((p1.Mates.length : Int) != (p2.Mates.length : Int))) (some false) (thenS (loop (ref09_Same_l1 p1 p2) 0) (fun _ => some true) (fun r => some r))

theorem ref09_Same_ok (p1 : Convoy) (p2 : Convoy) (r : Bool) (h : ref09_Same p1 p2 = some r) : PCall Tryz.prog 17 [(.agg (eConvoy p1)), (.agg (eConvoy p2))] (bo r) := by
 refine l_call (fk Tryz.func17 Tryz.ntmps17 m0 (by with_unfolding_all rfl)) (nl rfl) ?_
 unfold ref09_Same at h
 refine l_sub (s0 := ⟨T [(0, (.d _)), (1, (.d _))], G []⟩) (sbr rfl rfl) ?_
 refine lr (fun u1 hu1 => sn rfl rfl (sn rfl rfl (sv rfl (s_nil (l_seq (lr (fun u2 hu2 => sp rfl rfl (sl rfl (gq rfl) rfl (sp rfl rfl (sl rfl G_hit rfl (sv rfl (sv rfl (gp rfl (gw_f rfl) (fun _ => rfl) (gf rfl (vl rfl (gq rfl) rfl) (gp rfl (gw_f rfl) (fun _ => rfl) (gf rfl (vl rfl G_hit rfl) (gf rfl (fun w5 => (v_bin (gd_pos w5) (gd_pos w5) rfl)) (sd rfl (v_or rfl rfl (fun hc => gd_pos (not_t hc))) (sv rfl (gp rfl (gw_f rfl) (fun _ => rfl) (gf rfl (fun w7 => (v_loadG (gd_pos w7) (gq rfl) rfl rfl)) (gp rfl (gw_f rfl) (fun _ => rfl) (gf rfl (fun w9 => (v_loadG (gd_pos w9) G_hit rfl rfl)) ?_)))))))))))))))))))))))
 refine g_val _ (.d (bo (!(p1.Guest_.ID == p2.Guest_.ID && (p1.Guest_.S == p2.Guest_.S && (p1.Guest_.V == p2.Guest_.V && (p1.Guest_.Len == p2.Guest_.Len && (p1.Guest_.End == p2.Guest_.End && (p1.Guest_.Ahead == p2.Guest_.Ahead && (p1.Guest_.Guess_.R == p2.Guest_.Guess_.R && (p1.Guest_.Guess_.V == p2.Guest_.Guess_.V && (p1.Guest_.From == p2.Guest_.From && (p1.Guest_.Until == p2.Guest_.Until && true))))))))))))) rfl (gw_f rfl) (fun w10 => (by simp only [gd_pos w10]; rfl)) ?_
 refine sd rfl (v_or rfl rfl (fun hc => gd_pos (not_t hc))) (sv rfl (gp rfl (gw_f rfl) (fun _ => rfl) (gf rfl (vl rfl (gq rfl) rfl) (gf rfl (fun w13 => (v_len (gd_pos w13))) (gp rfl (gw_f rfl) (fun _ => rfl) (gf rfl (vl rfl G_hit rfl) (gf rfl (fun w16 => (v_len (gd_pos w16))) (gf rfl (fun w17 => (v_bin (gd_pos w17) (gd_pos w17) rfl)) (sd rfl (v_or rfl rfl (fun hc => gd_pos (not_t hc))) (s_nil (cc rfl h (fun c1 h => ?_) (fun c1 h => ?_))))))))))))
 refine l_seq (l_sub (s0 := ⟨T [], G []⟩) (sbr rfl rfl) ?_)
 refine l_reg fun u3 hu3 => sv rfl (s_nil (l_ret ?_))
 cases h
 exact fin_ok (.inr rfl) (resD1 (res_t rfl) rf_d) (.refl _)
 refine l_skip (l_seq (l_seq (l_sub (s0 := ⟨T [(2, (.ptr _ _)), (3, (.ptr _ _))], G [((2, u1), some (.box 32 _)), ((3, u1), some (.box 32 _))]⟩) (sbr rfl rfl) ?_)))
 refine l_reg fun u4 hu4 => sv rfl (s_nil (js h fun z1 hz1 h => l_join (fun s => ∃ (y1 : Unit) (g1 : Unit), z1 = .inl y1 ∧ Sb ⟨T [], G []⟩ s) ?_ ?_))
 refine l_block (l_loop (ref09_Same_l1 p1 p2) (fun (x1 : Int) (g2 : Unit) => ⟨T [(2, (.ptr (2, u1) 0)), (3, (.ptr (3, u1) 0)), (5, (di x1))], G [((2, u1), some (.box 32 (dConvoy p1))), ((3, u1), some (.box 32 (dConvoy p2)))]⟩) 0 () _ hz1 (sbr rfl rfl) ?_)
 intro x1 g2 z2 hz2 ez2
 unfold ref09_Same_l1 at hz2
 refine l_seq (lr (fun u5 hu5 => sv rfl (sp rfl rfl (sl rfl G_hit rfl (sd rfl (v_len rfl) (sv rfl (s_nil (cc rfl hz2 (fun c2 hz2 => ?_) (fun c2 hz2 => ?_)))))))))
 refine l_skip (l_seq (l_block (l_seq (l_draw rfl fun u6 hu6 => sp rfl rfl (sl rfl G_hit rfl (sv rfl (bs hz2 fun v1 hv1 hz2 => sd rfl (v_idx rfl rfl hv1 rfl) (sd rfl (v_loadLG rfl hv1 rfl rfl) (sp rfl rfl (sl rfl (gq rfl) rfl (sv rfl (bs hz2 fun v2 hv2 hz2 => sd rfl (v_idx rfl rfl hv2 rfl) (sd rfl (v_loadLG rfl hv2 rfl rfl) (s_val (.d (bo (!(v1.ID == v2.ID && (v1.S == v2.S && (v1.V == v2.V && (v1.Len == v2.Len && (v1.Ahead == v2.Ahead && (v1.Guess_.R == v2.Guess_.R && (v1.Guess_.V == v2.Guess_.V && (v1.Trust == v2.Trust && (v1.Ward == v2.Ward && (v1.WardGuess.R == v2.WardGuess.R && (v1.WardGuess.V == v2.WardGuess.V && (v1.Until == v2.Until && true))))))))))))))) rfl rfl (s_nil (cc rfl hz2 (fun c3 hz2 => ?_) (fun c3 hz2 => ?_)))))))))))))))))
 refine lr (fun u7 hu7 => sv rfl (s_nil (l_ret ?_)))
 cases hz2
 obtain rfl := ez2 _ rfl
 refine ⟨nofun, awl_ret ?_⟩
 rw [Sum.elim_inr] at h
 cases h
 exact fin_ok (.inr rfl) (resD1 (res_t rfl) rf_d) (.refl _)
 refine l_skip (l_end (l_reg fun u8 hu8 => sv rfl (sv rfl (sv rfl (s_nil (l_nil ?_))))))
 cases hz2
 exact ⟨rfl, (), (sbr rfl rfl)⟩
 refine l_exitN rfl ?_
 cases hz2
 obtain rfl := ez2 _ rfl
 refine ⟨nofun, awl_pop rfl (l_j ?_)⟩
 exact ⟨_, (), rfl, (sbr rfl rfl)⟩
 rintro _ ⟨y1, g1, rfl, q1⟩
 rw [Sum.elim_inl] at h
 refine l_sub q1 (lr (fun u9 hu9 => sv rfl (s_nil (l_ret ?_))))
 cases h
 exact fin_ok (.inr rfl) (resD1 (res_t rfl) rf_d) (.refl _)

noncomputable def convoy_New_l1 (p2 : (List Mate)) (x1 : (Int × Convoy)) : Option (Stp (Int × Convoy) Convoy) :=
  cond (decide (x1.1 < (p2.length : Int))) ((geti p2 x1.1).bind fun v1 => (cond (decide (x1.1 > 0)) ((geti p2 (w64 (x1.1 - 1))).bind fun v2 => (geti p2 (w64 (x1.1 - 1))).bind fun v3 => (geti p2 (w64 (x1.1 - 1))).bind fun v4 => some (Mate.mk (w64 (x1.1 + 1)) v1.S v1.V v1.Len x1.1 (Guess.mk (w64 (v2.S - v3.Len)) v4.V) true 0 (Guess.mk 0 0) 0)) (some (Mate.mk (w64 (x1.1 + 1)) v1.S v1.V v1.Len 0 (Guess.mk 0 0) true 0 (Guess.mk 0 0) 0))).bind fun y2 => (appc x1.2.Mates [y2]).bind fun v5 => some (.go ((w64 (x1.1 + 1)), (Convoy.mk x1.2.Tick x1.2.Gap v5 x1.2.Guest_)))) (some (.out x1.2))
noncomputable def convoy_New (p1 : Int) (p2 : (List Mate)) : Option (Convoy × Int) :=
  (loop (convoy_New_l1 p2) (0, (Convoy.mk 0 p1 [] (Guest.mk 0 0 0 0 0 0 (Guess.mk 0 0) 0 0)))).bind fun y1 => (convoy_Check y1).bind fun v6 => cond (v6 != 0) (some ((Convoy.mk 0 0 [] (Guest.mk 0 0 0 0 0 0 (Guess.mk 0 0) 0 0)), v6)) (some (y1, 0))

theorem convoy_New_ok (p1 : Int) (p2 : (List Mate)) (r : (Convoy × Int)) (h : convoy_New p1 p2 = some r) : PCall Tryz.prog 88 [(i64 p1), (.list (List.map eMate p2))] (.tup [(.agg (eConvoy r.1)), (i64 r.2)]) := by
 refine l_call (fk Tryz.func88 Tryz.ntmps88 (fun r => if r == 8 then [1003] else []) (by with_unfolding_all rfl)) (nl rfl) ?_
 unfold convoy_New at h
 refine l_sub (s0 := ⟨T [(0, (.d _)), (1, (.d _))], G []⟩) (sbr rfl rfl) ?_
 refine lr (fun u1 hu1 => sn rfl rfl (sv rfl (s_nil (lr (fun u2 hu2 => sv rfl (sv rfl (sn rfl rfl (sst rfl G_hit (((zs 13).set 1 (di p1)).set 2 (.d .nilS)) rfl (s_nil (l_seq (lr (fun u3 hu3 => sv rfl (sd rfl (v_len rfl) (sv rfl (s_nil (bs h fun y1 hy1 h => l_join (fun s => ∃ g1 : Nat, Sb ⟨T [(4, (.ptr (4, u1) 0)), (6, (.ptr (6, u2) 0))], G [((4, u1), some (.box 32 ((zs 13).set 2 (.d .nilS)))), ((6, u2), some (.box 32 ((dConvoy y1).set 2 (oS y1.Mates (58, g1))))), ((58, g1), oB 51 12 eMate y1.Mates)]⟩ s) ?_ ?_))))))))))))))))
 refine l_block (l_loop (convoy_New_l1 p2) (fun (x1 : (Int × Convoy)) (g2 : Nat) => ⟨T [(1, (dl eMate p2)), (4, (.ptr (4, u1) 0)), (6, (.ptr (6, u2) 0)), (13, (dl eMate p2)), (14, (di (p2.length : Int))), (15, (di x1.1))], G [((4, u1), some (.box 32 ((zs 13).set 2 (.d .nilS)))), ((6, u2), some (.box 32 ((dConvoy x1.2).set 2 (oS x1.2.Mates (58, g2))))), ((58, g2), oB 51 12 eMate x1.2.Mates)]⟩) (0, (Convoy.mk 0 p1 [] (Guest.mk 0 0 0 0 0 0 (Guess.mk 0 0) 0 0))) 0 _ hy1 (sb_of ⟨.of rfl, .of rfl, .of rfl, .of rfl, .of rfl, .of rfl, trivial⟩ (sg rfl (sbG_some G_hit (.of rfl) (sbG_nil trivial)))) ?_)
 intro x1 g2 z1 hz1 ez1
 unfold convoy_New_l1 at hz1
 refine lr (fun u4 hu4 => sv rfl (s_nil (l_seq (cc rfl hz1 (fun c1 hz1 => ?_) (fun c1 hz1 => ?_)))))
 refine l_skip (l_seq (l_block (lr (fun u5 hu5 => sv rfl (bs hz1 fun v1 hv1 hz1 => sd rfl (v_idx rfl rfl hv1 rfl) (sd rfl (v_loadLG rfl hv1 rfl rfl) (sn rfl rfl (sv rfl (sst rfl G_hit (dMate v1) rfl (s_nil (lr (fun u6 hu6 => sv rfl (sv rfl (sp rfl rfl (sl rfl G_hit rfl (sp rfl rfl (sl rfl G_hit rfl (sp rfl rfl (sl rfl G_hit rfl (sv rfl (sn rfl rfl (sst rfl G_hit ([(di (w64 (x1.1 + 1))), (di v1.S), (di v1.V), (di v1.Len)] ++ ((zs 8).set 3 (.d (bo true)))) rfl (s_nil (l_seq (l_seq (l_sub (s0 := ⟨T [(1, (dl eMate p2)), (4, (.ptr (4, u1) 0)), (6, (.ptr (6, u2) 0)), (7, (di x1.1)), (9, (.ptr (9, u6) 0)), (13, (dl eMate p2)), (14, (di (p2.length : Int))), (15, (di x1.1))], G [((4, u1), some (.box 32 ((zs 13).set 2 (.d .nilS)))), ((6, u2), some (.box 32 ((dConvoy x1.2).set 2 (oS x1.2.Mates (58, g2))))), ((58, g2), oB 51 12 eMate x1.2.Mates), ((9, u6), some (.box 51 ([(di (w64 (x1.1 + 1))), (di v1.S), (di v1.V), (di v1.Len)] ++ ((zs 8).set 3 (.d (bo true))))))]⟩) (sb_of ⟨.of rfl, .of rfl, .of rfl, .of rfl, .of rfl, .of rfl, .of rfl, .of rfl, trivial⟩ (sg rfl (sg rfl (sbG_oB (gq rfl) (sbG_some G_hit (.of rfl) trivial))))) ?_))))))))))))))))))))))))))
 refine l_reg fun u7 hu7 => sv rfl (sv rfl (s_nil (bs hz1 fun y2 hy2 hz1 => l_join (fun s => ∃ g3 : Unit, Sb ⟨T [(1, (dl eMate p2)), (4, (.ptr (4, u1) 0)), (6, (.ptr (6, u2) 0)), (9, (.ptr (9, u6) 0)), (13, (dl eMate p2)), (14, (di (p2.length : Int))), (15, (di x1.1))], G [((4, u1), some (.box 32 ((zs 13).set 2 (.d .nilS)))), ((6, u2), some (.box 32 ((dConvoy x1.2).set 2 (oS x1.2.Mates (58, g2))))), ((9, u6), some (.box 51 (dMate y2))), ((58, g2), oB 51 12 eMate x1.2.Mates)]⟩ s) ?_ ?_)))
 refine cc rfl hy2 (fun c2 hy2 => ?_) (fun c2 hy2 => ?_)
 refine l_drawT fun u8 hu8 => t_val (.d _) rfl rfl (t_val (.d _) rfl rfl (t_val (.d _) rfl rfl (t_val (.d _) rfl rfl (bs hy2 fun v2 hv2 hy2 => t_val (.d _) rfl (v_idx rfl rfl hv2 rfl) (t_val (.d _) rfl rfl (t_val (.d _) rfl (v_loadL rfl hv2 rfl) (t_val (.d _) rfl rfl (t_val (.d _) rfl rfl (t_val (.d _) rfl rfl (bs hy2 fun v3 hv3 hy2 => t_val (.d _) rfl (v_idx rfl rfl hv3 rfl) (t_val (.d _) rfl rfl (t_val (.d _) rfl (v_loadL rfl hv3 rfl) (t_val (.d _) rfl rfl (t_val (.d _) rfl rfl (t_val (.d _) rfl rfl (t_val (.d _) rfl rfl (bs hy2 fun v4 hv4 hy2 => t_val (.d _) rfl (v_idx rfl rfl hv4 rfl) (t_val (.d _) rfl rfl (t_val (.d _) rfl (v_loadL rfl hv4 rfl) (t_val (.d _) rfl rfl (t_val (.ptr _ _) rfl rfl (t_store _ _ _ _ _ rfl rfl rfl (gq rfl) (nl rfl) ([(di (w64 (x1.1 + 1))), (di v1.S), (di v1.V), (di v1.Len), (di x1.1)] ++ ((zs 7).set 2 (.d (bo true)))) rfl (t_val (.ptr _ _) rfl rfl (t_store _ _ _ _ _ rfl rfl rfl G_hit (nl rfl) ([(di (w64 (x1.1 + 1))), (di v1.S), (di v1.V), (di v1.Len), (di x1.1), (di (w64 (v2.S - v3.Len))), (di v4.V), (.d (bo true))] ++ (zs 4)) rfl (t_nil ⟨rfl, ?_⟩)))))))))))))))))))))))))
 cases hy2
 exact l_j ⟨(), (sb_of ⟨.of rfl, .of rfl, .of rfl, .of rfl, .of rfl, .of rfl, .of rfl, trivial⟩ (sg rfl (sg rfl (sbG_some G_hit (.of rfl) (sbG_oB (gq rfl) trivial)))))⟩
 refine l_skip ?_
 cases hy2
 exact l_j ⟨(), (sb_of ⟨.of rfl, .of rfl, .of rfl, .of rfl, .of rfl, .of rfl, .of rfl, trivial⟩ (sbG_some G_hit (.of rfl) (sg rfl (sg rfl (sbG_oB (gq rfl) trivial)))))⟩
 rintro _ ⟨g3, q1⟩
 refine l_sub q1 (l_reg fun u9 hu9 => sp rfl rfl (s_val (oS x1.2.Mates (58, g2)) rfl (v_load rfl (gq rfl) rfl) (sd rfl (v_loadG rfl (gq rfl) rfl rfl) (s_val (dl eMate [y2]) rfl (v_dsliceN eMate ([y2] : List Mate) (fun _ => rfl) rfl rfl ⟨rfl, rfl, rfl, trivial⟩) (bs hz1 fun v5 hv5 hz1 => s_appendO eMate (58, g2) x1.2.Mates y2 [] _ (elems_list (fun _ => rfl)) rfl (gq rfl) hv5 (sp rfl rfl (sst rfl (gq rfl) ((dConvoy x1.2).set 2 (.sl (58, u9))) rfl (s_nil (l_end (l_reg fun u10 hu10 => sv rfl (sv rfl (s_nil (l_nil ?_)))))))))))))
 cases hz1
 exact ⟨rfl, u9, (sb_of ⟨.of rfl, .of rfl, .of rfl, .of rfl, .of rfl, .of rfl, trivial⟩ (sg rfl (sbG_some G_hit (.box (cv (cv (.cons (.of (oS_ne (appc_ne hv5)).symm) cw)))) (sbG_own (gq rfl) trivial))))⟩
 refine l_exitN rfl ?_
 cases hz1
 obtain rfl := ez1 _ rfl
 refine ⟨nofun, awl_pop rfl (l_j ?_)⟩
 exact ⟨g2, (sb_of ⟨.of rfl, .of rfl, trivial⟩ (sbG_some G_hit (.of rfl) (sg rfl (sbG_oB (gq rfl) trivial))))⟩
 rintro _ ⟨g1, q2⟩
 refine l_sub q2 (l_seq (lr (fun u11 hu11 => s_val (mkAgg ((dConvoy y1).set 2 (oS y1.Mates (58, g1)))) rfl (v_loadG rfl (gq rfl) rfl rfl) (bs h fun v6 hv6 h => s_call rfl (rfL_cons (rf_mkAgg (rD (rD (rfL_cons (rf_oS (gq rfl)) (rD (rD (rD (rD (rD (rD (rD (rD (rD (rD rfL_nil)))))))))))))) rfL_nil) (.cons (.agg (ca rfl (ca rfl (.cons ⟨oD_le, rfl⟩ (cz rfl))))) .nil) (convoy_Check_ok _  _ hv6) (.inr rfl) (sv rfl (s_nil (lr (fun u12 hu12 => sv rfl (sv rfl (s_nil (cc rfl h (fun c3 h => ?_) (fun c3 h => ?_))))))))))))
 refine lr (fun u13 hu13 => sv rfl (sv rfl (sst rfl G_hit ((zs 13).set 2 (.d .nilS)) rfl (sv rfl (s_nil (l_ret ?_))))))
 cases h
 exact fin_ok (.inr rfl) (resD2 (res_cellG rfl G_hit (nl rfl) rfl) (res_t rfl) rf_d rf_d) (.tup (.cons (.agg (ca rfl (ca rfl (.cons ⟨DLe.nil, rfl⟩ (cz rfl))))) all2_refl))
 refine l_skip (lr (fun u14 hu14 => s_val (mkAgg ((dConvoy y1).set 2 (oS y1.Mates (58, g1)))) rfl (v_loadG rfl (gq rfl) rfl rfl) (s_store _ _ _ _ _ (cellsV_mkAgg _) rfl rfl G_hit (nl rfl) ((dConvoy y1).set 2 (oS y1.Mates (58, g1))) rfl (sv rfl (s_nil (l_ret ?_))))))
 cases h
 exact fin_ok (.inr rfl) (resD2 (res_cellG rfl G_hit (nl rfl) rfl) (res_t rfl) (rf_mkAgg (rD (rD (rfL_cons (rf_oS (gq rfl)) (rD (rD (rD (rD (rD (rD (rD (rD (rD (rD rfL_nil)))))))))))))) rf_d) (.tup (.cons (.agg (ca rfl (ca rfl (.cons ⟨oD_le, rfl⟩ (cz rfl))))) all2_refl))

noncomputable def law09_shown : Option Convoy :=
  (convoy_New 1000 [(Mate.mk 0 50000 1000 4000 0 (Guess.mk 0 0) false 0 (Guess.mk 0 0) 0), (Mate.mk 0 40000 1000 4000 0 (Guess.mk 0 0) false 0 (Guess.mk 0 0) 0)]).bind fun v1 => cond ((v1.2 != 0) || ((v1.1.Mates.length : Int) != 2)) (some (Convoy.mk 0 0 [] (Guest.mk 0 0 0 0 0 0 (Guess.mk 0 0) 0 0))) (some v1.1)

theorem law09_shown_ok (r : Convoy) (h : law09_shown = some r) : PCall Tryz.prog 47 [] (.agg (eConvoy r)) := by
 refine l_call (fk Tryz.func47 Tryz.ntmps47 (fun r => if r == 1 then [1002] else []) (by with_unfolding_all rfl)) (nl rfl) ?_
 unfold law09_shown at h
 refine l_sub (s0 := ⟨T [], G []⟩) (sbr rfl rfl) ?_
 refine lr (fun u1 hu1 => sn rfl rfl (s_nil (lr (fun u2 hu2 => sv rfl (sv rfl (s_val (dl eMate [(Mate.mk 0 50000 1000 4000 0 (Guess.mk 0 0) false 0 (Guess.mk 0 0) 0), (Mate.mk 0 40000 1000 4000 0 (Guess.mk 0 0) false 0 (Guess.mk 0 0) 0)]) rfl (v_dsliceN eMate ([(Mate.mk 0 50000 1000 4000 0 (Guess.mk 0 0) false 0 (Guess.mk 0 0) 0), (Mate.mk 0 40000 1000 4000 0 (Guess.mk 0 0) false 0 (Guess.mk 0 0) 0)] : List Mate) (fun _ => rfl) rfl rfl ⟨rfl, rfl, rfl, rfl, rfl, rfl, trivial⟩) (bs h fun v1 hv1 h => s_call rfl rfl all2_refl (convoy_New_ok _ _  _ hv1) (.inl rfl) (sv rfl (sv rfl (sv rfl (sn rfl rfl (sst rfl G_hit (dConvoy v1.1) rfl (sv rfl (s_nil (l_seq (lr (fun u3 hu3 => sv rfl (sv rfl (sv rfl (gp rfl (gw_f rfl) (fun _ => rfl) (gf rfl (vl rfl G_hit rfl) (gf rfl (fun w3 => (v_len (gd_pos w3))) (gf rfl (vb rfl rfl rfl) (sd rfl (v_or rfl rfl (fun hc => gd_pos (not_t hc))) (s_nil (cc rfl h (fun c1 h => ?_) (fun c1 h => ?_)))))))))))))))))))))))))))
 refine lr (fun u4 hu4 => sv rfl (sst rfl (gq rfl) ((zs 13).set 2 (.d .nilS)) rfl (s_nil (l_ret ?_))))
 cases h
 exact fin_ok (.inr rfl) (resD1 (res_cellG rfl G_hit (nl rfl) rfl) rf_d) (.agg (ca rfl (ca rfl (.cons ⟨DLe.nil, rfl⟩ (cz rfl)))))
 refine l_skip (lr (fun u5 hu5 => sd rfl (v_loadG rfl G_hit rfl rfl) (sst rfl (gq rfl) (dConvoy v1.1) rfl (s_nil (l_ret ?_)))))
 cases h
 exact fin_ok (.inr rfl) (resD1 (res_cellG rfl G_hit (nl rfl) rfl) rf_d) (.refl _)

noncomputable def convoy_find_1_b (p1 : Mate) (p2 : Int) : Option Bool :=
  some (p1.ID == p2)

theorem convoy_find_1_b_ok (p1 : Mate) (p2 : Int) (r : Bool) (h : convoy_find_1_b p1 p2 = some r) : PCall Tryz.prog 113 [(.agg (eMate p1)), (.bp [(i64 p2)] 0)] (bo r) := by
 refine l_call (fk Tryz.func113 Tryz.ntmps113 m0 (by with_unfolding_all rfl)) (nl rfl) ?_
 unfold convoy_find_1_b at h
 refine l_sub (s0 := ⟨T [(0, (.d _)), (1, (.d _))], G []⟩) (sbr rfl rfl) ?_
 refine lr (fun u1 hu1 => sn rfl rfl (sv rfl (s_nil (lr (fun u2 hu2 => sp rfl rfl (sl rfl G_hit rfl (sv rfl (sv rfl (sv rfl (s_nil (l_ret ?_)))))))))))
 cases h
 exact fin_ok (.inr rfl) (resD1 (res_t rfl) rf_d) (.refl _)

noncomputable def slices_IndexFunc_Mate_Mate_convoy_find_1b_l1 (p1 : (List Mate)) (p2 : Int) (x1 : Int) : Option (Stp Int (Sum Unit Int)) :=
  cond (decide (x1 < (p1.length : Int))) ((geti p1 x1).bind fun v1 => (convoy_find_1_b v1 p2).bind fun v2 => cond v2 (some (.out (.inr x1))) (some (.go (w64 (x1 + 1))))) (some (.out (.inl ())))
noncomputable def slices_IndexFunc_Mate_Mate_convoy_find_1b (p1 : (List Mate)) (p2 : Int) : Option Int :=
  thenS (loop (slices_IndexFunc_Mate_Mate_convoy_find_1b_l1 p1 p2) 0) (fun _ => some (-1)) (fun r => some r)

theorem slices_IndexFunc_Mate_Mate_convoy_find_1b_ok (p1 : (List Mate)) (p2 : Int) (r : Int) (h : slices_IndexFunc_Mate_Mate_convoy_find_1b p1 p2 = some r) : PCall Tryz.prog 62 [(.list (List.map eMate p1)), (.fn (.func 113) [] [(.bp [(i64 p2)] 0)])] (i64 r) := by
 refine l_call (fk Tryz.func62 Tryz.ntmps62 m0 (by with_unfolding_all rfl)) (nl rfl) ?_
 unfold slices_IndexFunc_Mate_Mate_convoy_find_1b at h
 refine l_sub (s0 := ⟨T [(0, (.d _)), (1, (.d _))], G []⟩) (sbr rfl rfl) ?_
 refine lr (fun u1 hu1 => sv rfl (s_nil (l_seq (lr (fun u2 hu2 => sv rfl (sd rfl (v_len rfl) (sv rfl (s_nil (js h fun z1 hz1 h => l_join (fun s => ∃ (y1 : Unit) (g1 : Unit), z1 = .inl y1 ∧ Sb ⟨T [], G []⟩ s) ?_ ?_)))))))))
 refine l_block (l_loop (slices_IndexFunc_Mate_Mate_convoy_find_1b_l1 p1 p2) (fun (x1 : Int) (g2 : Unit) => ⟨T [(0, (dl eMate p1)), (1, (.d (.fn (.func 113) [] [(.bp [(i64 p2)] 0)]))), (7, (di (p1.length : Int))), (8, (di x1))], G []⟩) 0 () _ hz1 (sbr rfl rfl) ?_)
 intro x1 g2 z2 hz2 ez2
 unfold slices_IndexFunc_Mate_Mate_convoy_find_1b_l1 at hz2
 refine lr (fun u3 hu3 => sv rfl (s_nil (l_seq (cc rfl hz2 (fun c1 hz2 => ?_) (fun c1 hz2 => ?_)))))
 refine l_skip (l_seq (l_block (lr (fun u4 hu4 => sv rfl (sv rfl (s_nil (lr (fun u5 hu5 => sv rfl (sv rfl (sv rfl (bs hz2 fun v1 hv1 hz2 => sd rfl (v_idx rfl rfl hv1 rfl) (sd rfl (v_loadLG rfl hv1 rfl rfl) (bs hz2 fun v2 hv2 hz2 => s_call rfl rfl all2_refl (convoy_find_1_b_ok _ _  _ hv2) (.inl rfl) (s_nil (cc rfl hz2 (fun c2 hz2 => ?_) (fun c2 hz2 => ?_))))))))))))))))
 refine lr (fun u6 hu6 => sv rfl (sv rfl (s_nil (l_ret ?_))))
 cases hz2
 obtain rfl := ez2 _ rfl
 refine ⟨nofun, awl_ret ?_⟩
 rw [Sum.elim_inr] at h
 cases h
 exact fin_ok (.inr rfl) (resD1 (res_t rfl) rf_d) (.refl _)
 refine l_skip (l_end (l_reg fun u7 hu7 => sv rfl (sv rfl (s_nil (l_nil ?_)))))
 cases hz2
 exact ⟨rfl, (), (sbr rfl rfl)⟩
 refine l_exitN rfl ?_
 cases hz2
 obtain rfl := ez2 _ rfl
 refine ⟨nofun, awl_pop rfl (l_j ?_)⟩
 exact ⟨_, (), rfl, (sbr rfl rfl)⟩
 rintro _ ⟨y1, g1, rfl, q1⟩
 rw [Sum.elim_inl] at h
 refine l_sub q1 (lr (fun u8 hu8 => sv rfl (s_nil (l_ret ?_))))
 cases h
 exact fin_ok (.inr rfl) (resD1 (res_t rfl) rf_d) (.refl _)

noncomputable def convoy_find (p1 : (List Mate)) (p2 : Int) : Option Int :=
  (slices_IndexFunc_Mate_Mate_convoy_find_1b p1 p2).bind fun v1 => some v1

theorem convoy_find_ok (p1 : (List Mate)) (p2 : Int) (r : Int) (h : convoy_find p1 p2 = some r) : PCall Tryz.prog 91 [(.list (List.map eMate p1)), (i64 p2)] (i64 r) := by
 refine l_call (fk Tryz.func91 Tryz.ntmps91 m0 (by with_unfolding_all rfl)) (nl rfl) ?_
 unfold convoy_find at h
 refine l_sub (s0 := ⟨T [(0, (.d _)), (1, (.d _))], G []⟩) (sbr rfl rfl) ?_
 refine lr (fun u1 hu1 => sn rfl rfl (sv rfl (s_nil (lr (fun u2 hu2 => sv rfl (s_val (.fn _ _ _) rfl rfl (bs h fun v1 hv1 h => s_call rfl (rD (rfL_cons (rf_fn rfL_nil (rfL_cons (rf_ptr G_hit (rD rfL_nil)) rfL_nil)) rfL_nil)) all2_refl (slices_IndexFunc_Mate_Mate_convoy_find_1b_ok _ _  _ hv1) (.inr rfl) (sv rfl (s_nil (l_ret ?_))))))))))
 cases h
 exact fin_ok (.inr rfl) (resD1 (res_t rfl) rf_d) (.refl _)

noncomputable def convoy_Below (p1 : Guess) (p2 : Int) (p3 : Int) : Option Bool :=
  (convoy_sane [p1.R, p1.V, p2, p3]).bind fun v1 => ((cond (v1 && (decide (p1.R ≤ p2))) (convoy_end p1) (some default))).bind fun v2 => ((cond (v1 && (decide (p1.R ≤ p2))) (convoy_stop p3) (some default))).bind fun v3 => some ((v1 && (decide (p1.R ≤ p2))) && (decide (v2 ≤ (w64 (p2 + v3)))))

theorem convoy_Below_ok (p1 : Guess) (p2 : Int) (p3 : Int) (r : Bool) (h : convoy_Below p1 p2 p3 = some r) : PCall Tryz.prog 92 [(.agg [(i64 p1.R), (i64 p1.V)]), (i64 p2), (i64 p3)] (bo r) := by
 refine l_call (fk Tryz.func92 Tryz.ntmps92 (fun r => if r == 1 then [1006] else []) (by with_unfolding_all rfl)) (nl rfl) ?_
 unfold convoy_Below at h
 refine l_sub (s0 := ⟨T [(0, (.d _)), (1, (.d _)), (2, (.d _))], G []⟩) (sbr rfl rfl) ?_
 refine lr (fun u1 hu1 => sn rfl rfl (sv rfl (s_nil (lr (fun u2 hu2 => sp rfl rfl (sl rfl G_hit rfl (sp rfl rfl (sl rfl G_hit rfl (sv rfl (sv rfl (s_val (dl eInt_i64 [p1.R, p1.V, p2, p3]) rfl rfl (bs h fun v1 hv1 h => s_call rfl rfl all2_refl (convoy_sane_ok _  _ hv1) (.inl rfl) (sv rfl (gp rfl (gw_t rfl) (fun _ => rfl) (gt rfl (vl rfl G_hit rfl) (gt rfl (fun _ => rfl) (gt rfl (fun w4 => (v_bin (gd_pos w4) (gd_pos w4) rfl)) (sa rfl rfl rfl (sv rfl (gt rfl (fun w5 => (v_loadG rfl G_hit rfl rfl)) (bs h fun v2 hv2 h => ?_)))))))))))))))))))))
 refine g_call _ (i64 v2) (gw_t rfl) (fun w6 => ⟨_, [(.d (.agg [(i64 p1.R), (i64 p1.V)]))], _, _, (by simp only [gd_pos w6]; rfl), rfl, all2_refl, convoy_end_ok _  _ (cond_t w6 hv2), (.inl rfl)⟩) ?_
 refine gt rfl (fun _ => rfl) (gt rfl (fun _ => rfl) (bs h fun v3 hv3 h => ?_))
 refine g_call _ (i64 v3) (gw_t rfl) (fun w9 => ⟨_, [(di p3)], _, _, (by simp only [gd_pos w9]; rfl), rfl, all2_refl, convoy_stop_ok _  _ (cond_t w9 hv3), (.inl rfl)⟩) ?_
 refine gt rfl (fun w10 => (v_bin (gd_pos w10) (gd_pos w10) rfl)) (gt rfl (fun w11 => (v_bin (gd_pos w11) (gd_pos w11) rfl)) (sa rfl rfl rfl (sv rfl (s_nil (l_ret ?_)))))
 cases h
 exact fin_ok (.inr rfl) (resD1 (res_t rfl) rf_d) (.refl _)

noncomputable def convoy_holds (p1 : (List Mate)) (p2 : Int) (p3 : Guess) : Option Bool :=
  (convoy_find p1 p2).bind fun v1 => ((cond (decide (v1 ≥ 0)) (geti p1 v1) (some default))).bind fun v2 => ((cond (decide (v1 ≥ 0)) (convoy_rear v2) (some default))).bind fun v3 => ((cond (decide (v1 ≥ 0)) (geti p1 v1) (some default))).bind fun v4 => ((cond (decide (v1 ≥ 0)) (convoy_Below p3 v3 v4.V) (some default))).bind fun v5 => some ((decide (v1 ≥ 0)) && v5)

theorem convoy_holds_ok (p1 : (List Mate)) (p2 : Int) (p3 : Guess) (r : Bool) (h : convoy_holds p1 p2 p3 = some r) : PCall Tryz.prog 90 [(.list (List.map eMate p1)), (i64 p2), (.agg [(i64 p3.R), (i64 p3.V)])] (bo r) := by
 refine l_call (fk Tryz.func90 Tryz.ntmps90 m0 (by with_unfolding_all rfl)) (nl rfl) ?_
 unfold convoy_holds at h
 refine l_sub (s0 := ⟨T [(0, (.d _)), (1, (.d _)), (2, (.d _))], G []⟩) (sbr rfl rfl) ?_
 refine lr (fun u1 hu1 => sn rfl rfl (sv rfl (s_nil (lr (fun u2 hu2 => sv rfl (sv rfl (bs h fun v1 hv1 h => s_call rfl rfl all2_refl (convoy_find_ok _ _  _ hv1) (.inl rfl) (sv rfl (s_nil (l_seq (l_draw rfl fun u3 hu3 => sv rfl (sv rfl (sv rfl (gt rfl (fun w1 => (v_loadG rfl G_hit rfl rfl)) (gt rfl (fun _ => rfl) (gt rfl (fun _ => rfl) (bs h fun v2 hv2 h => gt rfl (fun w4 => (v_idx (gd_pos w4) (gd_pos w4) (cond_t w4 hv2) rfl)) (gt rfl (fun w5 => (v_loadLG (gd_pos w5) (cond_t w5 hv2) rfl rfl)) (bs h fun v3 hv3 h => ?_)))))))))))))))))))
 refine g_call _ (i64 v3) (gw_t rfl) (fun w6 => ⟨_, [(.d (.agg (eMate v2)))], _, _, (by simp only [gd_pos w6]; rfl), rfl, all2_refl, convoy_rear_ok _  _ (cond_t w6 hv3), (.inl rfl)⟩) ?_
 refine gt rfl (fun _ => rfl) (gt rfl (fun _ => rfl) (bs h fun v4 hv4 h => gt rfl (fun w9 => (v_idx (gd_pos w9) (gd_pos w9) (cond_t w9 hv4) rfl)) ?_))
 refine gt rfl (fun w10 => (by simp only [gd_pos w10]; rfl)) ?_
 refine gt rfl (fun w11 => (v_loadL (gd_pos w11) (cond_t w11 hv4) rfl)) (bs h fun v5 hv5 h => ?_)
 refine g_call _ (bo v5) (gw_t rfl) (fun w12 => ⟨_, [(.d (.agg [(i64 p3.R), (i64 p3.V)])), (di v3), (di v4.V)], _, _, (by simp only [gd_pos w12]; rfl), rfl, all2_refl, convoy_Below_ok _ _ _  _ (cond_t w12 hv5), (.inl rfl)⟩) ?_
 refine sa rfl rfl rfl (sv rfl (s_nil (l_ret ?_)))
 cases h
 exact fin_ok (.inr rfl) (resD1 (res_t rfl) rf_d) (.refl _)
end Go.Abs.Convoyz
