/-
  The functions, part 3.
-/
import Derived.Test.YtdkgjoilcfoclaaFns2
set_option maxRecDepth 20000
set_option linter.unusedVariables false
namespace Go.Abs.Convoy
open Go Go.Abs Go.Proofs
attribute [local irreducible] regW regT AWL

section
open Go.RowKit Go.Lib

theorem info65 : (Try.prog.info? 65).map (fun i => (i.size, i.bytes)) = some (12, 96) := by kernel_rfl
theorem mixed : Try.prog.follows .mixedOrders = true := by kernel_rfl

structure Keep (p : Prop) : Prop where
  out : p
set_option maxHeartbeats 4000000 in
set_option maxRecDepth 100000 in
theorem ins_shift (g n c i vg m vc : Nat) (cur cury : Array Value) (ys : List Value) (w : World) (hi : i < n) (hm : 0 < m) (hroom : n + m ≤ c) (hc63 : c ≤ 9223372036854775807) (hvb : vg ≠ g)
    (hg : w.heap[g]? = some (.cells cur 65 (0, 0))) (hgy : w.heap[vg]? = some (.cells cury 65 (0, 0))) (hcs : cur.size = c * 12) (hys : ys.length = m * 12) (hyc : cury.toList.take (m * 12) = ys)
    (h1c : ∀ v ∈ cur.toList.take (n * 12), v.oneCell' = true) (h1v : ∀ v ∈ ys, v.oneCell' = true) :
    Calls Try.prog 92 #[.slice (some ⟨g, 0, none⟩) n c, .int .i64 i, .slice (some ⟨vg, 0, none⟩) m vc] w fun e w' =>
      ∃ row, row = cur.toList.take ((i + m) * 12) ++ (cur.toList.drop (i * 12)).take ((n - i) * 12) ++ cur.toList.drop ((i + m) * 12 + (n - i) * 12) ∧
      e = .returned (.slice (some ⟨g, 0, none⟩) (n + m) c) ∧ w' = (w.drew.setRow g row.toArray).setRow g (row.take (i * 12) ++ ys ++ row.drop (i * 12 + m * 12)).toArray := by
  obtain ⟨i0, hi0, hzz⟩ : ∃ i0, Try.prog.info? 65 = some i0 ∧ i0.size = 12 := by
    have := info65
    cases h : Try.prog.info? 65 with
    | none => rw [h] at this; cases this
    | some i0 => rw [h] at this; simp only [Option.map_some, Option.some.injEq, Prod.mk.injEq] at this; exact ⟨i0, rfl, this.1⟩
  have mixed' := mixed
  have hz1 : ¬ ((m : Int) = 0) := by omega
  have hz2 : ¬ ((i : Int) = (n : Int)) := by omega
  have hov : ∀ lb cb, (callFunc 119 #[.slice (some ⟨vg, 0, none⟩) m vc, .slice (some ⟨g, (i + m) * 12, none⟩) lb cb]).run Try.prog w = .ok (.value (.bool false)) w := fun lb cb => by
    rw [run_callFunc_extern Try.func119 (by kernel_rfl) (by kernel_rfl) (by kernel_rfl) (e := Extern.SlicesOverlaps.overlaps #[34, 34] #[4]) (by kernel_rfl),
      Lib.run_overlaps_apart w 34 4 65 Try.underlying34 12 Try.sizeOf65 ⟨vg, 0, none⟩ ⟨g, (i + m) * 12, none⟩ m vc lb cb hvb 65 65 cury.size cur.size (by simp [World.shape?, hgy]) (by simp [World.shape?, hg]) (by omega) (by simp [World.frozen?, hgy]) (by simp [World.frozen?, hgy])]
    rfl
  have hw1 : IntKind.i64.wrap ((i : Int) + (m : Int)) = (i : Int) + (m : Int) := by rw [IntKind.wrap_i64]; omega
  have hw2 : IntKind.i64.wrap ((n : Int) + (m : Int)) = (n : Int) + (m : Int) := by rw [IntKind.wrap_i64]; omega
  have hb1 : (0 : Int) ≤ (i : Int) + (m : Int) := by omega
  have hin : i ≤ n := by omega
  have htn : ((i : Int) + (m : Int)).toNat = i + m := by omega
  have hb2 : ¬ (c = i + m) := by omega
  have hb3 : (i : Int) ≤ (n : Int) + (m : Int) := by omega
  have hb4 : ¬ (c = i) := by omega
  obtain ⟨row, hrow⟩ : ∃ row, row = cur.toList.take ((i + m) * 12) ++ (cur.toList.drop (i * 12)).take ((n - i) * 12) ++ cur.toList.drop ((i + m) * 12 + (n - i) * 12) := ⟨_, rfl⟩
  have hle : (n + m) * 12 ≤ c * 12 := Nat.mul_le_mul_right _ hroom
  have hll : ((cur.toList.drop (i * 12)).take ((n - i) * 12)).length = (n - i) * 12 := by rw [List.length_take, List.length_drop, Array.length_toList, hcs]; omega
  have hcp1 : ∀ ty dc sc, (Builtin.copy_ #[34, 34] ty #[.slice (some ⟨g, (i + m) * 12, none⟩) (n + m - (i + m)) dc, .slice (some ⟨g, i * 12, none⟩) (n + m - i) sc]).run Try.prog w.drew = .ok (goInt ((n - i : Nat) : Int)) (w.drew.setRow g row.toArray) := fun ty dc sc => by
    have := run_copy_rowN (P := Try.prog) w.drew 34 34 ty 65 i0 g ((i + m) * 12) (n + m - (i + m)) dc ⟨g, i * 12, none⟩ (n + m - i) sc cur 65 ((cur.toList.drop (i * 12)).take ((n - i) * 12)) Try.underlying34 hi0 hg (n - i) (by simp only [Nat.min_def]; split <;> omega) (by rw [hll, hzz])
      (row_cells (w := w.drew) hg (i * 12) (by rw [hll])) (by rw [hll, hcs]; omega) (fun v hv => h1c v (by
        rw [Nat.sub_mul, ← List.drop_take] at hv
        exact List.mem_of_mem_drop hv))
    rw [hll] at this
    rw [hrow]
    exact this
  have hrl : row.length = c * 12 := by
    rw [hrow]; simp only [List.length_append, hll, List.length_take, List.length_drop, Array.length_toList, hcs]; omega
  have hg1 : (w.drew.setRow g row.toArray).heap[g]? = some (.cells row.toArray 65 (0, 0)) := setRow_heap w.drew g cur row.toArray 65 (0, 0) hg
  have hgy1 : (w.drew.setRow g row.toArray).heap[vg]? = some (.cells cury 65 (0, 0)) := by rw [setRow_other _ _ _ _ hvb]; exact hgy
  have hcp2 : ∀ ty dc, (Builtin.copy_ #[34, 34] ty #[.slice (some ⟨g, i * 12, none⟩) (n + m - i) dc, .slice (some ⟨vg, 0, none⟩) m vc]).run Try.prog (w.drew.setRow g row.toArray) = .ok (goInt (m : Int)) ((w.drew.setRow g row.toArray).setRow g (row.take (i * 12) ++ ys ++ row.drop (i * 12 + m * 12)).toArray) := fun ty dc => by
    have := run_copy_rowN (P := Try.prog) (w.drew.setRow g row.toArray) 34 34 ty 65 i0 g (i * 12) (n + m - i) dc ⟨vg, 0, none⟩ m vc row.toArray 65 ys Try.underlying34 hi0 hg1 m (by simp only [Nat.min_def]; split <;> omega) (by rw [hys, hzz])
      (row_cells hgy1 0 (by rw [List.drop_zero, hys]; exact hyc.symm)) (by rw [hys]; simp only [List.size_toArray, hrl]; omega) h1v
    rw [hys] at this
    exact this
  have kr := Keep.mk hrow
  clear hrow hll hle
  go_enter Try.func92, Try.ntmps92
  go_wp2_with (simp only [hov])
  go_region_law_o (refine step_copy_runI rfl _ _ 34 34 rfl _ _ (by simp [Act.eval, Act.put]) (by simp [Act.eval, Act.put]) (hcp1 _ _ _) ?_)
  go_wp2_with (at_builtin; refine wpList_copy_runI _ rfl _ _ 34 34 rfl _ _ rfl rfl (hcp2 _ _) ?_)
  go_ret
  exact ⟨row, kr.out, rfl, by rw [List.append_assoc]⟩

set_option maxHeartbeats 4000000 in
set_option maxRecDepth 100000 in
theorem ins_end (g n c vg m vc : Nat) (w : World) (hn : 0 < n) (hnc : n ≤ c) (hm : 0 < m) (v1 : Value) (w1 : World)
    (hr : (Builtin.append_ #[34, 34] 34 #[.slice (some ⟨g, 0, none⟩) n c, .slice (some ⟨vg, 0, none⟩) m vc]).run Try.prog w = .ok v1 w1) :
    Calls Try.prog 92 #[.slice (some ⟨g, 0, none⟩) n c, .int .i64 n, .slice (some ⟨vg, 0, none⟩) m vc] w fun e w' => e = .returned v1 ∧ w' = w1 := by
  have mixed' := mixed
  have hz1 : ¬ ((m : Int) = 0) := by omega
  have hin : n ≤ c := by omega
  have hb : (0 : Int) ≤ (n : Int) := by omega
  go_enter Try.func92, Try.ntmps92
  go_wp2_with (at_builtin; refine Lib.wpList_append_run _ rfl _ _ 34 34 rfl _ _ rfl rfl _ _ hr ?_)
  all_goals go_ret
  all_goals exact ⟨rfl, rfl⟩

set_option maxHeartbeats 4000000 in
set_option maxRecDepth 100000 in
theorem ins_grow (g n c i vg m vc : Nat) (cur cury : Array Value) (xs ys : List Value) (w : World) (hi : i < n) (hm : 0 < m) (hnc : n ≤ c) (hroom : c < n + m) (hbig : n + m ≤ 1000000000)
    (hg : w.heap[g]? = some (.cells cur 65 (0, 0))) (hgy : w.heap[vg]? = some (.cells cury 65 (0, 0))) (hxs : xs.length = n * 12) (hxc : cur.toList.take (n * 12) = xs) (hys : ys.length = m * 12) (hyc : cury.toList.take (m * 12) = ys)
    (h1c : ∀ v ∈ xs, v.oneCell' = true) (h1v : ∀ v ∈ ys, v.oneCell' = true) :
    Calls Try.prog 92 #[.slice (some ⟨g, 0, none⟩) n c, .int .i64 i, .slice (some ⟨vg, 0, none⟩) m vc] w fun e w' =>
      ∃ row z z' row1 : List Value, row = xs.take (i * 12) ++ z ++ z' ∧ z.length = (m + (n - i)) * 12 ∧ row1 = row.take (i * 12) ++ ys ++ row.drop (i * 12 + m * 12) ∧ row.length = (grownCap w (n + m) c 65) * 12 ∧
      e = .returned (.slice (some ⟨w.heap.size, 0, none⟩) (n + m) (grownCap w (n + m) c 65)) ∧
      w' = (((w.alloc (.cells row.toArray 65)).drew.setRow w.heap.size row1.toArray).drew).setRow w.heap.size (row1.take ((i + m) * 12) ++ xs.drop (i * 12) ++ row1.drop ((i + m) * 12 + (n - i) * 12)).toArray := by
  obtain ⟨i0, hi0, hzz, hby⟩ : ∃ i0, Try.prog.info? 65 = some i0 ∧ i0.size = 12 ∧ i0.bytes = 96 := by
    have := info65
    cases h : Try.prog.info? 65 with
    | none => rw [h] at this; cases this
    | some i0 => rw [h] at this; simp only [Option.map_some, Option.some.injEq, Prod.mk.injEq] at this; exact ⟨i0, rfl, this.1, this.2⟩
  obtain ⟨z0, hz0, hzc⟩ : ∃ z0, i0.zero = some z0 ∧ z0.cells.size = 12 := by
    have : (Try.prog.info? 65).bind (fun i => i.zero.map fun z => z.cells.size) = some 12 := by kernel_rfl
    rw [hi0] at this
    simp only [Option.bind_some, Option.map_eq_some_iff] at this
    exact this
  have mixed' := mixed
  have hz1 : ¬ ((m : Int) = 0) := by omega
  have hz2 : ¬ ((i : Int) = (n : Int)) := by omega
  have hz3 : (c : Int) < (n : Int) + (m : Int) := by omega
  have hbw : g < w.heap.size := (Array.getElem?_eq_some_iff.1 hg).1
  have hvw : vg < w.heap.size := (Array.getElem?_eq_some_iff.1 hgy).1
  have hkk : (n : Int) + (m : Int) - (i : Int) = ((n + m - i : Nat) : Int) := by omega
  have hik : i + (n + m - i) = n + m := by omega
  have hold : (Builtin.firstCells i0.size i (.slice (some ⟨g, 0, none⟩) i c)).run Try.prog w.drew = .ok (xs.take (i * 12)).toArray w.drew := by
    rw [hzz]
    exact run_firstCells_some w.drew 12 i ⟨g, 0, none⟩ i c (xs.take (i * 12)) (by rw [List.length_take, hxs]; omega) (row_cells (w := w.drew) hg 0 (by
      rw [List.drop_zero]; exact take_len (k := min (i * 12) (n * 12)) (by rw [← hxc, List.take_take])))
  have hrz : ∀ ty, (Builtin.append_ #[34, 3] ty #[.slice (some ⟨g, 0, none⟩) i c, .int .i64 ((n : Int) + (m : Int) - (i : Int))]).run Try.prog w =
      .ok (.slice (some ⟨w.heap.size, 0, none⟩) (n + m) (grownCap w (n + m) c 65)) (w.drew.alloc (.cells ((xs.take (i * 12)).toArray ++ Builtin.zeroCells z0.cells (n + m - i) ++ Builtin.zeroCells z0.cells (grownCap w (n + m) c 65 - (n + m))) 65)) := fun ty => by
    have h := Lib.run_append_grow_zeros w 34 3 ty 65 i0 z0 .i64 .i64 Try.underlying34 Try.underlying3 hi0 hz0 (some ⟨g, 0, none⟩) i c (xs.take (i * 12)) hold (n + m - i) (by omega) (by omega) (by omega) (by omega) (by rw [hby]; omega) (by rw [hby, hik]; exact growslice_fits hroom (by omega))
    rw [hik] at h
    rw [hkk]
    exact h
  have hGn : n + m ≤ grownCap w (n + m) c 65 := grownCap_ge w _ _ _
  have hG63 : grownCap w (n + m) c 65 ≤ 9223372036854775807 := by
    have := grownCap_le_maxLen w (n + m) c 65 (by unfold maxLen; omega)
    unfold maxLen at this
    omega
  obtain ⟨CC, hCC⟩ : ∃ G, G = grownCap w (n + m) c 65 := ⟨_, rfl⟩
  rw [← hCC] at hrz hGn hG63 ⊢
  obtain ⟨z, hz⟩ : ∃ z, z = (Builtin.zeroCells z0.cells (n + m - i)).toList := ⟨_, rfl⟩
  obtain ⟨z', hz'⟩ : ∃ z, z = (Builtin.zeroCells z0.cells (CC - (n + m))).toList := ⟨_, rfl⟩
  have hzl : z.length = (m + (n - i)) * 12 := by rw [hz, Array.length_toList, size_zeroCells, hzc]; congr 1; omega
  have hzl' : z'.length = (CC - (n + m)) * 12 := by rw [hz', Array.length_toList, size_zeroCells, hzc]
  obtain ⟨row, hrow⟩ : ∃ row, row = xs.take (i * 12) ++ z ++ z' := ⟨_, rfl⟩
  have hra : (xs.take (i * 12)).toArray ++ Builtin.zeroCells z0.cells (n + m - i) ++ Builtin.zeroCells z0.cells (CC - (n + m)) = row.toArray := by
    apply Array.ext'
    rw [hrow, hz, hz']
    simp
  rw [hra] at hrz
  have hrl : row.length = CC * 12 := by
    rw [hrow]; simp only [List.length_append, hzl, hzl', List.length_take, hxs]; omega
  obtain ⟨row1, hrow1⟩ : ∃ row1, row1 = row.take (i * 12) ++ ys ++ row.drop (i * 12 + m * 12) := ⟨_, rfl⟩
  have hrl1 : row1.length = CC * 12 := by
    rw [hrow1]; simp only [List.length_append, hys, List.length_take, List.length_drop, hrl]; omega
  have hcpA : ∀ (W : World), W.heap = (w.alloc (.cells row.toArray 65)).heap → ∀ ty dc, (Builtin.copy_ #[34, 34] ty #[.slice (some ⟨w.heap.size, i * 12, none⟩) (n + m - i) dc, .slice (some ⟨vg, 0, none⟩) m vc]).run Try.prog W = .ok (goInt (m : Int)) (W.setRow w.heap.size row1.toArray) := fun W hW ty dc => by
    have g1 : W.heap[w.heap.size]? = some (.cells row.toArray 65 (0, 0)) := by rw [hW]; exact heap_alloc_new w _
    have g2 : W.heap[vg]? = some (.cells cury 65 (0, 0)) := by rw [hW, heap_alloc_old w _ hvw]; exact hgy
    have := run_copy_rowN (P := Try.prog) W 34 34 ty 65 i0 w.heap.size (i * 12) (n + m - i) dc ⟨vg, 0, none⟩ m vc row.toArray 65 ys Try.underlying34 hi0 g1 m (by simp only [Nat.min_def]; split <;> omega) (by rw [hys, hzz])
      (row_cells g2 0 (by rw [List.drop_zero, hys]; exact hyc.symm)) (by rw [hys]; simp only [List.size_toArray, hrl]; omega) h1v
    rw [hys] at this
    rw [hrow1]
    exact this
  have hdl : (xs.drop (i * 12)).length = (n - i) * 12 := by rw [List.length_drop, hxs]; omega
  have hcpB : ∀ (W : World), W.heap = ((w.alloc (.cells row.toArray 65)).setRow w.heap.size row1.toArray).heap → ∀ ty dc sc, (Builtin.copy_ #[34, 34] ty #[.slice (some ⟨w.heap.size, (i + m) * 12, none⟩) (n + m - (i + m)) dc, .slice (some ⟨g, i * 12, none⟩) (n - i) sc]).run Try.prog W = .ok (goInt ((n - i : Nat) : Int)) (W.setRow w.heap.size (row1.take ((i + m) * 12) ++ xs.drop (i * 12) ++ row1.drop ((i + m) * 12 + (n - i) * 12)).toArray) := fun W hW ty dc sc => by
    have g1 : W.heap[w.heap.size]? = some (.cells row1.toArray 65 (0, 0)) := by rw [hW]; exact setRow_heap _ _ row.toArray row1.toArray 65 (0, 0) (heap_alloc_new w _)
    have g2 : W.heap[g]? = some (.cells cur 65 (0, 0)) := by rw [hW, setRow_other _ _ _ _ (by omega), heap_alloc_old w _ hbw]; exact hg
    have := run_copy_rowN (P := Try.prog) W 34 34 ty 65 i0 w.heap.size ((i + m) * 12) (n + m - (i + m)) dc ⟨g, i * 12, none⟩ (n - i) sc row1.toArray 65 (xs.drop (i * 12)) Try.underlying34 hi0 g1 (n - i) (by simp only [Nat.min_def]; split <;> omega) (by rw [hdl, hzz])
      (row_cells g2 (i * 12) (by rw [hdl, ← hxc, List.drop_take]; congr 1; omega)) (by rw [hdl]; simp only [List.size_toArray, hrl1]; omega) (fun v hv => h1c v (List.mem_of_mem_drop hv))
    rw [hdl] at this
    exact this
  have hA := hcpA (w.alloc (.cells row.toArray 65)).drew rfl
  have hB := hcpB ((w.alloc (.cells row.toArray 65)).drew.setRow w.heap.size row1.toArray).drew rfl
  clear hcpA hcpB
  have K := Keep.mk (And.intro hrow (And.intro hzl (And.intro hrow1 hrl)))
  have hGi : ¬ (CC = i) := by omega
  have hGim : ¬ (CC = i + m) := by omega
  have hci : ¬ (c = i) := by omega
  have hw1 : IntKind.i64.wrap ((i : Int) + (m : Int)) = (i : Int) + (m : Int) := by rw [IntKind.wrap_i64]; omega
  have hb1 : (0 : Int) ≤ (i : Int) + (m : Int) := by omega
  have hin : i ≤ n := by omega
  have htn : ((i : Int) + (m : Int)).toNat = i + m := by omega
  have hb3 : (i : Int) ≤ (n : Int) := by omega
  clear hkk hik hold hrow hrow1 hra hCC hz hz' hxc hyc
  go_enter Try.func92, Try.ntmps92
  go_wp2_with (first
    | (at_builtin; refine Lib.wpList_append_run _ rfl _ _ _ _ rfl _ _ rfl rfl _ _ (hrz _) ?_)
    | (at_builtin; refine wpList_copy_runI _ rfl _ _ 34 34 rfl _ _ rfl rfl (hA _ _) ?_))
  go_region_law_o (refine step_copy_runI rfl _ _ 34 34 rfl _ _ (by simp [Act.eval, Act.put]) (by simp [Act.eval, Act.put]) (hB _ _ _) ?_)
  go_wp2
  go_ret
  obtain ⟨k1, k2, k3, k4⟩ := K.out
  exact ⟨row, z, z', row1, k1, k2, k3, k4, rfl, by rw [List.append_assoc]⟩


theorem ins_all (w : World) (x y : Value) (n m i : Nat) (xs ys : List Value) (hx : w.ownsRow 0 65 12 x n xs) (hy : w.ownsRow 0 65 12 y m ys) (hn : 0 < n) (hm : 0 < m) (hi : i ≤ n) (hbig : n + m ≤ 1000000000)
    (hne : ∀ g, x.ownBlock = some g → y.ownBlock ≠ some g) (h1x : ∀ v ∈ xs, v.oneCell' = true) (h1y : ∀ v ∈ ys, v.oneCell' = true) :
    Calls Try.prog 92 #[x, .int .i64 i, y] w fun e w' => ∃ v, e = .returned v ∧ w'.ownsRow 0 65 12 v (n + m) (xs.take (i * 12) ++ ys ++ xs.drop (i * 12)) ∧ w.grownBy w' x.ownBlock ∧ (v.ownBlock = x.ownBlock ∨ v.ownBlock = some w.heap.size) := by
  obtain ⟨hxl, hx | ⟨g, c, cur, rfl, _, hg, hnc, hcm, hcs, hxc⟩⟩ := hx
  · omega
  obtain ⟨hyl, hy | ⟨vg, vc, cury, rfl, _, hgy, hmc, hcmy, hcsy, hyc⟩⟩ := hy
  · omega
  have hvg : vg ≠ g := fun e => hne g rfl (by rw [e]; rfl)
  rcases Nat.lt_or_ge i n with hin | hin
  · have hn12 : n * 12 = i * 12 + (n - i) * 12 := by rw [← Nat.add_mul]; congr 1; omega
    rcases Nat.lt_or_ge c (n + m) with hroom | hroom
    · refine (ins_grow g n c i vg m vc cur cury xs ys w hin hm hnc hroom hbig hg hgy hxl hxc hyl hyc h1x h1y).mono ?_
      rintro e w' ⟨row, z, z', row1, k1, k2, k3, k4, rfl, rfl⟩
      have hGn : n + m ≤ grownCap w (n + m) c 65 := grownCap_ge w _ _ _
      have hGm := grownCap_le_maxLen w (n + m) c 65 (by unfold maxLen; omega)
      generalize grownCap w (n + m) c 65 = CC at hGn hGm k4 ⊢
      have hi2 := ins_new xs ys z z' (i * 12) (m * 12) ((n - i) * 12) (by rw [hxl, hn12]) hyl (by rw [k2, Nat.add_mul]) row k1 row1 k3
      rw [← Nat.add_mul i m 12] at hi2
      have e1 : i * 12 + (n - i) * 12 + m * 12 = (n + m) * 12 := by rw [← hn12, Nat.add_mul]
      rw [e1] at hi2
      refine ⟨_, rfl, ⟨?_, .inr ⟨w.heap.size, CC, (row1.take ((i + m) * 12) ++ xs.drop (i * 12) ++ row1.drop ((i + m) * 12 + (n - i) * 12)).toArray, rfl, Nat.zero_le _, ?_, hGn, hGm, ?_, ?_⟩⟩, ?_, .inr rfl⟩
      · simp only [List.length_append, List.length_take, List.length_drop, hxl, hyl]; omega
      · refine setRow_heap _ _ row1.toArray _ 65 (0, 0) ?_
        refine setRow_heap _ _ row.toArray _ 65 (0, 0) ?_
        exact heap_alloc_new w _
      · rw [List.size_toArray, hi2.2, k4]
      · exact hi2.1
      · refine ⟨rfl, rfl, rfl, by simp, fun k hk _ => ?_⟩
        rw [setRow_other _ _ _ _ (by omega)]
        refine (setRow_other _ _ _ _ (by omega)).trans ?_
        exact heap_alloc_old w _ hk
    · refine (ins_shift g n c i vg m vc cur cury ys w hin hm hroom hcm hvg hg hgy hcs hyl hyc (by rw [hxc]; exact h1x) h1y).mono ?_
      rintro e w' ⟨row, k1, rfl, rfl⟩
      have hle : (n + m) * 12 ≤ c * 12 := Nat.mul_le_mul_right _ hroom
      have e1 : i * 12 + (n - i) * 12 + m * 12 = (n + m) * 12 := by rw [← hn12, Nat.add_mul]
      rw [Nat.add_mul i m 12] at k1
      have hi2 := ins_room cur.toList (i * 12) (m * 12) ((n - i) * 12) ys hyl (by rw [e1, Array.length_toList, hcs]; exact hle) row k1
      rw [e1, ← hn12, hxc] at hi2
      refine ⟨_, rfl, ⟨?_, .inr ⟨g, c, (row.take (i * 12) ++ ys ++ row.drop (i * 12 + m * 12)).toArray, rfl, Nat.zero_le _, ?_, hroom, hcm, ?_, ?_⟩⟩, ?_, .inl rfl⟩
      · simp only [List.length_append, List.length_take, List.length_drop, hxl, hyl]; omega
      · refine setRow_heap _ _ row.toArray _ 65 (0, 0) ?_
        exact setRow_heap _ _ cur _ 65 (0, 0) hg
      · rw [List.size_toArray, hi2.2, Array.length_toList, hcs]
      · exact hi2.1
      · refine ⟨rfl, rfl, rfl, by simp, fun k hk hne => ?_⟩
        have hkg : k ≠ g := fun e => hne (by rw [e]; rfl)
        rw [setRow_other _ _ _ _ hkg]
        exact setRow_other _ _ _ _ hkg
  · obtain rfl : i = n := by omega
    obtain ⟨i0, hi0, hzz, hby⟩ : ∃ i0, Try.prog.info? 65 = some i0 ∧ i0.size = 12 ∧ i0.bytes = 96 := by
      have := info65
      cases h : Try.prog.info? 65 with
      | none => rw [h] at this; cases this
      | some i0 => rw [h] at this; simp only [Option.map_some, Option.some.injEq, Prod.mk.injEq] at this; exact ⟨i0, rfl, this.1, this.2⟩
    obtain ⟨z0, hz0, hzc⟩ : ∃ z0, i0.zero = some z0 ∧ z0.cells.size = 12 := by
      have : (Try.prog.info? 65).bind (fun i => i.zero.map fun z => z.cells.size) = some 12 := by kernel_rfl
      rw [hi0] at this
      simp only [Option.bind_some, Option.map_eq_some_iff] at this
      exact this
    obtain ⟨v1, w', r1, r2, r3, _, r5⟩ := run_append_own_at (P := Try.prog) w 0 34 34 65 i0 z0 12 96 Try.underlying34 hi0 hz0 hzz hby hzc (by omega) (.slice (some ⟨g, 0, none⟩) i c) i xs ⟨hxl, .inr ⟨g, c, cur, rfl, Nat.zero_le _, hg, hnc, hcm, hcs, hxc⟩⟩ ⟨vg, 0, none⟩ m vc ys hyl
      (row_cells hgy 0 (by rw [List.drop_zero, hyl]; exact hyc.symm)) h1y (by unfold maxLen; omega) (by omega) (Nat.zero_le _)
    refine (ins_end g i c vg m vc w hn hnc hm v1 w' r1).mono ?_
    rintro e w'' ⟨rfl, rfl⟩
    refine ⟨v1, rfl, ?_, r3, r5⟩
    rw [List.take_of_length_le (by omega), List.drop_eq_nil_of_le (by omega), List.append_nil]
    exact r2

theorem old_ne01 : oldK 0 ≠ oldK 1 := by intro h; simp [oldK] at h
/-- slices.Insert, as a contract: the row that is handed in becomes the one that is handed out. -/
theorem insert_M (xs ys : List (List D)) (i : Nat) (hx : xs ≠ []) (hy : ys ≠ []) (hi : i ≤ xs.length) (hl : xs.length + ys.length ≤ 1000000000) :
    MCall Try.prog 92 [.sl (900000, 0), .d (.v (.int .i64 i)), .sl (900001, 0)] [.arr 65 12 xs, .arr 65 12 ys] (.sl (800000, 0)) [none, none] [some (.arr 65 12 (xs.take i ++ ys ++ xs.drop i))] := by
  refine ⟨rfl, fun vs w => ?_, fun w I ρ vs H hlen hrep => ?_⟩
  · have hn' : ¬ Try.f92.name = "runtime.NumGoroutine" := by decide
    have hb : ∃ c, Try.f92.body = some c := ⟨_, rfl⟩
    obtain ⟨c, hb⟩ := hb
    simp [callFunc, Try.func92, hb, hn']
  have hnx : 0 < xs.length := List.length_pos_iff.2 hx
  have hny : 0 < ys.length := List.length_pos_iff.2 hy
  obtain ⟨a, b, d, rfl⟩ : ∃ a b d, vs = [a, b, d] := by
    match vs, hlen with
    | [a, b, d], _ => exact ⟨a, b, d, rfl⟩
  have r0 := hrep 0 _ rfl
  have r1 := hrep 1 _ rfl
  have r2 := hrep 2 _ rfl
  simp only [List.getD_cons_zero, List.getD_cons_succ] at r0 r1 r2
  have hb0 : G (oldG 0 [Blk.arr 65 12 xs, .arr 65 12 ys]) (oldK 0) = some (.arr 65 12 xs) := rfl
  have hb1 : G (oldG 0 [Blk.arr 65 12 xs, .arr 65 12 ys]) (oldK 1) = some (.arr 65 12 ys) := rfl
  obtain ⟨x0, cx, p1, p2, p3, p4⟩ := H.blk _ _ hb0
  obtain ⟨y0, cy, q1, q2, q3, q4⟩ := H.blk _ _ hb1
  have e0 : a = x0 := by
    cases r0 with
    | sl _ _ h => exact Option.some.inj (h.symm.trans p1)
  have e1 : b = .int .i64 i := by cases r1 with | d _ _ h => cases h with | v => rfl
  have e2 : d = y0 := by
    cases r2 with
    | sl _ _ h => exact Option.some.inj (h.symm.trans q1)
  subst e0 e1 e2
  have locx : ∀ g, a.ownBlock = some g → locOf ρ (oldK 0) (.arr 65 12 xs) = some g := fun g h => by simp [locOf, p1, h]
  have locy : ∀ g, d.ownBlock = some g → locOf ρ (oldK 1) (.arr 65 12 ys) = some g := fun g h => by simp [locOf, q1, h]
  have one : ∀ (es : List (List D)) (cs : List Value), cs.length = es.length * 12 → (∀ e ∈ es, e.length = 12) → (∀ i j d, at2 es i j = some d → d.one = true ∧ RepD w I d (cs.getD (i * 12 + j) undef)) → ∀ v ∈ cs, v.oneCell' = true := by
    intro es cs h1 h2 h3 v hv
    obtain ⟨k, hk, rfl⟩ := List.mem_iff_getElem.1 hv
    have a1 : k / 12 < es.length := by omega
    have a2 : k % 12 < (es[k / 12]).length := by rw [h2 _ (List.getElem_mem a1)]; omega
    obtain ⟨g1, g2⟩ := h3 (k / 12) (k % 12) (es[k / 12][k % 12]) (by simp [at2, a1, a2])
    rw [show k / 12 * 12 + k % 12 = k by omega, List.getD, List.getElem?_eq_getElem hk] at g2
    exact g2.one g1
  refine (ins_all w a d xs.length ys.length i cx cy p2 q2 hnx hny hi hl (fun g h h' => old_ne01 (H.sep _ _ _ _ g hb0 hb1 (locx g h) (locy g h'))) (one xs cx p2.1 p3 p4) (one ys cy q2.1 q3 q4)).mono ?_
  rintro e w' ⟨v, rfl, hrow, hgr, hob⟩
  obtain ⟨u0, hu0⟩ := H.fresh
  have hk0 : ρ (7, u0) = none := hu0 7 u0 (Nat.le_refl _)
  have hva : ∀ g, a.ownBlock = some g → ¬ I g ∧ own ρ (G (oldG 0 [Blk.arr 65 12 xs, .arr 65 12 ys])) g := fun g h => ⟨H.notI _ _ g hb0 (locx g h), _, _, hb0, locx g h⟩
  have hI' : ∀ b, I b → w'.heap[b]? = w.heap[b]? := fun b hb => hgr.block b (H.ilt b hb) (fun e => (hva b e.symm).1 hb)
  have H0 : HeapOK w' I ρ (fun _ => none) := ⟨fun k b hb => (by cases hb), fun k k' b b' g h1 => (by cases h1), fun k b g h1 => (by cases h1), fun k b g h1 => (by cases h1), fun b hb => Nat.lt_of_lt_of_le (H.ilt b hb) hgr.size, ⟨u0, hu0⟩, H.rone⟩
  have hv1 : v.oneCell' = true := by rcases hrow.2 with ⟨rfl, _⟩ | ⟨g, cap, cur, rfl, _⟩ <;> rfl
  have hown : ∀ g, ¬ own ρ (fun _ => none) g := fun g ⟨k, b, h, _⟩ => by cases h
  have hloc : ∀ g, locOf (upd ρ (7, u0) (some v)) (7, u0) (.arr 65 12 (xs.take i ++ ys ++ xs.drop i)) = some g → v.ownBlock = some g := by
    intro g hg; simpa [locOf, upd_same] using hg
  have Hn := heap_add H0 (7, u0) v (.arr 65 12 (xs.take i ++ ys ++ xs.drop i)) hk0 hv1 (fun g hg => by
    have hg' := hloc g hg
    refine ⟨hown g, ?_, (hrow.lt g hg').2⟩
    rcases hob with h | h
    · exact (hva g (h.symm.trans hg')).1
    · rw [h] at hg'; cases hg'
      exact fun hi => Nat.lt_irrefl _ (H.ilt _ hi))
    ⟨v, _, upd_same _ _ _, by
      rw [show (xs.take i ++ ys ++ xs.drop i).length = xs.length + ys.length by simp only [List.length_append, List.length_take, List.length_drop]; omega]
      exact hrow, by
      intro q hq
      rw [List.mem_append, List.mem_append] at hq
      rcases hq with (h | h) | h
      · exact p3 q (List.mem_of_mem_take h)
      · exact q3 q h
      · exact p3 q (List.mem_of_mem_drop h), by
      intro r j d' hd'
      have hj : j < 12 := by
        unfold at2 at hd'
        cases hq : (xs.take i ++ ys ++ xs.drop i)[r]? with
        | none => rw [hq] at hd'; cases hd'
        | some q =>
          rw [hq, Option.bind_some] at hd'
          have hlt := (List.getElem?_eq_some_iff.1 hd').1
          have := List.mem_of_getElem? hq
          rw [List.mem_append, List.mem_append] at this
          rcases this with (h | h) | h
          · rwa [p3 q (List.mem_of_mem_take h)] at hlt
          · rwa [q3 q h] at hlt
          · rwa [p3 q (List.mem_of_mem_drop h)] at hlt
      have hxl := p2.1
      have hyl := q2.1
      have htl : (cx.take (i * 12)).length = i * 12 := by rw [List.length_take, hxl]; omega
      rcases at2_append hd' with ⟨hr, hd1⟩ | ⟨hr, hd1⟩
      · rw [List.length_append, List.length_take, Nat.min_eq_left hi] at hr
        rcases at2_append hd1 with ⟨hr1, hd2⟩ | ⟨hr1, hd2⟩
        · rw [List.length_take, Nat.min_eq_left hi] at hr1
          have hd3 : at2 xs r j = some d' := by
            unfold at2 at hd2 ⊢
            rwa [List.getElem?_take, if_pos hr1] at hd2
          obtain ⟨g1, g2⟩ := p4 r j d' hd3
          refine ⟨g1, ?_⟩
          have := g2.keep hI' (fun _ hb => hb)
          rw [List.getD, List.append_assoc, List.getElem?_append_left (by rw [htl]; omega), List.getElem?_take, if_pos (by omega)]
          rwa [List.getD] at this
        · rw [List.length_take, Nat.min_eq_left hi] at hr1 hd2
          obtain ⟨g1, g2⟩ := q4 (r - i) j d' hd2
          refine ⟨g1, ?_⟩
          have := g2.keep hI' (fun _ hb => hb)
          rw [List.getD, List.append_assoc, List.getElem?_append_right (by rw [htl]; omega), htl, List.getElem?_append_left (by rw [hyl]; omega), show r * 12 + j - i * 12 = (r - i) * 12 + j by omega]
          rwa [List.getD] at this
      · rw [List.length_append, List.length_take, Nat.min_eq_left hi] at hr hd1
        have hd3 : at2 xs (r - ys.length) j = some d' := by
          unfold at2 at hd1 ⊢
          rw [List.getElem?_drop] at hd1
          rwa [show i + (r - (i + ys.length)) = r - ys.length by omega] at hd1
        obtain ⟨g1, g2⟩ := p4 _ j d' hd3
        refine ⟨g1, ?_⟩
        have := g2.keep hI' (fun _ hb => hb)
        rw [List.getD, List.getElem?_append_right (by rw [List.length_append, htl, hyl]; omega), List.length_append, htl, hyl, List.getElem?_drop, show i * 12 + (r * 12 + j - (i * 12 + ys.length * 12)) = (r - ys.length) * 12 + j by omega]
        rwa [List.getD] at this⟩
  refine ⟨v, .sl (7, u0), I, _, _, rfl, .sl _ _ (upd_same _ _ _), Hn, ⟨hgr.os, hgr.tape, hgr.output, hgr.size, fun b hb hn' => hgr.block b hb (fun e => hn' (hva b e.symm).2), fun _ hb => hb, fun _ hb _ => .inl hb, ?_, le_upd hk0⟩, fun _ => (7, u0), rfl, ?_, ?_, ?_, ?_⟩
  · rintro g ⟨k', b', h1, h2⟩ hl
    by_cases ek : k' = (7, u0)
    · subst ek
      rw [upd_same] at h1
      cases h1
      have hg' := hloc g h2
      rcases hob with h | h
      · exact (hva g (h.symm.trans hg')).2
      · rw [h] at hg'; cases hg'; omega
    · rw [upd_ne _ _ _ _ ek] at h1; cases h1
  · intro j b hb
    match j, hb with
    | 0, hb => cases hb
    | 1, hb => cases hb
    | j + 2, hb => simp at hb
  · intro j b hb
    match j, hb with
    | 0, hb => cases hb; exact upd_same _ _ _
    | j + 1, hb => simp at hb
  · intro j _ i _ e; simp only [oldK, Prod.mk.injEq] at e; omega
  · intro j j' h1 h2 _
    simp only [List.length_cons, List.length_nil] at h1 h2
    omega

theorem ins_C : InsC Try.prog 92 65 12 := fun xs ys i h1 h2 h3 h4 => insert_M xs ys i h1 h2 h3 h4

end

noncomputable def convoy_Step_l1 (p1 : Convoy) (p2 : (List Int)) (p4 : (List Sight)) (v3 : (List ConvoyLetter)) (x1 : (Int × Convoy)) : Option (Stp (Int × Convoy) Convoy) :=
  cond (decide (x1.1 < (p1.Mates.length : Int))) ((geti p1.Mates x1.1).bind fun v4 => (convoy_look p4 v4.ID).bind fun v5 => (convoy_mind_thinks_o (ConvoyMind.mk v4 p1.Tick p1.Gap v5.1 v5.2) v3).bind fun v6 => (convoy_Step_2_b x1.1 p2).bind fun v7 => (convoy_mind_drives_b v6 v7).bind fun v8 => (appc x1.2.Mates [v8]).bind fun v9 => some (.go ((w64 (x1.1 + 1)), (Convoy.mk x1.2.Tick x1.2.Gap v9 x1.2.Guest_)))) (some (.out x1.2))
noncomputable def convoy_Step (p1 : Convoy) (p2 : (List Int)) (p3 : (List Note)) (p4 : (List Sight)) : Option (Convoy × Int) :=
  (convoy_Check p1).bind fun v1 => cond (v1 != 0) (some ((Convoy.mk 0 0 [] (Guest.mk 0 0 0 0 0 0 (Guess.mk 0 0) 0 0)), v1)) (((cond (!(((decide ((mm2 true (p3.length : Int) (p4.length : Int)) > 60)) || (decide (p1.Tick ≥ 1099511627776))) || (decide (p1.Guest_.S > 1099511625776)))) (slices_ContainsFunc_Mate_Mate_convoy_Step_1 p1.Mates) (some default))).bind fun v2 => cond ((((decide ((mm2 true (p3.length : Int) (p4.length : Int)) > 60)) || (decide (p1.Tick ≥ 1099511627776))) || (decide (p1.Guest_.S > 1099511625776))) || v2) (some ((Convoy.mk 0 0 [] (Guest.mk 0 0 0 0 0 0 (Guess.mk 0 0) 0 0)), 2)) ((convoy_post p3 p1.Tick).bind fun v3 => (loop (convoy_Step_l1 p1 p2 p4 v3) (0, (Convoy.mk (w64 (p1.Tick + 1)) p1.Gap [] (Guest.mk 0 0 0 0 0 0 (Guess.mk 0 0) 0 0)))).bind fun y1 => cond (p1.Guest_.ID == 0) (some (y1, 0)) ((convoy_Step_2_b (p1.Mates.length : Int) p2).bind fun v10 => (convoy_arrives p1 v3 p4).bind fun v11 => cond (!v11.2) ((convoy_rolls v11.1 v10).bind fun v12 => some ((Convoy.mk y1.Tick y1.Gap y1.Mates v12), 0)) ((convoy_beside p1).bind fun v13 => (convoy_mind_drives_b (ConvoyMind.mk (Mate.mk v11.1.ID v11.1.S v11.1.V v11.1.Len v11.1.Ahead v11.1.Guess_ true 0 (Guess.mk 0 0) 0) p1.Tick p1.Gap (Sight.mk 0 0 0 0 0) false) v10).bind fun v14 => (insertc y1.Mates (w64 (v13.1 + 1)) [v14]).bind fun v15 => some ((Convoy.mk y1.Tick y1.Gap v15 y1.Guest_), 0)))))

/-- kerbstone/convoy.Step -/
def ac_convoy_Step : AC := (.seq (.reg [oo 4 (.box 38 true (.t 0)), oo 5 (.box 39 false (.t 1)), oo 8 (.alloc 38 [z0, z0, .nilS, z0, z0, z0, z0, z0, z0, z0, z0, z0, z0]), oo 9 (.mv (ci 0))]) (.seq (.seq (.reg [oo 24 (.load 13 true (.t 4)), oo 25 (.call (cf 32) [(.t 24)]), oo 10 (.mv (.t 25))]) (.seq (.reg [oo 26 (.mv (.t 10)), oo 27 (.bin .neq (.t 26) (ci 0))]) (.cond (.t 27) (.seq (.reg [oo 28 (.build [z0, z0, .nilS, z0, z0, z0, z0, z0, z0, z0, z0, z0, z0] []), oo 29 (.mv (.t 10)), oe (.store 13 (.t 8) (.t 28)), oo 9 (.mv (.t 29))]) .ret) .skip))) (.seq (.reg [oo 11 (.mv (cf 84))]) (.seq (.seq (.reg [oo 30 (.mv (.t 2)), oo 31 (.len (.t 30)), oo 32 (.mv (.t 3)), oo 33 (.len (.t 32)), oo 34 (.mm true (.t 31) [(.t 33)]), oo 35 (.bin .gtr (.t 34) (ci 60)), oo 36 (.mv (.t 35)), oh 37 (.fieldA 0 (.t 4)) 36, oh 38 (.load 1 false (.t 37)) 36, oh 39 (.bin .geq (.t 38) (ci 1099511627776)) 36, oo 40 (.pick (.t 36) (.c (.v (.bool true))) (.t 39)), oo 41 (.mv (.t 40)), oh 42 (.fieldA 3 (.t 4)) 41, oh 43 (.fieldA 1 (.t 42)) 41, oh 44 (.load 1 false (.t 43)) 41, oh 45 (.bin .gtr (.t 44) (ci 1099511625776)) 41, oo 46 (.pick (.t 41) (.c (.v (.bool true))) (.t 45)), oo 47 (.mv (.t 46)), oh 48 (.fieldA 2 (.t 4)) 47, oh 49 (.load 1 false (.t 48)) 47, oh 50 (.mv (.t 11)) 47, oh 51 (.call (cf 77) [(.t 49), (.t 50)]) 47, oo 52 (.pick (.t 47) (.c (.v (.bool true))) (.t 51))]) (.cond (.t 52) (.seq (.reg [oo 53 (.build [z0, z0, .nilS, z0, z0, z0, z0, z0, z0, z0, z0, z0, z0] []), oe (.store 13 (.t 8) (.t 53)), oo 9 (.mv (ci 2))]) .ret) .skip)) (.seq (.reg [oo 54 (.mkfn (.func 85) [] [(.t 5)]), oo 12 (.mv (.t 54))]) (.seq (.reg [oo 55 (.mv (.t 2)), oo 56 (.fieldA 0 (.t 4)), oo 57 (.load 1 false (.t 56)), oo 58 (.call (cf 86) [(.t 55), (.t 57)]), oo 13 (.mv (.t 58))]) (.seq (.reg [oo 59 (.fieldA 0 (.t 4)), oo 60 (.load 1 false (.t 59)), oo 61 (.bin .add (.t 60) (ci 1)), oo 62 (.fieldA 1 (.t 4)), oo 63 (.load 1 false (.t 62)), oo 64 (.build [z0, z0, .nilS, z0, z0, z0, z0, z0, z0, z0, z0, z0, z0] [(0, 1, (.t 61)), (1, 1, (.t 63))]), oo 14 (.alloc 38 [z0, z0, .nilS, z0, z0, z0, z0, z0, z0, z0, z0, z0, z0]), oe (.store 13 (.t 14) (.t 64))]) (.seq (.seq (.reg [oo 65 (.fieldA 2 (.t 4)), oo 66 (.load 1 false (.t 65)), oo 67 (.len (.t 66)), oo 68 (.mv (ci 0))]) (.block 0 (.loop (.seq (.reg [oo 69 (.bin .lss (.t 68) (.t 67))]) (.seq (.cond (.t 69) .skip (.exit 0)) (.seq (.block 1 (.seq (.reg [oo 70 (.mv (.t 68)), oo 71 (.idxS 12 (.t 66) (.t 68)), oo 72 (.load 12 true (.t 71)), oo 16 (.alloc 65 [z0, z0, z0, z0, z0, z0, z0, zf, z0, z0, z0, z0]), oo 15 (.mv (.t 70)), oe (.store 12 (.t 16) (.t 72))]) (.seq (.reg [oo 73 (.load 12 true (.t 16)), oo 74 (.fieldA 0 (.t 4)), oo 75 (.load 1 false (.t 74)), oo 76 (.fieldA 1 (.t 4)), oo 77 (.load 1 false (.t 76)), oo 78 (.build [z0, z0, z0, z0, z0, z0, z0, zf, z0, z0, z0, z0, z0, z0, z0, z0, z0, z0, z0, zf] [(0, 12, (.t 73)), (12, 1, (.t 75)), (13, 1, (.t 77))]), oo 79 (.box 107 true (.t 78)), oo 17 (.mv (.t 79))]) (.seq (.reg [oo 81 (.mv (.t 17)), oo 82 (.mv (.t 17)), oo 83 (.mv (.t 3)), oo 84 (.fieldA 0 (.t 16)), oo 85 (.load 1 false (.t 84)), oo 86 (.call (cf 87) [(.t 83), (.t 85)]), oo 80 (.mv (.t 86)), oo 87 (.ext (.t 80) 0), oo 88 (.ext (.t 80) 1), oo 89 (.nilck (.t 81)), oo 90 (.fieldA 14 (.t 89)), oe (.store 5 (.t 90) (.t 87)), oo 91 (.nilck (.t 82)), oo 92 (.fieldA 19 (.t 91)), oe (.store 1 (.t 92) (.t 88))]) (.seq (.reg [oo 93 (.mv (.t 17)), oo 94 (.mv (.t 13)), oo 95 (.ocall 10150020 (cf 88) [(.t 93), (.t 94)])]) (.draw [oo 96 (.fieldA 2 (.t 14)), oo 97 (.load 1 false (.t 96)), oo 98 (.mv (.t 17)), oo 99 (.mv (.t 12)), oo 100 (.mv (.t 15)), oo 101 (.call (.t 99) [(.t 100)]), oo 102 (.call (cf 89) [(.t 98), (.t 101)]), oo 103 (.dslice 65 12 1 [z0, z0, z0, z0, z0, z0, z0, zf, z0, z0, z0, z0] [(0, 12, (.t 102))]), oo 104 (.append 34 65 12 (.t 97) (.t 103)), oo 105 (.fieldA 2 (.t 14)), oe (.store 1 (.t 105) (.t 104))] [])))))) (.reg [oo 106 (.bin .add (.t 68) (ci 1)), oo 68 (.mv (.t 106))]))))))) (.seq (.seq (.reg [oo 107 (.fieldA 3 (.t 4)), oo 108 (.fieldA 0 (.t 107)), oo 109 (.load 1 false (.t 108)), oo 110 (.bin .eql (.t 109) (ci 0))]) (.cond (.t 110) (.seq (.reg [oo 111 (.load 13 true (.t 14)), oe (.store 13 (.t 8) (.t 111)), oo 9 (.mv (ci 0))]) .ret) .skip)) (.seq (.reg [oo 112 (.mv (.t 12)), oo 113 (.fieldA 2 (.t 4)), oo 114 (.load 1 false (.t 113)), oo 115 (.len (.t 114)), oo 116 (.call (.t 112) [(.t 115)]), oo 18 (.mv (.t 116))]) (.seq (.reg [oo 118 (.load 13 true (.t 4)), oo 119 (.mv (.t 13)), oo 120 (.mv (.t 3)), oo 121 (.call (cf 90) [(.t 118), (.t 119), (.t 120)]), oo 117 (.mv (.t 121)), oo 122 (.ext (.t 117) 0), oo 123 (.ext (.t 117) 1), oo 19 (.alloc 36 [z0, z0, z0, z0, z0, z0, z0, z0, z0, z0]), oe (.store 10 (.t 19) (.t 122)), oo 20 (.mv (.t 123))]) (.seq (.seq (.reg [oo 124 (.mv (.t 20)), oo 125 (.un .not (.t 124))]) (.cond (.t 125) (.seq (.reg [oo 126 (.load 10 true (.t 19)), oo 127 (.mv (.t 18)), oo 128 (.call (cf 91) [(.t 126), (.t 127)]), oo 129 (.fieldA 3 (.t 14)), oe (.store 10 (.t 129) (.t 128))]) (.seq (.reg [oo 130 (.load 13 true (.t 14)), oe (.store 13 (.t 8) (.t 130)), oo 9 (.mv (ci 0))]) .ret)) .skip)) (.seq (.reg [oo 131 (.fieldA 0 (.t 19)), oo 132 (.load 1 false (.t 131)), oo 133 (.fieldA 1 (.t 19)), oo 134 (.load 1 false (.t 133)), oo 135 (.fieldA 2 (.t 19)), oo 136 (.load 1 false (.t 135)), oo 137 (.fieldA 3 (.t 19)), oo 138 (.load 1 false (.t 137)), oo 139 (.fieldA 5 (.t 19)), oo 140 (.load 1 false (.t 139)), oo 141 (.fieldA 6 (.t 19)), oo 142 (.load 2 true (.t 141)), oo 143 (.build [z0, z0, z0, z0, z0, z0, z0, zf, z0, z0, z0, z0] [(0, 1, (.t 132)), (1, 1, (.t 134)), (2, 1, (.t 136)), (3, 1, (.t 138)), (4, 1, (.t 140)), (5, 2, (.t 142)), (7, 1, (.c (.v (.bool true))))]), oo 144 (.fieldA 0 (.t 4)), oo 145 (.load 1 false (.t 144)), oo 146 (.fieldA 1 (.t 4)), oo 147 (.load 1 false (.t 146)), oo 148 (.build [z0, z0, z0, z0, z0, z0, z0, zf, z0, z0, z0, z0, z0, z0, z0, z0, z0, z0, z0, zf] [(0, 12, (.t 143)), (12, 1, (.t 145)), (13, 1, (.t 147))]), oo 149 (.box 107 true (.t 148)), oo 21 (.mv (.t 149))]) (.seq (.reg [oo 151 (.load 13 true (.t 4)), oo 152 (.call (cf 65) [(.t 151)]), oo 150 (.mv (.t 152)), oo 153 (.ext (.t 150) 0), oo 154 (.ext (.t 150) 1), oo 22 (.mv (.t 153)), oo 23 (.mv (.t 154))]) (.seq (.draw [oo 155 (.fieldA 2 (.t 14)), oo 156 (.load 1 false (.t 155)), oo 157 (.mv (.t 22)), oo 158 (.bin .add (.t 157) (ci 1)), oo 159 (.mv (.t 21)), oo 160 (.mv (.t 18)), oo 161 (.call (cf 89) [(.t 159), (.t 160)]), oo 162 (.bslice 65 12 1 [z0, z0, z0, z0, z0, z0, z0, zf, z0, z0, z0, z0] [(0, 12, (.t 161))]), oo 163 (.ocall 10270080 (cf 92) [(.t 156), (.t 158), (.t 162)]), oo 164 (.fieldA 2 (.t 14)), oe (.store 1 (.t 164) (.t 163))] []) (.seq (.reg [oo 165 (.load 13 true (.t 14)), oe (.store 13 (.t 8) (.t 165)), oo 9 (.mv (ci 0))]) .ret))))))))))))))))
theorem fn_convoy_Step : FnOK Try.prog 50 166 [.cell 8 13 true, .t 9] ac_convoy_Step := ⟨_, _, Try.func50, rfl, Try.ntmps50, by kernel_rfl, ⟨fun r => if r == 15 then [1015002] else if r == 16 then [1007] else if r == 27 then [1027008] else [], by kernel_rfl⟩, by kernel_rfl⟩
set_option maxHeartbeats 4000000 in
theorem convoy_Step_ok (p1 : Convoy) (p2 : (List Int)) (p3 : (List Note)) (p4 : (List Sight)) (r : (Convoy × Int)) (h : convoy_Step p1 p2 p3 p4 = some r) : PCall Try.prog 50 [(.agg (eConvoy p1)), (.list (List.map eInt_i64 p2)), (.list (List.map eNote p3)), (.list (List.map eSight p4))] (.tup [(.agg (eConvoy r.1)), (i64 r.2)]) := by
  refine l_call fn_convoy_Step (nl rfl) ?_
  unfold convoy_Step at h
  unfold ac_convoy_Step
  refine l_sub (s0 := ⟨T [(0, (.d _)), (1, (.d _)), (2, (.d _)), (3, (.d _))], G []⟩) (sbr rfl rfl) ?_
  refine lr (fun u1 hu1 => sn rfl rfl (sn rfl rfl (sn rfl rfl (sv rfl (s_nil (l_seq (lr (fun u2 hu2 => sd rfl (v_loadG rfl (gq rfl) rfl rfl) (bs h fun v1 hv1 h => s_call rfl rfl all2_refl (convoy_Check_ok _  _ hv1) (.inl rfl) (sv rfl (s_nil (lr (fun u3 hu3 => sv rfl (sv rfl (s_nil (cc rfl h (fun c1 h => ?_) (fun c1 h => ?_)))))))))))))))))
  · refine lr (fun u4 hu4 => sv rfl (sv rfl (sst rfl G_hit [(di 0), (di 0), (.d .nilS), (di 0), (di 0), (di 0), (di 0), (di 0), (di 0), (di 0), (di 0), (di 0), (di 0)] rfl (sv rfl (s_nil (l_ret ?_))))))
    obtain rfl := Option.some.inj h
    exact fin_ok (.inr rfl) (resD2 (res_cellG rfl G_hit (nl rfl) rfl) (res_t rfl) rf_d rf_d) (.tup (.cons (.agg (.cons ⟨(.refl _), rfl⟩ (.cons ⟨(.refl _), rfl⟩ (.cons ⟨DLe.nil, rfl⟩ (.cons ⟨(.refl _), rfl⟩ (.cons ⟨(.refl _), rfl⟩ (.cons ⟨(.refl _), rfl⟩ (.cons ⟨(.refl _), rfl⟩ (.cons ⟨(.refl _), rfl⟩ (.cons ⟨(.refl _), rfl⟩ (.cons ⟨(.refl _), rfl⟩ (.cons ⟨(.refl _), rfl⟩ (.cons ⟨(.refl _), rfl⟩ (.cons ⟨(.refl _), rfl⟩ .nil)))))))))))))) (.cons (.refl _) .nil)))
  · refine l_skip (lr (fun u5 hu5 => sv rfl (s_nil (l_seq (lr (fun u6 hu6 => sv rfl (sd rfl (v_len rfl) (sv rfl (sd rfl (v_len rfl) (sv rfl (sv rfl (sv rfl (gp rfl (gw_f rfl) (fun _ => rfl) (gf rfl (vl rfl (gq rfl) rfl) (gf rfl (vb rfl rfl rfl) (sd rfl (v_or rfl rfl (fun hc => gd_pos (not_t hc))) (sv rfl (gp rfl (gw_f rfl) (fun _ => rfl) ?_))))))))))))))))))
    refine g_val _ (.ptr _ _) rfl (gw_f rfl) (fun w5 => (by simp only [gd_pos w5]; rfl)) ?_
    refine gf rfl (vl rfl (gq rfl) rfl) (gf rfl (vb rfl rfl rfl) (sd rfl (v_or rfl rfl (fun hc => gd_pos (not_t hc))) (sv rfl (gp rfl (gw_f rfl) (fun _ => rfl) (gf rfl (vl rfl (gq rfl) rfl) (gf rfl (fun _ => rfl) (bs h fun v2 hv2 h => ?_)))))))
    refine g_call _ (bo v2) (gw_f rfl) (fun w11 => ⟨_, [(dl eMate p1.Mates), (.d (.fn (.func 84) [] []))], _, _, (by simp only [gd_pos w11]; rfl), rfl, all2_refl, slices_ContainsFunc_Mate_Mate_convoy_Step_1_ok _  _ (cond_t w11 hv2), (.inl rfl)⟩) ?_
    refine sd rfl (v_or rfl rfl (fun hc => gd_pos (not_t hc))) (s_nil (cc rfl h (fun c2 h => ?_) (fun c2 h => ?_)))
    · refine l_seq (l_sub (s0 := ⟨T [(8, (.ptr _ _))], G [((8, u1), some (.box 38 _))]⟩) (sbr rfl rfl) ?_)
      refine l_reg fun u7 hu7 => sv rfl (sst rfl G_hit [(di 0), (di 0), (.d .nilS), (di 0), (di 0), (di 0), (di 0), (di 0), (di 0), (di 0), (di 0), (di 0), (di 0)] rfl (sv rfl (s_nil (l_ret ?_))))
      obtain rfl := Option.some.inj h
      exact fin_ok (.inr rfl) (resD2 (res_cellG rfl G_hit (nl rfl) rfl) (res_t rfl) rf_d rf_d) (.tup (.cons (.agg (.cons ⟨(.refl _), rfl⟩ (.cons ⟨(.refl _), rfl⟩ (.cons ⟨DLe.nil, rfl⟩ (.cons ⟨(.refl _), rfl⟩ (.cons ⟨(.refl _), rfl⟩ (.cons ⟨(.refl _), rfl⟩ (.cons ⟨(.refl _), rfl⟩ (.cons ⟨(.refl _), rfl⟩ (.cons ⟨(.refl _), rfl⟩ (.cons ⟨(.refl _), rfl⟩ (.cons ⟨(.refl _), rfl⟩ (.cons ⟨(.refl _), rfl⟩ (.cons ⟨(.refl _), rfl⟩ .nil)))))))))))))) (.cons (.refl _) .nil)))
    · refine l_skip (l_seq (l_sub (s0 := ⟨T [(2, (.d _)), (3, (.d _)), (4, (.ptr _ _)), (5, (.ptr _ _)), (8, (.ptr _ _))], G [((4, u1), some (.box 38 _)), ((5, u1), some (.box 39 _)), ((8, u1), some (.box 38 _))]⟩) (sbr rfl rfl) ?_))
      refine l_reg fun u8 hu8 => s_val (.fn _ _ _) rfl rfl (s_val (.fn _ _ _) rfl rfl (s_nil (lr (fun u9 hu9 => sv rfl (sp rfl rfl (sl rfl G_hit rfl (bs h fun v3 hv3 h => s_call rfl rfl all2_refl (convoy_post_ok _ _  _ hv3) (.inl rfl) (sv rfl (s_nil (lr (fun u10 hu10 => sp rfl rfl (sl rfl G_hit rfl (sv rfl (sp rfl rfl (sl rfl G_hit rfl (sv rfl (sn rfl rfl (sst rfl G_hit [(di (w64 (p1.Tick + 1))), (di p1.Gap), (.d .nilS), (di 0), (di 0), (di 0), (di 0), (di 0), (di 0), (di 0), (di 0), (di 0), (di 0)] rfl (s_nil (l_seq (l_seq (l_sub (s0 := ⟨T [(3, (.d _)), (4, (.ptr _ _)), (8, (.ptr _ _)), (12, (.fn _ _ _)), (13, (.d _)), (14, (.ptr _ _))], G [((4, u1), some (.box 38 _)), ((8, u1), some (.box 38 _)), ((5, u1), some (.box 39 _)), ((14, u10), some (.box 38 _))]⟩) (sbr rfl rfl) ?_))))))))))))))))))))))
      refine l_reg fun u11 hu11 => sp rfl rfl (sl rfl G_hit rfl (sd rfl (v_len rfl) (sv rfl (s_nil (bs h fun y1 hy1 h => l_join (fun s => ∃ g1 : Nat, Sb ⟨T [(3, (dl eSight p4)), (4, (.ptr (4, u1) 0)), (8, (.ptr (8, u1) 0)), (12, (.fn (.func 85) [] [(.ptr (5, u1) 0)])), (13, (dl eConvoyLetter v3)), (14, (.ptr (14, u10) 0))], G [((4, u1), some (.box 38 (dConvoy p1))), ((8, u1), some (.box 38 [(di 0), (di 0), (.d .nilS), (di 0), (di 0), (di 0), (di 0), (di 0), (di 0), (di 0), (di 0), (di 0), (di 0)])), ((5, u1), some (.box 39 [(dl eInt_i64 p2)])), ((14, u10), some (.box 38 [(di y1.Tick), (di y1.Gap), (oS y1.Mates (104, g1)), (di y1.Guest_.ID), (di y1.Guest_.S), (di y1.Guest_.V), (di y1.Guest_.Len), (di y1.Guest_.End), (di y1.Guest_.Ahead), (di y1.Guest_.Guess_.R), (di y1.Guest_.Guess_.V), (di y1.Guest_.From), (di y1.Guest_.Until)])), ((104, g1), oB 65 12 eMate y1.Mates)]⟩ s) ?_ ?_)))))
      · refine l_block (l_loop (convoy_Step_l1 p1 p2 p4 v3) (fun (x1 : (Int × Convoy)) (g2 : Nat) => ⟨T [(3, (dl eSight p4)), (4, (.ptr (4, u1) 0)), (8, (.ptr (8, u1) 0)), (12, (.fn (.func 85) [] [(.ptr (5, u1) 0)])), (13, (dl eConvoyLetter v3)), (14, (.ptr (14, u10) 0)), (66, (dl eMate p1.Mates)), (67, (di (p1.Mates.length : Int))), (68, (di x1.1))], G [((4, u1), some (.box 38 (dConvoy p1))), ((8, u1), some (.box 38 [(di 0), (di 0), (.d .nilS), (di 0), (di 0), (di 0), (di 0), (di 0), (di 0), (di 0), (di 0), (di 0), (di 0)])), ((5, u1), some (.box 39 [(dl eInt_i64 p2)])), ((14, u10), some (.box 38 [(di x1.2.Tick), (di x1.2.Gap), (oS x1.2.Mates (104, g2)), (di x1.2.Guest_.ID), (di x1.2.Guest_.S), (di x1.2.Guest_.V), (di x1.2.Guest_.Len), (di x1.2.Guest_.End), (di x1.2.Guest_.Ahead), (di x1.2.Guest_.Guess_.R), (di x1.2.Guest_.Guess_.V), (di x1.2.Guest_.From), (di x1.2.Guest_.Until)])), ((104, g2), oB 65 12 eMate x1.2.Mates)]⟩) (0, (Convoy.mk (w64 (p1.Tick + 1)) p1.Gap [] (Guest.mk 0 0 0 0 0 0 (Guess.mk 0 0) 0 0))) 0 _ hy1 (sb_of ⟨.of rfl, .of rfl, .of rfl, .of rfl, .of rfl, .of rfl, .of rfl, .of rfl, .of rfl, trivial⟩ (sbG_some G_hit (.of rfl) (sbG_some (gq rfl) (.of rfl) (sbG_some (gq rfl) (.of rfl) (sbG_some (gq rfl) (.of rfl) (sbG_nil trivial)))))) ?_)
        intro x1 g2 z1 hz1 ez1
        unfold convoy_Step_l1 at hz1
        refine lr (fun u12 hu12 => sv rfl (s_nil (l_seq (cc rfl hz1 (fun c3 hz1 => ?_) (fun c3 hz1 => ?_)))))
        · refine l_skip (l_seq (l_block (lr (fun u13 hu13 => sv rfl (bs hz1 fun v4 hv4 hz1 => sd rfl (v_idx rfl rfl hv4 rfl) (sd rfl (v_loadLG rfl hv4 rfl rfl) (sn rfl rfl (sv rfl (sst rfl G_hit (dMate v4) rfl (s_nil (lr (fun u14 hu14 => sd rfl (v_loadG rfl G_hit rfl rfl) (sp rfl rfl (sl rfl (gq rfl) rfl (sp rfl rfl (sl rfl (gq rfl) rfl (sv rfl (sn rfl rfl (sp rfl rfl (s_nil (l_seq (l_sub (s0 := ⟨T [(3, (dl eSight p4)), (4, (.ptr (4, u1) 0)), (8, (.ptr (8, u1) 0)), (12, (.fn (.func 85) [] [(.ptr (5, u1) 0)])), (13, (dl eConvoyLetter v3)), (14, (.ptr (14, u10) 0)), (15, (di x1.1)), (16, (.ptr (16, u13) 0)), (17, (.ptr (79, u14) 0)), (66, (dl eMate p1.Mates)), (67, (di (p1.Mates.length : Int))), (68, (di x1.1))], G [((4, u1), some (.box 38 (dConvoy p1))), ((8, u1), some (.box 38 [(di 0), (di 0), (.d .nilS), (di 0), (di 0), (di 0), (di 0), (di 0), (di 0), (di 0), (di 0), (di 0), (di 0)])), ((5, u1), some (.box 39 [(dl eInt_i64 p2)])), ((14, u10), some (.box 38 [(di x1.2.Tick), (di x1.2.Gap), (oS x1.2.Mates (104, g2)), (di x1.2.Guest_.ID), (di x1.2.Guest_.S), (di x1.2.Guest_.V), (di x1.2.Guest_.Len), (di x1.2.Guest_.End), (di x1.2.Guest_.Ahead), (di x1.2.Guest_.Guess_.R), (di x1.2.Guest_.Guess_.V), (di x1.2.Guest_.From), (di x1.2.Guest_.Until)])), ((104, g2), oB 65 12 eMate x1.2.Mates), ((16, u13), some (.box 65 (dMate v4))), ((79, u14), some (.box 107 [(di v4.ID), (di v4.S), (di v4.V), (di v4.Len), (di v4.Ahead), (di v4.Guess_.R), (di v4.Guess_.V), (.d (bo v4.Trust)), (di v4.Ward), (di v4.WardGuess.R), (di v4.WardGuess.V), (di v4.Until), (di p1.Tick), (di p1.Gap), (di 0), (di 0), (di 0), (di 0), (di 0), (.d (bo false))]))]⟩) (sb_of ⟨.of rfl, .of rfl, .of rfl, .of rfl, .of rfl, .of rfl, .of rfl, .of rfl, .of rfl, .of rfl, .of rfl, .of rfl, trivial⟩ (sbG_some (gq rfl) (.of rfl) (sbG_some (gq rfl) (.of rfl) (sbG_some (gq rfl) (.of rfl) (sbG_some (gq rfl) (.of rfl) (sbG_oB (gq rfl) (sbG_some (gq rfl) (.of rfl) (sbG_some G_hit (.of rfl) trivial)))))))) ?_))))))))))))))))))))))
          refine l_reg fun u15 hu15 => sp rfl rfl (sp rfl rfl (sv rfl (sp rfl rfl (sl rfl (gq rfl) rfl (bs hz1 fun v5 hv5 hz1 => s_call rfl rfl all2_refl (convoy_look_ok _ _  _ hv5) (.inl rfl) (sv rfl (sv rfl (sv rfl (sp rfl rfl (sp rfl rfl (sst rfl (gq rfl) [(di v4.ID), (di v4.S), (di v4.V), (di v4.Len), (di v4.Ahead), (di v4.Guess_.R), (di v4.Guess_.V), (.d (bo v4.Trust)), (di v4.Ward), (di v4.WardGuess.R), (di v4.WardGuess.V), (di v4.Until), (di p1.Tick), (di p1.Gap), (di v5.1.By), (di v5.1.Lo), (di v5.1.Hi), (di v5.1.VLo), (di v5.1.VHi), (.d (bo false))] rfl (sp rfl rfl (sp rfl rfl (sst rfl G_hit [(di v4.ID), (di v4.S), (di v4.V), (di v4.Len), (di v4.Ahead), (di v4.Guess_.R), (di v4.Guess_.V), (.d (bo v4.Trust)), (di v4.Ward), (di v4.WardGuess.R), (di v4.WardGuess.V), (di v4.Until), (di p1.Tick), (di p1.Gap), (di v5.1.By), (di v5.1.Lo), (di v5.1.Hi), (di v5.1.VLo), (di v5.1.VHi), (.d (bo v5.2))] rfl (s_nil (l_seq (l_sub (s0 := ⟨T [(3, (dl eSight p4)), (4, (.ptr (4, u1) 0)), (8, (.ptr (8, u1) 0)), (12, (.fn (.func 85) [] [(.ptr (5, u1) 0)])), (13, (dl eConvoyLetter v3)), (14, (.ptr (14, u10) 0)), (15, (di x1.1)), (17, (.ptr (79, u14) 0)), (66, (dl eMate p1.Mates)), (67, (di (p1.Mates.length : Int))), (68, (di x1.1))], G [((4, u1), some (.box 38 (dConvoy p1))), ((8, u1), some (.box 38 [(di 0), (di 0), (.d .nilS), (di 0), (di 0), (di 0), (di 0), (di 0), (di 0), (di 0), (di 0), (di 0), (di 0)])), ((5, u1), some (.box 39 [(dl eInt_i64 p2)])), ((14, u10), some (.box 38 [(di x1.2.Tick), (di x1.2.Gap), (oS x1.2.Mates (104, g2)), (di x1.2.Guest_.ID), (di x1.2.Guest_.S), (di x1.2.Guest_.V), (di x1.2.Guest_.Len), (di x1.2.Guest_.End), (di x1.2.Guest_.Ahead), (di x1.2.Guest_.Guess_.R), (di x1.2.Guest_.Guess_.V), (di x1.2.Guest_.From), (di x1.2.Guest_.Until)])), ((104, g2), oB 65 12 eMate x1.2.Mates), ((79, u14), some (.box 107 [(di v4.ID), (di v4.S), (di v4.V), (di v4.Len), (di v4.Ahead), (di v4.Guess_.R), (di v4.Guess_.V), (.d (bo v4.Trust)), (di v4.Ward), (di v4.WardGuess.R), (di v4.WardGuess.V), (di v4.Until), (di p1.Tick), (di p1.Gap), (di v5.1.By), (di v5.1.Lo), (di v5.1.Hi), (di v5.1.VLo), (di v5.1.VHi), (.d (bo v5.2))]))]⟩) (sb_of ⟨.of rfl, .of rfl, .of rfl, .of rfl, .of rfl, .of rfl, .of rfl, .of rfl, .of rfl, .of rfl, .of rfl, trivial⟩ (sbG_some (gq rfl) (.of rfl) (sbG_some (gq rfl) (.of rfl) (sbG_some (gq rfl) (.of rfl) (sbG_some (gq rfl) (.of rfl) (sbG_oB (gq rfl) (sbG_some G_hit (.of rfl) trivial))))))) ?_)))))))))))))))))
          refine l_reg fun u16 hu16 => sp rfl rfl (sv rfl (bs hz1 fun v6 hv6 hz1 => s_oc (v := .d (.tup [])) (us := [(79, u14)]) (oc_m (convoy_mind_thinks_o_ok _ _ _ hv6) [(79, u14)] [(79, u14)] _ (((79, u14), some (.box 107 (dConvoyMind v6))) :: _) rfl all2_av (kl_cons (kr_ptr (G_skip rfl (G_skip rfl (G_skip rfl (G_skip rfl (G_skip rfl G_hit))))) rfl) (kl_cons kr_d kl_nil)) (live_cons (G_skip rfl (G_skip rfl (G_skip rfl (G_skip rfl (G_skip rfl G_hit))))) live_nil) ⟨⟨_, (G_skip rfl (G_skip rfl (G_skip rfl (G_skip rfl (G_skip rfl G_hit))))), .of rfl⟩, trivial⟩ (fun _ h => h) nd1 rfl rfl rfl) (s_nil (l_draw rfl fun u17 hu17 => sp rfl rfl (s_val (oS x1.2.Mates (104, g2)) rfl (v_load rfl (gq rfl) rfl) (sp rfl rfl (s_val (.fn _ _ _) rfl rfl (sv rfl (bs hz1 fun v7 hv7 hz1 => s_call rfl (rfL_cons rf_d (rfL_cons (rf_ptr (gq rfl) (rfL_cons rf_d rfL_nil)) rfL_nil)) all2_refl (convoy_Step_2_b_ok _ _  _ hv7) (.inr rfl) (bs hz1 fun v8 hv8 hz1 => s_call rfl (rfL_cons (rf_ptr G_hit (rfL_cons rf_d (rfL_cons rf_d (rfL_cons rf_d (rfL_cons rf_d (rfL_cons rf_d (rfL_cons rf_d (rfL_cons rf_d (rfL_cons rf_d (rfL_cons rf_d (rfL_cons rf_d (rfL_cons rf_d (rfL_cons rf_d (rfL_cons rf_d (rfL_cons rf_d (rfL_cons rf_d (rfL_cons rf_d (rfL_cons rf_d (rfL_cons rf_d (rfL_cons rf_d (rfL_cons rf_d rfL_nil))))))))))))))))))))) (rfL_cons rf_d rfL_nil)) all2_refl (convoy_mind_drives_b_ok _ _  _ hv8) (.inr rfl) (s_val (dl eMate [v8]) rfl (v_dsliceN eMate ([v8] : List Mate) (fun _ => rfl) rfl rfl ⟨rfl, rfl, rfl, trivial⟩) (bs hz1 fun v9 hv9 hz1 => s_appendO eMate (104, g2) x1.2.Mates v8 [] _ (elems_list (fun _ => rfl)) rfl (gq rfl) hv9 (sp rfl rfl (sst rfl (gq rfl) [(di x1.2.Tick), (di x1.2.Gap), (.sl (104, u17)), (di x1.2.Guest_.ID), (di x1.2.Guest_.S), (di x1.2.Guest_.V), (di x1.2.Guest_.Len), (di x1.2.Guest_.End), (di x1.2.Guest_.Ahead), (di x1.2.Guest_.Guess_.R), (di x1.2.Guest_.Guess_.V), (di x1.2.Guest_.From), (di x1.2.Guest_.Until)] rfl (s_nil (l_end (l_sub (s0 := ⟨T [(3, (.d _)), (4, (.ptr _ _)), (8, (.ptr _ _)), (12, (.fn _ _ _)), (13, (.d _)), (14, (.ptr _ _)), (66, (.d _)), (67, (.d _)), (68, (.d _))], G [((4, u1), some (.box 38 _)), ((8, u1), some (.box 38 _)), ((5, u1), some (.box 39 _)), ((14, u10), some (.box 38 _)), ((104, u17), some _)]⟩) (sbr rfl rfl) ?_)))))))))))))))))
          refine l_reg fun u18 hu18 => sv rfl (sv rfl (s_nil (l_nil ?_)))
          obtain rfl := Option.some.inj hz1
          exact ⟨rfl, u17, (sb_of ⟨.of rfl, .of rfl, .of rfl, .of rfl, .of rfl, .of rfl, .of rfl, .of rfl, .of rfl, trivial⟩ (sbG_some G_hit (.of rfl) (sbG_some (gq rfl) (.of rfl) (sbG_some (gq rfl) (.of rfl) (sbG_some (gq rfl) (.box (.cons (.of rfl) (.cons (.of rfl) (.cons (.of (oS_ne (appc_ne hv9)).symm) (.cons (.of rfl) (.cons (.of rfl) (.cons (.of rfl) (.cons (.of rfl) (.cons (.of rfl) (.cons (.of rfl) (.cons (.of rfl) (.cons (.of rfl) (.cons (.of rfl) (.cons (.of rfl) .nil)))))))))))))) (sbG_own (gq rfl) trivial))))))⟩
        · refine l_exitN rfl ?_
          obtain rfl := Option.some.inj hz1
          obtain rfl := ez1 _ rfl
          refine ⟨nofun, awl_pop rfl (l_j ?_)⟩
          exact ⟨g2, (sb_of ⟨.of rfl, .of rfl, .of rfl, .of rfl, .of rfl, .of rfl, trivial⟩ (sbG_some G_hit (.of rfl) (sbG_some (gq rfl) (.of rfl) (sbG_some (gq rfl) (.of rfl) (sbG_some (gq rfl) (.of rfl) (sbG_oB (gq rfl) trivial))))))⟩
      · rintro _ ⟨g1, q1⟩
        refine l_sub q1 (l_seq (lr (fun u19 hu19 => sp rfl rfl (sp rfl rfl (sl rfl G_hit rfl (sv rfl (s_nil (cc rfl h (fun c4 h => ?_) (fun c4 h => ?_)))))))))
        · refine lr (fun u20 hu20 => s_val (mkAgg [(di y1.Tick), (di y1.Gap), (oS y1.Mates (104, g1)), (di y1.Guest_.ID), (di y1.Guest_.S), (di y1.Guest_.V), (di y1.Guest_.Len), (di y1.Guest_.End), (di y1.Guest_.Ahead), (di y1.Guest_.Guess_.R), (di y1.Guest_.Guess_.V), (di y1.Guest_.From), (di y1.Guest_.Until)]) rfl (v_loadG rfl (gq rfl) rfl rfl) (s_store _ _ _ _ _ (cellsV_mkAgg _) rfl rfl (gq rfl) (nl rfl) [(di y1.Tick), (di y1.Gap), (oS y1.Mates (104, g1)), (di y1.Guest_.ID), (di y1.Guest_.S), (di y1.Guest_.V), (di y1.Guest_.Len), (di y1.Guest_.End), (di y1.Guest_.Ahead), (di y1.Guest_.Guess_.R), (di y1.Guest_.Guess_.V), (di y1.Guest_.From), (di y1.Guest_.Until)] rfl (sv rfl (s_nil (l_ret ?_)))))
          obtain rfl := Option.some.inj h
          exact fin_ok (.inr rfl) (resD2 (res_cellG rfl G_hit (nl rfl) rfl) (res_t rfl) (rf_mkAgg (rfL_cons rf_d (rfL_cons rf_d (rfL_cons (rf_oS (gq rfl)) (rfL_cons rf_d (rfL_cons rf_d (rfL_cons rf_d (rfL_cons rf_d (rfL_cons rf_d (rfL_cons rf_d (rfL_cons rf_d (rfL_cons rf_d (rfL_cons rf_d (rfL_cons rf_d rfL_nil)))))))))))))) rf_d) (.tup (.cons (.agg (.cons ⟨(.refl _), rfl⟩ (.cons ⟨(.refl _), rfl⟩ (.cons ⟨oD_le, rfl⟩ (.cons ⟨(.refl _), rfl⟩ (.cons ⟨(.refl _), rfl⟩ (.cons ⟨(.refl _), rfl⟩ (.cons ⟨(.refl _), rfl⟩ (.cons ⟨(.refl _), rfl⟩ (.cons ⟨(.refl _), rfl⟩ (.cons ⟨(.refl _), rfl⟩ (.cons ⟨(.refl _), rfl⟩ (.cons ⟨(.refl _), rfl⟩ (.cons ⟨(.refl _), rfl⟩ .nil)))))))))))))) (.cons (.refl _) .nil)))
        · refine l_skip (lr (fun u21 hu21 => s_val (.fn _ _ _) rfl rfl (sp rfl rfl (sl rfl G_hit rfl (sd rfl (v_len rfl) (bs h fun v10 hv10 h => s_call rfl (rfL_cons rf_d (rfL_cons (rf_ptr (gq rfl) (rfL_cons rf_d rfL_nil)) rfL_nil)) all2_refl (convoy_Step_2_b_ok _ _  _ hv10) (.inr rfl) (sv rfl (s_nil (lr (fun u22 hu22 => sd rfl (v_loadG rfl G_hit rfl rfl) (sv rfl (sv rfl (bs h fun v11 hv11 h => s_call rfl rfl all2_refl (convoy_arrives_ok _ _ _  _ hv11) (.inl rfl) (sv rfl (sv rfl (sv rfl (sn rfl rfl (sst rfl G_hit (dGuest v11.1) rfl (sv rfl (s_nil (l_seq (l_seq (l_sub (s0 := ⟨T [(4, (.ptr (4, u1) 0)), (8, (.ptr (8, u1) 0)), (14, (.ptr (14, u10) 0)), (18, (di v10)), (19, (.ptr (19, u22) 0)), (20, (.d (bo v11.2)))], G [((4, u1), some (.box 38 (dConvoy p1))), ((8, u1), some (.box 38 [(di 0), (di 0), (.d .nilS), (di 0), (di 0), (di 0), (di 0), (di 0), (di 0), (di 0), (di 0), (di 0), (di 0)])), ((14, u10), some (.box 38 [(di y1.Tick), (di y1.Gap), (oS y1.Mates (104, g1)), (di y1.Guest_.ID), (di y1.Guest_.S), (di y1.Guest_.V), (di y1.Guest_.Len), (di y1.Guest_.End), (di y1.Guest_.Ahead), (di y1.Guest_.Guess_.R), (di y1.Guest_.Guess_.V), (di y1.Guest_.From), (di y1.Guest_.Until)])), ((104, g1), oB 65 12 eMate y1.Mates), ((19, u22), some (.box 36 (dGuest v11.1)))]⟩) (sb_of ⟨.of rfl, .of rfl, .of rfl, .of rfl, .of rfl, .of rfl, trivial⟩ (sbG_some (gq rfl) (.of rfl) (sbG_some (gq rfl) (.of rfl) (sbG_some (gq rfl) (.of rfl) (sbG_oB (gq rfl) (sbG_some G_hit (.of rfl) trivial)))))) ?_)))))))))))))))))))))))
          refine l_reg fun u23 hu23 => sv rfl (s_val (.d (bo (!v11.2))) rfl rfl (s_nil (cc rfl h (fun c5 h => ?_) (fun c5 h => ?_))))
          · refine lr (fun u24 hu24 => sd rfl (v_loadG rfl (gq rfl) rfl rfl) (sv rfl (bs h fun v12 hv12 h => s_call rfl rfl all2_refl (convoy_rolls_ok _ _  _ hv12) (.inl rfl) (sp rfl rfl (sst rfl (gq rfl) [(di y1.Tick), (di y1.Gap), (oS y1.Mates (104, g1)), (di v12.ID), (di v12.S), (di v12.V), (di v12.Len), (di v12.End), (di v12.Ahead), (di v12.Guess_.R), (di v12.Guess_.V), (di v12.From), (di v12.Until)] rfl (s_nil (lr (fun u25 hu25 => s_val (mkAgg [(di y1.Tick), (di y1.Gap), (oS y1.Mates (104, g1)), (di v12.ID), (di v12.S), (di v12.V), (di v12.Len), (di v12.End), (di v12.Ahead), (di v12.Guess_.R), (di v12.Guess_.V), (di v12.From), (di v12.Until)]) rfl (v_loadG rfl G_hit rfl rfl) (s_store _ _ _ _ _ (cellsV_mkAgg _) rfl rfl (gq rfl) (nl rfl) [(di y1.Tick), (di y1.Gap), (oS y1.Mates (104, g1)), (di v12.ID), (di v12.S), (di v12.V), (di v12.Len), (di v12.End), (di v12.Ahead), (di v12.Guess_.R), (di v12.Guess_.V), (di v12.From), (di v12.Until)] rfl (sv rfl (s_nil (l_ret ?_))))))))))))
            obtain rfl := Option.some.inj h
            exact fin_ok (.inr rfl) (resD2 (res_cellG rfl G_hit (nl rfl) rfl) (res_t rfl) (rf_mkAgg (rfL_cons rf_d (rfL_cons rf_d (rfL_cons (rf_oS (gq rfl)) (rfL_cons rf_d (rfL_cons rf_d (rfL_cons rf_d (rfL_cons rf_d (rfL_cons rf_d (rfL_cons rf_d (rfL_cons rf_d (rfL_cons rf_d (rfL_cons rf_d (rfL_cons rf_d rfL_nil)))))))))))))) rf_d) (.tup (.cons (.agg (.cons ⟨(.refl _), rfl⟩ (.cons ⟨(.refl _), rfl⟩ (.cons ⟨oD_le, rfl⟩ (.cons ⟨(.refl _), rfl⟩ (.cons ⟨(.refl _), rfl⟩ (.cons ⟨(.refl _), rfl⟩ (.cons ⟨(.refl _), rfl⟩ (.cons ⟨(.refl _), rfl⟩ (.cons ⟨(.refl _), rfl⟩ (.cons ⟨(.refl _), rfl⟩ (.cons ⟨(.refl _), rfl⟩ (.cons ⟨(.refl _), rfl⟩ (.cons ⟨(.refl _), rfl⟩ .nil)))))))))))))) (.cons (.refl _) .nil)))
          · refine l_skip (lr (fun u26 hu26 => sp rfl rfl (sl rfl (gq rfl) rfl (sp rfl rfl (sl rfl (gq rfl) rfl (sp rfl rfl (sl rfl (gq rfl) rfl (sp rfl rfl (sl rfl (gq rfl) rfl (sp rfl rfl (sl rfl (gq rfl) rfl (sp rfl rfl (sd rfl (v_loadG rfl (gq rfl) rfl rfl) (sv rfl (sp rfl rfl (sl rfl G_hit rfl (sp rfl rfl (sl rfl G_hit rfl (sv rfl (sn rfl rfl (sp rfl rfl (s_nil (l_seq (l_sub (s0 := ⟨T [(4, (.ptr (4, u1) 0)), (8, (.ptr (8, u1) 0)), (14, (.ptr (14, u10) 0)), (18, (di v10)), (21, (.ptr (149, u26) 0))], G [((4, u1), some (.box 38 (dConvoy p1))), ((8, u1), some (.box 38 [(di 0), (di 0), (.d .nilS), (di 0), (di 0), (di 0), (di 0), (di 0), (di 0), (di 0), (di 0), (di 0), (di 0)])), ((14, u10), some (.box 38 [(di y1.Tick), (di y1.Gap), (oS y1.Mates (104, g1)), (di y1.Guest_.ID), (di y1.Guest_.S), (di y1.Guest_.V), (di y1.Guest_.Len), (di y1.Guest_.End), (di y1.Guest_.Ahead), (di y1.Guest_.Guess_.R), (di y1.Guest_.Guess_.V), (di y1.Guest_.From), (di y1.Guest_.Until)])), ((104, g1), oB 65 12 eMate y1.Mates), ((149, u26), some (.box 107 [(di v11.1.ID), (di v11.1.S), (di v11.1.V), (di v11.1.Len), (di v11.1.Ahead), (di v11.1.Guess_.R), (di v11.1.Guess_.V), (.d (bo true)), (di 0), (di 0), (di 0), (di 0), (di p1.Tick), (di p1.Gap), (di 0), (di 0), (di 0), (di 0), (di 0), (.d (bo false))]))]⟩) (sb_of ⟨.of rfl, .of rfl, .of rfl, .of rfl, .of rfl, trivial⟩ (sbG_some (gq rfl) (.of rfl) (sbG_some (gq rfl) (.of rfl) (sbG_some (gq rfl) (.of rfl) (sbG_oB (gq rfl) (sbG_some G_hit (.of rfl) trivial)))))) ?_))))))))))))))))))))))))
            refine l_reg fun u27 hu27 => sd rfl (v_loadG rfl G_hit rfl rfl) (bs h fun v13 hv13 h => s_call rfl rfl all2_refl (convoy_beside_ok _  _ hv13) (.inl rfl) (sv rfl (sv rfl (sv rfl (sv rfl (sv rfl (s_nil (l_seq (l_draw rfl fun u28 hu28 => sp rfl rfl (s_val (oS y1.Mates (104, g1)) rfl (v_load rfl (gq rfl) rfl) (sv rfl (sv rfl (sp rfl rfl (sv rfl (bs h fun v14 hv14 h => s_call rfl (rfL_cons (rf_ptr (gq rfl) (rfL_cons rf_d (rfL_cons rf_d (rfL_cons rf_d (rfL_cons rf_d (rfL_cons rf_d (rfL_cons rf_d (rfL_cons rf_d (rfL_cons rf_d (rfL_cons rf_d (rfL_cons rf_d (rfL_cons rf_d (rfL_cons rf_d (rfL_cons rf_d (rfL_cons rf_d (rfL_cons rf_d (rfL_cons rf_d (rfL_cons rf_d (rfL_cons rf_d (rfL_cons rf_d (rfL_cons rf_d rfL_nil))))))))))))))))))))) (rfL_cons rf_d rfL_nil)) all2_refl (convoy_mind_drives_b_ok _ _  _ hv14) (.inr rfl) (s_new (.sl _) (.arr 65 12 (List.map eMate ([v14] : List Mate))) rfl (aval_bsliceN eMate _ (fun _ => rfl) rfl rfl ⟨rfl, rfl, rfl, trivial⟩) (bs h fun v15 hv15 h => s_oc (oc_insert (E := eMate) ins_C hv15 rfl (G_skip rfl (G_skip rfl (G_skip rfl (G_skip rfl G_hit)))) G_hit (key_ne rfl)) (sp rfl rfl (sst rfl (gq rfl) [(di y1.Tick), (di y1.Gap), (.sl (10270080, u28)), (di y1.Guest_.ID), (di y1.Guest_.S), (di y1.Guest_.V), (di y1.Guest_.Len), (di y1.Guest_.End), (di y1.Guest_.Ahead), (di y1.Guest_.Guess_.R), (di y1.Guest_.Guess_.V), (di y1.Guest_.From), (di y1.Guest_.Until)] rfl (s_nil (l_seq (l_sub (s0 := ⟨T [(8, (.ptr _ _)), (14, (.ptr _ _))], G [((8, u1), some (.box 38 _)), ((14, u10), some (.box 38 _)), ((10270080, u28), some _)]⟩) (sbr rfl rfl) ?_))))))))))))))))))))))
            refine l_reg fun u29 hu29 => s_val (.agg _) rfl (v_loadG rfl (gq rfl) rfl rfl) (sst rfl G_hit [(di y1.Tick), (di y1.Gap), (.sl (10270080, u28)), (di y1.Guest_.ID), (di y1.Guest_.S), (di y1.Guest_.V), (di y1.Guest_.Len), (di y1.Guest_.End), (di y1.Guest_.Ahead), (di y1.Guest_.Guess_.R), (di y1.Guest_.Guess_.V), (di y1.Guest_.From), (di y1.Guest_.Until)] rfl (sv rfl (s_nil (l_ret ?_))))
            obtain rfl := Option.some.inj h
            exact fin_ok (.inr rfl) (resD2 (res_cellG rfl G_hit (nl rfl) rfl) (res_t rfl) (rf_agg (rfL_cons rf_d (rfL_cons rf_d (rfL_cons (rf_sl (gq rfl)) (rfL_cons rf_d (rfL_cons rf_d (rfL_cons rf_d (rfL_cons rf_d (rfL_cons rf_d (rfL_cons rf_d (rfL_cons rf_d (rfL_cons rf_d (rfL_cons rf_d (rfL_cons rf_d rfL_nil)))))))))))))) rf_d) (.refl _)

noncomputable def convoy_Look_1_b (p1 : Int) (p2 : Int) (p3 : (List Int)) : Option Int :=
  cond (decide (p1 ≥ (p3.length : Int))) (some 0) ((geti p3 p1).bind fun v1 => (remc v1 p2).bind fun v2 => (remc (w64 (v2 + p2)) p2).bind fun v3 => some v3)

/-- kerbstone/convoy.Look$1 -/
def ac_convoy_Look_1_b : AC := (.seq (.reg [oo 5 (.mv (ci 0))]) (.seq (.seq (.reg [oo 6 (.mv (.t 0)), oo 7 (.load 1 false (.t 2)), oo 8 (.len (.t 7)), oo 9 (.bin .geq (.t 6) (.t 8))]) (.cond (.t 9) (.seq (.reg [oo 5 (.mv (ci 0))]) .ret) .skip)) (.seq (.reg [oo 10 (.load 1 false (.t 2)), oo 11 (.mv (.t 0)), oo 12 (.idxS 1 (.t 10) (.t 11)), oo 13 (.load 1 false (.t 12)), oo 14 (.mv (.t 1)), oo 15 (.bin .rem (.t 13) (.t 14)), oo 16 (.mv (.t 1)), oo 17 (.bin .add (.t 15) (.t 16)), oo 18 (.mv (.t 1)), oo 19 (.bin .rem (.t 17) (.t 18)), oo 5 (.mv (.t 19))]) .ret)))
theorem fn_convoy_Look_1_b : FnOK Try.prog 66 20 [.t 5] ac_convoy_Look_1_b := ⟨_, _, Try.func66, rfl, Try.ntmps66, by kernel_rfl, ⟨fun _ => [], by kernel_rfl⟩, by kernel_rfl⟩
theorem convoy_Look_1_b_ok (p1 : Int) (p2 : Int) (p3 : (List Int)) (r : Int) (h : convoy_Look_1_b p1 p2 p3 = some r) : PCall Try.prog 66 [(i64 p1), (i64 p2), (.bp [(.list (List.map eInt_i64 p3))] 0)] (i64 r) := by
  refine l_call fn_convoy_Look_1_b (nl rfl) ?_
  unfold convoy_Look_1_b at h
  unfold ac_convoy_Look_1_b
  refine l_sub (s0 := ⟨T [(0, (.d _)), (1, (.d _)), (2, (.d _))], G []⟩) (sbr rfl rfl) ?_
  refine lr (fun u1 hu1 => sv rfl (s_nil (l_seq (lr (fun u2 hu2 => sv rfl (sv rfl (sd rfl (v_len rfl) (sv rfl (s_nil (cc rfl h (fun c1 h => ?_) (fun c1 h => ?_)))))))))))
  · refine lr (fun u3 hu3 => sv rfl (s_nil (l_ret ?_)))
    obtain rfl := Option.some.inj h
    exact fin_ok (.inr rfl) (resD1 (res_t rfl) rf_d) (.refl _)
  · refine l_skip (lr (fun u4 hu4 => sv rfl (sv rfl (bs h fun v1 hv1 h => sd rfl (v_idx rfl rfl hv1 rfl) (sd rfl (v_loadL rfl hv1 rfl) (sv rfl (bs h fun v2 hv2 h => sd rfl (v_rem rfl rfl hv2) (sv rfl (sv rfl (sv rfl (bs h fun v3 hv3 h => sd rfl (v_rem rfl rfl hv3) (sv rfl (s_nil (l_ret ?_))))))))))))))
    obtain rfl := Option.some.inj h
    exact fin_ok (.inr rfl) (resD1 (res_t rfl) rf_d) (.refl _)

noncomputable def convoy_Look (p1 : Convoy) (p2 : Int) (p3 : (List Int)) : Option (Sight × Int) :=
  (convoy_Check p1).bind fun v1 => cond (v1 != 0) (some ((Sight.mk 0 0 0 0 0), v1)) ((convoy_find p1.Mates p2).bind fun v2 => (cond ((p2 != 0) && (p2 == p1.Guest_.ID)) ((convoy_beside p1).bind fun v3 => some v3.1) (some (w64 (v2 - 1)))).bind fun y1 => cond (decide (y1 < 0)) (some ((Sight.mk 0 0 0 0 0), 7)) ((geti p1.Mates y1).bind fun v4 => (convoy_rear v4).bind fun v5 => (convoy_Look_1_b 0 101 p3).bind fun v6 => (convoy_rear v4).bind fun v7 => (convoy_Look_1_b 1 101 p3).bind fun v8 => (convoy_Look_1_b 2 6 p3).bind fun v9 => (convoy_Look_1_b 3 6 p3).bind fun v10 => some ((Sight.mk p2 (w64 (v5 - v6)) (w64 (v7 + v8)) (mm2 true 0 (w64 (v4.V - v9))) (mm2 false 2000 (w64 (v4.V + v10)))), 0)))

/-- kerbstone/convoy.Look -/
def ac_convoy_Look : AC := (.seq (.reg [oo 3 (.box 38 true (.t 0)), oo 5 (.box 39 false (.t 2)), oo 6 (.alloc 42 [z0, z0, z0, z0, z0]), oo 7 (.mv (ci 0))]) (.seq (.seq (.reg [oo 12 (.load 13 true (.t 3)), oo 13 (.call (cf 32) [(.t 12)]), oo 8 (.mv (.t 13))]) (.seq (.reg [oo 14 (.mv (.t 8)), oo 15 (.bin .neq (.t 14) (ci 0))]) (.cond (.t 15) (.seq (.reg [oo 16 (.build [z0, z0, z0, z0, z0] []), oo 17 (.mv (.t 8)), oe (.store 5 (.t 6) (.t 16)), oo 7 (.mv (.t 17))]) .ret) .skip))) (.seq (.reg [oo 18 (.fieldA 2 (.t 3)), oo 19 (.load 1 false (.t 18)), oo 20 (.mv (.t 1)), oo 21 (.call (cf 64) [(.t 19), (.t 20)]), oo 22 (.bin .sub (.t 21) (ci 1)), oo 9 (.mv (.t 22))]) (.seq (.seq (.reg [oo 23 (.mv (.t 1)), oo 24 (.bin .neq (.t 23) (ci 0)), oo 25 (.mv (.t 24)), og 26 (.mv (.t 1)) 25, og 27 (.fieldA 3 (.t 3)) 25, og 28 (.fieldA 0 (.t 27)) 25, og 29 (.load 1 false (.t 28)) 25, og 30 (.bin .eql (.t 26) (.t 29)) 25, oo 31 (.pick (.t 25) (.t 30) (.c zf))]) (.cond (.t 31) (.reg [oo 33 (.load 13 true (.t 3)), oo 34 (.call (cf 65) [(.t 33)]), oo 32 (.mv (.t 34)), oo 35 (.ext (.t 32) 0), oo 36 (.ext (.t 32) 1), oo 9 (.mv (.t 35))]) .skip)) (.seq (.seq (.reg [oo 37 (.mv (.t 9)), oo 38 (.bin .lss (.t 37) (ci 0))]) (.cond (.t 38) (.seq (.reg [oo 39 (.build [z0, z0, z0, z0, z0] []), oe (.store 5 (.t 6) (.t 39)), oo 7 (.mv (ci 7))]) .ret) .skip)) (.seq (.reg [oo 40 (.mkfn (.func 66) [] [(.t 5)]), oo 10 (.mv (.t 40))]) (.seq (.reg [oo 41 (.fieldA 2 (.t 3)), oo 42 (.load 1 false (.t 41)), oo 43 (.mv (.t 9)), oo 44 (.idxS 12 (.t 42) (.t 43)), oo 45 (.load 12 true (.t 44)), oo 11 (.alloc 65 [z0, z0, z0, z0, z0, z0, z0, zf, z0, z0, z0, z0]), oe (.store 12 (.t 11) (.t 45))]) (.seq (.draw [oo 46 (.mv (.t 1)), oo 47 (.load 12 true (.t 11)), oo 48 (.call (cf 67) [(.t 47)]), oo 49 (.mv (.t 10)), oo 50 (.call (.t 49) [(ci 0), (ci 101)]), oo 51 (.bin .sub (.t 48) (.t 50)), oo 52 (.load 12 true (.t 11)), oo 53 (.call (cf 67) [(.t 52)]), oo 54 (.mv (.t 10)), oo 55 (.call (.t 54) [(ci 1), (ci 101)]), oo 56 (.bin .add (.t 53) (.t 55)), oo 57 (.fieldA 2 (.t 11)), oo 58 (.load 1 false (.t 57)), oo 59 (.mv (.t 10)), oo 60 (.call (.t 59) [(ci 2), (ci 6)]), oo 61 (.bin .sub (.t 58) (.t 60)), oo 62 (.mm true (ci 0) [(.t 61)]), oo 63 (.fieldA 2 (.t 11)), oo 64 (.load 1 false (.t 63)), oo 65 (.mv (.t 10)), oo 66 (.call (.t 65) [(ci 3), (ci 6)]), oo 67 (.bin .add (.t 64) (.t 66)), oo 68 (.mm false (ci 2000) [(.t 67)]), oo 69 (.build [z0, z0, z0, z0, z0] [(0, 1, (.t 46)), (1, 1, (.t 51)), (2, 1, (.t 56)), (3, 1, (.t 62)), (4, 1, (.t 68))]), oe (.store 5 (.t 6) (.t 69)), oo 7 (.mv (ci 0))] []) .ret))))))))
theorem fn_convoy_Look : FnOK Try.prog 27 70 [.cell 6 5 true, .t 7] ac_convoy_Look := ⟨_, _, Try.func27, rfl, Try.ntmps27, by kernel_rfl, ⟨fun _ => [], by kernel_rfl⟩, by kernel_rfl⟩
set_option maxHeartbeats 4000000 in
theorem convoy_Look_ok (p1 : Convoy) (p2 : Int) (p3 : (List Int)) (r : (Sight × Int)) (h : convoy_Look p1 p2 p3 = some r) : PCall Try.prog 27 [(.agg (eConvoy p1)), (i64 p2), (.list (List.map eInt_i64 p3))] (.tup [(.agg (eSight r.1)), (i64 r.2)]) := by
  refine l_call fn_convoy_Look (nl rfl) ?_
  unfold convoy_Look at h
  unfold ac_convoy_Look
  refine l_sub (s0 := ⟨T [(0, (.d _)), (1, (.d _)), (2, (.d _))], G []⟩) (sbr rfl rfl) ?_
  refine lr (fun u1 hu1 => sn rfl rfl (sn rfl rfl (sn rfl rfl (sv rfl (s_nil (l_seq (lr (fun u2 hu2 => sd rfl (v_loadG rfl (gq rfl) rfl rfl) (bs h fun v1 hv1 h => s_call rfl rfl all2_refl (convoy_Check_ok _  _ hv1) (.inl rfl) (sv rfl (s_nil (lr (fun u3 hu3 => sv rfl (sv rfl (s_nil (cc rfl h (fun c1 h => ?_) (fun c1 h => ?_)))))))))))))))))
  · refine lr (fun u4 hu4 => sv rfl (sv rfl (sst rfl G_hit [(di 0), (di 0), (di 0), (di 0), (di 0)] rfl (sv rfl (s_nil (l_ret ?_))))))
    obtain rfl := Option.some.inj h
    exact fin_ok (.inr rfl) (resD2 (res_cellG rfl G_hit (nl rfl) rfl) (res_t rfl) rf_d rf_d) (.refl _)
  · refine l_skip (lr (fun u5 hu5 => sp rfl rfl (sl rfl (gq rfl) rfl (sv rfl (bs h fun v2 hv2 h => s_call rfl rfl all2_refl (convoy_find_ok _ _  _ hv2) (.inl rfl) (sv rfl (sv rfl (s_nil (l_seq (lr (fun u6 hu6 => sv rfl (sv rfl (sv rfl (gt rfl (fun _ => rfl) (gp rfl (gw_t rfl) (fun _ => rfl) ?_)))))))))))))))
    refine g_val _ (.ptr _ _) rfl (gw_t rfl) (fun w3 => (by simp only [gd_pos w3]; rfl)) ?_
    refine gt rfl (vl rfl (gq rfl) rfl) (gt rfl (fun w5 => (v_bin (gd_pos w5) (gd_pos w5) rfl)) (sa rfl rfl rfl (s_nil (bs h fun y1 hy1 h => l_join (fun s => ∃ g1 : Unit, Sb ⟨T [(1, (di p2)), (3, (.ptr (3, u1) 0)), (5, (.ptr (5, u1) 0)), (6, (.ptr (6, u1) 0)), (9, (di y1))], G [((3, u1), some (.box 38 (dConvoy p1))), ((5, u1), some (.box 39 [(dl eInt_i64 p3)])), ((6, u1), some (.box 42 [(di 0), (di 0), (di 0), (di 0), (di 0)]))]⟩ s) ?_ ?_))))
    · refine cc rfl hy1 (fun c2 hy1 => ?_) (fun c2 hy1 => ?_)
      · refine l_sub (s0 := ⟨T [(1, (.d _)), (3, (.ptr _ _)), (5, (.ptr _ _)), (6, (.ptr _ _))], G [((3, u1), some (.box 38 _)), ((5, u1), some (.box 39 _)), ((6, u1), some (.box 42 _))]⟩) (sbr rfl rfl) ?_
        refine l_reg fun u7 hu7 => sd rfl (v_loadG rfl G_hit rfl rfl) (bs hy1 fun v3 hv3 hy1 => s_call rfl rfl all2_refl (convoy_beside_ok _  _ hv3) (.inl rfl) (sv rfl (sv rfl (sv rfl (sv rfl (s_nil ?_))))))
        obtain rfl := Option.some.inj hy1
        exact l_j ⟨(), (sbr rfl rfl)⟩
      · refine l_skip ?_
        obtain rfl := Option.some.inj hy1
        exact l_j ⟨(), (sbr rfl rfl)⟩
    · rintro _ ⟨g1, q1⟩
      refine l_sub q1 (l_seq (lr (fun u8 hu8 => sv rfl (sv rfl (s_nil (cc rfl h (fun c3 h => ?_) (fun c3 h => ?_)))))))
      · refine lr (fun u9 hu9 => sv rfl (sst rfl (gq rfl) [(di 0), (di 0), (di 0), (di 0), (di 0)] rfl (sv rfl (s_nil (l_ret ?_)))))
        obtain rfl := Option.some.inj h
        exact fin_ok (.inr rfl) (resD2 (res_cellG rfl G_hit (nl rfl) rfl) (res_t rfl) rf_d rf_d) (.refl _)
      · refine l_skip (lr (fun u10 hu10 => s_val (.fn _ _ _) rfl rfl (s_val (.fn _ _ _) rfl rfl (s_nil (lr (fun u11 hu11 => sp rfl rfl (sl rfl G_hit rfl (sv rfl (bs h fun v4 hv4 h => sd rfl (v_idx rfl rfl hv4 rfl) (sd rfl (v_loadLG rfl hv4 rfl rfl) (sn rfl rfl (sst rfl G_hit (dMate v4) rfl (s_nil (l_seq (l_draw rfl fun u12 hu12 => sv rfl (sd rfl (v_loadG rfl G_hit rfl rfl) (bs h fun v5 hv5 h => s_call rfl rfl all2_refl (convoy_rear_ok _  _ hv5) (.inl rfl) (s_val (.fn _ _ _) rfl rfl (bs h fun v6 hv6 h => s_call rfl (rfL_cons rf_d (rfL_cons rf_d (rfL_cons (rf_ptr (gq rfl) (rfL_cons rf_d rfL_nil)) rfL_nil))) all2_refl (convoy_Look_1_b_ok _ _ _  _ hv6) (.inr rfl) (sv rfl (sd rfl (v_loadG rfl G_hit rfl rfl) (bs h fun v7 hv7 h => s_call rfl rfl all2_refl (convoy_rear_ok _  _ hv7) (.inl rfl) (s_val (.fn _ _ _) rfl rfl (bs h fun v8 hv8 h => s_call rfl (rfL_cons rf_d (rfL_cons rf_d (rfL_cons (rf_ptr (gq rfl) (rfL_cons rf_d rfL_nil)) rfL_nil))) all2_refl (convoy_Look_1_b_ok _ _ _  _ hv8) (.inr rfl) (sv rfl (sp rfl rfl (sl rfl G_hit rfl (s_val (.fn _ _ _) rfl rfl (bs h fun v9 hv9 h => s_call rfl (rfL_cons rf_d (rfL_cons rf_d (rfL_cons (rf_ptr (gq rfl) (rfL_cons rf_d rfL_nil)) rfL_nil))) all2_refl (convoy_Look_1_b_ok _ _ _  _ hv9) (.inr rfl) (sv rfl (sv rfl (sp rfl rfl (sl rfl G_hit rfl (s_val (.fn _ _ _) rfl rfl (bs h fun v10 hv10 h => s_call rfl (rfL_cons rf_d (rfL_cons rf_d (rfL_cons (rf_ptr (gq rfl) (rfL_cons rf_d rfL_nil)) rfL_nil))) all2_refl (convoy_Look_1_b_ok _ _ _  _ hv10) (.inr rfl) (sv rfl (sv rfl (sv rfl (sst rfl (gq rfl) [(di p2), (di (w64 (v5 - v6))), (di (w64 (v7 + v8))), (di (mm2 true 0 (w64 (v4.V - v9)))), (di (mm2 false 2000 (w64 (v4.V + v10))))] rfl (sv rfl (s_nil (l_ret ?_))))))))))))))))))))))))))))))))))))))))))
        obtain rfl := Option.some.inj h
        exact fin_ok (.inr rfl) (resD2 (res_cellG rfl G_hit (nl rfl) rfl) (res_t rfl) rf_d rf_d) (.refl _)

noncomputable def convoy_Ramp_1_b (p1 : Mate) (p2 : Guest) : Option Bool :=
  some ((p1.ID == p2.ID) || (p1.Ward == p2.ID))

/-- kerbstone/convoy.Ramp$1 -/
def ac_convoy_Ramp_1_b : AC := (.seq (.reg [oo 2 (.box 65 true (.t 0)), oo 3 (.mv (.c zf))]) (.seq (.reg [oo 4 (.fieldA 0 (.t 2)), oo 5 (.load 1 false (.t 4)), oo 6 (.fieldA 0 (.t 1)), oo 7 (.load 1 false (.t 6)), oo 8 (.bin .eql (.t 5) (.t 7)), oo 9 (.mv (.t 8)), oh 10 (.fieldA 8 (.t 2)) 9, oh 11 (.load 1 false (.t 10)) 9, oh 12 (.fieldA 0 (.t 1)) 9, oh 13 (.load 1 false (.t 12)) 9, oh 14 (.bin .eql (.t 11) (.t 13)) 9, oo 15 (.pick (.t 9) (.c (.v (.bool true))) (.t 14)), oo 3 (.mv (.t 15))]) .ret))
theorem fn_convoy_Ramp_1_b : FnOK Try.prog 81 16 [.t 3] ac_convoy_Ramp_1_b := ⟨_, _, Try.func81, rfl, Try.ntmps81, by kernel_rfl, ⟨fun _ => [], by kernel_rfl⟩, by kernel_rfl⟩
theorem convoy_Ramp_1_b_ok (p1 : Mate) (p2 : Guest) (r : Bool) (h : convoy_Ramp_1_b p1 p2 = some r) : PCall Try.prog 81 [(.agg (eMate p1)), (.bp (eGuest p2) 0)] (bo r) := by
  refine l_call fn_convoy_Ramp_1_b (nl rfl) ?_
  unfold convoy_Ramp_1_b at h
  unfold ac_convoy_Ramp_1_b
  refine l_sub (s0 := ⟨T [(0, (.d _)), (1, (.d _))], G []⟩) (sbr rfl rfl) ?_
  refine lr (fun u1 hu1 => sn rfl rfl (sv rfl (s_nil (lr (fun u2 hu2 => sp rfl rfl (sl rfl G_hit rfl (sv rfl (sv rfl (sv rfl (sv rfl (gp rfl (gw_f rfl) (fun _ => rfl) (gf rfl (vl rfl G_hit rfl) (gf rfl (fun _ => rfl) ?_)))))))))))))
  refine gf rfl (fun w4 => (by simp only [gd_pos w4]; rfl)) ?_
  refine gf rfl (fun w5 => (v_bin (gd_pos w5) (gd_pos w5) rfl)) (sd rfl (v_or rfl rfl (fun hc => gd_pos (not_t hc))) (sv rfl (s_nil (l_ret ?_))))
  obtain rfl := Option.some.inj h
  exact fin_ok (.inr rfl) (resD1 (res_t rfl) rf_d) (.refl _)

noncomputable def slices_IndexFunc_Mate_Mate_convoy_Ramp_1b_l1 (p1 : (List Mate)) (p2 : Guest) (x1 : Int) : Option (Stp Int (Sum Unit Int)) :=
  cond (decide (x1 < (p1.length : Int))) ((geti p1 x1).bind fun v1 => (convoy_Ramp_1_b v1 p2).bind fun v2 => cond v2 (some (.out (.inr x1))) (some (.go (w64 (x1 + 1))))) (some (.out (.inl ())))
noncomputable def slices_IndexFunc_Mate_Mate_convoy_Ramp_1b (p1 : (List Mate)) (p2 : Guest) : Option Int :=
  thenS (loop (slices_IndexFunc_Mate_Mate_convoy_Ramp_1b_l1 p1 p2) 0) (fun _ => some (-1)) (fun r => some r)

/-- slices.IndexFunc[[]kerbstone/api.Mate,kerbstone/api.Mate] -/
def ac_slices_IndexFunc_Mate_Mate_convoy_Ramp_1b : AC := (.seq (.reg [oo 4 (.mv (ci 0))]) (.seq (.seq (.reg [oo 6 (.mv (.t 0)), oo 7 (.len (.t 6)), oo 8 (.mv (ci 0))]) (.block 0 (.loop (.seq (.reg [oo 9 (.bin .lss (.t 8) (.t 7))]) (.seq (.cond (.t 9) .skip (.exit 0)) (.seq (.block 1 (.seq (.reg [oo 10 (.mv (.t 8)), oo 5 (.mv (.t 10))]) (.seq (.reg [oo 11 (.mv (.t 1)), oo 12 (.mv (.t 0)), oo 13 (.mv (.t 5)), oo 14 (.idxS 12 (.t 12) (.t 13)), oo 15 (.load 12 true (.t 14)), oo 16 (.call (.t 11) [(.t 15)])]) (.cond (.t 16) (.seq (.reg [oo 17 (.mv (.t 5)), oo 4 (.mv (.t 17))]) .ret) .skip)))) (.reg [oo 18 (.bin .add (.t 8) (ci 1)), oo 8 (.mv (.t 18))]))))))) (.seq (.reg [oo 4 (.mv (ci (-1)))]) .ret)))
theorem fn_slices_IndexFunc_Mate_Mate_convoy_Ramp_1b : FnOK Try.prog 98 19 [.t 4] ac_slices_IndexFunc_Mate_Mate_convoy_Ramp_1b := ⟨_, _, Try.func98, rfl, Try.ntmps98, by kernel_rfl, ⟨fun _ => [], by kernel_rfl⟩, by kernel_rfl⟩
set_option maxHeartbeats 4000000 in
theorem slices_IndexFunc_Mate_Mate_convoy_Ramp_1b_ok (p1 : (List Mate)) (p2 : Guest) (r : Int) (h : slices_IndexFunc_Mate_Mate_convoy_Ramp_1b p1 p2 = some r) : PCall Try.prog 98 [(.list (List.map eMate p1)), (.fn (.func 81) [] [(.bp (eGuest p2) 0)])] (i64 r) := by
  refine l_call fn_slices_IndexFunc_Mate_Mate_convoy_Ramp_1b (nl rfl) ?_
  unfold slices_IndexFunc_Mate_Mate_convoy_Ramp_1b at h
  unfold ac_slices_IndexFunc_Mate_Mate_convoy_Ramp_1b
  refine l_sub (s0 := ⟨T [(0, (.d _)), (1, (.d _))], G []⟩) (sbr rfl rfl) ?_
  refine lr (fun u1 hu1 => sv rfl (s_nil (l_seq (lr (fun u2 hu2 => sv rfl (sd rfl (v_len rfl) (sv rfl (s_nil (js h fun z1 hz1 h => l_join (fun s => ∃ (y1 : Unit) (g1 : Unit), z1 = .inl y1 ∧ Sb ⟨T [], G []⟩ s) ?_ ?_)))))))))
  · refine l_block (l_loop (slices_IndexFunc_Mate_Mate_convoy_Ramp_1b_l1 p1 p2) (fun (x1 : Int) (g2 : Unit) => ⟨T [(0, (dl eMate p1)), (1, (.d (.fn (.func 81) [] [(.bp (eGuest p2) 0)]))), (7, (di (p1.length : Int))), (8, (di x1))], G []⟩) 0 () _ hz1 (sbr rfl rfl) ?_)
    intro x1 g2 z2 hz2 ez2
    unfold slices_IndexFunc_Mate_Mate_convoy_Ramp_1b_l1 at hz2
    refine lr (fun u3 hu3 => sv rfl (s_nil (l_seq (cc rfl hz2 (fun c1 hz2 => ?_) (fun c1 hz2 => ?_)))))
    · refine l_skip (l_seq (l_block (lr (fun u4 hu4 => sv rfl (sv rfl (s_nil (lr (fun u5 hu5 => sv rfl (sv rfl (sv rfl (bs hz2 fun v1 hv1 hz2 => sd rfl (v_idx rfl rfl hv1 rfl) (sd rfl (v_loadLG rfl hv1 rfl rfl) (bs hz2 fun v2 hv2 hz2 => s_call rfl rfl all2_refl (convoy_Ramp_1_b_ok _ _  _ hv2) (.inl rfl) (s_nil (cc rfl hz2 (fun c2 hz2 => ?_) (fun c2 hz2 => ?_))))))))))))))))
      · refine lr (fun u6 hu6 => sv rfl (sv rfl (s_nil (l_ret ?_))))
        obtain rfl := Option.some.inj hz2
        obtain rfl := ez2 _ rfl
        refine ⟨nofun, awl_ret ?_⟩
        rw [Sum.elim_inr] at h
        obtain rfl := Option.some.inj h
        exact fin_ok (.inr rfl) (resD1 (res_t rfl) rf_d) (.refl _)
      · refine l_skip (l_end (l_reg fun u7 hu7 => sv rfl (sv rfl (s_nil (l_nil ?_)))))
        obtain rfl := Option.some.inj hz2
        exact ⟨rfl, (), (sbr rfl rfl)⟩
    · refine l_exitN rfl ?_
      obtain rfl := Option.some.inj hz2
      obtain rfl := ez2 _ rfl
      refine ⟨nofun, awl_pop rfl (l_j ?_)⟩
      exact ⟨_, (), rfl, (sbr rfl rfl)⟩
  · rintro _ ⟨y1, g1, rfl, q1⟩
    rw [Sum.elim_inl] at h
    refine l_sub q1 (lr (fun u8 hu8 => sv rfl (s_nil (l_ret ?_))))
    obtain rfl := Option.some.inj h
    exact fin_ok (.inr rfl) (resD1 (res_t rfl) rf_d) (.refl _)

noncomputable def slices_ContainsFunc_Mate_Mate_convoy_Ramp_1b (p1 : (List Mate)) (p2 : Guest) : Option Bool :=
  (slices_IndexFunc_Mate_Mate_convoy_Ramp_1b p1 p2).bind fun v1 => some (decide (v1 ≥ 0))

/-- slices.ContainsFunc[[]kerbstone/api.Mate,kerbstone/api.Mate] -/
def ac_slices_ContainsFunc_Mate_Mate_convoy_Ramp_1b : AC := (.seq (.reg [oo 4 (.mv (.c zf))]) (.seq (.reg [oo 5 (.mv (.t 0)), oo 6 (.mv (.t 1)), oo 7 (.call (cf 98) [(.t 5), (.t 6)]), oo 8 (.bin .geq (.t 7) (ci 0)), oo 4 (.mv (.t 8))]) .ret))
theorem fn_slices_ContainsFunc_Mate_Mate_convoy_Ramp_1b : FnOK Try.prog 77 9 [.t 4] ac_slices_ContainsFunc_Mate_Mate_convoy_Ramp_1b := ⟨_, _, Try.func77, rfl, Try.ntmps77, by kernel_rfl, ⟨fun _ => [], by kernel_rfl⟩, by kernel_rfl⟩
theorem slices_ContainsFunc_Mate_Mate_convoy_Ramp_1b_ok (p1 : (List Mate)) (p2 : Guest) (r : Bool) (h : slices_ContainsFunc_Mate_Mate_convoy_Ramp_1b p1 p2 = some r) : PCall Try.prog 77 [(.list (List.map eMate p1)), (.fn (.func 81) [] [(.bp (eGuest p2) 0)])] (bo r) := by
  refine l_call fn_slices_ContainsFunc_Mate_Mate_convoy_Ramp_1b (nl rfl) ?_
  unfold slices_ContainsFunc_Mate_Mate_convoy_Ramp_1b at h
  unfold ac_slices_ContainsFunc_Mate_Mate_convoy_Ramp_1b
  refine l_sub (s0 := ⟨T [(0, (.d _)), (1, (.d _))], G []⟩) (sbr rfl rfl) ?_
  refine lr (fun u1 hu1 => sv rfl (s_nil (lr (fun u2 hu2 => sv rfl (sv rfl (bs h fun v1 hv1 h => s_call rfl rfl all2_refl (slices_IndexFunc_Mate_Mate_convoy_Ramp_1b_ok _ _  _ hv1) (.inl rfl) (sv rfl (sv rfl (s_nil (l_ret ?_))))))))))
  obtain rfl := Option.some.inj h
  exact fin_ok (.inr rfl) (resD1 (res_t rfl) rf_d) (.refl _)

noncomputable def slices_Clone_Mate_Mate (p1 : List Mate) : Option (List Mate) := appc [] p1

/-- slices.Clone[[]kerbstone/api.Mate,kerbstone/api.Mate] -/
def ac_slices_Clone_Mate_Mate : AC := (.seq (.reg [oo 2 (.mv (.c .nilS))]) (.seq (.seq (.reg [oo 3 (.mv (.t 0)), oo 4 (.isnil false (.t 3))]) (.cond (.t 4) (.seq (.reg [oo 2 (.mv (.c .nilS))]) .ret) .skip)) (.seq (.reg [oo 5 (.bslice 65 12 0 [z0, z0, z0, z0, z0, z0, z0, zf, z0, z0, z0, z0] []), oo 6 (.mv (.t 0)), oo 7 (.append 34 65 12 (.t 5) (.t 6)), oo 2 (.mv (.t 7))]) .ret)))
theorem fn_slices_Clone_Mate_Mate : FnOK Try.prog 83 8 [.t 2] ac_slices_Clone_Mate_Mate := ⟨_, _, Try.func83, rfl, Try.ntmps83, by kernel_rfl, ⟨fun _ => [], by kernel_rfl⟩, by kernel_rfl⟩
theorem slices_Clone_Mate_Mate_walk (p1 : List Mate) (a0 : D) (hl : appc ([] : List Mate) p1 = some p1) (hn : ∀ h, val1 (T [(3, .d a0), (2, .d .nilS), (0, .d a0)]) h (.isnil false (.t 3)) = some (.d (bo false))) (he : ∀ h, elemsOf h 12 (.d a0) = some (List.map eMate p1)) :
    PCall Try.prog 83 [a0] (.list (List.map eMate p1)) := by
  refine l_call fn_slices_Clone_Mate_Mate (Nat.le_of_ble_eq_true rfl) ?_
  unfold ac_slices_Clone_Mate_Mate
  refine (l_sub (s0 := ⟨T [(0, .d a0)], G []⟩) (sb_of ⟨.of rfl, trivial⟩ trivial) ?_)
  refine l_seq ?_
  refine l_reg fun u1 hu1 => ?_
  refine s_val (.d .nilS) rfl rfl ?_
  refine s_nil ?_
  refine l_seq ?_
  refine l_seq ?_
  refine l_reg fun u2 hu2 => ?_
  refine s_val (.d a0) rfl rfl ?_
  refine s_val (.d (bo false)) rfl (hn _) ?_
  refine s_nil ?_
  refine l_condF rfl ?_
  refine l_skip ?_
  refine l_seq ?_
  refine l_reg fun u3 hu3 => ?_
  refine s_new (.sl _) (.arr 65 12 (List.map eMate ([] : List Mate))) rfl rfl ?_
  refine s_val (.d a0) rfl rfl ?_
  refine s_append eMate _ [] p1 _ (he _) rfl G_hit hl ?_
  refine s_val (.sl _) rfl rfl ?_
  refine s_nil ?_
  refine l_ret ?_
  exact fin_ok (.inr rfl) (resD1 (res_t rfl) (rf_sl G_hit)) (.refl _)
theorem slices_Clone_Mate_Mate_ok (p1 : List Mate) (r : List Mate) (h : slices_Clone_Mate_Mate p1 = some r) : PCall Try.prog 83 [.list (List.map eMate p1)] (.list (List.map eMate r)) := by
  have hr : r = p1 := by obtain ⟨_, rfl⟩ := appc_some h; rfl
  subst hr
  cases r with
  | cons x xs => exact slices_Clone_Mate_Mate_walk (x :: xs) _ h (fun _ => rfl) fun _ => elems_list (fun _ => rfl)
  | nil =>
    refine PCall.nil fun A cap => ?_
    cases A with
    | some A => exact slices_Clone_Mate_Mate_walk [] (.v (.slice (some A) 0 cap)) h (fun _ => rfl) fun _ => rfl
    | none =>
      refine l_call fn_slices_Clone_Mate_Mate (Nat.le_of_ble_eq_true rfl) ?_
      unfold ac_slices_Clone_Mate_Mate
      refine (l_sub (s0 := ⟨T [(0, .d (.v (.slice none 0 cap)))], G []⟩) (sb_of ⟨.of rfl, trivial⟩ trivial) ?_)
      refine l_seq ?_
      refine l_reg fun u1 hu1 => ?_
      refine s_val (.d .nilS) rfl rfl ?_
      refine s_nil ?_
      refine l_seq ?_
      refine l_seq ?_
      refine l_reg fun u2 hu2 => ?_
      refine s_val (.d _) rfl rfl ?_
      refine s_val (.d (bo true)) rfl rfl ?_
      refine s_nil ?_
      refine l_condT rfl ?_
      refine l_seq ?_
      refine l_reg fun u3 hu3 => ?_
      refine s_val (.d .nilS) rfl rfl ?_
      refine s_nil ?_
      refine l_ret ?_
      exact fin_ok (.inr rfl) (resD1 (res_t rfl) rf_d) .nil

noncomputable def convoy_Copy (p1 : Convoy) : Option Convoy :=
  (slices_Clone_Mate_Mate p1.Mates).bind fun v1 => some (Convoy.mk p1.Tick p1.Gap v1 p1.Guest_)

/-- kerbstone/convoy.Copy -/
def ac_convoy_Copy : AC := (.seq (.reg [oo 1 (.box 38 true (.t 0)), oo 2 (.alloc 38 [z0, z0, .nilS, z0, z0, z0, z0, z0, z0, z0, z0, z0, z0])]) (.seq (.reg [oo 3 (.fieldA 2 (.t 1)), oo 4 (.load 1 false (.t 3)), oo 5 (.call (cf 83) [(.t 4)]), oo 6 (.fieldA 2 (.t 1)), oe (.store 1 (.t 6) (.t 5))]) (.seq (.reg [oo 7 (.load 13 true (.t 1)), oe (.store 13 (.t 2) (.t 7))]) .ret)))
theorem fn_convoy_Copy : FnOK Try.prog 48 8 [.cell 2 13 true] ac_convoy_Copy := ⟨_, _, Try.func48, rfl, Try.ntmps48, by kernel_rfl, ⟨fun _ => [], by kernel_rfl⟩, by kernel_rfl⟩
theorem convoy_Copy_ok (p1 : Convoy) (r : Convoy) (h : convoy_Copy p1 = some r) : PCall Try.prog 48 [(.agg (eConvoy p1))] (.agg (eConvoy r)) := by
  refine l_call fn_convoy_Copy (nl rfl) ?_
  unfold convoy_Copy at h
  unfold ac_convoy_Copy
  refine l_sub (s0 := ⟨T [(0, (.d _))], G []⟩) (sbr rfl rfl) ?_
  refine lr (fun u1 hu1 => sn rfl rfl (sn rfl rfl (s_nil (lr (fun u2 hu2 => sp rfl rfl (sl rfl (gq rfl) rfl (bs h fun v1 hv1 h => s_call rfl rfl all2_refl (slices_Clone_Mate_Mate_ok _  _ hv1) (.inl rfl) (sp rfl rfl (sst rfl (gq rfl) [(di p1.Tick), (di p1.Gap), (dl eMate v1), (di p1.Guest_.ID), (di p1.Guest_.S), (di p1.Guest_.V), (di p1.Guest_.Len), (di p1.Guest_.End), (di p1.Guest_.Ahead), (di p1.Guest_.Guess_.R), (di p1.Guest_.Guess_.V), (di p1.Guest_.From), (di p1.Guest_.Until)] rfl (s_nil (lr (fun u3 hu3 => sd rfl (v_loadG rfl G_hit rfl rfl) (sst rfl (gq rfl) [(di p1.Tick), (di p1.Gap), (dl eMate v1), (di p1.Guest_.ID), (di p1.Guest_.S), (di p1.Guest_.V), (di p1.Guest_.Len), (di p1.Guest_.End), (di p1.Guest_.Ahead), (di p1.Guest_.Guess_.R), (di p1.Guest_.Guess_.V), (di p1.Guest_.From), (di p1.Guest_.Until)] rfl (s_nil (l_ret ?_)))))))))))))))
  obtain rfl := Option.some.inj h
  exact fin_ok (.inr rfl) (resD1 (res_cellG rfl G_hit (nl rfl) rfl) rf_d) (.refl _)

noncomputable def convoy_Ramp (p1 : Convoy) (p2 : Guest) : Option (Convoy × Int) :=
  (convoy_Check p1).bind fun v1 => cond (v1 != 0) (some ((Convoy.mk 0 0 [] (Guest.mk 0 0 0 0 0 0 (Guess.mk 0 0) 0 0)), v1)) (((cond ((!(p1.Guest_.ID != 0)) && (p2.ID != 0)) (slices_ContainsFunc_Mate_Mate_convoy_Ramp_1b p1.Mates p2) (some default))).bind fun v2 => cond ((p1.Guest_.ID != 0) || ((p2.ID != 0) && v2)) (some ((Convoy.mk 0 0 [] (Guest.mk 0 0 0 0 0 0 (Guess.mk 0 0) 0 0)), 9)) (cond (p2.ID == 0) (some ((Convoy.mk 0 0 [] (Guest.mk 0 0 0 0 0 0 (Guess.mk 0 0) 0 0)), 2)) ((convoy_Copy p1).bind fun v3 => (convoy_Check (Convoy.mk v3.Tick v3.Gap v3.Mates (Guest.mk p2.ID p2.S p2.V p2.Len p2.End 0 (Guess.mk 0 0) 0 0))).bind fun v4 => cond (v4 != 0) (some ((Convoy.mk 0 0 [] (Guest.mk 0 0 0 0 0 0 (Guess.mk 0 0) 0 0)), v4)) (some ((Convoy.mk v3.Tick v3.Gap v3.Mates (Guest.mk p2.ID p2.S p2.V p2.Len p2.End 0 (Guess.mk 0 0) 0 0)), 0)))))

/-- kerbstone/convoy.Ramp -/
def ac_convoy_Ramp : AC := (.seq (.reg [oo 2 (.box 38 true (.t 0)), oo 3 (.box 36 true (.t 1)), oo 4 (.alloc 38 [z0, z0, .nilS, z0, z0, z0, z0, z0, z0, z0, z0, z0, z0]), oo 5 (.mv (ci 0))]) (.seq (.seq (.reg [oo 10 (.load 13 true (.t 2)), oo 11 (.call (cf 32) [(.t 10)]), oo 6 (.mv (.t 11))]) (.seq (.reg [oo 12 (.mv (.t 6)), oo 13 (.bin .neq (.t 12) (ci 0))]) (.cond (.t 13) (.seq (.reg [oo 14 (.build [z0, z0, .nilS, z0, z0, z0, z0, z0, z0, z0, z0, z0, z0] []), oo 15 (.mv (.t 6)), oe (.store 13 (.t 4) (.t 14)), oo 5 (.mv (.t 15))]) .ret) .skip))) (.seq (.reg [oo 16 (.mkfn (.func 81) [] [(.t 3)]), oo 7 (.mv (.t 16))]) (.seq (.seq (.reg [oo 17 (.fieldA 3 (.t 2)), oo 18 (.fieldA 0 (.t 17)), oo 19 (.load 1 false (.t 18)), oo 20 (.bin .neq (.t 19) (ci 0)), oo 21 (.mv (.t 20)), oh 22 (.fieldA 0 (.t 3)) 21, oh 23 (.load 1 false (.t 22)) 21, oh 24 (.bin .neq (.t 23) (ci 0)) 21, oh 25 (.mv (.t 24)) 21, og 26 (.fieldA 2 (.t 2)) 25, og 27 (.load 1 false (.t 26)) 25, og 28 (.mv (.t 7)) 25, og 29 (.call (cf 77) [(.t 27), (.t 28)]) 25, oh 30 (.pick (.t 25) (.t 29) (.c zf)) 21, oo 31 (.pick (.t 21) (.c (.v (.bool true))) (.t 30))]) (.cond (.t 31) (.seq (.reg [oo 32 (.build [z0, z0, .nilS, z0, z0, z0, z0, z0, z0, z0, z0, z0, z0] []), oe (.store 13 (.t 4) (.t 32)), oo 5 (.mv (ci 9))]) .ret) .skip)) (.seq (.seq (.reg [oo 33 (.fieldA 0 (.t 3)), oo 34 (.load 1 false (.t 33)), oo 35 (.bin .eql (.t 34) (ci 0))]) (.cond (.t 35) (.seq (.reg [oo 36 (.build [z0, z0, .nilS, z0, z0, z0, z0, z0, z0, z0, z0, z0, z0] []), oe (.store 13 (.t 4) (.t 36)), oo 5 (.mv (ci 2))]) .ret) .skip)) (.seq (.reg [oo 37 (.load 13 true (.t 2)), oo 38 (.call (cf 48) [(.t 37)]), oo 8 (.alloc 38 [z0, z0, .nilS, z0, z0, z0, z0, z0, z0, z0, z0, z0, z0]), oe (.store 13 (.t 8) (.t 38))]) (.seq (.reg [oo 39 (.fieldA 0 (.t 3)), oo 40 (.load 1 false (.t 39)), oo 41 (.fieldA 1 (.t 3)), oo 42 (.load 1 false (.t 41)), oo 43 (.fieldA 2 (.t 3)), oo 44 (.load 1 false (.t 43)), oo 45 (.fieldA 3 (.t 3)), oo 46 (.load 1 false (.t 45)), oo 47 (.fieldA 4 (.t 3)), oo 48 (.load 1 false (.t 47)), oo 49 (.build [z0, z0, z0, z0, z0, z0, z0, z0, z0, z0] [(0, 1, (.t 40)), (1, 1, (.t 42)), (2, 1, (.t 44)), (3, 1, (.t 46)), (4, 1, (.t 48))]), oo 50 (.fieldA 3 (.t 8)), oe (.store 10 (.t 50) (.t 49))]) (.seq (.seq (.reg [oo 51 (.load 13 true (.t 8)), oo 52 (.call (cf 32) [(.t 51)]), oo 9 (.mv (.t 52))]) (.seq (.reg [oo 53 (.mv (.t 9)), oo 54 (.bin .neq (.t 53) (ci 0))]) (.cond (.t 54) (.seq (.reg [oo 55 (.build [z0, z0, .nilS, z0, z0, z0, z0, z0, z0, z0, z0, z0, z0] []), oo 56 (.mv (.t 9)), oe (.store 13 (.t 4) (.t 55)), oo 5 (.mv (.t 56))]) .ret) .skip))) (.seq (.reg [oo 57 (.load 13 true (.t 8)), oe (.store 13 (.t 4) (.t 57)), oo 5 (.mv (ci 0))]) .ret)))))))))
theorem fn_convoy_Ramp : FnOK Try.prog 45 58 [.cell 4 13 true, .t 5] ac_convoy_Ramp := ⟨_, _, Try.func45, rfl, Try.ntmps45, by kernel_rfl, ⟨fun _ => [], by kernel_rfl⟩, by kernel_rfl⟩
set_option maxHeartbeats 4000000 in
theorem convoy_Ramp_ok (p1 : Convoy) (p2 : Guest) (r : (Convoy × Int)) (h : convoy_Ramp p1 p2 = some r) : PCall Try.prog 45 [(.agg (eConvoy p1)), (.agg (eGuest p2))] (.tup [(.agg (eConvoy r.1)), (i64 r.2)]) := by
  refine l_call fn_convoy_Ramp (nl rfl) ?_
  unfold convoy_Ramp at h
  unfold ac_convoy_Ramp
  refine l_sub (s0 := ⟨T [(0, (.d _)), (1, (.d _))], G []⟩) (sbr rfl rfl) ?_
  refine lr (fun u1 hu1 => sn rfl rfl (sn rfl rfl (sn rfl rfl (sv rfl (s_nil (l_seq (lr (fun u2 hu2 => sd rfl (v_loadG rfl (gq rfl) rfl rfl) (bs h fun v1 hv1 h => s_call rfl rfl all2_refl (convoy_Check_ok _  _ hv1) (.inl rfl) (sv rfl (s_nil (lr (fun u3 hu3 => sv rfl (sv rfl (s_nil (cc rfl h (fun c1 h => ?_) (fun c1 h => ?_)))))))))))))))))
  · refine lr (fun u4 hu4 => sv rfl (sv rfl (sst rfl G_hit [(di 0), (di 0), (.d .nilS), (di 0), (di 0), (di 0), (di 0), (di 0), (di 0), (di 0), (di 0), (di 0), (di 0)] rfl (sv rfl (s_nil (l_ret ?_))))))
    obtain rfl := Option.some.inj h
    exact fin_ok (.inr rfl) (resD2 (res_cellG rfl G_hit (nl rfl) rfl) (res_t rfl) rf_d rf_d) (.tup (.cons (.agg (.cons ⟨(.refl _), rfl⟩ (.cons ⟨(.refl _), rfl⟩ (.cons ⟨DLe.nil, rfl⟩ (.cons ⟨(.refl _), rfl⟩ (.cons ⟨(.refl _), rfl⟩ (.cons ⟨(.refl _), rfl⟩ (.cons ⟨(.refl _), rfl⟩ (.cons ⟨(.refl _), rfl⟩ (.cons ⟨(.refl _), rfl⟩ (.cons ⟨(.refl _), rfl⟩ (.cons ⟨(.refl _), rfl⟩ (.cons ⟨(.refl _), rfl⟩ (.cons ⟨(.refl _), rfl⟩ .nil)))))))))))))) (.cons (.refl _) .nil)))
  · refine l_skip (lr (fun u5 hu5 => s_val (.fn _ _ _) rfl rfl (s_val (.fn _ _ _) rfl rfl (s_nil (l_seq (lr (fun u6 hu6 => sp rfl rfl (sp rfl rfl (sl rfl (gq rfl) rfl (sv rfl (sv rfl (gp rfl (gw_f rfl) (fun _ => rfl) (gf rfl (vl rfl (gq rfl) rfl) (gf rfl (vb rfl rfl rfl) (gf rfl (fun w4 => (v_mv (gd_pos w4))) (g_val _ (.ptr _ _) rfl (gw_gt rfl) (fun _ => rfl) (gv rfl (gw_gt rfl) (vl rfl (gq rfl) rfl) (g_val _ (.fn _ _ _) rfl (gw_gt rfl) (fun _ => rfl) (bs h fun v2 hv2 h => ?_)))))))))))))))))))
    refine g_call _ (bo v2) (gw_gt rfl) (fun w8 => ⟨_, [(dl eMate p1.Mates), (.fn (.func 81) [] [(.ptr (3, u1) 0)])], _, _, (by simp only [gd_pos w8]; rfl), (rfL_cons rf_d (rfL_cons (rf_fn rfL_nil (rfL_cons (rf_ptr (gq rfl) (rfL_cons rf_d (rfL_cons rf_d (rfL_cons rf_d (rfL_cons rf_d (rfL_cons rf_d (rfL_cons rf_d (rfL_cons rf_d (rfL_cons rf_d (rfL_cons rf_d (rfL_cons rf_d rfL_nil))))))))))) rfL_nil)) rfL_nil)), all2_refl, slices_ContainsFunc_Mate_Mate_convoy_Ramp_1b_ok _ _  _ (cond_t w8 hv2), (.inr rfl)⟩) ?_
    refine gf rfl (fun w9 => (v_and (gd_pos w9) (fun hc => gd_pos (and_i w9 hc)) rfl)) (sd rfl (v_or rfl rfl (fun hc => gd_pos (not_t hc))) (s_nil (cc rfl h (fun c2 h => ?_) (fun c2 h => ?_))))
    · refine l_seq (l_sub (s0 := ⟨T [(4, (.ptr _ _))], G [((4, u1), some (.box 38 _))]⟩) (sbr rfl rfl) ?_)
      refine l_reg fun u7 hu7 => sv rfl (sst rfl G_hit [(di 0), (di 0), (.d .nilS), (di 0), (di 0), (di 0), (di 0), (di 0), (di 0), (di 0), (di 0), (di 0), (di 0)] rfl (sv rfl (s_nil (l_ret ?_))))
      obtain rfl := Option.some.inj h
      exact fin_ok (.inr rfl) (resD2 (res_cellG rfl G_hit (nl rfl) rfl) (res_t rfl) rf_d rf_d) (.tup (.cons (.agg (.cons ⟨(.refl _), rfl⟩ (.cons ⟨(.refl _), rfl⟩ (.cons ⟨DLe.nil, rfl⟩ (.cons ⟨(.refl _), rfl⟩ (.cons ⟨(.refl _), rfl⟩ (.cons ⟨(.refl _), rfl⟩ (.cons ⟨(.refl _), rfl⟩ (.cons ⟨(.refl _), rfl⟩ (.cons ⟨(.refl _), rfl⟩ (.cons ⟨(.refl _), rfl⟩ (.cons ⟨(.refl _), rfl⟩ (.cons ⟨(.refl _), rfl⟩ (.cons ⟨(.refl _), rfl⟩ .nil)))))))))))))) (.cons (.refl _) .nil)))
    · refine l_skip (l_seq (l_seq (l_sub (s0 := ⟨T [(2, (.ptr _ _)), (3, (.ptr _ _)), (4, (.ptr _ _))], G [((2, u1), some (.box 38 _)), ((3, u1), some (.box 36 _)), ((4, u1), some (.box 38 _))]⟩) (sbr rfl rfl) ?_)))
      refine l_reg fun u8 hu8 => sp rfl rfl (sl rfl (gq rfl) rfl (sv rfl (s_nil (cc rfl h (fun c3 h => ?_) (fun c3 h => ?_)))))
      · refine lr (fun u9 hu9 => sv rfl (sst rfl (gq rfl) [(di 0), (di 0), (.d .nilS), (di 0), (di 0), (di 0), (di 0), (di 0), (di 0), (di 0), (di 0), (di 0), (di 0)] rfl (sv rfl (s_nil (l_ret ?_)))))
        obtain rfl := Option.some.inj h
        exact fin_ok (.inr rfl) (resD2 (res_cellG rfl G_hit (nl rfl) rfl) (res_t rfl) rf_d rf_d) (.tup (.cons (.agg (.cons ⟨(.refl _), rfl⟩ (.cons ⟨(.refl _), rfl⟩ (.cons ⟨DLe.nil, rfl⟩ (.cons ⟨(.refl _), rfl⟩ (.cons ⟨(.refl _), rfl⟩ (.cons ⟨(.refl _), rfl⟩ (.cons ⟨(.refl _), rfl⟩ (.cons ⟨(.refl _), rfl⟩ (.cons ⟨(.refl _), rfl⟩ (.cons ⟨(.refl _), rfl⟩ (.cons ⟨(.refl _), rfl⟩ (.cons ⟨(.refl _), rfl⟩ (.cons ⟨(.refl _), rfl⟩ .nil)))))))))))))) (.cons (.refl _) .nil)))
      · refine l_skip (lr (fun u10 hu10 => sd rfl (v_loadG rfl G_hit rfl rfl) (bs h fun v3 hv3 h => s_call rfl rfl all2_refl (convoy_Copy_ok _  _ hv3) (.inl rfl) (sn rfl rfl (sst rfl G_hit (dConvoy v3) rfl (s_nil (lr (fun u11 hu11 => sp rfl rfl (sl rfl (gq rfl) rfl (sp rfl rfl (sl rfl (gq rfl) rfl (sp rfl rfl (sl rfl (gq rfl) rfl (sp rfl rfl (sl rfl (gq rfl) rfl (sp rfl rfl (sl rfl (gq rfl) rfl (sv rfl (sp rfl rfl (sst rfl G_hit [(di v3.Tick), (di v3.Gap), (dl eMate v3.Mates), (di p2.ID), (di p2.S), (di p2.V), (di p2.Len), (di p2.End), (di 0), (di 0), (di 0), (di 0), (di 0)] rfl (s_nil (l_seq (l_seq (l_sub (s0 := ⟨T [(4, (.ptr _ _)), (8, (.ptr _ _))], G [((4, u1), some (.box 38 _)), ((8, u10), some (.box 38 _))]⟩) (sbr rfl rfl) ?_))))))))))))))))))))))))
        refine l_reg fun u12 hu12 => sd rfl (v_loadG rfl (gq rfl) rfl rfl) (bs h fun v4 hv4 h => s_call rfl rfl all2_refl (convoy_Check_ok _  _ hv4) (.inl rfl) (sv rfl (s_nil (lr (fun u13 hu13 => sv rfl (sv rfl (s_nil (cc rfl h (fun c4 h => ?_) (fun c4 h => ?_)))))))))
        · refine lr (fun u14 hu14 => sv rfl (sv rfl (sst rfl G_hit [(di 0), (di 0), (.d .nilS), (di 0), (di 0), (di 0), (di 0), (di 0), (di 0), (di 0), (di 0), (di 0), (di 0)] rfl (sv rfl (s_nil (l_ret ?_))))))
          obtain rfl := Option.some.inj h
          exact fin_ok (.inr rfl) (resD2 (res_cellG rfl G_hit (nl rfl) rfl) (res_t rfl) rf_d rf_d) (.tup (.cons (.agg (.cons ⟨(.refl _), rfl⟩ (.cons ⟨(.refl _), rfl⟩ (.cons ⟨DLe.nil, rfl⟩ (.cons ⟨(.refl _), rfl⟩ (.cons ⟨(.refl _), rfl⟩ (.cons ⟨(.refl _), rfl⟩ (.cons ⟨(.refl _), rfl⟩ (.cons ⟨(.refl _), rfl⟩ (.cons ⟨(.refl _), rfl⟩ (.cons ⟨(.refl _), rfl⟩ (.cons ⟨(.refl _), rfl⟩ (.cons ⟨(.refl _), rfl⟩ (.cons ⟨(.refl _), rfl⟩ .nil)))))))))))))) (.cons (.refl _) .nil)))
        · refine l_skip (lr (fun u15 hu15 => sd rfl (v_loadG rfl (gq rfl) rfl rfl) (sst rfl G_hit [(di v3.Tick), (di v3.Gap), (dl eMate v3.Mates), (di p2.ID), (di p2.S), (di p2.V), (di p2.Len), (di p2.End), (di 0), (di 0), (di 0), (di 0), (di 0)] rfl (sv rfl (s_nil (l_ret ?_))))))
          obtain rfl := Option.some.inj h
          exact fin_ok (.inr rfl) (resD2 (res_cellG rfl G_hit (nl rfl) rfl) (res_t rfl) rf_d rf_d) (.refl _)

noncomputable def law09_merged_l1 (x1 : (Int × Convoy)) : Option (Stp (Int × Convoy) (Sum Convoy Bool)) :=
  cond (decide (x1.1 < 2)) ((convoy_Notes x1.2).bind fun v3 => (convoy_Step x1.2 [] v3 []).bind fun v4 => cond (v4.2 != 0) (some (.out (.inr false))) (some (.go ((w64 (x1.1 + 1)), v4.1)))) (some (.out (.inl x1.2)))
noncomputable def law09_merged : Option Bool :=
  (convoy_New 1000 [(Mate.mk 0 60000 1000 4000 0 (Guess.mk 0 0) false 0 (Guess.mk 0 0) 0), (Mate.mk 0 30000 1000 4000 0 (Guess.mk 0 0) false 0 (Guess.mk 0 0) 0)]).bind fun v1 => cond (v1.2 != 0) (some false) ((convoy_Ramp v1.1 (Guest.mk 9 45000 1000 1000 200000 0 (Guess.mk 0 0) 0 0)).bind fun v2 => cond (v2.2 != 0) (some false) (thenS (loop (law09_merged_l1) (0, v2.1)) (fun y1 => ((cond (((y1.Mates.length : Int) == 3) && (y1.Guest_.ID == 0 && (y1.Guest_.S == 0 && (y1.Guest_.V == 0 && (y1.Guest_.Len == 0 && (y1.Guest_.End == 0 && (y1.Guest_.Ahead == 0 && (y1.Guest_.Guess_.R == 0 && (y1.Guest_.Guess_.V == 0 && (y1.Guest_.From == 0 && (y1.Guest_.Until == 0 && true))))))))))) (geti y1.Mates 1) (some default))).bind fun v5 => ((cond ((((y1.Mates.length : Int) == 3) && (y1.Guest_.ID == 0 && (y1.Guest_.S == 0 && (y1.Guest_.V == 0 && (y1.Guest_.Len == 0 && (y1.Guest_.End == 0 && (y1.Guest_.Ahead == 0 && (y1.Guest_.Guess_.R == 0 && (y1.Guest_.Guess_.V == 0 && (y1.Guest_.From == 0 && (y1.Guest_.Until == 0 && true))))))))))) && (v5.ID == 9)) (geti y1.Mates 1) (some default))).bind fun v6 => ((cond (((((y1.Mates.length : Int) == 3) && (y1.Guest_.ID == 0 && (y1.Guest_.S == 0 && (y1.Guest_.V == 0 && (y1.Guest_.Len == 0 && (y1.Guest_.End == 0 && (y1.Guest_.Ahead == 0 && (y1.Guest_.Guess_.R == 0 && (y1.Guest_.Guess_.V == 0 && (y1.Guest_.From == 0 && (y1.Guest_.Until == 0 && true))))))))))) && (v5.ID == 9)) && (v6.Ahead == 1)) (geti y1.Mates 1) (some default))).bind fun v7 => ((cond ((((((y1.Mates.length : Int) == 3) && (y1.Guest_.ID == 0 && (y1.Guest_.S == 0 && (y1.Guest_.V == 0 && (y1.Guest_.Len == 0 && (y1.Guest_.End == 0 && (y1.Guest_.Ahead == 0 && (y1.Guest_.Guess_.R == 0 && (y1.Guest_.Guess_.V == 0 && (y1.Guest_.From == 0 && (y1.Guest_.Until == 0 && true))))))))))) && (v5.ID == 9)) && (v6.Ahead == 1)) && (v7.S == 47000)) (geti y1.Mates 2) (some default))).bind fun v8 => ((cond (((((((y1.Mates.length : Int) == 3) && (y1.Guest_.ID == 0 && (y1.Guest_.S == 0 && (y1.Guest_.V == 0 && (y1.Guest_.Len == 0 && (y1.Guest_.End == 0 && (y1.Guest_.Ahead == 0 && (y1.Guest_.Guess_.R == 0 && (y1.Guest_.Guess_.V == 0 && (y1.Guest_.From == 0 && (y1.Guest_.Until == 0 && true))))))))))) && (v5.ID == 9)) && (v6.Ahead == 1)) && (v7.S == 47000)) && (v8.Ward == 9)) (geti y1.Mates 2) (some default))).bind fun v9 => ((cond ((((((((y1.Mates.length : Int) == 3) && (y1.Guest_.ID == 0 && (y1.Guest_.S == 0 && (y1.Guest_.V == 0 && (y1.Guest_.Len == 0 && (y1.Guest_.End == 0 && (y1.Guest_.Ahead == 0 && (y1.Guest_.Guess_.R == 0 && (y1.Guest_.Guess_.V == 0 && (y1.Guest_.From == 0 && (y1.Guest_.Until == 0 && true))))))))))) && (v5.ID == 9)) && (v6.Ahead == 1)) && (v7.S == 47000)) && (v8.Ward == 9)) && (v9.Until == 30)) (convoy_Sound y1) (some default))).bind fun v10 => some (((((((((y1.Mates.length : Int) == 3) && (y1.Guest_.ID == 0 && (y1.Guest_.S == 0 && (y1.Guest_.V == 0 && (y1.Guest_.Len == 0 && (y1.Guest_.End == 0 && (y1.Guest_.Ahead == 0 && (y1.Guest_.Guess_.R == 0 && (y1.Guest_.Guess_.V == 0 && (y1.Guest_.From == 0 && (y1.Guest_.Until == 0 && true))))))))))) && (v5.ID == 9)) && (v6.Ahead == 1)) && (v7.S == 47000)) && (v8.Ward == 9)) && (v9.Until == 30)) && v10)) (fun r => some r)))

/-- kerbstone/kerbstonelaw09.merged -/
def ac_law09_merged : AC := (.seq (.reg [oo 0 (.mv (.c zf))]) (.seq (.reg [oo 5 (.build [z0, z0, z0, z0, z0, z0, z0, zf, z0, z0, z0, z0] [(1, 1, (ci 60000)), (2, 1, (ci 1000)), (3, 1, (ci 4000))]), oo 6 (.build [z0, z0, z0, z0, z0, z0, z0, zf, z0, z0, z0, z0] [(1, 1, (ci 30000)), (2, 1, (ci 1000)), (3, 1, (ci 4000))]), oo 7 (.dslice 65 12 2 [z0, z0, z0, z0, z0, z0, z0, zf, z0, z0, z0, z0] [(0, 12, (.t 5)), (12, 12, (.t 6))]), oo 8 (.call (cf 43) [(ci 1000), (.t 7)]), oo 4 (.mv (.t 8)), oo 9 (.ext (.t 4) 0), oo 10 (.ext (.t 4) 1), oo 1 (.alloc 38 [z0, z0, .nilS, z0, z0, z0, z0, z0, z0, z0, z0, z0, z0]), oe (.store 13 (.t 1) (.t 9)), oo 2 (.mv (.t 10))]) (.seq (.seq (.reg [oo 11 (.mv (.t 2)), oo 12 (.bin .neq (.t 11) (ci 0))]) (.cond (.t 12) (.seq (.reg [oo 0 (.mv (.c zf))]) .ret) .skip)) (.seq (.reg [oo 14 (.load 13 true (.t 1)), oo 15 (.build [z0, z0, z0, z0, z0, z0, z0, z0, z0, z0] [(0, 1, (ci 9)), (1, 1, (ci 45000)), (2, 1, (ci 1000)), (3, 1, (ci 1000)), (4, 1, (ci 200000))]), oo 16 (.call (cf 45) [(.t 14), (.t 15)]), oo 13 (.mv (.t 16)), oo 17 (.ext (.t 13) 0), oo 18 (.ext (.t 13) 1), oe (.store 13 (.t 1) (.t 17)), oo 2 (.mv (.t 18))]) (.seq (.seq (.reg [oo 19 (.mv (.t 2)), oo 20 (.bin .neq (.t 19) (ci 0))]) (.cond (.t 20) (.seq (.reg [oo 0 (.mv (.c zf))]) .ret) .skip)) (.seq (.seq (.reg [oo 3 (.mv (ci 0))]) (.block 0 (.loop (.seq (.seq (.reg [oo 21 (.mv (.t 3)), oo 22 (.bin .lss (.t 21) (ci 2))]) (.cond (.t 22) .skip (.exit 0))) (.seq (.block 1 (.seq (.draw [oo 26 (.load 13 true (.t 1)), oo 27 (.load 13 true (.t 1)), oo 28 (.call (cf 40) [(.t 27)]), oo 29 (.call (cf 50) [(.t 26), (.c .nilS), (.t 28), (.c .nilS)]), oo 25 (.mv (.t 29)), oo 30 (.ext (.t 25) 0), oo 31 (.ext (.t 25) 1), oe (.store 13 (.t 1) (.t 30)), oo 2 (.mv (.t 31))] []) (.seq (.reg [oo 32 (.mv (.t 2)), oo 33 (.bin .neq (.t 32) (ci 0))]) (.cond (.t 33) (.seq (.reg [oo 0 (.mv (.c zf))]) .ret) .skip)))) (.reg [oo 23 (.mv (.t 3)), oo 24 (.bin .add (.t 23) (ci 1)), oo 3 (.mv (.t 24))])))))) (.seq (.reg [oo 34 (.fieldA 2 (.t 1)), oo 35 (.load 1 false (.t 34)), oo 36 (.len (.t 35)), oo 37 (.bin .eql (.t 36) (ci 3)), oo 38 (.mv (.t 37)), og 39 (.fieldA 3 (.t 1)) 38, og 40 (.load 10 true (.t 39)) 38, og 41 (.build [z0, z0, z0, z0, z0, z0, z0, z0, z0, z0] []) 38, og 42 (.eqA false [false, false, false, false, false, false, false, false, false, false] (.t 40) (.t 41)) 38, oo 43 (.pick (.t 38) (.t 42) (.c zf)), oo 44 (.mv (.t 43)), og 45 (.fieldA 2 (.t 1)) 44, og 46 (.load 1 false (.t 45)) 44, og 47 (.idxS 12 (.t 46) (ci 1)) 44, og 48 (.fieldA 0 (.t 47)) 44, og 49 (.load 1 false (.t 48)) 44, og 50 (.bin .eql (.t 49) (ci 9)) 44, oo 51 (.pick (.t 44) (.t 50) (.c zf)), oo 52 (.mv (.t 51)), og 53 (.fieldA 2 (.t 1)) 52, og 54 (.load 1 false (.t 53)) 52, og 55 (.idxS 12 (.t 54) (ci 1)) 52, og 56 (.fieldA 4 (.t 55)) 52, og 57 (.load 1 false (.t 56)) 52, og 58 (.bin .eql (.t 57) (ci 1)) 52, oo 59 (.pick (.t 52) (.t 58) (.c zf)), oo 60 (.mv (.t 59)), og 61 (.fieldA 2 (.t 1)) 60, og 62 (.load 1 false (.t 61)) 60, og 63 (.idxS 12 (.t 62) (ci 1)) 60, og 64 (.fieldA 1 (.t 63)) 60, og 65 (.load 1 false (.t 64)) 60, og 66 (.bin .eql (.t 65) (ci 47000)) 60, oo 67 (.pick (.t 60) (.t 66) (.c zf)), oo 68 (.mv (.t 67)), og 69 (.fieldA 2 (.t 1)) 68, og 70 (.load 1 false (.t 69)) 68, og 71 (.idxS 12 (.t 70) (ci 2)) 68, og 72 (.fieldA 8 (.t 71)) 68, og 73 (.load 1 false (.t 72)) 68, og 74 (.bin .eql (.t 73) (ci 9)) 68, oo 75 (.pick (.t 68) (.t 74) (.c zf)), oo 76 (.mv (.t 75)), og 77 (.fieldA 2 (.t 1)) 76, og 78 (.load 1 false (.t 77)) 76, og 79 (.idxS 12 (.t 78) (ci 2)) 76, og 80 (.fieldA 11 (.t 79)) 76, og 81 (.load 1 false (.t 80)) 76, og 82 (.bin .eql (.t 81) (ci 30)) 76, oo 83 (.pick (.t 76) (.t 82) (.c zf)), oo 84 (.mv (.t 83)), og 85 (.load 13 true (.t 1)) 84, og 86 (.call (cf 34) [(.t 85)]) 84, oo 87 (.pick (.t 84) (.t 86) (.c zf)), oo 0 (.mv (.t 87))]) .ret)))))))
theorem fn_law09_merged : FnOK Try.prog 58 88 [.t 0] ac_law09_merged := ⟨_, _, Try.func58, rfl, Try.ntmps58, by kernel_rfl, ⟨fun r => if r == 1 then [1002] else [], by kernel_rfl⟩, by kernel_rfl⟩
set_option maxHeartbeats 4000000 in
theorem law09_merged_ok (r : Bool) (h : law09_merged = some r) : PCall Try.prog 58 [] (bo r) := by
  refine l_call fn_law09_merged (nl rfl) ?_
  unfold law09_merged at h
  unfold ac_law09_merged
  refine l_sub (s0 := ⟨T [], G []⟩) (sbr rfl rfl) ?_
  refine lr (fun u1 hu1 => sv rfl (s_nil (lr (fun u2 hu2 => sv rfl (sv rfl (s_val (dl eMate [(Mate.mk 0 60000 1000 4000 0 (Guess.mk 0 0) false 0 (Guess.mk 0 0) 0), (Mate.mk 0 30000 1000 4000 0 (Guess.mk 0 0) false 0 (Guess.mk 0 0) 0)]) rfl (v_dsliceN eMate ([(Mate.mk 0 60000 1000 4000 0 (Guess.mk 0 0) false 0 (Guess.mk 0 0) 0), (Mate.mk 0 30000 1000 4000 0 (Guess.mk 0 0) false 0 (Guess.mk 0 0) 0)] : List Mate) (fun _ => rfl) rfl rfl ⟨rfl, rfl, rfl, rfl, rfl, rfl, trivial⟩) (bs h fun v1 hv1 h => s_call rfl rfl all2_refl (convoy_New_ok _ _  _ hv1) (.inl rfl) (sv rfl (sv rfl (sv rfl (sn rfl rfl (sst rfl G_hit (dConvoy v1.1) rfl (sv rfl (s_nil (l_seq (lr (fun u3 hu3 => sv rfl (sv rfl (s_nil (cc rfl h (fun c1 h => ?_) (fun c1 h => ?_)))))))))))))))))))))
  · refine lr (fun u4 hu4 => sv rfl (s_nil (l_ret ?_)))
    obtain rfl := Option.some.inj h
    exact fin_ok (.inr rfl) (resD1 (res_t rfl) rf_d) (.refl _)
  · refine l_skip (lr (fun u5 hu5 => sd rfl (v_loadG rfl G_hit rfl rfl) (sv rfl (bs h fun v2 hv2 h => s_call rfl rfl all2_refl (convoy_Ramp_ok _ _  _ hv2) (.inl rfl) (sv rfl (sv rfl (sv rfl (sst rfl G_hit (dConvoy v2.1) rfl (sv rfl (s_nil (l_seq (lr (fun u6 hu6 => sv rfl (sv rfl (s_nil (cc rfl h (fun c2 h => ?_) (fun c2 h => ?_)))))))))))))))))
    · refine l_seq (l_sub (s0 := ⟨T [], G []⟩) (sbr rfl rfl) ?_)
      refine l_reg fun u7 hu7 => sv rfl (s_nil (l_ret ?_))
      obtain rfl := Option.some.inj h
      exact fin_ok (.inr rfl) (resD1 (res_t rfl) rf_d) (.refl _)
    · refine l_skip (l_seq (l_seq (l_sub (s0 := ⟨T [(1, (.ptr _ _))], G [((1, u2), some (.box 38 _))]⟩) (sbr rfl rfl) ?_)))
      refine l_reg fun u8 hu8 => sv rfl (s_nil (js h fun z1 hz1 h => l_join (fun s => ∃ (y1 : Convoy) (g1 : Unit), z1 = .inl y1 ∧ Sb ⟨T [(1, (.ptr (1, u2) 0))], G [((1, u2), some (.box 38 (dConvoy y1)))]⟩ s) ?_ ?_))
      · refine l_block (l_loop (law09_merged_l1) (fun (x1 : (Int × Convoy)) (g2 : Unit) => ⟨T [(1, (.ptr (1, u2) 0)), (3, (di x1.1))], G [((1, u2), some (.box 38 (dConvoy x1.2)))]⟩) (0, v2.1) () _ hz1 (sbr rfl rfl) ?_)
        intro x1 g2 z2 hz2 ez2
        unfold law09_merged_l1 at hz2
        refine l_seq (lr (fun u9 hu9 => sv rfl (sv rfl (s_nil (cc rfl hz2 (fun c3 hz2 => ?_) (fun c3 hz2 => ?_))))))
        · refine l_skip (l_seq (l_block (l_seq (l_draw rfl fun u10 hu10 => sd rfl (v_loadG rfl G_hit rfl rfl) (sd rfl (v_loadG rfl G_hit rfl rfl) (bs hz2 fun v3 hv3 hz2 => s_call rfl rfl all2_refl (convoy_Notes_ok _  _ hv3) (.inl rfl) (bs hz2 fun v4 hv4 hz2 => s_call rfl rfl (.cons (.refl _) (.cons DLe.nil (.cons (.refl _) (.cons DLe.nil .nil)))) (convoy_Step_ok _ _ _ _  _ hv4) (.inl rfl) (sv rfl (sv rfl (sv rfl (sst rfl G_hit (dConvoy v4.1) rfl (sv rfl (s_nil (lr (fun u11 hu11 => sv rfl (sv rfl (s_nil (cc rfl hz2 (fun c4 hz2 => ?_) (fun c4 hz2 => ?_)))))))))))))))))))
          · refine lr (fun u12 hu12 => sv rfl (s_nil (l_ret ?_)))
            obtain rfl := Option.some.inj hz2
            obtain rfl := ez2 _ rfl
            refine ⟨nofun, awl_ret ?_⟩
            rw [Sum.elim_inr] at h
            obtain rfl := Option.some.inj h
            exact fin_ok (.inr rfl) (resD1 (res_t rfl) rf_d) (.refl _)
          · refine l_skip (l_end (l_reg fun u13 hu13 => sv rfl (sv rfl (sv rfl (s_nil (l_nil ?_))))))
            obtain rfl := Option.some.inj hz2
            exact ⟨rfl, (), (sbr rfl rfl)⟩
        · refine l_exitN rfl ?_
          obtain rfl := Option.some.inj hz2
          obtain rfl := ez2 _ rfl
          refine ⟨nofun, awl_pop rfl (l_j ?_)⟩
          exact ⟨_, (), rfl, (sbr rfl rfl)⟩
      · rintro _ ⟨y1, g1, rfl, q1⟩
        rw [Sum.elim_inl] at h
        refine l_sub q1 (lr (fun u14 hu14 => sp rfl rfl (sl rfl G_hit rfl (sd rfl (v_len rfl) (sv rfl (sv rfl (gp rfl (gw_t rfl) (fun _ => rfl) (gt rfl (fun w2 => (v_loadG (gd_pos w2) G_hit rfl rfl)) (gt rfl (fun _ => rfl) ?_)))))))))
        refine g_val _ (.d (bo (y1.Guest_.ID == 0 && (y1.Guest_.S == 0 && (y1.Guest_.V == 0 && (y1.Guest_.Len == 0 && (y1.Guest_.End == 0 && (y1.Guest_.Ahead == 0 && (y1.Guest_.Guess_.R == 0 && (y1.Guest_.Guess_.V == 0 && (y1.Guest_.From == 0 && (y1.Guest_.Until == 0 && true)))))))))))) rfl (gw_t rfl) (fun w4 => (by simp only [gd_pos w4]; rfl)) ?_
        refine sa rfl rfl rfl (sv rfl (gp rfl (gw_t rfl) (fun _ => rfl) (gt rfl (vl rfl G_hit rfl) (bs h fun v5 hv5 h => gt rfl (fun w7 => (v_idx (gd_pos w7) rfl (cond_t w7 hv5) rfl)) ?_))))
        refine gt rfl (fun w8 => (by simp only [gd_pos w8]; rfl)) ?_
        refine gt rfl (fun w9 => (v_loadL (gd_pos w9) (cond_t w9 hv5) rfl)) (gt rfl (vb rfl rfl rfl) (sa rfl rfl rfl (sv rfl (gp rfl (gw_t rfl) (fun _ => rfl) (gt rfl (vl rfl G_hit rfl) (bs h fun v6 hv6 h => gt rfl (fun w13 => (v_idx (gd_pos w13) rfl (cond_t w13 hv6) rfl)) ?_))))))
        refine gt rfl (fun w14 => (by simp only [gd_pos w14]; rfl)) ?_
        refine gt rfl (fun w15 => (v_loadL (gd_pos w15) (cond_t w15 hv6) rfl)) (gt rfl (vb rfl rfl rfl) (sa rfl rfl rfl (sv rfl (gp rfl (gw_t rfl) (fun _ => rfl) (gt rfl (vl rfl G_hit rfl) (bs h fun v7 hv7 h => gt rfl (fun w19 => (v_idx (gd_pos w19) rfl (cond_t w19 hv7) rfl)) ?_))))))
        refine gt rfl (fun w20 => (by simp only [gd_pos w20]; rfl)) ?_
        refine gt rfl (fun w21 => (v_loadL (gd_pos w21) (cond_t w21 hv7) rfl)) (gt rfl (vb rfl rfl rfl) (sa rfl rfl rfl (sv rfl (gp rfl (gw_t rfl) (fun _ => rfl) (gt rfl (vl rfl G_hit rfl) (bs h fun v8 hv8 h => gt rfl (fun w25 => (v_idx (gd_pos w25) rfl (cond_t w25 hv8) rfl)) ?_))))))
        refine gt rfl (fun w26 => (by simp only [gd_pos w26]; rfl)) ?_
        refine gt rfl (fun w27 => (v_loadL (gd_pos w27) (cond_t w27 hv8) rfl)) (gt rfl (vb rfl rfl rfl) (sa rfl rfl rfl (sv rfl (gp rfl (gw_t rfl) (fun _ => rfl) (gt rfl (vl rfl G_hit rfl) (bs h fun v9 hv9 h => gt rfl (fun w31 => (v_idx (gd_pos w31) rfl (cond_t w31 hv9) rfl)) ?_))))))
        refine gt rfl (fun w32 => (by simp only [gd_pos w32]; rfl)) ?_
        refine gt rfl (fun w33 => (v_loadL (gd_pos w33) (cond_t w33 hv9) rfl)) (gt rfl (vb rfl rfl rfl) (sa rfl rfl rfl (sv rfl (gt rfl (fun w35 => (v_loadG rfl G_hit rfl rfl)) (bs h fun v10 hv10 h => ?_)))))
        refine g_call _ (bo v10) (gw_t rfl) (fun w36 => ⟨_, [(.d (.agg (eConvoy y1)))], _, _, (by simp only [gd_pos w36]; rfl), rfl, all2_refl, convoy_Sound_ok _  _ (cond_t w36 hv10), (.inl rfl)⟩) ?_
        refine sa rfl rfl rfl (sv rfl (s_nil (l_ret ?_)))
        obtain rfl := Option.some.inj h
        exact fin_ok (.inr rfl) (resD1 (res_t rfl) rf_d) (.refl _)

noncomputable def law09_ConvoyKnown : Option Bool :=
  (law09_awake).bind fun v1 => cond (!v1) (some false) ((law09_shown).bind fun v2 => (convoy_Age (Guess.mk 0 100) 1).bind fun v3 => ((cond (v3.R == 10 && (v3.V == 10 && true)) (convoy_Age (Guess.mk 0 100) 5) (some default))).bind fun v4 => (convoy_Below (Guess.mk 0 100) 0 100).bind fun v5 => ((cond v5 (convoy_Below (Guess.mk 0 100) 5 90) (some default))).bind fun v6 => ((cond (v5 && (!v6)) (convoy_Below (Guess.mk 0 100) 10 90) (some default))).bind fun v7 => (convoy_Safe 0 100 1000 (Guess.mk 1000 100)).bind fun v8 => ((cond v8 (convoy_Safe 0 100 1000 (Guess.mk 999 900)) (some default))).bind fun v9 => ((cond (v8 && (!v9)) (convoy_Check v2) (some default))).bind fun v10 => (convoy_New 6001 [(Mate.mk 0 50000 1000 4000 0 (Guess.mk 0 0) false 0 (Guess.mk 0 0) 0), (Mate.mk 0 40000 1000 4000 0 (Guess.mk 0 0) false 0 (Guess.mk 0 0) 0)]).bind fun v11 => (convoy_New 1000 []).bind fun v12 => (convoy_Notes v2).bind fun v13 => ((cond (((v11.2 == 12) && (v12.2 == 6)) && ((v13.length : Int) == 3)) (geti v13 0) (some default))).bind fun v14 => ((cond ((((v11.2 == 12) && (v12.2 == 6)) && ((v13.length : Int) == 3)) && (v14.Kind == 1)) (geti v13 0) (some default))).bind fun v15 => ((cond (((((v11.2 == 12) && (v12.2 == 6)) && ((v13.length : Int) == 3)) && (v14.Kind == 1)) && (v15.R == 46000)) (geti v13 1) (some default))).bind fun v16 => ((cond ((((((v11.2 == 12) && (v12.2 == 6)) && ((v13.length : Int) == 3)) && (v14.Kind == 1)) && (v15.R == 46000)) && (v16.Kind == 4 && (v16.From == 1 && (v16.To == 2 && (v16.Stamp == 0 && (v16.R == 46000 && (v16.V == 1000 && (v16.Until == 0 && true)))))))) (geti v13 2) (some default))).bind fun v17 => ((cond (((((((v11.2 == 12) && (v12.2 == 6)) && ((v13.length : Int) == 3)) && (v14.Kind == 1)) && (v15.R == 46000)) && (v16.Kind == 4 && (v16.From == 1 && (v16.To == 2 && (v16.Stamp == 0 && (v16.R == 46000 && (v16.V == 1000 && (v16.Until == 0 && true)))))))) && (v17.Kind == 1)) (geti v13 2) (some default))).bind fun v18 => (convoy_Step v2 [0, 30] [] []).bind fun v19 => ((cond ((v19.2 == 0) && ((v19.1.Mates.length : Int) == 2)) (geti v19.1.Mates 0) (some default))).bind fun v20 => ((cond (((v19.2 == 0) && ((v19.1.Mates.length : Int) == 2)) && (v20.S == 51000)) (geti v19.1.Mates 0) (some default))).bind fun v21 => ((cond ((((v19.2 == 0) && ((v19.1.Mates.length : Int) == 2)) && (v20.S == 51000)) && (v21.V == 1000)) (geti v19.1.Mates 1) (some default))).bind fun v22 => ((cond (((((v19.2 == 0) && ((v19.1.Mates.length : Int) == 2)) && (v20.S == 51000)) && (v21.V == 1000)) && (v22.S == 41030)) (geti v19.1.Mates 1) (some default))).bind fun v23 => (convoy_Look v2 2 []).bind fun v24 => (convoy_Look v2 1 []).bind fun v25 => (convoy_Ramp v2 (Guest.mk 2 45000 0 1000 45001 0 (Guess.mk 0 0) 0 0)).bind fun v26 => (convoy_Ramp v2 (Guest.mk 9 45000 0 1000 45000 0 (Guess.mk 0 0) 0 0)).bind fun v27 => (convoy_Ramp v2 (Guest.mk 9 45000 0 1000 45001 0 (Guess.mk 0 0) 0 0)).bind fun v28 => (convoy_Notes v28.1).bind fun v29 => ((cond ((((v26.2 == 9) && (v27.2 == 12)) && (v28.2 == 0)) && ((v29.length : Int) == 4)) (geti v29 3) (some default))).bind fun v30 => ((cond ((((((((v3.R == 10 && (v3.V == 10 && true)) && (v4.R == 10 && (v4.V == 0 && true))) && ((v5 && (!v6)) && v7)) && ((v8 && (!v9)) && (v10 == 0))) && ((((((((v11.2 == 12) && (v12.2 == 6)) && ((v13.length : Int) == 3)) && (v14.Kind == 1)) && (v15.R == 46000)) && (v16.Kind == 4 && (v16.From == 1 && (v16.To == 2 && (v16.Stamp == 0 && (v16.R == 46000 && (v16.V == 1000 && (v16.Until == 0 && true)))))))) && (v17.Kind == 1)) && (v18.From == 2))) && ((((((v19.2 == 0) && ((v19.1.Mates.length : Int) == 2)) && (v20.S == 51000)) && (v21.V == 1000)) && (v22.S == 41030)) && (v23.V == 1030))) && (((v24.2 == 0) && (v24.1.By == 2 && (v24.1.Lo == 46000 && (v24.1.Hi == 46000 && (v24.1.VLo == 1000 && (v24.1.VHi == 1000 && true)))))) && (v25.2 == 7))) && (((((v26.2 == 9) && (v27.2 == 12)) && (v28.2 == 0)) && ((v29.length : Int) == 4)) && (v30.Kind == 2 && (v30.From == 9 && (v30.To == 2 && (v30.Stamp == 0 && (v30.R == 44000 && (v30.V == 0 && (v30.Until == 0 && true))))))))) (law09_merged) (some default))).bind fun v31 => some (((((((((v3.R == 10 && (v3.V == 10 && true)) && (v4.R == 10 && (v4.V == 0 && true))) && ((v5 && (!v6)) && v7)) && ((v8 && (!v9)) && (v10 == 0))) && ((((((((v11.2 == 12) && (v12.2 == 6)) && ((v13.length : Int) == 3)) && (v14.Kind == 1)) && (v15.R == 46000)) && (v16.Kind == 4 && (v16.From == 1 && (v16.To == 2 && (v16.Stamp == 0 && (v16.R == 46000 && (v16.V == 1000 && (v16.Until == 0 && true)))))))) && (v17.Kind == 1)) && (v18.From == 2))) && ((((((v19.2 == 0) && ((v19.1.Mates.length : Int) == 2)) && (v20.S == 51000)) && (v21.V == 1000)) && (v22.S == 41030)) && (v23.V == 1030))) && (((v24.2 == 0) && (v24.1.By == 2 && (v24.1.Lo == 46000 && (v24.1.Hi == 46000 && (v24.1.VLo == 1000 && (v24.1.VHi == 1000 && true)))))) && (v25.2 == 7))) && (((((v26.2 == 9) && (v27.2 == 12)) && (v28.2 == 0)) && ((v29.length : Int) == 4)) && (v30.Kind == 2 && (v30.From == 9 && (v30.To == 2 && (v30.Stamp == 0 && (v30.R == 44000 && (v30.V == 0 && (v30.Until == 0 && true))))))))) && v31))

/-- kerbstone/kerbstonelaw09.ConvoyKnown -/
def ac_law09_ConvoyKnown : AC := (.seq (.reg [oo 0 (.mv (.c zf))]) (.seq (.seq (.reg [oo 27 (.call (cf 23) []), oo 28 (.un .not (.t 27))]) (.cond (.t 28) (.seq (.reg [oo 0 (.mv (.c zf))]) .ret) .skip)) (.seq (.reg [oo 29 (.call (cf 57) []), oo 1 (.alloc 38 [z0, z0, .nilS, z0, z0, z0, z0, z0, z0, z0, z0, z0, z0]), oe (.store 13 (.t 1) (.t 29))]) (.seq (.reg [oo 30 (.build [z0, z0] [(1, 1, (ci 100))]), oo 31 (.call (cf 15) [(.t 30), (ci 1)]), oo 32 (.build [z0, z0] [(0, 1, (ci 10)), (1, 1, (ci 10))]), oo 33 (.eqA false [false, false] (.t 31) (.t 32)), oo 34 (.mv (.t 33)), og 35 (.build [z0, z0] [(1, 1, (ci 100))]) 34, og 36 (.call (cf 15) [(.t 35), (ci 5)]) 34, og 37 (.build [z0, z0] [(0, 1, (ci 10))]) 34, og 38 (.eqA false [false, false] (.t 36) (.t 37)) 34, oo 39 (.pick (.t 34) (.t 38) (.c zf)), oo 2 (.mv (.t 39))]) (.seq (.reg [oo 40 (.build [z0, z0] [(1, 1, (ci 100))]), oo 41 (.call (cf 17) [(.t 40), (ci 0), (ci 100)]), oo 42 (.mv (.t 41)), og 43 (.build [z0, z0] [(1, 1, (ci 100))]) 42, og 44 (.call (cf 17) [(.t 43), (ci 5), (ci 90)]) 42, og 45 (.un .not (.t 44)) 42, oo 46 (.pick (.t 42) (.t 45) (.c zf)), oo 47 (.mv (.t 46)), og 48 (.build [z0, z0] [(1, 1, (ci 100))]) 47, og 49 (.call (cf 17) [(.t 48), (ci 10), (ci 90)]) 47, oo 50 (.pick (.t 47) (.t 49) (.c zf)), oo 3 (.mv (.t 50))]) (.seq (.reg [oo 51 (.build [z0, z0] [(0, 1, (ci 1000)), (1, 1, (ci 100))]), oo 52 (.call (cf 21) [(ci 0), (ci 100), (ci 1000), (.t 51)]), oo 53 (.mv (.t 52)), og 54 (.build [z0, z0] [(0, 1, (ci 999)), (1, 1, (ci 900))]) 53, og 55 (.call (cf 21) [(ci 0), (ci 100), (ci 1000), (.t 54)]) 53, og 56 (.un .not (.t 55)) 53, oo 57 (.pick (.t 53) (.t 56) (.c zf)), oo 58 (.mv (.t 57)), og 59 (.load 13 true (.t 1)) 58, og 60 (.call (cf 32) [(.t 59)]) 58, og 61 (.bin .eql (.t 60) (ci 0)) 58, oo 62 (.pick (.t 58) (.t 61) (.c zf)), oo 4 (.mv (.t 62))]) (.seq (.reg [oo 64 (.build [z0, z0, z0, z0, z0, z0, z0, zf, z0, z0, z0, z0] [(1, 1, (ci 50000)), (2, 1, (ci 1000)), (3, 1, (ci 4000))]), oo 65 (.build [z0, z0, z0, z0, z0, z0, z0, zf, z0, z0, z0, z0] [(1, 1, (ci 40000)), (2, 1, (ci 1000)), (3, 1, (ci 4000))]), oo 66 (.dslice 65 12 2 [z0, z0, z0, z0, z0, z0, z0, zf, z0, z0, z0, z0] [(0, 12, (.t 64)), (12, 12, (.t 65))]), oo 67 (.call (cf 43) [(ci 6001), (.t 66)]), oo 63 (.mv (.t 67)), oo 68 (.ext (.t 63) 0), oo 69 (.ext (.t 63) 1), oo 5 (.alloc 38 [z0, z0, .nilS, z0, z0, z0, z0, z0, z0, z0, z0, z0, z0]), oe (.store 13 (.t 5) (.t 68)), oo 6 (.mv (.t 69))]) (.seq (.reg [oo 71 (.call (cf 43) [(ci 1000), (.c .nilS)]), oo 70 (.mv (.t 71)), oo 72 (.ext (.t 70) 0), oo 73 (.ext (.t 70) 1), oo 7 (.alloc 38 [z0, z0, .nilS, z0, z0, z0, z0, z0, z0, z0, z0, z0, z0]), oe (.store 13 (.t 7) (.t 72)), oo 8 (.mv (.t 73))]) (.seq (.reg [oo 74 (.load 13 true (.t 1)), oo 75 (.call (cf 40) [(.t 74)]), oo 9 (.mv (.t 75))]) (.seq (.reg [oo 76 (.mv (.t 6)), oo 77 (.bin .eql (.t 76) (ci 12)), oo 78 (.mv (.t 77)), og 79 (.mv (.t 8)) 78, og 80 (.bin .eql (.t 79) (ci 6)) 78, oo 81 (.pick (.t 78) (.t 80) (.c zf)), oo 82 (.mv (.t 81)), og 83 (.mv (.t 9)) 82, og 84 (.len (.t 83)) 82, og 85 (.bin .eql (.t 84) (ci 3)) 82, oo 86 (.pick (.t 82) (.t 85) (.c zf)), oo 87 (.mv (.t 86)), og 88 (.mv (.t 9)) 87, og 89 (.idxS 7 (.t 88) (ci 0)) 87, og 90 (.fieldA 0 (.t 89)) 87, og 91 (.load 1 false (.t 90)) 87, og 92 (.bin .eql (.t 91) (ci 1)) 87, oo 93 (.pick (.t 87) (.t 92) (.c zf)), oo 94 (.mv (.t 93)), og 95 (.mv (.t 9)) 94, og 96 (.idxS 7 (.t 95) (ci 0)) 94, og 97 (.fieldA 4 (.t 96)) 94, og 98 (.load 1 false (.t 97)) 94, og 99 (.bin .eql (.t 98) (ci 46000)) 94, oo 100 (.pick (.t 94) (.t 99) (.c zf)), oo 101 (.mv (.t 100)), og 102 (.mv (.t 9)) 101, og 103 (.idxS 7 (.t 102) (ci 1)) 101, og 104 (.load 7 true (.t 103)) 101, og 105 (.build [z0, z0, z0, z0, z0, z0, z0] [(0, 1, (ci 4)), (1, 1, (ci 1)), (2, 1, (ci 2)), (4, 1, (ci 46000)), (5, 1, (ci 1000))]) 101, og 106 (.eqA false [false, false, false, false, false, false, false] (.t 104) (.t 105)) 101, oo 107 (.pick (.t 101) (.t 106) (.c zf)), oo 108 (.mv (.t 107)), og 109 (.mv (.t 9)) 108, og 110 (.idxS 7 (.t 109) (ci 2)) 108, og 111 (.fieldA 0 (.t 110)) 108, og 112 (.load 1 false (.t 111)) 108, og 113 (.bin .eql (.t 112) (ci 1)) 108, oo 114 (.pick (.t 108) (.t 113) (.c zf)), oo 115 (.mv (.t 114)), og 116 (.mv (.t 9)) 115, og 117 (.idxS 7 (.t 116) (ci 2)) 115, og 118 (.fieldA 1 (.t 117)) 115, og 119 (.load 1 false (.t 118)) 115, og 120 (.bin .eql (.t 119) (ci 2)) 115, oo 121 (.pick (.t 115) (.t 120) (.c zf)), oo 10 (.mv (.t 121))]) (.seq (.reg [oo 123 (.load 13 true (.t 1)), oo 124 (.dslice 2 1 2 [z0] [(0, 1, (ci 0)), (1, 1, (ci 30))]), oo 125 (.call (cf 50) [(.t 123), (.t 124), (.c .nilS), (.c .nilS)]), oo 122 (.mv (.t 125)), oo 126 (.ext (.t 122) 0), oo 127 (.ext (.t 122) 1), oo 11 (.alloc 38 [z0, z0, .nilS, z0, z0, z0, z0, z0, z0, z0, z0, z0, z0]), oe (.store 13 (.t 11) (.t 126)), oo 12 (.mv (.t 127))]) (.seq (.reg [oo 128 (.mv (.t 12)), oo 129 (.bin .eql (.t 128) (ci 0)), oo 130 (.mv (.t 129)), og 131 (.fieldA 2 (.t 11)) 130, og 132 (.load 1 false (.t 131)) 130, og 133 (.len (.t 132)) 130, og 134 (.bin .eql (.t 133) (ci 2)) 130, oo 135 (.pick (.t 130) (.t 134) (.c zf)), oo 136 (.mv (.t 135)), og 137 (.fieldA 2 (.t 11)) 136, og 138 (.load 1 false (.t 137)) 136, og 139 (.idxS 12 (.t 138) (ci 0)) 136, og 140 (.fieldA 1 (.t 139)) 136, og 141 (.load 1 false (.t 140)) 136, og 142 (.bin .eql (.t 141) (ci 51000)) 136, oo 143 (.pick (.t 136) (.t 142) (.c zf)), oo 144 (.mv (.t 143)), og 145 (.fieldA 2 (.t 11)) 144, og 146 (.load 1 false (.t 145)) 144, og 147 (.idxS 12 (.t 146) (ci 0)) 144, og 148 (.fieldA 2 (.t 147)) 144, og 149 (.load 1 false (.t 148)) 144, og 150 (.bin .eql (.t 149) (ci 1000)) 144, oo 151 (.pick (.t 144) (.t 150) (.c zf)), oo 152 (.mv (.t 151)), og 153 (.fieldA 2 (.t 11)) 152, og 154 (.load 1 false (.t 153)) 152, og 155 (.idxS 12 (.t 154) (ci 1)) 152, og 156 (.fieldA 1 (.t 155)) 152, og 157 (.load 1 false (.t 156)) 152, og 158 (.bin .eql (.t 157) (ci 41030)) 152, oo 159 (.pick (.t 152) (.t 158) (.c zf)), oo 160 (.mv (.t 159)), og 161 (.fieldA 2 (.t 11)) 160, og 162 (.load 1 false (.t 161)) 160, og 163 (.idxS 12 (.t 162) (ci 1)) 160, og 164 (.fieldA 2 (.t 163)) 160, og 165 (.load 1 false (.t 164)) 160, og 166 (.bin .eql (.t 165) (ci 1030)) 160, oo 167 (.pick (.t 160) (.t 166) (.c zf)), oo 13 (.mv (.t 167))]) (.seq (.reg [oo 169 (.load 13 true (.t 1)), oo 170 (.call (cf 27) [(.t 169), (ci 2), (.c .nilS)]), oo 168 (.mv (.t 170)), oo 171 (.ext (.t 168) 0), oo 172 (.ext (.t 168) 1), oo 14 (.alloc 42 [z0, z0, z0, z0, z0]), oe (.store 5 (.t 14) (.t 171)), oo 15 (.mv (.t 172))]) (.seq (.reg [oo 174 (.load 13 true (.t 1)), oo 175 (.call (cf 27) [(.t 174), (ci 1), (.c .nilS)]), oo 173 (.mv (.t 175)), oo 176 (.ext (.t 173) 0), oo 177 (.ext (.t 173) 1), oo 16 (.alloc 42 [z0, z0, z0, z0, z0]), oe (.store 5 (.t 16) (.t 176)), oo 17 (.mv (.t 177))]) (.seq (.reg [oo 178 (.mv (.t 15)), oo 179 (.bin .eql (.t 178) (ci 0)), oo 180 (.mv (.t 179)), og 181 (.load 5 true (.t 14)) 180, og 182 (.build [z0, z0, z0, z0, z0] [(0, 1, (ci 2)), (1, 1, (ci 46000)), (2, 1, (ci 46000)), (3, 1, (ci 1000)), (4, 1, (ci 1000))]) 180, og 183 (.eqA false [false, false, false, false, false] (.t 181) (.t 182)) 180, oo 184 (.pick (.t 180) (.t 183) (.c zf)), oo 185 (.mv (.t 184)), og 186 (.mv (.t 17)) 185, og 187 (.bin .eql (.t 186) (ci 7)) 185, oo 188 (.pick (.t 185) (.t 187) (.c zf)), oo 18 (.mv (.t 188))]) (.seq (.reg [oo 189 (.build [z0, z0, z0, z0, z0, z0, z0, z0, z0, z0] [(0, 1, (ci 9)), (1, 1, (ci 45000)), (3, 1, (ci 1000)), (4, 1, (ci 45000))]), oo 19 (.alloc 36 [z0, z0, z0, z0, z0, z0, z0, z0, z0, z0]), oe (.store 10 (.t 19) (.t 189))]) (.seq (.reg [oo 191 (.load 13 true (.t 1)), oo 192 (.build [z0, z0, z0, z0, z0, z0, z0, z0, z0, z0] [(0, 1, (ci 2)), (1, 1, (ci 45000)), (3, 1, (ci 1000)), (4, 1, (ci 45001))]), oo 193 (.call (cf 45) [(.t 191), (.t 192)]), oo 190 (.mv (.t 193)), oo 194 (.ext (.t 190) 0), oo 195 (.ext (.t 190) 1), oo 20 (.alloc 38 [z0, z0, .nilS, z0, z0, z0, z0, z0, z0, z0, z0, z0, z0]), oe (.store 13 (.t 20) (.t 194)), oo 21 (.mv (.t 195))]) (.seq (.reg [oo 197 (.load 13 true (.t 1)), oo 198 (.load 10 true (.t 19)), oo 199 (.call (cf 45) [(.t 197), (.t 198)]), oo 196 (.mv (.t 199)), oo 200 (.ext (.t 196) 0), oo 201 (.ext (.t 196) 1), oo 22 (.alloc 38 [z0, z0, .nilS, z0, z0, z0, z0, z0, z0, z0, z0, z0, z0]), oe (.store 13 (.t 22) (.t 200)), oo 23 (.mv (.t 201))]) (.seq (.reg [oo 202 (.fieldA 4 (.t 19)), oe (.store 1 (.t 202) (ci 45001))]) (.seq (.reg [oo 204 (.load 13 true (.t 1)), oo 205 (.load 10 true (.t 19)), oo 206 (.call (cf 45) [(.t 204), (.t 205)]), oo 203 (.mv (.t 206)), oo 207 (.ext (.t 203) 0), oo 208 (.ext (.t 203) 1), oo 24 (.alloc 38 [z0, z0, .nilS, z0, z0, z0, z0, z0, z0, z0, z0, z0, z0]), oe (.store 13 (.t 24) (.t 207)), oo 25 (.mv (.t 208))]) (.seq (.reg [oo 209 (.load 13 true (.t 24)), oo 210 (.call (cf 40) [(.t 209)]), oo 9 (.mv (.t 210))]) (.seq (.reg [oo 211 (.mv (.t 21)), oo 212 (.bin .eql (.t 211) (ci 9)), oo 213 (.mv (.t 212)), og 214 (.mv (.t 23)) 213, og 215 (.bin .eql (.t 214) (ci 12)) 213, oo 216 (.pick (.t 213) (.t 215) (.c zf)), oo 217 (.mv (.t 216)), og 218 (.mv (.t 25)) 217, og 219 (.bin .eql (.t 218) (ci 0)) 217, oo 220 (.pick (.t 217) (.t 219) (.c zf)), oo 221 (.mv (.t 220)), og 222 (.mv (.t 9)) 221, og 223 (.len (.t 222)) 221, og 224 (.bin .eql (.t 223) (ci 4)) 221, oo 225 (.pick (.t 221) (.t 224) (.c zf)), oo 226 (.mv (.t 225)), og 227 (.mv (.t 9)) 226, og 228 (.idxS 7 (.t 227) (ci 3)) 226, og 229 (.load 7 true (.t 228)) 226, og 230 (.build [z0, z0, z0, z0, z0, z0, z0] [(0, 1, (ci 2)), (1, 1, (ci 9)), (2, 1, (ci 2)), (4, 1, (ci 44000))]) 226, og 231 (.eqA false [false, false, false, false, false, false, false] (.t 229) (.t 230)) 226, oo 232 (.pick (.t 226) (.t 231) (.c zf)), oo 26 (.mv (.t 232))]) (.seq (.reg [oo 233 (.mv (.t 2)), oo 234 (.mv (.t 233)), og 235 (.mv (.t 3)) 234, oo 236 (.pick (.t 234) (.t 235) (.c zf)), oo 237 (.mv (.t 236)), og 238 (.mv (.t 4)) 237, oo 239 (.pick (.t 237) (.t 238) (.c zf)), oo 240 (.mv (.t 239)), og 241 (.mv (.t 10)) 240, oo 242 (.pick (.t 240) (.t 241) (.c zf)), oo 243 (.mv (.t 242)), og 244 (.mv (.t 13)) 243, oo 245 (.pick (.t 243) (.t 244) (.c zf)), oo 246 (.mv (.t 245)), og 247 (.mv (.t 18)) 246, oo 248 (.pick (.t 246) (.t 247) (.c zf)), oo 249 (.mv (.t 248)), og 250 (.mv (.t 26)) 249, oo 251 (.pick (.t 249) (.t 250) (.c zf)), oo 252 (.mv (.t 251)), og 253 (.call (cf 58) []) 252, oo 254 (.pick (.t 252) (.t 253) (.c zf)), oo 0 (.mv (.t 254))]) .ret)))))))))))))))))))))))
theorem fn_law09_ConvoyKnown : FnOK Try.prog 14 255 [.t 0] ac_law09_ConvoyKnown := ⟨_, _, Try.func14, rfl, Try.ntmps14, by kernel_rfl, ⟨fun r => if r == 7 then [1002] else if r == 11 then [1001] else [], by kernel_rfl⟩, by kernel_rfl⟩
set_option maxHeartbeats 4000000 in
theorem law09_ConvoyKnown_ok (r : Bool) (h : law09_ConvoyKnown = some r) : PCall Try.prog 14 [] (bo r) := by
  refine l_call fn_law09_ConvoyKnown (nl rfl) ?_
  unfold law09_ConvoyKnown at h
  unfold ac_law09_ConvoyKnown
  refine l_sub (s0 := ⟨T [], G []⟩) (sbr rfl rfl) ?_
  refine lr (fun u1 hu1 => sv rfl (s_nil (l_seq (lr (fun u2 hu2 => bs h fun v1 hv1 h => s_call rfl rfl all2_refl (law09_awake_ok  _ hv1) (.inl rfl) (s_val (.d (bo (!v1))) rfl rfl (s_nil (cc rfl h (fun c1 h => ?_) (fun c1 h => ?_)))))))))
  · refine lr (fun u3 hu3 => sv rfl (s_nil (l_ret ?_)))
    obtain rfl := Option.some.inj h
    exact fin_ok (.inr rfl) (resD1 (res_t rfl) rf_d) (.refl _)
  · refine l_skip (lr (fun u4 hu4 => bs h fun v2 hv2 h => s_call rfl rfl all2_refl (law09_shown_ok  _ hv2) (.inl rfl) (sn rfl rfl (sst rfl G_hit (dConvoy v2) rfl (s_nil (lr (fun u5 hu5 => sv rfl (bs h fun v3 hv3 h => s_call rfl rfl all2_refl (convoy_Age_ok _ _  _ hv3) (.inl rfl) (sv rfl (s_val (.d (bo (v3.R == 10 && (v3.V == 10 && true)))) rfl rfl (sv rfl (gt rfl (fun _ => rfl) (bs h fun v4 hv4 h => ?_)))))))))))))
    refine g_call _ (.agg [(i64 v4.R), (i64 v4.V)]) (gw_t rfl) (fun w2 => ⟨_, [(.d (.agg [(i64 0), (i64 100)])), (di 5)], _, _, (by simp only [gd_pos w2]; rfl), rfl, all2_refl, convoy_Age_ok _ _  _ (cond_t w2 hv4), (.inl rfl)⟩) ?_
    refine gt rfl (fun _ => rfl) ?_
    refine g_val _ (.d (bo (v4.R == 10 && (v4.V == 0 && true)))) rfl (gw_t rfl) (fun w4 => (by simp only [gd_pos w4]; rfl)) ?_
    refine sa rfl rfl rfl (sv rfl (s_nil (lr (fun u6 hu6 => sv rfl (bs h fun v5 hv5 h => s_call rfl rfl all2_refl (convoy_Below_ok _ _ _  _ hv5) (.inl rfl) (sv rfl (gt rfl (fun _ => rfl) (bs h fun v6 hv6 h => ?_))))))))
    refine g_call v5 (bo v6) (gw_t rfl) (fun w6 => ⟨_, [(.d (.agg [(i64 0), (i64 100)])), (di 5), (di 90)], _, _, (by simp only [gd_pos w6]; rfl), rfl, all2_refl, convoy_Below_ok _ _ _  _ (cond_t w6 hv6), (.inl rfl)⟩) ?_
    refine g_val _ (.d (bo (!v6))) rfl (gw_t rfl) (fun w7 => (by simp only [gd_pos w7]; rfl)) ?_
    refine sa rfl rfl rfl (sv rfl (gt rfl (fun _ => rfl) (bs h fun v7 hv7 h => ?_)))
    refine g_call _ (bo v7) (gw_t rfl) (fun w9 => ⟨_, [(.d (.agg [(i64 0), (i64 100)])), (di 10), (di 90)], _, _, (by simp only [gd_pos w9]; rfl), rfl, all2_refl, convoy_Below_ok _ _ _  _ (cond_t w9 hv7), (.inl rfl)⟩) ?_
    refine sa rfl rfl rfl (sv rfl (s_nil (l_seq (l_sub (s0 := ⟨T [(1, (.ptr _ _)), (2, (.d _)), (3, (.d _))], G [((1, u4), some (.box 38 _))]⟩) (sbr rfl rfl) ?_))))
    refine l_reg fun u7 hu7 => sv rfl (bs h fun v8 hv8 h => s_call rfl rfl all2_refl (convoy_Safe_ok _ _ _ _  _ hv8) (.inl rfl) (sv rfl (gt rfl (fun _ => rfl) (bs h fun v9 hv9 h => ?_))))
    refine g_call v8 (bo v9) (gw_t rfl) (fun w11 => ⟨_, [(di 0), (di 100), (di 1000), (.d (.agg [(i64 999), (i64 900)]))], _, _, (by simp only [gd_pos w11]; rfl), rfl, all2_refl, convoy_Safe_ok _ _ _ _  _ (cond_t w11 hv9), (.inl rfl)⟩) ?_
    refine g_val _ (.d (bo (!v9))) rfl (gw_t rfl) (fun w12 => (by simp only [gd_pos w12]; rfl)) ?_
    refine sa rfl rfl rfl (sv rfl (gt rfl (fun w13 => (v_loadG rfl G_hit rfl rfl)) (bs h fun v10 hv10 h => ?_)))
    refine g_call _ (i64 v10) (gw_t rfl) (fun w14 => ⟨_, [(.d (.agg (eConvoy v2)))], _, _, (by simp only [gd_pos w14]; rfl), rfl, all2_refl, convoy_Check_ok _  _ (cond_t w14 hv10), (.inl rfl)⟩) ?_
    refine gt rfl (vb rfl rfl rfl) (sa rfl rfl rfl (sv rfl (s_nil (lr (fun u8 hu8 => sv rfl (sv rfl (s_val (dl eMate [(Mate.mk 0 50000 1000 4000 0 (Guess.mk 0 0) false 0 (Guess.mk 0 0) 0), (Mate.mk 0 40000 1000 4000 0 (Guess.mk 0 0) false 0 (Guess.mk 0 0) 0)]) rfl (v_dsliceN eMate ([(Mate.mk 0 50000 1000 4000 0 (Guess.mk 0 0) false 0 (Guess.mk 0 0) 0), (Mate.mk 0 40000 1000 4000 0 (Guess.mk 0 0) false 0 (Guess.mk 0 0) 0)] : List Mate) (fun _ => rfl) rfl rfl ⟨rfl, rfl, rfl, rfl, rfl, rfl, trivial⟩) (bs h fun v11 hv11 h => s_call rfl rfl all2_refl (convoy_New_ok _ _  _ hv11) (.inl rfl) (sv rfl (sv rfl (sv rfl (sn rfl rfl (sst rfl G_hit (dConvoy v11.1) rfl (sv rfl (s_nil (l_seq (l_sub (s0 := ⟨T [(1, (.ptr _ _)), (2, (.d _)), (3, (.d _)), (4, (.d _)), (6, (.d _))], G [((1, u4), some (.box 38 _))]⟩) (sbr rfl rfl) ?_)))))))))))))))))
    refine l_reg fun u9 hu9 => bs h fun v12 hv12 h => s_call rfl rfl (.cons (.refl _) (.cons DLe.nil .nil)) (convoy_New_ok _ _  _ hv12) (.inl rfl) (sv rfl (sv rfl (sv rfl (sn rfl rfl (sst rfl G_hit (dConvoy v12.1) rfl (sv rfl (s_nil (lr (fun u10 hu10 => sd rfl (v_loadG rfl (gq rfl) rfl rfl) (bs h fun v13 hv13 h => s_call rfl rfl all2_refl (convoy_Notes_ok _  _ hv13) (.inl rfl) (sv rfl (s_nil (lr (fun u11 hu11 => sv rfl (sv rfl (sv rfl (gt rfl (fun _ => rfl) (gt rfl (vb rfl rfl rfl) (sa rfl rfl rfl (sv rfl (gt rfl (fun _ => rfl) (gt rfl (fun w19 => (v_len (gd_pos w19))) (gt rfl (vb rfl rfl rfl) (sa rfl rfl rfl (sv rfl (gt rfl (fun _ => rfl) (bs h fun v14 hv14 h => gt rfl (fun w22 => (v_idx (gd_pos w22) rfl (cond_t w22 hv14) rfl)) ?_)))))))))))))))))))))))))))
    refine gt rfl (fun w23 => (by simp only [gd_pos w23]; rfl)) ?_
    refine gt rfl (fun w24 => (v_loadL (gd_pos w24) (cond_t w24 hv14) rfl)) (gt rfl (vb rfl rfl rfl) (sa rfl rfl rfl (sv rfl (gt rfl (fun _ => rfl) (bs h fun v15 hv15 h => gt rfl (fun w27 => (v_idx (gd_pos w27) rfl (cond_t w27 hv15) rfl)) ?_)))))
    refine gt rfl (fun w28 => (by simp only [gd_pos w28]; rfl)) ?_
    refine gt rfl (fun w29 => (v_loadL (gd_pos w29) (cond_t w29 hv15) rfl)) (gt rfl (vb rfl rfl rfl) (sa rfl rfl rfl (sv rfl (gt rfl (fun _ => rfl) (bs h fun v16 hv16 h => gt rfl (fun w32 => (v_idx (gd_pos w32) rfl (cond_t w32 hv16) rfl)) (gt rfl (fun w33 => (v_loadLG (gd_pos w33) (cond_t w33 hv16) rfl rfl)) (gt rfl (fun _ => rfl) ?_)))))))
    refine g_val _ (.d (bo (v16.Kind == 4 && (v16.From == 1 && (v16.To == 2 && (v16.Stamp == 0 && (v16.R == 46000 && (v16.V == 1000 && (v16.Until == 0 && true))))))))) rfl (gw_t rfl) (fun w35 => (by simp only [gd_pos w35]; rfl)) ?_
    refine sa rfl rfl rfl (sv rfl (gt rfl (fun _ => rfl) (bs h fun v17 hv17 h => gt rfl (fun w37 => (v_idx (gd_pos w37) rfl (cond_t w37 hv17) rfl)) ?_)))
    refine gt rfl (fun w38 => (by simp only [gd_pos w38]; rfl)) ?_
    refine gt rfl (fun w39 => (v_loadL (gd_pos w39) (cond_t w39 hv17) rfl)) (gt rfl (vb rfl rfl rfl) (sa rfl rfl rfl (sv rfl (gt rfl (fun _ => rfl) (bs h fun v18 hv18 h => gt rfl (fun w42 => (v_idx (gd_pos w42) rfl (cond_t w42 hv18) rfl)) ?_)))))
    refine gt rfl (fun w43 => (by simp only [gd_pos w43]; rfl)) ?_
    refine gt rfl (fun w44 => (v_loadL (gd_pos w44) (cond_t w44 hv18) rfl)) (gt rfl (vb rfl rfl rfl) (sa rfl rfl rfl (sv rfl (s_nil (l_seq (l_sub (s0 := ⟨T [(1, (.ptr _ _)), (2, (.d _)), (3, (.d _)), (4, (.d _)), (10, (.d _))], G [((1, u4), some (.box 38 _))]⟩) (sbr rfl rfl) ?_))))))
    refine l_reg fun u12 hu12 => sd rfl (v_loadG rfl G_hit rfl rfl) (s_val (dl eInt_i64 [0, 30]) rfl rfl (bs h fun v19 hv19 h => s_call rfl rfl (.cons (.refl _) (.cons (.refl _) (.cons DLe.nil (.cons DLe.nil .nil)))) (convoy_Step_ok _ _ _ _  _ hv19) (.inl rfl) (sv rfl (sv rfl (sv rfl (sn rfl rfl (sst rfl G_hit (dConvoy v19.1) rfl (sv rfl (s_nil (lr (fun u13 hu13 => sv rfl (sv rfl (sv rfl (gp rfl (gw_t rfl) (fun _ => rfl) (gt rfl (vl rfl G_hit rfl) (gt rfl (fun w48 => (v_len (gd_pos w48))) (gt rfl (vb rfl rfl rfl) (sa rfl rfl rfl (sv rfl (gp rfl (gw_t rfl) (fun _ => rfl) (gt rfl (vl rfl G_hit rfl) (bs h fun v20 hv20 h => gt rfl (fun w52 => (v_idx (gd_pos w52) rfl (cond_t w52 hv20) rfl)) ?_))))))))))))))))))))))
    refine gt rfl (fun w53 => (by simp only [gd_pos w53]; rfl)) ?_
    refine gt rfl (fun w54 => (v_loadL (gd_pos w54) (cond_t w54 hv20) rfl)) (gt rfl (vb rfl rfl rfl) (sa rfl rfl rfl (sv rfl (gp rfl (gw_t rfl) (fun _ => rfl) (gt rfl (vl rfl G_hit rfl) (bs h fun v21 hv21 h => gt rfl (fun w58 => (v_idx (gd_pos w58) rfl (cond_t w58 hv21) rfl)) ?_))))))
    refine gt rfl (fun w59 => (by simp only [gd_pos w59]; rfl)) ?_
    refine gt rfl (fun w60 => (v_loadL (gd_pos w60) (cond_t w60 hv21) rfl)) (gt rfl (vb rfl rfl rfl) (sa rfl rfl rfl (sv rfl (gp rfl (gw_t rfl) (fun _ => rfl) (gt rfl (vl rfl G_hit rfl) (bs h fun v22 hv22 h => gt rfl (fun w64 => (v_idx (gd_pos w64) rfl (cond_t w64 hv22) rfl)) ?_))))))
    refine gt rfl (fun w65 => (by simp only [gd_pos w65]; rfl)) ?_
    refine gt rfl (fun w66 => (v_loadL (gd_pos w66) (cond_t w66 hv22) rfl)) (gt rfl (vb rfl rfl rfl) (sa rfl rfl rfl (sv rfl (gp rfl (gw_t rfl) (fun _ => rfl) (gt rfl (vl rfl G_hit rfl) (bs h fun v23 hv23 h => gt rfl (fun w70 => (v_idx (gd_pos w70) rfl (cond_t w70 hv23) rfl)) ?_))))))
    refine gt rfl (fun w71 => (by simp only [gd_pos w71]; rfl)) ?_
    refine gt rfl (fun w72 => (v_loadL (gd_pos w72) (cond_t w72 hv23) rfl)) (gt rfl (vb rfl rfl rfl) (sa rfl rfl rfl (sv rfl (s_nil (l_seq (l_sub (s0 := ⟨T [(1, (.ptr _ _)), (2, (.d _)), (3, (.d _)), (4, (.d _)), (10, (.d _)), (13, (.d _))], G [((1, u4), some (.box 38 _))]⟩) (sbr rfl rfl) ?_))))))
    refine l_reg fun u14 hu14 => sd rfl (v_loadG rfl G_hit rfl rfl) (bs h fun v24 hv24 h => s_call rfl rfl (.cons (.refl _) (.cons (.refl _) (.cons DLe.nil .nil))) (convoy_Look_ok _ _ _  _ hv24) (.inl rfl) (sv rfl (sv rfl (sv rfl (sn rfl rfl (sst rfl G_hit (dSight v24.1) rfl (sv rfl (s_nil (lr (fun u15 hu15 => sd rfl (v_loadG rfl (gq rfl) rfl rfl) (bs h fun v25 hv25 h => s_call rfl rfl (.cons (.refl _) (.cons (.refl _) (.cons DLe.nil .nil))) (convoy_Look_ok _ _ _  _ hv25) (.inl rfl) (sv rfl (sv rfl (sv rfl (sn rfl rfl (sst rfl G_hit (dSight v25.1) rfl (sv rfl (s_nil (l_seq (l_sub (s0 := ⟨T [(1, (.ptr _ _)), (2, (.d _)), (3, (.d _)), (4, (.d _)), (10, (.d _)), (13, (.d _)), (14, (.ptr _ _)), (15, (.d _)), (17, (.d _))], G [((1, u4), some (.box 38 _)), ((14, u14), some (.box 42 _))]⟩) (sbr rfl rfl) ?_))))))))))))))))))))
    refine l_reg fun u16 hu16 => sv rfl (sv rfl (sv rfl (gt rfl (fun w74 => (v_loadG rfl (gq rfl) rfl rfl)) (gt rfl (fun _ => rfl) ?_))))
    refine g_val _ (.d (bo (v24.1.By == 2 && (v24.1.Lo == 46000 && (v24.1.Hi == 46000 && (v24.1.VLo == 1000 && (v24.1.VHi == 1000 && true))))))) rfl (gw_t rfl) (fun w76 => (by simp only [gd_pos w76]; rfl)) ?_
    refine sa rfl rfl rfl (sv rfl (gt rfl (fun _ => rfl) (gt rfl (vb rfl rfl rfl) (sa rfl rfl rfl (sv rfl (s_nil (l_seq (l_sub (s0 := ⟨T [(1, (.ptr _ _)), (2, (.d _)), (3, (.d _)), (4, (.d _)), (10, (.d _)), (13, (.d _)), (18, (.d _))], G [((1, u4), some (.box 38 _))]⟩) (sbr rfl rfl) ?_))))))))
    refine l_reg fun u17 hu17 => sv rfl (sn rfl rfl (sst rfl G_hit [(di 9), (di 45000), (di 0), (di 1000), (di 45000), (di 0), (di 0), (di 0), (di 0), (di 0)] rfl (s_nil (lr (fun u18 hu18 => sd rfl (v_loadG rfl (gq rfl) rfl rfl) (sv rfl (bs h fun v26 hv26 h => s_call rfl rfl all2_refl (convoy_Ramp_ok _ _  _ hv26) (.inl rfl) (sv rfl (sv rfl (sv rfl (sn rfl rfl (sst rfl G_hit (dConvoy v26.1) rfl (sv rfl (s_nil (lr (fun u19 hu19 => sd rfl (v_loadG rfl (gq rfl) rfl rfl) (sd rfl (v_loadG rfl (gq rfl) rfl rfl) (bs h fun v27 hv27 h => s_call rfl rfl all2_refl (convoy_Ramp_ok _ _  _ hv27) (.inl rfl) (sv rfl (sv rfl (sv rfl (sn rfl rfl (sst rfl G_hit (dConvoy v27.1) rfl (sv rfl (s_nil (l_seq (l_sub (s0 := ⟨T [(1, (.ptr _ _)), (2, (.d _)), (3, (.d _)), (4, (.d _)), (10, (.d _)), (13, (.d _)), (18, (.d _)), (19, (.ptr _ _)), (21, (.d _)), (23, (.d _))], G [((1, u4), some (.box 38 _)), ((19, u17), some (.box 36 _))]⟩) (sbr rfl rfl) ?_)))))))))))))))))))))))))))
    refine l_reg fun u20 hu20 => sp rfl rfl (sst rfl (gq rfl) [(di 9), (di 45000), (di 0), (di 1000), (di 45001), (di 0), (di 0), (di 0), (di 0), (di 0)] rfl (s_nil (lr (fun u21 hu21 => sd rfl (v_loadG rfl (gq rfl) rfl rfl) (sd rfl (v_loadG rfl G_hit rfl rfl) (bs h fun v28 hv28 h => s_call rfl rfl all2_refl (convoy_Ramp_ok _ _  _ hv28) (.inl rfl) (sv rfl (sv rfl (sv rfl (sn rfl rfl (sst rfl G_hit (dConvoy v28.1) rfl (sv rfl (s_nil (l_seq (l_sub (s0 := ⟨T [(2, (.d _)), (3, (.d _)), (4, (.d _)), (10, (.d _)), (13, (.d _)), (18, (.d _)), (21, (.d _)), (23, (.d _)), (24, (.ptr _ _)), (25, (.d _))], G [((24, u21), some (.box 38 _))]⟩) (sbr rfl rfl) ?_)))))))))))))))
    refine l_reg fun u22 hu22 => sd rfl (v_loadG rfl G_hit rfl rfl) (bs h fun v29 hv29 h => s_call rfl rfl all2_refl (convoy_Notes_ok _  _ hv29) (.inl rfl) (sv rfl (s_nil (lr (fun u23 hu23 => sv rfl (sv rfl (sv rfl (gt rfl (fun _ => rfl) (gt rfl (vb rfl rfl rfl) (sa rfl rfl rfl (sv rfl (gt rfl (fun _ => rfl) (gt rfl (vb rfl rfl rfl) (sa rfl rfl rfl (sv rfl (gt rfl (fun _ => rfl) (gt rfl (fun w84 => (v_len (gd_pos w84))) (gt rfl (vb rfl rfl rfl) (sa rfl rfl rfl (sv rfl (gt rfl (fun _ => rfl) (bs h fun v30 hv30 h => gt rfl (fun w87 => (v_idx (gd_pos w87) rfl (cond_t w87 hv30) rfl)) (gt rfl (fun w88 => (v_loadLG (gd_pos w88) (cond_t w88 hv30) rfl rfl)) (gt rfl (fun _ => rfl) ?_))))))))))))))))))))))))
    refine g_val _ (.d (bo (v30.Kind == 2 && (v30.From == 9 && (v30.To == 2 && (v30.Stamp == 0 && (v30.R == 44000 && (v30.V == 0 && (v30.Until == 0 && true))))))))) rfl (gw_t rfl) (fun w90 => (by simp only [gd_pos w90]; rfl)) ?_
    refine sa rfl rfl rfl (sv rfl (s_nil (l_seq (l_sub (s0 := ⟨T [(2, (.d _)), (3, (.d _)), (4, (.d _)), (10, (.d _)), (13, (.d _)), (18, (.d _)), (26, (.d _))], G []⟩) (sbr rfl rfl) ?_))))
    refine l_reg fun u24 hu24 => sv rfl (sv rfl (gt rfl (fun _ => rfl) (sa rfl rfl rfl (sv rfl (gt rfl (fun _ => rfl) (sa rfl rfl rfl (sv rfl (gt rfl (fun _ => rfl) (sa rfl rfl rfl (sv rfl (gt rfl (fun _ => rfl) (sa rfl rfl rfl (sv rfl (gt rfl (fun _ => rfl) (sa rfl rfl rfl (sv rfl (gt rfl (fun _ => rfl) (sa rfl rfl rfl (sv rfl (bs h fun v31 hv31 h => g_call _ (bo v31) (gw_t rfl) (fun w97 => ⟨_, _, _, _, rfl, rfl, all2_refl, law09_merged_ok  _ (cond_t w97 hv31), (.inl rfl)⟩) (sa rfl rfl rfl (sv rfl (s_nil (l_ret ?_))))))))))))))))))))))))
    obtain rfl := Option.some.inj h
    exact fin_ok (.inr rfl) (resD1 (res_t rfl) rf_d) (.refl _)
end Go.Abs.Convoy
