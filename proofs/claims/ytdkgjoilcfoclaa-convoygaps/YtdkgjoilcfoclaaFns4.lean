/-
  The functions, part 4.
-/
import Derived.Test.YtdkgjoilcfoclaaFns3
set_option maxRecDepth 20000
set_option linter.unusedVariables false
namespace Go.Abs.Convoy
open Go Go.Abs Go.Proofs
attribute [local irreducible] regW regT AWL

section
open Go.RowKit Go.Lib

theorem info65 : (Try.prog.info? 65).map (fun i => (i.size, i.bytes)) = some (12, 96) := by kernel_rfl
theorem mixed : Try.prog.follows .mixedOrders = true := by kernel_rfl

structure Keep (p : Prop) : Prop where
  out : p
set_option maxHeartbeats 4000000 in
set_option maxRecDepth 100000 in
theorem ins_shift (g n c i vg m vc : Nat) (cur cury : Array Value) (ys : List Value) (w : World) (hi : i < n) (hm : 0 < m) (hroom : n + m ≤ c) (hc63 : c ≤ 9223372036854775807) (hvb : vg ≠ g)
    (hg : w.heap[g]? = some (.cells cur 65 (0, 0))) (hgy : w.heap[vg]? = some (.cells cury 65 (0, 0))) (hcs : cur.size = c * 12) (hys : ys.length = m * 12) (hyc : cury.toList.take (m * 12) = ys)
    (h1c : ∀ v ∈ cur.toList.take (n * 12), v.oneCell' = true) (h1v : ∀ v ∈ ys, v.oneCell' = true) :
    Calls Try.prog 92 #[.slice (some ⟨g, 0, none⟩) n c, .int .i64 i, .slice (some ⟨vg, 0, none⟩) m vc] w fun e w' =>
      ∃ row, row = cur.toList.take ((i + m) * 12) ++ (cur.toList.drop (i * 12)).take ((n - i) * 12) ++ cur.toList.drop ((i + m) * 12 + (n - i) * 12) ∧
      e = .returned (.slice (some ⟨g, 0, none⟩) (n + m) c) ∧ w' = (w.drew.setRow g row.toArray).setRow g (row.take (i * 12) ++ ys ++ row.drop (i * 12 + m * 12)).toArray := by
  obtain ⟨i0, hi0, hzz⟩ : ∃ i0, Try.prog.info? 65 = some i0 ∧ i0.size = 12 := by
    have := info65
    cases h : Try.prog.info? 65 with
    | none => rw [h] at this; cases this
    | some i0 => rw [h] at this; simp only [Option.map_some, Option.some.injEq, Prod.mk.injEq] at this; exact ⟨i0, rfl, this.1⟩
  have mixed' := mixed
  have hz1 : ¬ ((m : Int) = 0) := by omega
  have hz2 : ¬ ((i : Int) = (n : Int)) := by omega
  have hov : ∀ lb cb, (callFunc 119 #[.slice (some ⟨vg, 0, none⟩) m vc, .slice (some ⟨g, (i + m) * 12, none⟩) lb cb]).run Try.prog w = .ok (.value (.bool false)) w := fun lb cb => by
    rw [run_callFunc_extern Try.func119 (by kernel_rfl) (by kernel_rfl) (by kernel_rfl) (e := Extern.SlicesOverlaps.overlaps #[34, 34] #[4]) (by kernel_rfl),
      Lib.run_overlaps_apart w 34 4 65 Try.underlying34 12 Try.sizeOf65 ⟨vg, 0, none⟩ ⟨g, (i + m) * 12, none⟩ m vc lb cb hvb 65 65 cury.size cur.size (by simp [World.shape?, hgy]) (by simp [World.shape?, hg]) (by omega) (by simp [World.frozen?, hgy]) (by simp [World.frozen?, hgy])]
    rfl
  have hw1 : IntKind.i64.wrap ((i : Int) + (m : Int)) = (i : Int) + (m : Int) := by rw [IntKind.wrap_i64]; omega
  have hw2 : IntKind.i64.wrap ((n : Int) + (m : Int)) = (n : Int) + (m : Int) := by rw [IntKind.wrap_i64]; omega
  have hb1 : (0 : Int) ≤ (i : Int) + (m : Int) := by omega
  have hin : i ≤ n := by omega
  have htn : ((i : Int) + (m : Int)).toNat = i + m := by omega
  have hb2 : ¬ (c = i + m) := by omega
  have hb3 : (i : Int) ≤ (n : Int) + (m : Int) := by omega
  have hb4 : ¬ (c = i) := by omega
  obtain ⟨row, hrow⟩ : ∃ row, row = cur.toList.take ((i + m) * 12) ++ (cur.toList.drop (i * 12)).take ((n - i) * 12) ++ cur.toList.drop ((i + m) * 12 + (n - i) * 12) := ⟨_, rfl⟩
  have hle : (n + m) * 12 ≤ c * 12 := Nat.mul_le_mul_right _ hroom
  have hll : ((cur.toList.drop (i * 12)).take ((n - i) * 12)).length = (n - i) * 12 := by rw [List.length_take, List.length_drop, Array.length_toList, hcs]; omega
  have hcp1 : ∀ ty dc sc, (Builtin.copy_ #[34, 34] ty #[.slice (some ⟨g, (i + m) * 12, none⟩) (n + m - (i + m)) dc, .slice (some ⟨g, i * 12, none⟩) (n + m - i) sc]).run Try.prog w.drew = .ok (goInt ((n - i : Nat) : Int)) (w.drew.setRow g row.toArray) := fun ty dc sc => by
    have := run_copy_rowN (P := Try.prog) w.drew 34 34 ty 65 i0 g ((i + m) * 12) (n + m - (i + m)) dc ⟨g, i * 12, none⟩ (n + m - i) sc cur 65 ((cur.toList.drop (i * 12)).take ((n - i) * 12)) Try.underlying34 hi0 hg (n - i) (by simp only [Nat.min_def]; split <;> omega) (by rw [hll, hzz])
      (row_cells (w := w.drew) hg (i * 12) (by rw [hll])) (by rw [hll, hcs]; omega) (fun v hv => h1c v (by
        rw [Nat.sub_mul, ← List.drop_take] at hv
        exact List.mem_of_mem_drop hv))
    rw [hll] at this
    rw [hrow]
    exact this
  have hrl : row.length = c * 12 := by
    rw [hrow]; simp only [List.length_append, hll, List.length_take, List.length_drop, Array.length_toList, hcs]; omega
  have hg1 : (w.drew.setRow g row.toArray).heap[g]? = some (.cells row.toArray 65 (0, 0)) := setRow_heap w.drew g cur row.toArray 65 (0, 0) hg
  have hgy1 : (w.drew.setRow g row.toArray).heap[vg]? = some (.cells cury 65 (0, 0)) := by rw [setRow_other _ _ _ _ hvb]; exact hgy
  have hcp2 : ∀ ty dc, (Builtin.copy_ #[34, 34] ty #[.slice (some ⟨g, i * 12, none⟩) (n + m - i) dc, .slice (some ⟨vg, 0, none⟩) m vc]).run Try.prog (w.drew.setRow g row.toArray) = .ok (goInt (m : Int)) ((w.drew.setRow g row.toArray).setRow g (row.take (i * 12) ++ ys ++ row.drop (i * 12 + m * 12)).toArray) := fun ty dc => by
    have := run_copy_rowN (P := Try.prog) (w.drew.setRow g row.toArray) 34 34 ty 65 i0 g (i * 12) (n + m - i) dc ⟨vg, 0, none⟩ m vc row.toArray 65 ys Try.underlying34 hi0 hg1 m (by simp only [Nat.min_def]; split <;> omega) (by rw [hys, hzz])
      (row_cells hgy1 0 (by rw [List.drop_zero, hys]; exact hyc.symm)) (by rw [hys]; simp only [List.size_toArray, hrl]; omega) h1v
    rw [hys] at this
    exact this
  have kr := Keep.mk hrow
  clear hrow hll hle
  go_enter Try.func92, Try.ntmps92
  go_wp2_with (simp only [hov])
  go_region_law_o (refine step_copy_runI rfl _ _ 34 34 rfl _ _ (by simp [Act.eval, Act.put]) (by simp [Act.eval, Act.put]) (hcp1 _ _ _) ?_)
  go_wp2_with (at_builtin; refine wpList_copy_runI _ rfl _ _ 34 34 rfl _ _ rfl rfl (hcp2 _ _) ?_)
  go_ret
  exact ⟨row, kr.out, rfl, by rw [List.append_assoc]⟩

set_option maxHeartbeats 4000000 in
set_option maxRecDepth 100000 in
theorem ins_end (g n c vg m vc : Nat) (w : World) (hn : 0 < n) (hnc : n ≤ c) (hm : 0 < m) (v1 : Value) (w1 : World)
    (hr : (Builtin.append_ #[34, 34] 34 #[.slice (some ⟨g, 0, none⟩) n c, .slice (some ⟨vg, 0, none⟩) m vc]).run Try.prog w = .ok v1 w1) :
    Calls Try.prog 92 #[.slice (some ⟨g, 0, none⟩) n c, .int .i64 n, .slice (some ⟨vg, 0, none⟩) m vc] w fun e w' => e = .returned v1 ∧ w' = w1 := by
  have mixed' := mixed
  have hz1 : ¬ ((m : Int) = 0) := by omega
  have hin : n ≤ c := by omega
  have hb : (0 : Int) ≤ (n : Int) := by omega
  go_enter Try.func92, Try.ntmps92
  go_wp2_with (at_builtin; refine Lib.wpList_append_run _ rfl _ _ 34 34 rfl _ _ rfl rfl _ _ hr ?_)
  all_goals go_ret
  all_goals exact ⟨rfl, rfl⟩

set_option maxHeartbeats 4000000 in
set_option maxRecDepth 100000 in
theorem ins_grow (g n c i vg m vc : Nat) (cur cury : Array Value) (xs ys : List Value) (w : World) (hi : i < n) (hm : 0 < m) (hnc : n ≤ c) (hroom : c < n + m) (hbig : n + m ≤ 1000000000)
    (hg : w.heap[g]? = some (.cells cur 65 (0, 0))) (hgy : w.heap[vg]? = some (.cells cury 65 (0, 0))) (hxs : xs.length = n * 12) (hxc : cur.toList.take (n * 12) = xs) (hys : ys.length = m * 12) (hyc : cury.toList.take (m * 12) = ys)
    (h1c : ∀ v ∈ xs, v.oneCell' = true) (h1v : ∀ v ∈ ys, v.oneCell' = true) :
    Calls Try.prog 92 #[.slice (some ⟨g, 0, none⟩) n c, .int .i64 i, .slice (some ⟨vg, 0, none⟩) m vc] w fun e w' =>
      ∃ row z z' row1 : List Value, row = xs.take (i * 12) ++ z ++ z' ∧ z.length = (m + (n - i)) * 12 ∧ row1 = row.take (i * 12) ++ ys ++ row.drop (i * 12 + m * 12) ∧ row.length = (grownCap w (n + m) c 65) * 12 ∧
      e = .returned (.slice (some ⟨w.heap.size, 0, none⟩) (n + m) (grownCap w (n + m) c 65)) ∧
      w' = (((w.alloc (.cells row.toArray 65)).drew.setRow w.heap.size row1.toArray).drew).setRow w.heap.size (row1.take ((i + m) * 12) ++ xs.drop (i * 12) ++ row1.drop ((i + m) * 12 + (n - i) * 12)).toArray := by
  obtain ⟨i0, hi0, hzz, hby⟩ : ∃ i0, Try.prog.info? 65 = some i0 ∧ i0.size = 12 ∧ i0.bytes = 96 := by
    have := info65
    cases h : Try.prog.info? 65 with
    | none => rw [h] at this; cases this
    | some i0 => rw [h] at this; simp only [Option.map_some, Option.some.injEq, Prod.mk.injEq] at this; exact ⟨i0, rfl, this.1, this.2⟩
  obtain ⟨z0, hz0, hzc⟩ : ∃ z0, i0.zero = some z0 ∧ z0.cells.size = 12 := by
    have : (Try.prog.info? 65).bind (fun i => i.zero.map fun z => z.cells.size) = some 12 := by kernel_rfl
    rw [hi0] at this
    simp only [Option.bind_some, Option.map_eq_some_iff] at this
    exact this
  have mixed' := mixed
  have hz1 : ¬ ((m : Int) = 0) := by omega
  have hz2 : ¬ ((i : Int) = (n : Int)) := by omega
  have hz3 : (c : Int) < (n : Int) + (m : Int) := by omega
  have hbw : g < w.heap.size := (Array.getElem?_eq_some_iff.1 hg).1
  have hvw : vg < w.heap.size := (Array.getElem?_eq_some_iff.1 hgy).1
  have hkk : (n : Int) + (m : Int) - (i : Int) = ((n + m - i : Nat) : Int) := by omega
  have hik : i + (n + m - i) = n + m := by omega
  have hold : (Builtin.firstCells i0.size i (.slice (some ⟨g, 0, none⟩) i c)).run Try.prog w.drew = .ok (xs.take (i * 12)).toArray w.drew := by
    rw [hzz]
    exact run_firstCells_some w.drew 12 i ⟨g, 0, none⟩ i c (xs.take (i * 12)) (by rw [List.length_take, hxs]; omega) (row_cells (w := w.drew) hg 0 (by
      rw [List.drop_zero]; exact take_len (k := min (i * 12) (n * 12)) (by rw [← hxc, List.take_take])))
  have hrz : ∀ ty, (Builtin.append_ #[34, 3] ty #[.slice (some ⟨g, 0, none⟩) i c, .int .i64 ((n : Int) + (m : Int) - (i : Int))]).run Try.prog w =
      .ok (.slice (some ⟨w.heap.size, 0, none⟩) (n + m) (grownCap w (n + m) c 65)) (w.drew.alloc (.cells ((xs.take (i * 12)).toArray ++ Builtin.zeroCells z0.cells (n + m - i) ++ Builtin.zeroCells z0.cells (grownCap w (n + m) c 65 - (n + m))) 65)) := fun ty => by
    have h := Lib.run_append_grow_zeros w 34 3 ty 65 i0 z0 .i64 .i64 Try.underlying34 Try.underlying3 hi0 hz0 (some ⟨g, 0, none⟩) i c (xs.take (i * 12)) hold (n + m - i) (by omega) (by omega) (by omega) (by omega) (by rw [hby]; omega) (by rw [hby, hik]; exact growslice_fits hroom (by omega))
    rw [hik] at h
    rw [hkk]
    exact h
  have hGn : n + m ≤ grownCap w (n + m) c 65 := grownCap_ge w _ _ _
  have hG63 : grownCap w (n + m) c 65 ≤ 9223372036854775807 := by
    have := grownCap_le_maxLen w (n + m) c 65 (by unfold maxLen; omega)
    unfold maxLen at this
    omega
  obtain ⟨CC, hCC⟩ : ∃ G, G = grownCap w (n + m) c 65 := ⟨_, rfl⟩
  rw [← hCC] at hrz hGn hG63 ⊢
  obtain ⟨z, hz⟩ : ∃ z, z = (Builtin.zeroCells z0.cells (n + m - i)).toList := ⟨_, rfl⟩
  obtain ⟨z', hz'⟩ : ∃ z, z = (Builtin.zeroCells z0.cells (CC - (n + m))).toList := ⟨_, rfl⟩
  have hzl : z.length = (m + (n - i)) * 12 := by rw [hz, Array.length_toList, size_zeroCells, hzc]; congr 1; omega
  have hzl' : z'.length = (CC - (n + m)) * 12 := by rw [hz', Array.length_toList, size_zeroCells, hzc]
  obtain ⟨row, hrow⟩ : ∃ row, row = xs.take (i * 12) ++ z ++ z' := ⟨_, rfl⟩
  have hra : (xs.take (i * 12)).toArray ++ Builtin.zeroCells z0.cells (n + m - i) ++ Builtin.zeroCells z0.cells (CC - (n + m)) = row.toArray := by
    apply Array.ext'
    rw [hrow, hz, hz']
    simp
  rw [hra] at hrz
  have hrl : row.length = CC * 12 := by
    rw [hrow]; simp only [List.length_append, hzl, hzl', List.length_take, hxs]; omega
  obtain ⟨row1, hrow1⟩ : ∃ row1, row1 = row.take (i * 12) ++ ys ++ row.drop (i * 12 + m * 12) := ⟨_, rfl⟩
  have hrl1 : row1.length = CC * 12 := by
    rw [hrow1]; simp only [List.length_append, hys, List.length_take, List.length_drop, hrl]; omega
  have hcpA : ∀ (W : World), W.heap = (w.alloc (.cells row.toArray 65)).heap → ∀ ty dc, (Builtin.copy_ #[34, 34] ty #[.slice (some ⟨w.heap.size, i * 12, none⟩) (n + m - i) dc, .slice (some ⟨vg, 0, none⟩) m vc]).run Try.prog W = .ok (goInt (m : Int)) (W.setRow w.heap.size row1.toArray) := fun W hW ty dc => by
    have g1 : W.heap[w.heap.size]? = some (.cells row.toArray 65 (0, 0)) := by rw [hW]; exact heap_alloc_new w _
    have g2 : W.heap[vg]? = some (.cells cury 65 (0, 0)) := by rw [hW, heap_alloc_old w _ hvw]; exact hgy
    have := run_copy_rowN (P := Try.prog) W 34 34 ty 65 i0 w.heap.size (i * 12) (n + m - i) dc ⟨vg, 0, none⟩ m vc row.toArray 65 ys Try.underlying34 hi0 g1 m (by simp only [Nat.min_def]; split <;> omega) (by rw [hys, hzz])
      (row_cells g2 0 (by rw [List.drop_zero, hys]; exact hyc.symm)) (by rw [hys]; simp only [List.size_toArray, hrl]; omega) h1v
    rw [hys] at this
    rw [hrow1]
    exact this
  have hdl : (xs.drop (i * 12)).length = (n - i) * 12 := by rw [List.length_drop, hxs]; omega
  have hcpB : ∀ (W : World), W.heap = ((w.alloc (.cells row.toArray 65)).setRow w.heap.size row1.toArray).heap → ∀ ty dc sc, (Builtin.copy_ #[34, 34] ty #[.slice (some ⟨w.heap.size, (i + m) * 12, none⟩) (n + m - (i + m)) dc, .slice (some ⟨g, i * 12, none⟩) (n - i) sc]).run Try.prog W = .ok (goInt ((n - i : Nat) : Int)) (W.setRow w.heap.size (row1.take ((i + m) * 12) ++ xs.drop (i * 12) ++ row1.drop ((i + m) * 12 + (n - i) * 12)).toArray) := fun W hW ty dc sc => by
    have g1 : W.heap[w.heap.size]? = some (.cells row1.toArray 65 (0, 0)) := by rw [hW]; exact setRow_heap _ _ row.toArray row1.toArray 65 (0, 0) (heap_alloc_new w _)
    have g2 : W.heap[g]? = some (.cells cur 65 (0, 0)) := by rw [hW, setRow_other _ _ _ _ (by omega), heap_alloc_old w _ hbw]; exact hg
    have := run_copy_rowN (P := Try.prog) W 34 34 ty 65 i0 w.heap.size ((i + m) * 12) (n + m - (i + m)) dc ⟨g, i * 12, none⟩ (n - i) sc row1.toArray 65 (xs.drop (i * 12)) Try.underlying34 hi0 g1 (n - i) (by simp only [Nat.min_def]; split <;> omega) (by rw [hdl, hzz])
      (row_cells g2 (i * 12) (by rw [hdl, ← hxc, List.drop_take]; congr 1; omega)) (by rw [hdl]; simp only [List.size_toArray, hrl1]; omega) (fun v hv => h1c v (List.mem_of_mem_drop hv))
    rw [hdl] at this
    exact this
  have hA := hcpA (w.alloc (.cells row.toArray 65)).drew rfl
  have hB := hcpB ((w.alloc (.cells row.toArray 65)).drew.setRow w.heap.size row1.toArray).drew rfl
  clear hcpA hcpB
  have K := Keep.mk (And.intro hrow (And.intro hzl (And.intro hrow1 hrl)))
  have hGi : ¬ (CC = i) := by omega
  have hGim : ¬ (CC = i + m) := by omega
  have hci : ¬ (c = i) := by omega
  have hw1 : IntKind.i64.wrap ((i : Int) + (m : Int)) = (i : Int) + (m : Int) := by rw [IntKind.wrap_i64]; omega
  have hb1 : (0 : Int) ≤ (i : Int) + (m : Int) := by omega
  have hin : i ≤ n := by omega
  have htn : ((i : Int) + (m : Int)).toNat = i + m := by omega
  have hb3 : (i : Int) ≤ (n : Int) := by omega
  clear hkk hik hold hrow hrow1 hra hCC hz hz' hxc hyc
  go_enter Try.func92, Try.ntmps92
  go_wp2_with (first
    | (at_builtin; refine Lib.wpList_append_run _ rfl _ _ _ _ rfl _ _ rfl rfl _ _ (hrz _) ?_)
    | (at_builtin; refine wpList_copy_runI _ rfl _ _ 34 34 rfl _ _ rfl rfl (hA _ _) ?_))
  go_region_law_o (refine step_copy_runI rfl _ _ 34 34 rfl _ _ (by simp [Act.eval, Act.put]) (by simp [Act.eval, Act.put]) (hB _ _ _) ?_)
  go_wp2
  go_ret
  obtain ⟨k1, k2, k3, k4⟩ := K.out
  exact ⟨row, z, z', row1, k1, k2, k3, k4, rfl, by rw [List.append_assoc]⟩


theorem ins_all (w : World) (x y : Value) (n m i : Nat) (xs ys : List Value) (hx : w.ownsRow 0 65 12 x n xs) (hy : w.ownsRow 0 65 12 y m ys) (hn : 0 < n) (hm : 0 < m) (hi : i ≤ n) (hbig : n + m ≤ 1000000000)
    (hne : ∀ g, x.ownBlock = some g → y.ownBlock ≠ some g) (h1x : ∀ v ∈ xs, v.oneCell' = true) (h1y : ∀ v ∈ ys, v.oneCell' = true) :
    Calls Try.prog 92 #[x, .int .i64 i, y] w fun e w' => ∃ v, e = .returned v ∧ w'.ownsRow 0 65 12 v (n + m) (xs.take (i * 12) ++ ys ++ xs.drop (i * 12)) ∧ w.grownBy w' x.ownBlock ∧ (v.ownBlock = x.ownBlock ∨ v.ownBlock = some w.heap.size) := by
  obtain ⟨hxl, hx | ⟨g, c, cur, rfl, _, hg, hnc, hcm, hcs, hxc⟩⟩ := hx
  · omega
  obtain ⟨hyl, hy | ⟨vg, vc, cury, rfl, _, hgy, hmc, hcmy, hcsy, hyc⟩⟩ := hy
  · omega
  have hvg : vg ≠ g := fun e => hne g rfl (by rw [e]; rfl)
  rcases Nat.lt_or_ge i n with hin | hin
  · have hn12 : n * 12 = i * 12 + (n - i) * 12 := by rw [← Nat.add_mul]; congr 1; omega
    rcases Nat.lt_or_ge c (n + m) with hroom | hroom
    · refine (ins_grow g n c i vg m vc cur cury xs ys w hin hm hnc hroom hbig hg hgy hxl hxc hyl hyc h1x h1y).mono ?_
      rintro e w' ⟨row, z, z', row1, k1, k2, k3, k4, rfl, rfl⟩
      have hGn : n + m ≤ grownCap w (n + m) c 65 := grownCap_ge w _ _ _
      have hGm := grownCap_le_maxLen w (n + m) c 65 (by unfold maxLen; omega)
      generalize grownCap w (n + m) c 65 = CC at hGn hGm k4 ⊢
      have hi2 := ins_new xs ys z z' (i * 12) (m * 12) ((n - i) * 12) (by rw [hxl, hn12]) hyl (by rw [k2, Nat.add_mul]) row k1 row1 k3
      rw [← Nat.add_mul i m 12] at hi2
      have e1 : i * 12 + (n - i) * 12 + m * 12 = (n + m) * 12 := by rw [← hn12, Nat.add_mul]
      rw [e1] at hi2
      refine ⟨_, rfl, ⟨?_, .inr ⟨w.heap.size, CC, (row1.take ((i + m) * 12) ++ xs.drop (i * 12) ++ row1.drop ((i + m) * 12 + (n - i) * 12)).toArray, rfl, Nat.zero_le _, ?_, hGn, hGm, ?_, ?_⟩⟩, ?_, .inr rfl⟩
      · simp only [List.length_append, List.length_take, List.length_drop, hxl, hyl]; omega
      · refine setRow_heap _ _ row1.toArray _ 65 (0, 0) ?_
        refine setRow_heap _ _ row.toArray _ 65 (0, 0) ?_
        exact heap_alloc_new w _
      · rw [List.size_toArray, hi2.2, k4]
      · exact hi2.1
      · refine ⟨rfl, rfl, rfl, by simp, fun k hk _ => ?_⟩
        rw [setRow_other _ _ _ _ (by omega)]
        refine (setRow_other _ _ _ _ (by omega)).trans ?_
        exact heap_alloc_old w _ hk
    · refine (ins_shift g n c i vg m vc cur cury ys w hin hm hroom hcm hvg hg hgy hcs hyl hyc (by rw [hxc]; exact h1x) h1y).mono ?_
      rintro e w' ⟨row, k1, rfl, rfl⟩
      have hle : (n + m) * 12 ≤ c * 12 := Nat.mul_le_mul_right _ hroom
      have e1 : i * 12 + (n - i) * 12 + m * 12 = (n + m) * 12 := by rw [← hn12, Nat.add_mul]
      rw [Nat.add_mul i m 12] at k1
      have hi2 := ins_room cur.toList (i * 12) (m * 12) ((n - i) * 12) ys hyl (by rw [e1, Array.length_toList, hcs]; exact hle) row k1
      rw [e1, ← hn12, hxc] at hi2
      refine ⟨_, rfl, ⟨?_, .inr ⟨g, c, (row.take (i * 12) ++ ys ++ row.drop (i * 12 + m * 12)).toArray, rfl, Nat.zero_le _, ?_, hroom, hcm, ?_, ?_⟩⟩, ?_, .inl rfl⟩
      · simp only [List.length_append, List.length_take, List.length_drop, hxl, hyl]; omega
      · refine setRow_heap _ _ row.toArray _ 65 (0, 0) ?_
        exact setRow_heap _ _ cur _ 65 (0, 0) hg
      · rw [List.size_toArray, hi2.2, Array.length_toList, hcs]
      · exact hi2.1
      · refine ⟨rfl, rfl, rfl, by simp, fun k hk hne => ?_⟩
        have hkg : k ≠ g := fun e => hne (by rw [e]; rfl)
        rw [setRow_other _ _ _ _ hkg]
        exact setRow_other _ _ _ _ hkg
  · obtain rfl : i = n := by omega
    obtain ⟨i0, hi0, hzz, hby⟩ : ∃ i0, Try.prog.info? 65 = some i0 ∧ i0.size = 12 ∧ i0.bytes = 96 := by
      have := info65
      cases h : Try.prog.info? 65 with
      | none => rw [h] at this; cases this
      | some i0 => rw [h] at this; simp only [Option.map_some, Option.some.injEq, Prod.mk.injEq] at this; exact ⟨i0, rfl, this.1, this.2⟩
    obtain ⟨z0, hz0, hzc⟩ : ∃ z0, i0.zero = some z0 ∧ z0.cells.size = 12 := by
      have : (Try.prog.info? 65).bind (fun i => i.zero.map fun z => z.cells.size) = some 12 := by kernel_rfl
      rw [hi0] at this
      simp only [Option.bind_some, Option.map_eq_some_iff] at this
      exact this
    obtain ⟨v1, w', r1, r2, r3, _, r5⟩ := run_append_own_at (P := Try.prog) w 0 34 34 65 i0 z0 12 96 Try.underlying34 hi0 hz0 hzz hby hzc (by omega) (.slice (some ⟨g, 0, none⟩) i c) i xs ⟨hxl, .inr ⟨g, c, cur, rfl, Nat.zero_le _, hg, hnc, hcm, hcs, hxc⟩⟩ ⟨vg, 0, none⟩ m vc ys hyl
      (row_cells hgy 0 (by rw [List.drop_zero, hyl]; exact hyc.symm)) h1y (by unfold maxLen; omega) (by omega) (Nat.zero_le _)
    refine (ins_end g i c vg m vc w hn hnc hm v1 w' r1).mono ?_
    rintro e w'' ⟨rfl, rfl⟩
    refine ⟨v1, rfl, ?_, r3, r5⟩
    rw [List.take_of_length_le (by omega), List.drop_eq_nil_of_le (by omega), List.append_nil]
    exact r2

theorem old_ne01 : oldK 0 ≠ oldK 1 := by intro h; simp [oldK] at h
/-- slices.Insert, as a contract: the row that is handed in becomes the one that is handed out. -/
theorem insert_M (xs ys : List (List D)) (i : Nat) (hx : xs ≠ []) (hy : ys ≠ []) (hi : i ≤ xs.length) (hl : xs.length + ys.length ≤ 1000000000) :
    MCall Try.prog 92 [.sl (900000, 0), .d (.v (.int .i64 i)), .sl (900001, 0)] [.arr 65 12 xs, .arr 65 12 ys] (.sl (800000, 0)) [none, none] [some (.arr 65 12 (xs.take i ++ ys ++ xs.drop i))] := by
  refine ⟨rfl, fun vs w => ?_, fun w I ρ vs H hlen hrep => ?_⟩
  · have hn' : ¬ Try.f92.name = "runtime.NumGoroutine" := by decide
    have hb : ∃ c, Try.f92.body = some c := ⟨_, rfl⟩
    obtain ⟨c, hb⟩ := hb
    simp [callFunc, Try.func92, hb, hn']
  have hnx : 0 < xs.length := List.length_pos_iff.2 hx
  have hny : 0 < ys.length := List.length_pos_iff.2 hy
  obtain ⟨a, b, d, rfl⟩ : ∃ a b d, vs = [a, b, d] := by
    match vs, hlen with
    | [a, b, d], _ => exact ⟨a, b, d, rfl⟩
  have r0 := hrep 0 _ rfl
  have r1 := hrep 1 _ rfl
  have r2 := hrep 2 _ rfl
  simp only [List.getD_cons_zero, List.getD_cons_succ] at r0 r1 r2
  have hb0 : G (oldG 0 [Blk.arr 65 12 xs, .arr 65 12 ys]) (oldK 0) = some (.arr 65 12 xs) := rfl
  have hb1 : G (oldG 0 [Blk.arr 65 12 xs, .arr 65 12 ys]) (oldK 1) = some (.arr 65 12 ys) := rfl
  obtain ⟨x0, cx, p1, p2, p3, p4⟩ := H.blk _ _ hb0
  obtain ⟨y0, cy, q1, q2, q3, q4⟩ := H.blk _ _ hb1
  have e0 : a = x0 := by
    cases r0 with
    | sl _ _ h => exact Option.some.inj (h.symm.trans p1)
  have e1 : b = .int .i64 i := by cases r1 with | d _ _ h => cases h with | v => rfl
  have e2 : d = y0 := by
    cases r2 with
    | sl _ _ h => exact Option.some.inj (h.symm.trans q1)
  subst e0 e1 e2
  have locx : ∀ g, a.ownBlock = some g → locOf ρ (oldK 0) (.arr 65 12 xs) = some g := fun g h => by simp [locOf, p1, h]
  have locy : ∀ g, d.ownBlock = some g → locOf ρ (oldK 1) (.arr 65 12 ys) = some g := fun g h => by simp [locOf, q1, h]
  have one : ∀ (es : List (List D)) (cs : List Value), cs.length = es.length * 12 → (∀ e ∈ es, e.length = 12) → (∀ i j d, at2 es i j = some d → d.one = true ∧ RepD w I d (cs.getD (i * 12 + j) undef)) → ∀ v ∈ cs, v.oneCell' = true := by
    intro es cs h1 h2 h3 v hv
    obtain ⟨k, hk, rfl⟩ := List.mem_iff_getElem.1 hv
    have a1 : k / 12 < es.length := by omega
    have a2 : k % 12 < (es[k / 12]).length := by rw [h2 _ (List.getElem_mem a1)]; omega
    obtain ⟨g1, g2⟩ := h3 (k / 12) (k % 12) (es[k / 12][k % 12]) (by simp [at2, a1, a2])
    rw [show k / 12 * 12 + k % 12 = k by omega, List.getD, List.getElem?_eq_getElem hk] at g2
    exact g2.one g1
  refine (ins_all w a d xs.length ys.length i cx cy p2 q2 hnx hny hi hl (fun g h h' => old_ne01 (H.sep _ _ _ _ g hb0 hb1 (locx g h) (locy g h'))) (one xs cx p2.1 p3 p4) (one ys cy q2.1 q3 q4)).mono ?_
  rintro e w' ⟨v, rfl, hrow, hgr, hob⟩
  obtain ⟨u0, hu0⟩ := H.fresh
  have hk0 : ρ (7, u0) = none := hu0 7 u0 (Nat.le_refl _)
  have hva : ∀ g, a.ownBlock = some g → ¬ I g ∧ own ρ (G (oldG 0 [Blk.arr 65 12 xs, .arr 65 12 ys])) g := fun g h => ⟨H.notI _ _ g hb0 (locx g h), _, _, hb0, locx g h⟩
  have hI' : ∀ b, I b → w'.heap[b]? = w.heap[b]? := fun b hb => hgr.block b (H.ilt b hb) (fun e => (hva b e.symm).1 hb)
  have H0 : HeapOK w' I ρ (fun _ => none) := ⟨fun k b hb => (by cases hb), fun k k' b b' g h1 => (by cases h1), fun k b g h1 => (by cases h1), fun k b g h1 => (by cases h1), fun b hb => Nat.lt_of_lt_of_le (H.ilt b hb) hgr.size, ⟨u0, hu0⟩, H.rone⟩
  have hv1 : v.oneCell' = true := by rcases hrow.2 with ⟨rfl, _⟩ | ⟨g, cap, cur, rfl, _⟩ <;> rfl
  have hown : ∀ g, ¬ own ρ (fun _ => none) g := fun g ⟨k, b, h, _⟩ => by cases h
  have hloc : ∀ g, locOf (upd ρ (7, u0) (some v)) (7, u0) (.arr 65 12 (xs.take i ++ ys ++ xs.drop i)) = some g → v.ownBlock = some g := by
    intro g hg; simpa [locOf, upd_same] using hg
  have Hn := heap_add H0 (7, u0) v (.arr 65 12 (xs.take i ++ ys ++ xs.drop i)) hk0 hv1 (fun g hg => by
    have hg' := hloc g hg
    refine ⟨hown g, ?_, (hrow.lt g hg').2⟩
    rcases hob with h | h
    · exact (hva g (h.symm.trans hg')).1
    · rw [h] at hg'; cases hg'
      exact fun hi => Nat.lt_irrefl _ (H.ilt _ hi))
    ⟨v, _, upd_same _ _ _, by
      rw [show (xs.take i ++ ys ++ xs.drop i).length = xs.length + ys.length by simp only [List.length_append, List.length_take, List.length_drop]; omega]
      exact hrow, by
      intro q hq
      rw [List.mem_append, List.mem_append] at hq
      rcases hq with (h | h) | h
      · exact p3 q (List.mem_of_mem_take h)
      · exact q3 q h
      · exact p3 q (List.mem_of_mem_drop h), by
      intro r j d' hd'
      have hj : j < 12 := by
        unfold at2 at hd'
        cases hq : (xs.take i ++ ys ++ xs.drop i)[r]? with
        | none => rw [hq] at hd'; cases hd'
        | some q =>
          rw [hq, Option.bind_some] at hd'
          have hlt := (List.getElem?_eq_some_iff.1 hd').1
          have := List.mem_of_getElem? hq
          rw [List.mem_append, List.mem_append] at this
          rcases this with (h | h) | h
          · rwa [p3 q (List.mem_of_mem_take h)] at hlt
          · rwa [q3 q h] at hlt
          · rwa [p3 q (List.mem_of_mem_drop h)] at hlt
      have hxl := p2.1
      have hyl := q2.1
      have htl : (cx.take (i * 12)).length = i * 12 := by rw [List.length_take, hxl]; omega
      rcases at2_append hd' with ⟨hr, hd1⟩ | ⟨hr, hd1⟩
      · rw [List.length_append, List.length_take, Nat.min_eq_left hi] at hr
        rcases at2_append hd1 with ⟨hr1, hd2⟩ | ⟨hr1, hd2⟩
        · rw [List.length_take, Nat.min_eq_left hi] at hr1
          have hd3 : at2 xs r j = some d' := by
            unfold at2 at hd2 ⊢
            rwa [List.getElem?_take, if_pos hr1] at hd2
          obtain ⟨g1, g2⟩ := p4 r j d' hd3
          refine ⟨g1, ?_⟩
          have := g2.keep hI' (fun _ hb => hb)
          rw [List.getD, List.append_assoc, List.getElem?_append_left (by rw [htl]; omega), List.getElem?_take, if_pos (by omega)]
          rwa [List.getD] at this
        · rw [List.length_take, Nat.min_eq_left hi] at hr1 hd2
          obtain ⟨g1, g2⟩ := q4 (r - i) j d' hd2
          refine ⟨g1, ?_⟩
          have := g2.keep hI' (fun _ hb => hb)
          rw [List.getD, List.append_assoc, List.getElem?_append_right (by rw [htl]; omega), htl, List.getElem?_append_left (by rw [hyl]; omega), show r * 12 + j - i * 12 = (r - i) * 12 + j by omega]
          rwa [List.getD] at this
      · rw [List.length_append, List.length_take, Nat.min_eq_left hi] at hr hd1
        have hd3 : at2 xs (r - ys.length) j = some d' := by
          unfold at2 at hd1 ⊢
          rw [List.getElem?_drop] at hd1
          rwa [show i + (r - (i + ys.length)) = r - ys.length by omega] at hd1
        obtain ⟨g1, g2⟩ := p4 _ j d' hd3
        refine ⟨g1, ?_⟩
        have := g2.keep hI' (fun _ hb => hb)
        rw [List.getD, List.getElem?_append_right (by rw [List.length_append, htl, hyl]; omega), List.length_append, htl, hyl, List.getElem?_drop, show i * 12 + (r * 12 + j - (i * 12 + ys.length * 12)) = (r - ys.length) * 12 + j by omega]
        rwa [List.getD] at this⟩
  refine ⟨v, .sl (7, u0), I, _, _, rfl, .sl _ _ (upd_same _ _ _), Hn, ⟨hgr.os, hgr.tape, hgr.output, hgr.size, fun b hb hn' => hgr.block b hb (fun e => hn' (hva b e.symm).2), fun _ hb => hb, fun _ hb _ => .inl hb, ?_, le_upd hk0⟩, fun _ => (7, u0), rfl, ?_, ?_, ?_, ?_⟩
  · rintro g ⟨k', b', h1, h2⟩ hl
    by_cases ek : k' = (7, u0)
    · subst ek
      rw [upd_same] at h1
      cases h1
      have hg' := hloc g h2
      rcases hob with h | h
      · exact (hva g (h.symm.trans hg')).2
      · rw [h] at hg'; cases hg'; omega
    · rw [upd_ne _ _ _ _ ek] at h1; cases h1
  · intro j b hb
    match j, hb with
    | 0, hb => cases hb
    | 1, hb => cases hb
    | j + 2, hb => simp at hb
  · intro j b hb
    match j, hb with
    | 0, hb => cases hb; exact upd_same _ _ _
    | j + 1, hb => simp at hb
  · intro j _ i _ e; simp only [oldK, Prod.mk.injEq] at e; omega
  · intro j j' h1 h2 _
    simp only [List.length_cons, List.length_nil] at h1 h2
    omega

theorem ins_C : InsC Try.prog 92 65 12 := fun xs ys i h1 h2 h3 h4 => insert_M xs ys i h1 h2 h3 h4

end

noncomputable def convoy_Step_l1 (p1 : Convoy) (p2 : (List Int)) (p4 : (List Sight)) (v3 : (List ConvoyLetter)) (x1 : (Int × Convoy)) : Option (Stp (Int × Convoy) Convoy) :=
  cond (decide (x1.1 < (p1.Mates.length : Int))) ((geti p1.Mates x1.1).bind fun v4 => (convoy_look p4 v4.ID).bind fun v5 => (convoy_mind_thinks_o (ConvoyMind.mk v4 p1.Tick p1.Gap v5.1 v5.2) v3).bind fun v6 => (convoy_Step_2_b x1.1 p2).bind fun v7 => (convoy_mind_drives_b v6 v7).bind fun v8 => (appc x1.2.Mates [v8]).bind fun v9 => some (.go ((w64 (x1.1 + 1)), (Convoy.mk x1.2.Tick x1.2.Gap v9 x1.2.Guest_)))) (some (.out x1.2))
noncomputable def convoy_Step (p1 : Convoy) (p2 : (List Int)) (p3 : (List Note)) (p4 : (List Sight)) : Option (Convoy × Int) :=
  (convoy_Check p1).bind fun v1 => cond (v1 != 0) (some ((Convoy.mk 0 0 [] (Guest.mk 0 0 0 0 0 0 (Guess.mk 0 0) 0 0)), v1)) (((cond (!(((decide ((mm2 true (p3.length : Int) (p4.length : Int)) > 60)) || (decide (p1.Tick ≥ 1099511627776))) || (decide (p1.Guest_.S > 1099511625776)))) (slices_ContainsFunc_Mate_Mate_convoy_Step_1 p1.Mates) (some default))).bind fun v2 => cond ((((decide ((mm2 true (p3.length : Int) (p4.length : Int)) > 60)) || (decide (p1.Tick ≥ 1099511627776))) || (decide (p1.Guest_.S > 1099511625776))) || v2) (some ((Convoy.mk 0 0 [] (Guest.mk 0 0 0 0 0 0 (Guess.mk 0 0) 0 0)), 2)) ((convoy_post p3 p1.Tick).bind fun v3 => (loop (convoy_Step_l1 p1 p2 p4 v3) (0, (Convoy.mk (w64 (p1.Tick + 1)) p1.Gap [] (Guest.mk 0 0 0 0 0 0 (Guess.mk 0 0) 0 0)))).bind fun y1 => cond (p1.Guest_.ID == 0) (some (y1, 0)) ((convoy_Step_2_b (p1.Mates.length : Int) p2).bind fun v10 => (convoy_arrives p1 v3 p4).bind fun v11 => cond (!v11.2) ((convoy_rolls v11.1 v10).bind fun v12 => some ((Convoy.mk y1.Tick y1.Gap y1.Mates v12), 0)) ((convoy_beside p1).bind fun v13 => (convoy_mind_drives_b (ConvoyMind.mk (Mate.mk v11.1.ID v11.1.S v11.1.V v11.1.Len v11.1.Ahead v11.1.Guess_ true 0 (Guess.mk 0 0) 0) p1.Tick p1.Gap (Sight.mk 0 0 0 0 0) false) v10).bind fun v14 => (insertc y1.Mates (w64 (v13.1 + 1)) [v14]).bind fun v15 => some ((Convoy.mk y1.Tick y1.Gap v15 y1.Guest_), 0)))))

/-- kerbstone/convoy.Step -/
def ac_convoy_Step : AC := (.seq (.reg [oo 4 (.box 38 true (.t 0)), oo 5 (.box 39 false (.t 1)), oo 8 (.alloc 38 [z0, z0, .nilS, z0, z0, z0, z0, z0, z0, z0, z0, z0, z0]), oo 9 (.mv (ci 0))]) (.seq (.seq (.reg [oo 24 (.load 13 true (.t 4)), oo 25 (.call (cf 32) [(.t 24)]), oo 10 (.mv (.t 25))]) (.seq (.reg [oo 26 (.mv (.t 10)), oo 27 (.bin .neq (.t 26) (ci 0))]) (.cond (.t 27) (.seq (.reg [oo 28 (.build [z0, z0, .nilS, z0, z0, z0, z0, z0, z0, z0, z0, z0, z0] []), oo 29 (.mv (.t 10)), oe (.store 13 (.t 8) (.t 28)), oo 9 (.mv (.t 29))]) .ret) .skip))) (.seq (.reg [oo 11 (.mv (cf 84))]) (.seq (.seq (.reg [oo 30 (.mv (.t 2)), oo 31 (.len (.t 30)), oo 32 (.mv (.t 3)), oo 33 (.len (.t 32)), oo 34 (.mm true (.t 31) [(.t 33)]), oo 35 (.bin .gtr (.t 34) (ci 60)), oo 36 (.mv (.t 35)), oh 37 (.fieldA 0 (.t 4)) 36, oh 38 (.load 1 false (.t 37)) 36, oh 39 (.bin .geq (.t 38) (ci 1099511627776)) 36, oo 40 (.pick (.t 36) (.c (.v (.bool true))) (.t 39)), oo 41 (.mv (.t 40)), oh 42 (.fieldA 3 (.t 4)) 41, oh 43 (.fieldA 1 (.t 42)) 41, oh 44 (.load 1 false (.t 43)) 41, oh 45 (.bin .gtr (.t 44) (ci 1099511625776)) 41, oo 46 (.pick (.t 41) (.c (.v (.bool true))) (.t 45)), oo 47 (.mv (.t 46)), oh 48 (.fieldA 2 (.t 4)) 47, oh 49 (.load 1 false (.t 48)) 47, oh 50 (.mv (.t 11)) 47, oh 51 (.call (cf 77) [(.t 49), (.t 50)]) 47, oo 52 (.pick (.t 47) (.c (.v (.bool true))) (.t 51))]) (.cond (.t 52) (.seq (.reg [oo 53 (.build [z0, z0, .nilS, z0, z0, z0, z0, z0, z0, z0, z0, z0, z0] []), oe (.store 13 (.t 8) (.t 53)), oo 9 (.mv (ci 2))]) .ret) .skip)) (.seq (.reg [oo 54 (.mkfn (.func 85) [] [(.t 5)]), oo 12 (.mv (.t 54))]) (.seq (.reg [oo 55 (.mv (.t 2)), oo 56 (.fieldA 0 (.t 4)), oo 57 (.load 1 false (.t 56)), oo 58 (.call (cf 86) [(.t 55), (.t 57)]), oo 13 (.mv (.t 58))]) (.seq (.reg [oo 59 (.fieldA 0 (.t 4)), oo 60 (.load 1 false (.t 59)), oo 61 (.bin .add (.t 60) (ci 1)), oo 62 (.fieldA 1 (.t 4)), oo 63 (.load 1 false (.t 62)), oo 64 (.build [z0, z0, .nilS, z0, z0, z0, z0, z0, z0, z0, z0, z0, z0] [(0, 1, (.t 61)), (1, 1, (.t 63))]), oo 14 (.alloc 38 [z0, z0, .nilS, z0, z0, z0, z0, z0, z0, z0, z0, z0, z0]), oe (.store 13 (.t 14) (.t 64))]) (.seq (.seq (.reg [oo 65 (.fieldA 2 (.t 4)), oo 66 (.load 1 false (.t 65)), oo 67 (.len (.t 66)), oo 68 (.mv (ci 0))]) (.block 0 (.loop (.seq (.reg [oo 69 (.bin .lss (.t 68) (.t 67))]) (.seq (.cond (.t 69) .skip (.exit 0)) (.seq (.block 1 (.seq (.reg [oo 70 (.mv (.t 68)), oo 71 (.idxS 12 (.t 66) (.t 68)), oo 72 (.load 12 true (.t 71)), oo 16 (.alloc 65 [z0, z0, z0, z0, z0, z0, z0, zf, z0, z0, z0, z0]), oo 15 (.mv (.t 70)), oe (.store 12 (.t 16) (.t 72))]) (.seq (.reg [oo 73 (.load 12 true (.t 16)), oo 74 (.fieldA 0 (.t 4)), oo 75 (.load 1 false (.t 74)), oo 76 (.fieldA 1 (.t 4)), oo 77 (.load 1 false (.t 76)), oo 78 (.build [z0, z0, z0, z0, z0, z0, z0, zf, z0, z0, z0, z0, z0, z0, z0, z0, z0, z0, z0, zf] [(0, 12, (.t 73)), (12, 1, (.t 75)), (13, 1, (.t 77))]), oo 79 (.box 107 true (.t 78)), oo 17 (.mv (.t 79))]) (.seq (.reg [oo 81 (.mv (.t 17)), oo 82 (.mv (.t 17)), oo 83 (.mv (.t 3)), oo 84 (.fieldA 0 (.t 16)), oo 85 (.load 1 false (.t 84)), oo 86 (.call (cf 87) [(.t 83), (.t 85)]), oo 80 (.mv (.t 86)), oo 87 (.ext (.t 80) 0), oo 88 (.ext (.t 80) 1), oo 89 (.nilck (.t 81)), oo 90 (.fieldA 14 (.t 89)), oe (.store 5 (.t 90) (.t 87)), oo 91 (.nilck (.t 82)), oo 92 (.fieldA 19 (.t 91)), oe (.store 1 (.t 92) (.t 88))]) (.seq (.reg [oo 93 (.mv (.t 17)), oo 94 (.mv (.t 13)), oo 95 (.ocall 10150020 (cf 88) [(.t 93), (.t 94)])]) (.draw [oo 96 (.fieldA 2 (.t 14)), oo 97 (.load 1 false (.t 96)), oo 98 (.mv (.t 17)), oo 99 (.mv (.t 12)), oo 100 (.mv (.t 15)), oo 101 (.call (.t 99) [(.t 100)]), oo 102 (.call (cf 89) [(.t 98), (.t 101)]), oo 103 (.dslice 65 12 1 [z0, z0, z0, z0, z0, z0, z0, zf, z0, z0, z0, z0] [(0, 12, (.t 102))]), oo 104 (.append 34 65 12 (.t 97) (.t 103)), oo 105 (.fieldA 2 (.t 14)), oe (.store 1 (.t 105) (.t 104))] [])))))) (.reg [oo 106 (.bin .add (.t 68) (ci 1)), oo 68 (.mv (.t 106))]))))))) (.seq (.seq (.reg [oo 107 (.fieldA 3 (.t 4)), oo 108 (.fieldA 0 (.t 107)), oo 109 (.load 1 false (.t 108)), oo 110 (.bin .eql (.t 109) (ci 0))]) (.cond (.t 110) (.seq (.reg [oo 111 (.load 13 true (.t 14)), oe (.store 13 (.t 8) (.t 111)), oo 9 (.mv (ci 0))]) .ret) .skip)) (.seq (.reg [oo 112 (.mv (.t 12)), oo 113 (.fieldA 2 (.t 4)), oo 114 (.load 1 false (.t 113)), oo 115 (.len (.t 114)), oo 116 (.call (.t 112) [(.t 115)]), oo 18 (.mv (.t 116))]) (.seq (.reg [oo 118 (.load 13 true (.t 4)), oo 119 (.mv (.t 13)), oo 120 (.mv (.t 3)), oo 121 (.call (cf 90) [(.t 118), (.t 119), (.t 120)]), oo 117 (.mv (.t 121)), oo 122 (.ext (.t 117) 0), oo 123 (.ext (.t 117) 1), oo 19 (.alloc 36 [z0, z0, z0, z0, z0, z0, z0, z0, z0, z0]), oe (.store 10 (.t 19) (.t 122)), oo 20 (.mv (.t 123))]) (.seq (.seq (.reg [oo 124 (.mv (.t 20)), oo 125 (.un .not (.t 124))]) (.cond (.t 125) (.seq (.reg [oo 126 (.load 10 true (.t 19)), oo 127 (.mv (.t 18)), oo 128 (.call (cf 91) [(.t 126), (.t 127)]), oo 129 (.fieldA 3 (.t 14)), oe (.store 10 (.t 129) (.t 128))]) (.seq (.reg [oo 130 (.load 13 true (.t 14)), oe (.store 13 (.t 8) (.t 130)), oo 9 (.mv (ci 0))]) .ret)) .skip)) (.seq (.reg [oo 131 (.fieldA 0 (.t 19)), oo 132 (.load 1 false (.t 131)), oo 133 (.fieldA 1 (.t 19)), oo 134 (.load 1 false (.t 133)), oo 135 (.fieldA 2 (.t 19)), oo 136 (.load 1 false (.t 135)), oo 137 (.fieldA 3 (.t 19)), oo 138 (.load 1 false (.t 137)), oo 139 (.fieldA 5 (.t 19)), oo 140 (.load 1 false (.t 139)), oo 141 (.fieldA 6 (.t 19)), oo 142 (.load 2 true (.t 141)), oo 143 (.build [z0, z0, z0, z0, z0, z0, z0, zf, z0, z0, z0, z0] [(0, 1, (.t 132)), (1, 1, (.t 134)), (2, 1, (.t 136)), (3, 1, (.t 138)), (4, 1, (.t 140)), (5, 2, (.t 142)), (7, 1, (.c (.v (.bool true))))]), oo 144 (.fieldA 0 (.t 4)), oo 145 (.load 1 false (.t 144)), oo 146 (.fieldA 1 (.t 4)), oo 147 (.load 1 false (.t 146)), oo 148 (.build [z0, z0, z0, z0, z0, z0, z0, zf, z0, z0, z0, z0, z0, z0, z0, z0, z0, z0, z0, zf] [(0, 12, (.t 143)), (12, 1, (.t 145)), (13, 1, (.t 147))]), oo 149 (.box 107 true (.t 148)), oo 21 (.mv (.t 149))]) (.seq (.reg [oo 151 (.load 13 true (.t 4)), oo 152 (.call (cf 65) [(.t 151)]), oo 150 (.mv (.t 152)), oo 153 (.ext (.t 150) 0), oo 154 (.ext (.t 150) 1), oo 22 (.mv (.t 153)), oo 23 (.mv (.t 154))]) (.seq (.draw [oo 155 (.fieldA 2 (.t 14)), oo 156 (.load 1 false (.t 155)), oo 157 (.mv (.t 22)), oo 158 (.bin .add (.t 157) (ci 1)), oo 159 (.mv (.t 21)), oo 160 (.mv (.t 18)), oo 161 (.call (cf 89) [(.t 159), (.t 160)]), oo 162 (.bslice 65 12 1 [z0, z0, z0, z0, z0, z0, z0, zf, z0, z0, z0, z0] [(0, 12, (.t 161))]), oo 163 (.ocall 10270080 (cf 92) [(.t 156), (.t 158), (.t 162)]), oo 164 (.fieldA 2 (.t 14)), oe (.store 1 (.t 164) (.t 163))] []) (.seq (.reg [oo 165 (.load 13 true (.t 14)), oe (.store 13 (.t 8) (.t 165)), oo 9 (.mv (ci 0))]) .ret))))))))))))))))
theorem fn_convoy_Step : FnOK Try.prog 50 166 [.cell 8 13 true, .t 9] ac_convoy_Step := ⟨_, _, Try.func50, rfl, Try.ntmps50, by kernel_rfl, ⟨fun r => if r == 15 then [1015002] else if r == 16 then [1007] else if r == 27 then [1027008] else [], by kernel_rfl⟩, by kernel_rfl⟩
set_option maxHeartbeats 4000000 in
theorem convoy_Step_ok (p1 : Convoy) (p2 : (List Int)) (p3 : (List Note)) (p4 : (List Sight)) (r : (Convoy × Int)) (h : convoy_Step p1 p2 p3 p4 = some r) : PCall Try.prog 50 [(.agg (eConvoy p1)), (.list (List.map eInt_i64 p2)), (.list (List.map eNote p3)), (.list (List.map eSight p4))] (.tup [(.agg (eConvoy r.1)), (i64 r.2)]) := by
  refine l_call fn_convoy_Step (nl rfl) ?_
  unfold convoy_Step at h
  unfold ac_convoy_Step
  refine l_sub (s0 := ⟨T [(0, (.d _)), (1, (.d _)), (2, (.d _)), (3, (.d _))], G []⟩) (sbr rfl rfl) ?_
  refine lr (fun u1 hu1 => sn rfl rfl (sn rfl rfl (sn rfl rfl (sv rfl (s_nil (l_seq (lr (fun u2 hu2 => sd rfl (v_loadG rfl (gq rfl) rfl rfl) (bs h fun v1 hv1 h => s_call rfl rfl all2_refl (convoy_Check_ok _  _ hv1) (.inl rfl) (sv rfl (s_nil (lr (fun u3 hu3 => sv rfl (sv rfl (s_nil (cc rfl h (fun c1 h => ?_) (fun c1 h => ?_)))))))))))))))))
  · refine lr (fun u4 hu4 => sv rfl (sv rfl (sst rfl G_hit [(di 0), (di 0), (.d .nilS), (di 0), (di 0), (di 0), (di 0), (di 0), (di 0), (di 0), (di 0), (di 0), (di 0)] rfl (sv rfl (s_nil (l_ret ?_))))))
    obtain rfl := Option.some.inj h
    exact fin_ok (.inr rfl) (resD2 (res_cellG rfl G_hit (nl rfl) rfl) (res_t rfl) rf_d rf_d) (.tup (.cons (.agg (.cons ⟨(.refl _), rfl⟩ (.cons ⟨(.refl _), rfl⟩ (.cons ⟨DLe.nil, rfl⟩ (.cons ⟨(.refl _), rfl⟩ (.cons ⟨(.refl _), rfl⟩ (.cons ⟨(.refl _), rfl⟩ (.cons ⟨(.refl _), rfl⟩ (.cons ⟨(.refl _), rfl⟩ (.cons ⟨(.refl _), rfl⟩ (.cons ⟨(.refl _), rfl⟩ (.cons ⟨(.refl _), rfl⟩ (.cons ⟨(.refl _), rfl⟩ (.cons ⟨(.refl _), rfl⟩ .nil)))))))))))))) (.cons (.refl _) .nil)))
  · refine l_skip (lr (fun u5 hu5 => sv rfl (s_nil (l_seq (lr (fun u6 hu6 => sv rfl (sd rfl (v_len rfl) (sv rfl (sd rfl (v_len rfl) (sv rfl (sv rfl (sv rfl (gp rfl (gw_f rfl) (fun _ => rfl) (gf rfl (vl rfl (gq rfl) rfl) (gf rfl (vb rfl rfl rfl) (sd rfl (v_or rfl rfl (fun hc => gd_pos (not_t hc))) (sv rfl (gp rfl (gw_f rfl) (fun _ => rfl) ?_))))))))))))))))))
    refine g_val _ (.ptr _ _) rfl (gw_f rfl) (fun w5 => (by simp only [gd_pos w5]; rfl)) ?_
    refine gf rfl (vl rfl (gq rfl) rfl) (gf rfl (vb rfl rfl rfl) (sd rfl (v_or rfl rfl (fun hc => gd_pos (not_t hc))) (sv rfl (gp rfl (gw_f rfl) (fun _ => rfl) (gf rfl (vl rfl (gq rfl) rfl) (gf rfl (fun _ => rfl) (bs h fun v2 hv2 h => ?_)))))))
    refine g_call _ (bo v2) (gw_f rfl) (fun w11 => ⟨_, [(dl eMate p1.Mates), (.d (.fn (.func 84) [] []))], _, _, (by simp only [gd_pos w11]; rfl), rfl, all2_refl, slices_ContainsFunc_Mate_Mate_convoy_Step_1_ok _  _ (cond_t w11 hv2), (.inl rfl)⟩) ?_
    refine sd rfl (v_or rfl rfl (fun hc => gd_pos (not_t hc))) (s_nil (cc rfl h (fun c2 h => ?_) (fun c2 h => ?_)))
    · refine l_seq (l_sub (s0 := ⟨T [(8, (.ptr _ _))], G [((8, u1), some (.box 38 _))]⟩) (sbr rfl rfl) ?_)
      refine l_reg fun u7 hu7 => sv rfl (sst rfl G_hit [(di 0), (di 0), (.d .nilS), (di 0), (di 0), (di 0), (di 0), (di 0), (di 0), (di 0), (di 0), (di 0), (di 0)] rfl (sv rfl (s_nil (l_ret ?_))))
      obtain rfl := Option.some.inj h
      exact fin_ok (.inr rfl) (resD2 (res_cellG rfl G_hit (nl rfl) rfl) (res_t rfl) rf_d rf_d) (.tup (.cons (.agg (.cons ⟨(.refl _), rfl⟩ (.cons ⟨(.refl _), rfl⟩ (.cons ⟨DLe.nil, rfl⟩ (.cons ⟨(.refl _), rfl⟩ (.cons ⟨(.refl _), rfl⟩ (.cons ⟨(.refl _), rfl⟩ (.cons ⟨(.refl _), rfl⟩ (.cons ⟨(.refl _), rfl⟩ (.cons ⟨(.refl _), rfl⟩ (.cons ⟨(.refl _), rfl⟩ (.cons ⟨(.refl _), rfl⟩ (.cons ⟨(.refl _), rfl⟩ (.cons ⟨(.refl _), rfl⟩ .nil)))))))))))))) (.cons (.refl _) .nil)))
    · refine l_skip (l_seq (l_sub (s0 := ⟨T [(2, (.d _)), (3, (.d _)), (4, (.ptr _ _)), (5, (.ptr _ _)), (8, (.ptr _ _))], G [((4, u1), some (.box 38 _)), ((5, u1), some (.box 39 _)), ((8, u1), some (.box 38 _))]⟩) (sbr rfl rfl) ?_))
      refine l_reg fun u8 hu8 => s_val (.fn _ _ _) rfl rfl (s_val (.fn _ _ _) rfl rfl (s_nil (lr (fun u9 hu9 => sv rfl (sp rfl rfl (sl rfl G_hit rfl (bs h fun v3 hv3 h => s_call rfl rfl all2_refl (convoy_post_ok _ _  _ hv3) (.inl rfl) (sv rfl (s_nil (lr (fun u10 hu10 => sp rfl rfl (sl rfl G_hit rfl (sv rfl (sp rfl rfl (sl rfl G_hit rfl (sv rfl (sn rfl rfl (sst rfl G_hit [(di (w64 (p1.Tick + 1))), (di p1.Gap), (.d .nilS), (di 0), (di 0), (di 0), (di 0), (di 0), (di 0), (di 0), (di 0), (di 0), (di 0)] rfl (s_nil (l_seq (l_seq (l_sub (s0 := ⟨T [(3, (.d _)), (4, (.ptr _ _)), (8, (.ptr _ _)), (12, (.fn _ _ _)), (13, (.d _)), (14, (.ptr _ _))], G [((4, u1), some (.box 38 _)), ((8, u1), some (.box 38 _)), ((5, u1), some (.box 39 _)), ((14, u10), some (.box 38 _))]⟩) (sbr rfl rfl) ?_))))))))))))))))))))))
      refine l_reg fun u11 hu11 => sp rfl rfl (sl rfl G_hit rfl (sd rfl (v_len rfl) (sv rfl (s_nil (bs h fun y1 hy1 h => l_join (fun s => ∃ g1 : Nat, Sb ⟨T [(3, (dl eSight p4)), (4, (.ptr (4, u1) 0)), (8, (.ptr (8, u1) 0)), (12, (.fn (.func 85) [] [(.ptr (5, u1) 0)])), (13, (dl eConvoyLetter v3)), (14, (.ptr (14, u10) 0))], G [((4, u1), some (.box 38 (dConvoy p1))), ((8, u1), some (.box 38 [(di 0), (di 0), (.d .nilS), (di 0), (di 0), (di 0), (di 0), (di 0), (di 0), (di 0), (di 0), (di 0), (di 0)])), ((5, u1), some (.box 39 [(dl eInt_i64 p2)])), ((14, u10), some (.box 38 [(di y1.Tick), (di y1.Gap), (oS y1.Mates (104, g1)), (di y1.Guest_.ID), (di y1.Guest_.S), (di y1.Guest_.V), (di y1.Guest_.Len), (di y1.Guest_.End), (di y1.Guest_.Ahead), (di y1.Guest_.Guess_.R), (di y1.Guest_.Guess_.V), (di y1.Guest_.From), (di y1.Guest_.Until)])), ((104, g1), oB 65 12 eMate y1.Mates)]⟩ s) ?_ ?_)))))
      · refine l_block (l_loop (convoy_Step_l1 p1 p2 p4 v3) (fun (x1 : (Int × Convoy)) (g2 : Nat) => ⟨T [(3, (dl eSight p4)), (4, (.ptr (4, u1) 0)), (8, (.ptr (8, u1) 0)), (12, (.fn (.func 85) [] [(.ptr (5, u1) 0)])), (13, (dl eConvoyLetter v3)), (14, (.ptr (14, u10) 0)), (66, (dl eMate p1.Mates)), (67, (di (p1.Mates.length : Int))), (68, (di x1.1))], G [((4, u1), some (.box 38 (dConvoy p1))), ((8, u1), some (.box 38 [(di 0), (di 0), (.d .nilS), (di 0), (di 0), (di 0), (di 0), (di 0), (di 0), (di 0), (di 0), (di 0), (di 0)])), ((5, u1), some (.box 39 [(dl eInt_i64 p2)])), ((14, u10), some (.box 38 [(di x1.2.Tick), (di x1.2.Gap), (oS x1.2.Mates (104, g2)), (di x1.2.Guest_.ID), (di x1.2.Guest_.S), (di x1.2.Guest_.V), (di x1.2.Guest_.Len), (di x1.2.Guest_.End), (di x1.2.Guest_.Ahead), (di x1.2.Guest_.Guess_.R), (di x1.2.Guest_.Guess_.V), (di x1.2.Guest_.From), (di x1.2.Guest_.Until)])), ((104, g2), oB 65 12 eMate x1.2.Mates)]⟩) (0, (Convoy.mk (w64 (p1.Tick + 1)) p1.Gap [] (Guest.mk 0 0 0 0 0 0 (Guess.mk 0 0) 0 0))) 0 _ hy1 (sb_of ⟨.of rfl, .of rfl, .of rfl, .of rfl, .of rfl, .of rfl, .of rfl, .of rfl, .of rfl, trivial⟩ (sbG_some G_hit (.of rfl) (sbG_some (gq rfl) (.of rfl) (sbG_some (gq rfl) (.of rfl) (sbG_some (gq rfl) (.of rfl) (sbG_nil trivial)))))) ?_)
        intro x1 g2 z1 hz1 ez1
        unfold convoy_Step_l1 at hz1
        refine lr (fun u12 hu12 => sv rfl (s_nil (l_seq (cc rfl hz1 (fun c3 hz1 => ?_) (fun c3 hz1 => ?_)))))
        · refine l_skip (l_seq (l_block (lr (fun u13 hu13 => sv rfl (bs hz1 fun v4 hv4 hz1 => sd rfl (v_idx rfl rfl hv4 rfl) (sd rfl (v_loadLG rfl hv4 rfl rfl) (sn rfl rfl (sv rfl (sst rfl G_hit (dMate v4) rfl (s_nil (lr (fun u14 hu14 => sd rfl (v_loadG rfl G_hit rfl rfl) (sp rfl rfl (sl rfl (gq rfl) rfl (sp rfl rfl (sl rfl (gq rfl) rfl (sv rfl (sn rfl rfl (sp rfl rfl (s_nil (l_seq (l_sub (s0 := ⟨T [(3, (dl eSight p4)), (4, (.ptr (4, u1) 0)), (8, (.ptr (8, u1) 0)), (12, (.fn (.func 85) [] [(.ptr (5, u1) 0)])), (13, (dl eConvoyLetter v3)), (14, (.ptr (14, u10) 0)), (15, (di x1.1)), (16, (.ptr (16, u13) 0)), (17, (.ptr (79, u14) 0)), (66, (dl eMate p1.Mates)), (67, (di (p1.Mates.length : Int))), (68, (di x1.1))], G [((4, u1), some (.box 38 (dConvoy p1))), ((8, u1), some (.box 38 [(di 0), (di 0), (.d .nilS), (di 0), (di 0), (di 0), (di 0), (di 0), (di 0), (di 0), (di 0), (di 0), (di 0)])), ((5, u1), some (.box 39 [(dl eInt_i64 p2)])), ((14, u10), some (.box 38 [(di x1.2.Tick), (di x1.2.Gap), (oS x1.2.Mates (104, g2)), (di x1.2.Guest_.ID), (di x1.2.Guest_.S), (di x1.2.Guest_.V), (di x1.2.Guest_.Len), (di x1.2.Guest_.End), (di x1.2.Guest_.Ahead), (di x1.2.Guest_.Guess_.R), (di x1.2.Guest_.Guess_.V), (di x1.2.Guest_.From), (di x1.2.Guest_.Until)])), ((104, g2), oB 65 12 eMate x1.2.Mates), ((16, u13), some (.box 65 (dMate v4))), ((79, u14), some (.box 107 [(di v4.ID), (di v4.S), (di v4.V), (di v4.Len), (di v4.Ahead), (di v4.Guess_.R), (di v4.Guess_.V), (.d (bo v4.Trust)), (di v4.Ward), (di v4.WardGuess.R), (di v4.WardGuess.V), (di v4.Until), (di p1.Tick), (di p1.Gap), (di 0), (di 0), (di 0), (di 0), (di 0), (.d (bo false))]))]⟩) (sb_of ⟨.of rfl, .of rfl, .of rfl, .of rfl, .of rfl, .of rfl, .of rfl, .of rfl, .of rfl, .of rfl, .of rfl, .of rfl, trivial⟩ (sbG_some (gq rfl) (.of rfl) (sbG_some (gq rfl) (.of rfl) (sbG_some (gq rfl) (.of rfl) (sbG_some (gq rfl) (.of rfl) (sbG_oB (gq rfl) (sbG_some (gq rfl) (.of rfl) (sbG_some G_hit (.of rfl) trivial)))))))) ?_))))))))))))))))))))))
          refine l_reg fun u15 hu15 => sp rfl rfl (sp rfl rfl (sv rfl (sp rfl rfl (sl rfl (gq rfl) rfl (bs hz1 fun v5 hv5 hz1 => s_call rfl rfl all2_refl (convoy_look_ok _ _  _ hv5) (.inl rfl) (sv rfl (sv rfl (sv rfl (sp rfl rfl (sp rfl rfl (sst rfl (gq rfl) [(di v4.ID), (di v4.S), (di v4.V), (di v4.Len), (di v4.Ahead), (di v4.Guess_.R), (di v4.Guess_.V), (.d (bo v4.Trust)), (di v4.Ward), (di v4.WardGuess.R), (di v4.WardGuess.V), (di v4.Until), (di p1.Tick), (di p1.Gap), (di v5.1.By), (di v5.1.Lo), (di v5.1.Hi), (di v5.1.VLo), (di v5.1.VHi), (.d (bo false))] rfl (sp rfl rfl (sp rfl rfl (sst rfl G_hit [(di v4.ID), (di v4.S), (di v4.V), (di v4.Len), (di v4.Ahead), (di v4.Guess_.R), (di v4.Guess_.V), (.d (bo v4.Trust)), (di v4.Ward), (di v4.WardGuess.R), (di v4.WardGuess.V), (di v4.Until), (di p1.Tick), (di p1.Gap), (di v5.1.By), (di v5.1.Lo), (di v5.1.Hi), (di v5.1.VLo), (di v5.1.VHi), (.d (bo v5.2))] rfl (s_nil (l_seq (l_sub (s0 := ⟨T [(3, (dl eSight p4)), (4, (.ptr (4, u1) 0)), (8, (.ptr (8, u1) 0)), (12, (.fn (.func 85) [] [(.ptr (5, u1) 0)])), (13, (dl eConvoyLetter v3)), (14, (.ptr (14, u10) 0)), (15, (di x1.1)), (17, (.ptr (79, u14) 0)), (66, (dl eMate p1.Mates)), (67, (di (p1.Mates.length : Int))), (68, (di x1.1))], G [((4, u1), some (.box 38 (dConvoy p1))), ((8, u1), some (.box 38 [(di 0), (di 0), (.d .nilS), (di 0), (di 0), (di 0), (di 0), (di 0), (di 0), (di 0), (di 0), (di 0), (di 0)])), ((5, u1), some (.box 39 [(dl eInt_i64 p2)])), ((14, u10), some (.box 38 [(di x1.2.Tick), (di x1.2.Gap), (oS x1.2.Mates (104, g2)), (di x1.2.Guest_.ID), (di x1.2.Guest_.S), (di x1.2.Guest_.V), (di x1.2.Guest_.Len), (di x1.2.Guest_.End), (di x1.2.Guest_.Ahead), (di x1.2.Guest_.Guess_.R), (di x1.2.Guest_.Guess_.V), (di x1.2.Guest_.From), (di x1.2.Guest_.Until)])), ((104, g2), oB 65 12 eMate x1.2.Mates), ((79, u14), some (.box 107 [(di v4.ID), (di v4.S), (di v4.V), (di v4.Len), (di v4.Ahead), (di v4.Guess_.R), (di v4.Guess_.V), (.d (bo v4.Trust)), (di v4.Ward), (di v4.WardGuess.R), (di v4.WardGuess.V), (di v4.Until), (di p1.Tick), (di p1.Gap), (di v5.1.By), (di v5.1.Lo), (di v5.1.Hi), (di v5.1.VLo), (di v5.1.VHi), (.d (bo v5.2))]))]⟩) (sb_of ⟨.of rfl, .of rfl, .of rfl, .of rfl, .of rfl, .of rfl, .of rfl, .of rfl, .of rfl, .of rfl, .of rfl, trivial⟩ (sbG_some (gq rfl) (.of rfl) (sbG_some (gq rfl) (.of rfl) (sbG_some (gq rfl) (.of rfl) (sbG_some (gq rfl) (.of rfl) (sbG_oB (gq rfl) (sbG_some G_hit (.of rfl) trivial))))))) ?_)))))))))))))))))
          refine l_reg fun u16 hu16 => sp rfl rfl (sv rfl (bs hz1 fun v6 hv6 hz1 => s_oc (v := .d (.tup [])) (us := [(79, u14)]) (oc_m (convoy_mind_thinks_o_ok _ _ _ hv6) [(79, u14)] [(79, u14)] _ (((79, u14), some (.box 107 (dConvoyMind v6))) :: _) rfl all2_av (kl_cons (kr_ptr (G_skip rfl (G_skip rfl (G_skip rfl (G_skip rfl (G_skip rfl G_hit))))) rfl) (kl_cons kr_d kl_nil)) (live_cons (G_skip rfl (G_skip rfl (G_skip rfl (G_skip rfl (G_skip rfl G_hit))))) live_nil) ⟨⟨_, (G_skip rfl (G_skip rfl (G_skip rfl (G_skip rfl (G_skip rfl G_hit))))), .of rfl⟩, trivial⟩ (fun _ h => h) nd1 rfl rfl rfl) (s_nil (l_draw rfl fun u17 hu17 => sp rfl rfl (s_val (oS x1.2.Mates (104, g2)) rfl (v_load rfl (gq rfl) rfl) (sp rfl rfl (s_val (.fn _ _ _) rfl rfl (sv rfl (bs hz1 fun v7 hv7 hz1 => s_call rfl (rfL_cons rf_d (rfL_cons (rf_ptr (gq rfl) (rfL_cons rf_d rfL_nil)) rfL_nil)) all2_refl (convoy_Step_2_b_ok _ _  _ hv7) (.inr rfl) (bs hz1 fun v8 hv8 hz1 => s_call rfl (rfL_cons (rf_ptr G_hit (rfL_cons rf_d (rfL_cons rf_d (rfL_cons rf_d (rfL_cons rf_d (rfL_cons rf_d (rfL_cons rf_d (rfL_cons rf_d (rfL_cons rf_d (rfL_cons rf_d (rfL_cons rf_d (rfL_cons rf_d (rfL_cons rf_d (rfL_cons rf_d (rfL_cons rf_d (rfL_cons rf_d (rfL_cons rf_d (rfL_cons rf_d (rfL_cons rf_d (rfL_cons rf_d (rfL_cons rf_d rfL_nil))))))))))))))))))))) (rfL_cons rf_d rfL_nil)) all2_refl (convoy_mind_drives_b_ok _ _  _ hv8) (.inr rfl) (s_val (dl eMate [v8]) rfl (v_dsliceN eMate ([v8] : List Mate) (fun _ => rfl) rfl rfl ⟨rfl, rfl, rfl, trivial⟩) (bs hz1 fun v9 hv9 hz1 => s_appendO eMate (104, g2) x1.2.Mates v8 [] _ (elems_list (fun _ => rfl)) rfl (gq rfl) hv9 (sp rfl rfl (sst rfl (gq rfl) [(di x1.2.Tick), (di x1.2.Gap), (.sl (104, u17)), (di x1.2.Guest_.ID), (di x1.2.Guest_.S), (di x1.2.Guest_.V), (di x1.2.Guest_.Len), (di x1.2.Guest_.End), (di x1.2.Guest_.Ahead), (di x1.2.Guest_.Guess_.R), (di x1.2.Guest_.Guess_.V), (di x1.2.Guest_.From), (di x1.2.Guest_.Until)] rfl (s_nil (l_end (l_sub (s0 := ⟨T [(3, (.d _)), (4, (.ptr _ _)), (8, (.ptr _ _)), (12, (.fn _ _ _)), (13, (.d _)), (14, (.ptr _ _)), (66, (.d _)), (67, (.d _)), (68, (.d _))], G [((4, u1), some (.box 38 _)), ((8, u1), some (.box 38 _)), ((5, u1), some (.box 39 _)), ((14, u10), some (.box 38 _)), ((104, u17), some _)]⟩) (sbr rfl rfl) ?_)))))))))))))))))
          refine l_reg fun u18 hu18 => sv rfl (sv rfl (s_nil (l_nil ?_)))
          obtain rfl := Option.some.inj hz1
          exact ⟨rfl, u17, (sb_of ⟨.of rfl, .of rfl, .of rfl, .of rfl, .of rfl, .of rfl, .of rfl, .of rfl, .of rfl, trivial⟩ (sbG_some G_hit (.of rfl) (sbG_some (gq rfl) (.of rfl) (sbG_some (gq rfl) (.of rfl) (sbG_some (gq rfl) (.box (.cons (.of rfl) (.cons (.of rfl) (.cons (.of (oS_ne (appc_ne hv9)).symm) (.cons (.of rfl) (.cons (.of rfl) (.cons (.of rfl) (.cons (.of rfl) (.cons (.of rfl) (.cons (.of rfl) (.cons (.of rfl) (.cons (.of rfl) (.cons (.of rfl) (.cons (.of rfl) .nil)))))))))))))) (sbG_own (gq rfl) trivial))))))⟩
        · refine l_exitN rfl ?_
          obtain rfl := Option.some.inj hz1
          obtain rfl := ez1 _ rfl
          refine ⟨nofun, awl_pop rfl (l_j ?_)⟩
          exact ⟨g2, (sb_of ⟨.of rfl, .of rfl, .of rfl, .of rfl, .of rfl, .of rfl, trivial⟩ (sbG_some G_hit (.of rfl) (sbG_some (gq rfl) (.of rfl) (sbG_some (gq rfl) (.of rfl) (sbG_some (gq rfl) (.of rfl) (sbG_oB (gq rfl) trivial))))))⟩
      · rintro _ ⟨g1, q1⟩
        refine l_sub q1 (l_seq (lr (fun u19 hu19 => sp rfl rfl (sp rfl rfl (sl rfl G_hit rfl (sv rfl (s_nil (cc rfl h (fun c4 h => ?_) (fun c4 h => ?_)))))))))
        · refine lr (fun u20 hu20 => s_val (mkAgg [(di y1.Tick), (di y1.Gap), (oS y1.Mates (104, g1)), (di y1.Guest_.ID), (di y1.Guest_.S), (di y1.Guest_.V), (di y1.Guest_.Len), (di y1.Guest_.End), (di y1.Guest_.Ahead), (di y1.Guest_.Guess_.R), (di y1.Guest_.Guess_.V), (di y1.Guest_.From), (di y1.Guest_.Until)]) rfl (v_loadG rfl (gq rfl) rfl rfl) (s_store _ _ _ _ _ (cellsV_mkAgg _) rfl rfl (gq rfl) (nl rfl) [(di y1.Tick), (di y1.Gap), (oS y1.Mates (104, g1)), (di y1.Guest_.ID), (di y1.Guest_.S), (di y1.Guest_.V), (di y1.Guest_.Len), (di y1.Guest_.End), (di y1.Guest_.Ahead), (di y1.Guest_.Guess_.R), (di y1.Guest_.Guess_.V), (di y1.Guest_.From), (di y1.Guest_.Until)] rfl (sv rfl (s_nil (l_ret ?_)))))
          obtain rfl := Option.some.inj h
          exact fin_ok (.inr rfl) (resD2 (res_cellG rfl G_hit (nl rfl) rfl) (res_t rfl) (rf_mkAgg (rfL_cons rf_d (rfL_cons rf_d (rfL_cons (rf_oS (gq rfl)) (rfL_cons rf_d (rfL_cons rf_d (rfL_cons rf_d (rfL_cons rf_d (rfL_cons rf_d (rfL_cons rf_d (rfL_cons rf_d (rfL_cons rf_d (rfL_cons rf_d (rfL_cons rf_d rfL_nil)))))))))))))) rf_d) (.tup (.cons (.agg (.cons ⟨(.refl _), rfl⟩ (.cons ⟨(.refl _), rfl⟩ (.cons ⟨oD_le, rfl⟩ (.cons ⟨(.refl _), rfl⟩ (.cons ⟨(.refl _), rfl⟩ (.cons ⟨(.refl _), rfl⟩ (.cons ⟨(.refl _), rfl⟩ (.cons ⟨(.refl _), rfl⟩ (.cons ⟨(.refl _), rfl⟩ (.cons ⟨(.refl _), rfl⟩ (.cons ⟨(.refl _), rfl⟩ (.cons ⟨(.refl _), rfl⟩ (.cons ⟨(.refl _), rfl⟩ .nil)))))))))))))) (.cons (.refl _) .nil)))
        · refine l_skip (lr (fun u21 hu21 => s_val (.fn _ _ _) rfl rfl (sp rfl rfl (sl rfl G_hit rfl (sd rfl (v_len rfl) (bs h fun v10 hv10 h => s_call rfl (rfL_cons rf_d (rfL_cons (rf_ptr (gq rfl) (rfL_cons rf_d rfL_nil)) rfL_nil)) all2_refl (convoy_Step_2_b_ok _ _  _ hv10) (.inr rfl) (sv rfl (s_nil (lr (fun u22 hu22 => sd rfl (v_loadG rfl G_hit rfl rfl) (sv rfl (sv rfl (bs h fun v11 hv11 h => s_call rfl rfl all2_refl (convoy_arrives_ok _ _ _  _ hv11) (.inl rfl) (sv rfl (sv rfl (sv rfl (sn rfl rfl (sst rfl G_hit (dGuest v11.1) rfl (sv rfl (s_nil (l_seq (l_seq (l_sub (s0 := ⟨T [(4, (.ptr (4, u1) 0)), (8, (.ptr (8, u1) 0)), (14, (.ptr (14, u10) 0)), (18, (di v10)), (19, (.ptr (19, u22) 0)), (20, (.d (bo v11.2)))], G [((4, u1), some (.box 38 (dConvoy p1))), ((8, u1), some (.box 38 [(di 0), (di 0), (.d .nilS), (di 0), (di 0), (di 0), (di 0), (di 0), (di 0), (di 0), (di 0), (di 0), (di 0)])), ((14, u10), some (.box 38 [(di y1.Tick), (di y1.Gap), (oS y1.Mates (104, g1)), (di y1.Guest_.ID), (di y1.Guest_.S), (di y1.Guest_.V), (di y1.Guest_.Len), (di y1.Guest_.End), (di y1.Guest_.Ahead), (di y1.Guest_.Guess_.R), (di y1.Guest_.Guess_.V), (di y1.Guest_.From), (di y1.Guest_.Until)])), ((104, g1), oB 65 12 eMate y1.Mates), ((19, u22), some (.box 36 (dGuest v11.1)))]⟩) (sb_of ⟨.of rfl, .of rfl, .of rfl, .of rfl, .of rfl, .of rfl, trivial⟩ (sbG_some (gq rfl) (.of rfl) (sbG_some (gq rfl) (.of rfl) (sbG_some (gq rfl) (.of rfl) (sbG_oB (gq rfl) (sbG_some G_hit (.of rfl) trivial)))))) ?_)))))))))))))))))))))))
          refine l_reg fun u23 hu23 => sv rfl (s_val (.d (bo (!v11.2))) rfl rfl (s_nil (cc rfl h (fun c5 h => ?_) (fun c5 h => ?_))))
          · refine lr (fun u24 hu24 => sd rfl (v_loadG rfl (gq rfl) rfl rfl) (sv rfl (bs h fun v12 hv12 h => s_call rfl rfl all2_refl (convoy_rolls_ok _ _  _ hv12) (.inl rfl) (sp rfl rfl (sst rfl (gq rfl) [(di y1.Tick), (di y1.Gap), (oS y1.Mates (104, g1)), (di v12.ID), (di v12.S), (di v12.V), (di v12.Len), (di v12.End), (di v12.Ahead), (di v12.Guess_.R), (di v12.Guess_.V), (di v12.From), (di v12.Until)] rfl (s_nil (lr (fun u25 hu25 => s_val (mkAgg [(di y1.Tick), (di y1.Gap), (oS y1.Mates (104, g1)), (di v12.ID), (di v12.S), (di v12.V), (di v12.Len), (di v12.End), (di v12.Ahead), (di v12.Guess_.R), (di v12.Guess_.V), (di v12.From), (di v12.Until)]) rfl (v_loadG rfl G_hit rfl rfl) (s_store _ _ _ _ _ (cellsV_mkAgg _) rfl rfl (gq rfl) (nl rfl) [(di y1.Tick), (di y1.Gap), (oS y1.Mates (104, g1)), (di v12.ID), (di v12.S), (di v12.V), (di v12.Len), (di v12.End), (di v12.Ahead), (di v12.Guess_.R), (di v12.Guess_.V), (di v12.From), (di v12.Until)] rfl (sv rfl (s_nil (l_ret ?_))))))))))))
            obtain rfl := Option.some.inj h
            exact fin_ok (.inr rfl) (resD2 (res_cellG rfl G_hit (nl rfl) rfl) (res_t rfl) (rf_mkAgg (rfL_cons rf_d (rfL_cons rf_d (rfL_cons (rf_oS (gq rfl)) (rfL_cons rf_d (rfL_cons rf_d (rfL_cons rf_d (rfL_cons rf_d (rfL_cons rf_d (rfL_cons rf_d (rfL_cons rf_d (rfL_cons rf_d (rfL_cons rf_d (rfL_cons rf_d rfL_nil)))))))))))))) rf_d) (.tup (.cons (.agg (.cons ⟨(.refl _), rfl⟩ (.cons ⟨(.refl _), rfl⟩ (.cons ⟨oD_le, rfl⟩ (.cons ⟨(.refl _), rfl⟩ (.cons ⟨(.refl _), rfl⟩ (.cons ⟨(.refl _), rfl⟩ (.cons ⟨(.refl _), rfl⟩ (.cons ⟨(.refl _), rfl⟩ (.cons ⟨(.refl _), rfl⟩ (.cons ⟨(.refl _), rfl⟩ (.cons ⟨(.refl _), rfl⟩ (.cons ⟨(.refl _), rfl⟩ (.cons ⟨(.refl _), rfl⟩ .nil)))))))))))))) (.cons (.refl _) .nil)))
          · refine l_skip (lr (fun u26 hu26 => sp rfl rfl (sl rfl (gq rfl) rfl (sp rfl rfl (sl rfl (gq rfl) rfl (sp rfl rfl (sl rfl (gq rfl) rfl (sp rfl rfl (sl rfl (gq rfl) rfl (sp rfl rfl (sl rfl (gq rfl) rfl (sp rfl rfl (sd rfl (v_loadG rfl (gq rfl) rfl rfl) (sv rfl (sp rfl rfl (sl rfl G_hit rfl (sp rfl rfl (sl rfl G_hit rfl (sv rfl (sn rfl rfl (sp rfl rfl (s_nil (l_seq (l_sub (s0 := ⟨T [(4, (.ptr (4, u1) 0)), (8, (.ptr (8, u1) 0)), (14, (.ptr (14, u10) 0)), (18, (di v10)), (21, (.ptr (149, u26) 0))], G [((4, u1), some (.box 38 (dConvoy p1))), ((8, u1), some (.box 38 [(di 0), (di 0), (.d .nilS), (di 0), (di 0), (di 0), (di 0), (di 0), (di 0), (di 0), (di 0), (di 0), (di 0)])), ((14, u10), some (.box 38 [(di y1.Tick), (di y1.Gap), (oS y1.Mates (104, g1)), (di y1.Guest_.ID), (di y1.Guest_.S), (di y1.Guest_.V), (di y1.Guest_.Len), (di y1.Guest_.End), (di y1.Guest_.Ahead), (di y1.Guest_.Guess_.R), (di y1.Guest_.Guess_.V), (di y1.Guest_.From), (di y1.Guest_.Until)])), ((104, g1), oB 65 12 eMate y1.Mates), ((149, u26), some (.box 107 [(di v11.1.ID), (di v11.1.S), (di v11.1.V), (di v11.1.Len), (di v11.1.Ahead), (di v11.1.Guess_.R), (di v11.1.Guess_.V), (.d (bo true)), (di 0), (di 0), (di 0), (di 0), (di p1.Tick), (di p1.Gap), (di 0), (di 0), (di 0), (di 0), (di 0), (.d (bo false))]))]⟩) (sb_of ⟨.of rfl, .of rfl, .of rfl, .of rfl, .of rfl, trivial⟩ (sbG_some (gq rfl) (.of rfl) (sbG_some (gq rfl) (.of rfl) (sbG_some (gq rfl) (.of rfl) (sbG_oB (gq rfl) (sbG_some G_hit (.of rfl) trivial)))))) ?_))))))))))))))))))))))))
            refine l_reg fun u27 hu27 => sd rfl (v_loadG rfl G_hit rfl rfl) (bs h fun v13 hv13 h => s_call rfl rfl all2_refl (convoy_beside_ok _  _ hv13) (.inl rfl) (sv rfl (sv rfl (sv rfl (sv rfl (sv rfl (s_nil (l_seq (l_draw rfl fun u28 hu28 => sp rfl rfl (s_val (oS y1.Mates (104, g1)) rfl (v_load rfl (gq rfl) rfl) (sv rfl (sv rfl (sp rfl rfl (sv rfl (bs h fun v14 hv14 h => s_call rfl (rfL_cons (rf_ptr (gq rfl) (rfL_cons rf_d (rfL_cons rf_d (rfL_cons rf_d (rfL_cons rf_d (rfL_cons rf_d (rfL_cons rf_d (rfL_cons rf_d (rfL_cons rf_d (rfL_cons rf_d (rfL_cons rf_d (rfL_cons rf_d (rfL_cons rf_d (rfL_cons rf_d (rfL_cons rf_d (rfL_cons rf_d (rfL_cons rf_d (rfL_cons rf_d (rfL_cons rf_d (rfL_cons rf_d (rfL_cons rf_d rfL_nil))))))))))))))))))))) (rfL_cons rf_d rfL_nil)) all2_refl (convoy_mind_drives_b_ok _ _  _ hv14) (.inr rfl) (s_new (.sl _) (.arr 65 12 (List.map eMate ([v14] : List Mate))) rfl (aval_bsliceN eMate _ (fun _ => rfl) rfl rfl ⟨rfl, rfl, rfl, trivial⟩) (bs h fun v15 hv15 h => s_oc (oc_insert (E := eMate) ins_C hv15 rfl (G_skip rfl (G_skip rfl (G_skip rfl (G_skip rfl G_hit)))) G_hit (key_ne rfl)) (sp rfl rfl (sst rfl (gq rfl) [(di y1.Tick), (di y1.Gap), (.sl (10270080, u28)), (di y1.Guest_.ID), (di y1.Guest_.S), (di y1.Guest_.V), (di y1.Guest_.Len), (di y1.Guest_.End), (di y1.Guest_.Ahead), (di y1.Guest_.Guess_.R), (di y1.Guest_.Guess_.V), (di y1.Guest_.From), (di y1.Guest_.Until)] rfl (s_nil (l_seq (l_sub (s0 := ⟨T [(8, (.ptr _ _)), (14, (.ptr _ _))], G [((8, u1), some (.box 38 _)), ((14, u10), some (.box 38 _)), ((10270080, u28), some _)]⟩) (sbr rfl rfl) ?_))))))))))))))))))))))
            refine l_reg fun u29 hu29 => s_val (.agg _) rfl (v_loadG rfl (gq rfl) rfl rfl) (sst rfl G_hit [(di y1.Tick), (di y1.Gap), (.sl (10270080, u28)), (di y1.Guest_.ID), (di y1.Guest_.S), (di y1.Guest_.V), (di y1.Guest_.Len), (di y1.Guest_.End), (di y1.Guest_.Ahead), (di y1.Guest_.Guess_.R), (di y1.Guest_.Guess_.V), (di y1.Guest_.From), (di y1.Guest_.Until)] rfl (sv rfl (s_nil (l_ret ?_))))
            obtain rfl := Option.some.inj h
            exact fin_ok (.inr rfl) (resD2 (res_cellG rfl G_hit (nl rfl) rfl) (res_t rfl) (rf_agg (rfL_cons rf_d (rfL_cons rf_d (rfL_cons (rf_sl (gq rfl)) (rfL_cons rf_d (rfL_cons rf_d (rfL_cons rf_d (rfL_cons rf_d (rfL_cons rf_d (rfL_cons rf_d (rfL_cons rf_d (rfL_cons rf_d (rfL_cons rf_d (rfL_cons rf_d rfL_nil)))))))))))))) rf_d) (.refl _)

noncomputable def convoy_New_l1 (p2 : (List Mate)) (x1 : (Int × Convoy)) : Option (Stp (Int × Convoy) Convoy) :=
  cond (decide (x1.1 < (p2.length : Int))) ((geti p2 x1.1).bind fun v1 => (cond (decide (x1.1 > 0)) ((geti p2 (w64 (x1.1 - 1))).bind fun v2 => (geti p2 (w64 (x1.1 - 1))).bind fun v3 => (geti p2 (w64 (x1.1 - 1))).bind fun v4 => some (Mate.mk (w64 (x1.1 + 1)) v1.S v1.V v1.Len x1.1 (Guess.mk (w64 (v2.S - v3.Len)) v4.V) true 0 (Guess.mk 0 0) 0)) (some (Mate.mk (w64 (x1.1 + 1)) v1.S v1.V v1.Len 0 (Guess.mk 0 0) true 0 (Guess.mk 0 0) 0))).bind fun y2 => (appc x1.2.Mates [y2]).bind fun v5 => some (.go ((w64 (x1.1 + 1)), (Convoy.mk x1.2.Tick x1.2.Gap v5 x1.2.Guest_)))) (some (.out x1.2))
noncomputable def convoy_New (p1 : Int) (p2 : (List Mate)) : Option (Convoy × Int) :=
  (loop (convoy_New_l1 p2) (0, (Convoy.mk 0 p1 [] (Guest.mk 0 0 0 0 0 0 (Guess.mk 0 0) 0 0)))).bind fun y1 => (convoy_Check y1).bind fun v6 => cond (v6 != 0) (some ((Convoy.mk 0 0 [] (Guest.mk 0 0 0 0 0 0 (Guess.mk 0 0) 0 0)), v6)) (some (y1, 0))

/-- kerbstone/convoy.New -/
def ac_convoy_New : AC := (.seq (.reg [oo 4 (.alloc 38 [z0, z0, .nilS, z0, z0, z0, z0, z0, z0, z0, z0, z0, z0]), oo 5 (.mv (ci 0))]) (.seq (.reg [oo 11 (.mv (.t 0)), oo 12 (.build [z0, z0, .nilS, z0, z0, z0, z0, z0, z0, z0, z0, z0, z0] [(1, 1, (.t 11))]), oo 6 (.alloc 38 [z0, z0, .nilS, z0, z0, z0, z0, z0, z0, z0, z0, z0, z0]), oe (.store 13 (.t 6) (.t 12))]) (.seq (.seq (.reg [oo 13 (.mv (.t 1)), oo 14 (.len (.t 13)), oo 15 (.mv (ci 0))]) (.block 0 (.loop (.seq (.reg [oo 16 (.bin .lss (.t 15) (.t 14))]) (.seq (.cond (.t 16) .skip (.exit 0)) (.seq (.block 1 (.seq (.reg [oo 17 (.mv (.t 15)), oo 18 (.idxS 12 (.t 13) (.t 15)), oo 19 (.load 12 true (.t 18)), oo 8 (.alloc 65 [z0, z0, z0, z0, z0, z0, z0, zf, z0, z0, z0, z0]), oo 7 (.mv (.t 17)), oe (.store 12 (.t 8) (.t 19))]) (.seq (.reg [oo 20 (.mv (.t 7)), oo 21 (.bin .add (.t 20) (ci 1)), oo 22 (.fieldA 1 (.t 8)), oo 23 (.load 1 false (.t 22)), oo 24 (.fieldA 2 (.t 8)), oo 25 (.load 1 false (.t 24)), oo 26 (.fieldA 3 (.t 8)), oo 27 (.load 1 false (.t 26)), oo 28 (.build [z0, z0, z0, z0, z0, z0, z0, zf, z0, z0, z0, z0] [(0, 1, (.t 21)), (1, 1, (.t 23)), (2, 1, (.t 25)), (3, 1, (.t 27)), (7, 1, (.c (.v (.bool true))))]), oo 9 (.alloc 65 [z0, z0, z0, z0, z0, z0, z0, zf, z0, z0, z0, z0]), oe (.store 12 (.t 9) (.t 28))]) (.seq (.seq (.reg [oo 29 (.mv (.t 7)), oo 30 (.bin .gtr (.t 29) (ci 0))]) (.cond (.t 30) (.draw [oo 31 (.mv (.t 7)), oo 32 (.mv (.t 1)), oo 33 (.mv (.t 7)), oo 34 (.bin .sub (.t 33) (ci 1)), oo 35 (.idxS 12 (.t 32) (.t 34)), oo 36 (.fieldA 1 (.t 35)), oo 37 (.load 1 false (.t 36)), oo 38 (.mv (.t 1)), oo 39 (.mv (.t 7)), oo 40 (.bin .sub (.t 39) (ci 1)), oo 41 (.idxS 12 (.t 38) (.t 40)), oo 42 (.fieldA 3 (.t 41)), oo 43 (.load 1 false (.t 42)), oo 44 (.bin .sub (.t 37) (.t 43)), oo 45 (.mv (.t 1)), oo 46 (.mv (.t 7)), oo 47 (.bin .sub (.t 46) (ci 1)), oo 48 (.idxS 12 (.t 45) (.t 47)), oo 49 (.fieldA 2 (.t 48)), oo 50 (.load 1 false (.t 49)), oo 51 (.build [z0, z0] [(0, 1, (.t 44)), (1, 1, (.t 50))]), oo 52 (.fieldA 4 (.t 9)), oe (.store 1 (.t 52) (.t 31)), oo 53 (.fieldA 5 (.t 9)), oe (.store 2 (.t 53) (.t 51))] [(4, 22), (6, 22), (10, 22), (12, 22), (17, 22), (19, 22)]) .skip)) (.reg [oo 54 (.fieldA 2 (.t 6)), oo 55 (.load 1 false (.t 54)), oo 56 (.load 12 true (.t 9)), oo 57 (.dslice 65 12 1 [z0, z0, z0, z0, z0, z0, z0, zf, z0, z0, z0, z0] [(0, 12, (.t 56))]), oo 58 (.append 34 65 12 (.t 55) (.t 57)), oo 59 (.fieldA 2 (.t 6)), oe (.store 1 (.t 59) (.t 58))]))))) (.reg [oo 60 (.bin .add (.t 15) (ci 1)), oo 15 (.mv (.t 60))]))))))) (.seq (.seq (.reg [oo 61 (.load 13 true (.t 6)), oo 62 (.call (cf 32) [(.t 61)]), oo 10 (.mv (.t 62))]) (.seq (.reg [oo 63 (.mv (.t 10)), oo 64 (.bin .neq (.t 63) (ci 0))]) (.cond (.t 64) (.seq (.reg [oo 65 (.build [z0, z0, .nilS, z0, z0, z0, z0, z0, z0, z0, z0, z0, z0] []), oo 66 (.mv (.t 10)), oe (.store 13 (.t 4) (.t 65)), oo 5 (.mv (.t 66))]) .ret) .skip))) (.seq (.reg [oo 67 (.load 13 true (.t 6)), oe (.store 13 (.t 4) (.t 67)), oo 5 (.mv (ci 0))]) .ret)))))
theorem fn_convoy_New : FnOK Try.prog 43 68 [.cell 4 13 true, .t 5] ac_convoy_New := ⟨_, _, Try.func43, rfl, Try.ntmps43, by kernel_rfl, ⟨fun r => if r == 8 then [1003] else [], by kernel_rfl⟩, by kernel_rfl⟩
set_option maxHeartbeats 4000000 in
theorem convoy_New_ok (p1 : Int) (p2 : (List Mate)) (r : (Convoy × Int)) (h : convoy_New p1 p2 = some r) : PCall Try.prog 43 [(i64 p1), (.list (List.map eMate p2))] (.tup [(.agg (eConvoy r.1)), (i64 r.2)]) := by
  refine l_call fn_convoy_New (nl rfl) ?_
  unfold convoy_New at h
  unfold ac_convoy_New
  refine l_sub (s0 := ⟨T [(0, (.d _)), (1, (.d _))], G []⟩) (sbr rfl rfl) ?_
  refine lr (fun u1 hu1 => sn rfl rfl (sv rfl (s_nil (lr (fun u2 hu2 => sv rfl (sv rfl (sn rfl rfl (sst rfl G_hit [(di 0), (di p1), (.d .nilS), (di 0), (di 0), (di 0), (di 0), (di 0), (di 0), (di 0), (di 0), (di 0), (di 0)] rfl (s_nil (l_seq (lr (fun u3 hu3 => sv rfl (sd rfl (v_len rfl) (sv rfl (s_nil (bs h fun y1 hy1 h => l_join (fun s => ∃ g1 : Nat, Sb ⟨T [(4, (.ptr (4, u1) 0)), (6, (.ptr (6, u2) 0))], G [((4, u1), some (.box 38 [(di 0), (di 0), (.d .nilS), (di 0), (di 0), (di 0), (di 0), (di 0), (di 0), (di 0), (di 0), (di 0), (di 0)])), ((6, u2), some (.box 38 [(di y1.Tick), (di y1.Gap), (oS y1.Mates (58, g1)), (di y1.Guest_.ID), (di y1.Guest_.S), (di y1.Guest_.V), (di y1.Guest_.Len), (di y1.Guest_.End), (di y1.Guest_.Ahead), (di y1.Guest_.Guess_.R), (di y1.Guest_.Guess_.V), (di y1.Guest_.From), (di y1.Guest_.Until)])), ((58, g1), oB 65 12 eMate y1.Mates)]⟩ s) ?_ ?_))))))))))))))))
  · refine l_block (l_loop (convoy_New_l1 p2) (fun (x1 : (Int × Convoy)) (g2 : Nat) => ⟨T [(1, (dl eMate p2)), (4, (.ptr (4, u1) 0)), (6, (.ptr (6, u2) 0)), (13, (dl eMate p2)), (14, (di (p2.length : Int))), (15, (di x1.1))], G [((4, u1), some (.box 38 [(di 0), (di 0), (.d .nilS), (di 0), (di 0), (di 0), (di 0), (di 0), (di 0), (di 0), (di 0), (di 0), (di 0)])), ((6, u2), some (.box 38 [(di x1.2.Tick), (di x1.2.Gap), (oS x1.2.Mates (58, g2)), (di x1.2.Guest_.ID), (di x1.2.Guest_.S), (di x1.2.Guest_.V), (di x1.2.Guest_.Len), (di x1.2.Guest_.End), (di x1.2.Guest_.Ahead), (di x1.2.Guest_.Guess_.R), (di x1.2.Guest_.Guess_.V), (di x1.2.Guest_.From), (di x1.2.Guest_.Until)])), ((58, g2), oB 65 12 eMate x1.2.Mates)]⟩) (0, (Convoy.mk 0 p1 [] (Guest.mk 0 0 0 0 0 0 (Guess.mk 0 0) 0 0))) 0 _ hy1 (sb_of ⟨.of rfl, .of rfl, .of rfl, .of rfl, .of rfl, .of rfl, trivial⟩ (sbG_some (gq rfl) (.of rfl) (sbG_some G_hit (.of rfl) (sbG_nil trivial)))) ?_)
    intro x1 g2 z1 hz1 ez1
    unfold convoy_New_l1 at hz1
    refine lr (fun u4 hu4 => sv rfl (s_nil (l_seq (cc rfl hz1 (fun c1 hz1 => ?_) (fun c1 hz1 => ?_)))))
    · refine l_skip (l_seq (l_block (lr (fun u5 hu5 => sv rfl (bs hz1 fun v1 hv1 hz1 => sd rfl (v_idx rfl rfl hv1 rfl) (sd rfl (v_loadLG rfl hv1 rfl rfl) (sn rfl rfl (sv rfl (sst rfl G_hit (dMate v1) rfl (s_nil (lr (fun u6 hu6 => sv rfl (sv rfl (sp rfl rfl (sl rfl G_hit rfl (sp rfl rfl (sl rfl G_hit rfl (sp rfl rfl (sl rfl G_hit rfl (sv rfl (sn rfl rfl (sst rfl G_hit [(di (w64 (x1.1 + 1))), (di v1.S), (di v1.V), (di v1.Len), (di 0), (di 0), (di 0), (.d (bo true)), (di 0), (di 0), (di 0), (di 0)] rfl (s_nil (l_seq (l_seq (l_sub (s0 := ⟨T [(1, (dl eMate p2)), (4, (.ptr (4, u1) 0)), (6, (.ptr (6, u2) 0)), (7, (di x1.1)), (9, (.ptr (9, u6) 0)), (13, (dl eMate p2)), (14, (di (p2.length : Int))), (15, (di x1.1))], G [((4, u1), some (.box 38 [(di 0), (di 0), (.d .nilS), (di 0), (di 0), (di 0), (di 0), (di 0), (di 0), (di 0), (di 0), (di 0), (di 0)])), ((6, u2), some (.box 38 [(di x1.2.Tick), (di x1.2.Gap), (oS x1.2.Mates (58, g2)), (di x1.2.Guest_.ID), (di x1.2.Guest_.S), (di x1.2.Guest_.V), (di x1.2.Guest_.Len), (di x1.2.Guest_.End), (di x1.2.Guest_.Ahead), (di x1.2.Guest_.Guess_.R), (di x1.2.Guest_.Guess_.V), (di x1.2.Guest_.From), (di x1.2.Guest_.Until)])), ((58, g2), oB 65 12 eMate x1.2.Mates), ((9, u6), some (.box 65 [(di (w64 (x1.1 + 1))), (di v1.S), (di v1.V), (di v1.Len), (di 0), (di 0), (di 0), (.d (bo true)), (di 0), (di 0), (di 0), (di 0)]))]⟩) (sb_of ⟨.of rfl, .of rfl, .of rfl, .of rfl, .of rfl, .of rfl, .of rfl, .of rfl, trivial⟩ (sbG_some (gq rfl) (.of rfl) (sbG_some (gq rfl) (.of rfl) (sbG_oB (gq rfl) (sbG_some G_hit (.of rfl) trivial))))) ?_))))))))))))))))))))))))))
      refine l_reg fun u7 hu7 => sv rfl (sv rfl (s_nil (bs hz1 fun y2 hy2 hz1 => l_join (fun s => ∃ g3 : Unit, Sb ⟨T [(1, (dl eMate p2)), (4, (.ptr (4, u1) 0)), (6, (.ptr (6, u2) 0)), (9, (.ptr (9, u6) 0)), (13, (dl eMate p2)), (14, (di (p2.length : Int))), (15, (di x1.1))], G [((4, u1), some (.box 38 [(di 0), (di 0), (.d .nilS), (di 0), (di 0), (di 0), (di 0), (di 0), (di 0), (di 0), (di 0), (di 0), (di 0)])), ((6, u2), some (.box 38 [(di x1.2.Tick), (di x1.2.Gap), (oS x1.2.Mates (58, g2)), (di x1.2.Guest_.ID), (di x1.2.Guest_.S), (di x1.2.Guest_.V), (di x1.2.Guest_.Len), (di x1.2.Guest_.End), (di x1.2.Guest_.Ahead), (di x1.2.Guest_.Guess_.R), (di x1.2.Guest_.Guess_.V), (di x1.2.Guest_.From), (di x1.2.Guest_.Until)])), ((9, u6), some (.box 65 (dMate y2))), ((58, g2), oB 65 12 eMate x1.2.Mates)]⟩ s) ?_ ?_)))
      · refine cc rfl hy2 (fun c2 hy2 => ?_) (fun c2 hy2 => ?_)
        · refine l_drawT fun u8 hu8 => t_val (.d _) rfl rfl (t_val (.d _) rfl rfl (t_val (.d _) rfl rfl (t_val (.d _) rfl rfl (bs hy2 fun v2 hv2 hy2 => t_val (.d _) rfl (v_idx rfl rfl hv2 rfl) (t_val (.d _) rfl rfl (t_val (.d _) rfl (v_loadL rfl hv2 rfl) (t_val (.d _) rfl rfl (t_val (.d _) rfl rfl (t_val (.d _) rfl rfl (bs hy2 fun v3 hv3 hy2 => t_val (.d _) rfl (v_idx rfl rfl hv3 rfl) (t_val (.d _) rfl rfl (t_val (.d _) rfl (v_loadL rfl hv3 rfl) (t_val (.d _) rfl rfl (t_val (.d _) rfl rfl (t_val (.d _) rfl rfl (t_val (.d _) rfl rfl (bs hy2 fun v4 hv4 hy2 => t_val (.d _) rfl (v_idx rfl rfl hv4 rfl) (t_val (.d _) rfl rfl (t_val (.d _) rfl (v_loadL rfl hv4 rfl) (t_val (.d _) rfl rfl (t_val (.ptr _ _) rfl rfl (t_store _ _ _ _ _ rfl rfl rfl (gq rfl) (nl rfl) [(di (w64 (x1.1 + 1))), (di v1.S), (di v1.V), (di v1.Len), (di x1.1), (di 0), (di 0), (.d (bo true)), (di 0), (di 0), (di 0), (di 0)] rfl (t_val (.ptr _ _) rfl rfl (t_store _ _ _ _ _ rfl rfl rfl G_hit (nl rfl) [(di (w64 (x1.1 + 1))), (di v1.S), (di v1.V), (di v1.Len), (di x1.1), (di (w64 (v2.S - v3.Len))), (di v4.V), (.d (bo true)), (di 0), (di 0), (di 0), (di 0)] rfl (t_nil ⟨rfl, ?_⟩)))))))))))))))))))))))))
          obtain rfl := Option.some.inj hy2
          exact l_j ⟨(), (sb_of ⟨.of rfl, .of rfl, .of rfl, .of rfl, .of rfl, .of rfl, .of rfl, trivial⟩ (sbG_some (gq rfl) (.of rfl) (sbG_some (gq rfl) (.of rfl) (sbG_some G_hit (.of rfl) (sbG_oB (gq rfl) trivial)))))⟩
        · refine l_skip ?_
          obtain rfl := Option.some.inj hy2
          exact l_j ⟨(), (sb_of ⟨.of rfl, .of rfl, .of rfl, .of rfl, .of rfl, .of rfl, .of rfl, trivial⟩ (sbG_some G_hit (.of rfl) (sbG_some (gq rfl) (.of rfl) (sbG_some (gq rfl) (.of rfl) (sbG_oB (gq rfl) trivial)))))⟩
      · rintro _ ⟨g3, q1⟩
        refine l_sub q1 (l_reg fun u9 hu9 => sp rfl rfl (s_val (oS x1.2.Mates (58, g2)) rfl (v_load rfl (gq rfl) rfl) (sd rfl (v_loadG rfl (gq rfl) rfl rfl) (s_val (dl eMate [y2]) rfl (v_dsliceN eMate ([y2] : List Mate) (fun _ => rfl) rfl rfl ⟨rfl, rfl, rfl, trivial⟩) (bs hz1 fun v5 hv5 hz1 => s_appendO eMate (58, g2) x1.2.Mates y2 [] _ (elems_list (fun _ => rfl)) rfl (gq rfl) hv5 (sp rfl rfl (sst rfl (gq rfl) [(di x1.2.Tick), (di x1.2.Gap), (.sl (58, u9)), (di x1.2.Guest_.ID), (di x1.2.Guest_.S), (di x1.2.Guest_.V), (di x1.2.Guest_.Len), (di x1.2.Guest_.End), (di x1.2.Guest_.Ahead), (di x1.2.Guest_.Guess_.R), (di x1.2.Guest_.Guess_.V), (di x1.2.Guest_.From), (di x1.2.Guest_.Until)] rfl (s_nil (l_end (l_reg fun u10 hu10 => sv rfl (sv rfl (s_nil (l_nil ?_)))))))))))))
        obtain rfl := Option.some.inj hz1
        exact ⟨rfl, u9, (sb_of ⟨.of rfl, .of rfl, .of rfl, .of rfl, .of rfl, .of rfl, trivial⟩ (sbG_some (gq rfl) (.of rfl) (sbG_some G_hit (.box (.cons (.of rfl) (.cons (.of rfl) (.cons (.of (oS_ne (appc_ne hv5)).symm) (.cons (.of rfl) (.cons (.of rfl) (.cons (.of rfl) (.cons (.of rfl) (.cons (.of rfl) (.cons (.of rfl) (.cons (.of rfl) (.cons (.of rfl) (.cons (.of rfl) (.cons (.of rfl) .nil)))))))))))))) (sbG_own (gq rfl) trivial))))⟩
    · refine l_exitN rfl ?_
      obtain rfl := Option.some.inj hz1
      obtain rfl := ez1 _ rfl
      refine ⟨nofun, awl_pop rfl (l_j ?_)⟩
      exact ⟨g2, (sb_of ⟨.of rfl, .of rfl, trivial⟩ (sbG_some G_hit (.of rfl) (sbG_some (gq rfl) (.of rfl) (sbG_oB (gq rfl) trivial))))⟩
  · rintro _ ⟨g1, q2⟩
    refine l_sub q2 (l_seq (lr (fun u11 hu11 => s_val (mkAgg [(di y1.Tick), (di y1.Gap), (oS y1.Mates (58, g1)), (di y1.Guest_.ID), (di y1.Guest_.S), (di y1.Guest_.V), (di y1.Guest_.Len), (di y1.Guest_.End), (di y1.Guest_.Ahead), (di y1.Guest_.Guess_.R), (di y1.Guest_.Guess_.V), (di y1.Guest_.From), (di y1.Guest_.Until)]) rfl (v_loadG rfl (gq rfl) rfl rfl) (bs h fun v6 hv6 h => s_call rfl (rfL_cons (rf_mkAgg (rfL_cons rf_d (rfL_cons rf_d (rfL_cons (rf_oS (gq rfl)) (rfL_cons rf_d (rfL_cons rf_d (rfL_cons rf_d (rfL_cons rf_d (rfL_cons rf_d (rfL_cons rf_d (rfL_cons rf_d (rfL_cons rf_d (rfL_cons rf_d (rfL_cons rf_d rfL_nil)))))))))))))) rfL_nil) (.cons (.agg (.cons ⟨(.refl _), rfl⟩ (.cons ⟨(.refl _), rfl⟩ (.cons ⟨oD_le, rfl⟩ (.cons ⟨(.refl _), rfl⟩ (.cons ⟨(.refl _), rfl⟩ (.cons ⟨(.refl _), rfl⟩ (.cons ⟨(.refl _), rfl⟩ (.cons ⟨(.refl _), rfl⟩ (.cons ⟨(.refl _), rfl⟩ (.cons ⟨(.refl _), rfl⟩ (.cons ⟨(.refl _), rfl⟩ (.cons ⟨(.refl _), rfl⟩ (.cons ⟨(.refl _), rfl⟩ .nil)))))))))))))) .nil) (convoy_Check_ok _  _ hv6) (.inr rfl) (sv rfl (s_nil (lr (fun u12 hu12 => sv rfl (sv rfl (s_nil (cc rfl h (fun c3 h => ?_) (fun c3 h => ?_))))))))))))
    · refine lr (fun u13 hu13 => sv rfl (sv rfl (sst rfl G_hit [(di 0), (di 0), (.d .nilS), (di 0), (di 0), (di 0), (di 0), (di 0), (di 0), (di 0), (di 0), (di 0), (di 0)] rfl (sv rfl (s_nil (l_ret ?_))))))
      obtain rfl := Option.some.inj h
      exact fin_ok (.inr rfl) (resD2 (res_cellG rfl G_hit (nl rfl) rfl) (res_t rfl) rf_d rf_d) (.tup (.cons (.agg (.cons ⟨(.refl _), rfl⟩ (.cons ⟨(.refl _), rfl⟩ (.cons ⟨DLe.nil, rfl⟩ (.cons ⟨(.refl _), rfl⟩ (.cons ⟨(.refl _), rfl⟩ (.cons ⟨(.refl _), rfl⟩ (.cons ⟨(.refl _), rfl⟩ (.cons ⟨(.refl _), rfl⟩ (.cons ⟨(.refl _), rfl⟩ (.cons ⟨(.refl _), rfl⟩ (.cons ⟨(.refl _), rfl⟩ (.cons ⟨(.refl _), rfl⟩ (.cons ⟨(.refl _), rfl⟩ .nil)))))))))))))) (.cons (.refl _) .nil)))
    · refine l_skip (lr (fun u14 hu14 => s_val (mkAgg [(di y1.Tick), (di y1.Gap), (oS y1.Mates (58, g1)), (di y1.Guest_.ID), (di y1.Guest_.S), (di y1.Guest_.V), (di y1.Guest_.Len), (di y1.Guest_.End), (di y1.Guest_.Ahead), (di y1.Guest_.Guess_.R), (di y1.Guest_.Guess_.V), (di y1.Guest_.From), (di y1.Guest_.Until)]) rfl (v_loadG rfl (gq rfl) rfl rfl) (s_store _ _ _ _ _ (cellsV_mkAgg _) rfl rfl G_hit (nl rfl) [(di y1.Tick), (di y1.Gap), (oS y1.Mates (58, g1)), (di y1.Guest_.ID), (di y1.Guest_.S), (di y1.Guest_.V), (di y1.Guest_.Len), (di y1.Guest_.End), (di y1.Guest_.Ahead), (di y1.Guest_.Guess_.R), (di y1.Guest_.Guess_.V), (di y1.Guest_.From), (di y1.Guest_.Until)] rfl (sv rfl (s_nil (l_ret ?_))))))
      obtain rfl := Option.some.inj h
      exact fin_ok (.inr rfl) (resD2 (res_cellG rfl G_hit (nl rfl) rfl) (res_t rfl) (rf_mkAgg (rfL_cons rf_d (rfL_cons rf_d (rfL_cons (rf_oS (gq rfl)) (rfL_cons rf_d (rfL_cons rf_d (rfL_cons rf_d (rfL_cons rf_d (rfL_cons rf_d (rfL_cons rf_d (rfL_cons rf_d (rfL_cons rf_d (rfL_cons rf_d (rfL_cons rf_d rfL_nil)))))))))))))) rf_d) (.tup (.cons (.agg (.cons ⟨(.refl _), rfl⟩ (.cons ⟨(.refl _), rfl⟩ (.cons ⟨oD_le, rfl⟩ (.cons ⟨(.refl _), rfl⟩ (.cons ⟨(.refl _), rfl⟩ (.cons ⟨(.refl _), rfl⟩ (.cons ⟨(.refl _), rfl⟩ (.cons ⟨(.refl _), rfl⟩ (.cons ⟨(.refl _), rfl⟩ (.cons ⟨(.refl _), rfl⟩ (.cons ⟨(.refl _), rfl⟩ (.cons ⟨(.refl _), rfl⟩ (.cons ⟨(.refl _), rfl⟩ .nil)))))))))))))) (.cons (.refl _) .nil)))

noncomputable def law09_shown : Option Convoy :=
  (convoy_New 1000 [(Mate.mk 0 50000 1000 4000 0 (Guess.mk 0 0) false 0 (Guess.mk 0 0) 0), (Mate.mk 0 40000 1000 4000 0 (Guess.mk 0 0) false 0 (Guess.mk 0 0) 0)]).bind fun v1 => cond ((v1.2 != 0) || ((v1.1.Mates.length : Int) != 2)) (some (Convoy.mk 0 0 [] (Guest.mk 0 0 0 0 0 0 (Guess.mk 0 0) 0 0))) (some v1.1)

/-- kerbstone/kerbstonelaw09.shown -/
def ac_law09_shown : AC := (.seq (.reg [oo 0 (.alloc 38 [z0, z0, .nilS, z0, z0, z0, z0, z0, z0, z0, z0, z0, z0])]) (.seq (.reg [oo 4 (.build [z0, z0, z0, z0, z0, z0, z0, zf, z0, z0, z0, z0] [(1, 1, (ci 50000)), (2, 1, (ci 1000)), (3, 1, (ci 4000))]), oo 5 (.build [z0, z0, z0, z0, z0, z0, z0, zf, z0, z0, z0, z0] [(1, 1, (ci 40000)), (2, 1, (ci 1000)), (3, 1, (ci 4000))]), oo 6 (.dslice 65 12 2 [z0, z0, z0, z0, z0, z0, z0, zf, z0, z0, z0, z0] [(0, 12, (.t 4)), (12, 12, (.t 5))]), oo 7 (.call (cf 43) [(ci 1000), (.t 6)]), oo 3 (.mv (.t 7)), oo 8 (.ext (.t 3) 0), oo 9 (.ext (.t 3) 1), oo 1 (.alloc 38 [z0, z0, .nilS, z0, z0, z0, z0, z0, z0, z0, z0, z0, z0]), oe (.store 13 (.t 1) (.t 8)), oo 2 (.mv (.t 9))]) (.seq (.seq (.reg [oo 10 (.mv (.t 2)), oo 11 (.bin .neq (.t 10) (ci 0)), oo 12 (.mv (.t 11)), oh 13 (.fieldA 2 (.t 1)) 12, oh 14 (.load 1 false (.t 13)) 12, oh 15 (.len (.t 14)) 12, oh 16 (.bin .neq (.t 15) (ci 2)) 12, oo 17 (.pick (.t 12) (.c (.v (.bool true))) (.t 16))]) (.cond (.t 17) (.seq (.reg [oo 18 (.build [z0, z0, .nilS, z0, z0, z0, z0, z0, z0, z0, z0, z0, z0] []), oe (.store 13 (.t 0) (.t 18))]) .ret) .skip)) (.seq (.reg [oo 19 (.load 13 true (.t 1)), oe (.store 13 (.t 0) (.t 19))]) .ret))))
theorem fn_law09_shown : FnOK Try.prog 57 20 [.cell 0 13 true] ac_law09_shown := ⟨_, _, Try.func57, rfl, Try.ntmps57, by kernel_rfl, ⟨fun r => if r == 1 then [1002] else [], by kernel_rfl⟩, by kernel_rfl⟩
theorem law09_shown_ok (r : Convoy) (h : law09_shown = some r) : PCall Try.prog 57 [] (.agg (eConvoy r)) := by
  refine l_call fn_law09_shown (nl rfl) ?_
  unfold law09_shown at h
  unfold ac_law09_shown
  refine l_sub (s0 := ⟨T [], G []⟩) (sbr rfl rfl) ?_
  refine lr (fun u1 hu1 => sn rfl rfl (s_nil (lr (fun u2 hu2 => sv rfl (sv rfl (s_val (dl eMate [(Mate.mk 0 50000 1000 4000 0 (Guess.mk 0 0) false 0 (Guess.mk 0 0) 0), (Mate.mk 0 40000 1000 4000 0 (Guess.mk 0 0) false 0 (Guess.mk 0 0) 0)]) rfl (v_dsliceN eMate ([(Mate.mk 0 50000 1000 4000 0 (Guess.mk 0 0) false 0 (Guess.mk 0 0) 0), (Mate.mk 0 40000 1000 4000 0 (Guess.mk 0 0) false 0 (Guess.mk 0 0) 0)] : List Mate) (fun _ => rfl) rfl rfl ⟨rfl, rfl, rfl, rfl, rfl, rfl, trivial⟩) (bs h fun v1 hv1 h => s_call rfl rfl all2_refl (convoy_New_ok _ _  _ hv1) (.inl rfl) (sv rfl (sv rfl (sv rfl (sn rfl rfl (sst rfl G_hit (dConvoy v1.1) rfl (sv rfl (s_nil (l_seq (lr (fun u3 hu3 => sv rfl (sv rfl (sv rfl (gp rfl (gw_f rfl) (fun _ => rfl) (gf rfl (vl rfl G_hit rfl) (gf rfl (fun w3 => (v_len (gd_pos w3))) (gf rfl (vb rfl rfl rfl) (sd rfl (v_or rfl rfl (fun hc => gd_pos (not_t hc))) (s_nil (cc rfl h (fun c1 h => ?_) (fun c1 h => ?_)))))))))))))))))))))))))))
  · refine lr (fun u4 hu4 => sv rfl (sst rfl (gq rfl) [(di 0), (di 0), (.d .nilS), (di 0), (di 0), (di 0), (di 0), (di 0), (di 0), (di 0), (di 0), (di 0), (di 0)] rfl (s_nil (l_ret ?_))))
    obtain rfl := Option.some.inj h
    exact fin_ok (.inr rfl) (resD1 (res_cellG rfl G_hit (nl rfl) rfl) rf_d) (.agg (.cons ⟨(.refl _), rfl⟩ (.cons ⟨(.refl _), rfl⟩ (.cons ⟨DLe.nil, rfl⟩ (.cons ⟨(.refl _), rfl⟩ (.cons ⟨(.refl _), rfl⟩ (.cons ⟨(.refl _), rfl⟩ (.cons ⟨(.refl _), rfl⟩ (.cons ⟨(.refl _), rfl⟩ (.cons ⟨(.refl _), rfl⟩ (.cons ⟨(.refl _), rfl⟩ (.cons ⟨(.refl _), rfl⟩ (.cons ⟨(.refl _), rfl⟩ (.cons ⟨(.refl _), rfl⟩ .nil))))))))))))))
  · refine l_skip (lr (fun u5 hu5 => sd rfl (v_loadG rfl G_hit rfl rfl) (sst rfl (gq rfl) (dConvoy v1.1) rfl (s_nil (l_ret ?_)))))
    obtain rfl := Option.some.inj h
    exact fin_ok (.inr rfl) (resD1 (res_cellG rfl G_hit (nl rfl) rfl) rf_d) (.refl _)

noncomputable def convoy_Gaps_l1 (p1 : Convoy) (x1 : ((List Int) × Int)) : Option (Stp ((List Int) × Int) (List Int)) :=
  cond (decide (x1.2 < (p1.Mates.length : Int))) ((geti p1.Mates (w64 (x1.2 - 1))).bind fun v2 => (convoy_rear v2).bind fun v3 => (geti p1.Mates x1.2).bind fun v4 => (appc x1.1 [(w64 (v3 - v4.S))]).bind fun v5 => some (.go (v5, (w64 (x1.2 + 1))))) (some (.out x1.1))
noncomputable def convoy_Gaps (p1 : Convoy) : Option (List Int) :=
  (convoy_Check p1).bind fun v1 => cond (v1 != 0) (some []) ((loop (convoy_Gaps_l1 p1) ([], 1)).bind fun y1 => some y1)

/-- kerbstone/convoy.Gaps -/
def ac_convoy_Gaps : AC := (.seq (.reg [oo 1 (.box 38 true (.t 0)), oo 2 (.mv (.c .nilS))]) (.seq (.seq (.reg [oo 5 (.load 13 true (.t 1)), oo 6 (.call (cf 32) [(.t 5)]), oo 7 (.bin .neq (.t 6) (ci 0))]) (.cond (.t 7) (.seq (.reg [oo 2 (.mv (.c .nilS))]) .ret) .skip)) (.seq (.reg [oo 3 (.mv (.c .nilS))]) (.seq (.seq (.reg [oo 4 (.mv (ci 1))]) (.block 0 (.loop (.seq (.seq (.reg [oo 8 (.mv (.t 4)), oo 9 (.fieldA 2 (.t 1)), oo 10 (.load 1 false (.t 9)), oo 11 (.len (.t 10)), oo 12 (.bin .lss (.t 8) (.t 11))]) (.cond (.t 12) .skip (.exit 0))) (.seq (.block 1 (.draw [oo 15 (.mv (.t 3)), oo 16 (.fieldA 2 (.t 1)), oo 17 (.load 1 false (.t 16)), oo 18 (.mv (.t 4)), oo 19 (.bin .sub (.t 18) (ci 1)), oo 20 (.idxS 12 (.t 17) (.t 19)), oo 21 (.load 12 true (.t 20)), oo 22 (.call (cf 67) [(.t 21)]), oo 23 (.fieldA 2 (.t 1)), oo 24 (.load 1 false (.t 23)), oo 25 (.mv (.t 4)), oo 26 (.idxS 12 (.t 24) (.t 25)), oo 27 (.fieldA 1 (.t 26)), oo 28 (.load 1 false (.t 27)), oo 29 (.bin .sub (.t 22) (.t 28)), oo 30 (.dslice 2 1 1 [z0] [(0, 1, (.t 29))]), oo 31 (.append 39 2 1 (.t 15) (.t 30)), oo 3 (.mv (.t 31))] [])) (.reg [oo 13 (.mv (.t 4)), oo 14 (.bin .add (.t 13) (ci 1)), oo 4 (.mv (.t 14))])))))) (.seq (.reg [oo 32 (.mv (.t 3)), oo 2 (.mv (.t 32))]) .ret)))))
theorem fn_convoy_Gaps : FnOK Try.prog 37 33 [.t 2] ac_convoy_Gaps := ⟨_, _, Try.func37, rfl, Try.ntmps37, by kernel_rfl, ⟨fun r => if r == 7 then [1015] else [], by kernel_rfl⟩, by kernel_rfl⟩
set_option maxHeartbeats 4000000 in
theorem convoy_Gaps_ok (p1 : Convoy) (r : (List Int)) (h : convoy_Gaps p1 = some r) : PCall Try.prog 37 [(.agg (eConvoy p1))] (.list (List.map eInt_i64 r)) := by
  refine l_call fn_convoy_Gaps (nl rfl) ?_
  unfold convoy_Gaps at h
  unfold ac_convoy_Gaps
  refine l_sub (s0 := ⟨T [(0, (.d _))], G []⟩) (sbr rfl rfl) ?_
  refine lr (fun u1 hu1 => sn rfl rfl (sv rfl (s_nil (l_seq (lr (fun u2 hu2 => sd rfl (v_loadG rfl G_hit rfl rfl) (bs h fun v1 hv1 h => s_call rfl rfl all2_refl (convoy_Check_ok _  _ hv1) (.inl rfl) (sv rfl (s_nil (cc rfl h (fun c1 h => ?_) (fun c1 h => ?_)))))))))))
  · refine lr (fun u3 hu3 => sv rfl (s_nil (l_ret ?_)))
    obtain rfl := Option.some.inj h
    exact fin_ok (.inr rfl) (resD1 (res_t rfl) rf_d) DLe.nil
  · refine l_skip (lr (fun u4 hu4 => sv rfl (s_nil (l_seq (lr (fun u5 hu5 => sv rfl (s_nil (bs h fun y1 hy1 h => l_join (fun s => ∃ g1 : Nat, Sb ⟨T [(3, (oS y1 (31, g1)))], G [((31, g1), oB 2 1 eInt_i64 y1)]⟩ s) ?_ ?_))))))))
    · refine l_block (l_loop (convoy_Gaps_l1 p1) (fun (x1 : ((List Int) × Int)) (g2 : Nat) => ⟨T [(1, (.ptr (1, u1) 0)), (3, (oS x1.1 (31, g2))), (4, (di x1.2))], G [((1, u1), some (.box 38 (dConvoy p1))), ((31, g2), oB 2 1 eInt_i64 x1.1)]⟩) ([], 1) 0 _ hy1 (sb_of ⟨.of rfl, .of rfl, .of rfl, trivial⟩ (sbG_some G_hit (.of rfl) (sbG_nil trivial))) ?_)
      intro x1 g2 z1 hz1 ez1
      unfold convoy_Gaps_l1 at hz1
      refine l_seq (lr (fun u6 hu6 => sv rfl (sp rfl rfl (sl rfl G_hit rfl (sd rfl (v_len rfl) (sv rfl (s_nil (cc rfl hz1 (fun c2 hz1 => ?_) (fun c2 hz1 => ?_)))))))))
      · refine l_skip (l_seq (l_block (l_draw rfl fun u7 hu7 => s_val (oS x1.1 (31, g2)) rfl rfl (sp rfl rfl (sl rfl G_hit rfl (sv rfl (sv rfl (bs hz1 fun v2 hv2 hz1 => sd rfl (v_idx rfl rfl hv2 rfl) (sd rfl (v_loadLG rfl hv2 rfl rfl) (bs hz1 fun v3 hv3 hz1 => s_call rfl rfl all2_refl (convoy_rear_ok _  _ hv3) (.inl rfl) (sp rfl rfl (sl rfl G_hit rfl (sv rfl (bs hz1 fun v4 hv4 hz1 => sd rfl (v_idx rfl rfl hv4 rfl) (sv rfl (sd rfl (v_loadL rfl hv4 rfl) (sv rfl (s_val (dl eInt_i64 [(w64 (v3 - v4.S))]) rfl rfl (bs hz1 fun v5 hv5 hz1 => s_appendO eInt_i64 (31, g2) x1.1 (w64 (v3 - v4.S)) [] _ (elems_list (fun _ => rfl)) rfl (gq rfl) hv5 (ss rfl (s_nil (l_end (l_sub (s0 := ⟨T [(1, (.ptr _ _)), (3, (.sl _)), (4, (.d _))], G [((1, u1), some (.box 38 _)), ((31, u7), some _)]⟩) (sbr rfl rfl) ?_)))))))))))))))))))))))
        refine l_reg fun u8 hu8 => sv rfl (sv rfl (sv rfl (s_nil (l_nil ?_))))
        obtain rfl := Option.some.inj hz1
        exact ⟨rfl, u7, (sb_of ⟨.of rfl, (.of (oS_ne (appc_ne hv5)).symm), .of rfl, trivial⟩ (sbG_some G_hit (.of rfl) (sbG_own (gq rfl) trivial)))⟩
      · refine l_exitN rfl ?_
        obtain rfl := Option.some.inj hz1
        obtain rfl := ez1 _ rfl
        refine ⟨nofun, awl_pop rfl (l_j ?_)⟩
        exact ⟨g2, (sb_of ⟨.of rfl, trivial⟩ (sbG_oB (gq rfl) trivial))⟩
    · rintro _ ⟨g1, q1⟩
      refine l_sub q1 (lr (fun u9 hu9 => s_val (oS y1 (31, g1)) rfl rfl (s_val (oS y1 (31, g1)) rfl rfl (s_nil (l_ret ?_)))))
      obtain rfl := Option.some.inj h
      exact fin_ok (.inr rfl) (resD1 (res_t rfl) (rf_oS G_hit)) oD_le

noncomputable def kit_SameLongs_l1 (p1 : (List Int)) (p2 : (List Int)) (x1 : Int) : Option (Stp Int (Sum Unit Bool)) :=
  cond ((decide (x1 < (p1.length : Int))) && (decide (x1 < (p2.length : Int)))) ((geti p1 x1).bind fun v1 => (geti p2 x1).bind fun v2 => cond (v1 != v2) (some (.out (.inr false))) (some (.go (w64 (x1 + 1))))) (some (.out (.inl ())))
noncomputable def kit_SameLongs (p1 : (List Int)) (p2 : (List Int)) : Option Bool :=
  thenS (loop (kit_SameLongs_l1 p1 p2) 0) (fun _ => some ((p1.length : Int) == (p2.length : Int))) (fun r => some r)

/-- kerbstone/kerbstonekit.SameLongs -/
def ac_kit_SameLongs : AC := (.seq (.reg [oo 4 (.mv (.c zf))]) (.seq (.seq (.reg [oo 5 (.mv (ci 0))]) (.block 0 (.loop (.seq (.seq (.reg [oo 6 (.mv (.t 5)), oo 7 (.mv (.t 0)), oo 8 (.len (.t 7)), oo 9 (.bin .lss (.t 6) (.t 8)), oo 10 (.mv (.t 9)), og 11 (.mv (.t 5)) 10, og 12 (.mv (.t 1)) 10, og 13 (.len (.t 12)) 10, og 14 (.bin .lss (.t 11) (.t 13)) 10, oo 15 (.pick (.t 10) (.t 14) (.c zf))]) (.cond (.t 15) .skip (.exit 0))) (.seq (.block 1 (.seq (.draw [oo 18 (.mv (.t 0)), oo 19 (.mv (.t 5)), oo 20 (.idxS 1 (.t 18) (.t 19)), oo 21 (.load 1 false (.t 20)), oo 22 (.mv (.t 1)), oo 23 (.mv (.t 5)), oo 24 (.idxS 1 (.t 22) (.t 23)), oo 25 (.load 1 false (.t 24)), oo 26 (.bin .neq (.t 21) (.t 25))] []) (.cond (.t 26) (.seq (.reg [oo 4 (.mv (.c zf))]) .ret) .skip))) (.reg [oo 16 (.mv (.t 5)), oo 17 (.bin .add (.t 16) (ci 1)), oo 5 (.mv (.t 17))])))))) (.seq (.reg [oo 27 (.mv (.t 0)), oo 28 (.len (.t 27)), oo 29 (.mv (.t 1)), oo 30 (.len (.t 29)), oo 31 (.bin .eql (.t 28) (.t 30)), oo 4 (.mv (.t 31))]) .ret)))
theorem fn_kit_SameLongs : FnOK Try.prog 36 32 [.t 4] ac_kit_SameLongs := ⟨_, _, Try.func36, rfl, Try.ntmps36, by kernel_rfl, ⟨fun _ => [], by kernel_rfl⟩, by kernel_rfl⟩
set_option maxHeartbeats 4000000 in
theorem kit_SameLongs_ok (p1 : (List Int)) (p2 : (List Int)) (r : Bool) (h : kit_SameLongs p1 p2 = some r) : PCall Try.prog 36 [(.list (List.map eInt_i64 p1)), (.list (List.map eInt_i64 p2))] (bo r) := by
  refine l_call fn_kit_SameLongs (nl rfl) ?_
  unfold kit_SameLongs at h
  unfold ac_kit_SameLongs
  refine l_sub (s0 := ⟨T [(0, (.d _)), (1, (.d _))], G []⟩) (sbr rfl rfl) ?_
  refine lr (fun u1 hu1 => sv rfl (s_nil (l_seq (lr (fun u2 hu2 => sv rfl (s_nil (js h fun z1 hz1 h => l_join (fun s => ∃ (y1 : Unit) (g1 : Unit), z1 = .inl y1 ∧ Sb ⟨T [(0, (dl eInt_i64 p1)), (1, (dl eInt_i64 p2))], G []⟩ s) ?_ ?_)))))))
  · refine l_block (l_loop (kit_SameLongs_l1 p1 p2) (fun (x1 : Int) (g2 : Unit) => ⟨T [(0, (dl eInt_i64 p1)), (1, (dl eInt_i64 p2)), (5, (di x1))], G []⟩) 0 () _ hz1 (sbr rfl rfl) ?_)
    intro x1 g2 z2 hz2 ez2
    unfold kit_SameLongs_l1 at hz2
    refine l_seq (lr (fun u3 hu3 => sv rfl (sv rfl (sd rfl (v_len rfl) (sv rfl (sv rfl (gt rfl (fun _ => rfl) (gt rfl (fun _ => rfl) (gt rfl (fun w3 => (v_len (gd_pos w3))) (gt rfl (fun w4 => (v_bin (gd_pos w4) (gd_pos w4) rfl)) (sa rfl rfl rfl (s_nil (cc rfl hz2 (fun c1 hz2 => ?_) (fun c1 hz2 => ?_))))))))))))))
    · refine l_skip (l_seq (l_block (l_seq (l_draw rfl fun u4 hu4 => sv rfl (sv rfl (bs hz2 fun v1 hv1 hz2 => sd rfl (v_idx rfl rfl hv1 rfl) (sd rfl (v_loadL rfl hv1 rfl) (sv rfl (sv rfl (bs hz2 fun v2 hv2 hz2 => sd rfl (v_idx rfl rfl hv2 rfl) (sd rfl (v_loadL rfl hv2 rfl) (sv rfl (s_nil (cc rfl hz2 (fun c2 hz2 => ?_) (fun c2 hz2 => ?_)))))))))))))))
      · refine lr (fun u5 hu5 => sv rfl (s_nil (l_ret ?_)))
        obtain rfl := Option.some.inj hz2
        obtain rfl := ez2 _ rfl
        refine ⟨nofun, awl_ret ?_⟩
        rw [Sum.elim_inr] at h
        obtain rfl := Option.some.inj h
        exact fin_ok (.inr rfl) (resD1 (res_t rfl) rf_d) (.refl _)
      · refine l_skip (l_end (l_reg fun u6 hu6 => sv rfl (sv rfl (sv rfl (s_nil (l_nil ?_))))))
        obtain rfl := Option.some.inj hz2
        exact ⟨rfl, (), (sbr rfl rfl)⟩
    · refine l_exitN rfl ?_
      obtain rfl := Option.some.inj hz2
      obtain rfl := ez2 _ rfl
      refine ⟨nofun, awl_pop rfl (l_j ?_)⟩
      exact ⟨_, (), rfl, (sbr rfl rfl)⟩
  · rintro _ ⟨y1, g1, rfl, q1⟩
    rw [Sum.elim_inl] at h
    refine l_sub q1 (lr (fun u7 hu7 => sv rfl (sd rfl (v_len rfl) (sv rfl (sd rfl (v_len rfl) (sv rfl (sv rfl (s_nil (l_ret ?_)))))))))
    obtain rfl := Option.some.inj h
    exact fin_ok (.inr rfl) (resD1 (res_t rfl) rf_d) (.refl _)

noncomputable def law09_awake : Option Bool :=
  (law09_shown).bind fun v1 => ((cond ((v1.Mates.length : Int) == 2) (convoy_Age (Guess.mk 0 200) 2) (some default))).bind fun v2 => ((cond (((v1.Mates.length : Int) == 2) && (v2.R == 130 && (v2.V == 20 && true))) (convoy_Sound v1) (some default))).bind fun v3 => ((cond ((((v1.Mates.length : Int) == 2) && (v2.R == 130 && (v2.V == 20 && true))) && v3) (convoy_Gaps v1) (some default))).bind fun v4 => ((cond ((((v1.Mates.length : Int) == 2) && (v2.R == 130 && (v2.V == 20 && true))) && v3) (kit_SameLongs v4 [6000]) (some default))).bind fun v5 => ((cond (((((v1.Mates.length : Int) == 2) && (v2.R == 130 && (v2.V == 20 && true))) && v3) && v5) (convoy_Safe 0 191 1000 (Guess.mk 1000 100)) (some default))).bind fun v6 => some ((((((v1.Mates.length : Int) == 2) && (v2.R == 130 && (v2.V == 20 && true))) && v3) && v5) && (!v6))

/-- kerbstone/kerbstonelaw09.awake -/
def ac_law09_awake : AC := (.seq (.reg [oo 0 (.mv (.c zf))]) (.seq (.reg [oo 2 (.call (cf 57) []), oo 1 (.alloc 38 [z0, z0, .nilS, z0, z0, z0, z0, z0, z0, z0, z0, z0, z0]), oe (.store 13 (.t 1) (.t 2))]) (.seq (.reg [oo 3 (.fieldA 2 (.t 1)), oo 4 (.load 1 false (.t 3)), oo 5 (.len (.t 4)), oo 6 (.bin .eql (.t 5) (ci 2)), oo 7 (.mv (.t 6)), og 8 (.build [z0, z0] [(1, 1, (ci 200))]) 7, og 9 (.call (cf 15) [(.t 8), (ci 2)]) 7, og 10 (.build [z0, z0] [(0, 1, (ci 130)), (1, 1, (ci 20))]) 7, og 11 (.eqA false [false, false] (.t 9) (.t 10)) 7, oo 12 (.pick (.t 7) (.t 11) (.c zf)), oo 13 (.mv (.t 12)), og 14 (.load 13 true (.t 1)) 13, og 15 (.call (cf 34) [(.t 14)]) 13, oo 16 (.pick (.t 13) (.t 15) (.c zf)), oo 17 (.mv (.t 16)), og 18 (.load 13 true (.t 1)) 17, og 19 (.call (cf 37) [(.t 18)]) 17, og 20 (.dslice 2 1 1 [z0] [(0, 1, (ci 6000))]) 17, og 21 (.call (cf 36) [(.t 19), (.t 20)]) 17, oo 22 (.pick (.t 17) (.t 21) (.c zf)), oo 23 (.mv (.t 22)), og 24 (.build [z0, z0] [(0, 1, (ci 1000)), (1, 1, (ci 100))]) 23, og 25 (.call (cf 21) [(ci 0), (ci 191), (ci 1000), (.t 24)]) 23, og 26 (.un .not (.t 25)) 23, oo 27 (.pick (.t 23) (.t 26) (.c zf)), oo 0 (.mv (.t 27))]) .ret)))
theorem fn_law09_awake : FnOK Try.prog 23 28 [.t 0] ac_law09_awake := ⟨_, _, Try.func23, rfl, Try.ntmps23, by kernel_rfl, ⟨fun r => if r == 2 then [1017] else [], by kernel_rfl⟩, by kernel_rfl⟩
theorem law09_awake_ok (r : Bool) (h : law09_awake = some r) : PCall Try.prog 23 [] (bo r) := by
  refine l_call fn_law09_awake (nl rfl) ?_
  unfold law09_awake at h
  unfold ac_law09_awake
  refine l_sub (s0 := ⟨T [], G []⟩) (sbr rfl rfl) ?_
  refine lr (fun u1 hu1 => sv rfl (s_nil (lr (fun u2 hu2 => bs h fun v1 hv1 h => s_call rfl rfl all2_refl (law09_shown_ok  _ hv1) (.inl rfl) (sn rfl rfl (sst rfl G_hit (dConvoy v1) rfl (s_nil (lr (fun u3 hu3 => sp rfl rfl (sl rfl G_hit rfl (sd rfl (v_len rfl) (sv rfl (sv rfl (gt rfl (fun _ => rfl) (bs h fun v2 hv2 h => ?_)))))))))))))))
  refine g_call _ (.agg [(i64 v2.R), (i64 v2.V)]) (gw_t rfl) (fun w2 => ⟨_, [(.d (.agg [(i64 0), (i64 200)])), (di 2)], _, _, (by simp only [gd_pos w2]; rfl), rfl, all2_refl, convoy_Age_ok _ _  _ (cond_t w2 hv2), (.inl rfl)⟩) ?_
  refine gt rfl (fun _ => rfl) ?_
  refine g_val _ (.d (bo (v2.R == 130 && (v2.V == 20 && true)))) rfl (gw_t rfl) (fun w4 => (by simp only [gd_pos w4]; rfl)) ?_
  refine sa rfl rfl rfl (sv rfl (gt rfl (fun w5 => (v_loadG rfl G_hit rfl rfl)) (bs h fun v3 hv3 h => ?_)))
  refine g_call _ (bo v3) (gw_t rfl) (fun w6 => ⟨_, [(.d (.agg (eConvoy v1)))], _, _, (by simp only [gd_pos w6]; rfl), rfl, all2_refl, convoy_Sound_ok _  _ (cond_t w6 hv3), (.inl rfl)⟩) ?_
  refine sa rfl rfl rfl (sv rfl (gt rfl (fun w7 => (v_loadG rfl G_hit rfl rfl)) (bs h fun v4 hv4 h => ?_)))
  refine g_call _ (.list (List.map eInt_i64 v4)) (gw_t rfl) (fun w8 => ⟨_, [(.d (.agg (eConvoy v1)))], _, _, (by simp only [gd_pos w8]; rfl), rfl, all2_refl, convoy_Gaps_ok _  _ (cond_t w8 hv4), (.inl rfl)⟩) ?_
  refine g_val _ (dl eInt_i64 [6000]) rfl (gw_t rfl) (fun _ => rfl) (bs h fun v5 hv5 h => ?_)
  refine g_call _ (bo v5) (gw_t rfl) (fun w10 => ⟨_, [(dl eInt_i64 v4), (dl eInt_i64 [6000])], _, _, (by simp only [gd_pos w10]; rfl), rfl, all2_refl, kit_SameLongs_ok _ _  _ (cond_t w10 hv5), (.inl rfl)⟩) ?_
  refine sa rfl rfl rfl (sv rfl (gt rfl (fun _ => rfl) (bs h fun v6 hv6 h => ?_)))
  refine g_call _ (bo v6) (gw_t rfl) (fun w12 => ⟨_, [(di 0), (di 191), (di 1000), (.d (.agg [(i64 1000), (i64 100)]))], _, _, (by simp only [gd_pos w12]; rfl), rfl, all2_refl, convoy_Safe_ok _ _ _ _  _ (cond_t w12 hv6), (.inl rfl)⟩) ?_
  refine g_val _ (.d (bo (!v6))) rfl (gw_t rfl) (fun w13 => (by simp only [gd_pos w13]; rfl)) ?_
  refine sa rfl rfl rfl (sv rfl (s_nil (l_ret ?_)))
  obtain rfl := Option.some.inj h
  exact fin_ok (.inr rfl) (resD1 (res_t rfl) rf_d) (.refl _)

noncomputable def law09_ConvoyGaps_l1 (x1 : (Int × KitRing × Convoy × KitPost)) : Option (Stp (Int × KitRing × Convoy × KitPost) (Sum Convoy Bool)) :=
  cond (decide (x1.1 > 0)) ((law09_kept x1.2.2.1).bind fun v4 => cond (!v4) (some (.out (.inr false))) ((convoy_Notes x1.2.2.1).bind fun v5 => (kit_Post_Send_o x1.2.2.2 v5 x1.2.2.1.Tick).bind fun v6 => (law09_wanted_o x1.2.1 (w64 ((x1.2.2.1.Mates.length : Int) + 1))).bind fun v7 => (kit_Post_Deliver_o_o v6 v7.2 x1.2.2.1.Tick).bind fun v8 => (law09_looks_o v8.2 x1.2.2.1 false).bind fun v9 => (convoy_Step x1.2.2.1 v7.1 v8.1 v9.1).bind fun v10 => cond ((((v10.2 != 0) || (v10.1.Tick != (w64 (x1.2.2.1.Tick + 1)))) || (decide ((v10.1.Mates.length : Int) < (x1.2.2.1.Mates.length : Int)))) || (decide ((v10.1.Mates.length : Int) > (w64 ((x1.2.2.1.Mates.length : Int) + 1))))) (some (.out (.inr false))) (some (.go ((w64 (x1.1 - 1)), v9.2, v10.1, v6))))) (some (.out (.inl x1.2.2.1)))
noncomputable def law09_ConvoyGaps (p1 : (List Int)) (p2 : Int) : Option Bool :=
  (kit_NewRing_m p1).bind fun v1 => (kit_Convoy_o v1 (decide (((p1.length : Int).tmod 3) > 0))).bind fun v2 => (kit_Mod p2 61).bind fun v3 => thenS (loop (law09_ConvoyGaps_l1) (v3, v2.2, v2.1, (KitPost.mk []))) (fun y1 => (law09_kept y1).bind fun v11 => ((cond v11 (law09_awake) (some default))).bind fun v12 => some (v11 && v12)) (fun r => some r)

/-- kerbstone/kerbstonelaw09.ConvoyGaps -/
def ac_law09_ConvoyGaps : AC := (.seq (.reg [oo 4 (.mv (.c zf))]) (.seq (.reg [oo 11 (.mv (.t 0)), oo 12 (.ocall 10010010 (cf 30) [(.t 11)]), oo 5 (.mv (.t 12))]) (.seq (.reg [oo 13 (.mv (.t 5)), oo 14 (.mv (.t 0)), oo 15 (.len (.t 14)), oo 16 (.bin .rem (.t 15) (ci 3)), oo 17 (.bin .gtr (.t 16) (ci 0)), oo 18 (.ocall 10020050 (cf 29) [(.t 13), (.t 17)]), oo 6 (.alloc 38 [z0, z0, .nilS, z0, z0, z0, z0, z0, z0, z0, z0, z0, z0]), oe (.store 13 (.t 6) (.t 18))]) (.seq (.reg [oo 7 (.alloc 76 [.nilS])]) (.seq (.seq (.reg [oo 19 (.mv (.t 1)), oo 20 (.call (cf 26) [(.t 19), (ci 61)]), oo 8 (.mv (.t 20))]) (.block 0 (.loop (.seq (.seq (.reg [oo 21 (.mv (.t 8)), oo 22 (.bin .gtr (.t 21) (ci 0))]) (.cond (.t 22) .skip (.exit 0))) (.seq (.block 1 (.seq (.seq (.reg [oo 25 (.load 13 true (.t 6)), oo 26 (.call (cf 53) [(.t 25)]), oo 27 (.un .not (.t 26))]) (.cond (.t 27) (.seq (.reg [oo 4 (.mv (.c zf))]) .ret) .skip)) (.seq (.draw [oo 28 (.load 13 true (.t 6)), oo 29 (.call (cf 40) [(.t 28)]), oo 30 (.fieldA 0 (.t 6)), oo 31 (.load 1 false (.t 30)), oo 32 (.ocall 10090040 (cf 54) [(.t 7), (.t 29), (.t 31)])] []) (.seq (.draw [oo 34 (.load 13 true (.t 6)), oo 35 (.mv (.t 5)), oo 36 (.fieldA 2 (.t 6)), oo 37 (.load 1 false (.t 36)), oo 38 (.len (.t 37)), oo 39 (.bin .add (.t 38) (ci 1)), oo 40 (.ocall 10100060 (cf 51) [(.t 35), (.t 39)]), oo 41 (.mv (.t 5)), oo 42 (.fieldA 0 (.t 6)), oo 43 (.load 1 false (.t 42)), oo 44 (.ocall 10100100 (cf 55) [(.t 7), (.t 41), (.t 43)]), oo 45 (.mv (.t 5)), oo 46 (.load 13 true (.t 6)), oo 47 (.ocall 10100130 (cf 52) [(.t 45), (.t 46), (.c zf)]), oo 48 (.call (cf 50) [(.t 34), (.t 40), (.t 44), (.t 47)]), oo 33 (.mv (.t 48)), oo 49 (.ext (.t 33) 0), oo 50 (.ext (.t 33) 1), oo 9 (.alloc 38 [z0, z0, .nilS, z0, z0, z0, z0, z0, z0, z0, z0, z0, z0]), oe (.store 13 (.t 9) (.t 49)), oo 10 (.mv (.t 50))] [(0, 6), (6, 9), (0, 10), (6, 12), (10, 12), (0, 13), (6, 18), (10, 18), (13, 18)]) (.seq (.seq (.reg [oo 51 (.mv (.t 10)), oo 52 (.bin .neq (.t 51) (ci 0)), oo 53 (.mv (.t 52)), oh 54 (.fieldA 0 (.t 9)) 53, oh 55 (.load 1 false (.t 54)) 53, oh 56 (.fieldA 0 (.t 6)) 53, oh 57 (.load 1 false (.t 56)) 53, oh 58 (.bin .add (.t 57) (ci 1)) 53, oh 59 (.bin .neq (.t 55) (.t 58)) 53, oo 60 (.pick (.t 53) (.c (.v (.bool true))) (.t 59)), oo 61 (.mv (.t 60)), oh 62 (.fieldA 2 (.t 9)) 61, oh 63 (.load 1 false (.t 62)) 61, oh 64 (.len (.t 63)) 61, oh 65 (.fieldA 2 (.t 6)) 61, oh 66 (.load 1 false (.t 65)) 61, oh 67 (.len (.t 66)) 61, oh 68 (.bin .lss (.t 64) (.t 67)) 61, oo 69 (.pick (.t 61) (.c (.v (.bool true))) (.t 68)), oo 70 (.mv (.t 69)), oh 71 (.fieldA 2 (.t 9)) 70, oh 72 (.load 1 false (.t 71)) 70, oh 73 (.len (.t 72)) 70, oh 74 (.fieldA 2 (.t 6)) 70, oh 75 (.load 1 false (.t 74)) 70, oh 76 (.len (.t 75)) 70, oh 77 (.bin .add (.t 76) (ci 1)) 70, oh 78 (.bin .gtr (.t 73) (.t 77)) 70, oo 79 (.pick (.t 70) (.c (.v (.bool true))) (.t 78))]) (.cond (.t 79) (.seq (.reg [oo 4 (.mv (.c zf))]) .ret) .skip)) (.reg [oo 80 (.load 13 true (.t 9)), oe (.store 13 (.t 6) (.t 80))])))))) (.reg [oo 23 (.mv (.t 8)), oo 24 (.bin .sub (.t 23) (ci 1)), oo 8 (.mv (.t 24))])))))) (.seq (.reg [oo 81 (.load 13 true (.t 6)), oo 82 (.call (cf 53) [(.t 81)]), oo 83 (.mv (.t 82)), og 84 (.call (cf 23) []) 83, oo 85 (.pick (.t 83) (.t 84) (.c zf)), oo 4 (.mv (.t 85))]) .ret))))))
theorem fn_law09_ConvoyGaps : FnOK Try.prog 9 86 [.t 4] ac_law09_ConvoyGaps := ⟨_, _, Try.func9, rfl, Try.ntmps9, by kernel_rfl, ⟨fun r => if r == 1 then [1001001] else if r == 2 then [1002005] else if r == 9 then [1009004] else if r == 10 then [1010006, 1010010, 1010013] else [], by kernel_rfl⟩, by kernel_rfl⟩
set_option maxHeartbeats 4000000 in
theorem law09_ConvoyGaps_ok (p1 : (List Int)) (p2 : Int) (r : Bool) (h : law09_ConvoyGaps p1 p2 = some r) : PCall Try.prog 9 [(.list (List.map eInt_i64 p1)), (i64 p2)] (bo r) := by
  refine l_call fn_law09_ConvoyGaps (nl rfl) ?_
  unfold law09_ConvoyGaps at h
  unfold ac_law09_ConvoyGaps
  refine l_sub (s0 := ⟨T [(0, (.d _)), (1, (.d _))], G []⟩) (sbr rfl rfl) ?_
  refine lr (fun u1 hu1 => sv rfl (s_nil (lr (fun u2 hu2 => sv rfl (bs h fun v1 hv1 h => s_oc (v := .ptr (10010010, u2) 0) (us := [(10010010, u2)]) (oc_m (kit_NewRing_m_ok _ _ hv1) [] [] _ (((10010010, u2), some (.box 94 [(dl eInt_i64 v1.l), (di v1.at_)])) :: _) rfl all2_av rfl live_nil trivial (fun _ h => h) List.nodup_nil rfl rfl rfl) (sp rfl rfl (s_nil (lr (fun u3 hu3 => sp rfl rfl (sv rfl (sd rfl (v_len rfl) (sv rfl (sv rfl (bs h fun v2 hv2 h => s_oc (v := .d (.agg (eConvoy v2.1))) (us := [(10010010, u2)]) (oc_m (kit_Convoy_o_ok _ _ _ hv2) [(10010010, u2)] [(10010010, u2)] _ (((10010010, u2), some (.box 94 [(dl eInt_i64 v2.2.l), (di v2.2.at_)])) :: _) rfl all2_av (kl_cons (kr_ptr G_hit rfl) (kl_cons kr_d kl_nil)) (live_cons G_hit live_nil) ⟨⟨_, G_hit, .of rfl⟩, trivial⟩ (fun _ h => h) nd1 rfl rfl rfl) (sn rfl rfl (sst rfl G_hit (dConvoy v2.1) rfl (s_nil (lr (fun u4 hu4 => sn rfl rfl (s_nil (l_seq (lr (fun u5 hu5 => sv rfl (bs h fun v3 hv3 h => s_call rfl rfl all2_refl (kit_Mod_ok _ _  _ hv3) (.inl rfl) (sv rfl (s_nil (js h fun z1 hz1 h => l_join (fun s => ∃ (y1 : Convoy) (g1 : Unit), z1 = .inl y1 ∧ Sb ⟨T [(6, (.ptr (6, u3) 0))], G [((6, u3), some (.box 38 (dConvoy y1)))]⟩ s) ?_ ?_)))))))))))))))))))))))))))
  · refine l_block (l_loop (law09_ConvoyGaps_l1) (fun (x1 : (Int × KitRing × Convoy × KitPost)) (g2 : Unit) => ⟨T [(5, (.ptr (10010010, u2) 0)), (6, (.ptr (6, u3) 0)), (7, (.ptr (7, u4) 0)), (8, (di x1.1))], G [((10010010, u2), some (.box 94 [(dl eInt_i64 x1.2.1.l), (di x1.2.1.at_)])), ((6, u3), some (.box 38 (dConvoy x1.2.2.1))), ((7, u4), some (.box 76 [(dl eNote x1.2.2.2.sent)]))]⟩) (v3, v2.2, v2.1, (KitPost.mk [])) () _ hz1 (sb_of ⟨.of rfl, .of rfl, .of rfl, .of rfl, trivial⟩ (sbG_some (gq rfl) (.of rfl) (sbG_some (gq rfl) (.of rfl) (sbG_some G_hit (.box (.cons (DLe.d DLe.nil) .nil)) trivial)))) ?_)
    intro x1 g2 z2 hz2 ez2
    unfold law09_ConvoyGaps_l1 at hz2
    refine l_seq (lr (fun u6 hu6 => sv rfl (sv rfl (s_nil (cc rfl hz2 (fun c1 hz2 => ?_) (fun c1 hz2 => ?_))))))
    · refine l_skip (l_seq (l_block (l_seq (lr (fun u7 hu7 => sd rfl (v_loadG rfl (gq rfl) rfl rfl) (bs hz2 fun v4 hv4 hz2 => s_call rfl rfl all2_refl (law09_kept_ok _  _ hv4) (.inl rfl) (s_val (.d (bo (!v4))) rfl rfl (s_nil (cc rfl hz2 (fun c2 hz2 => ?_) (fun c2 hz2 => ?_))))))))))
      · refine lr (fun u8 hu8 => sv rfl (s_nil (l_ret ?_)))
        obtain rfl := Option.some.inj hz2
        obtain rfl := ez2 _ rfl
        refine ⟨nofun, awl_ret ?_⟩
        rw [Sum.elim_inr] at h
        obtain rfl := Option.some.inj h
        exact fin_ok (.inr rfl) (resD1 (res_t rfl) rf_d) (.refl _)
      · refine l_skip (l_seq (l_draw rfl fun u9 hu9 => sd rfl (v_loadG rfl (gq rfl) rfl rfl) (bs hz2 fun v5 hv5 hz2 => s_call rfl rfl all2_refl (convoy_Notes_ok _  _ hv5) (.inl rfl) (sp rfl rfl (sl rfl (gq rfl) rfl (bs hz2 fun v6 hv6 hz2 => s_oc (v := .d (.tup [])) (us := [(7, u4)]) (oc_m (kit_Post_Send_o_ok _ _ _ _ hv6) [(7, u4)] [(7, u4)] _ (((7, u4), some (.box 76 [(dl eNote v6.sent)])) :: _) rfl all2_av (kl_cons (kr_ptr (G_skip rfl (G_skip rfl G_hit)) rfl) (kl_cons kr_d (kl_cons kr_d kl_nil))) (live_cons (G_skip rfl (G_skip rfl G_hit)) live_nil) ⟨⟨_, (G_skip rfl (G_skip rfl G_hit)), .of rfl⟩, trivial⟩ (fun _ h => h) nd1 rfl rfl rfl) (s_nil (l_seq (l_drawT fun u10 hu10 => t_val (.d _) rfl (v_loadG rfl (gq rfl) rfl rfl) (t_val (.ptr _ _) rfl rfl (t_val (.ptr _ _) rfl rfl (t_val (.d _) rfl (v_load rfl (gq rfl) rfl) (t_val (.d _) rfl (v_len rfl) (t_val (.d _) rfl rfl (bs hz2 fun v7 hv7 hz2 => t_oc (v := .d (.list (List.map eInt_i64 v7.1))) (us := [(10010010, u2)]) (oc_m (law09_wanted_o_ok _ _ _ hv7) [(10010010, u2)] [(10010010, u2)] _ (((10010010, u2), some (.box 94 [(dl eInt_i64 v7.2.l), (di v7.2.at_)])) :: _) rfl all2_av (kl_cons (kr_ptr (G_skip rfl G_hit) rfl) (kl_cons kr_d kl_nil)) (live_cons (G_skip rfl G_hit) live_nil) ⟨⟨_, (G_skip rfl G_hit), .of rfl⟩, trivial⟩ (fun _ h => h) nd1 rfl rfl rfl) (t_val (.ptr _ _) rfl rfl (t_val (.ptr _ _) rfl rfl (t_val (.d _) rfl (v_load rfl (gq rfl) rfl) (bs hz2 fun v8 hv8 hz2 => t_oc (v := .d (.list (List.map eNote v8.1))) (us := [(7, u4), (10010010, u2)]) (oc_m (kit_Post_Deliver_o_o_ok _ _ _ _ hv8) [(7, u4), (10010010, u2)] [(7, u4), (10010010, u2)] _ (((10010010, u2), some (.box 94 [(dl eInt_i64 v8.2.l), (di v8.2.at_)])) :: (((7, u4), some (.box 76 [(dl eNote v6.sent)])) :: _)) rfl all2_av (kl_cons (kr_ptr (G_skip rfl G_hit) rfl) (kl_cons (kr_ptr G_hit rfl) (kl_cons kr_d kl_nil))) (live_cons (G_skip rfl G_hit) (live_cons G_hit live_nil)) ⟨⟨_, (G_skip rfl G_hit), .of rfl⟩, ⟨_, G_hit, .of rfl⟩, trivial⟩ (fun _ h => h) (nd2 (key_ne rfl)) rfl rfl rfl) (t_val (.ptr _ _) rfl rfl (t_val (.d _) rfl (v_loadG rfl (gq rfl) rfl rfl) (bs hz2 fun v9 hv9 hz2 => t_oc (v := .d (.list (List.map eSight v9.1))) (us := [(10010010, u2)]) (oc_m (law09_looks_o_ok _ _ _ _ hv9) [(10010010, u2)] [(10010010, u2)] _ (((10010010, u2), some (.box 94 [(dl eInt_i64 v9.2.l), (di v9.2.at_)])) :: _) rfl all2_av (kl_cons (kr_ptr G_hit rfl) (kl_cons kr_d (kl_cons kr_d kl_nil))) (live_cons G_hit live_nil) ⟨⟨_, G_hit, .of rfl⟩, trivial⟩ (fun _ h => h) nd1 rfl rfl rfl) (bs hz2 fun v10 hv10 hz2 => t_call rfl rfl all2_refl (convoy_Step_ok _ _ _ _  _ hv10) (.inl rfl) (t_val (.d _) rfl rfl (t_val (.d _) rfl rfl (t_val (.d _) rfl rfl (t_new (.ptr _ _) (.box _ _) rfl rfl (t_store _ _ _ _ _ rfl rfl rfl G_hit (nl rfl) (dConvoy v10.1) rfl (t_val (.d _) rfl rfl (t_nil ⟨rfl, ?_⟩))))))))))))))))))))))))))))))
        refine l_seq (l_seq (l_sub (s0 := ⟨T [(5, (.ptr _ _)), (6, (.ptr _ _)), (7, (.ptr _ _)), (8, (.d _)), (9, (.ptr _ _)), (10, (.d _))], G [((10010010, u2), some (.box 94 _)), ((6, u3), some (.box 38 _)), ((7, u4), some (.box 76 _)), ((9, u10), some (.box 38 _))]⟩) (sbr rfl rfl) ?_))
        refine l_reg fun u11 hu11 => sv rfl (sv rfl (sv rfl (gp rfl (gw_f rfl) (fun _ => rfl) (gf rfl (vl rfl (gq rfl) rfl) (gp rfl (gw_f rfl) (fun _ => rfl) (gf rfl (vl rfl (gq rfl) rfl) (gf rfl (vb rfl rfl rfl) (gf rfl (fun w6 => (v_bin (gd_pos w6) (gd_pos w6) rfl)) (sd rfl (v_or rfl rfl (fun hc => gd_pos (not_t hc))) (sv rfl (gp rfl (gw_f rfl) (fun _ => rfl) (gf rfl (vl rfl (gq rfl) rfl) (gf rfl (fun w9 => (v_len (gd_pos w9))) (gp rfl (gw_f rfl) (fun _ => rfl) (gf rfl (vl rfl (gq rfl) rfl) (gf rfl (fun w12 => (v_len (gd_pos w12))) (gf rfl (fun w13 => (v_bin (gd_pos w13) (gd_pos w13) rfl)) (sd rfl (v_or rfl rfl (fun hc => gd_pos (not_t hc))) (sv rfl (gp rfl (gw_f rfl) (fun _ => rfl) (gf rfl (vl rfl (gq rfl) rfl) (gf rfl (fun w16 => (v_len (gd_pos w16))) (gp rfl (gw_f rfl) (fun _ => rfl) (gf rfl (vl rfl (gq rfl) rfl) (gf rfl (fun w19 => (v_len (gd_pos w19))) (gf rfl (vb rfl rfl rfl) (gf rfl (fun w21 => (v_bin (gd_pos w21) (gd_pos w21) rfl)) (sd rfl (v_or rfl rfl (fun hc => gd_pos (not_t hc))) (s_nil (cc rfl hz2 (fun c3 hz2 => ?_) (fun c3 hz2 => ?_)))))))))))))))))))))))))))))))
        · refine l_seq (l_sub (s0 := ⟨T [], G []⟩) (sbr rfl rfl) ?_)
          refine l_reg fun u12 hu12 => sv rfl (s_nil (l_ret ?_))
          obtain rfl := Option.some.inj hz2
          obtain rfl := ez2 _ rfl
          refine ⟨nofun, awl_ret ?_⟩
          rw [Sum.elim_inr] at h
          obtain rfl := Option.some.inj h
          exact fin_ok (.inr rfl) (resD1 (res_t rfl) rf_d) (.refl _)
        · refine l_skip (l_sub (s0 := ⟨T [(5, (.ptr _ _)), (6, (.ptr _ _)), (7, (.ptr _ _)), (8, (.d _)), (9, (.ptr _ _))], G [((10010010, u2), some (.box 94 _)), ((6, u3), some (.box 38 _)), ((7, u4), some (.box 76 _)), ((9, u10), some (.box 38 _))]⟩) (sbr rfl rfl) ?_)
          refine l_reg fun u13 hu13 => sd rfl (v_loadG rfl (gq rfl) rfl rfl) (sst rfl (gq rfl) (dConvoy v10.1) rfl (s_nil (l_end (l_reg fun u14 hu14 => sv rfl (sv rfl (sv rfl (s_nil (l_nil ?_))))))))
          obtain rfl := Option.some.inj hz2
          exact ⟨rfl, (), (sbr rfl rfl)⟩
    · refine l_exitN rfl ?_
      obtain rfl := Option.some.inj hz2
      obtain rfl := ez2 _ rfl
      refine ⟨nofun, awl_pop rfl (l_j ?_)⟩
      exact ⟨_, (), rfl, (sbr rfl rfl)⟩
  · rintro _ ⟨y1, g1, rfl, q1⟩
    rw [Sum.elim_inl] at h
    refine l_sub q1 (lr (fun u15 hu15 => sd rfl (v_loadG rfl G_hit rfl rfl) (bs h fun v11 hv11 h => s_call rfl rfl all2_refl (law09_kept_ok _  _ hv11) (.inl rfl) (sv rfl (bs h fun v12 hv12 h => g_call v11 (bo v12) (gw_t rfl) (fun w22 => ⟨_, _, _, _, rfl, rfl, all2_refl, law09_awake_ok  _ (cond_t w22 hv12), (.inl rfl)⟩) (sa rfl rfl rfl (sv rfl (s_nil (l_ret ?_)))))))))
    obtain rfl := Option.some.inj h
    exact fin_ok (.inr rfl) (resD1 (res_t rfl) rf_d) (.refl _)
end Go.Abs.Convoy
