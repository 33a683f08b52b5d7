-- Written by hook.py, a program of this session (wip/), which runs the kit's print.py with its own parts; Lean checks it.
import Derived.Test.YtcodionjhcmfhaaGreatDoorAx0
import Derived.Test.YtcodionjhcmfhaaGreatDoorAxXSq
namespace Go.Proofs.YtcodionjhcmfhaaGreatDoor.Ax
open Go.RowKit Go.Proofs.YtcodionjhcmfhaaGreatDoorW.PrintWords Go.Proofs.YtcodionjhcmfhaaGreatDoorW.PrintLast Go.Proofs.YtcodionjhcmfhaaGreatDoorW.PrintMore Go.Proofs.YtcodionjhcmfhaaGreatDoor.Sq
attribute [local go_sem] max2_int min2_int max_two min_two max_three min_three max_four min_four   -- for this text's walks alone
set_option linter.unusedVariables false
set_option linter.unusedSimpArgs false

theorem slices_Insert_int_int_129.info : (Tryz.prog.info? 3).map (fun i => (i.zero, i.size, i.bytes)) = some (some (.int .i64 0), 1, 8) := by kernel_rfl
theorem slices_Insert_int_int_129.size1 : (Tryz.prog.info? 3).map (·.size) = some 1 := by
 obtain ⟨i0, hi0, h0, h1, h2⟩ := info_parts slices_Insert_int_int_129.info
 rw [hi0]; simp [h1]
set_option maxHeartbeats 4000000 in
set_option maxRecDepth 100000 in
open Go.Proofs.YtcodionjhcmfhaaGreatDoor.Live Go.Lib in
theorem slices_Insert_int_int_129.shift (g n c i vb : Nat) (cur : Array Value) (u : Value) (w : World) (hi : i < n) (hroom : n + 1 ≤ c) (hc : c ≤ 9223372036854775807) (hvb : vb ≠ g) (hg : w.heap[g]? = some (.cells cur 3 (0, 0))) (hcur : cur.size = c)
    (hv : w.heap[vb]? = some (.cells #[u] 3 (0, 0))) (h1c : ∀ v ∈ cur.toList.take n, v.oneCell' = true) (h1u : u.oneCell' = true) :
    Calls Tryz.prog 129 #[.slice (some ⟨g, 0, none⟩) n c, .int .i64 (i : Int), .slice (some ⟨vb, 0, none⟩) 1 1] w fun e w' =>
      e = .returned (.slice (some ⟨g, 0, none⟩) (n + 1) c) ∧ w' = (w.drew.setCells g (i + 1) ((cur.toList.take n).drop i)).setCells g i [u] := by
  obtain ⟨cs, hcs⟩ : ∃ cs, cs = (cur.toList.take n).drop i := ⟨_, rfl⟩
  have hcl : cs.length = n - i := by rw [hcs, List.length_drop, List.length_take, Array.length_toList]; omega
  have hcell : ∀ (W : World) j v, W.heap[g]? = w.heap[g]? → cs[j]? = some v → W.cell? ⟨g, i + j, none⟩ = some v := fun W j v hW hj => by
    rw [blk_cell (hW.trans hg) (i + j)]
    rw [hcs, List.getElem?_drop, List.getElem?_take] at hj
    split at hj
    · rw [← Array.getElem?_toList]; exact hj
    · cases hj
  have hone : ∀ v ∈ cs, v.oneCell' = true := fun v hv => h1c v (by rw [hcs] at hv; exact List.mem_of_mem_drop hv)
  have hz2 : ¬ ((i : Int) = (n : Int)) := by omega
  have hsa : w.shape? vb = some (3, 1) := by simp [World.shape?, hv]
  have hsb : w.shape? g = some (3, c) := by simp [World.shape?, hg, hcur]
  have hov : ∀ lb cb, (callFunc 149 #[.slice (some ⟨vb, 0, none⟩) 1 1, .slice (some ⟨g, i + 1, none⟩) lb cb]).run Tryz.prog w = .ok (.value (.bool false)) w := fun lb cb => by
    rw [run_callFunc_extern Tryz.func149 (by kernel_rfl) (by kernel_rfl) (by kernel_rfl) (e := Extern.SlicesOverlaps.overlaps #[24, 24] #[4]) (by kernel_rfl),
      Go.Lib.run_overlaps_apart w 24 4 3 Tryz.underlying24 1 (fun w => by obtain ⟨i0, hi0, h0, h1, h2⟩ := info_parts slices_Insert_int_int_129.info; simp [sizeOf, typeInfo, hi0, h1, Result.andThen]) ⟨vb, 0, none⟩ ⟨g, i + 1, none⟩ 1 1 lb cb hvb 3 3 1 c hsa hsb (by omega) (blk_frozen hv 0) (blk_frozen hv 1)]
    rfl
  have hw1 : IntKind.i64.wrap ((i : Int) + 1) = (i : Int) + 1 := by rw [IntKind.wrap_i64]; omega
  have hb1 : (0 : Int) ≤ (i : Int) + 1 := by omega
  have hin : i ≤ n := by omega
  have htn : ((i : Int) + 1).toNat = i + 1 := by omega
  have hb2 : ¬ (c = i + 1) := by omega
  have hb3 : (i : Int) ≤ (n : Int) + 1 := by omega
  have hb4 : ¬ (c = i) := by omega
  have hdone : ∀ j, w.frozen? ⟨g, j, none⟩ = false := fun j => blk_frozen hg j
  have hsome : ∀ j, j < c → (w.cell? ⟨g, j, none⟩).isSome = true := fun j hj => by rw [blk_cell hg j, Array.getElem?_eq_getElem (by omega)]; rfl
  have hcp1 : ∀ ty dc sc, (Builtin.copy_ #[24, 24] ty #[.slice (some ⟨g, i + 1, none⟩) (n - i) dc, .slice (some ⟨g, i, none⟩) (n + 1 - i) sc]).run Tryz.prog w.drew = .ok (goInt cs.length) (w.drew.setCells g (i + 1) cs) := fun ty dc sc =>
    run_copy_cells w.drew _ _ ty 3 g (i + 1) (n - i) dc ⟨g, i, none⟩ (n + 1 - i) sc cs Tryz.underlying24 slices_Insert_int_int_129.size1 (by rw [hcl]; simp only [Nat.min_def]; split <;> omega)
      (fun j v hj => by rw [Addr.add_lit]; exact hcell w.drew j v rfl hj)
      (fun j hj => hsome _ (by omega)) (fun j hj => hdone _) hone
  obtain ⟨W1, hW1⟩ : ∃ W1, W1 = w.drew.setCells g (i + 1) cs := ⟨_, rfl⟩
  have hG1 : W1.heap[g]? = some (.cells (setL cur (i + 1) cs) 3 (0, 0)) := by rw [hW1]; exact heap_setCells g cs (i + 1) w.drew cur hg
  have hV1 : W1.heap[vb]? = some (.cells #[u] 3 (0, 0)) := by rw [hW1]; exact ((grown_setCells g cs (i + 1) w.drew).1.block vb (blk_lt hv) (fun e => hvb (by injection e))).trans hv
  have hcp2 : ∀ (W : World), (∀ k, W.heap[k]? = W1.heap[k]?) → ∀ ty dc, (Builtin.copy_ #[24, 24] ty #[.slice (some ⟨g, i, none⟩) (n + 1 - i) dc, .slice (some ⟨vb, 0, none⟩) 1 1]).run Tryz.prog W = .ok (goInt 1) (W.setCells g i [u]) := fun W hW ty dc =>
    run_copy_cells W _ _ ty 3 g i (n + 1 - i) dc ⟨vb, 0, none⟩ 1 1 [u] Tryz.underlying24 slices_Insert_int_int_129.size1 (by simp only [Nat.min_def, List.length_cons, List.length_nil]; split <;> omega)
      (fun j v hj => by
        rw [Addr.add_lit, Nat.zero_add, blk_cell ((hW vb).trans hV1) j, ← hj]; simp)
      (fun j hj => by rw [blk_cell ((hW g).trans hG1), Array.getElem?_eq_getElem (by rw [setL_size]; simp only [List.length_cons, List.length_nil] at hj; omega)]; rfl) (fun j hj => blk_frozen ((hW g).trans hG1) _) (fun v hv => by rw [List.mem_singleton.1 hv]; exact h1u)
  rw [← hW1] at hcp1
  have HCS := aM hcs
  have HW1 := aM hW1
  clear hsome hdone hcell hone hcs hG1 hV1 hsa hsb hW1 hg hv hcur h1c
  go_enter Tryz.func129, Tryz.ntmps129
  go_wp2_with (simp only [hov])
  go_region_law (refine step_copy_runI rfl _ _ 24 24 rfl _ _ (by simp [Act.eval, Act.put]) (by simp [Act.eval, Act.put]) (hcp1 _ _ _) ?_)
  go_wp2_with (at_builtin; refine wpList_copy_runI _ rfl _ _ 24 24 rfl _ _ rfl rfl (hcp2 _ (fun _ => rfl) _ _) ?_)
  go_ret
  exact ⟨rfl, by rw [HW1.out, HCS.out]⟩
theorem slices_Insert_int_int_129.list_in (cur : List Value) (i n : Nat) (u : Value) (h : i ≤ n) (hn : n ≤ cur.length) : ((cur.take n).take i) ++ u :: ((cur.take n).drop i) = (cur.take n).insertIdx i u := by
  have hl : i ≤ (cur.take n).length := by rw [List.length_take]; omega
  generalize cur.take n = xs at *
  clear h hn
  induction xs generalizing i with
  | nil => obtain rfl : i = 0 := by simpa using hl
           rfl
  | cons x r ih =>
    cases i with
    | zero => rfl
    | succ i => simp only [List.take_succ_cons, List.drop_succ_cons, List.cons_append, List.insertIdx_succ_cons]; rw [ih i (by simpa using hl)]
set_option maxHeartbeats 4000000 in
set_option maxRecDepth 100000 in
open Go.Proofs.YtcodionjhcmfhaaGreatDoor.Live Go.Lib in
theorem slices_Insert_int_int_129.grows (g n c i vb : Nat) (cur : Array Value) (u : Value) (w : World) (hi : i < n) (hnc : n ≤ c) (hroom : c < n + 1) (hn : n ≤ 2097152) (hvb : vb ≠ g) (hg : w.heap[g]? = some (.cells cur 3 (0, 0))) (hcur : cur.size = c)
    (hv : w.heap[vb]? = some (.cells #[u] 3 (0, 0))) (h1c : ∀ v ∈ cur.toList.take n, v.oneCell' = true) (h1u : u.oneCell' = true) :
    Calls Tryz.prog 129 #[.slice (some ⟨g, 0, none⟩) n c, .int .i64 (i : Int), .slice (some ⟨vb, 0, none⟩) 1 1] w fun e w' =>
      ∃ (G : Nat) (row : Array Value), e = .returned (.slice (some ⟨w.heap.size, 0, none⟩) (n + 1) G) ∧ w.grownBy w' none ∧ w'.heap[w.heap.size]? = some (.cells row 3 (0, 0)) ∧ row.size = G ∧ n + 1 ≤ G ∧ G ≤ maxLen ∧ row.toList.take (n + 1) = (cur.toList.take n).insertIdx i u := by
  obtain ⟨cs, hcs⟩ : ∃ cs, cs = (cur.toList.take n).drop i := ⟨_, rfl⟩
  obtain ⟨ds, hds⟩ : ∃ ds, ds = (cur.toList.take n).take i := ⟨_, rfl⟩
  have hcl : cs.length = n - i := by rw [hcs, List.length_drop, List.length_take, Array.length_toList]; omega
  have hdl : ds.length = i := by rw [hds, List.length_take, List.length_take, Array.length_toList]; omega
  have hcell : ∀ (W : World) j v, W.heap[g]? = w.heap[g]? → cs[j]? = some v → W.cell? ⟨g, i + j, none⟩ = some v := fun W j v hW hj => by
    rw [blk_cell (hW.trans hg) (i + j)]
    rw [hcs, List.getElem?_drop, List.getElem?_take] at hj
    split at hj
    · rw [← Array.getElem?_toList]; exact hj
    · cases hj
  have hdcell : ∀ j v, ds[j]? = some v → w.cell? ⟨g, j, none⟩ = some v := fun j v hj => by
    rw [blk_cell hg j]
    rw [hds, List.getElem?_take, List.getElem?_take] at hj
    split at hj
    · split at hj
      · rw [← Array.getElem?_toList]; exact hj
      · cases hj
    · cases hj
  have hone : ∀ v ∈ cs, v.oneCell' = true := fun v hv => h1c v (by rw [hcs] at hv; exact List.mem_of_mem_drop hv)
  have hz2 : ¬ ((i : Int) = (n : Int)) := by omega
  have hz3 : (c : Int) < (n : Int) + 1 := by omega
  obtain ⟨i0, hi0, hz0, hzs, hzb⟩ := info_parts slices_Insert_int_int_129.info
  have hkk : (n : Int) + 1 - (i : Int) = ((n + 1 - i : Nat) : Int) := by omega
  have hik : i + (n + 1 - i) = n + 1 := by omega
  have hold : (Builtin.firstCells i0.size i (.slice (some ⟨g, 0, none⟩) i c)).run Tryz.prog w.drew = .ok ds.toArray w.drew := by
    rw [hzs]
    exact run_firstCells_some w.drew 1 i ⟨g, 0, none⟩ i c ds (by rw [hdl]; omega) (fun j v hj => by rw [Addr.add_lit, Nat.zero_add]; exact hdcell j v hj)
  have hrz : ∀ ty, (Builtin.append_ #[24, 3] ty #[.slice (some ⟨g, 0, none⟩) i c, .int .i64 ((n : Int) + 1 - (i : Int))]).run Tryz.prog w =
      .ok (.slice (some ⟨w.heap.size, 0, none⟩) (n + 1) (grownCap w (n + 1) c 3)) (w.drew.alloc (.cells (ds.toArray ++ Builtin.zeroCells (.int .i64 0 : Value).cells (n + 1 - i) ++ Builtin.zeroCells (.int .i64 0 : Value).cells (grownCap w (n + 1) c 3 - (n + 1))) 3)) := fun ty => by
    have h := Go.Lib.run_append_grow_zeros w 24 3 ty 3 i0 _ .i64 .i64 Tryz.underlying24 Tryz.underlying3 hi0 hz0 (some ⟨g, 0, none⟩) i c ds hold (n + 1 - i) (by omega) (by omega) (by omega) (by omega) (by rw [hzb]; omega) (by rw [hzb, hik]; exact growslice_fits hroom (by omega))
    rw [hik] at h
    rw [hkk]
    exact h
  obtain ⟨G, hG⟩ : ∃ G, G = grownCap w (n + 1) c 3 := ⟨_, rfl⟩
  obtain ⟨ROW, hROW⟩ : ∃ ROW : Array Value, ROW = ds.toArray ++ Builtin.zeroCells (.int .i64 0 : Value).cells (n + 1 - i) ++ Builtin.zeroCells (.int .i64 0 : Value).cells (G - (n + 1)) := ⟨_, rfl⟩
  rw [← hG] at hrz
  rw [← hROW] at hrz
  have hGn : n + 1 ≤ G := by rw [hG]; exact grownCap_ge w _ _ _
  have hGm : G ≤ maxLen := by rw [hG]; exact grownCap_le_maxLen w (n + 1) c 3 (by unfold maxLen; omega)
  have hG63 : G ≤ 9223372036854775807 := by unfold maxLen at hGm; omega
  have hRs : ROW.size = G := by rw [hROW]; simp [Builtin.zeroCells, Value.cells, hdl]; omega
  have hRt : ROW.toList.take i = ds := by rw [hROW, Array.toList_append, Array.toList_append, List.append_assoc, List.take_left' hdl]
  have hgw : g < w.heap.size := blk_lt hg
  have hvw : vb < w.heap.size := blk_lt hv
  obtain ⟨N, hN⟩ : ∃ N, N = w.heap.size := ⟨_, rfl⟩
  have hcpA : ∀ (W : World), (∀ k, W.heap[k]? = (w.drew.alloc (.cells ROW 3)).heap[k]?) → ∀ ty dc, (Builtin.copy_ #[24, 24] ty #[.slice (some ⟨w.heap.size, i, none⟩) (n + 1 - i) dc, .slice (some ⟨vb, 0, none⟩) 1 1]).run Tryz.prog W = .ok (goInt 1) (W.setCells w.heap.size i [u]) := fun W hW ty dc => by
    have b1 : W.heap[w.heap.size]? = some (.cells ROW 3 (0, 0)) := (hW _).trans (blk_new w.drew _)
    have b2 : W.heap[vb]? = some (.cells #[u] 3 (0, 0)) := (hW _).trans (blk_alloc (w := w.drew) hv _)
    exact run_copy_cells W _ _ ty 3 w.heap.size i (n + 1 - i) dc ⟨vb, 0, none⟩ 1 1 [u] Tryz.underlying24 slices_Insert_int_int_129.size1 (by simp only [Nat.min_def, List.length_cons, List.length_nil]; split <;> omega)
      (fun j v hj => by rw [Addr.add_lit, Nat.zero_add, blk_cell b2 j, ← hj]; simp)
      (fun j hj => by rw [blk_cell b1, Array.getElem?_eq_getElem (by simp only [List.length_cons, List.length_nil] at hj; omega)]; rfl) (fun j hj => blk_frozen b1 _) (fun v hv => by rw [List.mem_singleton.1 hv]; exact h1u)
  have hcpB : ∀ (W : World), (∀ k, W.heap[k]? = ((w.drew.alloc (.cells ROW 3)).setCells w.heap.size i [u]).heap[k]?) → ∀ ty dc sc, (Builtin.copy_ #[24, 24] ty #[.slice (some ⟨w.heap.size, i + 1, none⟩) (n - i) dc, .slice (some ⟨g, i, none⟩) (n - i) sc]).run Tryz.prog W = .ok (goInt cs.length) (W.setCells w.heap.size (i + 1) cs) := fun W hW ty dc sc => by
    have b1 : W.heap[w.heap.size]? = some (.cells (setL ROW i [u]) 3 (0, 0)) := (hW _).trans (heap_setCells _ _ _ _ _ (blk_new w.drew _))
    have b2 : W.heap[g]? = w.heap[g]? := by
      rw [hW, (grown_setCells w.heap.size [u] i (w.drew.alloc (.cells ROW 3))).1.block g (blk_lt (blk_alloc (w := w.drew) hg _)) (fun e => by injection e; omega)]
      exact (blk_alloc (w := w.drew) hg _).trans hg.symm
    exact run_copy_cells W _ _ ty 3 w.heap.size (i + 1) (n - i) dc ⟨g, i, none⟩ (n - i) sc cs Tryz.underlying24 slices_Insert_int_int_129.size1 (by rw [hcl]; simp only [Nat.min_def]; split <;> omega)
      (fun j v hj => by rw [Addr.add_lit]; exact hcell W j v b2 hj)
      (fun j hj => by rw [blk_cell b1, Array.getElem?_eq_getElem (by rw [setL_size]; omega)]; rfl) (fun j hj => blk_frozen b1 _) hone
  have hEND : ∀ W : World, (∀ k, W.heap[k]? = ((w.drew.alloc (.cells ROW 3)).setCells w.heap.size i [u]).heap[k]?) → (W.setCells w.heap.size (i + 1) cs).heap[w.heap.size]? = some (.cells (setL (setL ROW i [u]) (i + 1) cs) 3 (0, 0)) := fun W hW =>
    heap_setCells _ _ _ _ _ ((hW _).trans (heap_setCells _ _ _ _ _ (blk_new w.drew _)))
  have hLIST : (setL (setL ROW i [u]) (i + 1) cs).toList.take (n + 1) = (cur.toList.take n).insertIdx i u := by
    rw [← slices_Insert_int_int_129.list_in cur.toList i n u (by omega) (by rw [Array.length_toList]; omega), ← hcs, ← hds]
    rw [setL_list _ _ _ (by rw [setL_size, hcl]; omega), setL_list _ _ _ (by simp only [List.length_cons, List.length_nil]; omega), hRt]
    have e1 : (ds ++ [u] ++ List.drop (i + [u].length) ROW.toList).take (i + 1) = ds ++ [u] := List.take_left' (by simp [hdl])
    rw [e1, List.take_left' (by simp [hdl, hcl]; omega)]
    simp
  have hGi : ¬ (G = i) := by omega
  have hGim : ¬ (G = i + 1) := by omega
  have hci : ¬ (c = i) := by omega
  have hw1 : IntKind.i64.wrap ((i : Int) + 1) = (i : Int) + 1 := by rw [IntKind.wrap_i64]; omega
  have hb1 : (0 : Int) ≤ (i : Int) + 1 := by omega
  have hin : i ≤ n := by omega
  have htn : ((i : Int) + 1).toNat = i + 1 := by omega
  have hb3 : (i : Int) ≤ (n : Int) := by omega
  have hb5 : (i : Int) ≤ (n : Int) + 1 := by omega
  have HE := aM hEND
  have HL := aM hLIST
  have HR := aM hRs
  have HGN := aM hGm
  clear hkk hik hold hROW hG hRs hRt hLIST hEND hGm hcell hdcell hone hcs hds hg hv h1c hi0 hz0 hzs hzb hN
  have hE1 : ∀ k : Nat, ((w.alloc (.cells ROW 3)).drew).heap[k]? = (w.drew.alloc (.cells ROW 3)).heap[k]? := fun k => rfl
  have hF1 : ∀ k : Nat, (((w.alloc (.cells ROW 3)).drew.setCells w.heap.size i [u]).drew).heap[k]? = ((w.drew.alloc (.cells ROW 3)).setCells w.heap.size i [u]).heap[k]? := fun k => rfl
  go_enter Tryz.func129, Tryz.ntmps129
  go_wp2_with (first
    | (at_builtin; refine Go.Lib.wpList_append_run _ rfl _ _ _ _ rfl _ _ rfl rfl _ _ (hrz _) ?_)
    | (at_builtin; refine wpList_copy_runI _ rfl _ _ 24 24 rfl _ _ rfl rfl (hcpA _ hE1 _ _) ?_))
  go_region_law (refine step_copy_runI rfl _ _ 24 24 rfl (.slice (some ⟨w.heap.size, i + 1, none⟩) (n - i) (G - (i + 1))) (.slice (some ⟨g, i, none⟩) (n - i) (c - i)) (by simp [Act.eval, Act.put]) (by simp [Act.eval, Act.put]) (hcpB _ hF1 3 (G - (i + 1)) (c - i)) ?_)
  go_wp2
  go_ret
  refine ⟨G, _, rfl, ?_, HE.out _ (fun _ => rfl), by rw [setL_size, setL_size]; exact HR.out, hGn, HGN.out, HL.out⟩
  have h1 := grown_setCells w.heap.size [u] i ((w.alloc (.cells ROW 3)).drew)
  have h2 := grown_setCells w.heap.size cs (i + 1) ((((w.alloc (.cells ROW 3)).drew.setCells w.heap.size i [u]).drew))
  have hs : ((w.alloc (.cells ROW 3)).drew).heap.size = w.heap.size + 1 := size_alloc w _
  refine ⟨h2.1.os.trans h1.1.os, h2.1.tape.trans h1.1.tape, h2.1.output.trans h1.1.output, ?_, fun k hk _ => ?_⟩
  · rw [h2.2]; show _ ≤ ((w.alloc (.cells ROW 3)).drew.setCells w.heap.size i [u]).heap.size; rw [h1.2, hs]; omega
  · refine (h2.1.block k ?_ (fun e => by injection e; omega)).trans ((h1.1.block k (by rw [hs]; omega) (fun e => by injection e; omega)).trans (Below.heap_alloc w _ k hk))
    show _ < ((w.alloc (.cells ROW 3)).drew.setCells w.heap.size i [u]).heap.size
    rw [h1.2, hs]; omega
set_option maxHeartbeats 4000000 in
set_option maxRecDepth 100000 in
open Go.Proofs.YtcodionjhcmfhaaGreatDoor.Live Go.Lib in
theorem slices_Insert_int_int_129.owns (base i vb n : Nat) (v : Value) (inner : List Value) (u : Value) (w : World) (hown : w.ownsRow base 3 1 v n inner) (hi : i ≤ n) (hn : n ≤ 2097152) (hbase : base ≤ w.heap.size)
    (hv : w.heap[vb]? = some (.cells #[u] 3 (0, 0))) (hne : v.ownBlock ≠ some vb) (h1c : ∀ x ∈ inner, x.oneCell' = true) (h1u : u.oneCell' = true) :
    Calls Tryz.prog 129 #[v, .int .i64 (i : Int), .slice (some ⟨vb, 0, none⟩) 1 1] w fun e w' =>
      ∃ v', e = .returned v' ∧ w'.ownsRow base 3 1 v' (n + 1) (inner.insertIdx i u) ∧ w.grownBy w' v.ownBlock ∧ (v'.ownBlock = v.ownBlock ∨ ∃ b, v'.ownBlock = some b ∧ w.heap.size ≤ b) := by
 by_cases he : i = n
 · {
 subst he
 have hlast : inner.insertIdx i u = inner ++ [u] := by {
 have hl : inner.length = i := by simpa using hown.1
 rw [← hl]; exact List.insertIdx_length_self}
 obtain ⟨i0, hi0, hz0, hzs, hzb⟩ := info_parts slices_Insert_int_int_129.info
 have hL := aM hlast; clear hlast
 have HV := aM hv; have HN := aM hne; clear hv hne
 have C1 : Aside0 (∀ j x, [u][j]? = some x → w.cell? ((⟨vb, 0, none⟩ : Addr).add j) = some x) := ⟨fun j x hj => by rw [Addr.add_lit, Nat.zero_add, blk_cell HV.out j, ← hj]; simp⟩
 have C2 : Aside0 (∀ x ∈ [u], x.oneCell' = true) := ⟨fun x hx => by rw [List.mem_singleton.1 hx]; exact h1u⟩
 have C3 : Aside0 (i + 1 ≤ maxLen) := ⟨by unfold maxLen; omega⟩
 have C4 : Aside0 ((i + 1) * 8 ≤ 140737488355328) := ⟨by omega⟩
 rcases hown.2 with ⟨rfl, rfl⟩ | ⟨g, cap, cur, rfl, h2, h3, h4, h5, h6, h7⟩
 · {
 obtain rfl : inner = [] := List.eq_nil_of_length_eq_zero (by simpa using hown.1)
 have HO := aM hown; clear hown
 have HZ := aM hz0; clear hz0
 go_enter Tryz.func129, Tryz.ntmps129
 go_wp2_with (at_builtin; refine wpList_append_own_at _ rfl _ _ 24 rfl base 3 i0 (.int .i64 0) 1 8 Tryz.underlying24 hi0 HZ.out hzs hzb rfl (by decide) (.slice none 0 0) 0 ([] : List Value) rfl HO.out ⟨vb, 0, none⟩ 1 1 [u] rfl rfl C1.out C2.out C3.out C4.out hbase ?_; intro v' w1 hown1 hgrow _ hat)
 go_ret
 exact ⟨_, rfl, by simpa using hown1, hgrow, hat.imp id (fun h => ⟨_, h, Nat.le_refl _⟩)⟩}
 · {
 have HO := aM hown; clear hown
 have HZ := aM hz0; clear hz0
 have hcm : cap ≤ 9223372036854775807 := by unfold maxLen at h5; omega
 clear h7 h6 h3 h5
 by_cases hci : cap = i
 · {
 subst hci
 go_enter Tryz.func129, Tryz.ntmps129
 go_wp2_with (at_builtin; refine wpList_append_own_at _ rfl _ _ 24 rfl base 3 i0 (.int .i64 0) 1 8 Tryz.underlying24 hi0 HZ.out hzs hzb rfl (by decide) (.slice (some ⟨g, 0, none⟩) cap cap) cap inner rfl HO.out ⟨vb, 0, none⟩ 1 1 [u] rfl rfl C1.out C2.out C3.out C4.out hbase ?_; intro v' w1 hown1 hgrow _ hat)
 go_ret
 exact ⟨_, rfl, by rw [hL.out]; exact hown1, hgrow, hat.imp id (fun h => ⟨_, h, Nat.le_refl _⟩)⟩}
 · {
 go_enter Tryz.func129, Tryz.ntmps129
 go_wp2_with (at_builtin; refine wpList_append_own_at _ rfl _ _ 24 rfl base 3 i0 (.int .i64 0) 1 8 Tryz.underlying24 hi0 HZ.out hzs hzb rfl (by decide) (.slice (some ⟨g, 0, none⟩) i cap) i inner rfl HO.out ⟨vb, 0, none⟩ 1 1 [u] rfl rfl C1.out C2.out C3.out C4.out hbase ?_; intro v' w1 hown1 hgrow _ hat)
 go_ret
 exact ⟨_, rfl, by rw [hL.out]; exact hown1, hgrow, hat.imp id (fun h => ⟨_, h, Nat.le_refl _⟩)⟩}}}
 · {
 rcases hown.2 with ⟨rfl, rfl⟩ | ⟨g, cap, cur, rfl, h2, h3, h4, h5, h6, h7⟩
 · omega
 · {
 rw [Nat.mul_one] at h6 h7
 have hvg : vb ≠ g := fun e => hne (by rw [e]; rfl)
 have h5' : cap ≤ 9223372036854775807 := by unfold maxLen at h5; omega
 have hlen : inner.length = n := by simpa using hown.1
 by_cases hr : n + 1 ≤ cap
 · {
 refine (slices_Insert_int_int_129.shift g n cap i vb cur u w (by omega) hr h5' hvg h3 h6 hv (by rw [h7]; exact h1c) h1u).mono ?_
 rintro e w' ⟨rfl, rfl⟩
 have g1 := grown_setCells g ((cur.toList.take n).drop i) (i + 1) w.drew
 have g2 := grown_setCells g [u] i (w.drew.setCells g (i + 1) ((cur.toList.take n).drop i))
 have hl1 : ((cur.toList.take n).drop i).length = n - i := by rw [List.length_drop, List.length_take, Array.length_toList]; omega
 refine ⟨_, rfl, ⟨by rw [List.length_insertIdx]; split <;> omega, .inr ⟨g, cap, setL (setL cur (i + 1) ((cur.toList.take n).drop i)) i [u], rfl, h2, heap_setCells _ _ _ _ _ (heap_setCells _ _ _ w.drew _ h3), hr, h5, by rw [setL_size, setL_size, Nat.mul_one]; exact h6, ?_⟩⟩, ?_, .inl rfl⟩
 · {
 rw [Nat.mul_one, ← h7, ← slices_Insert_int_int_129.list_in cur.toList i n u (by omega) (by rw [Array.length_toList]; omega)]
 rw [setL_list _ _ _ (by rw [setL_size]; simp only [List.length_cons, List.length_nil]; omega), setL_list _ _ _ (by rw [hl1]; omega)]
 have e1 : (cur.toList.take (i + 1) ++ (cur.toList.take n).drop i ++ cur.toList.drop (i + 1 + ((cur.toList.take n).drop i).length)).take i = (cur.toList.take n).take i := by rw [List.append_assoc, List.take_append_of_le_length (by rw [List.length_take, Array.length_toList]; omega), List.take_take, List.take_take]; congr 1; omega
 have e2 : (cur.toList.take (i + 1) ++ (cur.toList.take n).drop i ++ cur.toList.drop (i + 1 + ((cur.toList.take n).drop i).length)).drop (i + 1) = (cur.toList.take n).drop i ++ cur.toList.drop (i + 1 + ((cur.toList.take n).drop i).length) := by rw [List.append_assoc, List.drop_left' (by rw [List.length_take, Array.length_toList]; omega)]
 have l1 : ((cur.toList.take n).take i).length = i := by rw [List.length_take, List.length_take, Array.length_toList]; omega
 rw [e1, show i + [u].length = i + 1 from rfl, e2, ← List.append_assoc]
 rw [List.take_left' (by rw [List.length_append, List.length_append, l1, hl1]; simp only [List.length_cons, List.length_nil]; omega), List.append_assoc]
 rfl}
 · exact ⟨g2.1.os.trans g1.1.os, g2.1.tape.trans g1.1.tape, g2.1.output.trans g1.1.output, Nat.le_of_eq (g2.2.trans g1.2).symm, fun k hk hk2 => (g2.1.block k (by rw [g1.2]; exact hk) hk2).trans (g1.1.block k hk hk2)⟩}
 · {
 refine (slices_Insert_int_int_129.grows g n cap i vb cur u w (by omega) h4 (by omega) hn hvg h3 h6 hv (by rw [h7]; exact h1c) h1u).mono ?_
 rintro e w' ⟨G, row, rfl, hg, hb, hs, hG, hGm, hl⟩
 refine ⟨_, rfl, ⟨by rw [List.length_insertIdx]; split <;> omega, .inr ⟨_, _, row, rfl, hbase, hb, hG, hGm, by rw [Nat.mul_one]; exact hs, by rw [Nat.mul_one, hl, h7]⟩⟩, ⟨hg.os, hg.tape, hg.output, hg.size, fun k hk _ => hg.block k hk (by simp)⟩, .inr ⟨_, rfl, Nat.le_refl _⟩⟩}}}
theorem slices_Insert_int_int_130.info : (Tryz.prog.info? 24).map (fun i => (i.zero, i.size, i.bytes)) = some (some (.slice none 0 0), 1, 24) := by kernel_rfl
theorem slices_Insert_int_int_130.size1 : (Tryz.prog.info? 24).map (·.size) = some 1 := by
 obtain ⟨i0, hi0, h0, h1, h2⟩ := info_parts slices_Insert_int_int_130.info
 rw [hi0]; simp [h1]
set_option maxHeartbeats 4000000 in
set_option maxRecDepth 100000 in
open Go.Proofs.YtcodionjhcmfhaaGreatDoor.Live Go.Lib in
theorem slices_Insert_int_int_130.shift (g n c i vb : Nat) (cur : Array Value) (u : Value) (w : World) (hi : i < n) (hroom : n + 1 ≤ c) (hc : c ≤ 9223372036854775807) (hvb : vb ≠ g) (hg : w.heap[g]? = some (.cells cur 24 (0, 0))) (hcur : cur.size = c)
    (hv : w.heap[vb]? = some (.cells #[u] 24 (0, 0))) (h1c : ∀ v ∈ cur.toList.take n, v.oneCell' = true) (h1u : u.oneCell' = true) :
    Calls Tryz.prog 130 #[.slice (some ⟨g, 0, none⟩) n c, .int .i64 (i : Int), .slice (some ⟨vb, 0, none⟩) 1 1] w fun e w' =>
      e = .returned (.slice (some ⟨g, 0, none⟩) (n + 1) c) ∧ w' = (w.drew.setCells g (i + 1) ((cur.toList.take n).drop i)).setCells g i [u] := by
  obtain ⟨cs, hcs⟩ : ∃ cs, cs = (cur.toList.take n).drop i := ⟨_, rfl⟩
  have hcl : cs.length = n - i := by rw [hcs, List.length_drop, List.length_take, Array.length_toList]; omega
  have hcell : ∀ (W : World) j v, W.heap[g]? = w.heap[g]? → cs[j]? = some v → W.cell? ⟨g, i + j, none⟩ = some v := fun W j v hW hj => by
    rw [blk_cell (hW.trans hg) (i + j)]
    rw [hcs, List.getElem?_drop, List.getElem?_take] at hj
    split at hj
    · rw [← Array.getElem?_toList]; exact hj
    · cases hj
  have hone : ∀ v ∈ cs, v.oneCell' = true := fun v hv => h1c v (by rw [hcs] at hv; exact List.mem_of_mem_drop hv)
  have hz2 : ¬ ((i : Int) = (n : Int)) := by omega
  have hsa : w.shape? vb = some (24, 1) := by simp [World.shape?, hv]
  have hsb : w.shape? g = some (24, c) := by simp [World.shape?, hg, hcur]
  have hov : ∀ lb cb, (callFunc 151 #[.slice (some ⟨vb, 0, none⟩) 1 1, .slice (some ⟨g, i + 1, none⟩) lb cb]).run Tryz.prog w = .ok (.value (.bool false)) w := fun lb cb => by
    rw [run_callFunc_extern Tryz.func151 (by kernel_rfl) (by kernel_rfl) (by kernel_rfl) (e := Extern.SlicesOverlaps.overlaps #[28, 28] #[4]) (by kernel_rfl),
      Go.Lib.run_overlaps_apart w 28 4 24 Tryz.underlying28 1 (fun w => by obtain ⟨i0, hi0, h0, h1, h2⟩ := info_parts slices_Insert_int_int_130.info; simp [sizeOf, typeInfo, hi0, h1, Result.andThen]) ⟨vb, 0, none⟩ ⟨g, i + 1, none⟩ 1 1 lb cb hvb 24 24 1 c hsa hsb (by omega) (blk_frozen hv 0) (blk_frozen hv 1)]
    rfl
  have hw1 : IntKind.i64.wrap ((i : Int) + 1) = (i : Int) + 1 := by rw [IntKind.wrap_i64]; omega
  have hb1 : (0 : Int) ≤ (i : Int) + 1 := by omega
  have hin : i ≤ n := by omega
  have htn : ((i : Int) + 1).toNat = i + 1 := by omega
  have hb2 : ¬ (c = i + 1) := by omega
  have hb3 : (i : Int) ≤ (n : Int) + 1 := by omega
  have hb4 : ¬ (c = i) := by omega
  have hdone : ∀ j, w.frozen? ⟨g, j, none⟩ = false := fun j => blk_frozen hg j
  have hsome : ∀ j, j < c → (w.cell? ⟨g, j, none⟩).isSome = true := fun j hj => by rw [blk_cell hg j, Array.getElem?_eq_getElem (by omega)]; rfl
  have hcp1 : ∀ ty dc sc, (Builtin.copy_ #[28, 28] ty #[.slice (some ⟨g, i + 1, none⟩) (n - i) dc, .slice (some ⟨g, i, none⟩) (n + 1 - i) sc]).run Tryz.prog w.drew = .ok (goInt cs.length) (w.drew.setCells g (i + 1) cs) := fun ty dc sc =>
    run_copy_cells w.drew _ _ ty 24 g (i + 1) (n - i) dc ⟨g, i, none⟩ (n + 1 - i) sc cs Tryz.underlying28 slices_Insert_int_int_130.size1 (by rw [hcl]; simp only [Nat.min_def]; split <;> omega)
      (fun j v hj => by rw [Addr.add_lit]; exact hcell w.drew j v rfl hj)
      (fun j hj => hsome _ (by omega)) (fun j hj => hdone _) hone
  obtain ⟨W1, hW1⟩ : ∃ W1, W1 = w.drew.setCells g (i + 1) cs := ⟨_, rfl⟩
  have hG1 : W1.heap[g]? = some (.cells (setL cur (i + 1) cs) 24 (0, 0)) := by rw [hW1]; exact heap_setCells g cs (i + 1) w.drew cur hg
  have hV1 : W1.heap[vb]? = some (.cells #[u] 24 (0, 0)) := by rw [hW1]; exact ((grown_setCells g cs (i + 1) w.drew).1.block vb (blk_lt hv) (fun e => hvb (by injection e))).trans hv
  have hcp2 : ∀ (W : World), (∀ k, W.heap[k]? = W1.heap[k]?) → ∀ ty dc, (Builtin.copy_ #[28, 28] ty #[.slice (some ⟨g, i, none⟩) (n + 1 - i) dc, .slice (some ⟨vb, 0, none⟩) 1 1]).run Tryz.prog W = .ok (goInt 1) (W.setCells g i [u]) := fun W hW ty dc =>
    run_copy_cells W _ _ ty 24 g i (n + 1 - i) dc ⟨vb, 0, none⟩ 1 1 [u] Tryz.underlying28 slices_Insert_int_int_130.size1 (by simp only [Nat.min_def, List.length_cons, List.length_nil]; split <;> omega)
      (fun j v hj => by
        rw [Addr.add_lit, Nat.zero_add, blk_cell ((hW vb).trans hV1) j, ← hj]; simp)
      (fun j hj => by rw [blk_cell ((hW g).trans hG1), Array.getElem?_eq_getElem (by rw [setL_size]; simp only [List.length_cons, List.length_nil] at hj; omega)]; rfl) (fun j hj => blk_frozen ((hW g).trans hG1) _) (fun v hv => by rw [List.mem_singleton.1 hv]; exact h1u)
  rw [← hW1] at hcp1
  have HCS := aM hcs
  have HW1 := aM hW1
  clear hsome hdone hcell hone hcs hG1 hV1 hsa hsb hW1 hg hv hcur h1c
  go_enter Tryz.func130, Tryz.ntmps130
  go_wp2_with (simp only [hov])
  go_region_law (refine step_copy_runI rfl _ _ 28 28 rfl _ _ (by simp [Act.eval, Act.put]) (by simp [Act.eval, Act.put]) (hcp1 _ _ _) ?_)
  go_wp2_with (at_builtin; refine wpList_copy_runI _ rfl _ _ 28 28 rfl _ _ rfl rfl (hcp2 _ (fun _ => rfl) _ _) ?_)
  go_ret
  exact ⟨rfl, by rw [HW1.out, HCS.out]⟩
theorem slices_Insert_int_int_130.list_in (cur : List Value) (i n : Nat) (u : Value) (h : i ≤ n) (hn : n ≤ cur.length) : ((cur.take n).take i) ++ u :: ((cur.take n).drop i) = (cur.take n).insertIdx i u := by
  have hl : i ≤ (cur.take n).length := by rw [List.length_take]; omega
  generalize cur.take n = xs at *
  clear h hn
  induction xs generalizing i with
  | nil => obtain rfl : i = 0 := by simpa using hl
           rfl
  | cons x r ih =>
    cases i with
    | zero => rfl
    | succ i => simp only [List.take_succ_cons, List.drop_succ_cons, List.cons_append, List.insertIdx_succ_cons]; rw [ih i (by simpa using hl)]
set_option maxHeartbeats 4000000 in
set_option maxRecDepth 100000 in
open Go.Proofs.YtcodionjhcmfhaaGreatDoor.Live Go.Lib in
theorem slices_Insert_int_int_130.grows (g n c i vb : Nat) (cur : Array Value) (u : Value) (w : World) (hi : i < n) (hnc : n ≤ c) (hroom : c < n + 1) (hn : n ≤ 2097152) (hvb : vb ≠ g) (hg : w.heap[g]? = some (.cells cur 24 (0, 0))) (hcur : cur.size = c)
    (hv : w.heap[vb]? = some (.cells #[u] 24 (0, 0))) (h1c : ∀ v ∈ cur.toList.take n, v.oneCell' = true) (h1u : u.oneCell' = true) :
    Calls Tryz.prog 130 #[.slice (some ⟨g, 0, none⟩) n c, .int .i64 (i : Int), .slice (some ⟨vb, 0, none⟩) 1 1] w fun e w' =>
      ∃ (G : Nat) (row : Array Value), e = .returned (.slice (some ⟨w.heap.size, 0, none⟩) (n + 1) G) ∧ w.grownBy w' none ∧ w'.heap[w.heap.size]? = some (.cells row 24 (0, 0)) ∧ row.size = G ∧ n + 1 ≤ G ∧ G ≤ maxLen ∧ row.toList.take (n + 1) = (cur.toList.take n).insertIdx i u := by
  obtain ⟨cs, hcs⟩ : ∃ cs, cs = (cur.toList.take n).drop i := ⟨_, rfl⟩
  obtain ⟨ds, hds⟩ : ∃ ds, ds = (cur.toList.take n).take i := ⟨_, rfl⟩
  have hcl : cs.length = n - i := by rw [hcs, List.length_drop, List.length_take, Array.length_toList]; omega
  have hdl : ds.length = i := by rw [hds, List.length_take, List.length_take, Array.length_toList]; omega
  have hcell : ∀ (W : World) j v, W.heap[g]? = w.heap[g]? → cs[j]? = some v → W.cell? ⟨g, i + j, none⟩ = some v := fun W j v hW hj => by
    rw [blk_cell (hW.trans hg) (i + j)]
    rw [hcs, List.getElem?_drop, List.getElem?_take] at hj
    split at hj
    · rw [← Array.getElem?_toList]; exact hj
    · cases hj
  have hdcell : ∀ j v, ds[j]? = some v → w.cell? ⟨g, j, none⟩ = some v := fun j v hj => by
    rw [blk_cell hg j]
    rw [hds, List.getElem?_take, List.getElem?_take] at hj
    split at hj
    · split at hj
      · rw [← Array.getElem?_toList]; exact hj
      · cases hj
    · cases hj
  have hone : ∀ v ∈ cs, v.oneCell' = true := fun v hv => h1c v (by rw [hcs] at hv; exact List.mem_of_mem_drop hv)
  have hz2 : ¬ ((i : Int) = (n : Int)) := by omega
  have hz3 : (c : Int) < (n : Int) + 1 := by omega
  obtain ⟨i0, hi0, hz0, hzs, hzb⟩ := info_parts slices_Insert_int_int_130.info
  have hkk : (n : Int) + 1 - (i : Int) = ((n + 1 - i : Nat) : Int) := by omega
  have hik : i + (n + 1 - i) = n + 1 := by omega
  have hold : (Builtin.firstCells i0.size i (.slice (some ⟨g, 0, none⟩) i c)).run Tryz.prog w.drew = .ok ds.toArray w.drew := by
    rw [hzs]
    exact run_firstCells_some w.drew 1 i ⟨g, 0, none⟩ i c ds (by rw [hdl]; omega) (fun j v hj => by rw [Addr.add_lit, Nat.zero_add]; exact hdcell j v hj)
  have hrz : ∀ ty, (Builtin.append_ #[28, 3] ty #[.slice (some ⟨g, 0, none⟩) i c, .int .i64 ((n : Int) + 1 - (i : Int))]).run Tryz.prog w =
      .ok (.slice (some ⟨w.heap.size, 0, none⟩) (n + 1) (grownCap w (n + 1) c 24)) (w.drew.alloc (.cells (ds.toArray ++ Builtin.zeroCells (.slice none 0 0 : Value).cells (n + 1 - i) ++ Builtin.zeroCells (.slice none 0 0 : Value).cells (grownCap w (n + 1) c 24 - (n + 1))) 24)) := fun ty => by
    have h := Go.Lib.run_append_grow_zeros w 28 3 ty 24 i0 _ .i64 .i64 Tryz.underlying28 Tryz.underlying3 hi0 hz0 (some ⟨g, 0, none⟩) i c ds hold (n + 1 - i) (by omega) (by omega) (by omega) (by omega) (by rw [hzb]; omega) (by rw [hzb, hik]; exact growslice_fits hroom (by omega))
    rw [hik] at h
    rw [hkk]
    exact h
  obtain ⟨G, hG⟩ : ∃ G, G = grownCap w (n + 1) c 24 := ⟨_, rfl⟩
  obtain ⟨ROW, hROW⟩ : ∃ ROW : Array Value, ROW = ds.toArray ++ Builtin.zeroCells (.slice none 0 0 : Value).cells (n + 1 - i) ++ Builtin.zeroCells (.slice none 0 0 : Value).cells (G - (n + 1)) := ⟨_, rfl⟩
  rw [← hG] at hrz
  rw [← hROW] at hrz
  have hGn : n + 1 ≤ G := by rw [hG]; exact grownCap_ge w _ _ _
  have hGm : G ≤ maxLen := by rw [hG]; exact grownCap_le_maxLen w (n + 1) c 24 (by unfold maxLen; omega)
  have hG63 : G ≤ 9223372036854775807 := by unfold maxLen at hGm; omega
  have hRs : ROW.size = G := by rw [hROW]; simp [Builtin.zeroCells, Value.cells, hdl]; omega
  have hRt : ROW.toList.take i = ds := by rw [hROW, Array.toList_append, Array.toList_append, List.append_assoc, List.take_left' hdl]
  have hgw : g < w.heap.size := blk_lt hg
  have hvw : vb < w.heap.size := blk_lt hv
  obtain ⟨N, hN⟩ : ∃ N, N = w.heap.size := ⟨_, rfl⟩
  have hcpA : ∀ (W : World), (∀ k, W.heap[k]? = (w.drew.alloc (.cells ROW 24)).heap[k]?) → ∀ ty dc, (Builtin.copy_ #[28, 28] ty #[.slice (some ⟨w.heap.size, i, none⟩) (n + 1 - i) dc, .slice (some ⟨vb, 0, none⟩) 1 1]).run Tryz.prog W = .ok (goInt 1) (W.setCells w.heap.size i [u]) := fun W hW ty dc => by
    have b1 : W.heap[w.heap.size]? = some (.cells ROW 24 (0, 0)) := (hW _).trans (blk_new w.drew _)
    have b2 : W.heap[vb]? = some (.cells #[u] 24 (0, 0)) := (hW _).trans (blk_alloc (w := w.drew) hv _)
    exact run_copy_cells W _ _ ty 24 w.heap.size i (n + 1 - i) dc ⟨vb, 0, none⟩ 1 1 [u] Tryz.underlying28 slices_Insert_int_int_130.size1 (by simp only [Nat.min_def, List.length_cons, List.length_nil]; split <;> omega)
      (fun j v hj => by rw [Addr.add_lit, Nat.zero_add, blk_cell b2 j, ← hj]; simp)
      (fun j hj => by rw [blk_cell b1, Array.getElem?_eq_getElem (by simp only [List.length_cons, List.length_nil] at hj; omega)]; rfl) (fun j hj => blk_frozen b1 _) (fun v hv => by rw [List.mem_singleton.1 hv]; exact h1u)
  have hcpB : ∀ (W : World), (∀ k, W.heap[k]? = ((w.drew.alloc (.cells ROW 24)).setCells w.heap.size i [u]).heap[k]?) → ∀ ty dc sc, (Builtin.copy_ #[28, 28] ty #[.slice (some ⟨w.heap.size, i + 1, none⟩) (n - i) dc, .slice (some ⟨g, i, none⟩) (n - i) sc]).run Tryz.prog W = .ok (goInt cs.length) (W.setCells w.heap.size (i + 1) cs) := fun W hW ty dc sc => by
    have b1 : W.heap[w.heap.size]? = some (.cells (setL ROW i [u]) 24 (0, 0)) := (hW _).trans (heap_setCells _ _ _ _ _ (blk_new w.drew _))
    have b2 : W.heap[g]? = w.heap[g]? := by
      rw [hW, (grown_setCells w.heap.size [u] i (w.drew.alloc (.cells ROW 24))).1.block g (blk_lt (blk_alloc (w := w.drew) hg _)) (fun e => by injection e; omega)]
      exact (blk_alloc (w := w.drew) hg _).trans hg.symm
    exact run_copy_cells W _ _ ty 24 w.heap.size (i + 1) (n - i) dc ⟨g, i, none⟩ (n - i) sc cs Tryz.underlying28 slices_Insert_int_int_130.size1 (by rw [hcl]; simp only [Nat.min_def]; split <;> omega)
      (fun j v hj => by rw [Addr.add_lit]; exact hcell W j v b2 hj)
      (fun j hj => by rw [blk_cell b1, Array.getElem?_eq_getElem (by rw [setL_size]; omega)]; rfl) (fun j hj => blk_frozen b1 _) hone
  have hEND : ∀ W : World, (∀ k, W.heap[k]? = ((w.drew.alloc (.cells ROW 24)).setCells w.heap.size i [u]).heap[k]?) → (W.setCells w.heap.size (i + 1) cs).heap[w.heap.size]? = some (.cells (setL (setL ROW i [u]) (i + 1) cs) 24 (0, 0)) := fun W hW =>
    heap_setCells _ _ _ _ _ ((hW _).trans (heap_setCells _ _ _ _ _ (blk_new w.drew _)))
  have hLIST : (setL (setL ROW i [u]) (i + 1) cs).toList.take (n + 1) = (cur.toList.take n).insertIdx i u := by
    rw [← slices_Insert_int_int_130.list_in cur.toList i n u (by omega) (by rw [Array.length_toList]; omega), ← hcs, ← hds]
    rw [setL_list _ _ _ (by rw [setL_size, hcl]; omega), setL_list _ _ _ (by simp only [List.length_cons, List.length_nil]; omega), hRt]
    have e1 : (ds ++ [u] ++ List.drop (i + [u].length) ROW.toList).take (i + 1) = ds ++ [u] := List.take_left' (by simp [hdl])
    rw [e1, List.take_left' (by simp [hdl, hcl]; omega)]
    simp
  have hGi : ¬ (G = i) := by omega
  have hGim : ¬ (G = i + 1) := by omega
  have hci : ¬ (c = i) := by omega
  have hw1 : IntKind.i64.wrap ((i : Int) + 1) = (i : Int) + 1 := by rw [IntKind.wrap_i64]; omega
  have hb1 : (0 : Int) ≤ (i : Int) + 1 := by omega
  have hin : i ≤ n := by omega
  have htn : ((i : Int) + 1).toNat = i + 1 := by omega
  have hb3 : (i : Int) ≤ (n : Int) := by omega
  have hb5 : (i : Int) ≤ (n : Int) + 1 := by omega
  have HE := aM hEND
  have HL := aM hLIST
  have HR := aM hRs
  have HGN := aM hGm
  clear hkk hik hold hROW hG hRs hRt hLIST hEND hGm hcell hdcell hone hcs hds hg hv h1c hi0 hz0 hzs hzb hN
  have hE1 : ∀ k : Nat, ((w.alloc (.cells ROW 24)).drew).heap[k]? = (w.drew.alloc (.cells ROW 24)).heap[k]? := fun k => rfl
  have hF1 : ∀ k : Nat, (((w.alloc (.cells ROW 24)).drew.setCells w.heap.size i [u]).drew).heap[k]? = ((w.drew.alloc (.cells ROW 24)).setCells w.heap.size i [u]).heap[k]? := fun k => rfl
  go_enter Tryz.func130, Tryz.ntmps130
  go_wp2_with (first
    | (at_builtin; refine Go.Lib.wpList_append_run _ rfl _ _ _ _ rfl _ _ rfl rfl _ _ (hrz _) ?_)
    | (at_builtin; refine wpList_copy_runI _ rfl _ _ 28 28 rfl _ _ rfl rfl (hcpA _ hE1 _ _) ?_))
  go_region_law (refine step_copy_runI rfl _ _ 28 28 rfl (.slice (some ⟨w.heap.size, i + 1, none⟩) (n - i) (G - (i + 1))) (.slice (some ⟨g, i, none⟩) (n - i) (c - i)) (by simp [Act.eval, Act.put]) (by simp [Act.eval, Act.put]) (hcpB _ hF1 3 (G - (i + 1)) (c - i)) ?_)
  go_wp2
  go_ret
  refine ⟨G, _, rfl, ?_, HE.out _ (fun _ => rfl), by rw [setL_size, setL_size]; exact HR.out, hGn, HGN.out, HL.out⟩
  have h1 := grown_setCells w.heap.size [u] i ((w.alloc (.cells ROW 24)).drew)
  have h2 := grown_setCells w.heap.size cs (i + 1) ((((w.alloc (.cells ROW 24)).drew.setCells w.heap.size i [u]).drew))
  have hs : ((w.alloc (.cells ROW 24)).drew).heap.size = w.heap.size + 1 := size_alloc w _
  refine ⟨h2.1.os.trans h1.1.os, h2.1.tape.trans h1.1.tape, h2.1.output.trans h1.1.output, ?_, fun k hk _ => ?_⟩
  · rw [h2.2]; show _ ≤ ((w.alloc (.cells ROW 24)).drew.setCells w.heap.size i [u]).heap.size; rw [h1.2, hs]; omega
  · refine (h2.1.block k ?_ (fun e => by injection e; omega)).trans ((h1.1.block k (by rw [hs]; omega) (fun e => by injection e; omega)).trans (Below.heap_alloc w _ k hk))
    show _ < ((w.alloc (.cells ROW 24)).drew.setCells w.heap.size i [u]).heap.size
    rw [h1.2, hs]; omega
set_option maxHeartbeats 4000000 in
set_option maxRecDepth 100000 in
open Go.Proofs.YtcodionjhcmfhaaGreatDoor.Live Go.Lib in
theorem slices_Insert_int_int_130.owns (base i vb n : Nat) (v : Value) (inner : List Value) (u : Value) (w : World) (hown : w.ownsRow base 24 1 v n inner) (hi : i ≤ n) (hn : n ≤ 2097152) (hbase : base ≤ w.heap.size)
    (hv : w.heap[vb]? = some (.cells #[u] 24 (0, 0))) (hne : v.ownBlock ≠ some vb) (h1c : ∀ x ∈ inner, x.oneCell' = true) (h1u : u.oneCell' = true) :
    Calls Tryz.prog 130 #[v, .int .i64 (i : Int), .slice (some ⟨vb, 0, none⟩) 1 1] w fun e w' =>
      ∃ v', e = .returned v' ∧ w'.ownsRow base 24 1 v' (n + 1) (inner.insertIdx i u) ∧ w.grownBy w' v.ownBlock ∧ (v'.ownBlock = v.ownBlock ∨ ∃ b, v'.ownBlock = some b ∧ w.heap.size ≤ b) := by
 by_cases he : i = n
 · {
 subst he
 have hlast : inner.insertIdx i u = inner ++ [u] := by {
 have hl : inner.length = i := by simpa using hown.1
 rw [← hl]; exact List.insertIdx_length_self}
 obtain ⟨i0, hi0, hz0, hzs, hzb⟩ := info_parts slices_Insert_int_int_130.info
 have hL := aM hlast; clear hlast
 have HV := aM hv; have HN := aM hne; clear hv hne
 have C1 : Aside0 (∀ j x, [u][j]? = some x → w.cell? ((⟨vb, 0, none⟩ : Addr).add j) = some x) := ⟨fun j x hj => by rw [Addr.add_lit, Nat.zero_add, blk_cell HV.out j, ← hj]; simp⟩
 have C2 : Aside0 (∀ x ∈ [u], x.oneCell' = true) := ⟨fun x hx => by rw [List.mem_singleton.1 hx]; exact h1u⟩
 have C3 : Aside0 (i + 1 ≤ maxLen) := ⟨by unfold maxLen; omega⟩
 have C4 : Aside0 ((i + 1) * 24 ≤ 140737488355328) := ⟨by omega⟩
 rcases hown.2 with ⟨rfl, rfl⟩ | ⟨g, cap, cur, rfl, h2, h3, h4, h5, h6, h7⟩
 · {
 obtain rfl : inner = [] := List.eq_nil_of_length_eq_zero (by simpa using hown.1)
 have HO := aM hown; clear hown
 have HZ := aM hz0; clear hz0
 go_enter Tryz.func130, Tryz.ntmps130
 go_wp2_with (at_builtin; refine wpList_append_own_at _ rfl _ _ 28 rfl base 24 i0 (.slice none 0 0) 1 24 Tryz.underlying28 hi0 HZ.out hzs hzb rfl (by decide) (.slice none 0 0) 0 ([] : List Value) rfl HO.out ⟨vb, 0, none⟩ 1 1 [u] rfl rfl C1.out C2.out C3.out C4.out hbase ?_; intro v' w1 hown1 hgrow _ hat)
 go_ret
 exact ⟨_, rfl, by simpa using hown1, hgrow, hat.imp id (fun h => ⟨_, h, Nat.le_refl _⟩)⟩}
 · {
 have HO := aM hown; clear hown
 have HZ := aM hz0; clear hz0
 have hcm : cap ≤ 9223372036854775807 := by unfold maxLen at h5; omega
 clear h7 h6 h3 h5
 by_cases hci : cap = i
 · {
 subst hci
 go_enter Tryz.func130, Tryz.ntmps130
 go_wp2_with (at_builtin; refine wpList_append_own_at _ rfl _ _ 28 rfl base 24 i0 (.slice none 0 0) 1 24 Tryz.underlying28 hi0 HZ.out hzs hzb rfl (by decide) (.slice (some ⟨g, 0, none⟩) cap cap) cap inner rfl HO.out ⟨vb, 0, none⟩ 1 1 [u] rfl rfl C1.out C2.out C3.out C4.out hbase ?_; intro v' w1 hown1 hgrow _ hat)
 go_ret
 exact ⟨_, rfl, by rw [hL.out]; exact hown1, hgrow, hat.imp id (fun h => ⟨_, h, Nat.le_refl _⟩)⟩}
 · {
 go_enter Tryz.func130, Tryz.ntmps130
 go_wp2_with (at_builtin; refine wpList_append_own_at _ rfl _ _ 28 rfl base 24 i0 (.slice none 0 0) 1 24 Tryz.underlying28 hi0 HZ.out hzs hzb rfl (by decide) (.slice (some ⟨g, 0, none⟩) i cap) i inner rfl HO.out ⟨vb, 0, none⟩ 1 1 [u] rfl rfl C1.out C2.out C3.out C4.out hbase ?_; intro v' w1 hown1 hgrow _ hat)
 go_ret
 exact ⟨_, rfl, by rw [hL.out]; exact hown1, hgrow, hat.imp id (fun h => ⟨_, h, Nat.le_refl _⟩)⟩}}}
 · {
 rcases hown.2 with ⟨rfl, rfl⟩ | ⟨g, cap, cur, rfl, h2, h3, h4, h5, h6, h7⟩
 · omega
 · {
 rw [Nat.mul_one] at h6 h7
 have hvg : vb ≠ g := fun e => hne (by rw [e]; rfl)
 have h5' : cap ≤ 9223372036854775807 := by unfold maxLen at h5; omega
 have hlen : inner.length = n := by simpa using hown.1
 by_cases hr : n + 1 ≤ cap
 · {
 refine (slices_Insert_int_int_130.shift g n cap i vb cur u w (by omega) hr h5' hvg h3 h6 hv (by rw [h7]; exact h1c) h1u).mono ?_
 rintro e w' ⟨rfl, rfl⟩
 have g1 := grown_setCells g ((cur.toList.take n).drop i) (i + 1) w.drew
 have g2 := grown_setCells g [u] i (w.drew.setCells g (i + 1) ((cur.toList.take n).drop i))
 have hl1 : ((cur.toList.take n).drop i).length = n - i := by rw [List.length_drop, List.length_take, Array.length_toList]; omega
 refine ⟨_, rfl, ⟨by rw [List.length_insertIdx]; split <;> omega, .inr ⟨g, cap, setL (setL cur (i + 1) ((cur.toList.take n).drop i)) i [u], rfl, h2, heap_setCells _ _ _ _ _ (heap_setCells _ _ _ w.drew _ h3), hr, h5, by rw [setL_size, setL_size, Nat.mul_one]; exact h6, ?_⟩⟩, ?_, .inl rfl⟩
 · {
 rw [Nat.mul_one, ← h7, ← slices_Insert_int_int_130.list_in cur.toList i n u (by omega) (by rw [Array.length_toList]; omega)]
 rw [setL_list _ _ _ (by rw [setL_size]; simp only [List.length_cons, List.length_nil]; omega), setL_list _ _ _ (by rw [hl1]; omega)]
 have e1 : (cur.toList.take (i + 1) ++ (cur.toList.take n).drop i ++ cur.toList.drop (i + 1 + ((cur.toList.take n).drop i).length)).take i = (cur.toList.take n).take i := by rw [List.append_assoc, List.take_append_of_le_length (by rw [List.length_take, Array.length_toList]; omega), List.take_take, List.take_take]; congr 1; omega
 have e2 : (cur.toList.take (i + 1) ++ (cur.toList.take n).drop i ++ cur.toList.drop (i + 1 + ((cur.toList.take n).drop i).length)).drop (i + 1) = (cur.toList.take n).drop i ++ cur.toList.drop (i + 1 + ((cur.toList.take n).drop i).length) := by rw [List.append_assoc, List.drop_left' (by rw [List.length_take, Array.length_toList]; omega)]
 have l1 : ((cur.toList.take n).take i).length = i := by rw [List.length_take, List.length_take, Array.length_toList]; omega
 rw [e1, show i + [u].length = i + 1 from rfl, e2, ← List.append_assoc]
 rw [List.take_left' (by rw [List.length_append, List.length_append, l1, hl1]; simp only [List.length_cons, List.length_nil]; omega), List.append_assoc]
 rfl}
 · exact ⟨g2.1.os.trans g1.1.os, g2.1.tape.trans g1.1.tape, g2.1.output.trans g1.1.output, Nat.le_of_eq (g2.2.trans g1.2).symm, fun k hk hk2 => (g2.1.block k (by rw [g1.2]; exact hk) hk2).trans (g1.1.block k hk hk2)⟩}
 · {
 refine (slices_Insert_int_int_130.grows g n cap i vb cur u w (by omega) h4 (by omega) hn hvg h3 h6 hv (by rw [h7]; exact h1c) h1u).mono ?_
 rintro e w' ⟨G, row, rfl, hg, hb, hs, hG, hGm, hl⟩
 refine ⟨_, rfl, ⟨by rw [List.length_insertIdx]; split <;> omega, .inr ⟨_, _, row, rfl, hbase, hb, hG, hGm, by rw [Nat.mul_one]; exact hs, by rw [Nat.mul_one, hl, h7]⟩⟩, ⟨hg.os, hg.tape, hg.output, hg.size, fun k hk _ => hg.block k hk (by simp)⟩, .inr ⟨_, rfl, Nat.le_refl _⟩⟩}}}
end Go.Proofs.YtcodionjhcmfhaaGreatDoor.Ax
