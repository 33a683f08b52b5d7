-- Written by hook.py, a program of this session (wip/), which runs the kit's print.py with its own parts; Lean checks it.
import Derived.Test.YtcodionjhcmfhaaDoorBe0
import Derived.Test.YtcodionjhcmfhaaDoorBeXSq
namespace Go.Proofs.YtcodionjhcmfhaaDoor.Be
open Go.RowKit Go.Proofs.YtcodionjhcmfhaaDoorW.PrintWords Go.Proofs.YtcodionjhcmfhaaDoorW.PrintLast Go.Proofs.YtcodionjhcmfhaaDoorW.PrintMore Go.Proofs.YtcodionjhcmfhaaDoor.Sq
attribute [local go_sem] max2_int min2_int max_two min_two max_three min_three max_four min_four   -- for this text's walks alone
set_option linter.unusedVariables false
set_option linter.unusedSimpArgs false

theorem slices_Delete_int_int_108.info : (Tryd.prog.info? 22).map (fun i => (i.zero, i.size, i.bytes)) = some (some (.slice none 0 0), 1, 24) := by kernel_rfl
theorem slices_Delete_int_int_108.zero : ∀ w, (zeroValue 22).run Tryd.prog w = .ok (.slice none 0 0) w := fun w => by
  obtain ⟨i0, hi0, h0, h1, h2⟩ := info_parts slices_Delete_int_int_108.info
  simp [zeroValue, typeInfo, hi0, h0, Result.andThen]
set_option maxHeartbeats 4000000 in
set_option maxRecDepth 100000 in
open Go.Proofs.YtcodionjhcmfhaaDoor.Live Go.Lib in
theorem slices_Delete_int_int_108.shift (g n c i : Nat) (cur : Array Value) (w : World) (hi : i < n) (hn : n ≤ c) (hc : c ≤ 9223372036854775807) (hg : w.heap[g]? = some (.cells cur 22 (0, 0))) (hcur : cur.size = c) (h1c : ∀ v ∈ cur.toList.take n, v.oneCell' = true) :
    Calls Tryd.prog 108 #[.slice (some ⟨g, 0, none⟩) n c, .int .i64 (i : Int), .int .i64 ((i + 1 : Nat) : Int)] w fun e w' =>
      e = .returned (.slice (some ⟨g, 0, none⟩) (n - 1) c) ∧ w' = (w.drew.setCells g i ((cur.toList.take n).drop (i + 1))).setCells g (n - 1) [.slice none 0 0] := by
  obtain ⟨cs, hcs⟩ : ∃ cs, cs = (cur.toList.take n).drop (i + 1) := ⟨_, rfl⟩
  have hcl : cs.length = n - (i + 1) := by rw [hcs, List.length_drop, List.length_take, Array.length_toList]; omega
  have hone : ∀ v ∈ cs, v.oneCell' = true := fun v hv => h1c v (by rw [hcs] at hv; exact List.mem_of_mem_drop hv)
  have hcell : ∀ j v, cs[j]? = some v → w.drew.cell? ⟨g, i + 1 + j, none⟩ = some v := fun j v hj => by
    rw [blk_cell (w := w.drew) hg (i + 1 + j)]
    rw [hcs, List.getElem?_drop, List.getElem?_take] at hj
    split at hj
    · rw [← Array.getElem?_toList]; exact hj
    · cases hj
  obtain ⟨i0, hi0, hz0, hzs, hzb⟩ := info_parts slices_Delete_int_int_108.info
  obtain ⟨A, hA, hsrc⟩ : ∃ A : Addr, (if c = i + 1 then some (⟨g, 0, none⟩ : Addr) else some ⟨g, i + 1, none⟩) = some A ∧ Aside0 (∀ t u, cs[t]? = some u → w.drew.cell? (A.add t) = some u) := by
    by_cases h : c = i + 1
    · refine ⟨⟨g, 0, none⟩, by simp [h], ⟨fun t u hu => ?_⟩⟩
      have h0 : cs.length = 0 := by rw [hcl]; omega
      rw [List.length_eq_zero_iff.1 h0] at hu
      simp at hu
    · exact ⟨⟨g, i + 1, none⟩, by simp [h], ⟨fun t u hu => by rw [Addr.add_lit]; exact hcell t u hu⟩⟩
  have s1 : Aside0 (cs.length = (n - (i + 1)) * 1) := ⟨by rw [Nat.mul_one]; exact hcl⟩
  have s2 : Aside0 (∀ u ∈ cs, u.oneCell' = true) := ⟨hone⟩
  have s3 : Aside0 (∀ t, t < cs.length → (w.drew.cell? ⟨g, 0 + i * 1 + t, none⟩).isSome = true ∧ w.drew.frozen? ⟨g, 0 + i * 1 + t, none⟩ = false) := ⟨fun t ht => ⟨by rw [blk_cell (w := w.drew) hg, Array.getElem?_eq_getElem (by omega)]; rfl, blk_frozen (w := w.drew) hg _⟩⟩
  obtain ⟨W1, hW1⟩ : ∃ W1, W1 = w.drew.setCells g (0 + i * 1) cs := ⟨_, rfl⟩
  have hG1 : W1.heap[g]? = some (.cells (setL cur (0 + i * 1) cs) 22 (0, 0)) := by rw [hW1]; exact heap_setCells g cs _ w.drew cur hg
  have hcle : ∀ ty, (Builtin.clear_ #[26] ty #[.slice (some ⟨g, i + (n - (i + 1)), none⟩) (n - (i + (n - (i + 1)))) (c - (i + (n - (i + 1))))]).run Tryd.prog W1 = .ok (.tuple #[]) (W1.setCells g (i + (n - (i + 1))) (List.replicate (n - (i + (n - (i + 1)))) (.slice none 0 0))) :=
    fun ty => Go.Lib.run_clear_slice W1 _ _ ty _ Tryd.underlying26 slices_Delete_int_int_108.zero rfl rfl g (i + (n - (i + 1))) _ _ (by omega) (fun t ht => by rw [blk_cell hG1, Array.getElem?_eq_getElem (by rw [setL_size]; omega)]; rfl) (fun t ht => blk_frozen hG1 _)
  have hW := aM hW1
  have HCS := aM hcs
  have hic : i ≤ c := by omega
  have hjc : i + 1 ≤ c := by omega
  have hb0 : (0 : Int) ≤ (i : Int) + 1 := by omega
  have hb1 : (i : Int) + 1 ≤ (n : Int) := by omega
  clear hW1 hG1 hcell hone hcl hcs hg hcur h1c hz0 hzb
  go_enter Tryd.func108, Tryd.ntmps108
  go_wp2_with fail
  go_region_law (refine step_append_room rfl (.tmp 22) (.tmp 25) 26 rfl 22 i0 1 Tryd.underlying26 hi0 hzs g 0 i c (by simp [Act.eval, Act.put]) A (n - (i + 1)) (c - (i + 1)) cs (by simp [Act.eval, Act.put]) s1.out hsrc.out s2.out (by omega) s3.out ?_; rw [← hW.out])
  go_wp2
  go_ret
  have e1 : i + (n - (i + 1)) = n - 1 := by omega
  have e2 : n - (n - 1) = 1 := by omega
  refine ⟨by rw [← e1]; rfl, ?_⟩
  rw [hW.out, HCS.out, Nat.zero_add, Nat.mul_one, e1, e2]
  rfl
set_option maxHeartbeats 4000000 in
open Go.Proofs.YtcodionjhcmfhaaDoor.Live Go.Lib in
theorem slices_Delete_int_int_108.owns (base i n : Nat) (v : Value) (inner : List Value) (w : World) (hown : w.ownsRow base 22 1 v n inner) (hi : i < n) (h1c : ∀ x ∈ inner, x.oneCell' = true) :
    Calls Tryd.prog 108 #[v, .int .i64 (i : Int), .int .i64 ((i + 1 : Nat) : Int)] w fun e w' =>
      ∃ v', e = .returned v' ∧ w'.ownsRow base 22 1 v' (n - 1) (inner.eraseIdx i) ∧ w.grownBy w' v.ownBlock ∧ v'.ownBlock = v.ownBlock := by
  rcases hown.2 with ⟨rfl, rfl⟩ | ⟨g, cap, cur, rfl, h2, h3, h4, h5, h6, h7⟩
  · omega
  · rw [Nat.mul_one] at h6 h7
    have h5' : cap ≤ 9223372036854775807 := by unfold maxLen at h5; omega
    have hlen : inner.length = n := by simpa using hown.1
    refine (slices_Delete_int_int_108.shift g n cap i cur w hi h4 h5' h3 h6 (by rw [h7]; exact h1c)).mono ?_
    rintro e w' ⟨rfl, rfl⟩
    have g1 := grown_setCells g ((cur.toList.take n).drop (i + 1)) i w.drew
    have g2 := grown_setCells g [.slice none 0 0] (n - 1) (w.drew.setCells g i ((cur.toList.take n).drop (i + 1)))
    have hl1 : ((cur.toList.take n).drop (i + 1)).length = n - (i + 1) := by rw [List.length_drop, List.length_take, Array.length_toList]; omega
    refine ⟨_, rfl, ⟨by rw [List.length_eraseIdx]; split <;> omega, .inr ⟨g, cap, setL (setL cur i ((cur.toList.take n).drop (i + 1))) (n - 1) [.slice none 0 0], rfl, h2, heap_setCells _ _ _ _ _ (heap_setCells _ _ _ w.drew _ h3), by omega, h5, by rw [setL_size, setL_size, Nat.mul_one]; exact h6, ?_⟩⟩, ?_, rfl⟩
    · have hsz : (setL cur i ((cur.toList.take n).drop (i + 1))).toList.length = cap := by rw [Array.length_toList, setL_size]; exact h6
      rw [Nat.mul_one, setL_list _ _ _ (by rw [setL_size]; simp only [List.length_cons, List.length_nil]; omega), List.append_assoc, List.take_append_of_le_length (by rw [List.length_take, hsz]; omega), List.take_take, Nat.min_self,
        setL_list _ _ _ (by rw [hl1]; omega)]
      rw [List.take_append_of_le_length (by rw [List.length_append, List.length_take, Array.length_toList, hl1]; omega), List.take_of_length_le (by rw [List.length_append, List.length_take, Array.length_toList, hl1]; omega)]
      rw [List.eraseIdx_eq_take_drop_succ, ← h7, List.take_take, Nat.min_eq_left (by omega)]
    · exact ⟨g2.1.os.trans g1.1.os, g2.1.tape.trans g1.1.tape, g2.1.output.trans g1.1.output, Nat.le_of_eq (g2.2.trans g1.2).symm, fun k hk hk2 => (g2.1.block k (by rw [g1.2]; exact hk) hk2).trans (g1.1.block k hk hk2)⟩


theorem slices_Delete_int_int_109.info : (Tryd.prog.info? 3).map (fun i => (i.zero, i.size, i.bytes)) = some (some (.int .i64 0), 1, 8) := by kernel_rfl
theorem slices_Delete_int_int_109.zero : ∀ w, (zeroValue 3).run Tryd.prog w = .ok (.int .i64 0) w := fun w => by
  obtain ⟨i0, hi0, h0, h1, h2⟩ := info_parts slices_Delete_int_int_109.info
  simp [zeroValue, typeInfo, hi0, h0, Result.andThen]
set_option maxHeartbeats 4000000 in
set_option maxRecDepth 100000 in
open Go.Proofs.YtcodionjhcmfhaaDoor.Live Go.Lib in
theorem slices_Delete_int_int_109.shift (g n c i : Nat) (cur : Array Value) (w : World) (hi : i < n) (hn : n ≤ c) (hc : c ≤ 9223372036854775807) (hg : w.heap[g]? = some (.cells cur 3 (0, 0))) (hcur : cur.size = c) (h1c : ∀ v ∈ cur.toList.take n, v.oneCell' = true) :
    Calls Tryd.prog 109 #[.slice (some ⟨g, 0, none⟩) n c, .int .i64 (i : Int), .int .i64 ((i + 1 : Nat) : Int)] w fun e w' =>
      e = .returned (.slice (some ⟨g, 0, none⟩) (n - 1) c) ∧ w' = (w.drew.setCells g i ((cur.toList.take n).drop (i + 1))).setCells g (n - 1) [.int .i64 0] := by
  obtain ⟨cs, hcs⟩ : ∃ cs, cs = (cur.toList.take n).drop (i + 1) := ⟨_, rfl⟩
  have hcl : cs.length = n - (i + 1) := by rw [hcs, List.length_drop, List.length_take, Array.length_toList]; omega
  have hone : ∀ v ∈ cs, v.oneCell' = true := fun v hv => h1c v (by rw [hcs] at hv; exact List.mem_of_mem_drop hv)
  have hcell : ∀ j v, cs[j]? = some v → w.drew.cell? ⟨g, i + 1 + j, none⟩ = some v := fun j v hj => by
    rw [blk_cell (w := w.drew) hg (i + 1 + j)]
    rw [hcs, List.getElem?_drop, List.getElem?_take] at hj
    split at hj
    · rw [← Array.getElem?_toList]; exact hj
    · cases hj
  obtain ⟨i0, hi0, hz0, hzs, hzb⟩ := info_parts slices_Delete_int_int_109.info
  obtain ⟨A, hA, hsrc⟩ : ∃ A : Addr, (if c = i + 1 then some (⟨g, 0, none⟩ : Addr) else some ⟨g, i + 1, none⟩) = some A ∧ Aside0 (∀ t u, cs[t]? = some u → w.drew.cell? (A.add t) = some u) := by
    by_cases h : c = i + 1
    · refine ⟨⟨g, 0, none⟩, by simp [h], ⟨fun t u hu => ?_⟩⟩
      have h0 : cs.length = 0 := by rw [hcl]; omega
      rw [List.length_eq_zero_iff.1 h0] at hu
      simp at hu
    · exact ⟨⟨g, i + 1, none⟩, by simp [h], ⟨fun t u hu => by rw [Addr.add_lit]; exact hcell t u hu⟩⟩
  have s1 : Aside0 (cs.length = (n - (i + 1)) * 1) := ⟨by rw [Nat.mul_one]; exact hcl⟩
  have s2 : Aside0 (∀ u ∈ cs, u.oneCell' = true) := ⟨hone⟩
  have s3 : Aside0 (∀ t, t < cs.length → (w.drew.cell? ⟨g, 0 + i * 1 + t, none⟩).isSome = true ∧ w.drew.frozen? ⟨g, 0 + i * 1 + t, none⟩ = false) := ⟨fun t ht => ⟨by rw [blk_cell (w := w.drew) hg, Array.getElem?_eq_getElem (by omega)]; rfl, blk_frozen (w := w.drew) hg _⟩⟩
  obtain ⟨W1, hW1⟩ : ∃ W1, W1 = w.drew.setCells g (0 + i * 1) cs := ⟨_, rfl⟩
  have hG1 : W1.heap[g]? = some (.cells (setL cur (0 + i * 1) cs) 3 (0, 0)) := by rw [hW1]; exact heap_setCells g cs _ w.drew cur hg
  have hcle : ∀ ty, (Builtin.clear_ #[22] ty #[.slice (some ⟨g, i + (n - (i + 1)), none⟩) (n - (i + (n - (i + 1)))) (c - (i + (n - (i + 1))))]).run Tryd.prog W1 = .ok (.tuple #[]) (W1.setCells g (i + (n - (i + 1))) (List.replicate (n - (i + (n - (i + 1)))) (.int .i64 0))) :=
    fun ty => Go.Lib.run_clear_slice W1 _ _ ty _ Tryd.underlying22 slices_Delete_int_int_109.zero rfl rfl g (i + (n - (i + 1))) _ _ (by omega) (fun t ht => by rw [blk_cell hG1, Array.getElem?_eq_getElem (by rw [setL_size]; omega)]; rfl) (fun t ht => blk_frozen hG1 _)
  have hW := aM hW1
  have HCS := aM hcs
  have hic : i ≤ c := by omega
  have hjc : i + 1 ≤ c := by omega
  have hb0 : (0 : Int) ≤ (i : Int) + 1 := by omega
  have hb1 : (i : Int) + 1 ≤ (n : Int) := by omega
  clear hW1 hG1 hcell hone hcl hcs hg hcur h1c hz0 hzb
  go_enter Tryd.func109, Tryd.ntmps109
  go_wp2_with fail
  go_region_law (refine step_append_room rfl (.tmp 22) (.tmp 25) 22 rfl 3 i0 1 Tryd.underlying22 hi0 hzs g 0 i c (by simp [Act.eval, Act.put]) A (n - (i + 1)) (c - (i + 1)) cs (by simp [Act.eval, Act.put]) s1.out hsrc.out s2.out (by omega) s3.out ?_; rw [← hW.out])
  go_wp2
  go_ret
  have e1 : i + (n - (i + 1)) = n - 1 := by omega
  have e2 : n - (n - 1) = 1 := by omega
  refine ⟨by rw [← e1]; rfl, ?_⟩
  rw [hW.out, HCS.out, Nat.zero_add, Nat.mul_one, e1, e2]
  rfl
set_option maxHeartbeats 4000000 in
open Go.Proofs.YtcodionjhcmfhaaDoor.Live Go.Lib in
theorem slices_Delete_int_int_109.owns (base i n : Nat) (v : Value) (inner : List Value) (w : World) (hown : w.ownsRow base 3 1 v n inner) (hi : i < n) (h1c : ∀ x ∈ inner, x.oneCell' = true) :
    Calls Tryd.prog 109 #[v, .int .i64 (i : Int), .int .i64 ((i + 1 : Nat) : Int)] w fun e w' =>
      ∃ v', e = .returned v' ∧ w'.ownsRow base 3 1 v' (n - 1) (inner.eraseIdx i) ∧ w.grownBy w' v.ownBlock ∧ v'.ownBlock = v.ownBlock := by
  rcases hown.2 with ⟨rfl, rfl⟩ | ⟨g, cap, cur, rfl, h2, h3, h4, h5, h6, h7⟩
  · omega
  · rw [Nat.mul_one] at h6 h7
    have h5' : cap ≤ 9223372036854775807 := by unfold maxLen at h5; omega
    have hlen : inner.length = n := by simpa using hown.1
    refine (slices_Delete_int_int_109.shift g n cap i cur w hi h4 h5' h3 h6 (by rw [h7]; exact h1c)).mono ?_
    rintro e w' ⟨rfl, rfl⟩
    have g1 := grown_setCells g ((cur.toList.take n).drop (i + 1)) i w.drew
    have g2 := grown_setCells g [.int .i64 0] (n - 1) (w.drew.setCells g i ((cur.toList.take n).drop (i + 1)))
    have hl1 : ((cur.toList.take n).drop (i + 1)).length = n - (i + 1) := by rw [List.length_drop, List.length_take, Array.length_toList]; omega
    refine ⟨_, rfl, ⟨by rw [List.length_eraseIdx]; split <;> omega, .inr ⟨g, cap, setL (setL cur i ((cur.toList.take n).drop (i + 1))) (n - 1) [.int .i64 0], rfl, h2, heap_setCells _ _ _ _ _ (heap_setCells _ _ _ w.drew _ h3), by omega, h5, by rw [setL_size, setL_size, Nat.mul_one]; exact h6, ?_⟩⟩, ?_, rfl⟩
    · have hsz : (setL cur i ((cur.toList.take n).drop (i + 1))).toList.length = cap := by rw [Array.length_toList, setL_size]; exact h6
      rw [Nat.mul_one, setL_list _ _ _ (by rw [setL_size]; simp only [List.length_cons, List.length_nil]; omega), List.append_assoc, List.take_append_of_le_length (by rw [List.length_take, hsz]; omega), List.take_take, Nat.min_self,
        setL_list _ _ _ (by rw [hl1]; omega)]
      rw [List.take_append_of_le_length (by rw [List.length_append, List.length_take, Array.length_toList, hl1]; omega), List.take_of_length_le (by rw [List.length_append, List.length_take, Array.length_toList, hl1]; omega)]
      rw [List.eraseIdx_eq_take_drop_succ, ← h7, List.take_take, Nat.min_eq_left (by omega)]
    · exact ⟨g2.1.os.trans g1.1.os, g2.1.tape.trans g1.1.tape, g2.1.output.trans g1.1.output, Nat.le_of_eq (g2.2.trans g1.2).symm, fun k hk hk2 => (g2.1.block k (by rw [g1.2]; exact hk) hk2).trans (g1.1.block k hk hk2)⟩


end Go.Proofs.YtcodionjhcmfhaaDoor.Be
