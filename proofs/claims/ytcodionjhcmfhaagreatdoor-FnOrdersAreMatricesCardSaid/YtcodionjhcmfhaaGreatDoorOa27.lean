-- Written by hook.py (wip/), over the kit's print.py.
import Derived.Test.YtcodionjhcmfhaaGreatDoorOa2
import Derived.Test.YtcodionjhcmfhaaGreatDoorOa19
import Derived.Test.YtcodionjhcmfhaaGreatDoorOa26
import Derived.Test.YtcodionjhcmfhaaGreatDoorOaXSq
namespace Go.Proofs.YtcodionjhcmfhaaGreatDoor.Oa
open Go.RowKit Go.Proofs.YtcodionjhcmfhaaGreatDoorW.PrintWords Go.Proofs.YtcodionjhcmfhaaGreatDoorW.PrintLast Go.Proofs.YtcodionjhcmfhaaGreatDoorW.PrintMore Go.Proofs.YtcodionjhcmfhaaGreatDoor.Sq
attribute [local go_sem] max2_int min2_int max_two min_two max_three min_three max_four min_four
set_option linter.unusedVariables false
set_option linter.unusedSimpArgs false
theorem Y72.info : (Tryz.prog.info? 3).map (fun i => (i.zero, i.size, i.bytes)) = some (some (.int .i64 0), 1, 8) := by kernel_rfl
theorem Y72.zero : ∀ w, (zeroValue 3).run Tryz.prog w = .ok (.int .i64 0) w := fun w => by
  obtain ⟨i0, hi0, h0, h1, h2⟩ := info_parts Y72.info
  simp [zeroValue, typeInfo, hi0, h0, Result.andThen]
set_option maxHeartbeats 4000000 in
set_option maxRecDepth 100000 in
open Go.Proofs.YtcodionjhcmfhaaGreatDoor.Live Go.Lib in
theorem Y72.shift (g n c i : Nat) (cur : Array Value) (w : World) (hi : i < n) (hn : n ≤ c) (hc : c ≤ 9223372036854775807) (hg : w.heap[g]? = some (.cells cur 3 (0, 0))) (hcur : cur.size = c) (h1c : ∀ v ∈ cur.toList.take n, v.oneCell' = true) :
    Calls Tryz.prog 119 #[.slice (some ⟨g, 0, none⟩) n c, .int .i64 (i : Int), .int .i64 ((i + 1 : Nat) : Int)] w fun e w' =>
      e = .returned (.slice (some ⟨g, 0, none⟩) (n - 1) c) ∧ w' = (w.drew.setCells g i ((cur.toList.take n).drop (i + 1))).setCells g (n - 1) [.int .i64 0] := by
  obtain ⟨cs, hcs⟩ : ∃ cs, cs = (cur.toList.take n).drop (i + 1) := ⟨_, rfl⟩
  have hcl : cs.length = n - (i + 1) := by rw [hcs, List.length_drop, List.length_take, Array.length_toList]; omega
  have hone : ∀ v ∈ cs, v.oneCell' = true := fun v hv => h1c v (by rw [hcs] at hv; exact List.mem_of_mem_drop hv)
  have hcell : ∀ j v, cs[j]? = some v → w.drew.cell? ⟨g, i + 1 + j, none⟩ = some v := fun j v hj => by
    rw [blk_cell (w := w.drew) hg (i + 1 + j)]
    rw [hcs, List.getElem?_drop, List.getElem?_take] at hj
    split at hj
    · rw [← Array.getElem?_toList]; exact hj
    · cases hj
  obtain ⟨i0, hi0, hz0, hzs, hzb⟩ := info_parts Y72.info
  obtain ⟨A, hA, hsrc⟩ : ∃ A : Addr, (if c = i + 1 then some (⟨g, 0, none⟩ : Addr) else some ⟨g, i + 1, none⟩) = some A ∧ Aside0 (∀ t u, cs[t]? = some u → w.drew.cell? (A.add t) = some u) := by
    by_cases h : c = i + 1
    · refine ⟨⟨g, 0, none⟩, by simp [h], ⟨fun t u hu => ?_⟩⟩
      have h0 : cs.length = 0 := by rw [hcl]; omega
      rw [List.length_eq_zero_iff.1 h0] at hu
      simp at hu
    · exact ⟨⟨g, i + 1, none⟩, by simp [h], ⟨fun t u hu => by rw [Addr.add_lit]; exact hcell t u hu⟩⟩
  have s1 : Aside0 (cs.length = (n - (i + 1)) * 1) := ⟨by rw [Nat.mul_one]; exact hcl⟩
  have s2 : Aside0 (∀ u ∈ cs, u.oneCell' = true) := ⟨hone⟩
  have s3 : Aside0 (∀ t, t < cs.length → (w.drew.cell? ⟨g, 0 + i * 1 + t, none⟩).isSome = true ∧ w.drew.frozen? ⟨g, 0 + i * 1 + t, none⟩ = false) := ⟨fun t ht => ⟨by rw [blk_cell (w := w.drew) hg, Array.getElem?_eq_getElem (by omega)]; rfl, blk_frozen (w := w.drew) hg _⟩⟩
  obtain ⟨W1, hW1⟩ : ∃ W1, W1 = w.drew.setCells g (0 + i * 1) cs := ⟨_, rfl⟩
  have hG1 : W1.heap[g]? = some (.cells (setL cur (0 + i * 1) cs) 3 (0, 0)) := by rw [hW1]; exact heap_setCells g cs _ w.drew cur hg
  have hcle : ∀ ty, (Builtin.clear_ #[24] ty #[.slice (some ⟨g, i + (n - (i + 1)), none⟩) (n - (i + (n - (i + 1)))) (c - (i + (n - (i + 1))))]).run Tryz.prog W1 = .ok (.tuple #[]) (W1.setCells g (i + (n - (i + 1))) (List.replicate (n - (i + (n - (i + 1)))) (.int .i64 0))) :=
    fun ty => Go.Lib.run_clear_slice W1 _ _ ty _ Tryz.underlying24 Y72.zero rfl rfl g (i + (n - (i + 1))) _ _ (by omega) (fun t ht => by rw [blk_cell hG1, Array.getElem?_eq_getElem (by rw [setL_size]; omega)]; rfl) (fun t ht => blk_frozen hG1 _)
  have hW := aM hW1
  have HCS := aM hcs
  have hic : i ≤ c := by omega
  have hjc : i + 1 ≤ c := by omega
  have hb0 : (0 : Int) ≤ (i : Int) + 1 := by omega
  have hb1 : (i : Int) + 1 ≤ (n : Int) := by omega
  clear hW1 hG1 hcell hone hcl hcs hg hcur h1c hz0 hzb
  go_enter Tryz.func119, Tryz.ntmps119
  go_wp2_with fail
  go_region_law (refine step_append_room rfl (.tmp 22) (.tmp 25) 24 rfl 3 i0 1 Tryz.underlying24 hi0 hzs g 0 i c (by simp [Act.eval, Act.put]) A (n - (i + 1)) (c - (i + 1)) cs (by simp [Act.eval, Act.put]) s1.out hsrc.out s2.out (by omega) s3.out ?_; rw [← hW.out])
  go_wp2
  go_ret
  have e1 : i + (n - (i + 1)) = n - 1 := by omega
  have e2 : n - (n - 1) = 1 := by omega
  refine ⟨by rw [← e1]; rfl, ?_⟩
  rw [hW.out, HCS.out, Nat.zero_add, Nat.mul_one, e1, e2]
  rfl
set_option maxHeartbeats 4000000 in
open Go.Proofs.YtcodionjhcmfhaaGreatDoor.Live Go.Lib in
theorem Y72.owns (base i n : Nat) (v : Value) (inner : List Value) (w : World) (hown : w.ownsRow base 3 1 v n inner) (hi : i < n) (h1c : ∀ x ∈ inner, x.oneCell' = true) :
    Calls Tryz.prog 119 #[v, .int .i64 (i : Int), .int .i64 ((i + 1 : Nat) : Int)] w fun e w' =>
      ∃ v', e = .returned v' ∧ w'.ownsRow base 3 1 v' (n - 1) (inner.eraseIdx i) ∧ w.grownBy w' v.ownBlock ∧ v'.ownBlock = v.ownBlock := by
  rcases hown.2 with ⟨rfl, rfl⟩ | ⟨g, cap, cur, rfl, h2, h3, h4, h5, h6, h7⟩
  · omega
  · rw [Nat.mul_one] at h6 h7
    have h5' : cap ≤ 9223372036854775807 := by unfold maxLen at h5; omega
    have hlen : inner.length = n := by simpa using hown.1
    refine (Y72.shift g n cap i cur w hi h4 h5' h3 h6 (by rw [h7]; exact h1c)).mono ?_
    rintro e w' ⟨rfl, rfl⟩
    have g1 := grown_setCells g ((cur.toList.take n).drop (i + 1)) i w.drew
    have g2 := grown_setCells g [.int .i64 0] (n - 1) (w.drew.setCells g i ((cur.toList.take n).drop (i + 1)))
    have hl1 : ((cur.toList.take n).drop (i + 1)).length = n - (i + 1) := by rw [List.length_drop, List.length_take, Array.length_toList]; omega
    refine ⟨_, rfl, ⟨by rw [List.length_eraseIdx]; split <;> omega, .inr ⟨g, cap, setL (setL cur i ((cur.toList.take n).drop (i + 1))) (n - 1) [.int .i64 0], rfl, h2, heap_setCells _ _ _ _ _ (heap_setCells _ _ _ w.drew _ h3), by omega, h5, by rw [setL_size, setL_size, Nat.mul_one]; exact h6, ?_⟩⟩, ?_, rfl⟩
    · have hsz : (setL cur i ((cur.toList.take n).drop (i + 1))).toList.length = cap := by rw [Array.length_toList, setL_size]; exact h6
      rw [Nat.mul_one, setL_list _ _ _ (by rw [setL_size]; simp only [List.length_cons, List.length_nil]; omega), List.append_assoc, List.take_append_of_le_length (by rw [List.length_take, hsz]; omega), List.take_take, Nat.min_self,
        setL_list _ _ _ (by rw [hl1]; omega)]
      rw [List.take_append_of_le_length (by rw [List.length_append, List.length_take, Array.length_toList, hl1]; omega), List.take_of_length_le (by rw [List.length_append, List.length_take, Array.length_toList, hl1]; omega)]
      rw [List.eraseIdx_eq_take_drop_succ, ← h7, List.take_take, Nat.min_eq_left (by omega)]
    · exact ⟨g2.1.os.trans g1.1.os, g2.1.tape.trans g1.1.tape, g2.1.output.trans g1.1.output, Nat.le_of_eq (g2.2.trans g1.2).symm, fun k hk hk2 => (g2.1.block k (by rw [g1.2]; exact hk) hk2).trans (g1.1.block k hk hk2)⟩
def Y1.cp (x d : Nat) (r : List Int) : List Int := r.set d (r.getD x 0)
def Y1.cut1 (m : List (List Int)) (x i : Nat) : List (List Int) := (m.take i).map (Y1.cp x (m.length - 1)) ++ m.drop i
def Y1.cut2 (m : List (List Int)) (x : Nat) : List (List Int) := (if x < m.length - 1 then Y1.cut1 m x x else m).eraseIdx x
def Y1.cut3 (q : List (List Int)) (x i : Nat) : List (List Int) := (q.take i).map (fun r => r.eraseIdx x) ++ q.drop i
def Y1.less (m : List (List Int)) (x : Nat) : List (List Int) := (Y1.cut2 m x).map (fun r => r.eraseIdx x)
def Y1.dec (m : List (List Int)) (x : Nat) : List (List Int) := m.set x ((m.getD x []).set (m.length - 1) (wrap64 ((m.getD x []).getD (m.length - 1) 0 - 1)))
def Y1.Ok (m : List (List Int)) (x : Int) (rs : List Int) : Prop := m.length ≤ 100 ∧ (∀ r ∈ m, r.length = m.length) ∧ 0 ≤ x ∧ x < (m.length : Int) ∧ rs.length = m.length
instance Y1.instOk (m : List (List Int)) (x : Int) (rs : List Int) : Decidable (Y1.Ok m x rs) := inferInstanceAs (Decidable (_ ∧ _))
def Y1.go (m : List (List Int)) (x : Int) (rs : List Int) : List (List Int) × Int := if 1 < rs.getD x.toNat 0 then (Y1.dec m x.toNat, x) else (Y1.less m x.toNat, x)
def Y1.f (k : Nat) (m : List (List Int)) : Option (List (List Int) × Int) :=
  (Y23.f k m).bind fun o => (Y12.f k m).bind fun rs => (Y74.f m).bind fun t => if o = m ∧ Y1.Ok m t rs.1 then some (Y1.go m t rs.1) else none
theorem Y1.cut1_row (m : List (List Int)) (x i : Nat) (hm : ∀ r ∈ m, r.length = m.length) : ∀ r ∈ Y1.cut1 m x i, r.length = m.length := fun r hr => by
  rcases List.mem_append.1 hr with h | h
  · obtain ⟨q, hq, rfl⟩ := List.mem_map.1 h
    rw [Y1.cp, List.length_set]; exact hm q (List.mem_of_mem_take hq)
  · exact hm r (List.mem_of_mem_drop h)
theorem Y1.cut2_row (m : List (List Int)) (x : Nat) (hm : ∀ r ∈ m, r.length = m.length) : ∀ r ∈ Y1.cut2 m x, r.length = m.length := fun r hr => by
  have h := List.mem_of_mem_eraseIdx hr
  split at h
  · exact Y1.cut1_row m x x hm r h
  · exact hm r h
theorem Y1.cut2_len (m : List (List Int)) (x : Nat) (hx : x < m.length) : (Y1.cut2 m x).length = m.length - 1 := by
 rw [Y1.cut2, List.length_eraseIdx]
 have h : (if x < m.length - 1 then Y1.cut1 m x x else m).length = m.length := by {
 split
 · exact Mem.part_len _ _ _
 · rfl}
 rw [h, if_pos hx]
theorem Y1.dec_nat (x d : Nat) (h : x < d) : decide ((x : Int) < (d : Int) - 1) = decide (x < d - 1) := by
 by_cases c : x < d - 1
 · rw [decide_eq_true c, decide_eq_true (by omega)]
 · rw [decide_eq_false c, decide_eq_false (by omega)]
set_option maxHeartbeats 8000000 in
set_option maxRecDepth 100000 in
open Go.Proofs.YtcodionjhcmfhaaGreatDoor.Live in
theorem Y1.calls (k : Nat) (A0 : Option Addr) (c0 : Nat) (l0 : List (List Int)) (r1 : List (List Int)) (r2 : Int) (w : World) (hr0 : Kd.C (Kd.slice 3 (Kd.int .i64)) w A0 l0.length l0) (hc0 : l0.length ≤ c0) (h : Y1.f k l0 = some (r1, r2)) :
    Calls Tryz.prog 89 #[.agg #[.slice A0 l0.length c0]] w fun e w' => ∃ v0_ : Value, e = .returned (.tuple #[.agg #[v0_], .int .i64 r2]) ∧ Kd.S (Kd.slice 3 (Kd.int .i64)) 24 w' w.heap.size (fun _ => True) v0_ r1 ∧ Below w.heap.size w w' := by
 have HC := aM hr0; have HL := aM hc0; clear hr0 hc0
 obtain ⟨o, e1, h1⟩ := Option.bind_eq_some_iff.mp h
 obtain ⟨⟨rs, cs⟩, e2, h2⟩ := Option.bind_eq_some_iff.mp h1
 obtain ⟨t, e3, h3⟩ := Option.bind_eq_some_iff.mp h2
 clear h h1 h2
 have h := h3; clear h3
 by_cases hk : o = l0 ∧ Y1.Ok l0 t rs
 case neg => rw [if_neg hk] at h; exact absurd h (by simp)
 rw [if_pos hk] at h
 obtain ⟨rfl, hok⟩ := hk
 have E1 := aM e1; clear e1
 have E2 := aM e2; clear e2
 have HOK := aM hok
 obtain ⟨x, rfl⟩ : ∃ x : Nat, t = (x : Int) := ⟨t.toNat, by have := hok.2.2.1; omega⟩
 have E3 := aM e3; clear e3
 have hxd : x < o.length := by have := hok.2.2.2.1; omega
 have hd100 : o.length ≤ 100 := hok.1
 have HRS := aM hok.2.2.2.2
 have HG := aM (Option.some.inj h); clear h hok
 have H := aM (((Live.start w).new #[.slice A0 o.length c0] 30).new #[.slice none 0 0] 30)
 rw [size_alloc] at H
 go_enter Tryz.func89, Tryz.ntmps89
 go_wp2_with (fail)
 go_cut [4, 5, 6] (fun s4 s5 s6 wx => ∃ (g6 : Nat) (Ao : Option Addr) (co : Nat), s4 = .int .i64 (x : Int) ∧ s5 = .int .i64 (o.length : Int) ∧ s6 = .pointer (some ⟨g6, 0, none⟩) ∧ Aside0 (Live w wx [var w.heap.size #[.slice A0 o.length c0] 30, var (w.heap.size + 1) #[.slice none 0 0] 30, var g6 #[.slice Ao o.length co] 30, rows (Kd.slice 3 (Kd.int .i64)) 24 (.slice Ao o.length co) o]))
 case first => (
 go_region_held3 (fun w' => w'.cell? ⟨w.heap.size, 0, none⟩ = some (.slice A0 o.length c0) ∧ Live w w' [var w.heap.size #[.slice A0 o.length c0] 30, var (w.heap.size + 1) #[.slice none 0 0] 30]) (first | (refine ⟨Live.cell (w0 := w) (L := [var w.heap.size #[.slice A0 o.length c0] 30, var (w.heap.size + 1) #[.slice none 0 0] 30]) ?_ 0 rfl 0, ?_⟩ <;> ((repeat (first | assumption | exact H.out | apply Live.alloc | apply Live.drew | apply Live.drewN)); done)) | (have H8 := Live.keep (Live.setVar H7 2 rfl 0 (.slice Ao o.length co)) 2; exact ⟨H8.cell 0 rfl 0, H8⟩)) (first | (go_at_call 117; refine (Y74.calls _ _ _ _ _ ?c1 HL.out E3.out).mono ?_; (case c1 => exact Kd.C_below HC.out (Live.below (w0 := w) (L := [var w.heap.size #[.slice A0 o.length c0] 30, var (w.heap.size + 1) #[.slice none 0 0] 30]) (by (repeat (first | assumption | exact H.out | apply Live.alloc | apply Live.drew | apply Live.drewN))))); rintro e w' ⟨rfl, hb⟩; refine step_k (w0 := w) (L := [var w.heap.size #[.slice A0 o.length c0] 30, var (w.heap.size + 1) #[.slice none 0 0] 30]) ?c3 hb (fun HS => ?_); (case c3 => ((repeat (first | assumption | exact H.out | apply Live.alloc | apply Live.drew | apply Live.drewN)); done)); (first | (replace H6 := Live.step H6 hb) | (refine step_new_k (w0 := w) (L := [var w.heap.size #[.slice A0 o.length c0] 30, var (w.heap.size + 1) #[.slice none 0 0] 30]) ?c2 hb (fun H6 => ?_); (case c2 => ((repeat (first | assumption | exact H.out | apply Live.alloc | apply Live.drew | apply Live.drewN)); done))) | (refine step_newd_k (w0 := w) (L := [var w.heap.size #[.slice A0 o.length c0] 30, var (w.heap.size + 1) #[.slice none 0 0] 30]) ?c2 hb (fun H6 => ?_); (case c2 => ((repeat (first | assumption | exact H.out | apply Live.alloc | apply Live.drew | apply Live.drewN)); done))) | skip); (try simp only [size_alloc] at H6); (try (have k6 : _ = some (Value.slice none 0 0) := Live.cell H6 2 rfl 0; have f6 := Live.frozen H6 2 rfl 0))) | (go_at_call 37; refine (Y25.calls _ _ _ _ _ ?c1 HL.out rfl).mono ?_; (case c1 => exact Kd.C_below HC.out (Live.below (w0 := w) (L := [var w.heap.size #[.slice A0 o.length c0] 30, var (w.heap.size + 1) #[.slice none 0 0] 30]) (by (repeat (first | assumption | exact H.out | apply Live.alloc | apply Live.drew | apply Live.drewN))))); rintro e w' ⟨rfl, hb⟩; refine step_k (w0 := w) (L := [var w.heap.size #[.slice A0 o.length c0] 30, var (w.heap.size + 1) #[.slice none 0 0] 30]) ?c3 hb (fun HS => ?_); (case c3 => ((repeat (first | assumption | exact H.out | apply Live.alloc | apply Live.drew | apply Live.drewN)); done)); (first | (replace H6 := Live.step H6 hb) | (refine step_new_k (w0 := w) (L := [var w.heap.size #[.slice A0 o.length c0] 30, var (w.heap.size + 1) #[.slice none 0 0] 30]) ?c2 hb (fun H6 => ?_); (case c2 => ((repeat (first | assumption | exact H.out | apply Live.alloc | apply Live.drew | apply Live.drewN)); done))) | (refine step_newd_k (w0 := w) (L := [var w.heap.size #[.slice A0 o.length c0] 30, var (w.heap.size + 1) #[.slice none 0 0] 30]) ?c2 hb (fun H6 => ?_); (case c2 => ((repeat (first | assumption | exact H.out | apply Live.alloc | apply Live.drew | apply Live.drewN)); done))) | skip); (try simp only [size_alloc] at H6); (try (have k6 : _ = some (Value.slice none 0 0) := Live.cell H6 2 rfl 0; have f6 := Live.frozen H6 2 rfl 0))) | (go_at_call 60; refine (Y23.calls k _ _ _ _ _ ?c1 HL.out E1.out).mono ?_; (case c1 => exact Kd.C_below HC.out (Live.below (w0 := w) (L := [var w.heap.size #[.slice A0 o.length c0] 30, var (w.heap.size + 1) #[.slice none 0 0] 30]) (by (repeat (first | assumption | exact H.out | apply Live.alloc | apply Live.drew | apply Live.drewN))))); rintro e w' ⟨v_, rfl, hs_, hb⟩; refine step_k (w0 := w) (L := [var w.heap.size #[.slice A0 o.length c0] 30, var (w.heap.size + 1) #[.slice none 0 0] 30]) ?c3 hb (fun HS => ?_); (case c3 => ((repeat (first | assumption | exact H.out | apply Live.alloc | apply Live.drew | apply Live.drewN)); done)); obtain ⟨Ao, co, rfl, _, _⟩ := Kd.S_reads hs_; (first | (have H7 := Live.add (o := rows (Kd.slice 3 (Kd.int .i64)) 24 (.slice Ao o.length co) o) H6 hb hs_) | (refine add_new_k (w0 := w) (L := [var w.heap.size #[.slice A0 o.length c0] 30, var (w.heap.size + 1) #[.slice none 0 0] 30]) (o := rows (Kd.slice 3 (Kd.int .i64)) 24 (.slice Ao o.length co) o) ?c2 hb hs_ (fun H7 => ?_); (case c2 => ((repeat (first | assumption | exact H.out | apply Live.alloc | apply Live.drew | apply Live.drewN)); done))) | (refine add_newd_k (w0 := w) (L := [var w.heap.size #[.slice A0 o.length c0] 30, var (w.heap.size + 1) #[.slice none 0 0] 30]) (o := rows (Kd.slice 3 (Kd.int .i64)) 24 (.slice Ao o.length co) o) ?c2 hb hs_ (fun H7 => ?_); (case c2 => ((repeat (first | assumption | exact H.out | apply Live.alloc | apply Live.drew | apply Live.drewN)); done))) | (refine add_k (w0 := w) (L := [var w.heap.size #[.slice A0 o.length c0] 30, var (w.heap.size + 1) #[.slice none 0 0] 30]) (o := rows (Kd.slice 3 (Kd.int .i64)) 24 (.slice Ao o.length co) o) ?c2 hb hs_ (fun HO => ?_); (case c2 => ((repeat (first | assumption | exact H.out | apply Live.alloc | apply Live.drew | apply Live.drewN)); done)))); (try (have k6 : _ = some (Value.slice none 0 0) := Live.cell H7 2 rfl 0; have f6 := Live.frozen H7 2 rfl 0))))
 all_goals (go_wp2_with fail; go_meet)
 all_goals (first | exact ⟨_, Ao, co, rfl, rfl, rfl, ⟨Live.swap (L := [var w.heap.size #[.slice A0 o.length c0] 30, var (w.heap.size + 1) #[.slice none 0 0] 30]) (HO.new _ _)⟩⟩ | exact ⟨_, Ao, co, rfl, rfl, rfl, ⟨Live.setVar H7 2 rfl 0 (.slice Ao o.length co)⟩⟩))
 case rest => (
 rename_i aK
 obtain ⟨g6, Ao, co, rfl, rfl, rfl, HZ⟩ := hcut
 clear H
 have H := HZ; clear HZ
 refine aK _ _ ?_
 have k2 : wc.cell? ⟨w.heap.size, 0, none⟩ = some (.slice A0 o.length c0) := H.out.cell 0 rfl 0
 obtain ⟨z, hz⟩ : ∃ z, z = rs.getD x 0 := ⟨_, rfl⟩
 obtain ⟨go1, c', e1, _, _⟩ := H.out.forms1 3 rfl (by omega)
 injection e1 with ea en ec
 subst ea; subst ec; clear en
 have x2 : decide ((x : Int) < (o.length : Int)) = true := decide_eq_true (by omega)
 have x3 : decide (x < o.length) = true := decide_eq_true hxd
 have x4 : decide (x < rs.length) = true := decide_eq_true (by rw [HRS.out]; exact hxd)
 have x5 : decide ((x : Int) < (rs.length : Int)) = true := decide_eq_true (by rw [HRS.out]; omega)
 have HZ := aM hz; clear hz
 have d1 : decide (((o.length : Int) - 1) < (o.length : Int)) = true := decide_eq_true (by omega)
 have d2 : (0 : Int) ≤ (o.length : Int) - 1 := by omega
 have d3 : ((o.length : Int) - 1).toNat = o.length - 1 := by omega
 have d4 : o.length - 1 < o.length := by omega
 by_cases hz1 : 1 < rs.getD x 0
 · {
 have z1 : decide (1 < z) = true := decide_eq_true (by rw [HZ.out]; exact hz1)
 have z2 : decide (z > 1) = true := z1
 have HGE := aM (HG.out); clear HG
 have hge := HGE.out; clear HGE
 unfold Y1.go at hge
 rw [Int.toNat_natCast, if_pos hz1] at hge
 obtain ⟨rfl, rfl⟩ := Prod.mk.inj hge
 clear hge hz1
 have hrl0 : (o.getD x []).length = o.length := HOK.out.2.1 _ (by rw [List.getD_eq_getElem?_getD, List.getElem?_eq_getElem (by omega)]; exact List.getElem_mem _)
 obtain ⟨row_, hrow⟩ : ∃ row_, row_ = o.getD x [] := ⟨_, rfl⟩
 obtain ⟨y, hy⟩ : ∃ y, y = row_.getD (o.length - 1) 0 := ⟨_, rfl⟩
 rw [← hrow] at hrl0; have HR := aM hrow; have HY := aM hy; have HRL := aM hrl0; clear hrow hy hrl0
 go_wp2_with (first | (go_at_call 42; refine (Y12.calls k _ _ _ _ _ _ (Kd.C_below HC.out H.out.below) HL.out E2.out).mono ?_; rintro e w' ⟨v_, v2_, rfl, hs_, hs2_, hb⟩; replace H := aM (H.out.add (o := row _ _ _ _) hb hs_); clear hb hs_ hs2_ k2; obtain ⟨gs, cs_, e1, _, _⟩ := H.out.form1 4 rfl (by rw [HRS.out]; omega); subst e1; obtain ⟨hq, _⟩ := H.out.cellI 4 rfl x (by rw [HRS.out]; exact hxd); rw [← HZ.out] at hq; obtain ⟨gx, cx, hcx, hlx, hqq, hqf, hput⟩ := H.out.at2 3 rfl x (o.length - 1) (by omega) (by rw [← HR.out, HRL.out]; omega); rw [← HR.out] at hcx hlx hqq hput; rw [HRL.out] at hcx hlx; rw [← HY.out] at hqq; have HN := aM (hput.out (wrap64 (y - 1))); clear hput; have k6 : w'.cell? ⟨g6, 0, none⟩ = some (.slice (some ⟨go1, 0, none⟩) o.length co) := H.out.cell 2 rfl 0; have k7 : (w'.setCell ⟨gx, o.length - 1, none⟩ (.int .i64 (wrap64 (y - 1)))).cell? ⟨g6, 0, none⟩ = some (.slice (some ⟨go1, 0, none⟩) o.length co) := HN.out.cell 2 rfl 0; have k8 : (w'.setCell ⟨gx, o.length - 1, none⟩ (.int .i64 (wrap64 (y - 1)))).cell? ⟨w.heap.size + 1, 0, none⟩ = some (.slice none 0 0) := HN.out.cell 1 rfl 0; have k9 := HN.out.frozen 1 rfl))
 any_goals (apply absurd (of_decide_eq_true x4); assumption)
 have HF := aM (HN.out.setVar 1 rfl 0 (.slice (some ⟨go1, 0, none⟩) o.length co))
 refine bodyPost_ret (results_ct rfl _ _ (w.heap.size + 1) 30 #[.slice (some ⟨go1, 0, none⟩) o.length co] (0, 0) _ rfl (HF.out.blk 1 rfl) Tryz.underlying30 rfl (by kernel_rfl)) rfl ?_
 refine ⟨_, rfl, ?_, HF.out.below⟩
 unfold Y1.dec
 rw [← HR.out, ← HY.out]
 exact HF.out.get 3 rfl}
 · {
 have z1 : decide (1 < z) = false := decide_eq_false (by rw [HZ.out]; exact hz1)
 have z2 : decide (z > 1) = false := z1
 have hge := HG.out; clear HG
 unfold Y1.go at hge
 rw [Int.toNat_natCast, if_neg hz1] at hge
 obtain ⟨rfl, rfl⟩ := Prod.mk.inj hge
 clear hge hz1
 have b1 : decide ((x : Int) < (o.length : Int) - 1) = decide (x < o.length - 1) := Y1.dec_nat x o.length hxd
 go_upto_if 44 with (first | (go_at_call 42; refine (Y12.calls k _ _ _ _ _ _ (Kd.C_below HC.out H.out.below) HL.out E2.out).mono ?_; rintro e w' ⟨v_, v2_, rfl, hs_, hs2_, hb⟩; replace H := aM (H.out.add (o := row _ _ _ _) hb hs_); clear hb hs_ hs2_ k2; obtain ⟨gs, cs_, e1, _, _⟩ := H.out.form1 4 rfl (by rw [HRS.out]; omega); subst e1; obtain ⟨hq, _⟩ := H.out.cellI 4 rfl x (by rw [HRS.out]; exact hxd); rw [← HZ.out] at hq))
 any_goals (apply absurd (of_decide_eq_true x4); assumption)
 replace H := aM (H.out.keep 4)
 clear hq
 go_cut [5] (fun s5 wx => s5 = .int .i64 (o.length : Int) ∧ Aside0 (Live w wx [var w.heap.size #[.slice A0 o.length c0] 30, var (w.heap.size + 1) #[.slice none 0 0] 30, var g6 #[.slice (some ⟨go1, 0, none⟩) o.length co] 30, rows (Kd.slice 3 (Kd.int .i64)) 24 (.slice (some ⟨go1, 0, none⟩) o.length co) (if x < o.length - 1 then Y1.cut1 o x x else o)]))
 case first => (
 by_cases cx : x < o.length - 1
 · {
 have cxd : decide (x < o.length - 1) = true := decide_eq_true cx
 rw [cxd]
 have k6 : w'.cell? ⟨g6, 0, none⟩ = some (.slice (some ⟨go1, 0, none⟩) o.length co) := H.out.cell 2 rfl 0
 have hcut : ∀ W, (Instr.slice 28 (.slice (some ⟨go1, 0, none⟩) o.length co) none (some (.int .i64 (x : Int))) none).run Tryz.prog W = .ok (.slice (some ⟨go1, 0, none⟩) x co) W := fun W => cut_take (P := Tryz.prog) 28 24 .i64 Tryz.underlying28 info24 (some ⟨go1, 0, none⟩) o.length co x (by have := (H.out.nows 3 rfl).2.1; omega) W
 go_wp2_with (fail)
 have CX := aM cx
 clear hcut k6 cxd cx
 go_loopg [50] (x + 1) (fun kq v50 w' => ∃ i : Nat, v50 = .int .i64 (i : Int) ∧ Aside0 (i ≤ x ∧ kq = x - i + 1) ∧ Aside0 (Live w w' [var w.heap.size #[.slice A0 o.length c0] 30, var (w.heap.size + 1) #[.slice none 0 0] 30, var g6 #[.slice (some ⟨go1, 0, none⟩) o.length co] 30, rows (Kd.slice 3 (Kd.int .i64)) 24 (.slice (some ⟨go1, 0, none⟩) o.length co) (Y1.cut1 o x i)]))
 case atStart => exact ⟨0, rfl, ⟨Nat.zero_le _, rfl⟩, ⟨by simpa [Y1.cut1] using H.out⟩⟩
 case round => (
 clear H
 rename World => wz
 obtain ⟨i, rfl, HI, H⟩ := hrel
 have h3l : (Y1.cut1 o x i).length = o.length := Mem.part_len _ _ _
 by_cases ci : i < x
 · {
 have c1 : decide ((i : Int) < (x : Int)) = true := decide_eq_true (by omega)
 have c2 : decide (i < x) = true := decide_eq_true ci
 have h3g : (Y1.cut1 o x i).getD i [] = o.getD i [] := Mem.part_get _ _ _ _ (by omega)
 have hrl : (o.getD i []).length = o.length := HOK.out.2.1 _ (by rw [List.getD_eq_getElem?_getD, List.getElem?_eq_getElem (by omega)]; exact List.getElem_mem _)
 obtain ⟨rr, hrr⟩ : ∃ rr, rr = o.getD i [] := ⟨_, rfl⟩
 rw [← hrr] at h3g hrl
 obtain ⟨gr, cr, hcx, hlx, hq, hqf, hput⟩ := H.out.at2 3 rfl i (o.length - 1) (by rw [h3l]; omega) (by rw [h3g, hrl]; omega)
 obtain ⟨gr2, cr2, hcx2, _, hq2, _, _⟩ := H.out.at2 3 rfl i x (by rw [h3l]; omega) (by rw [h3g, hrl]; omega)
 have he := hcx.symm.trans hcx2
 injection he with he
 injection he with he1 _ he2
 injection he1 with he1
 injection he1 with he1
 subst he1; subst he2
 clear hcx2
 rw [h3g] at hcx hlx hq hq2 hput
 rw [hrl] at hcx hlx
 obtain ⟨vx, hvx⟩ : ∃ vx, vx = rr.getD x 0 := ⟨_, rfl⟩
 obtain ⟨vd, hvd⟩ : ∃ vd, vd = rr.getD (o.length - 1) 0 := ⟨_, rfl⟩
 rw [← hvx] at hq2; rw [← hvd] at hq
 have HN := aM (hput.out vx); clear hput
 rw [show (Y1.cut1 o x i).set i (rr.set (o.length - 1) vx) = Y1.cut1 o x (i + 1) from by rw [hvx, hrr]; exact Mem.part_set (Y1.cp x (o.length - 1)) i o [] (by omega)] at HN
 clear hrr hvd hvx h3g hrl h3l
 go_wp2
 go_roundg (x - i)
 case measure => have := HI.out; omega
 case rel => exact ⟨i + 1, rfl, ⟨by omega, by omega⟩, HN⟩}
 · {
 have c1 : decide ((i : Int) < (x : Int)) = false := decide_eq_false (by omega)
 have c2 : decide (i < x) = false := decide_eq_false ci
 obtain rfl : i = x := by have := HI.out; omega
 clear h3l
 go_wp2
 go_meet
 exact ⟨rfl, by rw [if_pos CX.out]; exact H⟩})}
 · {
 have cxd : decide (x < o.length - 1) = false := decide_eq_false cx
 go_wp2_with (fail)
 go_meet
 exact ⟨rfl, by rw [if_neg cx]; exact H⟩})
 case rest => (
 rename_i aK2
 obtain ⟨rfl, HZ2⟩ := hcut
 clear H
 rename World => wd
 have H := HZ2; clear HZ2
 refine aK2 _ _ ?_
 obtain ⟨q, hqd⟩ : ∃ q, q = (if x < o.length - 1 then Y1.cut1 o x x else o) := ⟨_, rfl⟩
 rw [← hqd] at H
 have hql : q.length = o.length := by {
 rw [hqd]; split
 · exact Mem.part_len _ _ _
 · rfl}
 obtain ⟨p, hp⟩ : ∃ p, p = Y1.cut2 o x := ⟨_, rfl⟩
 have hqe : q.eraseIdx x = p := by rw [hp, hqd]; rfl
 have hpl : p.length = o.length - 1 := by rw [hp]; exact Y1.cut2_len o x hxd
 have HPR : Aside0 (∀ r ∈ p, r.length = o.length) := ⟨by rw [hp]; exact Y1.cut2_row o x HOK.out.2.1⟩
 have HLESS : Aside0 (Y1.cut3 p x p.length = Y1.less o x) := ⟨by rw [hp]; simp [Y1.cut3, Y1.less]⟩
 have k6 : wd.cell? ⟨g6, 0, none⟩ = some (.slice (some ⟨go1, 0, none⟩) o.length co) := H.out.cell 2 rfl 0
 obtain ⟨inner, hown, hone, hback⟩ := H.out.deleteRow 3 rfl x (by omega)
 rw [hql] at hown hback
 rw [hqe, ← hpl] at hback
 have HBK := aM hback
 have HDEL0 := Y63.owns w.heap.size x o.length (.slice (some ⟨go1, 0, none⟩) o.length co) inner _ hown hxd hone
 rw [← hpl] at HDEL0
 have HDEL := aM HDEL0
 have hp100 : p.length ≤ 100 := by omega
 have wx1 : Aside0 (wrap64 ((x : Int) + 1) = ((x + 1 : Nat) : Int)) := ⟨by unfold wrap64; omega⟩
 have HPL := aM hpl
 clear hqd hql hp hqe hpl hown hone hback HDEL0
 go_wp2_with (first | (go_at_call 118; refine HDEL.out.mono ?_; rintro e w' ⟨v1, rfl, h1, h2, h3⟩; have HN := aM (HBK.out w' v1 h1 h2 h3); clear h1 h2 h3 HBK HDEL; obtain ⟨A1, c1_, rfl, _, _⟩ := HN.out.forms 3 rfl; have m6 : w'.cell? ⟨g6, 0, none⟩ = some (.slice (some ⟨go1, 0, none⟩) o.length co) := HN.out.cell 2 rfl 0; have m7 := HN.out.frozen 2 rfl 0))
 clear H k6
 go_loopg [73] (p.length + 1) (fun kq v73 w' => ∃ i : Nat, v73 = .int .i64 (i : Int) ∧ Aside0 (i ≤ p.length ∧ kq = p.length - i + 1) ∧ Aside0 (Live w w' [var w.heap.size #[.slice A0 o.length c0] 30, var (w.heap.size + 1) #[.slice none 0 0] 30, var g6 #[.slice A1 p.length c1_] 30, rows (Kd.slice 3 (Kd.int .i64)) 24 (.slice A1 p.length c1_) (Y1.cut3 p x i)]))
 case atStart => exact ⟨0, rfl, ⟨Nat.zero_le _, rfl⟩, ⟨by simpa [Y1.cut3] using (HN.out.setVar 2 rfl 0 (.slice A1 p.length c1_))⟩⟩
 case round => (
 clear HN m6 m7
 obtain ⟨i, rfl, HI, H⟩ := hrel
 by_cases ci : i < p.length
 · {
 have c1 : decide ((i : Int) < (p.length : Int)) = true := decide_eq_true (by omega)
 have c2 : decide (i < p.length) = true := decide_eq_true ci
 have hwl : (Y1.cut3 p x i).length = p.length := Mem.part_len _ _ _
 have hwg : (Y1.cut3 p x i).getD i [] = p.getD i [] := Mem.part_get _ _ _ _ ci
 obtain ⟨go2, c', e1, _, _⟩ := H.out.forms1 3 rfl (by rw [hwl]; omega)
 injection e1 with ea en ec
 subst ea; subst ec; clear en
 obtain ⟨vi, hci, hfi, HT⟩ := H.out.take 3 rfl i (by rw [hwl]; exact ci)
 rw [hwg] at HT
 obtain ⟨rr, hrw⟩ : ∃ rr, rr = p.getD i [] := ⟨_, rfl⟩
 have hrl : rr.length = o.length := by rw [hrw]; exact HPR.out _ (by rw [List.getD_eq_getElem?_getD, List.getElem?_eq_getElem ci]; exact List.getElem_mem _)
 rw [← hrw] at HT
 have HT := aM HT
 have HRW := aM hrw; have HRL := aM hrl
 obtain ⟨Ai, ci_, rfl, _, _⟩ := HT.out.form 4 rfl
 have WL : Aside0 (i < (Y1.cut3 p x i).length) := ⟨by rw [hwl]; exact ci⟩
 clear hwl hwg hrw hrl hci hfi H
 go_wp2_with (fail)
 refine start_ (n := 14) (S := fun w' => w'.cell? ⟨g6, 0, none⟩ = some (.slice (some ⟨go2, 0, none⟩) p.length c1_) ∧ w'.cell? ⟨go2, i, none⟩ = some (.slice Ai rr.length ci_)) (ds := [13]) #[false, false, false, false, false, false, false, false, false, false, false, false, false, false] (by kernel_rfl) rfl rfl ⟨HT.out.drew.cell 2 rfl 0, HT.out.drew.holeCell 3 rfl rfl WL.out⟩ (fun hHeld => ?_)
 replace HT := aM HT.out.drew
 generalize World.drew wr = wx at HT hHeld ⊢
 obtain ⟨hown, hone, hback⟩ := HT.out.delI 4 rfl x (by rw [HRL.out]; exact hxd)
 have HBK := aM hback
 have HDEL := aM (Y72.owns w.heap.size x rr.length (.slice Ai rr.length ci_) (rr.map (Value.int .i64)) _ hown (by rw [HRL.out]; exact hxd) hone)
 clear hown hone hback
 refine pA 0 76 (h := ?_)
 refine tA 1 77 hHeld (h := ?_)
 refine pA 2 78 (h := ?_)
 refine pA 3 79 (h := ?_)
 refine tA 4 80 hHeld (h := ?_)
 refine pA 5 81 (h := ?_)
 refine pA 6 82 (h := ?_)
 refine tA 7 83 hHeld (h := ?_)
 refine pA 8 84 (h := ?_)
 refine pA 9 85 (h := ?_)
 refine pA 10 86 (h := ?_)
 refine one_ (i := 11) (N := some 87) #[true, true, true, true, true, true, true, true, true, true, true, true, false, false] rfl rfl (by kernel_rfl) (by decide) (fun K hK => ?_)
 refine goes_ Tryz.func119 (by kernel_rfl) rfl #[.slice Ai rr.length ci_, .int .i64 (x : Int), .int .i64 ((x + 1 : Nat) : Int)] (by rfl) rfl rfl (by (try simp only [List.map_toArray, List.map_cons, List.map_nil]); first | done | rfl | (rw [← wx1.out]; rfl) | (rw [Int.natCast_add]; rfl)) ?_
 refine HDEL.out.mono ?_
 rintro e w3 ⟨v87, rfl, h1, h2, h3⟩
 refine ⟨_, rfl, ?_⟩
 have HN := aM (HBK.out w3 v87 h1 h2 h3)
 clear h1 h2 h3 HBK HDEL
 obtain ⟨A87, c87, rfl, _, _⟩ := HN.out.form 4 rfl
 refine hK.out _ _ ⟨HN.out.cell 2 rfl 0, HN.out.holeCell 3 rfl rfl WL.out⟩ (fun hHeld => ?_)
 clear hK K
 refine nA 87 (h := ?_)
 refine pA 12 88 (h := ?_)
 refine last_ (i := 13) (N := none) #[true, true, true, true, true, true, true, true, true, true, true, true, true, true] rfl rfl (by kernel_rfl) (by decide) (fun K hK => ?_)
 have q6 : w3.cell? ⟨go2, i, none⟩ = some (.slice Ai rr.length ci_) := HN.out.holeCell 3 rfl rfl WL.out
 have q7 := HN.out.holeFrozen 3 rfl i
 refine skip_ (w1 := ?_) (by rfl) rfl ?_ ?_
 rotate_left
 · {
 go_simp
 rfl}
 refine hK.out _ _ ?_
 clear hK K
 refine done_ (by kernel_rfl) ?_
 have HF := aM (((HN.out.setHole 3 rfl rfl WL.out (.slice A87 (rr.eraseIdx x).length c87) rfl).close 3 4 rfl rfl (by decide)).keep 4)
 rw [show (Y1.cut3 p x i).set i (rr.eraseIdx x) = Y1.cut3 p x (i + 1) from by rw [HRW.out]; exact Mem.part_set (fun r => r.eraseIdx x) i p [] ci] at HF
 go_wp2
 go_roundg (p.length - i)
 case measure => have := HI.out; omega
 case rel => exact ⟨i + 1, rfl, ⟨by omega, by omega⟩, HF⟩}
 · {
 have c1 : decide ((i : Int) < (p.length : Int)) = false := decide_eq_false (by omega)
 have c2 : decide (i < p.length) = false := decide_eq_false ci
 obtain rfl : i = p.length := by have := HI.out; omega
 have k6 := H.out.cell 2 rfl 0
 have k8 := H.out.cell 1 rfl 0
 have k9 := H.out.frozen 1 rfl
 go_wp2
 have HF := aM (H.out.setVar 1 rfl 0 (.slice A1 p.length c1_))
 refine bodyPost_ret (results_ct rfl _ _ (w.heap.size + 1) 30 #[.slice A1 p.length c1_] (0, 0) _ rfl (HF.out.blk 1 rfl) Tryz.underlying30 rfl (by kernel_rfl)) rfl ?_
 refine ⟨_, rfl, ?_, HF.out.below⟩
 rw [← HLESS.out]
 exact HF.out.get 3 rfl}))})
end Go.Proofs.YtcodionjhcmfhaaGreatDoor.Oa
