-- Written by hook.py, a program of this session (wip/), which runs the kit's print.py with its own parts; Lean checks it.
import Derived.Test.YtcodionjhcmfhaaGreatDoorAx0
import Derived.Test.YtcodionjhcmfhaaGreatDoorAx10
import Derived.Test.YtcodionjhcmfhaaGreatDoorAxXSq
namespace Go.Proofs.YtcodionjhcmfhaaGreatDoor.Ax
open Go.RowKit Go.Proofs.YtcodionjhcmfhaaGreatDoorW.PrintWords Go.Proofs.YtcodionjhcmfhaaGreatDoorW.PrintLast Go.Proofs.YtcodionjhcmfhaaGreatDoorW.PrintMore Go.Proofs.YtcodionjhcmfhaaGreatDoor.Sq
attribute [local go_sem] max2_int min2_int max_two min_two max_three min_three max_four min_four   -- for this text's walks alone
set_option linter.unusedVariables false
set_option linter.unusedSimpArgs false

def spec_maOwn.l0 : Nat → List (List Int) → Int → Int → List (List Int) → Option ((List (List Int)))
 | 0, _, _, _, _ => none
 | k + 1, x8, x9, x10, x258000 => if x10 < x9 then (if 0 ≤ x10 then (if x10 < (x8.length : Int) then ((spec_l1Own.f (rd_L2 x8 x10)).bind fun t259 => (if x258000.length < 5864062014805 then (spec_maOwn.l0 k x8 x9 (wrap64 (x10 + 1)) (x258000 ++ [t259])) else (none))) else (none)) else (none)) else (some x258000)
def spec_maOwn.f (k : Nat) (l0_0 : List (List Int)) : Option ((List (List Int))) := spec_maOwn.l0 k l0_0 (l0_0.length : Int) 0 ([] : List (List Int))
def spec_maOwn.T5 : Bool × List (List Nat × List Nat) := (true, [([], []), ([0], [0]), ([], []), ([2], [2]), ([3], [3]), ([1, 4, 3], [1, 4]), ([0, 1, 2, 3, 4, 5], []), ([6, 5, 5, 0, 1, 2, 3, 4, 5], [5, 6])])
def spec_maOwn.B5 : List Nat := [0, 1, 0, 4, 12, 31, 63, 127]
theorem spec_maOwn.tab5 : rtab .any (opsOf Tryz.f126 5) = spec_maOwn.T5 := by kernel_rfl
theorem spec_maOwn.bits5 : waitsOk spec_maOwn.T5.2 spec_maOwn.B5 = true := by kernel_rfl
set_option maxHeartbeats 8000000 in
set_option maxRecDepth 100000 in
theorem spec_maOwn.calls (k : Nat) (A0_0 : Option Addr) (c0_0 : Nat) (l0_0 : List (List Int)) (r : List (List Int)) (w : World) (hr0_0 : Kd.C (Kd.slice 3 (Kd.int .i64)) w A0_0 l0_0.length l0_0) (hc0_0 : l0_0.length ≤ c0_0) (h : spec_maOwn.f k l0_0 = some r) :
  Calls Tryz.prog 126 #[.agg #[.slice A0_0 l0_0.length c0_0]] w fun e w' => ∃ v0_ : Value, e = .returned (.agg #[v0_]) ∧ Kd.S (Kd.slice 3 (Kd.int .i64)) 24 w' w.heap.size (fun _ => True) v0_ r ∧ Below w.heap.size w w' := by
 have hu30 := Tryz.underlying30
 have HR0_0 := aM hr0_0
 have HC0_0 := aM hc0_0
 clear hr0_0 hc0_0
 have HB := aM (Below.refl w.heap.size w)
 have H : (spec_maOwn.l0 k l0_0 (l0_0.length : Int) 0 ([] : List (List Int))) = some r := h
 clear h
 have H' := aM H
 clear H
 go_enter Tryz.func126, Tryz.ntmps126
 go_wp2_with (first | ((with_reducible refine gate_dst (N := 1) rfl ?_); refine bE 1 30 #[.slice A0_0 l0_0.length c0_0] ?_; intro gb255 hg w2 hbox hb; have _ := aM (below_step bq hb); have _ := aM (hbox); have _ := aM ((gS hg)); have _ := aM ((gS hg)); clear HB; rename_i HB BK255 GW255 GE255; clear hb hbox hg) | ((with_reducible refine gate_dst (N := 2) rfl ?_); refine bE 2 30 #[.slice none 0 0] ?_; intro gb256 hg w3 hbox hb; have _ := aM (blk_below (qQ BK255) hb); have _ := aM (below_step bq hb); have _ := aM (hbox); have _ := aM ((gS hg)); have _ := aM ((gS hg)); have _ := aM ((by rw [hg]; exact Nat.ne_of_lt (blk_lt (g := gb255) (o := .cells #[.slice A0_0 l0_0.length c0_0] 30 (0, 0)) (qQ BK255)) : gb255 ≠ gb256)); have _ := aM ((by rw [hg]; exact Nat.ne_of_gt (blk_lt (g := gb255) (o := .cells #[.slice A0_0 l0_0.length c0_0] 30 (0, 0)) (qQ BK255)) : gb256 ≠ gb255)); clear BK255 HB; rename_i BK255 HB BK256 GW256 GE256 NB255_256 NB256_255; clear hb hbox hg) | ((with_reducible refine gate_dst (N := 3) rfl ?_); refine bE 3 30 #[.slice none 0 0] ?_; intro gb257 hg w4 hbox hb; have _ := aM (blk_below (qQ BK255) hb); have _ := aM (blk_below (qQ BK256) hb); have _ := aM (below_step bq hb); have _ := aM (hbox); have _ := aM ((gS hg)); have _ := aM ((gS hg)); have _ := aM ((by rw [hg]; exact Nat.ne_of_lt (blk_lt (g := gb255) (o := .cells #[.slice A0_0 l0_0.length c0_0] 30 (0, 0)) (qQ BK255)) : gb255 ≠ gb257)); have _ := aM ((by rw [hg]; exact Nat.ne_of_gt (blk_lt (g := gb255) (o := .cells #[.slice A0_0 l0_0.length c0_0] 30 (0, 0)) (qQ BK255)) : gb257 ≠ gb255)); have _ := aM ((by rw [hg]; exact Nat.ne_of_lt (blk_lt (g := gb256) (o := .cells #[.slice none 0 0] 30 (0, 0)) (qQ BK256)) : gb256 ≠ gb257)); have _ := aM ((by rw [hg]; exact Nat.ne_of_gt (blk_lt (g := gb256) (o := .cells #[.slice none 0 0] 30 (0, 0)) (qQ BK256)) : gb257 ≠ gb256)); clear BK255 BK256 HB; rename_i BK255 BK256 HB BK257 GW257 GE257 NB255_257 NB257_255 NB256_257 NB257_256; clear hb hbox hg; have hnb5 := NB257_255.out; have hnc5 := NB255_257.out; have hnb6 := NB257_256.out; have hnc6 := NB256_257.out; have hcz7_0 := c10 BK257; have hfz7_0 := blk_frozen BK257.out 0; have hnb8 := NB255_256.out; have hnc8 := NB256_255.out; have hcz9_0 := c10 BK255; have hfz9_0 := blk_frozen BK255.out 0))
 go_loopg [10] k (fun kq v10 w' => ∃ (x10_1 : Int) (x258000_1 : List (List Int)) (u258000 : Value), v10 = .int .i64 x10_1 ∧ Aside0 (spec_maOwn.l0 kq l0_0 (l0_0.length : Int) x10_1 x258000_1 = some r) ∧ Aside0 (kq ≤ k) ∧ Aside0 (Kd.S (Kd.slice 3 (Kd.int .i64)) 24 w' w.heap.size (fun _ => True) u258000 x258000_1) ∧ Aside0 (w'.heap[gb255]? = some (.cells #[(.slice A0_0 l0_0.length c0_0)] 30 (0, 0))) ∧ Aside0 (w'.heap[gb256]? = some (.cells #[(.slice none 0 0)] 30 (0, 0))) ∧ Aside0 (w'.heap[gb257]? = some (.cells #[u258000] 30 (0, 0))) ∧ Aside0 (Below w.heap.size w w'))
 case atStart => exact ⟨(0), (([] : List (List Int))), (.slice none 0 0), eR, H', ⟨Nat.le_refl _⟩, ⟨by first | exact Kd.S_nil _ _ _ _ _ | exact Kd.N_nil _ _ _ _ _ | exact Kd.V_nil _ _ _ _ _ | exact Kd.Q_nil _ _ _ _ _ | exact Kd.R_nil _ _ _ _ _⟩, ⟨by (with_reducible repeat first|apply qN|apply qD|apply qA); refine blk_far ?_ NB255_257.out _; (with_reducible repeat first|apply qN|apply qD|apply qA); exact BK255.out⟩, ⟨by (with_reducible repeat first|apply qN|apply qD|apply qA); refine blk_far ?_ NB256_257.out _; (with_reducible repeat first|apply qN|apply qD|apply qA); exact BK256.out⟩, ⟨by (with_reducible repeat first|apply qN|apply qD|apply qA); refine blk_put (cs := #[.slice none 0 0]) ?_ 0 _ rfl; (with_reducible repeat first|apply qN|apply qD|apply qA); exact BK257.out⟩, ⟨bq⟩⟩
 case round =>
  clear H'
  try clear c1
  try clear p2
  try clear c5
  try clear c6
  try clear c8
  try clear hcz7_0
  try clear hcz9_0
  try clear hfz7_0
  try clear hfz9_0
  obtain ⟨x10_1, x258000_1, u258000, rfl, HA, HK1, HO_258000, BK255, BK256, BK257, HB⟩ := hrel
  cases gk with
  | zero => exact absurd HA.out (by simp [spec_maOwn.l0])
  | succ k1 =>
   have H := HA.out
   clear HA
   simp only [spec_maOwn.l0] at H
   by_cases c10 : x10_1 < (l0_0.length : Int)
   ·rw [if_pos c10] at H
    have c10b0 := decide_eq_true c10
    clear c10
    replace H := iD2 H
    obtain ⟨c11b0, c12b0, H⟩ := H
    replace H := bS H
    obtain ⟨t259, A13, H⟩ := H
    try dsimp only at H
    replace H := iS H
    obtain ⟨c14, H⟩ := H
    have LMc14 := aM c14
    clear c14
    obtain ⟨y262, hy262⟩ : ∃ y_ : List (List Int), y_ = (x258000_1 ++ [t259]) := ⟨_, rfl⟩
    replace H : (spec_maOwn.l0 k1 l0_0 (l0_0.length : Int) (wrap64 (x10_1 + 1)) y262) = some r := by first | (rw [hy262]; with_reducible exact H) | (have H2_ := (Option.bind_some _ _).symm.trans H; rw [hy262]; with_reducible exact H2_) | (have H2_ := (Option.bind_some _ _).symm.trans H; with_reducible exact H2_) | with_reducible exact H | (rw [hy262]; exact H) | exact H
    have Ny262 := aM hy262
    clear hy262
    have H' := aM H
    clear H
    have p258 : 0 ≤ (x10_1 : Int) := odt
    have q258 : x10_1 < (l0_0.length : Int) := odt
    obtain ⟨ad258, A258_0, c258_0, e258, hx258_0, hl258_0, hi258_0⟩ := at_L2 HR0_0.out x10_1 p258 q258
    cases e258
    replace hx258_0 := (HB.out.cell (World.block_lt_of_cell? w _ hx258_0)).trans hx258_0
    have HR258_0 := aM hi258_0
    have HC258_0 := aM hl258_0
    clear hi258_0 hl258_0
    replace p258 := eq_true p258
    replace q258 := eq_true q258
    try go_wp2
    have n0_ := aM (Kd.S_drew HO_258000.out)
    have n1_ := aM (blk_drew BK255.out)
    have n2_ := aM (blk_drew BK256.out)
    have n3_ := aM (blk_drew BK257.out)
    have n4_ := aM (below_drew1 HB.out)
    clear HO_258000
    clear BK255
    clear BK256
    clear BK257
    clear HB
    have HO_258000 := n0_
    have BK255 := n1_
    have BK256 := n2_
    have BK257 := n3_
    have HB := n4_
    clear n0_ n1_ n2_ n3_ n4_
    refine start_ (n := 8) (S := fun w' => w'.cell? ⟨gb257, 0, none⟩ = some (u258000)) (ds := [7]) #[false, false, false, false, false, false, false, false] (by kernel_rfl) rfl rfl ((blk_cell BK257.out 0).trans rfl) (fun hHeld => ?_); refine with_tabW spec_maOwn.tab5 spec_maOwn.bits5 (fun HT_ HW_ => ?_)
    generalize wr.drew = w15 at HO_258000 BK255 BK256 BK257 HB hHeld ⊢
    refine pure_ (i := 0) (N := some 14) (v := ?_) (a' := ?_) #[true, false, false, false, false, false, false, false] rfl rfl (any_of HT_.out (by kernel_rfl)) (fun _ _ _ h => h) (Or.inl ⟨by rfl, ?_⟩) ?_ ?_
    rotate_left
    ·intro w'
     go_simp
     with_reducible rfl
    rotate_left
    ·simp only [Act.put, List.setIfInBounds_toArray, List.set_cons_zero, List.set_cons_succ, i64_w, i32_w]
     rfl
    refine pure_ (i := 2) (N := some 16) (v := ?_) (a' := ?_) #[true, false, true, false, false, false, false, false] rfl rfl (any_of HT_.out (by kernel_rfl)) (fun _ _ _ h => h) (Or.inl ⟨by rfl, ?_⟩) ?_ ?_
    rotate_left
    ·intro w'
     go_simp
     with_reducible rfl
    rotate_left
    ·simp only [Act.put, List.setIfInBounds_toArray, List.set_cons_zero, List.set_cons_succ, i64_w, i32_w]
     rfl
    refine take_ (i := 1) (N := some 15) (v := ?_) (a' := ?_) #[true, true, true, false, false, false, false, false] rfl rfl (take_ofW HT_.out HW_.out (by kernel_rfl)) (fun _ _ _ h => h) (Or.inl ⟨by rfl, ?_⟩) hHeld ?_ ?_
    rotate_left
    ·intro w' s0
     go_simp
     with_reducible rfl
    rotate_left
    ·simp only [Act.put, List.setIfInBounds_toArray, List.set_cons_zero, List.set_cons_succ, i64_w, i32_w]
     rfl
    refine one_ (i := 3) (N := some 17) #[true, true, true, true, false, false, false, false] rfl rfl (one_of HT_.out (by kernel_rfl)) (by decide) (fun K hK => ?_)
    refine goes_ Tryz.func127 (by kernel_rfl) rfl #[.slice A258_0 (rd_L2 l0_0 x10_1).length c258_0] (by rfl) rfl rfl (by (try simp only [List.map_toArray, List.map_cons, List.map_nil]); first | done | rfl | (simp only [List.length_drop, List.length_take]; rfl)) ?_
    with_reducible refine (spec_l1Own.calls _ _ (rd_L2 l0_0 x10_1) t259 _ ?side1 ?side2 A13.out).mono ?_
    (case side1 => repeat (first | exact (Kd.C_below HR258_0.out HB.out) | (with_reducible refine Kd.C_alloc ?_ _) | (with_reducible refine Kd.C_drewN ?_ _) | (with_reducible refine Kd.C_drew ?_)))
    (case side2 => exact HC258_0.out)
    rintro e w16 ⟨v260, rfl, ho0, hb⟩
    refine ⟨_, rfl, ?_⟩
    have n0_ := aM (Kd.S_elder' (sQ HO_258000) (Kd.R_base ho0) hb)
    have n1_ := aM (Kd.R_lower ho0 (below_size bq))
    have n2_ := aM (blk_below (qQ BK255) hb)
    have n3_ := aM (blk_below (qQ BK256) hb)
    have n4_ := aM (blk_below (qQ BK257) hb)
    have n5_ := aM (below_step bq hb)
    clear HO_258000
    clear BK255
    clear BK256
    clear BK257
    clear HB
    have HO_258000 := n0_
    have HO261 := n1_
    have BK255 := n2_
    have BK256 := n3_
    have BK257 := n4_
    have HB := n5_
    clear n0_ n1_ n2_ n3_ n4_ n5_
    (try clear hb)
    (try clear hb2)
    (try clear hk)
    (try clear hi)
    (try clear ho0)
    obtain ⟨Ao18, co18, eo18⟩ := Kd.R_slice HO261.out
    (first | subst eo18 | (injection eo18 with f1_ f2_ f3_; have f4_ := f1_.symm; have f5_ := f3_.symm; clear f1_ f2_ f3_; subst f4_; subst f5_))
    refine hK.out _ _ ((blk_cell BK257.out 0).trans rfl) (fun hHeld => ?_)
    clear hK K
    refine norm_ (a' := ?_) ?_ ?_
    rotate_left
    ·show Act.put _ (some 17) _ = _
     simp only [Act.put, List.setIfInBounds_toArray, List.set_cons_zero, List.set_cons_succ, i64_w, i32_w]
     rfl
    refine one_ (i := 4) (N := some 18) #[true, true, true, true, true, false, false, false] rfl rfl (one_of HT_.out (by kernel_rfl)) (by decide) (fun K hK => ?_)
    refine value_ (w1 := ?_) (v := ?_) (by rfl) rfl ?_ ?_
    rotate_left 2
    ·go_simp
     constructor
     ·rfl
     ·rfl
    refine hK.out _ _ ((blk_cell (blk_alloc BK257.out _) 0).trans rfl) (fun hHeld => ?_)
    clear hK K
    refine norm_ (a' := ?_) ?_ ?_
    rotate_left
    ·show Act.put _ (some 18) _ = _
     simp only [Act.put, List.setIfInBounds_toArray, List.set_cons_zero, List.set_cons_succ, i64_w, i32_w]
     rfl
    refine one_ (i := 5) (N := some 19) #[true, true, true, true, true, true, false, false] rfl rfl (one_of HT_.out (by kernel_rfl)) (by decide) (fun K hK => ?_)
    refine Kd.S_append_step (Kd.slice 3 (Kd.int .i64)) (w0 := w) w.heap.size (by rfl) (.tmp 15) (.tmp 18) 28 24 (.slice none 0 0) 24 rfl Tryz.underlying28 info24 rfl (by decide) (by omega) u258000 x258000_1 t259 [.slice Ao18 t259.length co18] (fun _ => True) (fun k_ => some k_ = (.slice Ao18 t259.length co18 : Value).ownBlock) rfl rfl ?aP (fun k_ hk_ => ((Kd.R_mono (ok' := fun k_ => ((fun _ => True)) k_ ∧ some k_ ≠ (u258000 : Value).ownBlock) (Kd.R_apart' (HO261.out) (Kd.S_typed HO_258000.out) (by decide)) (fun k_ hk => ⟨trivial, hk.2⟩))).1 k_ hk_.symm) ?aF ?aO ?aB ?aS ?aL ?_
    (case aP => exact Kd.M_row (Kd.R_mono (Kd.R_tight rfl (Kd.R_mono (ok' := fun k_ => ((fun _ => True)) k_ ∧ some k_ ≠ (u258000 : Value).ownBlock) (Kd.R_apart' (HO261.out) (Kd.S_typed HO_258000.out) (by decide)) (fun k_ hk => ⟨trivial, hk.2⟩))) (fun _ h_ => h_)))
    (case aB => exact bq)
    (case aF => exact (fun _ _ => trivial))
    (case aO => exact (by (with_reducible repeat first|apply sA|apply sN|apply sD); exact Kd.S_mono HO_258000.out (fun k_ hk => ⟨trivial, fun e_ => hk.2 e_⟩)))
    (case aS => exact (below_size bq))
    (case aL => have := LMc14.out; omega)
    intro v263 w17 ho hb hg hat
    rw [← Ny262.out] at ho
    have n0_ := aM (blk_grown (g := gb255) (o := .cells #[.slice (some ad258) l0_0.length c0_0] 30 (0, 0)) (qQ BK255) hg (Kd.S_ne HO_258000.out BK255.out (by decide)))
    have n1_ := aM (blk_grown (g := gb256) (o := .cells #[.slice none 0 0] 30 (0, 0)) (qQ BK256) hg (Kd.S_ne HO_258000.out BK256.out (by decide)))
    have n2_ := aM (blk_grown (g := gb257) (o := .cells #[u258000] 30 (0, 0)) (qQ BK257) hg (Kd.S_ne HO_258000.out BK257.out (by decide)))
    have n3_ := aM (hb)
    have n4_ := aM (ho)
    clear BK255
    clear BK256
    clear BK257
    clear HB
    clear HO_258000
    clear HO261
    have BK255 := n0_
    have BK256 := n1_
    have BK257 := n2_
    have HB := n3_
    have HO264 := n4_
    clear n0_ n1_ n2_ n3_ n4_
    clear ho hb hg hat
    obtain ⟨Ao19, co19, eo19⟩ := Kd.S_slice HO264.out
    (first | subst eo19 | (injection eo19 with f1_ f2_ f3_; have f4_ := f1_.symm; have f5_ := f3_.symm; clear f1_ f2_ f3_; subst f4_; subst f5_))
    refine hK.out _ _ ((blk_cell BK257.out 0).trans rfl) (fun hHeld => ?_)
    clear hK K
    refine norm_ (a' := ?_) ?_ ?_
    rotate_left
    ·show Act.put _ (some 19) _ = _
     simp only [Act.put, List.setIfInBounds_toArray, List.set_cons_zero, List.set_cons_succ, i64_w, i32_w]
     rfl
    refine pure_ (i := 6) (N := some 20) (v := ?_) (a' := ?_) #[true, true, true, true, true, true, true, false] rfl rfl (any_of HT_.out (by kernel_rfl)) (fun _ _ _ h => h) (Or.inl ⟨by rfl, ?_⟩) ?_ ?_
    rotate_left
    ·intro w'
     go_simp
     with_reducible rfl
    rotate_left
    ·simp only [Act.put, List.setIfInBounds_toArray, List.set_cons_zero, List.set_cons_succ, i64_w, i32_w]
     rfl
    refine last_ (i := 7) (N := none) #[true, true, true, true, true, true, true, true] rfl rfl (one_of HT_.out (by kernel_rfl)) (by decide) (fun K hK => ?_)
    have hs20 := c10 BK257
    have hfs20 := blk_frozen BK257.out 0
    have hns20_0 := NB255_257.out
    have hns20_1 := NB256_257.out
    have hms20_0 := NB257_255.out
    have hms20_1 := NB257_256.out
    refine skip_ (w1 := ?_) (by rfl) rfl ?_ ?_
    rotate_left
    ·go_simp
     rfl
    refine hK.out _ _ ?_
    clear hK K
    refine done_ (done_of HT_.out (by kernel_rfl)) ?_
    try go_wp2
    go_roundg k1
    case measure => have := HK1.out; omega
    case rel => exact ⟨(wrap64 (x10_1 + 1)), (y262), (.slice Ao19 y262.length co19), eR, H', ⟨by have := HK1.out; omega⟩, ⟨by (with_reducible repeat first|apply sA|apply sN|apply sD); exact Kd.S_mono (Kd.S_far (p := ⟨gb257, 0, none⟩) (Kd.S_types HO264.out BK257.out (by decide)) (fun _ hk => hk.2) (.slice Ao19 y262.length co19)) (fun _ hk => trivial)⟩, ⟨by (with_reducible repeat first|apply qN|apply qD|apply qA); refine blk_far ?_ NB255_257.out _; (with_reducible repeat first|apply qN|apply qD|apply qA); exact BK255.out⟩, ⟨by (with_reducible repeat first|apply qN|apply qD|apply qA); refine blk_far ?_ NB256_257.out _; (with_reducible repeat first|apply qN|apply qD|apply qA); exact BK256.out⟩, ⟨by (with_reducible repeat first|apply qN|apply qD|apply qA); refine blk_put (cs := #[u258000]) ?_ 0 _ rfl; (with_reducible repeat first|apply qN|apply qD|apply qA); exact BK257.out⟩, ⟨bq⟩⟩
   ·rw [if_neg c10] at H
    have c10b0 := decide_eq_false c10
    clear c10
    obtain rfl := Option.some.inj H
    have hnb21 := NB257_255.out
    have hnc21 := NB255_257.out
    have hnb22 := NB257_256.out
    have hnc22 := NB256_257.out
    have hcz23_0 := c10 BK257
    have hfz23_0 := blk_frozen BK257.out 0
    obtain ⟨Ao24, co24, eo24⟩ := Kd.S_slice HO_258000.out
    subst eo24
    have hnb25 := NB256_255.out
    have hnc25 := NB255_256.out
    have hcz26_0 := c10 BK256
    have hfz26_0 := blk_frozen BK256.out 0
    go_wp2
    refine bodyPost_ret (results_cell_row rfl _ _ gb256 30 #[.slice Ao24 x258000_1.length co24] (0, 0) _ rfl (by (with_reducible repeat first|apply qN|apply qD|apply qA); refine blk_put (cs := #[.slice none 0 0]) ?_ 0 _ rfl; (with_reducible repeat first|apply qN|apply qD|apply qA); exact BK256.out) Tryz.underlying30 rfl (by kernel_rfl)) rfl ?_
    exact ⟨_, eE, by (with_reducible repeat first|apply sA|apply sN|apply sD); exact Kd.S_mono (Kd.S_far (p := ⟨gb256, 0, none⟩) (Kd.S_types HO_258000.out BK256.out (by decide)) (fun _ hk => hk.2) (.slice Ao24 x258000_1.length co24)) (fun _ hk => trivial), bq⟩

end Go.Proofs.YtcodionjhcmfhaaGreatDoor.Ax
