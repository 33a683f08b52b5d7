-- Written by hook.py, a program of this session (wip/), which runs the kit's print.py with its own parts; Lean checks it.
import Derived.Test.YtcodionjhcmfhaaDoorBe0
import Derived.Test.YtcodionjhcmfhaaDoorBeXSq
namespace Go.Proofs.YtcodionjhcmfhaaDoor.Be
open Go.RowKit Go.Proofs.YtcodionjhcmfhaaDoorW.PrintWords Go.Proofs.YtcodionjhcmfhaaDoorW.PrintLast Go.Proofs.YtcodionjhcmfhaaDoorW.PrintMore Go.Proofs.YtcodionjhcmfhaaDoor.Sq
attribute [local go_sem] max2_int min2_int max_two min_two max_three min_three max_four min_four   -- for this text's walks alone
set_option linter.unusedVariables false
set_option linter.unusedSimpArgs false

def slices_Clone_int_int.f (l0 : List Int) : Option (List Int) := if l0.length < 17592186044416 then some l0 else none
set_option maxHeartbeats 8000000 in
set_option maxRecDepth 100000 in
theorem slices_Clone_int_int.calls (A0 : Option Addr) (c0 : Nat) (l0 : List Int) (r : List Int) (w : World) (hr0 : Kd.C (Kd.int .i64) w A0 l0.length l0) (hc0 : l0.length ≤ c0) (h : slices_Clone_int_int.f l0 = some r) :
    Calls Tryd.prog 126 #[.slice A0 l0.length c0] w fun e w' => ∃ v0_ : Value, e = .returned (v0_) ∧ Kd.R (Kd.int .i64) 3 w' w.heap.size (fun _ => True) v0_ r ∧ Below w.heap.size w w' := by
 have HB := aM (Below.refl w.heap.size w)
 unfold slices_Clone_int_int.f at h
 by_cases c2 : l0.length < 17592186044416
 · {
 rw [if_pos c2] at h
 obtain rfl := Option.some.inj h
 clear h
 have LMc2 := aM c2
 clear c2
 cases A0 with
 | none => {
 have hn : l0.length = 0 := by {
 rcases Nat.eq_zero_or_pos l0.length with h0 | h0
 · exact h0
 · {
 obtain ⟨ad, he, _⟩ := hr0.2.2 h0
 cases he}}
 obtain rfl : l0 = [] := List.eq_nil_of_length_eq_zero hn
 clear hn hr0 hc0
 have q1 : ∀ (W : World) (n c n' c' : Nat), (binOp .eql 22 (.slice none n c) (.slice none n' c')).run Tryd.prog W = .ok (.bool true) W := fun W n c n' c' => Go.Lib.run_eql_slice_nil W _ _ none n c n' c' Tryd.underlying22
 go_enter Tryd.func126, Tryd.ntmps126
 go_wp2
 go_ret
 exact ⟨_, rfl, Kd.R_nil _ _ _ _ _, by repeat (first | (with_reducible first | exact HB.out | apply below_alloc | apply pw_below_drewN | apply below_drew1) | exact HB.out)⟩}
 | some ad0 => {
 have HR0 := aM hr0
 have HC0 := aM hc0
 clear hr0 hc0
 obtain ⟨y580, hy580⟩ : ∃ y_ : List Int, y_ = (([] : List Int)) := ⟨_, rfl⟩
 have Ny580 := aM hy580
 clear hy580
 obtain ⟨y583, hy583⟩ : ∃ y_ : List Int, y_ = (y580 ++ l0) := ⟨_, rfl⟩
 have Ny583 := aM hy583
 clear hy583
 have q1 : ∀ (W : World) (n c n' c' : Nat), (binOp .eql 22 (.slice (some ad0) n c) (.slice none n' c')).run Tryd.prog W = .ok (.bool false) W := fun W n c n' c' => Go.Lib.run_eql_slice_nil W _ _ (some ad0) n c n' c' Tryd.underlying22
 have E583 : Aside0 (y583 = l0) := ⟨by rw [Ny583.out, Ny580.out]; rfl⟩
 go_enter Tryd.func126, Tryd.ntmps126
 go_wp2_with (first | ((with_reducible refine gate_dst (N := 5) rfl ?_); refine Kd.R_lit (Kd.int .i64) _ 3 ?hg (N := 5) ?hd (xs := ([] : List Int)) (inner := []) (ok := fun _ => True) (okp := fun _ => True) ?hr ?hp (fun _ hk => hk) trivial (Below.refl _ _) (Nat.le_refl _) (by simp) ?_; (case hd => rfl); (case hg => rfl); (case hr => first | (go_simp; done) | (go_simp; rfl)); (case hp => exact (Reps.none _ _)); intro v581 w3 ho4 hb hg_ hnew_; clear hg_ hnew_; (first | rw [← Ny580.out] at ho4 | (simp only [Int.reduceToNat] at ho4; rw [← Ny580.out] at ho4)); have _ := aM (Kd.R_lower ho4 (below_size (by repeat (first | (with_reducible first | exact HB.out | apply below_alloc | apply pw_below_drewN | apply below_drew1) | exact HB.out)))); have _ := aM (below_step (by repeat (first | (with_reducible first | exact HB.out | apply below_alloc | apply pw_below_drewN | apply below_drew1) | exact HB.out)) hb); clear HB; rename_i HO582 HB; clear hb ho4) | ((with_reducible refine gate_builtin (b := .append) (xs := #[.tmp 5, .tmp 6]) rfl ?_); at_builtin; refine Kd.R_append_rows (Kd.int .i64) (w0 := w) w.heap.size rfl (.tmp 5) (.tmp 6) 22 3 (.int .i64 0) 8 rfl Tryd.underlying22 info3 rfl (by decide) (by omega) v581 y580 l0 _ _ _ (fun _ => True) (fun _ => False) rfl rfl ?aO ?aR (fun _ _ h => h) (fun _ h => h.elim) ?aF ?aB ?aS ?aL ?_; (case aR => repeat (first | exact (Kd.C_below HR0.out HB.out) | (with_reducible refine Kd.C_alloc ?_ _) | (with_reducible refine Kd.C_drewN ?_ _) | (with_reducible refine Kd.C_drew ?_))); (case aB => exact (by repeat (first | (with_reducible first | exact HB.out | apply below_alloc | apply pw_below_drewN | apply below_drew1) | exact HB.out))); (case aF => exact (fun _ _ => trivial)); (case aO => exact (by (with_reducible repeat (first | apply Kd.R_alloc | apply Kd.R_drewN | apply Kd.R_drew)); exact HO582.out)); (case aS => exact (below_size (by repeat (first | (with_reducible first | exact HB.out | apply below_alloc | apply pw_below_drewN | apply below_drew1) | exact HB.out)))); (case aL => have := LMc2.out; have := Ny580.out; simp_all; omega); intro v584 w5 ho hb hg hat; rw [← Ny583.out] at ho; have _ := aM (hb); have _ := aM (ho); clear HB HO582; rename_i HB HO585; clear ho hb hg hat))
 go_ret
 exact ⟨_, rfl, by (with_reducible repeat (first | apply Kd.R_alloc | apply Kd.R_drewN | apply Kd.R_drew)); (have := HO585.out; rw [E583.out] at this; exact this), by repeat (first | (with_reducible first | exact HB.out | apply below_alloc | apply pw_below_drewN | apply below_drew1) | exact HB.out)⟩}}
 · {
 rw [if_neg c2] at h
 exact absurd h (by simp)}
def impl_Matrix_own.l0 : Nat → List (List Int) → Int → Int → List (List Int) → Option ((List (List Int)))
 | 0, _, _, _, _ => none
 | k + 1, x8, x9, x10, x193000 => if x10 < x9 then (if 0 ≤ x10 then (if x10 < (x8.length : Int) then ((slices_Clone_int_int.f (rd_L2 x8 x10)).bind fun t194 => (if x193000.length < 5864062014805 then (impl_Matrix_own.l0 k x8 x9 (wrap64 (x10 + 1)) (x193000 ++ [t194])) else (none))) else (none)) else (none)) else (some x193000)
def impl_Matrix_own.f (k : Nat) (l0_0 : List (List Int)) : Option ((List (List Int))) := impl_Matrix_own.l0 k l0_0 (l0_0.length : Int) 0 ([] : List (List Int))
def impl_Matrix_own.T5 : Bool × List (List Nat × List Nat) := (true, [([], []), ([0], [0]), ([], []), ([2], [2]), ([3], [3]), ([1, 4, 3], [1, 4]), ([0, 1, 2, 3, 4, 5], []), ([6, 5, 5, 0, 1, 2, 3, 4, 5], [5, 6])])
def impl_Matrix_own.B5 : List Nat := [0, 1, 0, 4, 12, 31, 63, 127]
theorem impl_Matrix_own.tab5 : rtab .any (opsOf Tryd.f106 5) = impl_Matrix_own.T5 := by kernel_rfl
theorem impl_Matrix_own.bits5 : waitsOk impl_Matrix_own.T5.2 impl_Matrix_own.B5 = true := by kernel_rfl
set_option maxHeartbeats 8000000 in
set_option maxRecDepth 100000 in
theorem impl_Matrix_own.calls (k : Nat) (A0_0 : Option Addr) (c0_0 : Nat) (l0_0 : List (List Int)) (r : List (List Int)) (w : World) (hr0_0 : Kd.C (Kd.slice 3 (Kd.int .i64)) w A0_0 l0_0.length l0_0) (hc0_0 : l0_0.length ≤ c0_0) (h : impl_Matrix_own.f k l0_0 = some r) :
  Calls Tryd.prog 106 #[.agg #[.slice A0_0 l0_0.length c0_0]] w fun e w' => ∃ v0_ : Value, e = .returned (.agg #[v0_]) ∧ Kd.S (Kd.slice 3 (Kd.int .i64)) 22 w' w.heap.size (fun _ => True) v0_ r ∧ Below w.heap.size w w' := by
 have hu28 := Tryd.underlying28
 have HR0_0 := aM hr0_0
 have HC0_0 := aM hc0_0
 clear hr0_0 hc0_0
 have HB := aM (Below.refl w.heap.size w)
 have H : (impl_Matrix_own.l0 k l0_0 (l0_0.length : Int) 0 ([] : List (List Int))) = some r := h
 clear h
 have H' := aM H
 clear H
 go_enter Tryd.func106, Tryd.ntmps106
 go_wp2_with (first | ((with_reducible refine gate_dst (N := 1) rfl ?_); refine bE 1 28 #[.slice A0_0 l0_0.length c0_0] ?_; intro gb190 hg w2 hbox hb; have _ := aM (below_step bq hb); have _ := aM (hbox); have _ := aM ((gS hg)); have _ := aM ((gS hg)); clear HB; rename_i HB BK190 GW190 GE190; clear hb hbox hg) | ((with_reducible refine gate_dst (N := 2) rfl ?_); refine bE 2 28 #[.slice none 0 0] ?_; intro gb191 hg w3 hbox hb; have _ := aM (blk_below (qQ BK190) hb); have _ := aM (below_step bq hb); have _ := aM (hbox); have _ := aM ((gS hg)); have _ := aM ((gS hg)); have _ := aM ((by rw [hg]; exact Nat.ne_of_lt (blk_lt (g := gb190) (o := .cells #[.slice A0_0 l0_0.length c0_0] 28 (0, 0)) (qQ BK190)) : gb190 ≠ gb191)); have _ := aM ((by rw [hg]; exact Nat.ne_of_gt (blk_lt (g := gb190) (o := .cells #[.slice A0_0 l0_0.length c0_0] 28 (0, 0)) (qQ BK190)) : gb191 ≠ gb190)); clear BK190 HB; rename_i BK190 HB BK191 GW191 GE191 NB190_191 NB191_190; clear hb hbox hg) | ((with_reducible refine gate_dst (N := 3) rfl ?_); refine bE 3 28 #[.slice none 0 0] ?_; intro gb192 hg w4 hbox hb; have _ := aM (blk_below (qQ BK190) hb); have _ := aM (blk_below (qQ BK191) hb); have _ := aM (below_step bq hb); have _ := aM (hbox); have _ := aM ((gS hg)); have _ := aM ((gS hg)); have _ := aM ((by rw [hg]; exact Nat.ne_of_lt (blk_lt (g := gb190) (o := .cells #[.slice A0_0 l0_0.length c0_0] 28 (0, 0)) (qQ BK190)) : gb190 ≠ gb192)); have _ := aM ((by rw [hg]; exact Nat.ne_of_gt (blk_lt (g := gb190) (o := .cells #[.slice A0_0 l0_0.length c0_0] 28 (0, 0)) (qQ BK190)) : gb192 ≠ gb190)); have _ := aM ((by rw [hg]; exact Nat.ne_of_lt (blk_lt (g := gb191) (o := .cells #[.slice none 0 0] 28 (0, 0)) (qQ BK191)) : gb191 ≠ gb192)); have _ := aM ((by rw [hg]; exact Nat.ne_of_gt (blk_lt (g := gb191) (o := .cells #[.slice none 0 0] 28 (0, 0)) (qQ BK191)) : gb192 ≠ gb191)); clear BK190 BK191 HB; rename_i BK190 BK191 HB BK192 GW192 GE192 NB190_192 NB192_190 NB191_192 NB192_191; clear hb hbox hg; have hnb5 := NB192_190.out; have hnc5 := NB190_192.out; have hnb6 := NB192_191.out; have hnc6 := NB191_192.out; have hcz7_0 := zc10 BK192; have hfz7_0 := blk_frozen BK192.out 0; have hnb8 := NB190_191.out; have hnc8 := NB191_190.out; have hcz9_0 := zc10 BK190; have hfz9_0 := blk_frozen BK190.out 0))
 go_loopg [10] k (fun kq v10 w' => ∃ (x10_1 : Int) (x193000_1 : List (List Int)) (u193000 : Value), v10 = .int .i64 x10_1 ∧ Aside0 (impl_Matrix_own.l0 kq l0_0 (l0_0.length : Int) x10_1 x193000_1 = some r) ∧ Aside0 (kq ≤ k) ∧ Aside0 (Kd.S (Kd.slice 3 (Kd.int .i64)) 22 w' w.heap.size (fun _ => True) u193000 x193000_1) ∧ Aside0 (w'.heap[gb190]? = some (.cells #[(.slice A0_0 l0_0.length c0_0)] 28 (0, 0))) ∧ Aside0 (w'.heap[gb191]? = some (.cells #[(.slice none 0 0)] 28 (0, 0))) ∧ Aside0 (w'.heap[gb192]? = some (.cells #[u193000] 28 (0, 0))) ∧ Aside0 (Below w.heap.size w w'))
 case atStart => exact ⟨(0), (([] : List (List Int))), (.slice none 0 0), eR, H', ⟨Nat.le_refl _⟩, ⟨by first | exact Kd.S_nil _ _ _ _ _ | exact Kd.N_nil _ _ _ _ _ | exact Kd.V_nil _ _ _ _ _ | exact Kd.Q_nil _ _ _ _ _ | exact Kd.R_nil _ _ _ _ _⟩, ⟨by (with_reducible repeat first|apply qN|apply qD|apply qA); refine blk_far ?_ NB190_192.out _; (with_reducible repeat first|apply qN|apply qD|apply qA); exact BK190.out⟩, ⟨by (with_reducible repeat first|apply qN|apply qD|apply qA); refine blk_far ?_ NB191_192.out _; (with_reducible repeat first|apply qN|apply qD|apply qA); exact BK191.out⟩, ⟨by (with_reducible repeat first|apply qN|apply qD|apply qA); refine blk_put (cs := #[.slice none 0 0]) ?_ 0 _ rfl; (with_reducible repeat first|apply qN|apply qD|apply qA); exact BK192.out⟩, ⟨bq⟩⟩
 case round =>
  clear H'
  try clear c1
  try clear p2
  try clear c5
  try clear c6
  try clear c8
  try clear hcz7_0
  try clear hcz9_0
  try clear hfz7_0
  try clear hfz9_0
  obtain ⟨x10_1, x193000_1, u193000, rfl, HA, HK1, HO_193000, BK190, BK191, BK192, HB⟩ := hrel
  cases gk with
  | zero => exact absurd HA.out (by simp [impl_Matrix_own.l0])
  | succ k1 =>
   have H := HA.out
   clear HA
   simp only [impl_Matrix_own.l0] at H
   by_cases c10 : x10_1 < (l0_0.length : Int)
   ·rw [if_pos c10] at H
    have c10b0 := decide_eq_true c10
    clear c10
    replace H := iD2 H
    obtain ⟨c11b0, c12b0, H⟩ := H
    replace H := bS H
    obtain ⟨t194, A13, H⟩ := H
    try dsimp only at H
    replace H := iS H
    obtain ⟨c14, H⟩ := H
    have LMc14 := aM c14
    clear c14
    obtain ⟨y197, hy197⟩ : ∃ y_ : List (List Int), y_ = (x193000_1 ++ [t194]) := ⟨_, rfl⟩
    replace H : (impl_Matrix_own.l0 k1 l0_0 (l0_0.length : Int) (wrap64 (x10_1 + 1)) y197) = some r := by first | (rw [hy197]; with_reducible exact H) | (have H2_ := (Option.bind_some _ _).symm.trans H; rw [hy197]; with_reducible exact H2_) | (have H2_ := (Option.bind_some _ _).symm.trans H; with_reducible exact H2_) | with_reducible exact H | (rw [hy197]; exact H) | exact H
    have Ny197 := aM hy197
    clear hy197
    have H' := aM H
    clear H
    have p193 : 0 ≤ (x10_1 : Int) := odt
    have q193 : x10_1 < (l0_0.length : Int) := odt
    obtain ⟨ad193, A193_0, c193_0, e193, hx193_0, hl193_0, hi193_0⟩ := at_L2 HR0_0.out x10_1 p193 q193
    cases e193
    replace hx193_0 := (HB.out.cell (World.block_lt_of_cell? w _ hx193_0)).trans hx193_0
    have HR193_0 := aM hi193_0
    have HC193_0 := aM hl193_0
    clear hi193_0 hl193_0
    replace p193 := eq_true p193
    replace q193 := eq_true q193
    try go_wp2
    have n0_ := aM (Kd.S_drew HO_193000.out)
    have n1_ := aM (blk_drew BK190.out)
    have n2_ := aM (blk_drew BK191.out)
    have n3_ := aM (blk_drew BK192.out)
    have n4_ := aM (below_drew1 HB.out)
    clear HO_193000
    clear BK190
    clear BK191
    clear BK192
    clear HB
    have HO_193000 := n0_
    have BK190 := n1_
    have BK191 := n2_
    have BK192 := n3_
    have HB := n4_
    clear n0_ n1_ n2_ n3_ n4_
    refine start_ (n := 8) (S := fun w' => w'.cell? ⟨gb192, 0, none⟩ = some (u193000)) (ds := [7]) #[false, false, false, false, false, false, false, false] (by kernel_rfl) rfl rfl ((blk_cell BK192.out 0).trans rfl) (fun hHeld => ?_); refine with_tabW impl_Matrix_own.tab5 impl_Matrix_own.bits5 (fun HT_ HW_ => ?_)
    generalize wr.drew = w15 at HO_193000 BK190 BK191 BK192 HB hHeld ⊢
    refine pure_ (i := 0) (N := some 14) (v := ?_) (a' := ?_) #[true, false, false, false, false, false, false, false] rfl rfl (any_of HT_.out (by kernel_rfl)) (fun _ _ _ h => h) (Or.inl ⟨by rfl, ?_⟩) ?_ ?_
    rotate_left
    ·intro w'
     go_simp
     with_reducible rfl
    rotate_left
    ·simp only [Act.put, List.setIfInBounds_toArray, List.set_cons_zero, List.set_cons_succ, i64_w, i32_w]
     rfl
    refine pure_ (i := 2) (N := some 16) (v := ?_) (a' := ?_) #[true, false, true, false, false, false, false, false] rfl rfl (any_of HT_.out (by kernel_rfl)) (fun _ _ _ h => h) (Or.inl ⟨by rfl, ?_⟩) ?_ ?_
    rotate_left
    ·intro w'
     go_simp
     with_reducible rfl
    rotate_left
    ·simp only [Act.put, List.setIfInBounds_toArray, List.set_cons_zero, List.set_cons_succ, i64_w, i32_w]
     rfl
    refine take_ (i := 1) (N := some 15) (v := ?_) (a' := ?_) #[true, true, true, false, false, false, false, false] rfl rfl (take_ofW HT_.out HW_.out (by kernel_rfl)) (fun _ _ _ h => h) (Or.inl ⟨by rfl, ?_⟩) hHeld ?_ ?_
    rotate_left
    ·intro w' s0
     go_simp
     with_reducible rfl
    rotate_left
    ·simp only [Act.put, List.setIfInBounds_toArray, List.set_cons_zero, List.set_cons_succ, i64_w, i32_w]
     rfl
    refine one_ (i := 3) (N := some 17) #[true, true, true, true, false, false, false, false] rfl rfl (one_of HT_.out (by kernel_rfl)) (by decide) (fun K hK => ?_)
    refine goes_ Tryd.func126 (by kernel_rfl) rfl #[.slice A193_0 (rd_L2 l0_0 x10_1).length c193_0] (by rfl) rfl rfl (by (try simp only [List.map_toArray, List.map_cons, List.map_nil]); first | done | rfl | (simp only [List.length_drop, List.length_take]; rfl)) ?_
    with_reducible refine (slices_Clone_int_int.calls _ _ (rd_L2 l0_0 x10_1) t194 _ ?side1 ?side2 A13.out).mono ?_
    (case side1 => repeat (first | exact (Kd.C_below HR193_0.out HB.out) | (with_reducible refine Kd.C_alloc ?_ _) | (with_reducible refine Kd.C_drewN ?_ _) | (with_reducible refine Kd.C_drew ?_)))
    (case side2 => exact HC193_0.out)
    rintro e w16 ⟨v195, rfl, ho0, hb⟩
    refine ⟨_, rfl, ?_⟩
    have n0_ := aM (Kd.S_elder' (sQ HO_193000) (Kd.R_base ho0) hb)
    have n1_ := aM (Kd.R_lower ho0 (below_size bq))
    have n2_ := aM (blk_below (qQ BK190) hb)
    have n3_ := aM (blk_below (qQ BK191) hb)
    have n4_ := aM (blk_below (qQ BK192) hb)
    have n5_ := aM (below_step bq hb)
    clear HO_193000
    clear BK190
    clear BK191
    clear BK192
    clear HB
    have HO_193000 := n0_
    have HO196 := n1_
    have BK190 := n2_
    have BK191 := n3_
    have BK192 := n4_
    have HB := n5_
    clear n0_ n1_ n2_ n3_ n4_ n5_
    (try clear hb)
    (try clear hb2)
    (try clear hk)
    (try clear hi)
    (try clear ho0)
    obtain ⟨Ao18, co18, eo18⟩ := Kd.R_slice HO196.out
    (first | subst eo18 | (injection eo18 with f1_ f2_ f3_; have f4_ := f1_.symm; have f5_ := f3_.symm; clear f1_ f2_ f3_; subst f4_; subst f5_))
    refine hK.out _ _ ((blk_cell BK192.out 0).trans rfl) (fun hHeld => ?_)
    clear hK K
    refine norm_ (a' := ?_) ?_ ?_
    rotate_left
    ·show Act.put _ (some 17) _ = _
     simp only [Act.put, List.setIfInBounds_toArray, List.set_cons_zero, List.set_cons_succ, i64_w, i32_w]
     rfl
    refine one_ (i := 4) (N := some 18) #[true, true, true, true, true, false, false, false] rfl rfl (one_of HT_.out (by kernel_rfl)) (by decide) (fun K hK => ?_)
    refine value_ (w1 := ?_) (v := ?_) (by rfl) rfl ?_ ?_
    rotate_left 2
    ·go_simp
     constructor
     ·rfl
     ·rfl
    refine hK.out _ _ ((blk_cell (blk_alloc BK192.out _) 0).trans rfl) (fun hHeld => ?_)
    clear hK K
    refine norm_ (a' := ?_) ?_ ?_
    rotate_left
    ·show Act.put _ (some 18) _ = _
     simp only [Act.put, List.setIfInBounds_toArray, List.set_cons_zero, List.set_cons_succ, i64_w, i32_w]
     rfl
    refine one_ (i := 5) (N := some 19) #[true, true, true, true, true, true, false, false] rfl rfl (one_of HT_.out (by kernel_rfl)) (by decide) (fun K hK => ?_)
    refine Kd.S_append_step (Kd.slice 3 (Kd.int .i64)) (w0 := w) w.heap.size (by rfl) (.tmp 15) (.tmp 18) 26 22 (.slice none 0 0) 24 rfl Tryd.underlying26 info22 rfl (by decide) (by omega) u193000 x193000_1 t194 [.slice Ao18 t194.length co18] (fun _ => True) (fun k_ => some k_ = (.slice Ao18 t194.length co18 : Value).ownBlock) rfl rfl ?aP (fun k_ hk_ => ((Kd.R_mono (ok' := fun k_ => ((fun _ => True)) k_ ∧ some k_ ≠ (u193000 : Value).ownBlock) (Kd.R_apart' (HO196.out) (Kd.S_typed HO_193000.out) (by decide)) (fun k_ hk => ⟨trivial, hk.2⟩))).1 k_ hk_.symm) ?aF ?aO ?aB ?aS ?aL ?_
    (case aP => exact Kd.M_row (Kd.R_mono (Kd.R_tight rfl (Kd.R_mono (ok' := fun k_ => ((fun _ => True)) k_ ∧ some k_ ≠ (u193000 : Value).ownBlock) (Kd.R_apart' (HO196.out) (Kd.S_typed HO_193000.out) (by decide)) (fun k_ hk => ⟨trivial, hk.2⟩))) (fun _ h_ => h_)))
    (case aB => exact bq)
    (case aF => exact (fun _ _ => trivial))
    (case aO => exact (by (with_reducible repeat first|apply sA|apply sN|apply sD); exact Kd.S_mono HO_193000.out (fun k_ hk => ⟨trivial, fun e_ => hk.2 e_⟩)))
    (case aS => exact (below_size bq))
    (case aL => have := LMc14.out; omega)
    intro v198 w17 ho hb hg hat
    rw [← Ny197.out] at ho
    have n0_ := aM (blk_grown (g := gb190) (o := .cells #[.slice (some ad193) l0_0.length c0_0] 28 (0, 0)) (qQ BK190) hg (Kd.S_ne HO_193000.out BK190.out (by decide)))
    have n1_ := aM (blk_grown (g := gb191) (o := .cells #[.slice none 0 0] 28 (0, 0)) (qQ BK191) hg (Kd.S_ne HO_193000.out BK191.out (by decide)))
    have n2_ := aM (blk_grown (g := gb192) (o := .cells #[u193000] 28 (0, 0)) (qQ BK192) hg (Kd.S_ne HO_193000.out BK192.out (by decide)))
    have n3_ := aM (hb)
    have n4_ := aM (ho)
    clear BK190
    clear BK191
    clear BK192
    clear HB
    clear HO_193000
    clear HO196
    have BK190 := n0_
    have BK191 := n1_
    have BK192 := n2_
    have HB := n3_
    have HO199 := n4_
    clear n0_ n1_ n2_ n3_ n4_
    clear ho hb hg hat
    obtain ⟨Ao19, co19, eo19⟩ := Kd.S_slice HO199.out
    (first | subst eo19 | (injection eo19 with f1_ f2_ f3_; have f4_ := f1_.symm; have f5_ := f3_.symm; clear f1_ f2_ f3_; subst f4_; subst f5_))
    refine hK.out _ _ ((blk_cell BK192.out 0).trans rfl) (fun hHeld => ?_)
    clear hK K
    refine norm_ (a' := ?_) ?_ ?_
    rotate_left
    ·show Act.put _ (some 19) _ = _
     simp only [Act.put, List.setIfInBounds_toArray, List.set_cons_zero, List.set_cons_succ, i64_w, i32_w]
     rfl
    refine pure_ (i := 6) (N := some 20) (v := ?_) (a' := ?_) #[true, true, true, true, true, true, true, false] rfl rfl (any_of HT_.out (by kernel_rfl)) (fun _ _ _ h => h) (Or.inl ⟨by rfl, ?_⟩) ?_ ?_
    rotate_left
    ·intro w'
     go_simp
     with_reducible rfl
    rotate_left
    ·simp only [Act.put, List.setIfInBounds_toArray, List.set_cons_zero, List.set_cons_succ, i64_w, i32_w]
     rfl
    refine last_ (i := 7) (N := none) #[true, true, true, true, true, true, true, true] rfl rfl (one_of HT_.out (by kernel_rfl)) (by decide) (fun K hK => ?_)
    have hs20 := zc10 BK192
    have hfs20 := blk_frozen BK192.out 0
    have hns20_0 := NB190_192.out
    have hns20_1 := NB191_192.out
    have hms20_0 := NB192_190.out
    have hms20_1 := NB192_191.out
    refine skip_ (w1 := ?_) (by rfl) rfl ?_ ?_
    rotate_left
    ·go_simp
     rfl
    refine hK.out _ _ ?_
    clear hK K
    refine done_ (done_of HT_.out (by kernel_rfl)) ?_
    try go_wp2
    go_roundg k1
    case measure => have := HK1.out; omega
    case rel => exact ⟨(wrap64 (x10_1 + 1)), (y197), (.slice Ao19 y197.length co19), eR, H', ⟨by have := HK1.out; omega⟩, ⟨by (with_reducible repeat first|apply sA|apply sN|apply sD); exact Kd.S_mono (Kd.S_far (p := ⟨gb192, 0, none⟩) (Kd.S_types HO199.out BK192.out (by decide)) (fun _ hk => hk.2) (.slice Ao19 y197.length co19)) (fun _ hk => trivial)⟩, ⟨by (with_reducible repeat first|apply qN|apply qD|apply qA); refine blk_far ?_ NB190_192.out _; (with_reducible repeat first|apply qN|apply qD|apply qA); exact BK190.out⟩, ⟨by (with_reducible repeat first|apply qN|apply qD|apply qA); refine blk_far ?_ NB191_192.out _; (with_reducible repeat first|apply qN|apply qD|apply qA); exact BK191.out⟩, ⟨by (with_reducible repeat first|apply qN|apply qD|apply qA); refine blk_put (cs := #[u193000]) ?_ 0 _ rfl; (with_reducible repeat first|apply qN|apply qD|apply qA); exact BK192.out⟩, ⟨bq⟩⟩
   ·rw [if_neg c10] at H
    have c10b0 := decide_eq_false c10
    clear c10
    obtain rfl := Option.some.inj H
    have hnb21 := NB192_190.out
    have hnc21 := NB190_192.out
    have hnb22 := NB192_191.out
    have hnc22 := NB191_192.out
    have hcz23_0 := zc10 BK192
    have hfz23_0 := blk_frozen BK192.out 0
    obtain ⟨Ao24, co24, eo24⟩ := Kd.S_slice HO_193000.out
    subst eo24
    have hnb25 := NB191_190.out
    have hnc25 := NB190_191.out
    have hcz26_0 := zc10 BK191
    have hfz26_0 := blk_frozen BK191.out 0
    go_wp2
    refine bodyPost_ret (results_cell_row rfl _ _ gb191 28 #[.slice Ao24 x193000_1.length co24] (0, 0) _ rfl (by (with_reducible repeat first|apply qN|apply qD|apply qA); refine blk_put (cs := #[.slice none 0 0]) ?_ 0 _ rfl; (with_reducible repeat first|apply qN|apply qD|apply qA); exact BK191.out) Tryd.underlying28 rfl (by kernel_rfl)) rfl ?_
    exact ⟨_, eE, by (with_reducible repeat first|apply sA|apply sN|apply sD); exact Kd.S_mono (Kd.S_far (p := ⟨gb191, 0, none⟩) (Kd.S_types HO_193000.out BK191.out (by decide)) (fun _ hk => hk.2) (.slice Ao24 x193000_1.length co24)) (fun _ hk => trivial), bq⟩

end Go.Proofs.YtcodionjhcmfhaaDoor.Be
