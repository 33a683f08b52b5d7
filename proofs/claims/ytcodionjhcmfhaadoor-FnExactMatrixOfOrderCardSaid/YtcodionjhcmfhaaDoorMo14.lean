-- Written by hook.py, a program of this session (wip/), which runs the kit's print.py with its own parts; Lean checks it.
import Derived.Test.YtcodionjhcmfhaaDoorMo0
import Derived.Test.YtcodionjhcmfhaaDoorMo8
import Derived.Test.YtcodionjhcmfhaaDoorMo10
import Derived.Test.YtcodionjhcmfhaaDoorMo12
import Derived.Test.YtcodionjhcmfhaaDoorMo13
import Derived.Test.YtcodionjhcmfhaaDoorMoXSq
namespace Go.Proofs.YtcodionjhcmfhaaDoor.Mo
open Go.RowKit Go.Proofs.YtcodionjhcmfhaaDoorW.PrintWords Go.Proofs.YtcodionjhcmfhaaDoorW.PrintLast Go.Proofs.YtcodionjhcmfhaaDoorW.PrintMore Go.Proofs.YtcodionjhcmfhaaDoor.Sq
attribute [local go_sem] max2_int min2_int max_two min_two max_three min_three max_four min_four   -- for this text's walks alone
set_option linter.unusedVariables false
set_option linter.unusedSimpArgs false

def impl_Order_matrix.l0 : Nat → List (S76) → Int → Int → List (List Int) → Option ((List (List Int)))
 | 0, _, _, _, _ => none
 | k + 1, x10, x11, x12, x326000 => if x12 < x11 then (if 0 ≤ x12 then (if x12 < (x10.length : Int) then (if 0 ≤ ((rd_T76 x10 x12).f0) then (if ((rd_T76 x10 x12).f0) < (x326000.length : Int) then (if 0 ≤ ((rd_T76 x10 x12).f1) then (if ((rd_T76 x10 x12).f1) < ((rd_L2 x326000 ((rd_T76 x10 x12).f0)).length : Int) then (impl_Order_matrix.l0 k x10 x11 (wrap64 (x12 + 1)) (x326000.set (((rd_T76 x10 x12).f0) : Int).toNat ((rd_L2 x326000 ((rd_T76 x10 x12).f0)).set (((rd_T76 x10 x12).f1) : Int).toNat (wrap64 ((rd (rd_L2 x326000 ((rd_T76 x10 x12).f0)) ((rd_T76 x10 x12).f1)) + 1))))) else (none)) else (none)) else (none)) else (none)) else (none)) else (none)) else (some x326000)
def impl_Order_matrix.f (k : Nat) (a0_0 : Int) (l0_1 : List Int) : Option ((List (List Int))) := (impl_Order_magnitude.f k a0_0 l0_1).bind fun t321 => ((impl_ofSize.f k t321).bind fun t322 => ((impl_Order_ends.f k a0_0 l0_1).bind fun t326 => (impl_Order_matrix.l0 k t326 (t326.length : Int) 0 t322)))
def impl_Order_matrix.T5 : Bool × List (List Nat × List Nat) := (true, [([], []), ([0], [0]), ([], []), ([2], [2]), ([1, 3], [1, 3]), ([4], [4]), ([], []), ([6], [6]), ([5, 7], [5, 7]), ([8], [8]), ([9], [9]), ([5, 7, 0, 1, 2, 3, 4, 5, 6, 7, 8, 9, 10], [5, 7]), ([11, 10, 0, 1, 2, 3, 4, 5, 6, 7, 8, 9, 10], [10, 11])])
def impl_Order_matrix.B5 : List Nat := [0, 1, 0, 4, 15, 31, 0, 64, 255, 511, 1023, 2047, 4095]
theorem impl_Order_matrix.tab5 : rtab .any (opsOf Tryd.f41 5) = impl_Order_matrix.T5 := by kernel_rfl
theorem impl_Order_matrix.bits5 : waitsOk impl_Order_matrix.T5.2 impl_Order_matrix.B5 = true := by kernel_rfl
set_option maxHeartbeats 8000000 in
set_option maxRecDepth 100000 in
theorem impl_Order_matrix.calls (k : Nat) (a0_0 : Int) (A0_1 : Option Addr) (c0_1 : Nat) (l0_1 : List Int) (r : List (List Int)) (w : World) (hr0_1 : Kd.C (Kd.int .i64) w A0_1 l0_1.length l0_1) (hc0_1 : l0_1.length ≤ c0_1) (h : impl_Order_matrix.f k a0_0 l0_1 = some r) :
  Calls Tryd.prog 41 #[.agg #[.int .i64 a0_0, .slice A0_1 l0_1.length c0_1]] w fun e w' => ∃ v0_ : Value, e = .returned (.agg #[v0_]) ∧ Kd.S (Kd.slice 3 (Kd.int .i64)) 22 w' w.heap.size (fun _ => True) v0_ r ∧ Below w.heap.size w w' := by
 have hu31 := Tryd.underlying31
 have hu28 := Tryd.underlying28
 have hu76 := Tryd.underlying76
 have HR0_1 := aM hr0_1
 have HC0_1 := aM hc0_1
 clear hr0_1 hc0_1
 have HB := aM (Below.refl w.heap.size w)
 have H : ((impl_Order_magnitude.f k a0_0 l0_1).bind fun t321 => ((impl_ofSize.f k t321).bind fun t322 => ((impl_Order_ends.f k a0_0 l0_1).bind fun t326 => (impl_Order_matrix.l0 k t326 (t326.length : Int) 0 t322)))) = some r := h
 clear h
 replace H := bS H
 obtain ⟨t321, A2, H⟩ := H
 try dsimp only at H
 replace H := bS H
 obtain ⟨t322, A3, H⟩ := H
 try dsimp only at H
 replace H := bS H
 obtain ⟨t326, A4, H⟩ := H
 try dsimp only at H
 have H' := aM H
 clear H
 go_enter Tryd.func41, Tryd.ntmps41
 go_wp2_with (first | ((with_reducible refine gate_dst (N := 1) rfl ?_); refine bE 1 31 #[.int .i64 a0_0, .slice A0_1 l0_1.length c0_1] ?_; intro gb319 hg w5 hbox hb; have _ := aM (below_step bq hb); have _ := aM (hbox); have _ := aM ((gS hg)); have _ := aM ((gS hg)); clear HB; rename_i HB BK319 GW319 GE319; clear hb hbox hg) | ((with_reducible refine gate_dst (N := 2) rfl ?_); refine bE 2 28 #[.slice none 0 0] ?_; intro gb320 hg w6 hbox hb; have _ := aM (blk_below (qQ BK319) hb); have _ := aM (below_step bq hb); have _ := aM (hbox); have _ := aM ((gS hg)); have _ := aM ((gS hg)); have _ := aM ((by rw [hg]; exact Nat.ne_of_lt (blk_lt (g := gb319) (o := .cells #[.int .i64 a0_0, .slice A0_1 l0_1.length c0_1] 31 (0, 0)) (qQ BK319)) : gb319 ≠ gb320)); have _ := aM ((by rw [hg]; exact Nat.ne_of_gt (blk_lt (g := gb319) (o := .cells #[.int .i64 a0_0, .slice A0_1 l0_1.length c0_1] 31 (0, 0)) (qQ BK319)) : gb320 ≠ gb319)); clear BK319 HB; rename_i BK319 HB BK320 GW320 GE320 NB319_320 NB320_319; clear hb hbox hg; have hnb7 := NB319_320.out; have hnc7 := NB320_319.out; have hcz8_0 := zc20 BK319; have hcz8_1 := zc21 BK319; have hfz8_0 := blk_frozen BK319.out 0; have hfz8_1 := blk_frozen BK319.out 1) | ((with_reducible refine gate_callee (f := 57) rfl ?_); refine gL (some 7) Tryd.func57 #[.agg #[.int .i64 a0_0, .slice A0_1 l0_1.length c0_1]] ?_; (with_reducible refine (impl_Order_magnitude.calls k a0_0 _ _ l0_1 t321 _ (cQ (Kd.C_below HR0_1.out HB.out)) HC0_1.out A2.out).mono ?_); rintro e w9 ⟨rfl, hb⟩; refine ⟨_, rfl, ?_⟩; have _ := aM (blk_below (qQ BK319) hb); have _ := aM (blk_below (qQ BK320) hb); have _ := aM (below_step bq hb); clear BK319 BK320 HB; rename_i BK319 BK320 HB; (try clear hb); (try clear hb2); (try clear hk); (try clear hi)) | ((with_reducible refine gate_callee (f := 70) rfl ?_); refine gL (some 8) Tryd.func70 #[.int .i64 t321] ?_; (with_reducible refine (impl_ofSize.calls k t321 t322 _ A3.out).mono ?_); rintro e w10 ⟨v323, rfl, ho0, hb⟩; refine ⟨_, rfl, ?_⟩; have _ := aM (Kd.S_lower ho0 (below_size bq)); have _ := aM (blk_below (qQ BK319) hb); have _ := aM (blk_below (qQ BK320) hb); have _ := aM (below_step bq hb); clear BK319 BK320 HB; rename_i HO324 BK319 BK320 HB; (try clear hb); (try clear hb2); (try clear hk); (try clear hi); (try clear ho0)) | ((with_reducible refine gate_dst (N := 3) rfl ?_); refine bE 3 28 #[.slice none 0 0] ?_; intro gb325 hg w11 hbox hb; have _ := aM (Kd.S_below (sQ HO324) hb); have _ := aM (blk_below (qQ BK319) hb); have _ := aM (blk_below (qQ BK320) hb); have _ := aM (below_step bq hb); have _ := aM (hbox); have _ := aM ((gS hg)); have _ := aM ((gS hg)); have _ := aM ((by rw [hg]; exact Nat.ne_of_lt (blk_lt (g := gb319) (o := .cells #[.int .i64 a0_0, .slice A0_1 l0_1.length c0_1] 31 (0, 0)) (qQ BK319)) : gb319 ≠ gb325)); have _ := aM ((by rw [hg]; exact Nat.ne_of_gt (blk_lt (g := gb319) (o := .cells #[.int .i64 a0_0, .slice A0_1 l0_1.length c0_1] 31 (0, 0)) (qQ BK319)) : gb325 ≠ gb319)); have _ := aM ((by rw [hg]; exact Nat.ne_of_lt (blk_lt (g := gb320) (o := .cells #[.slice none 0 0] 28 (0, 0)) (qQ BK320)) : gb320 ≠ gb325)); have _ := aM ((by rw [hg]; exact Nat.ne_of_gt (blk_lt (g := gb320) (o := .cells #[.slice none 0 0] 28 (0, 0)) (qQ BK320)) : gb325 ≠ gb320)); clear HO324 BK319 BK320 HB; rename_i HO324 BK319 BK320 HB BK325 GW325 GE325 NB319_325 NB325_319 NB320_325 NB325_320; clear hb hbox hg; obtain ⟨Ao12, co12, eo12⟩ := Kd.S_slice HO324.out; subst eo12; have hnb13 := NB325_319.out; have hnc13 := NB319_325.out; have hnb14 := NB325_320.out; have hnc14 := NB320_325.out; have hcz15_0 := zc10 BK325; have hfz15_0 := blk_frozen BK325.out 0; have hcz16_0 := zc20 BK319; have hcz16_1 := zc21 BK319; have hfz16_0 := blk_frozen BK319.out 0; have hfz16_1 := blk_frozen BK319.out 1) | ((with_reducible refine gate_callee (f := 56) rfl ?_); refine gL (some 10) Tryd.func56 #[.agg #[.int .i64 a0_0, .slice A0_1 l0_1.length c0_1]] ?_; (with_reducible refine (impl_Order_ends.calls k a0_0 _ _ l0_1 t326 _ ?side1 ?side2 A4.out).mono ?_); (case side1 => exact Kd.C_below HR0_1.out bq); (case side2 => exact HC0_1.out); rintro e w17 ⟨v327, rfl, ho0, hb⟩; refine ⟨_, rfl, ?_⟩; have _ := aM (Kd.S_below (by (with_reducible repeat first|apply sA|apply sN|apply sD); exact (Kd.S_mono (Kd.S_far (p := ⟨gb325, 0, none⟩) (Kd.S_types HO324.out BK325.out (by decide)) (fun _ hk => hk.2) (.slice Ao12 t322.length co12)) (fun _ h_ => h_.1))) hb); have _ := aM (Kd.R_lower ho0 (below_size bq)); have _ := aM (blk_below (g := gb319) (o := .cells #[.int .i64 a0_0, .slice A0_1 l0_1.length c0_1] 31 (0, 0)) (by (with_reducible repeat first|apply qN|apply qD|apply qA); refine blk_far ?_ NB319_325.out _; (with_reducible repeat first|apply qN|apply qD|apply qA); exact BK319.out) hb); have _ := aM (blk_below (g := gb320) (o := .cells #[.slice none 0 0] 28 (0, 0)) (by (with_reducible repeat first|apply qN|apply qD|apply qA); refine blk_far ?_ NB320_325.out _; (with_reducible repeat first|apply qN|apply qD|apply qA); exact BK320.out) hb); have _ := aM (blk_below (g := gb325) (o := .cells #[.slice Ao12 t322.length co12] 28 (0, 0)) (by (with_reducible repeat first|apply qN|apply qD|apply qA); refine blk_put (cs := #[.slice none 0 0]) ?_ 0 _ rfl; (with_reducible repeat first|apply qN|apply qD|apply qA); exact BK325.out) hb); have _ := aM (below_step bq hb); clear HO324 BK319 BK320 BK325 HB; rename_i HO324 HO328 BK319 BK320 BK325 HB; (try clear hb); (try clear hb2); (try clear hk); (try clear hi); (try clear ho0); obtain ⟨Ao18, co18, eo18⟩ := Kd.R_slice HO328.out; subst eo18))
 go_loopg [12] k (fun kq v12 w' => ∃ (x12_1 : Int) (x326000_1 : List (List Int)) (u326000 : Value), v12 = .int .i64 x12_1 ∧ Aside0 (impl_Order_matrix.l0 kq t326 (t326.length : Int) x12_1 x326000_1 = some r) ∧ Aside0 (kq ≤ k) ∧ Aside0 (Kd.R k76 76 w' w.heap.size (fun _ => True) (.slice Ao18 t326.length co18) t326) ∧ Aside0 (Kd.S (Kd.slice 3 (Kd.int .i64)) 22 w' w.heap.size (fun _ => True) u326000 x326000_1) ∧ Aside0 (w'.heap[gb319]? = some (.cells #[.int .i64 a0_0, (.slice A0_1 l0_1.length c0_1)] 31 (0, 0))) ∧ Aside0 (w'.heap[gb320]? = some (.cells #[(.slice none 0 0)] 28 (0, 0))) ∧ Aside0 (w'.heap[gb325]? = some (.cells #[u326000] 28 (0, 0))) ∧ Aside0 (Below w.heap.size w w'))
 case atStart => exact ⟨(0), (t322), (.slice Ao12 t322.length co12), eR, H', ⟨Nat.le_refl _⟩, ⟨rQ HO328⟩, ⟨by (with_reducible repeat first|apply sA|apply sN|apply sD); exact HO324.out⟩, ⟨qQ BK319⟩, ⟨qQ BK320⟩, ⟨qQ BK325⟩, ⟨bq⟩⟩
 case round =>
  clear H'
  try clear c1
  try clear p2
  try clear c4
  try clear c5
  try clear c7
  try clear c13
  try clear c14
  try clear hcz15_0
  try clear hcz16_0
  try clear hcz16_1
  try clear hcz8_0
  try clear hcz8_1
  try clear hfz15_0
  try clear hfz16_0
  try clear hfz16_1
  try clear hfz8_0
  try clear hfz8_1
  obtain ⟨x12_1, x326000_1, u326000, rfl, HA, HK1, HO_10, HO_326000, BK319, BK320, BK325, HB⟩ := hrel
  cases gk with
  | zero => exact absurd HA.out (by simp [impl_Order_matrix.l0])
  | succ k1 =>
   have H := HA.out
   clear HA
   simp only [impl_Order_matrix.l0] at H
   by_cases c19 : x12_1 < (t326.length : Int)
   ·rw [if_pos c19] at H
    have c19b0 := decide_eq_true c19
    clear c19
    replace H := iD4 H
    obtain ⟨c20b0, c21b0, c22b0, c23b0, H⟩ := H
    replace H := iD2 H
    obtain ⟨c24b0, c25b0, H⟩ := H
    obtain ⟨y333, hy333⟩ : ∃ y_ : List Int, y_ = ((rd_L2 x326000_1 ((rd_T76 t326 x12_1).f0)).set (((rd_T76 t326 x12_1).f1) : Int).toNat (wrap64 ((rd (rd_L2 x326000_1 ((rd_T76 t326 x12_1).f0)) ((rd_T76 t326 x12_1).f1)) + 1))) := ⟨_, rfl⟩
    replace H : (impl_Order_matrix.l0 k1 t326 (t326.length : Int) (wrap64 (x12_1 + 1)) (x326000_1.set (((rd_T76 t326 x12_1).f0) : Int).toNat y333)) = some r := by first | (rw [hy333]; with_reducible exact H) | (have H2_ := (Option.bind_some _ _).symm.trans H; rw [hy333]; with_reducible exact H2_) | (have H2_ := (Option.bind_some _ _).symm.trans H; with_reducible exact H2_) | with_reducible exact H | (rw [hy333]; exact H) | exact H
    have Ny333 := aM hy333
    clear hy333
    obtain ⟨y335, hy335⟩ : ∃ y_ : List (List Int), y_ = (x326000_1.set (((rd_T76 t326 x12_1).f0) : Int).toNat y333) := ⟨_, rfl⟩
    replace H : (impl_Order_matrix.l0 k1 t326 (t326.length : Int) (wrap64 (x12_1 + 1)) y335) = some r := by first | (rw [hy335]; with_reducible exact H) | (have H2_ := (Option.bind_some _ _).symm.trans H; rw [hy335]; with_reducible exact H2_) | (have H2_ := (Option.bind_some _ _).symm.trans H; with_reducible exact H2_) | with_reducible exact H | (rw [hy335]; exact H) | exact H
    have Ny335 := aM hy335
    clear hy335
    have H' := aM H
    clear H
    have p329 : 0 ≤ (x12_1 : Int) := odt
    have q329 : x12_1 < (t326.length : Int) := odt
    obtain ⟨ad329, e329, hx329_0, hx329_1⟩ := at_T76 (Kd.R_reads' HO_10.out).2.2 x12_1 p329 q329
    cases e329
    replace p329 := eq_true p329
    replace q329 := eq_true q329
    try go_wp2_with (first | ((with_reducible refine gate_dst (N := 5) rfl ?_); refine bE 5 76 #[.int .i64 0, .int .i64 0] ?_; intro gb330 hg w27 hbox hb; have _ := aM (Kd.R_below (Kd.R_elderB (rQ HO_10) gb330 (Nat.le_of_eq hg.symm)) hb); have _ := aM (Kd.S_below (sQ HO_326000) hb); have _ := aM (blk_below (qQ BK319) hb); have _ := aM (blk_below (qQ BK320) hb); have _ := aM (blk_below (qQ BK325) hb); have _ := aM (below_step bq hb); have _ := aM (hbox); have _ := aM ((gS hg)); have _ := aM ((gS hg)); have _ := aM ((by rw [hg]; exact Nat.ne_of_lt (blk_lt (g := gb319) (o := .cells #[.int .i64 a0_0, .slice A0_1 l0_1.length c0_1] 31 (0, 0)) (qQ BK319)) : gb319 ≠ gb330)); have _ := aM ((by rw [hg]; exact Nat.ne_of_gt (blk_lt (g := gb319) (o := .cells #[.int .i64 a0_0, .slice A0_1 l0_1.length c0_1] 31 (0, 0)) (qQ BK319)) : gb330 ≠ gb319)); have _ := aM ((by rw [hg]; exact Nat.ne_of_lt (blk_lt (g := gb320) (o := .cells #[.slice none 0 0] 28 (0, 0)) (qQ BK320)) : gb320 ≠ gb330)); have _ := aM ((by rw [hg]; exact Nat.ne_of_gt (blk_lt (g := gb320) (o := .cells #[.slice none 0 0] 28 (0, 0)) (qQ BK320)) : gb330 ≠ gb320)); have _ := aM ((by rw [hg]; exact Nat.ne_of_lt (blk_lt (g := gb325) (o := .cells #[u326000] 28 (0, 0)) (qQ BK325)) : gb325 ≠ gb330)); have _ := aM ((by rw [hg]; exact Nat.ne_of_gt (blk_lt (g := gb325) (o := .cells #[u326000] 28 (0, 0)) (qQ BK325)) : gb330 ≠ gb325)); clear HO_10 HO_326000 BK319 BK320 BK325 HB; rename_i HO_10 HO_326000 BK319 BK320 BK325 HB BK330 GW330 GE330 NB319_330 NB330_319 NB320_330 NB330_320 NB325_330 NB330_325; clear hb hbox hg; have hnb28 := NB330_319.out; have hnc28 := NB319_330.out; have hnb29 := NB330_320.out; have hnc29 := NB320_330.out; have hnb30 := NB330_325.out; have hnc30 := NB325_330.out; have hcz31_0 := zc20 BK330; have hcz31_1 := zc21 BK330; have hfz31_0 := blk_frozen BK330.out 0; have hfz31_1 := blk_frozen BK330.out 1))
    have n0_ : Aside0 (Kd.R k76 76 ((w27.setCell ⟨gb330, 0, none⟩ (.int .i64 ((rd_T76 t326 x12_1).f0))).setCell ⟨gb330, 1, none⟩ (.int .i64 ((rd_T76 t326 x12_1).f1))) w.heap.size (fun k_ => k_ ≠ gb330) (.slice (some ad329) t326.length co18) t326) := ⟨by (with_reducible repeat first|apply rA|apply rN|apply rD); exact Kd.R_mono (Kd.R_far (p := ⟨gb330, 1, none⟩) (Kd.R_far (p := ⟨gb330, 0, none⟩) (Kd.R_mono HO_10.out (fun k_ hk => (⟨hk, hk.2⟩ : _ ∧ k_ ≠ gb330))) (fun _ hk => hk.2) (.int .i64 ((rd_T76 t326 x12_1).f0))) (fun _ hk => hk.2) (.int .i64 ((rd_T76 t326 x12_1).f1))) (fun _ hk => hk.1.2)⟩
    have n1_ : Aside0 (Kd.S (Kd.slice 3 (Kd.int .i64)) 22 ((w27.setCell ⟨gb330, 0, none⟩ (.int .i64 ((rd_T76 t326 x12_1).f0))).setCell ⟨gb330, 1, none⟩ (.int .i64 ((rd_T76 t326 x12_1).f1))) w.heap.size (fun _ => True) u326000 x326000_1) := ⟨by (with_reducible repeat first|apply sA|apply sN|apply sD); exact Kd.S_mono (Kd.S_far (p := ⟨gb330, 1, none⟩) (Kd.S_far (p := ⟨gb330, 0, none⟩) (Kd.S_types HO_326000.out BK330.out (by decide)) (fun _ hk => hk.2) (.int .i64 ((rd_T76 t326 x12_1).f0))) (fun _ hk => hk.2) (.int .i64 ((rd_T76 t326 x12_1).f1))) (fun _ hk => trivial)⟩
    have n2_ : Aside0 (((w27.setCell ⟨gb330, 0, none⟩ (.int .i64 ((rd_T76 t326 x12_1).f0))).setCell ⟨gb330, 1, none⟩ (.int .i64 ((rd_T76 t326 x12_1).f1))).heap[gb319]? = some (.cells #[.int .i64 a0_0, .slice A0_1 l0_1.length c0_1] 31 (0, 0))) := ⟨by (with_reducible repeat first|apply qN|apply qD|apply qA); refine blk_far ?_ NB319_330.out _; (with_reducible repeat first|apply qN|apply qD|apply qA); refine blk_far ?_ NB319_330.out _; (with_reducible repeat first|apply qN|apply qD|apply qA); exact BK319.out⟩
    have n3_ : Aside0 (((w27.setCell ⟨gb330, 0, none⟩ (.int .i64 ((rd_T76 t326 x12_1).f0))).setCell ⟨gb330, 1, none⟩ (.int .i64 ((rd_T76 t326 x12_1).f1))).heap[gb320]? = some (.cells #[.slice none 0 0] 28 (0, 0))) := ⟨by (with_reducible repeat first|apply qN|apply qD|apply qA); refine blk_far ?_ NB320_330.out _; (with_reducible repeat first|apply qN|apply qD|apply qA); refine blk_far ?_ NB320_330.out _; (with_reducible repeat first|apply qN|apply qD|apply qA); exact BK320.out⟩
    have n4_ : Aside0 (((w27.setCell ⟨gb330, 0, none⟩ (.int .i64 ((rd_T76 t326 x12_1).f0))).setCell ⟨gb330, 1, none⟩ (.int .i64 ((rd_T76 t326 x12_1).f1))).heap[gb325]? = some (.cells #[u326000] 28 (0, 0))) := ⟨by (with_reducible repeat first|apply qN|apply qD|apply qA); refine blk_far ?_ NB325_330.out _; (with_reducible repeat first|apply qN|apply qD|apply qA); refine blk_far ?_ NB325_330.out _; (with_reducible repeat first|apply qN|apply qD|apply qA); exact BK325.out⟩
    have n5_ : Aside0 (((w27.setCell ⟨gb330, 0, none⟩ (.int .i64 ((rd_T76 t326 x12_1).f0))).setCell ⟨gb330, 1, none⟩ (.int .i64 ((rd_T76 t326 x12_1).f1))).heap[gb330]? = some (.cells #[.int .i64 ((rd_T76 t326 x12_1).f0), .int .i64 ((rd_T76 t326 x12_1).f1)] 76 (0, 0))) := ⟨by (with_reducible repeat first|apply qN|apply qD|apply qA); refine blk_put (cs := #[.int .i64 ((rd_T76 t326 x12_1).f0), .int .i64 0]) ?_ 1 _ rfl; (with_reducible repeat first|apply qN|apply qD|apply qA); refine blk_put (cs := #[.int .i64 0, .int .i64 0]) ?_ 0 _ rfl; (with_reducible repeat first|apply qN|apply qD|apply qA); exact BK330.out⟩
    have n6_ : Aside0 (Below w.heap.size w ((w27.setCell ⟨gb330, 0, none⟩ (.int .i64 ((rd_T76 t326 x12_1).f0))).setCell ⟨gb330, 1, none⟩ (.int .i64 ((rd_T76 t326 x12_1).f1)))) := ⟨bq⟩
    (try clear HO_10)
    (try clear HO_326000)
    (try clear BK319)
    (try clear BK320)
    (try clear BK325)
    (try clear BK330)
    (try clear HB)
    generalize ((w27.setCell ⟨gb330, 0, none⟩ (.int .i64 ((rd_T76 t326 x12_1).f0))).setCell ⟨gb330, 1, none⟩ (.int .i64 ((rd_T76 t326 x12_1).f1))) = w32 at n0_ n1_ n2_ n3_ n4_ n5_ n6_ ⊢
    have HO_10 := n0_
    have HO_326000 := n1_
    have BK319 := n2_
    have BK320 := n3_
    have BK325 := n4_
    have BK330 := n5_
    have HB := n6_
    clear n0_ n1_ n2_ n3_ n4_ n5_ n6_
    have n0_ := aM (Kd.R_drew HO_10.out)
    have n1_ := aM (Kd.S_drew HO_326000.out)
    have n2_ := aM (blk_drew BK319.out)
    have n3_ := aM (blk_drew BK320.out)
    have n4_ := aM (blk_drew BK325.out)
    have n5_ := aM (blk_drew BK330.out)
    have n6_ := aM (below_drew1 HB.out)
    clear HO_10
    clear HO_326000
    clear BK319
    clear BK320
    clear BK325
    clear BK330
    clear HB
    have HO_10 := n0_
    have HO_326000 := n1_
    have BK319 := n2_
    have BK320 := n3_
    have BK325 := n4_
    have BK330 := n5_
    have HB := n6_
    clear n0_ n1_ n2_ n3_ n4_ n5_ n6_
    obtain ⟨Ao34, co34, eo34⟩ := Kd.S_slice HO_326000.out
    (first | subst eo34 | (injection eo34 with f1_ f2_ f3_; have f4_ := f1_.symm; have f5_ := f3_.symm; clear f1_ f2_ f3_; subst f4_; subst f5_))
    have p331 : 0 ≤ (((rd_T76 t326 x12_1).f0) : Int) := odt
    have q331 : ((rd_T76 t326 x12_1).f0) < (x326000_1.length : Int) := odt
    obtain ⟨ad331, A331_0, c331_0, e331, hx331_0, hl331_0, hi331_0⟩ := at_L2 (Kd.S_reads' HO_326000.out).2.2 ((rd_T76 t326 x12_1).f0) p331 q331
    cases e331
    obtain ⟨ce331, hce331, hMe331, hcc331⟩ := Kd.S_get HO_326000.out [] ((rd_T76 t326 x12_1).f0) p331 (by first | exact q331 | exact odt | (have e_ := (Kd.S_reads' HO_326000.out).1; omega))
    obtain ⟨ve331_0, rfl, ge331_0⟩ := hMe331
    have hv331_0 := hcc331 0 _ rfl
    rw [Nat.add_zero, show ((Kd.slice 3 (Kd.int .i64))).sz = 1 from rfl, Nat.mul_one] at hv331_0
    replace hv331_0 := Option.some.inj (hv331_0.symm.trans hx331_0)
    rw [hv331_0] at ge331_0
    have HL331_0 := aM (show Kd.R (Kd.int .i64) 3 _ _ _ _ (rd_L2 x326000_1 ((rd_T76 t326 x12_1).f0)) from ge331_0)
    clear hv331_0 ge331_0
    have HX331_0 := aM hx331_0
    clear hcc331 hce331
    have HR331_0 := aM hi331_0
    have HC331_0 := aM hl331_0
    clear hi331_0 hl331_0
    replace p331 := eq_true p331
    replace q331 := eq_true q331
    have p332 : 0 ≤ (((rd_T76 t326 x12_1).f1) : Int) := odt
    have q332 : ((rd_T76 t326 x12_1).f1) < ((rd_L2 x326000_1 ((rd_T76 t326 x12_1).f0)).length : Int) := odt
    obtain ⟨ad332, e332, hx332_0⟩ := Kd.at_int (cQ HR331_0.out) ((rd_T76 t326 x12_1).f1) p332 q332
    cases e332
    replace p332 := eq_true p332
    replace q332 := eq_true q332
    have p26 : 0 ≤ (((rd_T76 t326 x12_1).f1) : Int) := odt
    have q26 : (((rd_T76 t326 x12_1).f1) : Int) < (((rd_L2 x326000_1 ((rd_T76 t326 x12_1).f0)).length : Int) : Int) := odt
    obtain ⟨go26, co26, eo26, gb26, gl26, cl26, HG26⟩ := Kd.R_form HL331_0.out (by omega)
    (first | cases eo26 | (injection eo26 with ea_ en_ ec_; (first | subst ea_ | (injection ea_ with ea_; subst ea_)); subst ec_; clear en_))
    have GB26 := aM gb26
    have GG26 := aM HG26
    clear gb26 gl26 HG26
    (first | simp only [add_plain] at hx332_0 | skip)
    obtain ⟨hx26_0, hf26_0⟩ := Kd.R_celln 0 HL331_0.out (((rd_T76 t326 x12_1).f1) : Int) p26 q26
    replace p26 := eq_true p26
    replace q26 := eq_true q26
    have hq35 : (((rd_T76 t326 x12_1).f0) : Int) < (x326000_1.length : Int) := (by have h_ : (((rd_T76 t326 x12_1).f0) : Int) < ((x326000_1.length : Int) : Int) := odt; first | exact h_ | (have e_ := (Kd.S_reads' HO_326000.out).1; omega) | simpa only [List.length_set, List.length_set] using h_)
    obtain ⟨oki35, ce35, hcl35, hM35, hcc35, hok35, hbk35⟩ := Kd.S_borrow HO_326000.out [] (((rd_T76 t326 x12_1).f0) : Int) (odt) hq35
    obtain ⟨ve35_0, rfl, ge35_0⟩ := hM35
    have hv35 := hcc35 0 _ rfl
    rw [Nat.add_zero, show ((Kd.slice 3 (Kd.int .i64))).sz = 1 from rfl, Nat.mul_one] at hv35
    replace hv35 := Option.some.inj (hv35.symm.trans HX331_0.out)
    subst hv35
    clear hcc35 hcl35
    replace ge35_0 := (show Kd.R (Kd.int .i64) 3 _ _ _ _ (rd_L2 x326000_1 ((rd_T76 t326 x12_1).f0)) from ge35_0)
    have HP35 := Kd.R_putg ge35_0 (((rd_T76 t326 x12_1).f1) : Int) (wrap64 ((rd (rd_L2 x326000_1 ((rd_T76 t326 x12_1).f0)) ((rd_T76 t326 x12_1).f1)) + 1))
    rw [← Ny333.out] at HP35
    have HS35 := hbk35 HP35.2 (fun k_ e_ => by injection e_ with e_; subst e_; exact ge35_0.1 _ rfl) (x' := y333) (Kd.M_row HP35.1)
    rw [← Ny335.out] at HS35
    have HQ35 := aM HS35
    clear HP35 HS35 hbk35 hok35
    refine start_ (n := 13) (S := fun w' => w'.cell? ⟨gb325, 0, none⟩ = some (.slice (some ad331) x326000_1.length co34) ∧ w'.cell? ⟨gb330, 0, none⟩ = some (.int .i64 ((rd_T76 t326 x12_1).f0)) ∧ w'.cell? ⟨gb330, 1, none⟩ = some (.int .i64 ((rd_T76 t326 x12_1).f1)) ∧ w'.cell? (ad331.add (((rd_T76 t326 x12_1).f0)).toNat) = some (.slice (some ⟨go26, 0, none⟩) (rd_L2 x326000_1 ((rd_T76 t326 x12_1).f0)).length c331_0) ∧ w'.cell? ⟨go26, (((rd_T76 t326 x12_1).f1)).toNat, none⟩ = some (.int .i64 (rd (rd_L2 x326000_1 ((rd_T76 t326 x12_1).f0)) ((rd_T76 t326 x12_1).f1)))) (ds := [12]) #[false, false, false, false, false, false, false, false, false, false, false, false, false] (by kernel_rfl) rfl rfl ⟨(blk_cell BK325.out 0).trans rfl, (blk_cell BK330.out 0).trans rfl, (blk_cell BK330.out 1).trans rfl, hx331_0, hx332_0⟩ (fun hHeld => ?_); refine with_tabW impl_Order_matrix.tab5 impl_Order_matrix.bits5 (fun HT_ HW_ => ?_)
    generalize w32.drew = w33 at HO_10 HO_326000 BK319 BK320 BK325 BK330 HB GG26 HL331_0 HQ35 HR331_0 HX331_0 hf26_0 hx26_0 hx331_0 hx332_0 hHeld ⊢
    refine pure_ (i := 0) (N := some 16) (v := ?_) (a' := ?_) #[true, false, false, false, false, false, false, false, false, false, false, false, false] rfl rfl (any_of HT_.out (by kernel_rfl)) (fun _ _ _ h => h) (Or.inl ⟨by rfl, ?_⟩) ?_ ?_
    rotate_left
    ·intro w'
     go_simp
     with_reducible rfl
    rotate_left
    ·simp only [Act.put, List.setIfInBounds_toArray, List.set_cons_zero, List.set_cons_succ, i64_w, i32_w]
     rfl
    refine pure_ (i := 2) (N := some 18) (v := ?_) (a' := ?_) #[true, false, true, false, false, false, false, false, false, false, false, false, false] rfl rfl (any_of HT_.out (by kernel_rfl)) (fun _ _ _ h => h) (Or.inl ⟨by rfl, ?_⟩) ?_ ?_
    rotate_left
    ·intro w'
     go_simp
     with_reducible rfl
    rotate_left
    ·simp only [Act.put, List.setIfInBounds_toArray, List.set_cons_zero, List.set_cons_succ, i64_w, i32_w]
     rfl
    refine pure_ (i := 6) (N := some 22) (v := ?_) (a' := ?_) #[true, false, true, false, false, false, true, false, false, false, false, false, false] rfl rfl (any_of HT_.out (by kernel_rfl)) (fun _ _ _ h => h) (Or.inl ⟨by rfl, ?_⟩) ?_ ?_
    rotate_left
    ·intro w'
     go_simp
     with_reducible rfl
    rotate_left
    ·simp only [Act.put, List.setIfInBounds_toArray, List.set_cons_zero, List.set_cons_succ, i64_w, i32_w]
     rfl
    refine take_ (i := 1) (N := some 17) (v := ?_) (a' := ?_) #[true, true, true, false, false, false, true, false, false, false, false, false, false] rfl rfl (take_ofW HT_.out HW_.out (by kernel_rfl)) (fun _ _ _ h => h) (Or.inl ⟨by rfl, ?_⟩) hHeld ?_ ?_
    rotate_left
    ·rintro w' ⟨s0, s1, s2, s3, s4⟩
     go_simp
     with_reducible rfl
    rotate_left
    ·simp only [Act.put, List.setIfInBounds_toArray, List.set_cons_zero, List.set_cons_succ, i64_w, i32_w]
     rfl
    refine take_ (i := 3) (N := some 19) (v := ?_) (a' := ?_) #[true, true, true, true, false, false, true, false, false, false, false, false, false] rfl rfl (take_ofW HT_.out HW_.out (by kernel_rfl)) (fun _ _ _ h => h) (Or.inl ⟨by rfl, ?_⟩) hHeld ?_ ?_
    rotate_left
    ·rintro w' ⟨s0, s1, s2, s3, s4⟩
     go_simp
     with_reducible rfl
    rotate_left
    ·simp only [Act.put, List.setIfInBounds_toArray, List.set_cons_zero, List.set_cons_succ, i64_w, i32_w]
     rfl
    refine pure_ (i := 4) (N := some 20) (v := ?_) (a' := ?_) #[true, true, true, true, true, false, true, false, false, false, false, false, false] rfl rfl (any_of HT_.out (by kernel_rfl)) (fun _ _ _ h => h) (Or.inl ⟨by rfl, ?_⟩) ?_ ?_
    rotate_left
    ·intro w'
     go_simp
     with_reducible rfl
    rotate_left
    ·simp only [Act.put, List.setIfInBounds_toArray, List.set_cons_zero, List.set_cons_succ, i64_w, i32_w]
     rfl
    refine take_ (i := 5) (N := some 21) (v := ?_) (a' := ?_) #[true, true, true, true, true, true, true, false, false, false, false, false, false] rfl rfl (take_ofW HT_.out HW_.out (by kernel_rfl)) (fun _ _ _ h => h) (Or.inl ⟨by rfl, ?_⟩) hHeld ?_ ?_
    rotate_left
    ·rintro w' ⟨s0, s1, s2, s3, s4⟩
     go_simp
     with_reducible rfl
    rotate_left
    ·simp only [Act.put, List.setIfInBounds_toArray, List.set_cons_zero, List.set_cons_succ, i64_w, i32_w]
     rfl
    refine take_ (i := 7) (N := some 23) (v := ?_) (a' := ?_) #[true, true, true, true, true, true, true, true, false, false, false, false, false] rfl rfl (take_ofW HT_.out HW_.out (by kernel_rfl)) (fun _ _ _ h => h) (Or.inl ⟨by rfl, ?_⟩) hHeld ?_ ?_
    rotate_left
    ·rintro w' ⟨s0, s1, s2, s3, s4⟩
     go_simp
     with_reducible rfl
    rotate_left
    ·simp only [Act.put, List.setIfInBounds_toArray, List.set_cons_zero, List.set_cons_succ, i64_w, i32_w]
     rfl
    refine pure_ (i := 8) (N := some 24) (v := ?_) (a' := ?_) #[true, true, true, true, true, true, true, true, true, false, false, false, false] rfl rfl (any_of HT_.out (by kernel_rfl)) (fun _ _ _ h => h) (Or.inl ⟨by rfl, ?_⟩) ?_ ?_
    rotate_left
    ·intro w'
     go_simp
     with_reducible rfl
    rotate_left
    ·simp only [Act.put, List.setIfInBounds_toArray, List.set_cons_zero, List.set_cons_succ, i64_w, i32_w]
     rfl
    refine take_ (i := 9) (N := some 25) (v := ?_) (a' := ?_) #[true, true, true, true, true, true, true, true, true, true, false, false, false] rfl rfl (take_ofW HT_.out HW_.out (by kernel_rfl)) (fun _ _ _ h => h) (Or.inl ⟨by rfl, ?_⟩) hHeld ?_ ?_
    rotate_left
    ·rintro w' ⟨s0, s1, s2, s3, s4⟩
     go_simp
     with_reducible rfl
    rotate_left
    ·simp only [Act.put, List.setIfInBounds_toArray, List.set_cons_zero, List.set_cons_succ, i64_w, i32_w]
     rfl
    refine pure_ (i := 10) (N := some 26) (v := ?_) (a' := ?_) #[true, true, true, true, true, true, true, true, true, true, true, false, false] rfl rfl (any_of HT_.out (by kernel_rfl)) (fun _ _ _ h => h) (Or.inl ⟨by rfl, ?_⟩) ?_ ?_
    rotate_left
    ·intro w'
     go_simp
     with_reducible rfl
    rotate_left
    ·simp only [Act.put, List.setIfInBounds_toArray, List.set_cons_zero, List.set_cons_succ, i64_w, i32_w]
     rfl
    refine pure_ (i := 11) (N := some 27) (v := ?_) (a' := ?_) #[true, true, true, true, true, true, true, true, true, true, true, true, false] rfl rfl (any_of HT_.out (by kernel_rfl)) (fun _ _ _ h => h) (Or.inl ⟨by rfl, ?_⟩) ?_ ?_
    rotate_left
    ·intro w'
     go_simp
     with_reducible rfl
    rotate_left
    ·simp only [Act.put, List.setIfInBounds_toArray, List.set_cons_zero, List.set_cons_succ, i64_w, i32_w]
     rfl
    refine last_ (i := 12) (N := none) #[true, true, true, true, true, true, true, true, true, true, true, true, true] rfl rfl (one_of HT_.out (by kernel_rfl)) (by decide) (fun K hK => ?_)
    refine skip_ (w1 := ?_) (by rfl) rfl ?_ ?_
    rotate_left
    ·go_simp
     rfl
    refine hK.out _ _ ?_
    clear hK K
    refine done_ (done_of HT_.out (by kernel_rfl)) ?_
    try go_wp2
    go_roundg k1
    case measure => have := HK1.out; omega
    case rel => exact ⟨(wrap64 (x12_1 + 1)), (y335), (.slice (some ad331) x326000_1.length co34), eR, H', ⟨by have := HK1.out; omega⟩, ⟨by (with_reducible repeat first|apply rA|apply rN|apply rD); exact Kd.R_mono (Kd.R_far (p := ⟨go26, (((rd_T76 t326 x12_1).f1) : Int).toNat, none⟩) (Kd.R_types HO_10.out GG26.out (by decide)) (fun _ hk => hk.2) (.int .i64 (wrap64 ((rd (rd_L2 x326000_1 ((rd_T76 t326 x12_1).f0)) ((rd_T76 t326 x12_1).f1)) + 1)))) (fun _ hk => trivial)⟩, ⟨by (with_reducible repeat first|apply sA|apply sN|apply sD); exact HQ35.out⟩, ⟨by (with_reducible repeat first|apply qN|apply qD|apply qA); refine blk_far ?_ (by have h_ := Kd.R_ne HL331_0.out BK319.out (by decide); intro e_; exact h_ (by rw [e_]; rfl)) _; (with_reducible repeat first|apply qN|apply qD|apply qA); exact BK319.out⟩, ⟨by (with_reducible repeat first|apply qN|apply qD|apply qA); refine blk_far ?_ (by have h_ := Kd.R_ne HL331_0.out BK320.out (by decide); intro e_; exact h_ (by rw [e_]; rfl)) _; (with_reducible repeat first|apply qN|apply qD|apply qA); exact BK320.out⟩, ⟨by (with_reducible repeat first|apply qN|apply qD|apply qA); refine blk_far ?_ (by have h_ := Kd.R_ne HL331_0.out BK325.out (by decide); intro e_; exact h_ (by rw [e_]; rfl)) _; (with_reducible repeat first|apply qN|apply qD|apply qA); exact BK325.out⟩, ⟨bq⟩⟩
   ·rw [if_neg c19] at H
    have c19b0 := decide_eq_false c19
    clear c19
    obtain rfl := Option.some.inj H
    have hnb37 := NB325_319.out
    have hnc37 := NB319_325.out
    have hnb38 := NB325_320.out
    have hnc38 := NB320_325.out
    have hcz39_0 := zc10 BK325
    have hfz39_0 := blk_frozen BK325.out 0
    obtain ⟨Ao40, co40, eo40⟩ := Kd.S_slice HO_326000.out
    subst eo40
    have hnb41 := NB320_319.out
    have hnc41 := NB319_320.out
    have hcz42_0 := zc10 BK320
    have hfz42_0 := blk_frozen BK320.out 0
    go_wp2
    refine bodyPost_ret (results_cell_row rfl _ _ gb320 28 #[.slice Ao40 x326000_1.length co40] (0, 0) _ rfl (by (with_reducible repeat first|apply qN|apply qD|apply qA); refine blk_put (cs := #[.slice none 0 0]) ?_ 0 _ rfl; (with_reducible repeat first|apply qN|apply qD|apply qA); exact BK320.out) Tryd.underlying28 rfl (by kernel_rfl)) rfl ?_
    exact ⟨_, eE, by (with_reducible repeat first|apply sA|apply sN|apply sD); exact Kd.S_mono (Kd.S_far (p := ⟨gb320, 0, none⟩) (Kd.S_types HO_326000.out BK320.out (by decide)) (fun _ hk => hk.2) (.slice Ao40 x326000_1.length co40)) (fun _ hk => trivial), bq⟩

def impl_MatrixOfOrder.f (k : Nat) (a0_0 : Int) (l0_1 : List Int) : Option ((List (List Int)) × Bool) := (impl_isInterval.f k a0_0 l0_1).bind fun t338 => (if t338 = true then ((impl_Order_matrix.f k a0_0 l0_1).bind fun t339 => (some (t339, true))) else (some (([] : List (List Int)), false)))
set_option maxHeartbeats 8000000 in
set_option maxRecDepth 100000 in
theorem impl_MatrixOfOrder.calls (k : Nat) (a0_0 : Int) (A0_1 : Option Addr) (c0_1 : Nat) (l0_1 : List Int) (r1 : List (List Int)) (r2 : Bool) (w : World) (hV : TabZ w) (hr0_1 : Kd.C (Kd.int .i64) w A0_1 l0_1.length l0_1) (hc0_1 : l0_1.length ≤ c0_1) (h : impl_MatrixOfOrder.f k a0_0 l0_1 = some (r1, r2)) :
  Calls Tryd.prog 10 #[.agg #[.int .i64 a0_0, .slice A0_1 l0_1.length c0_1]] w fun e w' => ∃ v0_ : Value, e = .returned (.tuple #[.agg #[v0_], .bool r2]) ∧ Kd.S (Kd.slice 3 (Kd.int .i64)) 22 w' w.heap.size (fun _ => True) v0_ r1 ∧ Below w.heap.size w w' := by
 have hu31 := Tryd.underlying31
 have hu28 := Tryd.underlying28
 have HR0_1 := aM hr0_1
 have HC0_1 := aM hc0_1
 clear hr0_1 hc0_1
 have HB := aM (Below.refl w.heap.size w)
 have HVV := aM hV
 clear hV
 have H : ((impl_isInterval.f k a0_0 l0_1).bind fun t338 => (if t338 = true then ((impl_Order_matrix.f k a0_0 l0_1).bind fun t339 => (some (t339, true))) else (some (([] : List (List Int)), false)))) = some (r1, r2) := h
 clear h
 replace H := bS H
 obtain ⟨t338, A2, H⟩ := H
 try dsimp only at H
 by_cases c3 : t338 = true
 ·subst c3
  have H1 : ((impl_Order_matrix.f k a0_0 l0_1).bind fun t339 => (some (t339, true))) = some (r1, r2) := by rw [if_pos rfl] at H; exact H
  clear H
  have H := H1
  clear H1
  replace H := bS H
  obtain ⟨t339, A4, H⟩ := H
  try dsimp only at H
  simp only [Option.some.injEq, Prod.mk.injEq] at H
  obtain ⟨rfl, rfl⟩ := H
  go_enter Tryd.func10, Tryd.ntmps10
  go_wp2_with (first | ((with_reducible refine gate_dst (N := 1) rfl ?_); refine bE 1 31 #[.int .i64 a0_0, .slice A0_1 l0_1.length c0_1] ?_; intro gb336 hg w5 hbox hb; have _ := aM (below_step bq hb); have _ := aM (hbox); have _ := aM ((gS hg)); have _ := aM ((gS hg)); clear HB; rename_i HB BK336 GW336 GE336; clear hb hbox hg) | ((with_reducible refine gate_dst (N := 2) rfl ?_); refine bE 2 28 #[.slice none 0 0] ?_; intro gb337 hg w6 hbox hb; have _ := aM (blk_below (qQ BK336) hb); have _ := aM (below_step bq hb); have _ := aM (hbox); have _ := aM ((gS hg)); have _ := aM ((gS hg)); have _ := aM ((by rw [hg]; exact Nat.ne_of_lt (blk_lt (g := gb336) (o := .cells #[.int .i64 a0_0, .slice A0_1 l0_1.length c0_1] 31 (0, 0)) (qQ BK336)) : gb336 ≠ gb337)); have _ := aM ((by rw [hg]; exact Nat.ne_of_gt (blk_lt (g := gb336) (o := .cells #[.int .i64 a0_0, .slice A0_1 l0_1.length c0_1] 31 (0, 0)) (qQ BK336)) : gb337 ≠ gb336)); clear BK336 HB; rename_i BK336 HB BK337 GW337 GE337 NB336_337 NB337_336; clear hb hbox hg; have hnb7 := NB336_337.out; have hnc7 := NB337_336.out; have hcz8_0 := zc20 BK336; have hcz8_1 := zc21 BK336; have hfz8_0 := blk_frozen BK336.out 0; have hfz8_1 := blk_frozen BK336.out 1) | ((with_reducible refine gate_callee (f := 40) rfl ?_); refine gL (some 5) Tryd.func40 #[.agg #[.int .i64 a0_0, .slice A0_1 l0_1.length c0_1]] ?_; (with_reducible refine (impl_isInterval.calls k a0_0 _ _ l0_1 true _ (HVV.out.below bq) (cQ (Kd.C_below HR0_1.out HB.out)) HC0_1.out A2.out).mono ?_); rintro e w9 ⟨rfl, hb⟩; refine ⟨_, rfl, ?_⟩; have _ := aM (blk_below (qQ BK336) hb); have _ := aM (blk_below (qQ BK337) hb); have _ := aM (below_step bq hb); clear BK336 BK337 HB; rename_i BK336 BK337 HB; (try clear hb); (try clear hb2); (try clear hk); (try clear hi); have hcz10_0 := zc20 BK336; have hcz10_1 := zc21 BK336; have hfz10_0 := blk_frozen BK336.out 0; have hfz10_1 := blk_frozen BK336.out 1) | ((with_reducible refine gate_callee (f := 41) rfl ?_); refine gL (some 9) Tryd.func41 #[.agg #[.int .i64 a0_0, .slice A0_1 l0_1.length c0_1]] ?_; (with_reducible refine (impl_Order_matrix.calls k a0_0 _ _ l0_1 t339 _ (cQ (Kd.C_below HR0_1.out HB.out)) HC0_1.out A4.out).mono ?_); rintro e w11 ⟨v340, rfl, ho0, hb⟩; refine ⟨_, rfl, ?_⟩; have _ := aM (Kd.S_lower ho0 (below_size bq)); have _ := aM (blk_below (qQ BK336) hb); have _ := aM (blk_below (qQ BK337) hb); have _ := aM (below_step bq hb); clear BK336 BK337 HB; rename_i HO341 BK336 BK337 HB; (try clear hb); (try clear hb2); (try clear hk); (try clear hi); (try clear ho0); obtain ⟨Ao12, co12, eo12⟩ := Kd.S_slice HO341.out; subst eo12; have hcz13_0 := zc10 BK337; have hfz13_0 := blk_frozen BK337.out 0))
  refine bodyPost_ret (results_ct rfl _ _ gb337 28 #[.slice Ao12 t339.length co12] (0, 0) _ rfl (by (with_reducible repeat first|apply qN|apply qD|apply qA); refine blk_put (cs := #[.slice none 0 0]) ?_ 0 _ rfl; (with_reducible repeat first|apply qN|apply qD|apply qA); exact BK337.out) Tryd.underlying28 rfl (by kernel_rfl)) rfl ?_
  exact ⟨_, eE, by (with_reducible repeat first|apply sA|apply sN|apply sD); exact Kd.S_mono (Kd.S_far (p := ⟨gb337, 0, none⟩) (Kd.S_types HO341.out BK337.out (by decide)) (fun _ hk => hk.2) (.slice Ao12 t339.length co12)) (fun _ hk => trivial), bq⟩
 ·replace c3 := Bool.eq_false_iff.mpr c3
  subst c3
  have H1 : (some (([] : List (List Int)), false)) = some (r1, r2) := by rw [if_neg (show ¬ (false = true) by decide)] at H; exact H
  clear H
  have H := H1
  clear H1
  simp only [Option.some.injEq, Prod.mk.injEq] at H
  obtain ⟨rfl, rfl⟩ := H
  go_enter Tryd.func10, Tryd.ntmps10
  go_wp2_with (first | ((with_reducible refine gate_dst (N := 1) rfl ?_); refine bE 1 31 #[.int .i64 a0_0, .slice A0_1 l0_1.length c0_1] ?_; intro gb336 hg w14 hbox hb; have _ := aM (below_step bq hb); have _ := aM (hbox); have _ := aM ((gS hg)); have _ := aM ((gS hg)); clear HB; rename_i HB BK336 GW336 GE336; clear hb hbox hg) | ((with_reducible refine gate_dst (N := 2) rfl ?_); refine bE 2 28 #[.slice none 0 0] ?_; intro gb337 hg w15 hbox hb; have _ := aM (blk_below (qQ BK336) hb); have _ := aM (below_step bq hb); have _ := aM (hbox); have _ := aM ((gS hg)); have _ := aM ((gS hg)); have _ := aM ((by rw [hg]; exact Nat.ne_of_lt (blk_lt (g := gb336) (o := .cells #[.int .i64 a0_0, .slice A0_1 l0_1.length c0_1] 31 (0, 0)) (qQ BK336)) : gb336 ≠ gb337)); have _ := aM ((by rw [hg]; exact Nat.ne_of_gt (blk_lt (g := gb336) (o := .cells #[.int .i64 a0_0, .slice A0_1 l0_1.length c0_1] 31 (0, 0)) (qQ BK336)) : gb337 ≠ gb336)); clear BK336 HB; rename_i BK336 HB BK337 GW337 GE337 NB336_337 NB337_336; clear hb hbox hg; have hnb16 := NB336_337.out; have hnc16 := NB337_336.out; have hcz17_0 := zc20 BK336; have hcz17_1 := zc21 BK336; have hfz17_0 := blk_frozen BK336.out 0; have hfz17_1 := blk_frozen BK336.out 1) | ((with_reducible refine gate_callee (f := 40) rfl ?_); refine gL (some 5) Tryd.func40 #[.agg #[.int .i64 a0_0, .slice A0_1 l0_1.length c0_1]] ?_; (with_reducible refine (impl_isInterval.calls k a0_0 _ _ l0_1 false _ (HVV.out.below (by repeat (first | (with_reducible first | exact HB.out | apply bA | apply bN | apply bD) | exact HB.out | (refine Below.setCell ?_ ?_ _; rotate_left; first | exact GW336.out | exact GW337.out)))) (cQ (Kd.C_below HR0_1.out HB.out)) HC0_1.out A2.out).mono ?_); rintro e w18 ⟨rfl, hb⟩; refine ⟨_, rfl, ?_⟩; have _ := aM (blk_below (qQ BK336) hb); have _ := aM (blk_below (qQ BK337) hb); have _ := aM (below_step bq hb); clear BK336 BK337 HB; rename_i BK336 BK337 HB; (try clear hb); (try clear hb2); (try clear hk); (try clear hi); have hcz19_0 := zc10 BK337; have hfz19_0 := blk_frozen BK337.out 0))
  refine bodyPost_ret (results_ct rfl _ _ gb337 28 #[.slice none 0 0] (0, 0) _ rfl (by (with_reducible repeat first|apply qN|apply qD|apply qA); refine blk_put (cs := #[.slice none 0 0]) ?_ 0 _ rfl; (with_reducible repeat first|apply qN|apply qD|apply qA); exact BK337.out) Tryd.underlying28 rfl (by kernel_rfl)) rfl ?_
  exact ⟨_, eE, by first | exact Kd.S_nil _ _ _ _ _ | exact Kd.N_nil _ _ _ _ _ | exact Kd.V_nil _ _ _ _ _ | exact Kd.Q_nil _ _ _ _ _ | exact Kd.R_nil _ _ _ _ _, bq⟩

end Go.Proofs.YtcodionjhcmfhaaDoor.Mo
