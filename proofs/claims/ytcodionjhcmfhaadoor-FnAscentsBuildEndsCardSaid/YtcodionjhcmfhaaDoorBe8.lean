-- Written by hook.py, a program of this session (wip/), which runs the kit's print.py with its own parts; Lean checks it.
import Derived.Test.YtcodionjhcmfhaaDoorBe0
import Derived.Test.YtcodionjhcmfhaaDoorBe6
import Derived.Test.YtcodionjhcmfhaaDoorBe7
import Derived.Test.YtcodionjhcmfhaaDoorBeXSq
namespace Go.Proofs.YtcodionjhcmfhaaDoor.Be
open Go.RowKit Go.Proofs.YtcodionjhcmfhaaDoorW.PrintWords Go.Proofs.YtcodionjhcmfhaaDoorW.PrintLast Go.Proofs.YtcodionjhcmfhaaDoorW.PrintMore Go.Proofs.YtcodionjhcmfhaaDoor.Sq
attribute [local go_sem] max2_int min2_int max_two min_two max_three min_three max_four min_four   -- for this text's walks alone
set_option linter.unusedVariables false
set_option linter.unusedSimpArgs false

def impl_Order_matrix.l0 : Nat → List (S76) → Int → Int → List (List Int) → Option ((List (List Int)))
 | 0, _, _, _, _ => none
 | k + 1, x10, x11, x12, x176000 => if x12 < x11 then (if 0 ≤ x12 then (if x12 < (x10.length : Int) then (if 0 ≤ ((rd_T76 x10 x12).f0) then (if ((rd_T76 x10 x12).f0) < (x176000.length : Int) then (if 0 ≤ ((rd_T76 x10 x12).f1) then (if ((rd_T76 x10 x12).f1) < ((rd_L2 x176000 ((rd_T76 x10 x12).f0)).length : Int) then (impl_Order_matrix.l0 k x10 x11 (wrap64 (x12 + 1)) (x176000.set (((rd_T76 x10 x12).f0) : Int).toNat ((rd_L2 x176000 ((rd_T76 x10 x12).f0)).set (((rd_T76 x10 x12).f1) : Int).toNat (wrap64 ((rd (rd_L2 x176000 ((rd_T76 x10 x12).f0)) ((rd_T76 x10 x12).f1)) + 1))))) else (none)) else (none)) else (none)) else (none)) else (none)) else (none)) else (some x176000)
def impl_Order_matrix.f (k : Nat) (a0_0 : Int) (l0_1 : List Int) : Option ((List (List Int))) := (impl_Order_magnitude.f k a0_0 l0_1).bind fun t171 => ((impl_ofSize.f k t171).bind fun t172 => ((impl_Order_ends.f k a0_0 l0_1).bind fun t176 => (impl_Order_matrix.l0 k t176 (t176.length : Int) 0 t172)))
def impl_Order_matrix.T5 : Bool × List (List Nat × List Nat) := (true, [([], []), ([0], [0]), ([], []), ([2], [2]), ([1, 3], [1, 3]), ([4], [4]), ([], []), ([6], [6]), ([5, 7], [5, 7]), ([8], [8]), ([9], [9]), ([5, 7, 0, 1, 2, 3, 4, 5, 6, 7, 8, 9, 10], [5, 7]), ([11, 10, 0, 1, 2, 3, 4, 5, 6, 7, 8, 9, 10], [10, 11])])
def impl_Order_matrix.B5 : List Nat := [0, 1, 0, 4, 15, 31, 0, 64, 255, 511, 1023, 2047, 4095]
theorem impl_Order_matrix.tab5 : rtab .any (opsOf Tryd.f41 5) = impl_Order_matrix.T5 := by kernel_rfl
theorem impl_Order_matrix.bits5 : waitsOk impl_Order_matrix.T5.2 impl_Order_matrix.B5 = true := by kernel_rfl
set_option maxHeartbeats 8000000 in
set_option maxRecDepth 100000 in
theorem impl_Order_matrix.calls (k : Nat) (a0_0 : Int) (A0_1 : Option Addr) (c0_1 : Nat) (l0_1 : List Int) (r : List (List Int)) (w : World) (hr0_1 : Kd.C (Kd.int .i64) w A0_1 l0_1.length l0_1) (hc0_1 : l0_1.length ≤ c0_1) (h : impl_Order_matrix.f k a0_0 l0_1 = some r) :
  Calls Tryd.prog 41 #[.agg #[.int .i64 a0_0, .slice A0_1 l0_1.length c0_1]] w fun e w' => ∃ v0_ : Value, e = .returned (.agg #[v0_]) ∧ Kd.S (Kd.slice 3 (Kd.int .i64)) 22 w' w.heap.size (fun _ => True) v0_ r ∧ Below w.heap.size w w' := by
 have hu31 := Tryd.underlying31
 have hu28 := Tryd.underlying28
 have hu76 := Tryd.underlying76
 have HR0_1 := aM hr0_1
 have HC0_1 := aM hc0_1
 clear hr0_1 hc0_1
 have HB := aM (Below.refl w.heap.size w)
 have H : ((impl_Order_magnitude.f k a0_0 l0_1).bind fun t171 => ((impl_ofSize.f k t171).bind fun t172 => ((impl_Order_ends.f k a0_0 l0_1).bind fun t176 => (impl_Order_matrix.l0 k t176 (t176.length : Int) 0 t172)))) = some r := h
 clear h
 replace H := bS H
 obtain ⟨t171, A2, H⟩ := H
 try dsimp only at H
 replace H := bS H
 obtain ⟨t172, A3, H⟩ := H
 try dsimp only at H
 replace H := bS H
 obtain ⟨t176, A4, H⟩ := H
 try dsimp only at H
 have H' := aM H
 clear H
 go_enter Tryd.func41, Tryd.ntmps41
 go_wp2_with (first | ((with_reducible refine gate_dst (N := 1) rfl ?_); refine bE 1 31 #[.int .i64 a0_0, .slice A0_1 l0_1.length c0_1] ?_; intro gb169 hg w5 hbox hb; have _ := aM (below_step bq hb); have _ := aM (hbox); have _ := aM ((gS hg)); have _ := aM ((gS hg)); clear HB; rename_i HB BK169 GW169 GE169; clear hb hbox hg) | ((with_reducible refine gate_dst (N := 2) rfl ?_); refine bE 2 28 #[.slice none 0 0] ?_; intro gb170 hg w6 hbox hb; have _ := aM (blk_below (qQ BK169) hb); have _ := aM (below_step bq hb); have _ := aM (hbox); have _ := aM ((gS hg)); have _ := aM ((gS hg)); have _ := aM ((by rw [hg]; exact Nat.ne_of_lt (blk_lt (g := gb169) (o := .cells #[.int .i64 a0_0, .slice A0_1 l0_1.length c0_1] 31 (0, 0)) (qQ BK169)) : gb169 ≠ gb170)); have _ := aM ((by rw [hg]; exact Nat.ne_of_gt (blk_lt (g := gb169) (o := .cells #[.int .i64 a0_0, .slice A0_1 l0_1.length c0_1] 31 (0, 0)) (qQ BK169)) : gb170 ≠ gb169)); clear BK169 HB; rename_i BK169 HB BK170 GW170 GE170 NB169_170 NB170_169; clear hb hbox hg; have hnb7 := NB169_170.out; have hnc7 := NB170_169.out; have hcz8_0 := zc20 BK169; have hcz8_1 := zc21 BK169; have hfz8_0 := blk_frozen BK169.out 0; have hfz8_1 := blk_frozen BK169.out 1) | ((with_reducible refine gate_callee (f := 57) rfl ?_); refine gL (some 7) Tryd.func57 #[.agg #[.int .i64 a0_0, .slice A0_1 l0_1.length c0_1]] ?_; (with_reducible refine (impl_Order_magnitude.calls k a0_0 _ _ l0_1 t171 _ (cQ (Kd.C_below HR0_1.out HB.out)) HC0_1.out A2.out).mono ?_); rintro e w9 ⟨rfl, hb⟩; refine ⟨_, rfl, ?_⟩; have _ := aM (blk_below (qQ BK169) hb); have _ := aM (blk_below (qQ BK170) hb); have _ := aM (below_step bq hb); clear BK169 BK170 HB; rename_i BK169 BK170 HB; (try clear hb); (try clear hb2); (try clear hk); (try clear hi)) | ((with_reducible refine gate_callee (f := 70) rfl ?_); refine gL (some 8) Tryd.func70 #[.int .i64 t171] ?_; (with_reducible refine (impl_ofSize.calls k t171 t172 _ A3.out).mono ?_); rintro e w10 ⟨v173, rfl, ho0, hb⟩; refine ⟨_, rfl, ?_⟩; have _ := aM (Kd.S_lower ho0 (below_size bq)); have _ := aM (blk_below (qQ BK169) hb); have _ := aM (blk_below (qQ BK170) hb); have _ := aM (below_step bq hb); clear BK169 BK170 HB; rename_i HO174 BK169 BK170 HB; (try clear hb); (try clear hb2); (try clear hk); (try clear hi); (try clear ho0)) | ((with_reducible refine gate_dst (N := 3) rfl ?_); refine bE 3 28 #[.slice none 0 0] ?_; intro gb175 hg w11 hbox hb; have _ := aM (Kd.S_below (sQ HO174) hb); have _ := aM (blk_below (qQ BK169) hb); have _ := aM (blk_below (qQ BK170) hb); have _ := aM (below_step bq hb); have _ := aM (hbox); have _ := aM ((gS hg)); have _ := aM ((gS hg)); have _ := aM ((by rw [hg]; exact Nat.ne_of_lt (blk_lt (g := gb169) (o := .cells #[.int .i64 a0_0, .slice A0_1 l0_1.length c0_1] 31 (0, 0)) (qQ BK169)) : gb169 ≠ gb175)); have _ := aM ((by rw [hg]; exact Nat.ne_of_gt (blk_lt (g := gb169) (o := .cells #[.int .i64 a0_0, .slice A0_1 l0_1.length c0_1] 31 (0, 0)) (qQ BK169)) : gb175 ≠ gb169)); have _ := aM ((by rw [hg]; exact Nat.ne_of_lt (blk_lt (g := gb170) (o := .cells #[.slice none 0 0] 28 (0, 0)) (qQ BK170)) : gb170 ≠ gb175)); have _ := aM ((by rw [hg]; exact Nat.ne_of_gt (blk_lt (g := gb170) (o := .cells #[.slice none 0 0] 28 (0, 0)) (qQ BK170)) : gb175 ≠ gb170)); clear HO174 BK169 BK170 HB; rename_i HO174 BK169 BK170 HB BK175 GW175 GE175 NB169_175 NB175_169 NB170_175 NB175_170; clear hb hbox hg; obtain ⟨Ao12, co12, eo12⟩ := Kd.S_slice HO174.out; subst eo12; have hnb13 := NB175_169.out; have hnc13 := NB169_175.out; have hnb14 := NB175_170.out; have hnc14 := NB170_175.out; have hcz15_0 := zc10 BK175; have hfz15_0 := blk_frozen BK175.out 0; have hcz16_0 := zc20 BK169; have hcz16_1 := zc21 BK169; have hfz16_0 := blk_frozen BK169.out 0; have hfz16_1 := blk_frozen BK169.out 1) | ((with_reducible refine gate_callee (f := 56) rfl ?_); refine gL (some 10) Tryd.func56 #[.agg #[.int .i64 a0_0, .slice A0_1 l0_1.length c0_1]] ?_; (with_reducible refine (impl_Order_ends.calls k a0_0 _ _ l0_1 t176 _ ?side1 ?side2 A4.out).mono ?_); (case side1 => exact Kd.C_below HR0_1.out bq); (case side2 => exact HC0_1.out); rintro e w17 ⟨v177, rfl, ho0, hb⟩; refine ⟨_, rfl, ?_⟩; have _ := aM (Kd.S_below (by (with_reducible repeat first|apply sA|apply sN|apply sD); exact (Kd.S_mono (Kd.S_far (p := ⟨gb175, 0, none⟩) (Kd.S_types HO174.out BK175.out (by decide)) (fun _ hk => hk.2) (.slice Ao12 t172.length co12)) (fun _ h_ => h_.1))) hb); have _ := aM (Kd.R_lower ho0 (below_size bq)); have _ := aM (blk_below (g := gb169) (o := .cells #[.int .i64 a0_0, .slice A0_1 l0_1.length c0_1] 31 (0, 0)) (by (with_reducible repeat first|apply qN|apply qD|apply qA); refine blk_far ?_ NB169_175.out _; (with_reducible repeat first|apply qN|apply qD|apply qA); exact BK169.out) hb); have _ := aM (blk_below (g := gb170) (o := .cells #[.slice none 0 0] 28 (0, 0)) (by (with_reducible repeat first|apply qN|apply qD|apply qA); refine blk_far ?_ NB170_175.out _; (with_reducible repeat first|apply qN|apply qD|apply qA); exact BK170.out) hb); have _ := aM (blk_below (g := gb175) (o := .cells #[.slice Ao12 t172.length co12] 28 (0, 0)) (by (with_reducible repeat first|apply qN|apply qD|apply qA); refine blk_put (cs := #[.slice none 0 0]) ?_ 0 _ rfl; (with_reducible repeat first|apply qN|apply qD|apply qA); exact BK175.out) hb); have _ := aM (below_step bq hb); clear HO174 BK169 BK170 BK175 HB; rename_i HO174 HO178 BK169 BK170 BK175 HB; (try clear hb); (try clear hb2); (try clear hk); (try clear hi); (try clear ho0); obtain ⟨Ao18, co18, eo18⟩ := Kd.R_slice HO178.out; subst eo18))
 go_loopg [12] k (fun kq v12 w' => ∃ (x12_1 : Int) (x176000_1 : List (List Int)) (u176000 : Value), v12 = .int .i64 x12_1 ∧ Aside0 (impl_Order_matrix.l0 kq t176 (t176.length : Int) x12_1 x176000_1 = some r) ∧ Aside0 (kq ≤ k) ∧ Aside0 (Kd.R k76 76 w' w.heap.size (fun _ => True) (.slice Ao18 t176.length co18) t176) ∧ Aside0 (Kd.S (Kd.slice 3 (Kd.int .i64)) 22 w' w.heap.size (fun _ => True) u176000 x176000_1) ∧ Aside0 (w'.heap[gb169]? = some (.cells #[.int .i64 a0_0, (.slice A0_1 l0_1.length c0_1)] 31 (0, 0))) ∧ Aside0 (w'.heap[gb170]? = some (.cells #[(.slice none 0 0)] 28 (0, 0))) ∧ Aside0 (w'.heap[gb175]? = some (.cells #[u176000] 28 (0, 0))) ∧ Aside0 (Below w.heap.size w w'))
 case atStart => exact ⟨(0), (t172), (.slice Ao12 t172.length co12), eR, H', ⟨Nat.le_refl _⟩, ⟨rQ HO178⟩, ⟨by (with_reducible repeat first|apply sA|apply sN|apply sD); exact HO174.out⟩, ⟨qQ BK169⟩, ⟨qQ BK170⟩, ⟨qQ BK175⟩, ⟨bq⟩⟩
 case round =>
  clear H'
  try clear c1
  try clear p2
  try clear c4
  try clear c5
  try clear c7
  try clear c13
  try clear c14
  try clear hcz15_0
  try clear hcz16_0
  try clear hcz16_1
  try clear hcz8_0
  try clear hcz8_1
  try clear hfz15_0
  try clear hfz16_0
  try clear hfz16_1
  try clear hfz8_0
  try clear hfz8_1
  obtain ⟨x12_1, x176000_1, u176000, rfl, HA, HK1, HO_10, HO_176000, BK169, BK170, BK175, HB⟩ := hrel
  cases gk with
  | zero => exact absurd HA.out (by simp [impl_Order_matrix.l0])
  | succ k1 =>
   have H := HA.out
   clear HA
   simp only [impl_Order_matrix.l0] at H
   by_cases c19 : x12_1 < (t176.length : Int)
   ·rw [if_pos c19] at H
    have c19b0 := decide_eq_true c19
    clear c19
    replace H := iD4 H
    obtain ⟨c20b0, c21b0, c22b0, c23b0, H⟩ := H
    replace H := iD2 H
    obtain ⟨c24b0, c25b0, H⟩ := H
    obtain ⟨y183, hy183⟩ : ∃ y_ : List Int, y_ = ((rd_L2 x176000_1 ((rd_T76 t176 x12_1).f0)).set (((rd_T76 t176 x12_1).f1) : Int).toNat (wrap64 ((rd (rd_L2 x176000_1 ((rd_T76 t176 x12_1).f0)) ((rd_T76 t176 x12_1).f1)) + 1))) := ⟨_, rfl⟩
    replace H : (impl_Order_matrix.l0 k1 t176 (t176.length : Int) (wrap64 (x12_1 + 1)) (x176000_1.set (((rd_T76 t176 x12_1).f0) : Int).toNat y183)) = some r := by first | (rw [hy183]; with_reducible exact H) | (have H2_ := (Option.bind_some _ _).symm.trans H; rw [hy183]; with_reducible exact H2_) | (have H2_ := (Option.bind_some _ _).symm.trans H; with_reducible exact H2_) | with_reducible exact H | (rw [hy183]; exact H) | exact H
    have Ny183 := aM hy183
    clear hy183
    obtain ⟨y185, hy185⟩ : ∃ y_ : List (List Int), y_ = (x176000_1.set (((rd_T76 t176 x12_1).f0) : Int).toNat y183) := ⟨_, rfl⟩
    replace H : (impl_Order_matrix.l0 k1 t176 (t176.length : Int) (wrap64 (x12_1 + 1)) y185) = some r := by first | (rw [hy185]; with_reducible exact H) | (have H2_ := (Option.bind_some _ _).symm.trans H; rw [hy185]; with_reducible exact H2_) | (have H2_ := (Option.bind_some _ _).symm.trans H; with_reducible exact H2_) | with_reducible exact H | (rw [hy185]; exact H) | exact H
    have Ny185 := aM hy185
    clear hy185
    have H' := aM H
    clear H
    have p179 : 0 ≤ (x12_1 : Int) := odt
    have q179 : x12_1 < (t176.length : Int) := odt
    obtain ⟨ad179, e179, hx179_0, hx179_1⟩ := at_T76 (Kd.R_reads' HO_10.out).2.2 x12_1 p179 q179
    cases e179
    replace p179 := eq_true p179
    replace q179 := eq_true q179
    try go_wp2_with (first | ((with_reducible refine gate_dst (N := 5) rfl ?_); refine bE 5 76 #[.int .i64 0, .int .i64 0] ?_; intro gb180 hg w27 hbox hb; have _ := aM (Kd.R_below (Kd.R_elderB (rQ HO_10) gb180 (Nat.le_of_eq hg.symm)) hb); have _ := aM (Kd.S_below (sQ HO_176000) hb); have _ := aM (blk_below (qQ BK169) hb); have _ := aM (blk_below (qQ BK170) hb); have _ := aM (blk_below (qQ BK175) hb); have _ := aM (below_step bq hb); have _ := aM (hbox); have _ := aM ((gS hg)); have _ := aM ((gS hg)); have _ := aM ((by rw [hg]; exact Nat.ne_of_lt (blk_lt (g := gb169) (o := .cells #[.int .i64 a0_0, .slice A0_1 l0_1.length c0_1] 31 (0, 0)) (qQ BK169)) : gb169 ≠ gb180)); have _ := aM ((by rw [hg]; exact Nat.ne_of_gt (blk_lt (g := gb169) (o := .cells #[.int .i64 a0_0, .slice A0_1 l0_1.length c0_1] 31 (0, 0)) (qQ BK169)) : gb180 ≠ gb169)); have _ := aM ((by rw [hg]; exact Nat.ne_of_lt (blk_lt (g := gb170) (o := .cells #[.slice none 0 0] 28 (0, 0)) (qQ BK170)) : gb170 ≠ gb180)); have _ := aM ((by rw [hg]; exact Nat.ne_of_gt (blk_lt (g := gb170) (o := .cells #[.slice none 0 0] 28 (0, 0)) (qQ BK170)) : gb180 ≠ gb170)); have _ := aM ((by rw [hg]; exact Nat.ne_of_lt (blk_lt (g := gb175) (o := .cells #[u176000] 28 (0, 0)) (qQ BK175)) : gb175 ≠ gb180)); have _ := aM ((by rw [hg]; exact Nat.ne_of_gt (blk_lt (g := gb175) (o := .cells #[u176000] 28 (0, 0)) (qQ BK175)) : gb180 ≠ gb175)); clear HO_10 HO_176000 BK169 BK170 BK175 HB; rename_i HO_10 HO_176000 BK169 BK170 BK175 HB BK180 GW180 GE180 NB169_180 NB180_169 NB170_180 NB180_170 NB175_180 NB180_175; clear hb hbox hg; have hnb28 := NB180_169.out; have hnc28 := NB169_180.out; have hnb29 := NB180_170.out; have hnc29 := NB170_180.out; have hnb30 := NB180_175.out; have hnc30 := NB175_180.out; have hcz31_0 := zc20 BK180; have hcz31_1 := zc21 BK180; have hfz31_0 := blk_frozen BK180.out 0; have hfz31_1 := blk_frozen BK180.out 1))
    have n0_ : Aside0 (Kd.R k76 76 ((w27.setCell ⟨gb180, 0, none⟩ (.int .i64 ((rd_T76 t176 x12_1).f0))).setCell ⟨gb180, 1, none⟩ (.int .i64 ((rd_T76 t176 x12_1).f1))) w.heap.size (fun k_ => k_ ≠ gb180) (.slice (some ad179) t176.length co18) t176) := ⟨by (with_reducible repeat first|apply rA|apply rN|apply rD); exact Kd.R_mono (Kd.R_far (p := ⟨gb180, 1, none⟩) (Kd.R_far (p := ⟨gb180, 0, none⟩) (Kd.R_mono HO_10.out (fun k_ hk => (⟨hk, hk.2⟩ : _ ∧ k_ ≠ gb180))) (fun _ hk => hk.2) (.int .i64 ((rd_T76 t176 x12_1).f0))) (fun _ hk => hk.2) (.int .i64 ((rd_T76 t176 x12_1).f1))) (fun _ hk => hk.1.2)⟩
    have n1_ : Aside0 (Kd.S (Kd.slice 3 (Kd.int .i64)) 22 ((w27.setCell ⟨gb180, 0, none⟩ (.int .i64 ((rd_T76 t176 x12_1).f0))).setCell ⟨gb180, 1, none⟩ (.int .i64 ((rd_T76 t176 x12_1).f1))) w.heap.size (fun _ => True) u176000 x176000_1) := ⟨by (with_reducible repeat first|apply sA|apply sN|apply sD); exact Kd.S_mono (Kd.S_far (p := ⟨gb180, 1, none⟩) (Kd.S_far (p := ⟨gb180, 0, none⟩) (Kd.S_types HO_176000.out BK180.out (by decide)) (fun _ hk => hk.2) (.int .i64 ((rd_T76 t176 x12_1).f0))) (fun _ hk => hk.2) (.int .i64 ((rd_T76 t176 x12_1).f1))) (fun _ hk => trivial)⟩
    have n2_ : Aside0 (((w27.setCell ⟨gb180, 0, none⟩ (.int .i64 ((rd_T76 t176 x12_1).f0))).setCell ⟨gb180, 1, none⟩ (.int .i64 ((rd_T76 t176 x12_1).f1))).heap[gb169]? = some (.cells #[.int .i64 a0_0, .slice A0_1 l0_1.length c0_1] 31 (0, 0))) := ⟨by (with_reducible repeat first|apply qN|apply qD|apply qA); refine blk_far ?_ NB169_180.out _; (with_reducible repeat first|apply qN|apply qD|apply qA); refine blk_far ?_ NB169_180.out _; (with_reducible repeat first|apply qN|apply qD|apply qA); exact BK169.out⟩
    have n3_ : Aside0 (((w27.setCell ⟨gb180, 0, none⟩ (.int .i64 ((rd_T76 t176 x12_1).f0))).setCell ⟨gb180, 1, none⟩ (.int .i64 ((rd_T76 t176 x12_1).f1))).heap[gb170]? = some (.cells #[.slice none 0 0] 28 (0, 0))) := ⟨by (with_reducible repeat first|apply qN|apply qD|apply qA); refine blk_far ?_ NB170_180.out _; (with_reducible repeat first|apply qN|apply qD|apply qA); refine blk_far ?_ NB170_180.out _; (with_reducible repeat first|apply qN|apply qD|apply qA); exact BK170.out⟩
    have n4_ : Aside0 (((w27.setCell ⟨gb180, 0, none⟩ (.int .i64 ((rd_T76 t176 x12_1).f0))).setCell ⟨gb180, 1, none⟩ (.int .i64 ((rd_T76 t176 x12_1).f1))).heap[gb175]? = some (.cells #[u176000] 28 (0, 0))) := ⟨by (with_reducible repeat first|apply qN|apply qD|apply qA); refine blk_far ?_ NB175_180.out _; (with_reducible repeat first|apply qN|apply qD|apply qA); refine blk_far ?_ NB175_180.out _; (with_reducible repeat first|apply qN|apply qD|apply qA); exact BK175.out⟩
    have n5_ : Aside0 (((w27.setCell ⟨gb180, 0, none⟩ (.int .i64 ((rd_T76 t176 x12_1).f0))).setCell ⟨gb180, 1, none⟩ (.int .i64 ((rd_T76 t176 x12_1).f1))).heap[gb180]? = some (.cells #[.int .i64 ((rd_T76 t176 x12_1).f0), .int .i64 ((rd_T76 t176 x12_1).f1)] 76 (0, 0))) := ⟨by (with_reducible repeat first|apply qN|apply qD|apply qA); refine blk_put (cs := #[.int .i64 ((rd_T76 t176 x12_1).f0), .int .i64 0]) ?_ 1 _ rfl; (with_reducible repeat first|apply qN|apply qD|apply qA); refine blk_put (cs := #[.int .i64 0, .int .i64 0]) ?_ 0 _ rfl; (with_reducible repeat first|apply qN|apply qD|apply qA); exact BK180.out⟩
    have n6_ : Aside0 (Below w.heap.size w ((w27.setCell ⟨gb180, 0, none⟩ (.int .i64 ((rd_T76 t176 x12_1).f0))).setCell ⟨gb180, 1, none⟩ (.int .i64 ((rd_T76 t176 x12_1).f1)))) := ⟨bq⟩
    (try clear HO_10)
    (try clear HO_176000)
    (try clear BK169)
    (try clear BK170)
    (try clear BK175)
    (try clear BK180)
    (try clear HB)
    generalize ((w27.setCell ⟨gb180, 0, none⟩ (.int .i64 ((rd_T76 t176 x12_1).f0))).setCell ⟨gb180, 1, none⟩ (.int .i64 ((rd_T76 t176 x12_1).f1))) = w32 at n0_ n1_ n2_ n3_ n4_ n5_ n6_ ⊢
    have HO_10 := n0_
    have HO_176000 := n1_
    have BK169 := n2_
    have BK170 := n3_
    have BK175 := n4_
    have BK180 := n5_
    have HB := n6_
    clear n0_ n1_ n2_ n3_ n4_ n5_ n6_
    have n0_ := aM (Kd.R_drew HO_10.out)
    have n1_ := aM (Kd.S_drew HO_176000.out)
    have n2_ := aM (blk_drew BK169.out)
    have n3_ := aM (blk_drew BK170.out)
    have n4_ := aM (blk_drew BK175.out)
    have n5_ := aM (blk_drew BK180.out)
    have n6_ := aM (below_drew1 HB.out)
    clear HO_10
    clear HO_176000
    clear BK169
    clear BK170
    clear BK175
    clear BK180
    clear HB
    have HO_10 := n0_
    have HO_176000 := n1_
    have BK169 := n2_
    have BK170 := n3_
    have BK175 := n4_
    have BK180 := n5_
    have HB := n6_
    clear n0_ n1_ n2_ n3_ n4_ n5_ n6_
    obtain ⟨Ao34, co34, eo34⟩ := Kd.S_slice HO_176000.out
    (first | subst eo34 | (injection eo34 with f1_ f2_ f3_; have f4_ := f1_.symm; have f5_ := f3_.symm; clear f1_ f2_ f3_; subst f4_; subst f5_))
    have p181 : 0 ≤ (((rd_T76 t176 x12_1).f0) : Int) := odt
    have q181 : ((rd_T76 t176 x12_1).f0) < (x176000_1.length : Int) := odt
    obtain ⟨ad181, A181_0, c181_0, e181, hx181_0, hl181_0, hi181_0⟩ := at_L2 (Kd.S_reads' HO_176000.out).2.2 ((rd_T76 t176 x12_1).f0) p181 q181
    cases e181
    obtain ⟨ce181, hce181, hMe181, hcc181⟩ := Kd.S_get HO_176000.out [] ((rd_T76 t176 x12_1).f0) p181 (by first | exact q181 | exact odt | (have e_ := (Kd.S_reads' HO_176000.out).1; omega))
    obtain ⟨ve181_0, rfl, ge181_0⟩ := hMe181
    have hv181_0 := hcc181 0 _ rfl
    rw [Nat.add_zero, show ((Kd.slice 3 (Kd.int .i64))).sz = 1 from rfl, Nat.mul_one] at hv181_0
    replace hv181_0 := Option.some.inj (hv181_0.symm.trans hx181_0)
    rw [hv181_0] at ge181_0
    have HL181_0 := aM (show Kd.R (Kd.int .i64) 3 _ _ _ _ (rd_L2 x176000_1 ((rd_T76 t176 x12_1).f0)) from ge181_0)
    clear hv181_0 ge181_0
    have HX181_0 := aM hx181_0
    clear hcc181 hce181
    have HR181_0 := aM hi181_0
    have HC181_0 := aM hl181_0
    clear hi181_0 hl181_0
    replace p181 := eq_true p181
    replace q181 := eq_true q181
    have p182 : 0 ≤ (((rd_T76 t176 x12_1).f1) : Int) := odt
    have q182 : ((rd_T76 t176 x12_1).f1) < ((rd_L2 x176000_1 ((rd_T76 t176 x12_1).f0)).length : Int) := odt
    obtain ⟨ad182, e182, hx182_0⟩ := Kd.at_int (cQ HR181_0.out) ((rd_T76 t176 x12_1).f1) p182 q182
    cases e182
    replace p182 := eq_true p182
    replace q182 := eq_true q182
    have p26 : 0 ≤ (((rd_T76 t176 x12_1).f1) : Int) := odt
    have q26 : (((rd_T76 t176 x12_1).f1) : Int) < (((rd_L2 x176000_1 ((rd_T76 t176 x12_1).f0)).length : Int) : Int) := odt
    obtain ⟨go26, co26, eo26, gb26, gl26, cl26, HG26⟩ := Kd.R_form HL181_0.out (by omega)
    (first | cases eo26 | (injection eo26 with ea_ en_ ec_; (first | subst ea_ | (injection ea_ with ea_; subst ea_)); subst ec_; clear en_))
    have GB26 := aM gb26
    have GG26 := aM HG26
    clear gb26 gl26 HG26
    (first | simp only [add_plain] at hx182_0 | skip)
    obtain ⟨hx26_0, hf26_0⟩ := Kd.R_celln 0 HL181_0.out (((rd_T76 t176 x12_1).f1) : Int) p26 q26
    replace p26 := eq_true p26
    replace q26 := eq_true q26
    have hq35 : (((rd_T76 t176 x12_1).f0) : Int) < (x176000_1.length : Int) := (by have h_ : (((rd_T76 t176 x12_1).f0) : Int) < ((x176000_1.length : Int) : Int) := odt; first | exact h_ | (have e_ := (Kd.S_reads' HO_176000.out).1; omega) | simpa only [List.length_set, List.length_set] using h_)
    obtain ⟨oki35, ce35, hcl35, hM35, hcc35, hok35, hbk35⟩ := Kd.S_borrow HO_176000.out [] (((rd_T76 t176 x12_1).f0) : Int) (odt) hq35
    obtain ⟨ve35_0, rfl, ge35_0⟩ := hM35
    have hv35 := hcc35 0 _ rfl
    rw [Nat.add_zero, show ((Kd.slice 3 (Kd.int .i64))).sz = 1 from rfl, Nat.mul_one] at hv35
    replace hv35 := Option.some.inj (hv35.symm.trans HX181_0.out)
    subst hv35
    clear hcc35 hcl35
    replace ge35_0 := (show Kd.R (Kd.int .i64) 3 _ _ _ _ (rd_L2 x176000_1 ((rd_T76 t176 x12_1).f0)) from ge35_0)
    have HP35 := Kd.R_putg ge35_0 (((rd_T76 t176 x12_1).f1) : Int) (wrap64 ((rd (rd_L2 x176000_1 ((rd_T76 t176 x12_1).f0)) ((rd_T76 t176 x12_1).f1)) + 1))
    rw [← Ny183.out] at HP35
    have HS35 := hbk35 HP35.2 (fun k_ e_ => by injection e_ with e_; subst e_; exact ge35_0.1 _ rfl) (x' := y183) (Kd.M_row HP35.1)
    rw [← Ny185.out] at HS35
    have HQ35 := aM HS35
    clear HP35 HS35 hbk35 hok35
    refine start_ (n := 13) (S := fun w' => w'.cell? ⟨gb175, 0, none⟩ = some (.slice (some ad181) x176000_1.length co34) ∧ w'.cell? ⟨gb180, 0, none⟩ = some (.int .i64 ((rd_T76 t176 x12_1).f0)) ∧ w'.cell? ⟨gb180, 1, none⟩ = some (.int .i64 ((rd_T76 t176 x12_1).f1)) ∧ w'.cell? (ad181.add (((rd_T76 t176 x12_1).f0)).toNat) = some (.slice (some ⟨go26, 0, none⟩) (rd_L2 x176000_1 ((rd_T76 t176 x12_1).f0)).length c181_0) ∧ w'.cell? ⟨go26, (((rd_T76 t176 x12_1).f1)).toNat, none⟩ = some (.int .i64 (rd (rd_L2 x176000_1 ((rd_T76 t176 x12_1).f0)) ((rd_T76 t176 x12_1).f1)))) (ds := [12]) #[false, false, false, false, false, false, false, false, false, false, false, false, false] (by kernel_rfl) rfl rfl ⟨(blk_cell BK175.out 0).trans rfl, (blk_cell BK180.out 0).trans rfl, (blk_cell BK180.out 1).trans rfl, hx181_0, hx182_0⟩ (fun hHeld => ?_); refine with_tabW impl_Order_matrix.tab5 impl_Order_matrix.bits5 (fun HT_ HW_ => ?_)
    generalize w32.drew = w33 at HO_10 HO_176000 BK169 BK170 BK175 BK180 HB GG26 HL181_0 HQ35 HR181_0 HX181_0 hf26_0 hx181_0 hx182_0 hx26_0 hHeld ⊢
    refine pure_ (i := 0) (N := some 16) (v := ?_) (a' := ?_) #[true, false, false, false, false, false, false, false, false, false, false, false, false] rfl rfl (any_of HT_.out (by kernel_rfl)) (fun _ _ _ h => h) (Or.inl ⟨by rfl, ?_⟩) ?_ ?_
    rotate_left
    ·intro w'
     go_simp
     with_reducible rfl
    rotate_left
    ·simp only [Act.put, List.setIfInBounds_toArray, List.set_cons_zero, List.set_cons_succ, i64_w, i32_w]
     rfl
    refine pure_ (i := 2) (N := some 18) (v := ?_) (a' := ?_) #[true, false, true, false, false, false, false, false, false, false, false, false, false] rfl rfl (any_of HT_.out (by kernel_rfl)) (fun _ _ _ h => h) (Or.inl ⟨by rfl, ?_⟩) ?_ ?_
    rotate_left
    ·intro w'
     go_simp
     with_reducible rfl
    rotate_left
    ·simp only [Act.put, List.setIfInBounds_toArray, List.set_cons_zero, List.set_cons_succ, i64_w, i32_w]
     rfl
    refine pure_ (i := 6) (N := some 22) (v := ?_) (a' := ?_) #[true, false, true, false, false, false, true, false, false, false, false, false, false] rfl rfl (any_of HT_.out (by kernel_rfl)) (fun _ _ _ h => h) (Or.inl ⟨by rfl, ?_⟩) ?_ ?_
    rotate_left
    ·intro w'
     go_simp
     with_reducible rfl
    rotate_left
    ·simp only [Act.put, List.setIfInBounds_toArray, List.set_cons_zero, List.set_cons_succ, i64_w, i32_w]
     rfl
    refine take_ (i := 1) (N := some 17) (v := ?_) (a' := ?_) #[true, true, true, false, false, false, true, false, false, false, false, false, false] rfl rfl (take_ofW HT_.out HW_.out (by kernel_rfl)) (fun _ _ _ h => h) (Or.inl ⟨by rfl, ?_⟩) hHeld ?_ ?_
    rotate_left
    ·rintro w' ⟨s0, s1, s2, s3, s4⟩
     go_simp
     with_reducible rfl
    rotate_left
    ·simp only [Act.put, List.setIfInBounds_toArray, List.set_cons_zero, List.set_cons_succ, i64_w, i32_w]
     rfl
    refine take_ (i := 3) (N := some 19) (v := ?_) (a' := ?_) #[true, true, true, true, false, false, true, false, false, false, false, false, false] rfl rfl (take_ofW HT_.out HW_.out (by kernel_rfl)) (fun _ _ _ h => h) (Or.inl ⟨by rfl, ?_⟩) hHeld ?_ ?_
    rotate_left
    ·rintro w' ⟨s0, s1, s2, s3, s4⟩
     go_simp
     with_reducible rfl
    rotate_left
    ·simp only [Act.put, List.setIfInBounds_toArray, List.set_cons_zero, List.set_cons_succ, i64_w, i32_w]
     rfl
    refine pure_ (i := 4) (N := some 20) (v := ?_) (a' := ?_) #[true, true, true, true, true, false, true, false, false, false, false, false, false] rfl rfl (any_of HT_.out (by kernel_rfl)) (fun _ _ _ h => h) (Or.inl ⟨by rfl, ?_⟩) ?_ ?_
    rotate_left
    ·intro w'
     go_simp
     with_reducible rfl
    rotate_left
    ·simp only [Act.put, List.setIfInBounds_toArray, List.set_cons_zero, List.set_cons_succ, i64_w, i32_w]
     rfl
    refine take_ (i := 5) (N := some 21) (v := ?_) (a' := ?_) #[true, true, true, true, true, true, true, false, false, false, false, false, false] rfl rfl (take_ofW HT_.out HW_.out (by kernel_rfl)) (fun _ _ _ h => h) (Or.inl ⟨by rfl, ?_⟩) hHeld ?_ ?_
    rotate_left
    ·rintro w' ⟨s0, s1, s2, s3, s4⟩
     go_simp
     with_reducible rfl
    rotate_left
    ·simp only [Act.put, List.setIfInBounds_toArray, List.set_cons_zero, List.set_cons_succ, i64_w, i32_w]
     rfl
    refine take_ (i := 7) (N := some 23) (v := ?_) (a' := ?_) #[true, true, true, true, true, true, true, true, false, false, false, false, false] rfl rfl (take_ofW HT_.out HW_.out (by kernel_rfl)) (fun _ _ _ h => h) (Or.inl ⟨by rfl, ?_⟩) hHeld ?_ ?_
    rotate_left
    ·rintro w' ⟨s0, s1, s2, s3, s4⟩
     go_simp
     with_reducible rfl
    rotate_left
    ·simp only [Act.put, List.setIfInBounds_toArray, List.set_cons_zero, List.set_cons_succ, i64_w, i32_w]
     rfl
    refine pure_ (i := 8) (N := some 24) (v := ?_) (a' := ?_) #[true, true, true, true, true, true, true, true, true, false, false, false, false] rfl rfl (any_of HT_.out (by kernel_rfl)) (fun _ _ _ h => h) (Or.inl ⟨by rfl, ?_⟩) ?_ ?_
    rotate_left
    ·intro w'
     go_simp
     with_reducible rfl
    rotate_left
    ·simp only [Act.put, List.setIfInBounds_toArray, List.set_cons_zero, List.set_cons_succ, i64_w, i32_w]
     rfl
    refine take_ (i := 9) (N := some 25) (v := ?_) (a' := ?_) #[true, true, true, true, true, true, true, true, true, true, false, false, false] rfl rfl (take_ofW HT_.out HW_.out (by kernel_rfl)) (fun _ _ _ h => h) (Or.inl ⟨by rfl, ?_⟩) hHeld ?_ ?_
    rotate_left
    ·rintro w' ⟨s0, s1, s2, s3, s4⟩
     go_simp
     with_reducible rfl
    rotate_left
    ·simp only [Act.put, List.setIfInBounds_toArray, List.set_cons_zero, List.set_cons_succ, i64_w, i32_w]
     rfl
    refine pure_ (i := 10) (N := some 26) (v := ?_) (a' := ?_) #[true, true, true, true, true, true, true, true, true, true, true, false, false] rfl rfl (any_of HT_.out (by kernel_rfl)) (fun _ _ _ h => h) (Or.inl ⟨by rfl, ?_⟩) ?_ ?_
    rotate_left
    ·intro w'
     go_simp
     with_reducible rfl
    rotate_left
    ·simp only [Act.put, List.setIfInBounds_toArray, List.set_cons_zero, List.set_cons_succ, i64_w, i32_w]
     rfl
    refine pure_ (i := 11) (N := some 27) (v := ?_) (a' := ?_) #[true, true, true, true, true, true, true, true, true, true, true, true, false] rfl rfl (any_of HT_.out (by kernel_rfl)) (fun _ _ _ h => h) (Or.inl ⟨by rfl, ?_⟩) ?_ ?_
    rotate_left
    ·intro w'
     go_simp
     with_reducible rfl
    rotate_left
    ·simp only [Act.put, List.setIfInBounds_toArray, List.set_cons_zero, List.set_cons_succ, i64_w, i32_w]
     rfl
    refine last_ (i := 12) (N := none) #[true, true, true, true, true, true, true, true, true, true, true, true, true] rfl rfl (one_of HT_.out (by kernel_rfl)) (by decide) (fun K hK => ?_)
    refine skip_ (w1 := ?_) (by rfl) rfl ?_ ?_
    rotate_left
    ·go_simp
     rfl
    refine hK.out _ _ ?_
    clear hK K
    refine done_ (done_of HT_.out (by kernel_rfl)) ?_
    try go_wp2
    go_roundg k1
    case measure => have := HK1.out; omega
    case rel => exact ⟨(wrap64 (x12_1 + 1)), (y185), (.slice (some ad181) x176000_1.length co34), eR, H', ⟨by have := HK1.out; omega⟩, ⟨by (with_reducible repeat first|apply rA|apply rN|apply rD); exact Kd.R_mono (Kd.R_far (p := ⟨go26, (((rd_T76 t176 x12_1).f1) : Int).toNat, none⟩) (Kd.R_types HO_10.out GG26.out (by decide)) (fun _ hk => hk.2) (.int .i64 (wrap64 ((rd (rd_L2 x176000_1 ((rd_T76 t176 x12_1).f0)) ((rd_T76 t176 x12_1).f1)) + 1)))) (fun _ hk => trivial)⟩, ⟨by (with_reducible repeat first|apply sA|apply sN|apply sD); exact HQ35.out⟩, ⟨by (with_reducible repeat first|apply qN|apply qD|apply qA); refine blk_far ?_ (by have h_ := Kd.R_ne HL181_0.out BK169.out (by decide); intro e_; exact h_ (by rw [e_]; rfl)) _; (with_reducible repeat first|apply qN|apply qD|apply qA); exact BK169.out⟩, ⟨by (with_reducible repeat first|apply qN|apply qD|apply qA); refine blk_far ?_ (by have h_ := Kd.R_ne HL181_0.out BK170.out (by decide); intro e_; exact h_ (by rw [e_]; rfl)) _; (with_reducible repeat first|apply qN|apply qD|apply qA); exact BK170.out⟩, ⟨by (with_reducible repeat first|apply qN|apply qD|apply qA); refine blk_far ?_ (by have h_ := Kd.R_ne HL181_0.out BK175.out (by decide); intro e_; exact h_ (by rw [e_]; rfl)) _; (with_reducible repeat first|apply qN|apply qD|apply qA); exact BK175.out⟩, ⟨bq⟩⟩
   ·rw [if_neg c19] at H
    have c19b0 := decide_eq_false c19
    clear c19
    obtain rfl := Option.some.inj H
    have hnb37 := NB175_169.out
    have hnc37 := NB169_175.out
    have hnb38 := NB175_170.out
    have hnc38 := NB170_175.out
    have hcz39_0 := zc10 BK175
    have hfz39_0 := blk_frozen BK175.out 0
    obtain ⟨Ao40, co40, eo40⟩ := Kd.S_slice HO_176000.out
    subst eo40
    have hnb41 := NB170_169.out
    have hnc41 := NB169_170.out
    have hcz42_0 := zc10 BK170
    have hfz42_0 := blk_frozen BK170.out 0
    go_wp2
    refine bodyPost_ret (results_cell_row rfl _ _ gb170 28 #[.slice Ao40 x176000_1.length co40] (0, 0) _ rfl (by (with_reducible repeat first|apply qN|apply qD|apply qA); refine blk_put (cs := #[.slice none 0 0]) ?_ 0 _ rfl; (with_reducible repeat first|apply qN|apply qD|apply qA); exact BK170.out) Tryd.underlying28 rfl (by kernel_rfl)) rfl ?_
    exact ⟨_, eE, by (with_reducible repeat first|apply sA|apply sN|apply sD); exact Kd.S_mono (Kd.S_far (p := ⟨gb170, 0, none⟩) (Kd.S_types HO_176000.out BK170.out (by decide)) (fun _ hk => hk.2) (.slice Ao40 x176000_1.length co40)) (fun _ hk => trivial), bq⟩

def impl_Matrix_size.f (l0_0 : List (List Int)) : Option (Int) := some (l0_0.length : Int)
set_option maxHeartbeats 8000000 in
set_option maxRecDepth 100000 in
theorem impl_Matrix_size.calls (A0_0 : Option Addr) (c0_0 : Nat) (l0_0 : List (List Int)) (r : Int) (w : World) (hr0_0 : Kd.C (Kd.slice 3 (Kd.int .i64)) w A0_0 l0_0.length l0_0) (hc0_0 : l0_0.length ≤ c0_0) (h : impl_Matrix_size.f l0_0 = some r) :
  Calls Tryd.prog 72 #[.agg #[.slice A0_0 l0_0.length c0_0]] w fun e w' => e = .returned (.int .i64 r) ∧ Below w.heap.size w w' := by
 have hu28 := Tryd.underlying28
 have HR0_0 := aM hr0_0
 have HC0_0 := aM hc0_0
 clear hr0_0 hc0_0
 have HB := aM (Below.refl w.heap.size w)
 have H : (some (l0_0.length : Int)) = some r := h
 clear h
 obtain rfl := Option.some.inj H
 go_enter Tryd.func72, Tryd.ntmps72
 go_wp2_with (first | ((with_reducible refine gate_dst (N := 1) rfl ?_); refine bE 1 28 #[.slice A0_0 l0_0.length c0_0] ?_; intro gb186 hg w2 hbox hb; have _ := aM (below_step bq hb); have _ := aM (hbox); have _ := aM ((gS hg)); have _ := aM ((gS hg)); clear HB; rename_i HB BK186 GW186 GE186; clear hb hbox hg; have hcz3_0 := zc10 BK186; have hfz3_0 := blk_frozen BK186.out 0))
 go_ret
 exact ⟨eE, bq⟩

def impl_Matrix_top_1.f (l0 : List Int) : Option (Bool) := if 0 ≤ (wrap64 ((l0.length : Int) - 1)) then (if (wrap64 ((l0.length : Int) - 1)) < (l0.length : Int) then (some ((rd l0 (wrap64 ((l0.length : Int) - 1))) != 0)) else (none)) else (none)
set_option maxHeartbeats 8000000 in
set_option maxRecDepth 100000 in
theorem impl_Matrix_top_1.calls (A0 : Option Addr) (c0 : Nat) (l0 : List Int) (r : Bool) (w : World) (hr0 : Kd.C (Kd.int .i64) w A0 l0.length l0) (hc0 : l0.length ≤ c0) (h : impl_Matrix_top_1.f l0 = some r) :
  Calls Tryd.prog 125 #[.slice A0 l0.length c0] w fun e w' => e = .returned (.bool r) ∧ Drawn0 w w' := by
 have HR0 := aM hr0
 have HC0 := aM hc0
 clear hr0 hc0
 have H : (if 0 ≤ (wrap64 ((l0.length : Int) - 1)) then (if (wrap64 ((l0.length : Int) - 1)) < (l0.length : Int) then (some ((rd l0 (wrap64 ((l0.length : Int) - 1))) != 0)) else (none)) else (none)) = some r := h
 clear h
 obtain ⟨ji2, hji2⟩ : ∃ j_ : Int, (wrap64 ((l0.length : Int) - 1)) = j_ := ⟨_, rfl⟩
 replace H : (if 0 ≤ (ji2) then (if (ji2) < (l0.length : Int) then (some ((rd l0 (ji2)) != 0)) else (none)) else (none)) = some r := by first | (rw [hji2] at H; exact H) | (simp only [hji2] at H ⊢; exact H)
 have hji2w : (IntKind.i64.wrap ((l0.length : Int) - 1)) = ji2 := (i64_w _).trans hji2
 replace H := iD2 H
 obtain ⟨c3b0, c4b0, H⟩ := H
 obtain rfl := Option.some.inj H
 have p187 : 0 ≤ ((ji2) : Int) := odt
 have q187 : (ji2) < (l0.length : Int) := odt
 obtain ⟨ad187, e187, hx187_0⟩ := Kd.at_int HR0.out (ji2) p187 q187
 cases e187
 replace p187 := eq_true p187
 replace q187 := eq_true q187
 go_enter Tryd.func125, Tryd.ntmps125
 go_wp2
 go_ret
 exact ⟨by first | rfl | (simp; done) | (simp only [← hji2] <;> (first | rfl | simp)) | (simp [*]; done), by repeat (first | exact Drawn0.refl _ | apply Drawn0.step)⟩

def slices_IndexFunc_int_int.seek : List (List Int) → Int → Option Int
  | [], _ => some (-1)
  | row :: rest, i => (impl_Matrix_top_1.f row).bind fun b => if b = true then some i else slices_IndexFunc_int_int.seek rest (i + 1)
def slices_IndexFunc_int_int.f (l0 : List (List Int)) : Option Int := slices_IndexFunc_int_int.seek l0 0
set_option maxHeartbeats 2000000 in
set_option maxRecDepth 100000 in
theorem slices_IndexFunc_int_int.calls (A0 : Option Addr) (c0 : Nat) (l0 : List (List Int)) (r : Int) (w : World) (hr0 : Kd.C (Kd.slice 3 (Kd.int .i64)) w A0 l0.length l0) (hc0 : l0.length ≤ c0) (h : slices_IndexFunc_int_int.f l0 = some r) :
    Calls Tryd.prog 124 #[.slice A0 l0.length c0, .func (.func 125) #[] #[]] w fun e w' => e = .returned (.int .i64 r) ∧ Below w.heap.size w w' := by
 have HL := aM hr0.2.1
 have HR0 := aM hr0
 have HH := aM h
 clear hr0 hc0 h
 have hle := HL.out
 go_enter Tryd.func124, Tryd.ntmps124
 go_wp2
 go_loopg [5, 8] l0.length (fun gg _ s8 w' => ∃ i : Nat, i ≤ l0.length ∧ l0.length - i ≤ gg ∧ s8 = .int .i64 i ∧ Aside0 (slices_IndexFunc_int_int.seek (l0.drop i) (i : Int) = some r) ∧ Drawn0 w w')
 case atStart => exact ⟨0, Nat.zero_le _, by omega, rfl, ⟨by rw [List.drop_zero]; exact HH.out⟩, Drawn0.refl _⟩
 case round => (
 clear HH
 obtain ⟨i, hi, hg, rfl, HZ, ⟨m1, rfl⟩⟩ := hrel
 by_cases hlt : i < l0.length
 · {
 obtain ⟨ad, A1, c1, ea, hx, hl1, hi1⟩ := at_L2 HR0.out (i : Int) (by omega) (by omega)
 cases ea
 have hlz : (i : Int) < (l0.length : Int) := by omega
 simp only [Int.toNat_natCast] at hx
 have hz := HZ.out
 clear HZ
 rw [List.drop_eq_getElem_cons hlt] at hz
 have er : rd_L2 l0 (i : Int) = l0[i] := by unfold rd_L2; simp [List.getD_eq_getElem?_getD, hlt]
 rw [← er] at hz
 obtain ⟨b, hb, hz⟩ := Option.bind_eq_some_iff.mp (show (impl_Matrix_top_1.f (rd_L2 l0 (i : Int))).bind _ = some r from hz)
 clear er
 have HBB := aM hb
 have HR1 := aM hi1
 have HC1 := aM hl1
 have HZ := aM hz
 clear hb hi1 hl1 hz
 cases b with
 | false => {
 go_wp2_with (first | (go_at_call 125; refine (impl_Matrix_top_1.calls A1 c1 (rd_L2 l0 (i : Int)) false _ ?side1 HC1.out HBB.out).mono ?_; (case side1 => repeat (first | exact HR1.out | (with_reducible refine Kd.C_drewN ?_ _))); rintro e w' ⟨rfl, ⟨nd, rfl⟩⟩))
 obtain ⟨k, rfl⟩ : ∃ k, gk = k + 1 := ⟨gk - 1, by omega⟩
 go_roundg k
 case measure => omega
 case rel => exact ⟨i + 1, by omega, by omega, by go_num, ⟨by have := HZ.out; simp only [Bool.false_eq_true, if_false] at this; rw [show ((i + 1 : Nat) : Int) = (i : Int) + 1 from by omega]; exact this⟩, by repeat (first | exact Drawn0.refl _ | apply Drawn0.step)⟩}
 | true => {
 go_wp2_with (first | (go_at_call 125; refine (impl_Matrix_top_1.calls A1 c1 (rd_L2 l0 (i : Int)) true _ ?side1 HC1.out HBB.out).mono ?_; (case side1 => repeat (first | exact HR1.out | (with_reducible refine Kd.C_drewN ?_ _))); rintro e w' ⟨rfl, ⟨nd, rfl⟩⟩))
 go_ret
 have e1 : some (i : Int) = some r := by have := HZ.out; simpa using this
 obtain rfl := Option.some.inj e1
 exact ⟨rfl, by repeat (first | exact Below.refl _ _ | apply pw_below_drewN)⟩}}
 · {
 go_wp2
 go_ret
 have e1 := HZ.out
 rw [List.drop_eq_nil_of_le (by omega)] at e1
 obtain rfl := Option.some.inj e1
 exact ⟨rfl, by repeat (first | exact Below.refl _ _ | apply pw_below_drewN)⟩})
def impl_Matrix_top.f (l0_0 : List (List Int)) : Option (Int) := (slices_IndexFunc_int_int.f l0_0).bind fun t189 => (some t189)
set_option maxHeartbeats 8000000 in
set_option maxRecDepth 100000 in
theorem impl_Matrix_top.calls (A0_0 : Option Addr) (c0_0 : Nat) (l0_0 : List (List Int)) (r : Int) (w : World) (hr0_0 : Kd.C (Kd.slice 3 (Kd.int .i64)) w A0_0 l0_0.length l0_0) (hc0_0 : l0_0.length ≤ c0_0) (h : impl_Matrix_top.f l0_0 = some r) :
  Calls Tryd.prog 105 #[.agg #[.slice A0_0 l0_0.length c0_0]] w fun e w' => e = .returned (.int .i64 r) ∧ Below w.heap.size w w' := by
 have hu28 := Tryd.underlying28
 have HR0_0 := aM hr0_0
 have HC0_0 := aM hc0_0
 clear hr0_0 hc0_0
 have HB := aM (Below.refl w.heap.size w)
 have H : ((slices_IndexFunc_int_int.f l0_0).bind fun t189 => (some t189)) = some r := h
 clear h
 replace H := bS H
 obtain ⟨t189, A2, H⟩ := H
 try dsimp only at H
 obtain rfl := Option.some.inj H
 go_enter Tryd.func105, Tryd.ntmps105
 go_wp2_with (first | ((with_reducible refine gate_dst (N := 1) rfl ?_); refine bE 1 28 #[.slice A0_0 l0_0.length c0_0] ?_; intro gb188 hg w3 hbox hb; have _ := aM (below_step bq hb); have _ := aM (hbox); have _ := aM ((gS hg)); have _ := aM ((gS hg)); clear HB; rename_i HB BK188 GW188 GE188; clear hb hbox hg; have hcz4_0 := zc10 BK188; have hfz4_0 := blk_frozen BK188.out 0) | ((with_reducible refine gate_callee (f := 124) rfl ?_); refine gL (some 5) Tryd.func124 #[.slice A0_0 l0_0.length c0_0, .func (.func 125) #[] #[]] ?_; (with_reducible refine (slices_IndexFunc_int_int.calls _ _ l0_0  t189 _ (cQ (Kd.C_below HR0_0.out HB.out)) HC0_0.out A2.out).mono ?_); rintro e w5 ⟨rfl, hb⟩; refine ⟨_, rfl, ?_⟩; have _ := aM (blk_below (qQ BK188) hb); have _ := aM (below_step bq hb); clear BK188 HB; rename_i BK188 HB; (try clear hb); (try clear hb2); (try clear hk); (try clear hi)))
 go_ret
 exact ⟨eE, bq⟩

end Go.Proofs.YtcodionjhcmfhaaDoor.Be
