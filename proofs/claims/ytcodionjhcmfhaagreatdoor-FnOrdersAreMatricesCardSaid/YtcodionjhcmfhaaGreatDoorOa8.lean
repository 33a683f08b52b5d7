-- Written by hook.py (wip/), over the kit's print.py.
import Derived.Test.YtcodionjhcmfhaaGreatDoorOa2
import Derived.Test.YtcodionjhcmfhaaGreatDoorOa4
import Derived.Test.YtcodionjhcmfhaaGreatDoorOa6
import Derived.Test.YtcodionjhcmfhaaGreatDoorOaXSq
namespace Go.Proofs.YtcodionjhcmfhaaGreatDoor.Oa
open Go.RowKit Go.Proofs.YtcodionjhcmfhaaGreatDoorW.PrintWords Go.Proofs.YtcodionjhcmfhaaGreatDoorW.PrintLast Go.Proofs.YtcodionjhcmfhaaGreatDoorW.PrintMore Go.Proofs.YtcodionjhcmfhaaGreatDoor.Sq
attribute [local go_sem] max2_int min2_int max_two min_two max_three min_three max_four min_four
set_option linter.unusedVariables false
set_option linter.unusedSimpArgs false
set_option maxHeartbeats 8000000
set_option maxRecDepth 100000
def Y14.l0 : Nat → List (S70) → Int → Int → List (List Int) → Option ((List (List Int)))
 | 0, _, _, _, _ => none
 | k + 1, x10, x11, x12, x176000 => if x12 < x11 then (if 0 ≤ x12 then (if x12 < (x10.length : Int) then (if 0 ≤ ((rd_T70 x10 x12).f0) then (if ((rd_T70 x10 x12).f0) < (x176000.length : Int) then (if 0 ≤ ((rd_T70 x10 x12).f1) then (if ((rd_T70 x10 x12).f1) < ((rd_L3 x176000 ((rd_T70 x10 x12).f0)).length : Int) then (Y14.l0 k x10 x11 (wrap64 (x12 + 1)) (x176000.set (((rd_T70 x10 x12).f0) : Int).toNat ((rd_L3 x176000 ((rd_T70 x10 x12).f0)).set (((rd_T70 x10 x12).f1) : Int).toNat (wrap64 ((rd (rd_L3 x176000 ((rd_T70 x10 x12).f0)) ((rd_T70 x10 x12).f1)) + 1))))) else (none)) else (none)) else (none)) else (none)) else (none)) else (none)) else (some x176000)
def Y14.f (k : Nat) (a0_0 : Int) (l0_1 : List Int) : Option ((List (List Int))) := (Y75.f k a0_0 l0_1).bind fun t171 => ((Y28.f k t171).bind fun t172 => ((Y19.f k a0_0 l0_1).bind fun t176 => (Y14.l0 k t176 (t176.length : Int) 0 t172)))
def Y14.T5 : Bool × List (List Nat × List Nat) := (true, [([], []), ([0], [0]), ([], []), ([2], [2]), ([1, 3], [1, 3]), ([4], [4]), ([], []), ([6], [6]), ([5, 7], [5, 7]), ([8], [8]), ([9], [9]), ([5, 7, 0, 1, 2, 3, 4, 5, 6, 7, 8, 9, 10], [5, 7]), ([11, 10, 0, 1, 2, 3, 4, 5, 6, 7, 8, 9, 10], [10, 11])])
def Y14.B5 : List Nat := [0, 1, 0, 4, 15, 31, 0, 64, 255, 511, 1023, 2047, 4095]
theorem Y14.tab5 : rtab .any (opsOf Tryz.f34 5) = Y14.T5 := by kernel_rfl
theorem Y14.bits5 : waitsOk Y14.T5.2 Y14.B5 = true := by kernel_rfl
theorem Y14.calls (k : Nat) (a0_0 : Int) (A0_1 : Option Addr) (c0_1 : Nat) (l0_1 : List Int) (r : List (List Int)) (w : World) (hr0_1 : Kd.C (Kd.int .i64) w A0_1 l0_1.length l0_1) (hc0_1 : l0_1.length ≤ c0_1) (h : Y14.f k a0_0 l0_1 = some r) :
  Calls Tryz.prog 34 #[.agg #[.int .i64 a0_0, .slice A0_1 l0_1.length c0_1]] w fun e w' => ∃ v0_ : Value, e = .returned (.agg #[v0_]) ∧ Kd.S (Kd.slice 3 (Kd.int .i64)) 24 w' w.heap.size (fun _ => True) v0_ r ∧ Below w.heap.size w w' := by
 have hu26 := Tryz.underlying26
 have hu30 := Tryz.underlying30
 have hu70 := Tryz.underlying70
 have HR0_1 := aM hr0_1
 have HC0_1 := aM hc0_1
 clear hr0_1 hc0_1
 have HB := aM (Below.refl w.heap.size w)
 unfold Y14.f at h
 have H := h
 clear h
 replace H := bS H
 obtain ⟨t171, A2, H⟩ := H
 try dsimp only at H
 replace H := bS H
 obtain ⟨t172, A3, H⟩ := H
 try dsimp only at H
 replace H := bS H
 obtain ⟨t176, A4, H⟩ := H
 try dsimp only at H
 have H' := aM H
 clear H
 go_enter Tryz.func34, Tryz.ntmps34
 go_wp2_with (first | ((with_reducible refine gate_dst (N := 1) rfl ?_); refine bF 1 26 #[.int .i64 a0_0, .slice A0_1 l0_1.length c0_1] bq ?_; intro gb169 w5 hg hb _ _ _ _; clear HB; rename_i HB BK169 GW169 GE169; clear hb hg) | ((with_reducible refine gate_dst (N := 2) rfl ?_); refine bE 2 30 #[.slice none 0 0] ?_; intro gb170 hg w6 hbox hb; have _ := bK BK169 hb; have _ := bB hb; have _ := aM (hbox); have _ := aM ((gS hg)); have _ := aM ((gS hg)); have _ := aM (nL hg BK169); have _ := aM (nG hg BK169); clear BK169 HB; rename_i BK169 HB BK170 GW170 GE170 NB169_170 NB170_169; clear hb hbox hg; have hnb7 := NB169_170.out; have hnc7 := NB170_169.out; have hcz8_0 := zc20 BK169; have hcz8_1 := zc21 BK169; have hfz8_0 := blk_frozen BK169.out 0; have hfz8_1 := blk_frozen BK169.out 1) | ((with_reducible refine gate_callee (f := 69) rfl ?_); refine gL (some 7) Tryz.func69 #[.agg #[.int .i64 a0_0, .slice A0_1 l0_1.length c0_1]] ?_; (with_reducible refine (Y75.calls k a0_0 _ _ l0_1 t171 _ (cQ (Kd.C_below HR0_1.out HB.out)) HC0_1.out A2.out).mono ?_); rintro e w9 ⟨rfl, hb⟩; refine ⟨_, rfl, ?_⟩; have _ := bK BK169 hb; have _ := bK BK170 hb; have _ := bB hb; clear BK169 BK170 HB; rename_i BK169 BK170 HB; (try clear hb)) | ((with_reducible refine gate_callee (f := 38) rfl ?_); refine gL (some 8) Tryz.func38 #[.int .i64 t171] ?_; (with_reducible refine (Y28.calls k t171 t172 _ A3.out).mono ?_); rintro e w10 ⟨v173, rfl, ho0, hb⟩; refine ⟨_, rfl, ?_⟩; have _ := aM (Kd.S_lower ho0 (below_size bq)); have _ := bK BK169 hb; have _ := bK BK170 hb; have _ := bB hb; clear BK169 BK170 HB; rename_i HO174 BK169 BK170 HB; (try clear hb); (try clear ho0)) | ((with_reducible refine gate_dst (N := 3) rfl ?_); refine bE 3 30 #[.slice none 0 0] ?_; intro gb175 hg w11 hbox hb; have _ := aM (Kd.S_below (sQ HO174) hb); have _ := bK BK169 hb; have _ := bK BK170 hb; have _ := bB hb; have _ := aM (hbox); have _ := aM ((gS hg)); have _ := aM ((gS hg)); have _ := aM (nL hg BK169); have _ := aM (nG hg BK169); have _ := aM (nL hg BK170); have _ := aM (nG hg BK170); clear HO174 BK169 BK170 HB; rename_i HO174 BK169 BK170 HB BK175 GW175 GE175 NB169_175 NB175_169 NB170_175 NB175_170; clear hb hbox hg; obtain ⟨Ao12, co12, eo12⟩ := Kd.S_slice HO174.out; subst eo12; have hnb13 := NB175_169.out; have hnc13 := NB169_175.out; have hnb14 := NB175_170.out; have hnc14 := NB170_175.out; have hcz15_0 := zc10 BK175; have hfz15_0 := blk_frozen BK175.out 0; have hcz16_0 := zc20 BK169; have hcz16_1 := zc21 BK169; have hfz16_0 := blk_frozen BK169.out 0; have hfz16_1 := blk_frozen BK169.out 1) | ((with_reducible refine gate_callee (f := 70) rfl ?_); refine gL (some 10) Tryz.func70 #[.agg #[.int .i64 a0_0, .slice A0_1 l0_1.length c0_1]] ?_; (with_reducible refine (Y19.calls k a0_0 _ _ l0_1 t176 _ ?side1 ?side2 A4.out).mono ?_); (case side1 => exact Kd.C_below HR0_1.out bq); (case side2 => exact HC0_1.out); rintro e w17 ⟨v177, rfl, ho0, hb⟩; refine ⟨_, rfl, ?_⟩; have _ := aM (Kd.S_below (by (with_reducible repeat first|apply sA|apply sN|apply sD); exact (Kd.S_mono (Kd.S_far (p := ⟨gb175, 0, none⟩) (Kd.S_types HO174.out BK175.out (by decide)) (fun _ hk => hk.2) (.slice Ao12 t172.length co12)) (fun _ h_ => h_.1))) hb); have _ := aM (Kd.R_lower ho0 (below_size bq)); have _ := aM (blk_below (g := gb169) (o := .cells #[.int .i64 a0_0, .slice A0_1 l0_1.length c0_1] 26 (0, 0)) (by (with_reducible repeat first|apply qN|apply qD|apply qA); refine blk_far ?_ NB169_175.out _; (with_reducible repeat first|apply qN|apply qD|apply qA); exact BK169.out) hb); have _ := aM (blk_below (g := gb170) (o := .cells #[.slice none 0 0] 30 (0, 0)) (by (with_reducible repeat first|apply qN|apply qD|apply qA); refine blk_far ?_ NB170_175.out _; (with_reducible repeat first|apply qN|apply qD|apply qA); exact BK170.out) hb); have _ := aM (blk_below (g := gb175) (o := .cells #[.slice Ao12 t172.length co12] 30 (0, 0)) (by (with_reducible repeat first|apply qN|apply qD|apply qA); refine blk_put (cs := #[.slice none 0 0]) ?_ 0 _ rfl; (with_reducible repeat first|apply qN|apply qD|apply qA); exact BK175.out) hb); have _ := bB hb; clear HO174 BK169 BK170 BK175 HB; rename_i HO174 HO178 BK169 BK170 BK175 HB; (try clear hb); (try clear hk); (try clear ho0); obtain ⟨Ao18, co18, eo18⟩ := Kd.R_slice HO178.out; subst eo18))
 go_loopg [12] k (fun kq v12 w' => ∃ (x12_1 : Int) (x176000_1 : List (List Int)) (u176000 : Value), v12 = .int .i64 x12_1 ∧ Aside0 (Y14.l0 kq t176 (t176.length : Int) x12_1 x176000_1 = some r) ∧ Aside0 (kq ≤ k) ∧ Aside0 (Kd.R k70 70 w' w.heap.size (fun _ => True) (.slice Ao18 t176.length co18) t176) ∧ Aside0 (Kd.S (Kd.slice 3 (Kd.int .i64)) 24 w' w.heap.size (fun _ => True) u176000 x176000_1) ∧ Aside0 (w'.heap[gb169]? = some (.cells #[.int .i64 a0_0, (.slice A0_1 l0_1.length c0_1)] 26 (0, 0))) ∧ Aside0 (w'.heap[gb170]? = some (.cells #[(.slice none 0 0)] 30 (0, 0))) ∧ Aside0 (w'.heap[gb175]? = some (.cells #[u176000] 30 (0, 0))) ∧ Aside0 (Below w.heap.size w w'))
 case atStart => exact ⟨(0), (t172), (.slice Ao12 t172.length co12), eR, H', ⟨Nat.le_refl _⟩, ⟨rQ HO178⟩, ⟨by (with_reducible repeat first|apply sA|apply sN|apply sD); exact HO174.out⟩, ⟨qQ BK169⟩, ⟨qQ BK170⟩, ⟨qQ BK175⟩, ⟨bq⟩⟩
 case round =>
  clear H'
  try clear hcz15_0
  try clear hcz16_0
  try clear hcz16_1
  try clear hcz8_0
  try clear hcz8_1
  try clear hfz15_0
  try clear hfz16_0
  try clear hfz16_1
  try clear hfz8_0
  try clear hfz8_1
  obtain ⟨x12_1, x176000_1, u176000, rfl, HA, HK1, HO_10, HO_176000, BK169, BK170, BK175, HB⟩ := hrel
  cases gk with
  | zero => exact absurd HA.out (by simp [Y14.l0])
  | succ k1 =>
   have H := HA.out
   clear HA
   simp only [Y14.l0] at H
   by_cases c19 : x12_1 < (t176.length : Int)
   ·rw [if_pos c19] at H
    have c19b0 := decide_eq_true c19
    clear c19
    replace H := iD4 H
    obtain ⟨c20b0, c21b0, c22b0, c23b0, H⟩ := H
    replace H := iD2 H
    obtain ⟨c24b0, c25b0, H⟩ := H
    obtain ⟨y183, hy183⟩ := nE (((rd_L3 x176000_1 ((rd_T70 t176 x12_1).f0)).set (((rd_T70 t176 x12_1).f1) : Int).toNat (wrap64 ((rd (rd_L3 x176000_1 ((rd_T70 t176 x12_1).f0)) ((rd_T70 t176 x12_1).f1)) + 1))) : List Int)
    try rw [← hy183] at H
    try with_reducible replace H := (Option.bind_some _ _).symm.trans H
    try dsimp only at H
    have Ny183 := aM hy183
    clear hy183
    obtain ⟨y185, hy185⟩ := nE ((x176000_1.set (((rd_T70 t176 x12_1).f0) : Int).toNat y183) : List (List Int))
    try rw [← hy185] at H
    try with_reducible replace H := (Option.bind_some _ _).symm.trans H
    try dsimp only at H
    have Ny185 := aM hy185
    clear hy185
    have H' := aM H
    clear H
    have p179 : 0 ≤ (x12_1 : Int) := odt
    have q179 : x12_1 < (t176.length : Int) := odt
    obtain ⟨ad179, e179, hx179_0, hx179_1⟩ := at_T70 (Kd.R_reads' HO_10.out).2.2 x12_1 p179 q179
    cases e179
    replace p179 := eq_true p179
    replace q179 := eq_true q179
    try go_wp2_with (first | ((with_reducible refine gate_dst (N := 5) rfl ?_); refine bE 5 70 #[.int .i64 0, .int .i64 0] ?_; intro gb180 hg w27 hbox hb; have _ := aM (Kd.R_below (Kd.R_elderB (rQ HO_10) gb180 (Nat.le_of_eq hg.symm)) hb); have _ := aM (Kd.S_below (sQ HO_176000) hb); have _ := bK BK169 hb; have _ := bK BK170 hb; have _ := bK BK175 hb; have _ := bB hb; have _ := aM (hbox); have _ := aM ((gS hg)); have _ := aM ((gS hg)); have _ := aM (nL hg BK169); have _ := aM (nG hg BK169); have _ := aM (nL hg BK170); have _ := aM (nG hg BK170); have _ := aM (nL hg BK175); have _ := aM (nG hg BK175); clear HO_10 HO_176000 BK169 BK170 BK175 HB; rename_i HO_10 HO_176000 BK169 BK170 BK175 HB BK180 GW180 GE180 NB169_180 NB180_169 NB170_180 NB180_170 NB175_180 NB180_175; clear hb hbox hg; have hnb28 := NB180_169.out; have hnc28 := NB169_180.out; have hnb29 := NB180_170.out; have hnc29 := NB170_180.out; have hnb30 := NB180_175.out; have hnc30 := NB175_180.out; have hcz31_0 := zc20 BK180; have hcz31_1 := zc21 BK180; have hfz31_0 := blk_frozen BK180.out 0; have hfz31_1 := blk_frozen BK180.out 1))
    have n0_ : Aside0 (Kd.R k70 70 ((w27.setCell ⟨gb180, 0, none⟩ (.int .i64 ((rd_T70 t176 x12_1).f0))).setCell ⟨gb180, 1, none⟩ (.int .i64 ((rd_T70 t176 x12_1).f1))) w.heap.size (fun k_ => k_ ≠ gb180) (.slice (some ad179) t176.length co18) t176) := ⟨by (with_reducible repeat first|apply rA|apply rN|apply rD); exact Kd.R_mono (Kd.R_far (p := ⟨gb180, 1, none⟩) (Kd.R_far (p := ⟨gb180, 0, none⟩) (Kd.R_mono HO_10.out (fun k_ hk => (⟨hk, hk.2⟩ : _ ∧ k_ ≠ gb180))) (fun _ hk => hk.2) (.int .i64 ((rd_T70 t176 x12_1).f0))) (fun _ hk => hk.2) (.int .i64 ((rd_T70 t176 x12_1).f1))) (fun _ hk => hk.1.2)⟩
    have n1_ : Aside0 (Kd.S (Kd.slice 3 (Kd.int .i64)) 24 ((w27.setCell ⟨gb180, 0, none⟩ (.int .i64 ((rd_T70 t176 x12_1).f0))).setCell ⟨gb180, 1, none⟩ (.int .i64 ((rd_T70 t176 x12_1).f1))) w.heap.size (fun _ => True) u176000 x176000_1) := ⟨by (with_reducible repeat first|apply sA|apply sN|apply sD); exact Kd.S_mono (Kd.S_far (p := ⟨gb180, 1, none⟩) (Kd.S_far (p := ⟨gb180, 0, none⟩) (Kd.S_types HO_176000.out BK180.out (by decide)) (fun _ hk => hk.2) (.int .i64 ((rd_T70 t176 x12_1).f0))) (fun _ hk => hk.2) (.int .i64 ((rd_T70 t176 x12_1).f1))) (fun _ hk => trivial)⟩
    have n2_ : Aside0 (((w27.setCell ⟨gb180, 0, none⟩ (.int .i64 ((rd_T70 t176 x12_1).f0))).setCell ⟨gb180, 1, none⟩ (.int .i64 ((rd_T70 t176 x12_1).f1))).heap[gb169]? = some (.cells #[.int .i64 a0_0, .slice A0_1 l0_1.length c0_1] 26 (0, 0))) := ⟨by (with_reducible repeat first|apply qN|apply qD|apply qA); refine blk_far ?_ NB169_180.out _; (with_reducible repeat first|apply qN|apply qD|apply qA); refine blk_far ?_ NB169_180.out _; (with_reducible repeat first|apply qN|apply qD|apply qA); exact BK169.out⟩
    have n3_ : Aside0 (((w27.setCell ⟨gb180, 0, none⟩ (.int .i64 ((rd_T70 t176 x12_1).f0))).setCell ⟨gb180, 1, none⟩ (.int .i64 ((rd_T70 t176 x12_1).f1))).heap[gb170]? = some (.cells #[.slice none 0 0] 30 (0, 0))) := ⟨by (with_reducible repeat first|apply qN|apply qD|apply qA); refine blk_far ?_ NB170_180.out _; (with_reducible repeat first|apply qN|apply qD|apply qA); refine blk_far ?_ NB170_180.out _; (with_reducible repeat first|apply qN|apply qD|apply qA); exact BK170.out⟩
    have n4_ : Aside0 (((w27.setCell ⟨gb180, 0, none⟩ (.int .i64 ((rd_T70 t176 x12_1).f0))).setCell ⟨gb180, 1, none⟩ (.int .i64 ((rd_T70 t176 x12_1).f1))).heap[gb175]? = some (.cells #[u176000] 30 (0, 0))) := ⟨by (with_reducible repeat first|apply qN|apply qD|apply qA); refine blk_far ?_ NB175_180.out _; (with_reducible repeat first|apply qN|apply qD|apply qA); refine blk_far ?_ NB175_180.out _; (with_reducible repeat first|apply qN|apply qD|apply qA); exact BK175.out⟩
    have n5_ : Aside0 (((w27.setCell ⟨gb180, 0, none⟩ (.int .i64 ((rd_T70 t176 x12_1).f0))).setCell ⟨gb180, 1, none⟩ (.int .i64 ((rd_T70 t176 x12_1).f1))).heap[gb180]? = some (.cells #[.int .i64 ((rd_T70 t176 x12_1).f0), .int .i64 ((rd_T70 t176 x12_1).f1)] 70 (0, 0))) := ⟨by (with_reducible repeat first|apply qN|apply qD|apply qA); refine blk_put (cs := #[.int .i64 ((rd_T70 t176 x12_1).f0), .int .i64 0]) ?_ 1 _ rfl; (with_reducible repeat first|apply qN|apply qD|apply qA); refine blk_put (cs := #[.int .i64 0, .int .i64 0]) ?_ 0 _ rfl; (with_reducible repeat first|apply qN|apply qD|apply qA); exact BK180.out⟩
    have n6_ : Aside0 (Below w.heap.size w ((w27.setCell ⟨gb180, 0, none⟩ (.int .i64 ((rd_T70 t176 x12_1).f0))).setCell ⟨gb180, 1, none⟩ (.int .i64 ((rd_T70 t176 x12_1).f1)))) := ⟨bq⟩
    (try clear HO_10)
    (try clear HO_176000)
    (try clear BK169)
    (try clear BK170)
    (try clear BK175)
    (try clear BK180)
    (try clear HB)
    generalize ((w27.setCell ⟨gb180, 0, none⟩ (.int .i64 ((rd_T70 t176 x12_1).f0))).setCell ⟨gb180, 1, none⟩ (.int .i64 ((rd_T70 t176 x12_1).f1))) = w32 at n0_ n1_ n2_ n3_ n4_ n5_ n6_ ⊢
    have HO_10 := n0_
    have HO_176000 := n1_
    have BK169 := n2_
    have BK170 := n3_
    have BK175 := n4_
    have BK180 := n5_
    have HB := n6_
    clear n0_ n1_ n2_ n3_ n4_ n5_ n6_
    have n0_ := aM (Kd.R_drew HO_10.out)
    have n1_ := aM (Kd.S_drew HO_176000.out)
    have n2_ := aM (blk_drew BK169.out)
    have n3_ := aM (blk_drew BK170.out)
    have n4_ := aM (blk_drew BK175.out)
    have n5_ := aM (blk_drew BK180.out)
    have n6_ := aM (below_drew1 HB.out)
    clear HO_10
    clear HO_176000
    clear BK169
    clear BK170
    clear BK175
    clear BK180
    clear HB
    have HO_10 := n0_
    have HO_176000 := n1_
    have BK169 := n2_
    have BK170 := n3_
    have BK175 := n4_
    have BK180 := n5_
    have HB := n6_
    clear n0_ n1_ n2_ n3_ n4_ n5_ n6_
    obtain ⟨Ao34, co34, eo34⟩ := Kd.S_slice HO_176000.out
    (first | subst eo34 | (injection eo34 with f1_ f2_ f3_; have f4_ := f1_.symm; have f5_ := f3_.symm; clear f1_ f2_ f3_; subst f4_; subst f5_))
    have p181 : 0 ≤ (((rd_T70 t176 x12_1).f0) : Int) := odt
    have q181 : ((rd_T70 t176 x12_1).f0) < (x176000_1.length : Int) := odt
    obtain ⟨ad181, A181_0, c181_0, e181, hx181_0, hl181_0, hi181_0⟩ := at_L3 (Kd.S_reads' HO_176000.out).2.2 ((rd_T70 t176 x12_1).f0) p181 q181
    cases e181
    obtain ⟨ce181, hce181, hMe181, hcc181⟩ := Kd.S_get HO_176000.out [] ((rd_T70 t176 x12_1).f0) p181 (by first | exact q181 | exact odt | (have e_ := (Kd.S_reads' HO_176000.out).1; omega))
    obtain ⟨ve181_0, rfl, ge181_0⟩ := hMe181
    have hv181_0 := hcc181 0 _ rfl
    rw [Nat.add_zero, show ((Kd.slice 3 (Kd.int .i64))).sz = 1 from rfl, Nat.mul_one] at hv181_0
    replace hv181_0 := Option.some.inj (hv181_0.symm.trans hx181_0)
    rw [hv181_0] at ge181_0
    have HL181_0 := aM (show Kd.R (Kd.int .i64) 3 _ _ _ _ (rd_L3 x176000_1 ((rd_T70 t176 x12_1).f0)) from ge181_0)
    clear hv181_0 ge181_0
    have HX181_0 := aM hx181_0
    clear hcc181 hce181
    have HR181_0 := aM hi181_0
    have HC181_0 := aM hl181_0
    clear hi181_0 hl181_0
    replace p181 := eq_true p181
    replace q181 := eq_true q181
    have p182 : 0 ≤ (((rd_T70 t176 x12_1).f1) : Int) := odt
    have q182 : ((rd_T70 t176 x12_1).f1) < ((rd_L3 x176000_1 ((rd_T70 t176 x12_1).f0)).length : Int) := odt
    obtain ⟨ad182, e182, hx182_0⟩ := Kd.at_int (cQ HR181_0.out) ((rd_T70 t176 x12_1).f1) p182 q182
    cases e182
    replace p182 := eq_true p182
    replace q182 := eq_true q182
    have p26 : 0 ≤ (((rd_T70 t176 x12_1).f1) : Int) := odt
    have q26 : (((rd_T70 t176 x12_1).f1) : Int) < (((rd_L3 x176000_1 ((rd_T70 t176 x12_1).f0)).length : Int) : Int) := odt
    obtain ⟨go26, co26, eo26, gb26, gl26, cl26, HG26⟩ := Kd.R_form HL181_0.out (by omega)
    (first | cases eo26 | (injection eo26 with ea_ en_ ec_; (first | subst ea_ | (injection ea_ with ea_; subst ea_)); subst ec_; clear en_))
    have GB26 := aM gb26
    have GG26 := aM HG26
    clear gb26 gl26 HG26
    (first | simp only [add_plain] at hx182_0 | skip)
    obtain ⟨hx26_0, hf26_0⟩ := Kd.R_celln 0 HL181_0.out (((rd_T70 t176 x12_1).f1) : Int) p26 q26
    replace p26 := eq_true p26
    replace q26 := eq_true q26
    have hq35 : (((rd_T70 t176 x12_1).f0) : Int) < (x176000_1.length : Int) := (by have h_ : (((rd_T70 t176 x12_1).f0) : Int) < ((x176000_1.length : Int) : Int) := odt; first | exact h_ | (have e_ := (Kd.S_reads' HO_176000.out).1; omega) | simpa only [List.length_set, List.length_set] using h_)
    obtain ⟨oki35, ce35, hcl35, hM35, hcc35, hok35, hbk35⟩ := Kd.S_borrow HO_176000.out [] (((rd_T70 t176 x12_1).f0) : Int) (odt) hq35
    obtain ⟨ve35_0, rfl, ge35_0⟩ := hM35
    have hv35 := hcc35 0 _ rfl
    rw [Nat.add_zero, show ((Kd.slice 3 (Kd.int .i64))).sz = 1 from rfl, Nat.mul_one] at hv35
    replace hv35 := Option.some.inj (hv35.symm.trans HX181_0.out)
    subst hv35
    clear hcc35 hcl35
    replace ge35_0 := (show Kd.R (Kd.int .i64) 3 _ _ _ _ (rd_L3 x176000_1 ((rd_T70 t176 x12_1).f0)) from ge35_0)
    have HP35 := Kd.R_putg ge35_0 (((rd_T70 t176 x12_1).f1) : Int) (wrap64 ((rd (rd_L3 x176000_1 ((rd_T70 t176 x12_1).f0)) ((rd_T70 t176 x12_1).f1)) + 1))
    rw [← Ny183.out] at HP35
    have HS35 := hbk35 HP35.2 (fun k_ e_ => by injection e_ with e_; subst e_; exact ge35_0.1 _ rfl) (x' := y183) (Kd.M_row HP35.1)
    rw [← Ny185.out] at HS35
    have HQ35 := aM HS35
    clear HP35 HS35 hbk35 hok35
    refine start_ (n := 13) (S := fun w' => w'.cell? ⟨gb175, 0, none⟩ = some (.slice (some ad181) x176000_1.length co34) ∧ w'.cell? ⟨gb180, 0, none⟩ = some (.int .i64 ((rd_T70 t176 x12_1).f0)) ∧ w'.cell? ⟨gb180, 1, none⟩ = some (.int .i64 ((rd_T70 t176 x12_1).f1)) ∧ w'.cell? (ad181.add (((rd_T70 t176 x12_1).f0)).toNat) = some (.slice (some ⟨go26, 0, none⟩) (rd_L3 x176000_1 ((rd_T70 t176 x12_1).f0)).length c181_0) ∧ w'.cell? ⟨go26, (((rd_T70 t176 x12_1).f1)).toNat, none⟩ = some (.int .i64 (rd (rd_L3 x176000_1 ((rd_T70 t176 x12_1).f0)) ((rd_T70 t176 x12_1).f1)))) (ds := [12]) #[false, false, false, false, false, false, false, false, false, false, false, false, false] (by kernel_rfl) rfl rfl ⟨(blk_cell BK175.out 0).trans rfl, (blk_cell BK180.out 0).trans rfl, (blk_cell BK180.out 1).trans rfl, hx181_0, hx182_0⟩ (fun hHeld => ?_); refine with_tabW Y14.tab5 Y14.bits5 (fun HT_ HW_ => ?_)
    generalize w32.drew = w33 at HO_10 HO_176000 BK169 BK170 BK175 BK180 HB GG26 HL181_0 HQ35 HR181_0 HX181_0 hf26_0 hx181_0 hx182_0 hx26_0 hHeld ⊢
    refine pA 0 16 (h := ?_)
    refine pA 2 18 (h := ?_)
    refine pA 6 22 (h := ?_)
    refine tA 1 17 hHeld (h := ?_)
    refine tA 3 19 hHeld (h := ?_)
    refine pA 4 20 (h := ?_)
    refine tA 5 21 hHeld (h := ?_)
    refine tA 7 23 hHeld (h := ?_)
    refine pA 8 24 (h := ?_)
    refine tA 9 25 hHeld (h := ?_)
    refine pA 10 26 (h := ?_)
    refine pA 11 27 (h := ?_)
    refine last_ (i := 12) (N := none) #[true, true, true, true, true, true, true, true, true, true, true, true, true] rfl rfl (one_of HT_.out (by kernel_rfl)) (by decide) (fun K hK => ?_)
    refine skip_ (w1 := ?_) (by rfl) rfl ?_ ?_
    rotate_left
    ·go_simp
     rfl
    refine hK.out _ _ ?_
    clear hK K
    refine done_ (done_of HT_.out (by kernel_rfl)) ?_
    try go_wp2
    go_roundg k1
    case measure => have := HK1.out; omega
    case rel => exact ⟨(wrap64 (x12_1 + 1)), (y185), (.slice (some ad181) x176000_1.length co34), eR, H', ⟨by have := HK1.out; omega⟩, ⟨by (with_reducible repeat first|apply rA|apply rN|apply rD); exact Kd.R_mono (Kd.R_far (p := ⟨go26, (((rd_T70 t176 x12_1).f1) : Int).toNat, none⟩) (Kd.R_types HO_10.out GG26.out (by decide)) (fun _ hk => hk.2) (.int .i64 (wrap64 ((rd (rd_L3 x176000_1 ((rd_T70 t176 x12_1).f0)) ((rd_T70 t176 x12_1).f1)) + 1)))) (fun _ hk => trivial)⟩, ⟨by (with_reducible repeat first|apply sA|apply sN|apply sD); exact HQ35.out⟩, ⟨by (with_reducible repeat first|apply qN|apply qD|apply qA); refine blk_far ?_ (by have h_ := Kd.R_ne HL181_0.out BK169.out (by decide); intro e_; exact h_ (by rw [e_]; rfl)) _; (with_reducible repeat first|apply qN|apply qD|apply qA); exact BK169.out⟩, ⟨by (with_reducible repeat first|apply qN|apply qD|apply qA); refine blk_far ?_ (by have h_ := Kd.R_ne HL181_0.out BK170.out (by decide); intro e_; exact h_ (by rw [e_]; rfl)) _; (with_reducible repeat first|apply qN|apply qD|apply qA); exact BK170.out⟩, ⟨by (with_reducible repeat first|apply qN|apply qD|apply qA); refine blk_far ?_ (by have h_ := Kd.R_ne HL181_0.out BK175.out (by decide); intro e_; exact h_ (by rw [e_]; rfl)) _; (with_reducible repeat first|apply qN|apply qD|apply qA); exact BK175.out⟩, ⟨bq⟩⟩
   ·rw [if_neg c19] at H
    have c19b0 := decide_eq_false c19
    clear c19
    obtain rfl := Option.some.inj H
    have hnb37 := NB175_169.out
    have hnc37 := NB169_175.out
    have hnb38 := NB175_170.out
    have hnc38 := NB170_175.out
    have hcz39_0 := zc10 BK175
    have hfz39_0 := blk_frozen BK175.out 0
    obtain ⟨Ao40, co40, eo40⟩ := Kd.S_slice HO_176000.out
    subst eo40
    have hnb41 := NB170_169.out
    have hnc41 := NB169_170.out
    have hcz42_0 := zc10 BK170
    have hfz42_0 := blk_frozen BK170.out 0
    go_wp2
    refine bodyPost_ret (results_cell_row rfl _ _ gb170 30 #[.slice Ao40 x176000_1.length co40] (0, 0) _ rfl (by (with_reducible repeat first|apply qN|apply qD|apply qA); refine blk_put (cs := #[.slice none 0 0]) ?_ 0 _ rfl; (with_reducible repeat first|apply qN|apply qD|apply qA); exact BK170.out) Tryz.underlying30 rfl (by kernel_rfl)) rfl ?_
    exact ⟨_, eE, by (with_reducible repeat first|apply sA|apply sN|apply sD); exact Kd.S_mono (Kd.S_far (p := ⟨gb170, 0, none⟩) (Kd.S_types HO_176000.out BK170.out (by decide)) (fun _ hk => hk.2) (.slice Ao40 x176000_1.length co40)) (fun _ hk => trivial), bq⟩
def Y70.f (k : Nat) (a0_0 : Int) (l0_1 : List Int) : Option ((List (List Int)) × Bool) := (Y41.f k a0_0 l0_1).bind fun t188 => (if t188 = true then ((Y14.f k a0_0 l0_1).bind fun t189 => (some (t189, true))) else (some (([] : List (List Int)), false)))
theorem Y70.calls (k : Nat) (a0_0 : Int) (A0_1 : Option Addr) (c0_1 : Nat) (l0_1 : List Int) (r1 : List (List Int)) (r2 : Bool) (w : World) (hV : TabZ w) (hr0_1 : Kd.C (Kd.int .i64) w A0_1 l0_1.length l0_1) (hc0_1 : l0_1.length ≤ c0_1) (h : Y70.f k a0_0 l0_1 = some (r1, r2)) :
  Calls Tryz.prog 8 #[.agg #[.int .i64 a0_0, .slice A0_1 l0_1.length c0_1]] w fun e w' => ∃ v0_ : Value, e = .returned (.tuple #[.agg #[v0_], .bool r2]) ∧ Kd.S (Kd.slice 3 (Kd.int .i64)) 24 w' w.heap.size (fun _ => True) v0_ r1 ∧ Below w.heap.size w w' := by
 have hu26 := Tryz.underlying26
 have hu30 := Tryz.underlying30
 have HR0_1 := aM hr0_1
 have HC0_1 := aM hc0_1
 clear hr0_1 hc0_1
 have HB := aM (Below.refl w.heap.size w)
 have HVV := aM hV
 clear hV
 unfold Y70.f at h
 have H := h
 clear h
 replace H := bS H
 obtain ⟨t188, A2, H⟩ := H
 try dsimp only at H
 by_cases c3 : t188 = true
 ·subst c3
  have H1 : ((Y14.f k a0_0 l0_1).bind fun t189 => (some (t189, true))) = some (r1, r2) := by rw [if_pos rfl] at H; exact H
  clear H
  have H := H1
  clear H1
  replace H := bS H
  obtain ⟨t189, A4, H⟩ := H
  try dsimp only at H
  simp only [Option.some.injEq, Prod.mk.injEq] at H
  obtain ⟨rfl, rfl⟩ := H
  go_enter Tryz.func8, Tryz.ntmps8
  go_wp2_with (first | ((with_reducible refine gate_dst (N := 1) rfl ?_); refine bF 1 26 #[.int .i64 a0_0, .slice A0_1 l0_1.length c0_1] bq ?_; intro gb186 w5 hg hb _ _ _ _; clear HB; rename_i HB BK186 GW186 GE186; clear hb hg) | ((with_reducible refine gate_dst (N := 2) rfl ?_); refine bE 2 30 #[.slice none 0 0] ?_; intro gb187 hg w6 hbox hb; have _ := bK BK186 hb; have _ := bB hb; have _ := aM (hbox); have _ := aM ((gS hg)); have _ := aM ((gS hg)); have _ := aM (nL hg BK186); have _ := aM (nG hg BK186); clear BK186 HB; rename_i BK186 HB BK187 GW187 GE187 NB186_187 NB187_186; clear hb hbox hg; have hnb7 := NB186_187.out; have hnc7 := NB187_186.out; have hcz8_0 := zc20 BK186; have hcz8_1 := zc21 BK186; have hfz8_0 := blk_frozen BK186.out 0; have hfz8_1 := blk_frozen BK186.out 1) | ((with_reducible refine gate_callee (f := 33) rfl ?_); refine gL (some 5) Tryz.func33 #[.agg #[.int .i64 a0_0, .slice A0_1 l0_1.length c0_1]] ?_; (with_reducible refine (Y41.calls k a0_0 _ _ l0_1 true _ (HVV.out.below bq) (cQ (Kd.C_below HR0_1.out HB.out)) HC0_1.out A2.out).mono ?_); rintro e w9 ⟨rfl, hb⟩; refine ⟨_, rfl, ?_⟩; have _ := bK BK186 hb; have _ := bK BK187 hb; have _ := bB hb; clear BK186 BK187 HB; rename_i BK186 BK187 HB; (try clear hb); have hcz10_0 := zc20 BK186; have hcz10_1 := zc21 BK186; have hfz10_0 := blk_frozen BK186.out 0; have hfz10_1 := blk_frozen BK186.out 1) | ((with_reducible refine gate_callee (f := 34) rfl ?_); refine gL (some 9) Tryz.func34 #[.agg #[.int .i64 a0_0, .slice A0_1 l0_1.length c0_1]] ?_; (with_reducible refine (Y14.calls k a0_0 _ _ l0_1 t189 _ (cQ (Kd.C_below HR0_1.out HB.out)) HC0_1.out A4.out).mono ?_); rintro e w11 ⟨v190, rfl, ho0, hb⟩; refine ⟨_, rfl, ?_⟩; have _ := aM (Kd.S_lower ho0 (below_size bq)); have _ := bK BK186 hb; have _ := bK BK187 hb; have _ := bB hb; clear BK186 BK187 HB; rename_i HO191 BK186 BK187 HB; (try clear hb); (try clear ho0); obtain ⟨Ao12, co12, eo12⟩ := Kd.S_slice HO191.out; subst eo12; have hcz13_0 := zc10 BK187; have hfz13_0 := blk_frozen BK187.out 0))
  refine bodyPost_ret (results_ct rfl _ _ gb187 30 #[.slice Ao12 t189.length co12] (0, 0) _ rfl (by (with_reducible repeat first|apply qN|apply qD|apply qA); refine blk_put (cs := #[.slice none 0 0]) ?_ 0 _ rfl; (with_reducible repeat first|apply qN|apply qD|apply qA); exact BK187.out) Tryz.underlying30 rfl (by kernel_rfl)) rfl ?_
  exact ⟨_, eE, by (with_reducible repeat first|apply sA|apply sN|apply sD); exact Kd.S_mono (Kd.S_far (p := ⟨gb187, 0, none⟩) (Kd.S_types HO191.out BK187.out (by decide)) (fun _ hk => hk.2) (.slice Ao12 t189.length co12)) (fun _ hk => trivial), bq⟩
 ·replace c3 := Bool.eq_false_iff.mpr c3
  subst c3
  have H1 : (some (([] : List (List Int)), false)) = some (r1, r2) := by rw [if_neg (show ¬ (false = true) by decide)] at H; exact H
  clear H
  have H := H1
  clear H1
  simp only [Option.some.injEq, Prod.mk.injEq] at H
  obtain ⟨rfl, rfl⟩ := H
  go_enter Tryz.func8, Tryz.ntmps8
  go_wp2_with (first | ((with_reducible refine gate_dst (N := 1) rfl ?_); refine bF 1 26 #[.int .i64 a0_0, .slice A0_1 l0_1.length c0_1] bq ?_; intro gb186 w14 hg hb _ _ _ _; clear HB; rename_i HB BK186 GW186 GE186; clear hb hg) | ((with_reducible refine gate_dst (N := 2) rfl ?_); refine bE 2 30 #[.slice none 0 0] ?_; intro gb187 hg w15 hbox hb; have _ := bK BK186 hb; have _ := bB hb; have _ := aM (hbox); have _ := aM ((gS hg)); have _ := aM ((gS hg)); have _ := aM (nL hg BK186); have _ := aM (nG hg BK186); clear BK186 HB; rename_i BK186 HB BK187 GW187 GE187 NB186_187 NB187_186; clear hb hbox hg; have hnb16 := NB186_187.out; have hnc16 := NB187_186.out; have hcz17_0 := zc20 BK186; have hcz17_1 := zc21 BK186; have hfz17_0 := blk_frozen BK186.out 0; have hfz17_1 := blk_frozen BK186.out 1) | ((with_reducible refine gate_callee (f := 33) rfl ?_); refine gL (some 5) Tryz.func33 #[.agg #[.int .i64 a0_0, .slice A0_1 l0_1.length c0_1]] ?_; (with_reducible refine (Y41.calls k a0_0 _ _ l0_1 false _ (HVV.out.below (by repeat (first | (with_reducible first | exact HB.out | apply bA | apply bN | apply bD) | exact HB.out | (refine Below.setCell ?_ ?_ _; rotate_left; first | exact GW186.out | exact GW187.out)))) (cQ (Kd.C_below HR0_1.out HB.out)) HC0_1.out A2.out).mono ?_); rintro e w18 ⟨rfl, hb⟩; refine ⟨_, rfl, ?_⟩; have _ := bK BK186 hb; have _ := bK BK187 hb; have _ := bB hb; clear BK186 BK187 HB; rename_i BK186 BK187 HB; (try clear hb); have hcz19_0 := zc10 BK187; have hfz19_0 := blk_frozen BK187.out 0))
  refine bodyPost_ret (results_ct rfl _ _ gb187 30 #[.slice none 0 0] (0, 0) _ rfl (by (with_reducible repeat first|apply qN|apply qD|apply qA); refine blk_put (cs := #[.slice none 0 0]) ?_ 0 _ rfl; (with_reducible repeat first|apply qN|apply qD|apply qA); exact BK187.out) Tryz.underlying30 rfl (by kernel_rfl)) rfl ?_
  exact ⟨_, eE, by first | exact Kd.S_nil _ _ _ _ _ | exact Kd.N_nil _ _ _ _ _ | exact Kd.V_nil _ _ _ _ _ | exact Kd.Q_nil _ _ _ _ _ | exact Kd.R_nil _ _ _ _ _, bq⟩
def laws_pSame.l0 : Nat → List Int → List Int → Int → Int → Option (Bool)
 | 0, _, _, _, _ => none
 | k + 1, x0, x1, x12, x13 => if x13 < x12 then (if 0 ≤ x13 then (if x13 < (x0.length : Int) then (if x13 < (x1.length : Int) then (if (rd x0 x13) = (rd x1 x13) then (laws_pSame.l0 k x0 x1 x12 (wrap64 (x13 + 1))) else (some false)) else (none)) else (none)) else (none)) else (some true)
def laws_pSame.f (k : Nat) (l0 : List Int) (l1 : List Int) : Option (Bool) := if (l0.length : Int) = (l1.length : Int) then (laws_pSame.l0 k l0 l1 (l0.length : Int) 0) else (some false)
theorem laws_pSame.calls (k : Nat) (A0 : Option Addr) (c0 : Nat) (l0 : List Int) (A1 : Option Addr) (c1 : Nat) (l1 : List Int) (r : Bool) (w : World) (hr0 : Kd.C (Kd.int .i64) w A0 l0.length l0) (hc0 : l0.length ≤ c0) (hr1 : Kd.C (Kd.int .i64) w A1 l1.length l1) (hc1 : l1.length ≤ c1) (h : laws_pSame.f k l0 l1 = some r) :
  Calls Tryz.prog 23 #[.slice A0 l0.length c0, .slice A1 l1.length c1] w fun e w' => e = .returned (.bool r) ∧ Drawn0 w w' := by
 have HR0 := aM hr0
 have HC0 := aM hc0
 clear hr0 hc0
 have HR1 := aM hr1
 have HC1 := aM hc1
 clear hr1 hc1
 unfold laws_pSame.f at h
 have H := h
 clear h
 by_cases c3 : (l0.length : Int) = (l1.length : Int)
 ·rw [if_pos c3] at H
  have c3b0 : ((l0.length : Int) == (l1.length : Int)) = true := beq_iff_eq.mpr c3
  have c3b1 : ((l0.length : Int) != (l1.length : Int)) = false := bne_eq_false_iff_eq.mpr c3
  have c3b2 : (l0.length == l1.length) = true := by first | simpa using c3 | (simp at c3 ⊢; omega)
  clear c3
  have H' := aM H
  clear H
  go_enter Tryz.func23, Tryz.ntmps23
  go_wp2
  repeat (go_quiet (fail); try go_wp2)
  go_loopg [13] k (fun kq v13 w' => ∃ (x13_1 : Int), v13 = .int .i64 x13_1 ∧ Aside0 (laws_pSame.l0 kq l0 l1 (l0.length : Int) x13_1 = some r) ∧ Aside0 (kq ≤ k) ∧ Drawn0 w w')
  case atStart => exact ⟨(0), eR, H', ⟨Nat.le_refl _⟩, dQ⟩
  case round =>
   clear H'
   try clear c1
   try clear c3
   try clear c3b0
   try clear c3b1
   try clear c3b2
   obtain ⟨x13_1, rfl, HA, HK1, ⟨m1, rfl⟩⟩ := hrel
   cases gk with
   | zero => exact absurd HA.out (by simp [laws_pSame.l0])
   | succ k1 =>
    have H := HA.out
    clear HA
    simp only [laws_pSame.l0] at H
    by_cases c4 : x13_1 < (l0.length : Int)
    ·rw [if_pos c4] at H
     have c4b0 := decide_eq_true c4
     clear c4
     replace H := iD3 H
     obtain ⟨c5b0, c6b0, c7b0, H⟩ := H
     by_cases c8 : (rd l0 x13_1) = (rd l1 x13_1)
     ·rw [if_pos c8] at H
      have c8b0 : ((rd l0 x13_1) == (rd l1 x13_1)) = true := beq_iff_eq.mpr c8
      have c8b1 : ((rd l0 x13_1) != (rd l1 x13_1)) = false := bne_eq_false_iff_eq.mpr c8
      clear c8
      have H' := aM H
      clear H
      have p192 : 0 ≤ (x13_1 : Int) := odt
      have q192 : x13_1 < (l0.length : Int) := odt
      obtain ⟨ad192, e192, hx192_0⟩ := Kd.at_int HR0.out x13_1 p192 q192
      cases e192
      replace p192 := eq_true p192
      replace q192 := eq_true q192
      have p193 : 0 ≤ (x13_1 : Int) := odt
      have q193 : x13_1 < (l1.length : Int) := odt
      obtain ⟨ad193, e193, hx193_0⟩ := Kd.at_int HR1.out x13_1 p193 q193
      cases e193
      replace p193 := eq_true p193
      replace q193 := eq_true q193
      go_wp2
      repeat (go_quiet (fail); try go_wp2)
      go_roundg k1
      case measure => have := HK1.out; omega
      case rel => exact ⟨(wrap64 (x13_1 + 1)), eR, H', ⟨by have := HK1.out; omega⟩, dQ⟩
     ·rw [if_neg c8] at H
      have c8b0 : ((rd l0 x13_1) == (rd l1 x13_1)) = false := beq_eq_false_iff_ne.mpr c8
      have c8b1 : ((rd l0 x13_1) != (rd l1 x13_1)) = true := bne_iff_ne.mpr c8
      obtain rfl := Option.some.inj H
      have p192 : 0 ≤ (x13_1 : Int) := odt
      have q192 : x13_1 < (l0.length : Int) := odt
      obtain ⟨ad192, e192, hx192_0⟩ := Kd.at_int HR0.out x13_1 p192 q192
      cases e192
      replace p192 := eq_true p192
      replace q192 := eq_true q192
      have p193 : 0 ≤ (x13_1 : Int) := odt
      have q193 : x13_1 < (l1.length : Int) := odt
      obtain ⟨ad193, e193, hx193_0⟩ := Kd.at_int HR1.out x13_1 p193 q193
      cases e193
      replace p193 := eq_true p193
      replace q193 := eq_true q193
      go_wp2
      repeat (go_quiet (fail); try go_wp2)
      go_ret
      exact ⟨by first | rfl | (simp; done) | (simp [*]; done), dQ⟩
    ·rw [if_neg c4] at H
     have c4b0 := decide_eq_false c4
     clear c4
     obtain rfl := Option.some.inj H
     go_wp2
     repeat (go_quiet (fail); try go_wp2)
     go_ret
     exact ⟨by first | rfl | (simp; done) | (simp [*]; done), dQ⟩
 ·rw [if_neg c3] at H
  have c3b0 : ((l0.length : Int) == (l1.length : Int)) = false := beq_eq_false_iff_ne.mpr c3
  have c3b1 : ((l0.length : Int) != (l1.length : Int)) = true := bne_iff_ne.mpr c3
  have c3b2 : (l0.length == l1.length) = false := by first | simpa using c3 | (simp at c3 ⊢; omega)
  obtain rfl := Option.some.inj H
  go_enter Tryz.func23, Tryz.ntmps23
  go_wp2
  repeat (go_quiet (fail); try go_wp2)
  go_ret
  exact ⟨by first | rfl | (simp; done) | (simp [*]; done), dQ⟩
def laws_pSameMatrix.l0 : Nat → Int → Int → List (List Int) → List (List Int) → Option (Bool)
 | 0, _, _, _, _ => none
 | k + 1, x15, x16, x195000, x196000 => if x16 < x15 then (if 0 ≤ x16 then (if x16 < (x195000.length : Int) then (if x16 < (x196000.length : Int) then ((laws_pSame.f k (rd_L3 x195000 x16) (rd_L3 x196000 x16)).bind fun t198 => (if t198 = true then (laws_pSameMatrix.l0 k x15 (wrap64 (x16 + 1)) x195000 x196000) else (some false))) else (none)) else (none)) else (none)) else (some true)
def laws_pSameMatrix.f (k : Nat) (l0_0 : List (List Int)) (l1_0 : List (List Int)) : Option (Bool) := if (l0_0.length : Int) = (l1_0.length : Int) then (laws_pSameMatrix.l0 k (l0_0.length : Int) 0 l0_0 l1_0) else (some false)
theorem laws_pSameMatrix.calls (k : Nat) (A0_0 : Option Addr) (c0_0 : Nat) (l0_0 : List (List Int)) (A1_0 : Option Addr) (c1_0 : Nat) (l1_0 : List (List Int)) (r : Bool) (w : World) (hr0_0 : Kd.C (Kd.slice 3 (Kd.int .i64)) w A0_0 l0_0.length l0_0) (hc0_0 : l0_0.length ≤ c0_0) (hr1_0 : Kd.C (Kd.slice 3 (Kd.int .i64)) w A1_0 l1_0.length l1_0) (hc1_0 : l1_0.length ≤ c1_0) (h : laws_pSameMatrix.f k l0_0 l1_0 = some r) :
  Calls Tryz.prog 10 #[.agg #[.slice A0_0 l0_0.length c0_0], .agg #[.slice A1_0 l1_0.length c1_0]] w fun e w' => e = .returned (.bool r) ∧ Below w.heap.size w w' := by
 have hu30 := Tryz.underlying30
 have HR0_0 := aM hr0_0
 have HC0_0 := aM hc0_0
 clear hr0_0 hc0_0
 have HR1_0 := aM hr1_0
 have HC1_0 := aM hc1_0
 clear hr1_0 hc1_0
 have HB := aM (Below.refl w.heap.size w)
 unfold laws_pSameMatrix.f at h
 have H := h
 clear h
 by_cases c3 : (l0_0.length : Int) = (l1_0.length : Int)
 ·rw [if_pos c3] at H
  have c3b0 : ((l0_0.length : Int) == (l1_0.length : Int)) = true := beq_iff_eq.mpr c3
  have c3b1 : ((l0_0.length : Int) != (l1_0.length : Int)) = false := bne_eq_false_iff_eq.mpr c3
  have c3b2 : (l0_0.length == l1_0.length) = true := by first | simpa using c3 | (simp at c3 ⊢; omega)
  clear c3
  have H' := aM H
  clear H
  go_enter Tryz.func10, Tryz.ntmps10
  go_wp2_with (first | ((with_reducible refine gate_dst (N := 2) rfl ?_); refine bF 2 30 #[.slice A0_0 l0_0.length c0_0] bq ?_; intro gb194 w4 hg hb _ _ _ _; clear HB; rename_i HB BK194 GW194 GE194; clear hb hg) | ((with_reducible refine gate_dst (N := 3) rfl ?_); refine bE 3 30 #[.slice A1_0 l1_0.length c1_0] ?_; intro gb195 hg w5 hbox hb; have _ := bK BK194 hb; have _ := bB hb; have _ := aM (hbox); have _ := aM ((gS hg)); have _ := aM ((gS hg)); have _ := aM (nL hg BK194); have _ := aM (nG hg BK194); clear BK194 HB; rename_i BK194 HB BK195 GW195 GE195 NB194_195 NB195_194; clear hb hbox hg; have hnb6 := NB194_195.out; have hnc6 := NB195_194.out; have hcz7_0 := zc10 BK194; have hfz7_0 := blk_frozen BK194.out 0; have hcz8_0 := zc10 BK195; have hfz8_0 := blk_frozen BK195.out 0))
  repeat (go_quiet (first | ((with_reducible refine gate_dst (N := 2) rfl ?_); refine bF 2 30 #[.slice A0_0 l0_0.length c0_0] bq ?_; intro gb194 w4 hg hb _ _ _ _; clear HB; rename_i HB BK194 GW194 GE194; clear hb hg) | ((with_reducible refine gate_dst (N := 3) rfl ?_); refine bE 3 30 #[.slice A1_0 l1_0.length c1_0] ?_; intro gb195 hg w5 hbox hb; have _ := bK BK194 hb; have _ := bB hb; have _ := aM (hbox); have _ := aM ((gS hg)); have _ := aM ((gS hg)); have _ := aM (nL hg BK194); have _ := aM (nG hg BK194); clear BK194 HB; rename_i BK194 HB BK195 GW195 GE195 NB194_195 NB195_194; clear hb hbox hg; have hnb6 := NB194_195.out; have hnc6 := NB195_194.out; have hcz7_0 := zc10 BK194; have hfz7_0 := blk_frozen BK194.out 0; have hcz8_0 := zc10 BK195; have hfz8_0 := blk_frozen BK195.out 0)); try go_wp2_with (first | ((with_reducible refine gate_dst (N := 2) rfl ?_); refine bF 2 30 #[.slice A0_0 l0_0.length c0_0] bq ?_; intro gb194 w4 hg hb _ _ _ _; clear HB; rename_i HB BK194 GW194 GE194; clear hb hg) | ((with_reducible refine gate_dst (N := 3) rfl ?_); refine bE 3 30 #[.slice A1_0 l1_0.length c1_0] ?_; intro gb195 hg w5 hbox hb; have _ := bK BK194 hb; have _ := bB hb; have _ := aM (hbox); have _ := aM ((gS hg)); have _ := aM ((gS hg)); have _ := aM (nL hg BK194); have _ := aM (nG hg BK194); clear BK194 HB; rename_i BK194 HB BK195 GW195 GE195 NB194_195 NB195_194; clear hb hbox hg; have hnb6 := NB194_195.out; have hnc6 := NB195_194.out; have hcz7_0 := zc10 BK194; have hfz7_0 := blk_frozen BK194.out 0; have hcz8_0 := zc10 BK195; have hfz8_0 := blk_frozen BK195.out 0)))
  go_loopg [16] k (fun kq v16 w' => ∃ (x16_1 : Int), v16 = .int .i64 x16_1 ∧ Aside0 (laws_pSameMatrix.l0 kq (l0_0.length : Int) x16_1 l0_0 l1_0 = some r) ∧ Aside0 (kq ≤ k) ∧ Aside0 (w'.heap[gb194]? = some (.cells #[(.slice A0_0 l0_0.length c0_0)] 30 (0, 0))) ∧ Aside0 (w'.heap[gb195]? = some (.cells #[(.slice A1_0 l1_0.length c1_0)] 30 (0, 0))) ∧ Aside0 (Below w.heap.size w w'))
  case atStart => exact ⟨(0), eR, H', ⟨Nat.le_refl _⟩, ⟨qQ BK194⟩, ⟨qQ BK195⟩, ⟨bq⟩⟩
  case round =>
   clear H'
   try clear c3
   try clear c3b0
   try clear c3b1
   try clear c3b2
   try clear hcz7_0
   try clear hcz8_0
   try clear hfz7_0
   try clear hfz8_0
   obtain ⟨x16_1, rfl, HA, HK1, BK194, BK195, HB⟩ := hrel
   cases gk with
   | zero => exact absurd HA.out (by simp [laws_pSameMatrix.l0])
   | succ k1 =>
    have H := HA.out
    clear HA
    simp only [laws_pSameMatrix.l0] at H
    by_cases c9 : x16_1 < (l0_0.length : Int)
    ·rw [if_pos c9] at H
     have c9b0 := decide_eq_true c9
     clear c9
     replace H := iD3 H
     obtain ⟨c10b0, c11b0, c12b0, H⟩ := H
     replace H := bS H
     obtain ⟨t198, A13, H⟩ := H
     try dsimp only at H
     by_cases c14 : t198 = true
     ·subst c14
      have H1 : (laws_pSameMatrix.l0 k1 (l0_0.length : Int) (wrap64 (x16_1 + 1)) l0_0 l1_0) = some r := by rw [if_pos rfl] at H; exact H
      clear H
      have H := H1
      clear H1
      have H' := aM H
      clear H
      have hnb15 := NB194_195.out
      have hnc15 := NB195_194.out
      have hcz16_0 := zc10 BK194
      have hfz16_0 := blk_frozen BK194.out 0
      have p196 : 0 ≤ (x16_1 : Int) := odt
      have q196 : x16_1 < (l0_0.length : Int) := odt
      obtain ⟨ad196, A196_0, c196_0, e196, hx196_0, hl196_0, hi196_0⟩ := at_L3 HR0_0.out x16_1 p196 q196
      cases e196
      replace hx196_0 := (HB.out.cell (World.block_lt_of_cell? w _ hx196_0)).trans hx196_0
      have HR196_0 := aM hi196_0
      have HC196_0 := aM hl196_0
      clear hi196_0 hl196_0
      replace p196 := eq_true p196
      replace q196 := eq_true q196
      have hcz17_0 := zc10 BK195
      have hfz17_0 := blk_frozen BK195.out 0
      have p197 : 0 ≤ (x16_1 : Int) := odt
      have q197 : x16_1 < (l1_0.length : Int) := odt
      obtain ⟨ad197, A197_0, c197_0, e197, hx197_0, hl197_0, hi197_0⟩ := at_L3 HR1_0.out x16_1 p197 q197
      cases e197
      replace hx197_0 := (HB.out.cell (World.block_lt_of_cell? w _ hx197_0)).trans hx197_0
      have HR197_0 := aM hi197_0
      have HC197_0 := aM hl197_0
      clear hi197_0 hl197_0
      replace p197 := eq_true p197
      replace q197 := eq_true q197
      go_wp2_with (first | (go_at_call 23; (with_reducible refine (laws_pSame.calls k1 _ _ (rd_L3 l0_0 x16_1) _ _ (rd_L3 l1_0 x16_1) true _ (cQ (Kd.C_below HR196_0.out HB.out)) HC196_0.out ?side3 ?side4 A13.out).mono ?_); (case side3 => exact cQ (Kd.C_below HR197_0.out HB.out)); (case side4 => exact HC197_0.out); rintro e w' ⟨rfl, ⟨nd, rfl⟩⟩; (try first | exact ⟨rfl, _, World.drewN_drewN _ _ _⟩ | exact ⟨rfl, _, Eq.trans (World.drewN_drewN _ _ _) (congrArg (World.drewN _) (Nat.add_assoc _ _ _))⟩)))
      repeat (go_quiet (first | (go_at_call 23; (with_reducible refine (laws_pSame.calls k1 _ _ (rd_L3 l0_0 x16_1) _ _ (rd_L3 l1_0 x16_1) true _ (cQ (Kd.C_below HR196_0.out HB.out)) HC196_0.out ?side3 ?side4 A13.out).mono ?_); (case side3 => exact cQ (Kd.C_below HR197_0.out HB.out)); (case side4 => exact HC197_0.out); rintro e w' ⟨rfl, ⟨nd, rfl⟩⟩; (try first | exact ⟨rfl, _, World.drewN_drewN _ _ _⟩ | exact ⟨rfl, _, Eq.trans (World.drewN_drewN _ _ _) (congrArg (World.drewN _) (Nat.add_assoc _ _ _))⟩))); try go_wp2_with (first | (go_at_call 23; (with_reducible refine (laws_pSame.calls k1 _ _ (rd_L3 l0_0 x16_1) _ _ (rd_L3 l1_0 x16_1) true _ (cQ (Kd.C_below HR196_0.out HB.out)) HC196_0.out ?side3 ?side4 A13.out).mono ?_); (case side3 => exact cQ (Kd.C_below HR197_0.out HB.out)); (case side4 => exact HC197_0.out); rintro e w' ⟨rfl, ⟨nd, rfl⟩⟩; (try first | exact ⟨rfl, _, World.drewN_drewN _ _ _⟩ | exact ⟨rfl, _, Eq.trans (World.drewN_drewN _ _ _) (congrArg (World.drewN _) (Nat.add_assoc _ _ _))⟩))))
      go_roundg k1
      case measure => have := HK1.out; omega
      case rel => exact ⟨(wrap64 (x16_1 + 1)), eR, H', ⟨by have := HK1.out; omega⟩, ⟨qQ BK194⟩, ⟨qQ BK195⟩, ⟨bq⟩⟩
     ·replace c14 := Bool.eq_false_iff.mpr c14
      subst c14
      have H1 : (some false) = some r := by rw [if_neg (show ¬ (false = true) by decide)] at H; exact H
      clear H
      have H := H1
      clear H1
      obtain rfl := Option.some.inj H
      have hnb18 := NB194_195.out
      have hnc18 := NB195_194.out
      have hcz19_0 := zc10 BK194
      have hfz19_0 := blk_frozen BK194.out 0
      have p196 : 0 ≤ (x16_1 : Int) := odt
      have q196 : x16_1 < (l0_0.length : Int) := odt
      obtain ⟨ad196, A196_0, c196_0, e196, hx196_0, hl196_0, hi196_0⟩ := at_L3 HR0_0.out x16_1 p196 q196
      cases e196
      replace hx196_0 := (HB.out.cell (World.block_lt_of_cell? w _ hx196_0)).trans hx196_0
      have HR196_0 := aM hi196_0
      have HC196_0 := aM hl196_0
      clear hi196_0 hl196_0
      replace p196 := eq_true p196
      replace q196 := eq_true q196
      have hcz20_0 := zc10 BK195
      have hfz20_0 := blk_frozen BK195.out 0
      have p197 : 0 ≤ (x16_1 : Int) := odt
      have q197 : x16_1 < (l1_0.length : Int) := odt
      obtain ⟨ad197, A197_0, c197_0, e197, hx197_0, hl197_0, hi197_0⟩ := at_L3 HR1_0.out x16_1 p197 q197
      cases e197
      replace hx197_0 := (HB.out.cell (World.block_lt_of_cell? w _ hx197_0)).trans hx197_0
      have HR197_0 := aM hi197_0
      have HC197_0 := aM hl197_0
      clear hi197_0 hl197_0
      replace p197 := eq_true p197
      replace q197 := eq_true q197
      go_wp2_with (first | (go_at_call 23; (with_reducible refine (laws_pSame.calls k1 _ _ (rd_L3 l0_0 x16_1) _ _ (rd_L3 l1_0 x16_1) false _ (cQ (Kd.C_below HR196_0.out HB.out)) HC196_0.out ?side3 ?side4 A13.out).mono ?_); (case side3 => exact cQ (Kd.C_below HR197_0.out HB.out)); (case side4 => exact HC197_0.out); rintro e w' ⟨rfl, ⟨nd, rfl⟩⟩; (try first | exact ⟨rfl, _, World.drewN_drewN _ _ _⟩ | exact ⟨rfl, _, Eq.trans (World.drewN_drewN _ _ _) (congrArg (World.drewN _) (Nat.add_assoc _ _ _))⟩)))
      repeat (go_quiet (first | (go_at_call 23; (with_reducible refine (laws_pSame.calls k1 _ _ (rd_L3 l0_0 x16_1) _ _ (rd_L3 l1_0 x16_1) false _ (cQ (Kd.C_below HR196_0.out HB.out)) HC196_0.out ?side3 ?side4 A13.out).mono ?_); (case side3 => exact cQ (Kd.C_below HR197_0.out HB.out)); (case side4 => exact HC197_0.out); rintro e w' ⟨rfl, ⟨nd, rfl⟩⟩; (try first | exact ⟨rfl, _, World.drewN_drewN _ _ _⟩ | exact ⟨rfl, _, Eq.trans (World.drewN_drewN _ _ _) (congrArg (World.drewN _) (Nat.add_assoc _ _ _))⟩))); try go_wp2_with (first | (go_at_call 23; (with_reducible refine (laws_pSame.calls k1 _ _ (rd_L3 l0_0 x16_1) _ _ (rd_L3 l1_0 x16_1) false _ (cQ (Kd.C_below HR196_0.out HB.out)) HC196_0.out ?side3 ?side4 A13.out).mono ?_); (case side3 => exact cQ (Kd.C_below HR197_0.out HB.out)); (case side4 => exact HC197_0.out); rintro e w' ⟨rfl, ⟨nd, rfl⟩⟩; (try first | exact ⟨rfl, _, World.drewN_drewN _ _ _⟩ | exact ⟨rfl, _, Eq.trans (World.drewN_drewN _ _ _) (congrArg (World.drewN _) (Nat.add_assoc _ _ _))⟩))))
      go_ret
      exact ⟨eE, bq⟩
    ·rw [if_neg c9] at H
     have c9b0 := decide_eq_false c9
     clear c9
     obtain rfl := Option.some.inj H
     go_wp2
     repeat (go_quiet (fail); try go_wp2)
     go_ret
     exact ⟨eE, bq⟩
 ·rw [if_neg c3] at H
  have c3b0 : ((l0_0.length : Int) == (l1_0.length : Int)) = false := beq_eq_false_iff_ne.mpr c3
  have c3b1 : ((l0_0.length : Int) != (l1_0.length : Int)) = true := bne_iff_ne.mpr c3
  have c3b2 : (l0_0.length == l1_0.length) = false := by first | simpa using c3 | (simp at c3 ⊢; omega)
  obtain rfl := Option.some.inj H
  go_enter Tryz.func10, Tryz.ntmps10
  go_wp2_with (first | ((with_reducible refine gate_dst (N := 2) rfl ?_); refine bF 2 30 #[.slice A0_0 l0_0.length c0_0] bq ?_; intro gb194 w21 hg hb _ _ _ _; clear HB; rename_i HB BK194 GW194 GE194; clear hb hg) | ((with_reducible refine gate_dst (N := 3) rfl ?_); refine bE 3 30 #[.slice A1_0 l1_0.length c1_0] ?_; intro gb195 hg w22 hbox hb; have _ := bK BK194 hb; have _ := bB hb; have _ := aM (hbox); have _ := aM ((gS hg)); have _ := aM ((gS hg)); have _ := aM (nL hg BK194); have _ := aM (nG hg BK194); clear BK194 HB; rename_i BK194 HB BK195 GW195 GE195 NB194_195 NB195_194; clear hb hbox hg; have hnb23 := NB194_195.out; have hnc23 := NB195_194.out; have hcz24_0 := zc10 BK194; have hfz24_0 := blk_frozen BK194.out 0; have hcz25_0 := zc10 BK195; have hfz25_0 := blk_frozen BK195.out 0))
  repeat (go_quiet (first | ((with_reducible refine gate_dst (N := 2) rfl ?_); refine bF 2 30 #[.slice A0_0 l0_0.length c0_0] bq ?_; intro gb194 w21 hg hb _ _ _ _; clear HB; rename_i HB BK194 GW194 GE194; clear hb hg) | ((with_reducible refine gate_dst (N := 3) rfl ?_); refine bE 3 30 #[.slice A1_0 l1_0.length c1_0] ?_; intro gb195 hg w22 hbox hb; have _ := bK BK194 hb; have _ := bB hb; have _ := aM (hbox); have _ := aM ((gS hg)); have _ := aM ((gS hg)); have _ := aM (nL hg BK194); have _ := aM (nG hg BK194); clear BK194 HB; rename_i BK194 HB BK195 GW195 GE195 NB194_195 NB195_194; clear hb hbox hg; have hnb23 := NB194_195.out; have hnc23 := NB195_194.out; have hcz24_0 := zc10 BK194; have hfz24_0 := blk_frozen BK194.out 0; have hcz25_0 := zc10 BK195; have hfz25_0 := blk_frozen BK195.out 0)); try go_wp2_with (first | ((with_reducible refine gate_dst (N := 2) rfl ?_); refine bF 2 30 #[.slice A0_0 l0_0.length c0_0] bq ?_; intro gb194 w21 hg hb _ _ _ _; clear HB; rename_i HB BK194 GW194 GE194; clear hb hg) | ((with_reducible refine gate_dst (N := 3) rfl ?_); refine bE 3 30 #[.slice A1_0 l1_0.length c1_0] ?_; intro gb195 hg w22 hbox hb; have _ := bK BK194 hb; have _ := bB hb; have _ := aM (hbox); have _ := aM ((gS hg)); have _ := aM ((gS hg)); have _ := aM (nL hg BK194); have _ := aM (nG hg BK194); clear BK194 HB; rename_i BK194 HB BK195 GW195 GE195 NB194_195 NB195_194; clear hb hbox hg; have hnb23 := NB194_195.out; have hnc23 := NB195_194.out; have hcz24_0 := zc10 BK194; have hfz24_0 := blk_frozen BK194.out 0; have hcz25_0 := zc10 BK195; have hfz25_0 := blk_frozen BK195.out 0)))
  go_ret
  exact ⟨eE, bq⟩
end Go.Proofs.YtcodionjhcmfhaaGreatDoor.Oa
