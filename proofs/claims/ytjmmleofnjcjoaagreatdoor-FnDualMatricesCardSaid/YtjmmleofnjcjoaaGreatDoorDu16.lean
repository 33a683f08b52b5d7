-- Written by hook.py (wip/), over the kit's print.py.
import Derived.Test.YtjmmleofnjcjoaaGreatDoorDu2
import Derived.Test.YtjmmleofnjcjoaaGreatDoorDu10
import Derived.Test.YtjmmleofnjcjoaaGreatDoorDu12
import Derived.Test.YtjmmleofnjcjoaaGreatDoorDu14
import Derived.Test.YtjmmleofnjcjoaaGreatDoorDuXSq
namespace Go.Proofs.YtjmmleofnjcjoaaGreatDoor.Du
open Go.RowKit Go.Proofs.YtjmmleofnjcjoaaGreatDoorW.PrintWords Go.Proofs.YtjmmleofnjcjoaaGreatDoorW.PrintLast Go.Proofs.YtjmmleofnjcjoaaGreatDoorW.PrintMore Go.Proofs.YtjmmleofnjcjoaaGreatDoor.Sq
attribute [local go_sem] max2_int min2_int max_two min_two max_three min_three max_four min_four
set_option linter.unusedVariables false
set_option linter.unusedSimpArgs false
set_option maxHeartbeats 8000000
set_option maxRecDepth 100000
def Y26.l0 : Nat → List (S130) → Int → Int → List (List Int) → Option ((List (List Int)))
 | 0, _, _, _, _ => none
 | k + 1, x10, x11, x12, x377000 => if x12 < x11 then (if 0 ≤ x12 then (if x12 < (x10.length : Int) then (if 0 ≤ ((rd_T130 x10 x12).f0) then (if ((rd_T130 x10 x12).f0) < (x377000.length : Int) then (if 0 ≤ ((rd_T130 x10 x12).f1) then (if ((rd_T130 x10 x12).f1) < ((rd_L4 x377000 ((rd_T130 x10 x12).f0)).length : Int) then (Y26.l0 k x10 x11 (wrap64 (x12 + 1)) (x377000.set (((rd_T130 x10 x12).f0) : Int).toNat ((rd_L4 x377000 ((rd_T130 x10 x12).f0)).set (((rd_T130 x10 x12).f1) : Int).toNat (wrap64 ((rd (rd_L4 x377000 ((rd_T130 x10 x12).f0)) ((rd_T130 x10 x12).f1)) + 1))))) else (none)) else (none)) else (none)) else (none)) else (none)) else (none)) else (some x377000)
def Y26.f (k : Nat) (a0_0 : Int) (l0_1 : List Int) : Option ((List (List Int))) := (Y59.f k a0_0 l0_1).bind fun t372 => ((Y19.f k t372).bind fun t373 => ((Y20.f k a0_0 l0_1).bind fun t377 => (Y26.l0 k t377 (t377.length : Int) 0 t373)))
def Y26.T5 : Bool × List (List Nat × List Nat) := (true, [([], []), ([0], [0]), ([], []), ([2], [2]), ([1, 3], [1, 3]), ([4], [4]), ([], []), ([6], [6]), ([5, 7], [5, 7]), ([8], [8]), ([9], [9]), ([5, 7, 0, 1, 2, 3, 4, 5, 6, 7, 8, 9, 10], [5, 7]), ([11, 10, 0, 1, 2, 3, 4, 5, 6, 7, 8, 9, 10], [10, 11])])
def Y26.B5 : List Nat := [0, 1, 0, 4, 15, 31, 0, 64, 255, 511, 1023, 2047, 4095]
theorem Y26.tab5 : rtab .any (opsOf Tryz.f71 5) = Y26.T5 := by kernel_rfl
theorem Y26.bits5 : waitsOk Y26.T5.2 Y26.B5 = true := by kernel_rfl
theorem Y26.calls (k : Nat) (a0_0 : Int) (A0_1 : Option Addr) (c0_1 : Nat) (l0_1 : List Int) (r : List (List Int)) (w : World) (hr0_1 : Kd.C (Kd.int .i64) w A0_1 l0_1.length l0_1) (hc0_1 : l0_1.length ≤ c0_1) (h : Y26.f k a0_0 l0_1 = some r) :
  Calls Tryz.prog 71 #[.agg #[.int .i64 a0_0, .slice A0_1 l0_1.length c0_1]] w fun e w' => ∃ v0_ : Value, e = .returned (.agg #[v0_]) ∧ Kd.S (Kd.slice 3 (Kd.int .i64)) 24 w' w.heap.size (fun _ => True) v0_ r ∧ Below w.heap.size w w' := by
 have hu26 := Tryz.underlying26
 have hu41 := Tryz.underlying41
 have hu130 := Tryz.underlying130
 have HR0_1 := aM hr0_1
 have HC0_1 := aM hc0_1
 clear hr0_1 hc0_1
 have HB := aM (Below.refl w.heap.size w)
 unfold Y26.f at h
 have H := h
 clear h
 replace H := bS H
 obtain ⟨t372, A2, H⟩ := H
 try dsimp only at H
 replace H := bS H
 obtain ⟨t373, A3, H⟩ := H
 try dsimp only at H
 replace H := bS H
 obtain ⟨t377, A4, H⟩ := H
 try dsimp only at H
 have H' := aM H
 clear H
 go_enter Tryz.func71, Tryz.ntmps71
 go_wp2_with (first | ((with_reducible refine gate_dst (N := 1) rfl ?_); refine bF 1 26 #[.int .i64 a0_0, .slice A0_1 l0_1.length c0_1] bq ?_; intro gb370 w5 hg hb _ _ _ _; clear HB; rename_i HB BK370 GW370 GE370; clear hb hg) | ((with_reducible refine gate_dst (N := 2) rfl ?_); refine bE 2 41 #[.slice none 0 0] ?_; intro gb371 hg w6 hbox hb; have _ := bK BK370 hb; have _ := bB hb; have _ := aM (hbox); have _ := aM ((gS hg)); have _ := aM ((gS hg)); have _ := aM (nL hg BK370); have _ := aM (nG hg BK370); clear BK370 HB; rename_i BK370 HB BK371 GW371 GE371 NB370_371 NB371_370; clear hb hbox hg; have hnb7 := NB370_371.out; have hnc7 := NB371_370.out; have hcz8_0 := zc20 BK370; have hcz8_1 := zc21 BK370; have hfz8_0 := blk_frozen BK370.out 0; have hfz8_1 := blk_frozen BK370.out 1) | ((with_reducible refine gate_callee (f := 153) rfl ?_); refine gL (some 7) Tryz.func153 #[.agg #[.int .i64 a0_0, .slice A0_1 l0_1.length c0_1]] ?_; (with_reducible refine (Y59.calls k a0_0 _ _ l0_1 t372 _ (cQ (Kd.C_below HR0_1.out HB.out)) HC0_1.out A2.out).mono ?_); rintro e w9 ⟨rfl, hb⟩; refine ⟨_, rfl, ?_⟩; have _ := bK BK370 hb; have _ := bK BK371 hb; have _ := bB hb; clear BK370 BK371 HB; rename_i BK370 BK371 HB; (try clear hb)) | ((with_reducible refine gate_callee (f := 83) rfl ?_); refine gL (some 8) Tryz.func83 #[.int .i64 t372] ?_; (with_reducible refine (Y19.calls k t372 t373 _ A3.out).mono ?_); rintro e w10 ⟨v374, rfl, ho0, hb⟩; refine ⟨_, rfl, ?_⟩; have _ := aM (Kd.S_lower ho0 (below_size bq)); have _ := bK BK370 hb; have _ := bK BK371 hb; have _ := bB hb; clear BK370 BK371 HB; rename_i HO375 BK370 BK371 HB; (try clear hb); (try clear ho0)) | ((with_reducible refine gate_dst (N := 3) rfl ?_); refine bE 3 41 #[.slice none 0 0] ?_; intro gb376 hg w11 hbox hb; have _ := aM (Kd.S_below (sQ HO375) hb); have _ := bK BK370 hb; have _ := bK BK371 hb; have _ := bB hb; have _ := aM (hbox); have _ := aM ((gS hg)); have _ := aM ((gS hg)); have _ := aM (nL hg BK370); have _ := aM (nG hg BK370); have _ := aM (nL hg BK371); have _ := aM (nG hg BK371); clear HO375 BK370 BK371 HB; rename_i HO375 BK370 BK371 HB BK376 GW376 GE376 NB370_376 NB376_370 NB371_376 NB376_371; clear hb hbox hg; obtain ⟨Ao12, co12, eo12⟩ := Kd.S_slice HO375.out; subst eo12; have hnb13 := NB376_370.out; have hnc13 := NB370_376.out; have hnb14 := NB376_371.out; have hnc14 := NB371_376.out; have hcz15_0 := zc10 BK376; have hfz15_0 := blk_frozen BK376.out 0; have hcz16_0 := zc20 BK370; have hcz16_1 := zc21 BK370; have hfz16_0 := blk_frozen BK370.out 0; have hfz16_1 := blk_frozen BK370.out 1) | ((with_reducible refine gate_callee (f := 154) rfl ?_); refine gL (some 10) Tryz.func154 #[.agg #[.int .i64 a0_0, .slice A0_1 l0_1.length c0_1]] ?_; (with_reducible refine (Y20.calls k a0_0 _ _ l0_1 t377 _ ?side1 ?side2 A4.out).mono ?_); (case side1 => exact Kd.C_below HR0_1.out bq); (case side2 => exact HC0_1.out); rintro e w17 ⟨v378, rfl, ho0, hb⟩; refine ⟨_, rfl, ?_⟩; have _ := aM (Kd.S_below (by (with_reducible repeat first|apply sA|apply sN|apply sD); exact (Kd.S_mono (Kd.S_far (p := ⟨gb376, 0, none⟩) (Kd.S_types HO375.out BK376.out (by decide)) (fun _ hk => hk.2) (.slice Ao12 t373.length co12)) (fun _ h_ => h_.1))) hb); have _ := aM (Kd.R_lower ho0 (below_size bq)); have _ := aM (blk_below (g := gb370) (o := .cells #[.int .i64 a0_0, .slice A0_1 l0_1.length c0_1] 26 (0, 0)) (by (with_reducible repeat first|apply qN|apply qD|apply qA); refine blk_far ?_ NB370_376.out _; (with_reducible repeat first|apply qN|apply qD|apply qA); exact BK370.out) hb); have _ := aM (blk_below (g := gb371) (o := .cells #[.slice none 0 0] 41 (0, 0)) (by (with_reducible repeat first|apply qN|apply qD|apply qA); refine blk_far ?_ NB371_376.out _; (with_reducible repeat first|apply qN|apply qD|apply qA); exact BK371.out) hb); have _ := aM (blk_below (g := gb376) (o := .cells #[.slice Ao12 t373.length co12] 41 (0, 0)) (by (with_reducible repeat first|apply qN|apply qD|apply qA); refine blk_put (cs := #[.slice none 0 0]) ?_ 0 _ rfl; (with_reducible repeat first|apply qN|apply qD|apply qA); exact BK376.out) hb); have _ := bB hb; clear HO375 BK370 BK371 BK376 HB; rename_i HO375 HO379 BK370 BK371 BK376 HB; (try clear hb); (try clear hk); (try clear ho0); obtain ⟨Ao18, co18, eo18⟩ := Kd.R_slice HO379.out; subst eo18))
 go_loopg [12] k (fun kq v12 w' => ∃ (x12_1 : Int) (x377000_1 : List (List Int)) (u377000 : Value), v12 = .int .i64 x12_1 ∧ Aside0 (Y26.l0 kq t377 (t377.length : Int) x12_1 x377000_1 = some r) ∧ Aside0 (kq ≤ k) ∧ Aside0 (Kd.R k130 130 w' w.heap.size (fun _ => True) (.slice Ao18 t377.length co18) t377) ∧ Aside0 (Kd.S (Kd.slice 3 (Kd.int .i64)) 24 w' w.heap.size (fun _ => True) u377000 x377000_1) ∧ Aside0 (w'.heap[gb370]? = some (.cells #[.int .i64 a0_0, (.slice A0_1 l0_1.length c0_1)] 26 (0, 0))) ∧ Aside0 (w'.heap[gb371]? = some (.cells #[(.slice none 0 0)] 41 (0, 0))) ∧ Aside0 (w'.heap[gb376]? = some (.cells #[u377000] 41 (0, 0))) ∧ Aside0 (Below w.heap.size w w'))
 case atStart => exact ⟨(0), (t373), (.slice Ao12 t373.length co12), eR, H', ⟨Nat.le_refl _⟩, ⟨rQ HO379⟩, ⟨by (with_reducible repeat first|apply sA|apply sN|apply sD); exact HO375.out⟩, ⟨qQ BK370⟩, ⟨qQ BK371⟩, ⟨qQ BK376⟩, ⟨bq⟩⟩
 case round =>
  clear H'
  try clear hcz15_0
  try clear hcz16_0
  try clear hcz16_1
  try clear hcz8_0
  try clear hcz8_1
  try clear hfz15_0
  try clear hfz16_0
  try clear hfz16_1
  try clear hfz8_0
  try clear hfz8_1
  obtain ⟨x12_1, x377000_1, u377000, rfl, HA, HK1, HO_10, HO_377000, BK370, BK371, BK376, HB⟩ := hrel
  cases gk with
  | zero => exact absurd HA.out (by simp [Y26.l0])
  | succ k1 =>
   have H := HA.out
   clear HA
   simp only [Y26.l0] at H
   by_cases c19 : x12_1 < (t377.length : Int)
   ·rw [if_pos c19] at H
    have c19b0 := decide_eq_true c19
    clear c19
    replace H := iD4 H
    obtain ⟨c20b0, c21b0, c22b0, c23b0, H⟩ := H
    replace H := iD2 H
    obtain ⟨c24b0, c25b0, H⟩ := H
    obtain ⟨y384, hy384⟩ := nE (((rd_L4 x377000_1 ((rd_T130 t377 x12_1).f0)).set (((rd_T130 t377 x12_1).f1) : Int).toNat (wrap64 ((rd (rd_L4 x377000_1 ((rd_T130 t377 x12_1).f0)) ((rd_T130 t377 x12_1).f1)) + 1))) : List Int)
    try rw [← hy384] at H
    try with_reducible replace H := (Option.bind_some _ _).symm.trans H
    try dsimp only at H
    have Ny384 := aM hy384
    clear hy384
    obtain ⟨y386, hy386⟩ := nE ((x377000_1.set (((rd_T130 t377 x12_1).f0) : Int).toNat y384) : List (List Int))
    try rw [← hy386] at H
    try with_reducible replace H := (Option.bind_some _ _).symm.trans H
    try dsimp only at H
    have Ny386 := aM hy386
    clear hy386
    have H' := aM H
    clear H
    have p380 : 0 ≤ (x12_1 : Int) := odt
    have q380 : x12_1 < (t377.length : Int) := odt
    obtain ⟨ad380, e380, hx380_0, hx380_1⟩ := at_T130 (Kd.R_reads' HO_10.out).2.2 x12_1 p380 q380
    cases e380
    replace p380 := eq_true p380
    replace q380 := eq_true q380
    try go_wp2_with (first | ((with_reducible refine gate_dst (N := 5) rfl ?_); refine bE 5 130 #[.int .i64 0, .int .i64 0] ?_; intro gb381 hg w27 hbox hb; have _ := aM (Kd.R_below (Kd.R_elderB (rQ HO_10) gb381 (Nat.le_of_eq hg.symm)) hb); have _ := aM (Kd.S_below (sQ HO_377000) hb); have _ := bK BK370 hb; have _ := bK BK371 hb; have _ := bK BK376 hb; have _ := bB hb; have _ := aM (hbox); have _ := aM ((gS hg)); have _ := aM ((gS hg)); have _ := aM (nL hg BK370); have _ := aM (nG hg BK370); have _ := aM (nL hg BK371); have _ := aM (nG hg BK371); have _ := aM (nL hg BK376); have _ := aM (nG hg BK376); clear HO_10 HO_377000 BK370 BK371 BK376 HB; rename_i HO_10 HO_377000 BK370 BK371 BK376 HB BK381 GW381 GE381 NB370_381 NB381_370 NB371_381 NB381_371 NB376_381 NB381_376; clear hb hbox hg; have hnb28 := NB381_370.out; have hnc28 := NB370_381.out; have hnb29 := NB381_371.out; have hnc29 := NB371_381.out; have hnb30 := NB381_376.out; have hnc30 := NB376_381.out; have hcz31_0 := zc20 BK381; have hcz31_1 := zc21 BK381; have hfz31_0 := blk_frozen BK381.out 0; have hfz31_1 := blk_frozen BK381.out 1))
    have n0_ : Aside0 (Kd.R k130 130 ((w27.setCell ⟨gb381, 0, none⟩ (.int .i64 ((rd_T130 t377 x12_1).f0))).setCell ⟨gb381, 1, none⟩ (.int .i64 ((rd_T130 t377 x12_1).f1))) w.heap.size (fun k_ => k_ ≠ gb381) (.slice (some ad380) t377.length co18) t377) := ⟨by (with_reducible repeat first|apply rA|apply rN|apply rD); exact Kd.R_mono (Kd.R_far (p := ⟨gb381, 1, none⟩) (Kd.R_far (p := ⟨gb381, 0, none⟩) (Kd.R_mono HO_10.out (fun k_ hk => (⟨hk, hk.2⟩ : _ ∧ k_ ≠ gb381))) (fun _ hk => hk.2) (.int .i64 ((rd_T130 t377 x12_1).f0))) (fun _ hk => hk.2) (.int .i64 ((rd_T130 t377 x12_1).f1))) (fun _ hk => hk.1.2)⟩
    have n1_ : Aside0 (Kd.S (Kd.slice 3 (Kd.int .i64)) 24 ((w27.setCell ⟨gb381, 0, none⟩ (.int .i64 ((rd_T130 t377 x12_1).f0))).setCell ⟨gb381, 1, none⟩ (.int .i64 ((rd_T130 t377 x12_1).f1))) w.heap.size (fun _ => True) u377000 x377000_1) := ⟨by (with_reducible repeat first|apply sA|apply sN|apply sD); exact Kd.S_mono (Kd.S_far (p := ⟨gb381, 1, none⟩) (Kd.S_far (p := ⟨gb381, 0, none⟩) (Kd.S_types HO_377000.out BK381.out (by decide)) (fun _ hk => hk.2) (.int .i64 ((rd_T130 t377 x12_1).f0))) (fun _ hk => hk.2) (.int .i64 ((rd_T130 t377 x12_1).f1))) (fun _ hk => trivial)⟩
    have n2_ : Aside0 (((w27.setCell ⟨gb381, 0, none⟩ (.int .i64 ((rd_T130 t377 x12_1).f0))).setCell ⟨gb381, 1, none⟩ (.int .i64 ((rd_T130 t377 x12_1).f1))).heap[gb370]? = some (.cells #[.int .i64 a0_0, .slice A0_1 l0_1.length c0_1] 26 (0, 0))) := ⟨by (with_reducible repeat first|apply qN|apply qD|apply qA); refine blk_far ?_ NB370_381.out _; (with_reducible repeat first|apply qN|apply qD|apply qA); refine blk_far ?_ NB370_381.out _; (with_reducible repeat first|apply qN|apply qD|apply qA); exact BK370.out⟩
    have n3_ : Aside0 (((w27.setCell ⟨gb381, 0, none⟩ (.int .i64 ((rd_T130 t377 x12_1).f0))).setCell ⟨gb381, 1, none⟩ (.int .i64 ((rd_T130 t377 x12_1).f1))).heap[gb371]? = some (.cells #[.slice none 0 0] 41 (0, 0))) := ⟨by (with_reducible repeat first|apply qN|apply qD|apply qA); refine blk_far ?_ NB371_381.out _; (with_reducible repeat first|apply qN|apply qD|apply qA); refine blk_far ?_ NB371_381.out _; (with_reducible repeat first|apply qN|apply qD|apply qA); exact BK371.out⟩
    have n4_ : Aside0 (((w27.setCell ⟨gb381, 0, none⟩ (.int .i64 ((rd_T130 t377 x12_1).f0))).setCell ⟨gb381, 1, none⟩ (.int .i64 ((rd_T130 t377 x12_1).f1))).heap[gb376]? = some (.cells #[u377000] 41 (0, 0))) := ⟨by (with_reducible repeat first|apply qN|apply qD|apply qA); refine blk_far ?_ NB376_381.out _; (with_reducible repeat first|apply qN|apply qD|apply qA); refine blk_far ?_ NB376_381.out _; (with_reducible repeat first|apply qN|apply qD|apply qA); exact BK376.out⟩
    have n5_ : Aside0 (((w27.setCell ⟨gb381, 0, none⟩ (.int .i64 ((rd_T130 t377 x12_1).f0))).setCell ⟨gb381, 1, none⟩ (.int .i64 ((rd_T130 t377 x12_1).f1))).heap[gb381]? = some (.cells #[.int .i64 ((rd_T130 t377 x12_1).f0), .int .i64 ((rd_T130 t377 x12_1).f1)] 130 (0, 0))) := ⟨by (with_reducible repeat first|apply qN|apply qD|apply qA); refine blk_put (cs := #[.int .i64 ((rd_T130 t377 x12_1).f0), .int .i64 0]) ?_ 1 _ rfl; (with_reducible repeat first|apply qN|apply qD|apply qA); refine blk_put (cs := #[.int .i64 0, .int .i64 0]) ?_ 0 _ rfl; (with_reducible repeat first|apply qN|apply qD|apply qA); exact BK381.out⟩
    have n6_ : Aside0 (Below w.heap.size w ((w27.setCell ⟨gb381, 0, none⟩ (.int .i64 ((rd_T130 t377 x12_1).f0))).setCell ⟨gb381, 1, none⟩ (.int .i64 ((rd_T130 t377 x12_1).f1)))) := ⟨bq⟩
    (try clear HO_10)
    (try clear HO_377000)
    (try clear BK370)
    (try clear BK371)
    (try clear BK376)
    (try clear BK381)
    (try clear HB)
    generalize ((w27.setCell ⟨gb381, 0, none⟩ (.int .i64 ((rd_T130 t377 x12_1).f0))).setCell ⟨gb381, 1, none⟩ (.int .i64 ((rd_T130 t377 x12_1).f1))) = w32 at n0_ n1_ n2_ n3_ n4_ n5_ n6_ ⊢
    have HO_10 := n0_
    have HO_377000 := n1_
    have BK370 := n2_
    have BK371 := n3_
    have BK376 := n4_
    have BK381 := n5_
    have HB := n6_
    clear n0_ n1_ n2_ n3_ n4_ n5_ n6_
    have n0_ := aM (Kd.R_drew HO_10.out)
    have n1_ := aM (Kd.S_drew HO_377000.out)
    have n2_ := aM (blk_drew BK370.out)
    have n3_ := aM (blk_drew BK371.out)
    have n4_ := aM (blk_drew BK376.out)
    have n5_ := aM (blk_drew BK381.out)
    have n6_ := aM (below_drew1 HB.out)
    clear HO_10
    clear HO_377000
    clear BK370
    clear BK371
    clear BK376
    clear BK381
    clear HB
    have HO_10 := n0_
    have HO_377000 := n1_
    have BK370 := n2_
    have BK371 := n3_
    have BK376 := n4_
    have BK381 := n5_
    have HB := n6_
    clear n0_ n1_ n2_ n3_ n4_ n5_ n6_
    obtain ⟨Ao34, co34, eo34⟩ := Kd.S_slice HO_377000.out
    (first | subst eo34 | (injection eo34 with f1_ f2_ f3_; have f4_ := f1_.symm; have f5_ := f3_.symm; clear f1_ f2_ f3_; subst f4_; subst f5_))
    have p382 : 0 ≤ (((rd_T130 t377 x12_1).f0) : Int) := odt
    have q382 : ((rd_T130 t377 x12_1).f0) < (x377000_1.length : Int) := odt
    obtain ⟨ad382, A382_0, c382_0, e382, hx382_0, hl382_0, hi382_0⟩ := at_L4 (Kd.S_reads' HO_377000.out).2.2 ((rd_T130 t377 x12_1).f0) p382 q382
    cases e382
    obtain ⟨ce382, hce382, hMe382, hcc382⟩ := Kd.S_get HO_377000.out [] ((rd_T130 t377 x12_1).f0) p382 (by first | exact q382 | exact odt | (have e_ := (Kd.S_reads' HO_377000.out).1; omega))
    obtain ⟨ve382_0, rfl, ge382_0⟩ := hMe382
    have hv382_0 := hcc382 0 _ rfl
    rw [Nat.add_zero, show ((Kd.slice 3 (Kd.int .i64))).sz = 1 from rfl, Nat.mul_one] at hv382_0
    replace hv382_0 := Option.some.inj (hv382_0.symm.trans hx382_0)
    rw [hv382_0] at ge382_0
    have HL382_0 := aM (show Kd.R (Kd.int .i64) 3 _ _ _ _ (rd_L4 x377000_1 ((rd_T130 t377 x12_1).f0)) from ge382_0)
    clear hv382_0 ge382_0
    have HX382_0 := aM hx382_0
    clear hcc382 hce382
    have HR382_0 := aM hi382_0
    have HC382_0 := aM hl382_0
    clear hi382_0 hl382_0
    replace p382 := eq_true p382
    replace q382 := eq_true q382
    have p383 : 0 ≤ (((rd_T130 t377 x12_1).f1) : Int) := odt
    have q383 : ((rd_T130 t377 x12_1).f1) < ((rd_L4 x377000_1 ((rd_T130 t377 x12_1).f0)).length : Int) := odt
    obtain ⟨ad383, e383, hx383_0⟩ := Kd.at_int (cQ HR382_0.out) ((rd_T130 t377 x12_1).f1) p383 q383
    cases e383
    replace p383 := eq_true p383
    replace q383 := eq_true q383
    have p26 : 0 ≤ (((rd_T130 t377 x12_1).f1) : Int) := odt
    have q26 : (((rd_T130 t377 x12_1).f1) : Int) < (((rd_L4 x377000_1 ((rd_T130 t377 x12_1).f0)).length : Int) : Int) := odt
    obtain ⟨go26, co26, eo26, gb26, gl26, cl26, HG26⟩ := Kd.R_form HL382_0.out (by omega)
    (first | cases eo26 | (injection eo26 with ea_ en_ ec_; (first | subst ea_ | (injection ea_ with ea_; subst ea_)); subst ec_; clear en_))
    have GB26 := aM gb26
    have GG26 := aM HG26
    clear gb26 gl26 HG26
    (first | simp only [add_plain] at hx383_0 | skip)
    obtain ⟨hx26_0, hf26_0⟩ := Kd.R_celln 0 HL382_0.out (((rd_T130 t377 x12_1).f1) : Int) p26 q26
    replace p26 := eq_true p26
    replace q26 := eq_true q26
    have hq35 : (((rd_T130 t377 x12_1).f0) : Int) < (x377000_1.length : Int) := (by have h_ : (((rd_T130 t377 x12_1).f0) : Int) < ((x377000_1.length : Int) : Int) := odt; first | exact h_ | (have e_ := (Kd.S_reads' HO_377000.out).1; omega) | simpa only [List.length_set, List.length_set] using h_)
    obtain ⟨oki35, ce35, hcl35, hM35, hcc35, hok35, hbk35⟩ := Kd.S_borrow HO_377000.out [] (((rd_T130 t377 x12_1).f0) : Int) (odt) hq35
    obtain ⟨ve35_0, rfl, ge35_0⟩ := hM35
    have hv35 := hcc35 0 _ rfl
    rw [Nat.add_zero, show ((Kd.slice 3 (Kd.int .i64))).sz = 1 from rfl, Nat.mul_one] at hv35
    replace hv35 := Option.some.inj (hv35.symm.trans HX382_0.out)
    subst hv35
    clear hcc35 hcl35
    replace ge35_0 := (show Kd.R (Kd.int .i64) 3 _ _ _ _ (rd_L4 x377000_1 ((rd_T130 t377 x12_1).f0)) from ge35_0)
    have HP35 := Kd.R_putg ge35_0 (((rd_T130 t377 x12_1).f1) : Int) (wrap64 ((rd (rd_L4 x377000_1 ((rd_T130 t377 x12_1).f0)) ((rd_T130 t377 x12_1).f1)) + 1))
    rw [← Ny384.out] at HP35
    have HS35 := hbk35 HP35.2 (fun k_ e_ => by injection e_ with e_; subst e_; exact ge35_0.1 _ rfl) (x' := y384) (Kd.M_row HP35.1)
    rw [← Ny386.out] at HS35
    have HQ35 := aM HS35
    clear HP35 HS35 hbk35 hok35
    refine start_ (n := 13) (S := fun w' => w'.cell? ⟨gb376, 0, none⟩ = some (.slice (some ad382) x377000_1.length co34) ∧ w'.cell? ⟨gb381, 0, none⟩ = some (.int .i64 ((rd_T130 t377 x12_1).f0)) ∧ w'.cell? ⟨gb381, 1, none⟩ = some (.int .i64 ((rd_T130 t377 x12_1).f1)) ∧ w'.cell? (ad382.add (((rd_T130 t377 x12_1).f0)).toNat) = some (.slice (some ⟨go26, 0, none⟩) (rd_L4 x377000_1 ((rd_T130 t377 x12_1).f0)).length c382_0) ∧ w'.cell? ⟨go26, (((rd_T130 t377 x12_1).f1)).toNat, none⟩ = some (.int .i64 (rd (rd_L4 x377000_1 ((rd_T130 t377 x12_1).f0)) ((rd_T130 t377 x12_1).f1)))) (ds := [12]) #[false, false, false, false, false, false, false, false, false, false, false, false, false] (by kernel_rfl) rfl rfl ⟨(blk_cell BK376.out 0).trans rfl, (blk_cell BK381.out 0).trans rfl, (blk_cell BK381.out 1).trans rfl, hx382_0, hx383_0⟩ (fun hHeld => ?_); refine with_tabW Y26.tab5 Y26.bits5 (fun HT_ HW_ => ?_)
    generalize w32.drew = w33 at HO_10 HO_377000 BK370 BK371 BK376 BK381 HB GG26 HL382_0 HQ35 HR382_0 HX382_0 hf26_0 hx26_0 hx382_0 hx383_0 hHeld ⊢
    refine pA 0 16 (h := ?_)
    refine pA 2 18 (h := ?_)
    refine pA 6 22 (h := ?_)
    refine tA 1 17 hHeld (h := ?_)
    refine tA 3 19 hHeld (h := ?_)
    refine pA 4 20 (h := ?_)
    refine tA 5 21 hHeld (h := ?_)
    refine tA 7 23 hHeld (h := ?_)
    refine pA 8 24 (h := ?_)
    refine tA 9 25 hHeld (h := ?_)
    refine pA 10 26 (h := ?_)
    refine pA 11 27 (h := ?_)
    refine last_ (i := 12) (N := none) #[true, true, true, true, true, true, true, true, true, true, true, true, true] rfl rfl (one_of HT_.out (by kernel_rfl)) (by decide) (fun K hK => ?_)
    refine skip_ (w1 := ?_) (by rfl) rfl ?_ ?_
    rotate_left
    ·go_simp
     rfl
    refine hK.out _ _ ?_
    clear hK K
    refine done_ (done_of HT_.out (by kernel_rfl)) ?_
    try go_wp2
    go_roundg k1
    case measure => have := HK1.out; omega
    case rel => exact ⟨(wrap64 (x12_1 + 1)), (y386), (.slice (some ad382) x377000_1.length co34), eR, H', ⟨by have := HK1.out; omega⟩, ⟨by (with_reducible repeat first|apply rA|apply rN|apply rD); exact Kd.R_mono (Kd.R_far (p := ⟨go26, (((rd_T130 t377 x12_1).f1) : Int).toNat, none⟩) (Kd.R_types HO_10.out GG26.out (by decide)) (fun _ hk => hk.2) (.int .i64 (wrap64 ((rd (rd_L4 x377000_1 ((rd_T130 t377 x12_1).f0)) ((rd_T130 t377 x12_1).f1)) + 1)))) (fun _ hk => trivial)⟩, ⟨by (with_reducible repeat first|apply sA|apply sN|apply sD); exact HQ35.out⟩, ⟨by (with_reducible repeat first|apply qN|apply qD|apply qA); refine blk_far ?_ (by have h_ := Kd.R_ne HL382_0.out BK370.out (by decide); intro e_; exact h_ (by rw [e_]; rfl)) _; (with_reducible repeat first|apply qN|apply qD|apply qA); exact BK370.out⟩, ⟨by (with_reducible repeat first|apply qN|apply qD|apply qA); refine blk_far ?_ (by have h_ := Kd.R_ne HL382_0.out BK371.out (by decide); intro e_; exact h_ (by rw [e_]; rfl)) _; (with_reducible repeat first|apply qN|apply qD|apply qA); exact BK371.out⟩, ⟨by (with_reducible repeat first|apply qN|apply qD|apply qA); refine blk_far ?_ (by have h_ := Kd.R_ne HL382_0.out BK376.out (by decide); intro e_; exact h_ (by rw [e_]; rfl)) _; (with_reducible repeat first|apply qN|apply qD|apply qA); exact BK376.out⟩, ⟨bq⟩⟩
   ·rw [if_neg c19] at H
    have c19b0 := decide_eq_false c19
    clear c19
    obtain rfl := Option.some.inj H
    have hnb37 := NB376_370.out
    have hnc37 := NB370_376.out
    have hnb38 := NB376_371.out
    have hnc38 := NB371_376.out
    have hcz39_0 := zc10 BK376
    have hfz39_0 := blk_frozen BK376.out 0
    obtain ⟨Ao40, co40, eo40⟩ := Kd.S_slice HO_377000.out
    subst eo40
    have hnb41 := NB371_370.out
    have hnc41 := NB370_371.out
    have hcz42_0 := zc10 BK371
    have hfz42_0 := blk_frozen BK371.out 0
    go_wp2
    refine bodyPost_ret (results_cell_row rfl _ _ gb371 41 #[.slice Ao40 x377000_1.length co40] (0, 0) _ rfl (by (with_reducible repeat first|apply qN|apply qD|apply qA); refine blk_put (cs := #[.slice none 0 0]) ?_ 0 _ rfl; (with_reducible repeat first|apply qN|apply qD|apply qA); exact BK371.out) Tryz.underlying41 rfl (by kernel_rfl)) rfl ?_
    exact ⟨_, eE, by (with_reducible repeat first|apply sA|apply sN|apply sD); exact Kd.S_mono (Kd.S_far (p := ⟨gb371, 0, none⟩) (Kd.S_types HO_377000.out BK371.out (by decide)) (fun _ hk => hk.2) (.slice Ao40 x377000_1.length co40)) (fun _ hk => trivial), bq⟩
def Y43.f (k : Nat) (a0_0 : Int) (l0_1 : List Int) : Option ((List (List Int)) × Bool) := (Y54.f k a0_0 l0_1).bind fun t389 => (if t389 = true then ((Y26.f k a0_0 l0_1).bind fun t390 => (some (t390, true))) else (some (([] : List (List Int)), false)))
theorem Y43.calls (k : Nat) (a0_0 : Int) (A0_1 : Option Addr) (c0_1 : Nat) (l0_1 : List Int) (r1 : List (List Int)) (r2 : Bool) (w : World) (hV : TabZ w) (hr0_1 : Kd.C (Kd.int .i64) w A0_1 l0_1.length l0_1) (hc0_1 : l0_1.length ≤ c0_1) (h : Y43.f k a0_0 l0_1 = some (r1, r2)) :
  Calls Tryz.prog 18 #[.agg #[.int .i64 a0_0, .slice A0_1 l0_1.length c0_1]] w fun e w' => ∃ v0_ : Value, e = .returned (.tuple #[.agg #[v0_], .bool r2]) ∧ Kd.S (Kd.slice 3 (Kd.int .i64)) 24 w' w.heap.size (fun _ => True) v0_ r1 ∧ Below w.heap.size w w' := by
 have hu26 := Tryz.underlying26
 have hu41 := Tryz.underlying41
 have HR0_1 := aM hr0_1
 have HC0_1 := aM hc0_1
 clear hr0_1 hc0_1
 have HB := aM (Below.refl w.heap.size w)
 have HVV := aM hV
 clear hV
 unfold Y43.f at h
 have H := h
 clear h
 replace H := bS H
 obtain ⟨t389, A2, H⟩ := H
 try dsimp only at H
 by_cases c3 : t389 = true
 ·subst c3
  have H1 : ((Y26.f k a0_0 l0_1).bind fun t390 => (some (t390, true))) = some (r1, r2) := by rw [if_pos rfl] at H; exact H
  clear H
  have H := H1
  clear H1
  replace H := bS H
  obtain ⟨t390, A4, H⟩ := H
  try dsimp only at H
  simp only [Option.some.injEq, Prod.mk.injEq] at H
  obtain ⟨rfl, rfl⟩ := H
  go_enter Tryz.func18, Tryz.ntmps18
  go_wp2_with (first | ((with_reducible refine gate_dst (N := 1) rfl ?_); refine bF 1 26 #[.int .i64 a0_0, .slice A0_1 l0_1.length c0_1] bq ?_; intro gb387 w5 hg hb _ _ _ _; clear HB; rename_i HB BK387 GW387 GE387; clear hb hg) | ((with_reducible refine gate_dst (N := 2) rfl ?_); refine bE 2 41 #[.slice none 0 0] ?_; intro gb388 hg w6 hbox hb; have _ := bK BK387 hb; have _ := bB hb; have _ := aM (hbox); have _ := aM ((gS hg)); have _ := aM ((gS hg)); have _ := aM (nL hg BK387); have _ := aM (nG hg BK387); clear BK387 HB; rename_i BK387 HB BK388 GW388 GE388 NB387_388 NB388_387; clear hb hbox hg; have hnb7 := NB387_388.out; have hnc7 := NB388_387.out; have hcz8_0 := zc20 BK387; have hcz8_1 := zc21 BK387; have hfz8_0 := blk_frozen BK387.out 0; have hfz8_1 := blk_frozen BK387.out 1) | ((with_reducible refine gate_callee (f := 69) rfl ?_); refine gL (some 5) Tryz.func69 #[.agg #[.int .i64 a0_0, .slice A0_1 l0_1.length c0_1]] ?_; (with_reducible refine (Y54.calls k a0_0 _ _ l0_1 true _ (HVV.out.below bq) (cQ (Kd.C_below HR0_1.out HB.out)) HC0_1.out A2.out).mono ?_); rintro e w9 ⟨rfl, hb⟩; refine ⟨_, rfl, ?_⟩; have _ := bK BK387 hb; have _ := bK BK388 hb; have _ := bB hb; clear BK387 BK388 HB; rename_i BK387 BK388 HB; (try clear hb); have hcz10_0 := zc20 BK387; have hcz10_1 := zc21 BK387; have hfz10_0 := blk_frozen BK387.out 0; have hfz10_1 := blk_frozen BK387.out 1) | ((with_reducible refine gate_callee (f := 71) rfl ?_); refine gL (some 9) Tryz.func71 #[.agg #[.int .i64 a0_0, .slice A0_1 l0_1.length c0_1]] ?_; (with_reducible refine (Y26.calls k a0_0 _ _ l0_1 t390 _ (cQ (Kd.C_below HR0_1.out HB.out)) HC0_1.out A4.out).mono ?_); rintro e w11 ⟨v391, rfl, ho0, hb⟩; refine ⟨_, rfl, ?_⟩; have _ := aM (Kd.S_lower ho0 (below_size bq)); have _ := bK BK387 hb; have _ := bK BK388 hb; have _ := bB hb; clear BK387 BK388 HB; rename_i HO392 BK387 BK388 HB; (try clear hb); (try clear ho0); obtain ⟨Ao12, co12, eo12⟩ := Kd.S_slice HO392.out; subst eo12; have hcz13_0 := zc10 BK388; have hfz13_0 := blk_frozen BK388.out 0))
  refine bodyPost_ret (results_ct rfl _ _ gb388 41 #[.slice Ao12 t390.length co12] (0, 0) _ rfl (by (with_reducible repeat first|apply qN|apply qD|apply qA); refine blk_put (cs := #[.slice none 0 0]) ?_ 0 _ rfl; (with_reducible repeat first|apply qN|apply qD|apply qA); exact BK388.out) Tryz.underlying41 rfl (by kernel_rfl)) rfl ?_
  exact ⟨_, eE, by (with_reducible repeat first|apply sA|apply sN|apply sD); exact Kd.S_mono (Kd.S_far (p := ⟨gb388, 0, none⟩) (Kd.S_types HO392.out BK388.out (by decide)) (fun _ hk => hk.2) (.slice Ao12 t390.length co12)) (fun _ hk => trivial), bq⟩
 ·replace c3 := Bool.eq_false_iff.mpr c3
  subst c3
  have H1 : (some (([] : List (List Int)), false)) = some (r1, r2) := by rw [if_neg (show ¬ (false = true) by decide)] at H; exact H
  clear H
  have H := H1
  clear H1
  simp only [Option.some.injEq, Prod.mk.injEq] at H
  obtain ⟨rfl, rfl⟩ := H
  go_enter Tryz.func18, Tryz.ntmps18
  go_wp2_with (first | ((with_reducible refine gate_dst (N := 1) rfl ?_); refine bF 1 26 #[.int .i64 a0_0, .slice A0_1 l0_1.length c0_1] bq ?_; intro gb387 w14 hg hb _ _ _ _; clear HB; rename_i HB BK387 GW387 GE387; clear hb hg) | ((with_reducible refine gate_dst (N := 2) rfl ?_); refine bE 2 41 #[.slice none 0 0] ?_; intro gb388 hg w15 hbox hb; have _ := bK BK387 hb; have _ := bB hb; have _ := aM (hbox); have _ := aM ((gS hg)); have _ := aM ((gS hg)); have _ := aM (nL hg BK387); have _ := aM (nG hg BK387); clear BK387 HB; rename_i BK387 HB BK388 GW388 GE388 NB387_388 NB388_387; clear hb hbox hg; have hnb16 := NB387_388.out; have hnc16 := NB388_387.out; have hcz17_0 := zc20 BK387; have hcz17_1 := zc21 BK387; have hfz17_0 := blk_frozen BK387.out 0; have hfz17_1 := blk_frozen BK387.out 1) | ((with_reducible refine gate_callee (f := 69) rfl ?_); refine gL (some 5) Tryz.func69 #[.agg #[.int .i64 a0_0, .slice A0_1 l0_1.length c0_1]] ?_; (with_reducible refine (Y54.calls k a0_0 _ _ l0_1 false _ (HVV.out.below (by repeat (first | (with_reducible first | exact HB.out | apply bA | apply bN | apply bD) | exact HB.out | (refine Below.setCell ?_ ?_ _; rotate_left; first | exact GW387.out | exact GW388.out)))) (cQ (Kd.C_below HR0_1.out HB.out)) HC0_1.out A2.out).mono ?_); rintro e w18 ⟨rfl, hb⟩; refine ⟨_, rfl, ?_⟩; have _ := bK BK387 hb; have _ := bK BK388 hb; have _ := bB hb; clear BK387 BK388 HB; rename_i BK387 BK388 HB; (try clear hb); have hcz19_0 := zc10 BK388; have hfz19_0 := blk_frozen BK388.out 0))
  refine bodyPost_ret (results_ct rfl _ _ gb388 41 #[.slice none 0 0] (0, 0) _ rfl (by (with_reducible repeat first|apply qN|apply qD|apply qA); refine blk_put (cs := #[.slice none 0 0]) ?_ 0 _ rfl; (with_reducible repeat first|apply qN|apply qD|apply qA); exact BK388.out) Tryz.underlying41 rfl (by kernel_rfl)) rfl ?_
  exact ⟨_, eE, by first | exact Kd.S_nil _ _ _ _ _ | exact Kd.N_nil _ _ _ _ _ | exact Kd.V_nil _ _ _ _ _ | exact Kd.Q_nil _ _ _ _ _ | exact Kd.R_nil _ _ _ _ _, bq⟩
def Y12.l0 : Nat → Int → List Int → Int → Option (List Int)
 | 0, _, _, _ => none
 | k + 1, x0, x3, x4 => if 0 ≤ x4 then (if (shr .i64 x0 x4) > 0 then ((Y7.f x0 x4).bind fun t393 => (if t393 = true then (if x3.length < 17592186044416 then (Y12.l0 k x0 (x3 ++ [x4]) (wrap64 (x4 + 1))) else (none)) else (Y12.l0 k x0 x3 (wrap64 (x4 + 1))))) else (some x3)) else (none)
def Y12.f (k : Nat) (a0 : Int) : Option (List Int) := Y12.l0 k a0 ([] : List Int) 0
theorem Y12.mono_l : ∀ k, (∀ y0 y1 y2, LeO (Y12.l0 k y0 y1 y2) (Y12.l0 (k + 1) y0 y1 y2))
 | 0 => fun _ _ _ r h => by simp [Y12.l0] at h
 | k + 1 => by
  have ih0 := Y12.mono_l k
  ·intro y0 y1 y2
   unfold Y12.l0
   repeat' first | with_reducible first | exact ih0 _ _ _ | exact LeO.refl _ | exact LeO.none _ | refine LeO.ite ?_ ?_ | refine LeO.bind ?_ (fun _ => ?_)
theorem Y12.mono : ∀ a0 k, LeO (Y12.f k a0) (Y12.f (k + 1) a0) := by
 intro a0 k
 have ih0 := Y12.mono_l k
 unfold Y12.f
 repeat' first | with_reducible first | exact ih0 _ _ _ | exact LeO.refl _ | exact LeO.none _ | refine LeO.ite ?_ ?_ | refine LeO.bind ?_ (fun _ => ?_)
theorem Y12.calls (k : Nat) (a0 : Int) (r : List Int) (w : World) (h : Y12.f k a0 = some r) :
  Calls Tryz.prog 174 #[.int .i64 a0] w fun e w' => ∃ v0_ : Value, e = .returned (v0_) ∧ Kd.R (Kd.int .i64) 3 w' w.heap.size (fun _ => True) v0_ r ∧ Below w.heap.size w w' := by
 have HB := aM (Below.refl w.heap.size w)
 have H : (Y12.l0 k a0 ([] : List Int) 0) = some r := h
 clear h
 have H' := aM H
 clear H
 go_enter Tryz.func174, Tryz.ntmps174
 go_wp2
 go_loopg [3, 4] k (fun kq v3 v4 w' => ∃ (x3_1 : List Int) (x4_1 : Int), v4 = .int .i64 x4_1 ∧ Aside0 (Y12.l0 kq a0 x3_1 x4_1 = some r) ∧ Aside0 (kq ≤ k) ∧ Aside0 (Kd.R (Kd.int .i64) 3 w' w.heap.size (fun _ => True) v3 x3_1) ∧ Aside0 (Below w.heap.size w w'))
 case atStart => exact ⟨(([] : List Int)), (0), eR, H', ⟨Nat.le_refl _⟩, ⟨by first | exact Kd.R_nil _ _ _ _ _ | exact Kd.N_nil _ _ _ _ _ | exact Kd.V_nil _ _ _ _ _ | exact Kd.Q_nil _ _ _ _ _ | exact Kd.S_nil _ _ _ _ _⟩, ⟨bq⟩⟩
 case round =>
  clear H'
  obtain ⟨x3_1, x4_1, rfl, HA, HK1, HO_3, HB⟩ := hrel
  cases gk with
  | zero => exact absurd HA.out (by simp [Y12.l0])
  | succ k1 =>
   have H := HA.out
   clear HA
   simp only [Y12.l0] at H
   replace H := iS H
   obtain ⟨c2, H⟩ := H
   have c2b0 := eq_true c2
   have c2b1 := decide_eq_true c2
   clear c2
   obtain ⟨ji3, hji3⟩ : ∃ j_ : Int, (shr .i64 a0 x4_1) = j_ := ⟨_, rfl⟩
   replace H : (if (ji3) > 0 then ((Y7.f a0 x4_1).bind fun t393 => (if t393 = true then (if x3_1.length < 17592186044416 then (Y12.l0 k1 a0 (x3_1 ++ [x4_1]) (wrap64 (x4_1 + 1))) else (none)) else (Y12.l0 k1 a0 x3_1 (wrap64 (x4_1 + 1))))) else (some x3_1)) = some r := by first | (rw [hji3] at H; exact H) | (simp only [hji3] at H ⊢; exact H)
   have hji3_ : (a0 / 2 ^ min x4_1.toNat 64) = ji3 := hji3
   have hji3z : x4_1 ≤ 64 → (a0 / 2 ^ x4_1.toNat) = ji3 := shr_small hji3
   by_cases c4 : (ji3) > 0
   ·rw [if_pos c4] at H
    have c4b0 := decide_eq_true c4
    clear c4
    replace H := bS H
    obtain ⟨t393, A5, H⟩ := H
    try dsimp only at H
    by_cases c6 : t393 = true
    ·subst c6
     have H1 : (if x3_1.length < 17592186044416 then (Y12.l0 k1 a0 (x3_1 ++ [x4_1]) (wrap64 (x4_1 + 1))) else (none)) = some r := by rw [if_pos rfl] at H; exact H
     clear H
     have H := H1
     clear H1
     replace H := iS H
     obtain ⟨c7, H⟩ := H
     have LMc7 := aM c7
     clear c7
     obtain ⟨y394, hy394⟩ := nE ((x3_1 ++ [x4_1]) : List Int)
     try rw [← hy394] at H
     try with_reducible replace H := (Option.bind_some _ _).symm.trans H
     try dsimp only at H
     have Ny394 := aM hy394
     clear hy394
     have H' := aM H
     clear H
     go_wp2_with (first | ((with_reducible refine gate_callee (f := 149) rfl ?_); refine gL (some 13) Tryz.func149 #[.int .i64 a0, .int .i64 x4_1] ?_; (with_reducible refine (Y7.calls a0 x4_1 true _ A5.out).mono ?_); rintro e w' ⟨rfl, ⟨nd, rfl⟩⟩; refine ⟨_, rfl, ?_⟩) | ((with_reducible refine gate_builtin (b := .append) (xs := #[.tmp 14, .tmp 16]) rfl ?_); at_builtin; refine Kd.R_append (Kd.int .i64) (w0 := w) w.heap.size rfl (.tmp 14) (.tmp 16) 24 3 (.int .i64 0) 8 rfl Tryz.underlying24 info3 rfl (by decide) (by omega) u3 x3_1 x4_1 [.int .i64 x4_1] (fun _ => True) (fun _ => False) rfl rfl ?aP (fun _ hk => hk.elim) ?aF ?aO ?aB ?aS ?aL ?_; (case aP => exact rfl); (case aB => exact bq); (case aF => exact (fun _ _ => trivial)); (case aO => exact (rQ HO_3)); (case aS => exact (below_size bq)); (case aL => have := LMc7.out; omega); intro v395 w8 ho hb hg hat; rw [← Ny394.out] at ho; have _ := aM (hb); have _ := aM (ho); clear HB HO_3; rename_i HB HO396; clear ho hb hg hat))
     go_roundg k1
     case measure => have := HK1.out; omega
     case rel => exact ⟨(y394), (wrap64 (x4_1 + 1)), eR, H', ⟨by have := HK1.out; omega⟩, ⟨rQ HO396⟩, ⟨bq⟩⟩
    ·replace c6 := Bool.eq_false_iff.mpr c6
     subst c6
     have H1 : (Y12.l0 k1 a0 x3_1 (wrap64 (x4_1 + 1))) = some r := by rw [if_neg (show ¬ (false = true) by decide)] at H; exact H
     clear H
     have H := H1
     clear H1
     have H' := aM H
     clear H
     go_wp2_with (first | ((with_reducible refine gate_callee (f := 149) rfl ?_); refine gL (some 13) Tryz.func149 #[.int .i64 a0, .int .i64 x4_1] ?_; (with_reducible refine (Y7.calls a0 x4_1 false _ A5.out).mono ?_); rintro e w' ⟨rfl, ⟨nd, rfl⟩⟩; refine ⟨_, rfl, ?_⟩))
     go_roundg k1
     case measure => have := HK1.out; omega
     case rel => exact ⟨(x3_1), (wrap64 (x4_1 + 1)), eR, H', ⟨by have := HK1.out; omega⟩, ⟨rQ HO_3⟩, ⟨bq⟩⟩
   ·rw [if_neg c4] at H
    have c4b0 := decide_eq_false c4
    clear c4
    obtain rfl := Option.some.inj H
    go_wp2
    go_ret
    exact ⟨_, by first | rfl | (simp [errW_none, errW_some] <;> rfl) | (simp only [← hji3]; first | rfl | (simp [errW_none, errW_some] <;> rfl)) | (simp [*, errW_none, errW_some] <;> rfl), rQ HO_3, bq⟩
mutual
def Y27.l0 : Nat → List Int → Int → Int → Int → List Int → Option (Bool)
 | 0, _, _, _, _, _ => none
 | k + 1, x11, x12, x13, x398000, x398001 => if x13 < x12 then (if 0 ≤ x13 then (if x13 < (x11.length : Int) then ((Y7.f (rd x11 x13) x13).bind fun t400 => (if t400 = true then (some false) else ((Y12.f k (rd x11 x13)).bind fun t401 => (Y27.l1 k (rd x11 x13) x11 x12 x13 t401 (t401.length : Int) 0 x398000 x398001)))) else (none)) else (none)) else (some true)
def Y27.l1 : Nat → Int → List Int → Int → Int → List Int → Int → Int → Int → List Int → Option (Bool)
 | 0, _, _, _, _, _, _, _, _, _ => none
 | k + 1, x4, x11, x12, x13, x22, x23, x24, x398000, x398001 => if x24 < x23 then (if 0 ≤ x24 then (if x24 < (x22.length : Int) then (if 0 ≤ (rd x22 x24) then (if (rd x22 x24) < (x398001.length : Int) then (if (Go.bits .andNot .i64 (rd x398001 (rd x22 x24)) x4) = 0 then (Y27.l1 k x4 x11 x12 x13 x22 x23 (wrap64 (x24 + 1)) x398000 x398001) else (some false)) else (none)) else (none)) else (none)) else (none)) else (Y27.l0 k x11 x12 (wrap64 (x13 + 1)) x398000 x398001)
end
def Y27.f (k : Nat) (a0_0 : Int) (l0_1 : List Int) : Option (Bool) := (Y48.f k a0_0 l0_1).bind fun t398 => (if t398 = true then (Y27.l0 k l0_1 (l0_1.length : Int) 0 a0_0 l0_1) else (some false))
theorem Y27.calls (k : Nat) (a0_0 : Int) (A0_1 : Option Addr) (c0_1 : Nat) (l0_1 : List Int) (r : Bool) (w : World) (hr0_1 : Kd.C (Kd.int .i64) w A0_1 l0_1.length l0_1) (hc0_1 : l0_1.length ≤ c0_1) (h : Y27.f k a0_0 l0_1 = some r) :
  Calls Tryz.prog 91 #[.agg #[.int .i64 a0_0, .slice A0_1 l0_1.length c0_1]] w fun e w' => e = .returned (.bool r) ∧ Below w.heap.size w w' := by
 have hu26 := Tryz.underlying26
 have HR0_1 := aM hr0_1
 have HC0_1 := aM hc0_1
 clear hr0_1 hc0_1
 have HB := aM (Below.refl w.heap.size w)
 unfold Y27.f at h
 have H := h
 clear h
 replace H := bS H
 obtain ⟨t398, A2, H⟩ := H
 try dsimp only at H
 by_cases c3 : t398 = true
 ·subst c3
  have H1 : (Y27.l0 k l0_1 (l0_1.length : Int) 0 a0_0 l0_1) = some r := by rw [if_pos rfl] at H; exact H
  clear H
  have H := H1
  clear H1
  have H' := aM H
  clear H
  go_enter Tryz.func91, Tryz.ntmps91
  go_wp2_with (first | ((with_reducible refine gate_dst (N := 1) rfl ?_); refine bF 1 26 #[.int .i64 a0_0, .slice A0_1 l0_1.length c0_1] bq ?_; intro gb397 w4 hg hb _ _ _ _; clear HB; rename_i HB BK397 GW397 GE397; clear hb hg; have hcz5_0 := zc20 BK397; have hcz5_1 := zc21 BK397; have hfz5_0 := blk_frozen BK397.out 0; have hfz5_1 := blk_frozen BK397.out 1) | ((with_reducible refine gate_callee (f := 64) rfl ?_); refine gL (some 8) Tryz.func64 #[.agg #[.int .i64 a0_0, .slice A0_1 l0_1.length c0_1]] ?_; (with_reducible refine (Y48.calls k a0_0 _ _ l0_1 true _ (cQ (Kd.C_below HR0_1.out HB.out)) HC0_1.out A2.out).mono ?_); rintro e w6 ⟨rfl, hb⟩; refine ⟨_, rfl, ?_⟩; have _ := bK BK397 hb; have _ := bB hb; clear BK397 HB; rename_i BK397 HB; (try clear hb); have hcz7_0 := zc20 BK397; have hcz7_1 := zc21 BK397; have hfz7_0 := blk_frozen BK397.out 0; have hfz7_1 := blk_frozen BK397.out 1))
  go_loopg [13] k (fun kq v13 w' => ∃ (x13_1 : Int), v13 = .int .i64 x13_1 ∧ Aside0 (Y27.l0 kq l0_1 (l0_1.length : Int) x13_1 a0_0 l0_1 = some r) ∧ Aside0 (kq ≤ k) ∧ Aside0 (w'.heap[gb397]? = some (.cells #[.int .i64 a0_0, (.slice A0_1 l0_1.length c0_1)] 26 (0, 0))) ∧ Aside0 (Below w.heap.size w w'))
  case atStart => exact ⟨(0), eR, H', ⟨Nat.le_refl _⟩, ⟨qQ BK397⟩, ⟨bq⟩⟩
  case round =>
   clear H'
   try clear c3
   try clear hcz5_0
   try clear hcz5_1
   try clear hcz7_0
   try clear hcz7_1
   try clear hfz5_0
   try clear hfz5_1
   try clear hfz7_0
   try clear hfz7_1
   obtain ⟨x13_1, rfl, HA, HK1, BK397, HB⟩ := hrel
   cases gk with
   | zero => exact absurd HA.out (by simp [Y27.l0])
   | succ k1 =>
    have H := HA.out
    clear HA
    simp only [Y27.l0] at H
    by_cases c8 : x13_1 < (l0_1.length : Int)
    ·rw [if_pos c8] at H
     have c8b0 := decide_eq_true c8
     clear c8
     replace H := iD2 H
     obtain ⟨c9b0, c10b0, H⟩ := H
     replace H := bS H
     obtain ⟨t400, A11, H⟩ := H
     try dsimp only at H
     by_cases c12 : t400 = true
     ·subst c12
      have H1 : (some false) = some r := by rw [if_pos rfl] at H; exact H
      clear H
      have H := H1
      clear H1
      obtain rfl := Option.some.inj H
      have p399 : 0 ≤ (x13_1 : Int) := odt
      have q399 : x13_1 < (l0_1.length : Int) := odt
      obtain ⟨ad399, e399, hx399_0⟩ := Kd.at_int HR0_1.out x13_1 p399 q399
      cases e399
      replace hx399_0 := (HB.out.cell (World.block_lt_of_cell? w _ hx399_0)).trans hx399_0
      replace p399 := eq_true p399
      replace q399 := eq_true q399
      go_wp2_with (first | ((with_reducible refine gate_callee (f := 149) rfl ?_); refine gL (some 20) Tryz.func149 #[.int .i64 (rd l0_1 x13_1), .int .i64 x13_1] ?_; (with_reducible refine (Y7.calls (rd l0_1 x13_1) x13_1 true _ A11.out).mono ?_); rintro e w' ⟨rfl, ⟨nd, rfl⟩⟩; refine ⟨_, rfl, ?_⟩))
      go_ret
      exact ⟨eE, bq⟩
     ·replace c12 := Bool.eq_false_iff.mpr c12
      subst c12
      have H1 : ((Y12.f k1 (rd l0_1 x13_1)).bind fun t401 => (Y27.l1 k1 (rd l0_1 x13_1) l0_1 (l0_1.length : Int) x13_1 t401 (t401.length : Int) 0 a0_0 l0_1)) = some r := by rw [if_neg (show ¬ (false = true) by decide)] at H; exact H
      clear H
      have H := H1
      clear H1
      replace H := bS H
      obtain ⟨t401, A13, H⟩ := H
      try dsimp only at H
      have H' := aM H
      clear H
      have p399 : 0 ≤ (x13_1 : Int) := odt
      have q399 : x13_1 < (l0_1.length : Int) := odt
      obtain ⟨ad399, e399, hx399_0⟩ := Kd.at_int HR0_1.out x13_1 p399 q399
      cases e399
      replace hx399_0 := (HB.out.cell (World.block_lt_of_cell? w _ hx399_0)).trans hx399_0
      replace p399 := eq_true p399
      replace q399 := eq_true q399
      go_wp2_with (first | ((with_reducible refine gate_callee (f := 149) rfl ?_); refine gL (some 20) Tryz.func149 #[.int .i64 (rd l0_1 x13_1), .int .i64 x13_1] ?_; (with_reducible refine (Y7.calls (rd l0_1 x13_1) x13_1 false _ A11.out).mono ?_); rintro e w' ⟨rfl, ⟨nd, rfl⟩⟩; refine ⟨_, rfl, ?_⟩) | ((with_reducible refine gate_callee (f := 174) rfl ?_); refine gL (some 22) Tryz.func174 #[.int .i64 (rd l0_1 x13_1)] ?_; (with_reducible refine (Y12.calls k1 (rd l0_1 x13_1) t401 _ A13.out).mono ?_); rintro e w14 ⟨v402, rfl, ho0, hb⟩; refine ⟨_, rfl, ?_⟩; have _ := aM (Kd.R_lower ho0 (below_size bq)); have _ := bK BK397 hb; have _ := bB hb; clear BK397 HB; rename_i HO403 BK397 HB; (try clear hb); (try clear ho0); obtain ⟨Ao15, co15, eo15⟩ := Kd.R_slice HO403.out; subst eo15))
      go_loopg [24] k1 (fun kq v24 w' => ∃ (x24_2 : Int), v24 = .int .i64 x24_2 ∧ Aside0 (Y27.l1 kq (rd l0_1 x13_1) l0_1 (l0_1.length : Int) x13_1 t401 (t401.length : Int) x24_2 a0_0 l0_1 = some r) ∧ Aside0 (kq ≤ k1) ∧ Aside0 (Kd.R (Kd.int .i64) 3 w' w.heap.size (fun _ => True) (.slice Ao15 t401.length co15) t401) ∧ Aside0 (w'.heap[gb397]? = some (.cells #[.int .i64 a0_0, (.slice (some ad399) l0_1.length c0_1)] 26 (0, 0))) ∧ Aside0 (Below w.heap.size w w'))
      case atStart => exact ⟨(0), eR, H', ⟨Nat.le_refl _⟩, ⟨rQ HO403⟩, ⟨qQ BK397⟩, ⟨bq⟩⟩
      case round =>
       clear H'
       try clear c3
       try clear c8
       try clear c8b0
       try clear c9b0
       try clear c10b0
       try clear c12
       try clear hcz5_0
       try clear hcz5_1
       try clear hcz7_0
       try clear hcz7_1
       try clear hfz5_0
       try clear hfz5_1
       try clear hfz7_0
       try clear hfz7_1
       try clear hx399_0
       try clear p399
       try clear q399
       obtain ⟨x24_2, rfl, HA, HK2, HO_22, BK397, HB⟩ := hrel
       cases gk with
       | zero => exact absurd HA.out (by simp [Y27.l1])
       | succ k2 =>
        have H := HA.out
        clear HA
        simp only [Y27.l1] at H
        by_cases c16 : x24_2 < (t401.length : Int)
        ·rw [if_pos c16] at H
         have c16b0 := decide_eq_true c16
         clear c16
         replace H := iD4 H
         obtain ⟨c17b0, c18b0, c19b0, c20b0, H⟩ := H
         by_cases c21 : (Go.bits .andNot .i64 (rd l0_1 (rd t401 x24_2)) (rd l0_1 x13_1)) = 0
         ·rw [if_pos c21] at H
          have c21b0 : ((Go.bits .andNot .i64 (rd l0_1 (rd t401 x24_2)) (rd l0_1 x13_1)) == 0) = true := beq_iff_eq.mpr c21
          have c21b1 : ((Go.bits .andNot .i64 (rd l0_1 (rd t401 x24_2)) (rd l0_1 x13_1)) != 0) = false := bne_eq_false_iff_eq.mpr c21
          clear c21
          have H' := aM H
          clear H
          have p404 : 0 ≤ (x24_2 : Int) := odt
          have q404 : x24_2 < (t401.length : Int) := odt
          obtain ⟨ad404, e404, hx404_0⟩ := Kd.at_int (Kd.R_reads' HO_22.out).2.2 x24_2 p404 q404
          cases e404
          replace p404 := eq_true p404
          replace q404 := eq_true q404
          have hcz22_0 := zc20 BK397
          have hcz22_1 := zc21 BK397
          have hfz22_0 := blk_frozen BK397.out 0
          have hfz22_1 := blk_frozen BK397.out 1
          have p405 : 0 ≤ ((rd t401 x24_2) : Int) := odt
          have q405 : (rd t401 x24_2) < (l0_1.length : Int) := odt
          obtain ⟨ad405, e405, hx405_0⟩ := Kd.at_int HR0_1.out (rd t401 x24_2) p405 q405
          obtain rfl : ad399 = ad405 := (by injection e405)
          replace hx405_0 := (HB.out.cell (World.block_lt_of_cell? w _ hx405_0)).trans hx405_0
          replace p405 := eq_true p405
          replace q405 := eq_true q405
          go_wp2
          go_roundg k2
          case measure => have := HK1.out; have := HK2.out; omega
          case rel => exact ⟨(wrap64 (x24_2 + 1)), eR, H', ⟨by have := HK1.out; have := HK2.out; omega⟩, ⟨rQ HO_22⟩, ⟨qQ BK397⟩, ⟨bq⟩⟩
         ·rw [if_neg c21] at H
          have c21b0 : ((Go.bits .andNot .i64 (rd l0_1 (rd t401 x24_2)) (rd l0_1 x13_1)) == 0) = false := beq_eq_false_iff_ne.mpr c21
          have c21b1 : ((Go.bits .andNot .i64 (rd l0_1 (rd t401 x24_2)) (rd l0_1 x13_1)) != 0) = true := bne_iff_ne.mpr c21
          obtain rfl := Option.some.inj H
          have p404 : 0 ≤ (x24_2 : Int) := odt
          have q404 : x24_2 < (t401.length : Int) := odt
          obtain ⟨ad404, e404, hx404_0⟩ := Kd.at_int (Kd.R_reads' HO_22.out).2.2 x24_2 p404 q404
          cases e404
          replace p404 := eq_true p404
          replace q404 := eq_true q404
          have hcz23_0 := zc20 BK397
          have hcz23_1 := zc21 BK397
          have hfz23_0 := blk_frozen BK397.out 0
          have hfz23_1 := blk_frozen BK397.out 1
          have p405 : 0 ≤ ((rd t401 x24_2) : Int) := odt
          have q405 : (rd t401 x24_2) < (l0_1.length : Int) := odt
          obtain ⟨ad405, e405, hx405_0⟩ := Kd.at_int HR0_1.out (rd t401 x24_2) p405 q405
          obtain rfl : ad399 = ad405 := (by injection e405)
          replace hx405_0 := (HB.out.cell (World.block_lt_of_cell? w _ hx405_0)).trans hx405_0
          replace p405 := eq_true p405
          replace q405 := eq_true q405
          go_wp2
          go_ret
          exact ⟨eE, bq⟩
        ·rw [if_neg c16] at H
         have c16b0 := decide_eq_false c16
         clear c16
         have H' := aM H
         clear H
         go_wp2
         go_roundg k2
         case measure => have := HK1.out; have := HK2.out; omega
         case rel => exact ⟨(wrap64 (x13_1 + 1)), eR, H', ⟨by have := HK1.out; have := HK2.out; omega⟩, ⟨qQ BK397⟩, ⟨bq⟩⟩
    ·rw [if_neg c8] at H
     have c8b0 := decide_eq_false c8
     clear c8
     obtain rfl := Option.some.inj H
     go_wp2
     go_ret
     exact ⟨eE, bq⟩
 ·replace c3 := Bool.eq_false_iff.mpr c3
  subst c3
  have H1 : (some false) = some r := by rw [if_neg (show ¬ (false = true) by decide)] at H; exact H
  clear H
  have H := H1
  clear H1
  obtain rfl := Option.some.inj H
  go_enter Tryz.func91, Tryz.ntmps91
  go_wp2_with (first | ((with_reducible refine gate_dst (N := 1) rfl ?_); refine bF 1 26 #[.int .i64 a0_0, .slice A0_1 l0_1.length c0_1] bq ?_; intro gb397 w24 hg hb _ _ _ _; clear HB; rename_i HB BK397 GW397 GE397; clear hb hg; have hcz25_0 := zc20 BK397; have hcz25_1 := zc21 BK397; have hfz25_0 := blk_frozen BK397.out 0; have hfz25_1 := blk_frozen BK397.out 1) | ((with_reducible refine gate_callee (f := 64) rfl ?_); refine gL (some 8) Tryz.func64 #[.agg #[.int .i64 a0_0, .slice A0_1 l0_1.length c0_1]] ?_; (with_reducible refine (Y48.calls k a0_0 _ _ l0_1 false _ (cQ (Kd.C_below HR0_1.out HB.out)) HC0_1.out A2.out).mono ?_); rintro e w26 ⟨rfl, hb⟩; refine ⟨_, rfl, ?_⟩; have _ := bK BK397 hb; have _ := bB hb; clear BK397 HB; rename_i BK397 HB; (try clear hb)))
  go_ret
  exact ⟨eE, bq⟩
def Y55.f (a0_0 : Int) (l0_1 : List Int) (a1 : Int) (a2 : Int) (a3 : Int) (a4 : Int) : Option (Bool) := if 0 ≤ a1 then (if a1 < (l0_1.length : Int) then ((Y7.f (rd l0_1 a1) a2).bind fun t408 => (if t408 = true then (if 0 ≤ a3 then (if a3 < (l0_1.length : Int) then ((Y7.f (rd l0_1 a3) a4).bind fun t410 => (if t410 = true then ((Y7.f (rd l0_1 a3) a2).bind fun t412 => (if t412 = true then (some false) else ((Y7.f (rd l0_1 a1) a4).bind fun t414 => (some (!t414))))) else (some false))) else (none)) else (none)) else (some false))) else (none)) else (none)
theorem Y55.calls (a0_0 : Int) (A0_1 : Option Addr) (c0_1 : Nat) (l0_1 : List Int) (a1 : Int) (a2 : Int) (a3 : Int) (a4 : Int) (r : Bool) (w : World) (hr0_1 : Kd.C (Kd.int .i64) w A0_1 l0_1.length l0_1) (hc0_1 : l0_1.length ≤ c0_1) (h : Y55.f a0_0 l0_1 a1 a2 a3 a4 = some r) :
  Calls Tryz.prog 238 #[.agg #[.int .i64 a0_0, .slice A0_1 l0_1.length c0_1], .int .i64 a1, .int .i64 a2, .int .i64 a3, .int .i64 a4] w fun e w' => e = .returned (.bool r) ∧ Below w.heap.size w w' := by
 have hu26 := Tryz.underlying26
 have HR0_1 := aM hr0_1
 have HC0_1 := aM hc0_1
 clear hr0_1 hc0_1
 have HB := aM (Below.refl w.heap.size w)
 unfold Y55.f at h
 have H := h
 clear h
 replace H := iD2 H
 obtain ⟨c6b0, c7b0, H⟩ := H
 replace H := bS H
 obtain ⟨t408, A8, H⟩ := H
 try dsimp only at H
 by_cases c9 : t408 = true
 ·subst c9
  have H1 : (if 0 ≤ a3 then (if a3 < (l0_1.length : Int) then ((Y7.f (rd l0_1 a3) a4).bind fun t410 => (if t410 = true then ((Y7.f (rd l0_1 a3) a2).bind fun t412 => (if t412 = true then (some false) else ((Y7.f (rd l0_1 a1) a4).bind fun t414 => (some (!t414))))) else (some false))) else (none)) else (none)) = some r := by rw [if_pos rfl] at H; exact H
  clear H
  have H := H1
  clear H1
  replace H := iD2 H
  obtain ⟨c10b0, c11b0, H⟩ := H
  replace H := bS H
  obtain ⟨t410, A12, H⟩ := H
  try dsimp only at H
  by_cases c13 : t410 = true
  ·subst c13
   have H1 : ((Y7.f (rd l0_1 a3) a2).bind fun t412 => (if t412 = true then (some false) else ((Y7.f (rd l0_1 a1) a4).bind fun t414 => (some (!t414))))) = some r := by rw [if_pos rfl] at H; exact H
   clear H
   have H := H1
   clear H1
   replace H := bS H
   obtain ⟨t412, A14, H⟩ := H
   try dsimp only at H
   by_cases c15 : t412 = true
   ·subst c15
    have H1 : (some false) = some r := by rw [if_pos rfl] at H; exact H
    clear H
    have H := H1
    clear H1
    obtain rfl := Option.some.inj H
    go_enter Tryz.func238, Tryz.ntmps238
    go_wp2_with (first | ((with_reducible refine gate_dst (N := 5) rfl ?_); refine bF 5 26 #[.int .i64 a0_0, .slice A0_1 l0_1.length c0_1] bq ?_; intro gb406 w16 hg hb _ _ _ _; clear HB; rename_i HB BK406 GW406 GE406; clear hb hg; have hcz17_0 := zc20 BK406; have hcz17_1 := zc21 BK406; have hfz17_0 := blk_frozen BK406.out 0; have hfz17_1 := blk_frozen BK406.out 1; have p407 : 0 ≤ (a1 : Int) := odt; have q407 : a1 < (l0_1.length : Int) := odt; obtain ⟨ad407, e407, hx407_0⟩ := Kd.at_int HR0_1.out a1 p407 q407; cases e407; replace hx407_0 := (HB.out.cell (World.block_lt_of_cell? w _ hx407_0)).trans hx407_0; replace p407 := eq_true p407; replace q407 := eq_true q407) | ((with_reducible refine gate_callee (f := 149) rfl ?_); refine gL (some 17) Tryz.func149 #[.int .i64 (rd l0_1 a1), .int .i64 a2] ?_; (with_reducible refine (Y7.calls (rd l0_1 a1) a2 true _ A8.out).mono ?_); rintro e w' ⟨rfl, ⟨nd, rfl⟩⟩; refine ⟨_, rfl, ?_⟩; have p409 : 0 ≤ (a3 : Int) := odt; have q409 : a3 < (l0_1.length : Int) := odt; obtain ⟨ad409, e409, hx409_0⟩ := Kd.at_int HR0_1.out a3 p409 q409; obtain rfl : ad407 = ad409 := (by injection e409); replace hx409_0 := (HB.out.cell (World.block_lt_of_cell? w _ hx409_0)).trans hx409_0; replace p409 := eq_true p409; replace q409 := eq_true q409) | (go_at_call 149; (with_reducible refine (Y7.calls (rd l0_1 a3) a4 true _ A12.out).mono ?_); rintro e w' ⟨rfl, ⟨nd, rfl⟩⟩; have p411 : 0 ≤ (a3 : Int) := odt; have q411 : a3 < (l0_1.length : Int) := odt; obtain ⟨ad411, e411, hx411_0⟩ := Kd.at_int HR0_1.out a3 p411 q411; obtain rfl : ad407 = ad411 := (by injection e411); replace hx411_0 := (HB.out.cell (World.block_lt_of_cell? w _ hx411_0)).trans hx411_0; replace p411 := eq_true p411; replace q411 := eq_true q411) | (go_at_call 149; (with_reducible refine (Y7.calls (rd l0_1 a3) a2 true _ A14.out).mono ?_); rintro e w' ⟨rfl, ⟨nd, rfl⟩⟩))
    go_ret
    exact ⟨eE, bq⟩
   ·replace c15 := Bool.eq_false_iff.mpr c15
    subst c15
    have H1 : ((Y7.f (rd l0_1 a1) a4).bind fun t414 => (some (!t414))) = some r := by rw [if_neg (show ¬ (false = true) by decide)] at H; exact H
    clear H
    have H := H1
    clear H1
    replace H := bS H
    obtain ⟨t414, A18, H⟩ := H
    try dsimp only at H
    obtain rfl := Option.some.inj H
    go_enter Tryz.func238, Tryz.ntmps238
    go_wp2_with (first | ((with_reducible refine gate_dst (N := 5) rfl ?_); refine bF 5 26 #[.int .i64 a0_0, .slice A0_1 l0_1.length c0_1] bq ?_; intro gb406 w19 hg hb _ _ _ _; clear HB; rename_i HB BK406 GW406 GE406; clear hb hg; have hcz20_0 := zc20 BK406; have hcz20_1 := zc21 BK406; have hfz20_0 := blk_frozen BK406.out 0; have hfz20_1 := blk_frozen BK406.out 1; have p407 : 0 ≤ (a1 : Int) := odt; have q407 : a1 < (l0_1.length : Int) := odt; obtain ⟨ad407, e407, hx407_0⟩ := Kd.at_int HR0_1.out a1 p407 q407; cases e407; replace hx407_0 := (HB.out.cell (World.block_lt_of_cell? w _ hx407_0)).trans hx407_0; replace p407 := eq_true p407; replace q407 := eq_true q407) | ((with_reducible refine gate_callee (f := 149) rfl ?_); refine gL (some 17) Tryz.func149 #[.int .i64 (rd l0_1 a1), .int .i64 a2] ?_; (with_reducible refine (Y7.calls (rd l0_1 a1) a2 true _ A8.out).mono ?_); rintro e w' ⟨rfl, ⟨nd, rfl⟩⟩; refine ⟨_, rfl, ?_⟩; have p409 : 0 ≤ (a3 : Int) := odt; have q409 : a3 < (l0_1.length : Int) := odt; obtain ⟨ad409, e409, hx409_0⟩ := Kd.at_int HR0_1.out a3 p409 q409; obtain rfl : ad407 = ad409 := (by injection e409); replace hx409_0 := (HB.out.cell (World.block_lt_of_cell? w _ hx409_0)).trans hx409_0; replace p409 := eq_true p409; replace q409 := eq_true q409) | (go_at_call 149; (with_reducible refine (Y7.calls (rd l0_1 a3) a4 true _ A12.out).mono ?_); rintro e w' ⟨rfl, ⟨nd, rfl⟩⟩; have p411 : 0 ≤ (a3 : Int) := odt; have q411 : a3 < (l0_1.length : Int) := odt; obtain ⟨ad411, e411, hx411_0⟩ := Kd.at_int HR0_1.out a3 p411 q411; obtain rfl : ad407 = ad411 := (by injection e411); replace hx411_0 := (HB.out.cell (World.block_lt_of_cell? w _ hx411_0)).trans hx411_0; replace p411 := eq_true p411; replace q411 := eq_true q411) | (go_at_call 149; (with_reducible refine (Y7.calls (rd l0_1 a3) a2 false _ A14.out).mono ?_); rintro e w' ⟨rfl, ⟨nd, rfl⟩⟩; have p413 : 0 ≤ (a1 : Int) := odt; have q413 : a1 < (l0_1.length : Int) := odt; obtain ⟨ad413, e413, hx413_0⟩ := Kd.at_int HR0_1.out a1 p413 q413; obtain rfl : ad407 = ad413 := (by injection e413); replace hx413_0 := (HB.out.cell (World.block_lt_of_cell? w _ hx413_0)).trans hx413_0; replace p413 := eq_true p413; replace q413 := eq_true q413) | (go_at_call 149; (with_reducible refine (Y7.calls (rd l0_1 a1) a4 t414 _ A18.out).mono ?_); rintro e w' ⟨rfl, ⟨nd, rfl⟩⟩))
    go_ret
    exact ⟨eE, bq⟩
  ·replace c13 := Bool.eq_false_iff.mpr c13
   subst c13
   have H1 : (some false) = some r := by rw [if_neg (show ¬ (false = true) by decide)] at H; exact H
   clear H
   have H := H1
   clear H1
   obtain rfl := Option.some.inj H
   go_enter Tryz.func238, Tryz.ntmps238
   go_wp2_with (first | ((with_reducible refine gate_dst (N := 5) rfl ?_); refine bF 5 26 #[.int .i64 a0_0, .slice A0_1 l0_1.length c0_1] bq ?_; intro gb406 w21 hg hb _ _ _ _; clear HB; rename_i HB BK406 GW406 GE406; clear hb hg; have hcz22_0 := zc20 BK406; have hcz22_1 := zc21 BK406; have hfz22_0 := blk_frozen BK406.out 0; have hfz22_1 := blk_frozen BK406.out 1; have p407 : 0 ≤ (a1 : Int) := odt; have q407 : a1 < (l0_1.length : Int) := odt; obtain ⟨ad407, e407, hx407_0⟩ := Kd.at_int HR0_1.out a1 p407 q407; cases e407; replace hx407_0 := (HB.out.cell (World.block_lt_of_cell? w _ hx407_0)).trans hx407_0; replace p407 := eq_true p407; replace q407 := eq_true q407) | ((with_reducible refine gate_callee (f := 149) rfl ?_); refine gL (some 17) Tryz.func149 #[.int .i64 (rd l0_1 a1), .int .i64 a2] ?_; (with_reducible refine (Y7.calls (rd l0_1 a1) a2 true _ A8.out).mono ?_); rintro e w' ⟨rfl, ⟨nd, rfl⟩⟩; refine ⟨_, rfl, ?_⟩; have p409 : 0 ≤ (a3 : Int) := odt; have q409 : a3 < (l0_1.length : Int) := odt; obtain ⟨ad409, e409, hx409_0⟩ := Kd.at_int HR0_1.out a3 p409 q409; obtain rfl : ad407 = ad409 := (by injection e409); replace hx409_0 := (HB.out.cell (World.block_lt_of_cell? w _ hx409_0)).trans hx409_0; replace p409 := eq_true p409; replace q409 := eq_true q409) | (go_at_call 149; (with_reducible refine (Y7.calls (rd l0_1 a3) a4 false _ A12.out).mono ?_); rintro e w' ⟨rfl, ⟨nd, rfl⟩⟩))
   go_ret
   exact ⟨eE, bq⟩
 ·replace c9 := Bool.eq_false_iff.mpr c9
  subst c9
  have H1 : (some false) = some r := by rw [if_neg (show ¬ (false = true) by decide)] at H; exact H
  clear H
  have H := H1
  clear H1
  obtain rfl := Option.some.inj H
  go_enter Tryz.func238, Tryz.ntmps238
  go_wp2_with (first | ((with_reducible refine gate_dst (N := 5) rfl ?_); refine bF 5 26 #[.int .i64 a0_0, .slice A0_1 l0_1.length c0_1] bq ?_; intro gb406 w23 hg hb _ _ _ _; clear HB; rename_i HB BK406 GW406 GE406; clear hb hg; have hcz24_0 := zc20 BK406; have hcz24_1 := zc21 BK406; have hfz24_0 := blk_frozen BK406.out 0; have hfz24_1 := blk_frozen BK406.out 1; have p407 : 0 ≤ (a1 : Int) := odt; have q407 : a1 < (l0_1.length : Int) := odt; obtain ⟨ad407, e407, hx407_0⟩ := Kd.at_int HR0_1.out a1 p407 q407; cases e407; replace hx407_0 := (HB.out.cell (World.block_lt_of_cell? w _ hx407_0)).trans hx407_0; replace p407 := eq_true p407; replace q407 := eq_true q407) | ((with_reducible refine gate_callee (f := 149) rfl ?_); refine gL (some 17) Tryz.func149 #[.int .i64 (rd l0_1 a1), .int .i64 a2] ?_; (with_reducible refine (Y7.calls (rd l0_1 a1) a2 false _ A8.out).mono ?_); rintro e w' ⟨rfl, ⟨nd, rfl⟩⟩; refine ⟨_, rfl, ?_⟩))
  go_ret
  exact ⟨eE, bq⟩
end Go.Proofs.YtjmmleofnjcjoaaGreatDoor.Du
