-- Written by hook.py (wip/), over the kit's print.py.
import Derived.Test.YtcodionjhcmfhaaGreatDoorOa2
import Derived.Test.YtcodionjhcmfhaaGreatDoorOa9
import Derived.Test.YtcodionjhcmfhaaGreatDoorOa14
import Derived.Test.YtcodionjhcmfhaaGreatDoorOaXSq
namespace Go.Proofs.YtcodionjhcmfhaaGreatDoor.Oa
open Go.RowKit Go.Proofs.YtcodionjhcmfhaaGreatDoorW.PrintWords Go.Proofs.YtcodionjhcmfhaaGreatDoorW.PrintLast Go.Proofs.YtcodionjhcmfhaaGreatDoorW.PrintMore Go.Proofs.YtcodionjhcmfhaaGreatDoor.Sq
attribute [local go_sem] max2_int min2_int max_two min_two max_three min_three max_four min_four
set_option linter.unusedVariables false
set_option linter.unusedSimpArgs false
set_option maxHeartbeats 8000000
set_option maxRecDepth 100000
def Y34.l0 : Nat → List Int → Int → Int → List (List Int) → Option ((List (List Int)))
 | 0, _, _, _, _ => none
 | k + 1, x7, x8, x9, x334000 => if x9 < x8 then (if 0 ≤ x9 then (if x9 < (x7.length : Int) then ((Y16.f k x334000 (rd x7 x9)).bind fun t335 => (Y34.l0 k x7 x8 (wrap64 (x9 + 1)) t335)) else (none)) else (none)) else (some x334000)
def Y34.f (k : Nat) (l0 : List Int) : Option ((List (List Int))) := Y34.l0 k l0 (l0.length : Int) 0 ([] : List (List Int))
theorem Y34.calls (k : Nat) (A0 : Option Addr) (c0 : Nat) (l0 : List Int) (r : List (List Int)) (w : World) (hr0 : Kd.C (Kd.int .i64) w A0 l0.length l0) (hc0 : l0.length ≤ c0) (h : Y34.f k l0 = some r) :
  Calls Tryz.prog 84 #[.slice A0 l0.length c0] w fun e w' => ∃ v0_ : Value, e = .returned (.agg #[v0_]) ∧ Kd.S (Kd.slice 3 (Kd.int .i64)) 24 w' w.heap.size (fun _ => True) v0_ r ∧ Below w.heap.size w w' := by
 have hu30 := Tryz.underlying30
 have HR0 := aM hr0
 have HC0 := aM hc0
 clear hr0 hc0
 have HB := aM (Below.refl w.heap.size w)
 have H : (Y34.l0 k l0 (l0.length : Int) 0 ([] : List (List Int))) = some r := h
 clear h
 have H' := aM H
 clear H
 go_enter Tryz.func84, Tryz.ntmps84
 go_wp2_with (first | ((with_reducible refine gate_dst (N := 2) rfl ?_); refine bF 2 30 #[.slice none 0 0] bq ?_; intro gb332 w2 hg hb _ _ _ _; clear HB; rename_i HB BK332 GW332 GE332; clear hb hg) | ((with_reducible refine gate_dst (N := 3) rfl ?_); refine bE 3 30 #[.slice none 0 0] ?_; intro gb333 hg w3 hbox hb; have _ := bK BK332 hb; have _ := bB hb; have _ := aM (hbox); have _ := aM ((gS hg)); have _ := aM ((gS hg)); have _ := aM (nL hg BK332); have _ := aM (nG hg BK332); clear BK332 HB; rename_i BK332 HB BK333 GW333 GE333 NB332_333 NB333_332; clear hb hbox hg; have hnb4 := NB333_332.out; have hnc4 := NB332_333.out; have hcz5_0 := zc10 BK333; have hfz5_0 := blk_frozen BK333.out 0))
 go_loopg [9] k (fun kq v9 w' => ∃ (x9_1 : Int) (x334000_1 : List (List Int)) (u334000 : Value), v9 = .int .i64 x9_1 ∧ Aside0 (Y34.l0 kq l0 (l0.length : Int) x9_1 x334000_1 = some r) ∧ Aside0 (kq ≤ k) ∧ Aside0 (Kd.S (Kd.slice 3 (Kd.int .i64)) 24 w' w.heap.size (fun _ => True) u334000 x334000_1) ∧ Aside0 (w'.heap[gb332]? = some (.cells #[(.slice none 0 0)] 30 (0, 0))) ∧ Aside0 (w'.heap[gb333]? = some (.cells #[u334000] 30 (0, 0))) ∧ Aside0 (Below w.heap.size w w'))
 case atStart => exact ⟨(0), (([] : List (List Int))), (.slice none 0 0), eR, H', ⟨Nat.le_refl _⟩, ⟨by first | exact Kd.S_nil _ _ _ _ _ | exact Kd.N_nil _ _ _ _ _ | exact Kd.V_nil _ _ _ _ _ | exact Kd.Q_nil _ _ _ _ _ | exact Kd.R_nil _ _ _ _ _⟩, ⟨by (with_reducible repeat first|apply qN|apply qD|apply qA); refine blk_far ?_ NB332_333.out _; (with_reducible repeat first|apply qN|apply qD|apply qA); exact BK332.out⟩, ⟨by (with_reducible repeat first|apply qN|apply qD|apply qA); refine blk_put (cs := #[.slice none 0 0]) ?_ 0 _ rfl; (with_reducible repeat first|apply qN|apply qD|apply qA); exact BK333.out⟩, ⟨bq⟩⟩
 case round =>
  clear H'
  try clear hcz5_0
  try clear hfz5_0
  obtain ⟨x9_1, x334000_1, u334000, rfl, HA, HK1, HO_334000, BK332, BK333, HB⟩ := hrel
  cases gk with
  | zero => exact absurd HA.out (by simp [Y34.l0])
  | succ k1 =>
   have H := HA.out
   clear HA
   simp only [Y34.l0] at H
   by_cases c6 : x9_1 < (l0.length : Int)
   ·rw [if_pos c6] at H
    have c6b0 := decide_eq_true c6
    clear c6
    replace H := iD2 H
    obtain ⟨c7b0, c8b0, H⟩ := H
    replace H := bS H
    obtain ⟨t335, A9, H⟩ := H
    try dsimp only at H
    have H' := aM H
    clear H
    have p334 : 0 ≤ (x9_1 : Int) := odt
    have q334 : x9_1 < (l0.length : Int) := odt
    obtain ⟨ad334, e334, hx334_0⟩ := Kd.at_int HR0.out x9_1 p334 q334
    cases e334
    replace hx334_0 := (HB.out.cell (World.block_lt_of_cell? w _ hx334_0)).trans hx334_0
    replace p334 := eq_true p334
    replace q334 := eq_true q334
    have hnb10 := NB333_332.out
    have hnc10 := NB332_333.out
    have hcz11_0 := zc10 BK333
    have hfz11_0 := blk_frozen BK333.out 0
    obtain ⟨Ao12, co12, eo12⟩ := Kd.S_slice HO_334000.out
    subst eo12
    go_wp2_with (first | ((with_reducible refine gate_callee (f := 115) rfl ?_); refine gL (some 15) Tryz.func115 #[.agg #[.slice Ao12 x334000_1.length co12], .int .i64 (rd l0 x9_1)] ?_; (with_reducible refine (Y16.calls k1 _ _ x334000_1 (rd l0 x9_1) t335 _ (cQ ((Kd.S_reads' HO_334000.out).2.2)) ((Kd.S_reads' HO_334000.out).2.1) A9.out).mono ?_); rintro e w13 ⟨v336, rfl, ho0, hb⟩; refine ⟨_, rfl, ?_⟩; have _ := aM (Kd.S_elder' (sQ HO_334000) (Kd.S_base ho0) hb); have _ := aM (Kd.S_lower (Kd.S_new' ho0 (Kd.S_lt (sQ HO_334000))) (below_size bq)); have _ := bK BK332 hb; have _ := bK BK333 hb; have _ := bB hb; clear HO_334000 BK332 BK333 HB; rename_i HO_334000 HO337 BK332 BK333 HB; (try clear hb); (try clear ho0); obtain ⟨Ao14, co14, eo14⟩ := Kd.S_slice HO337.out; subst eo14; have hcz15_0 := zc10 BK333; have hfz15_0 := blk_frozen BK333.out 0))
    go_roundg k1
    case measure => have := HK1.out; omega
    case rel => exact ⟨(wrap64 (x9_1 + 1)), (t335), (.slice Ao14 t335.length co14), eR, H', ⟨by have := HK1.out; omega⟩, ⟨by (with_reducible repeat first|apply sA|apply sN|apply sD); exact Kd.S_mono (Kd.S_far (p := ⟨gb333, 0, none⟩) (Kd.S_types HO337.out BK333.out (by decide)) (fun _ hk => hk.2) (.slice Ao14 t335.length co14)) (fun _ hk => trivial)⟩, ⟨by (with_reducible repeat first|apply qN|apply qD|apply qA); refine blk_far ?_ NB332_333.out _; (with_reducible repeat first|apply qN|apply qD|apply qA); exact BK332.out⟩, ⟨by (with_reducible repeat first|apply qN|apply qD|apply qA); refine blk_put (cs := #[.slice Ao12 x334000_1.length co12]) ?_ 0 _ rfl; (with_reducible repeat first|apply qN|apply qD|apply qA); exact BK333.out⟩, ⟨bq⟩⟩
   ·rw [if_neg c6] at H
    have c6b0 := decide_eq_false c6
    clear c6
    obtain rfl := Option.some.inj H
    have hnb16 := NB333_332.out
    have hnc16 := NB332_333.out
    have hcz17_0 := zc10 BK333
    have hfz17_0 := blk_frozen BK333.out 0
    obtain ⟨Ao18, co18, eo18⟩ := Kd.S_slice HO_334000.out
    subst eo18
    have hcz19_0 := zc10 BK332
    have hfz19_0 := blk_frozen BK332.out 0
    go_wp2
    refine bodyPost_ret (results_cell_row rfl _ _ gb332 30 #[.slice Ao18 x334000_1.length co18] (0, 0) _ rfl (by (with_reducible repeat first|apply qN|apply qD|apply qA); refine blk_put (cs := #[.slice none 0 0]) ?_ 0 _ rfl; (with_reducible repeat first|apply qN|apply qD|apply qA); exact BK332.out) Tryz.underlying30 rfl (by kernel_rfl)) rfl ?_
    exact ⟨_, eE, by (with_reducible repeat first|apply sA|apply sN|apply sD); exact Kd.S_mono (Kd.S_far (p := ⟨gb332, 0, none⟩) (Kd.S_types HO_334000.out BK332.out (by decide)) (fun _ hk => hk.2) (.slice Ao18 x334000_1.length co18)) (fun _ hk => trivial), bq⟩
def Y73.f (s0_0 : List Int) (s0_1 : Int) (s0_2 : Int) (l1 : List Int) : Option (Int × Int × Int) := (Y10.f s0_0 s0_1 s0_2 (l1.length : Int)).bind fun bt338 => (if 0 ≤ bt338.1 then (if bt338.1 < (l1.length : Int) then (some (rd l1 bt338.1, bt338.2.1, bt338.2.2)) else (none)) else (none))
theorem Y73.calls (g : Nat) (s0_0 : List Int) (s0_1 : Int) (s0_2 : Int) (A1 : Option Addr) (c1 : Nat) (l1 : List Int) (r1 : Int) (r2 : Int) (r3 : Int) (w0 w : World) (hI : IsS58 w0 w g s0_0 s0_1 s0_2) (hB : Below w0.heap.size w0 w) (hr1 : Kd.C (Kd.int .i64) w A1 l1.length l1) (hc1 : l1.length ≤ c1) (hf1 : ∀ ad, A1 = some ad → 0 < l1.length → ad.block ≠ g) (h : Y73.f s0_0 s0_1 s0_2 l1 = some (r1, r2, r3)) :
  Calls Tryz.prog 86 #[.pointer (some ⟨g, 0, none⟩), .slice A1 l1.length c1] w fun e w' => e = .returned (.int .i64 r1) ∧ IsS58 w0 w' g s0_0 r2 r3 ∧ Below w0.heap.size w0 w' ∧ KeepBut w w' g none := by
 have HR1 := aM hr1
 have HC1 := aM hc1
 clear hr1 hc1
 have HI0 := aM hI
 have HK := aM (KeepBut.refl w g none)
 have HL := aM hB.size
 clear hI
 have HW0 := aM hB.size
 have HB := aM hB
 clear hB
 unfold Y73.f at h
 have H := h
 clear h
 replace H := bS H
 obtain ⟨⟨t338, t339, t340⟩, A3, H⟩ := H
 try dsimp only at H
 replace H := iD2 H
 obtain ⟨c4b0, c5b0, H⟩ := H
 simp only [Option.some.injEq, Prod.mk.injEq] at H
 obtain ⟨rfl, rfl, rfl⟩ := H
 go_enter Tryz.func86, Tryz.ntmps86
 go_wp2_with (first | ((with_reducible refine gate_callee (f := 85) rfl ?_); refine gL (some 9) Tryz.func85 #[.pointer (some ⟨g, 0, none⟩), .int .i64 (l1.length : Int)] ?_; (with_reducible refine (Y10.calls g s0_0 s0_1 s0_2 (l1.length : Int) t338 t339 t340 w0 _ ?side1 ?side2 A3.out).mono ?_); (case side1 => exact iI); (case side2 => exact bI); rintro e w6 ⟨rfl, hi, hb, hk⟩; refine ⟨_, rfl, ?_⟩; have _ := aM (KeepBut.trans (kI (w := w)) hk (.inl rfl)); have _ := aM (hb); have _ := aM (hi); clear HK HB HI0; rename_i HK HB HI0; (try clear hb); (try clear hk); (try clear hi); have p341 : 0 ≤ (t338 : Int) := odt; have q341 : t338 < (l1.length : Int) := odt; obtain ⟨ad341, e341, hx341_0⟩ := Kd.at_int HR1.out t338 p341 q341; cases e341; replace hx341_0 := keep_cell HK.out hx341_0 (by first | (rw [add_block]; exact hf1 _ rfl (by omega)) | exact hf1 _ rfl (by omega) | exact hf1 ad341 rfl (by omega)); replace p341 := eq_true p341; replace q341 := eq_true q341))
 go_ret
 exact ⟨eE, iI, bI, kI⟩
end Go.Proofs.YtcodionjhcmfhaaGreatDoor.Oa
