-- Written by hook.py, a program of this session (wip/), which runs the kit's print.py with its own parts; Lean checks it.
import Derived.Test.YtcodionjhcmfhaaGreatDoorAx0
import Derived.Test.YtcodionjhcmfhaaGreatDoorAx8
import Derived.Test.YtcodionjhcmfhaaGreatDoorAx13
import Derived.Test.YtcodionjhcmfhaaGreatDoorAxXSq
namespace Go.Proofs.YtcodionjhcmfhaaGreatDoor.Ax
open Go.RowKit Go.Proofs.YtcodionjhcmfhaaGreatDoorW.PrintWords Go.Proofs.YtcodionjhcmfhaaGreatDoorW.PrintLast Go.Proofs.YtcodionjhcmfhaaGreatDoorW.PrintMore Go.Proofs.YtcodionjhcmfhaaGreatDoor.Sq
attribute [local go_sem] max2_int min2_int max_two min_two max_three min_three max_four min_four   -- for this text's walks alone
set_option linter.unusedVariables false
set_option linter.unusedSimpArgs false

def spec_maOf.l0 : Nat → List Int → Int → Int → List (List Int) → Option ((List (List Int)))
 | 0, _, _, _, _ => none
 | k + 1, x7, x8, x9, x322000 => if x9 < x8 then (if 0 ≤ x9 then (if x9 < (x7.length : Int) then ((spec_maGrow.f k x322000 (rd x7 x9)).bind fun t323 => (spec_maOf.l0 k x7 x8 (wrap64 (x9 + 1)) t323)) else (none)) else (none)) else (some x322000)
def spec_maOf.f (k : Nat) (l0 : List Int) : Option ((List (List Int))) := spec_maOf.l0 k l0 (l0.length : Int) 0 ([] : List (List Int))
set_option maxHeartbeats 8000000 in
set_option maxRecDepth 100000 in
theorem spec_maOf.calls (k : Nat) (A0 : Option Addr) (c0 : Nat) (l0 : List Int) (r : List (List Int)) (w : World) (hr0 : Kd.C (Kd.int .i64) w A0 l0.length l0) (hc0 : l0.length ≤ c0) (h : spec_maOf.f k l0 = some r) :
  Calls Tryz.prog 84 #[.slice A0 l0.length c0] w fun e w' => ∃ v0_ : Value, e = .returned (.agg #[v0_]) ∧ Kd.S (Kd.slice 3 (Kd.int .i64)) 24 w' w.heap.size (fun _ => True) v0_ r ∧ Below w.heap.size w w' := by
 have hu30 := Tryz.underlying30
 have HR0 := aM hr0
 have HC0 := aM hc0
 clear hr0 hc0
 have HB := aM (Below.refl w.heap.size w)
 have H : (spec_maOf.l0 k l0 (l0.length : Int) 0 ([] : List (List Int))) = some r := h
 clear h
 have H' := aM H
 clear H
 go_enter Tryz.func84, Tryz.ntmps84
 go_wp2_with (first | ((with_reducible refine gate_dst (N := 2) rfl ?_); refine bE 2 30 #[.slice none 0 0] ?_; intro gb320 hg w2 hbox hb; have _ := aM (below_step bq hb); have _ := aM (hbox); have _ := aM ((gS hg)); have _ := aM ((gS hg)); clear HB; rename_i HB BK320 GW320 GE320; clear hb hbox hg) | ((with_reducible refine gate_dst (N := 3) rfl ?_); refine bE 3 30 #[.slice none 0 0] ?_; intro gb321 hg w3 hbox hb; have _ := aM (blk_below (qQ BK320) hb); have _ := aM (below_step bq hb); have _ := aM (hbox); have _ := aM ((gS hg)); have _ := aM ((gS hg)); have _ := aM ((by rw [hg]; exact Nat.ne_of_lt (blk_lt (g := gb320) (o := .cells #[.slice none 0 0] 30 (0, 0)) (qQ BK320)) : gb320 ≠ gb321)); have _ := aM ((by rw [hg]; exact Nat.ne_of_gt (blk_lt (g := gb320) (o := .cells #[.slice none 0 0] 30 (0, 0)) (qQ BK320)) : gb321 ≠ gb320)); clear BK320 HB; rename_i BK320 HB BK321 GW321 GE321 NB320_321 NB321_320; clear hb hbox hg; have hnb4 := NB321_320.out; have hnc4 := NB320_321.out; have hcz5_0 := c10 BK321; have hfz5_0 := blk_frozen BK321.out 0))
 go_loopg [9] k (fun kq v9 w' => ∃ (x9_1 : Int) (x322000_1 : List (List Int)) (u322000 : Value), v9 = .int .i64 x9_1 ∧ Aside0 (spec_maOf.l0 kq l0 (l0.length : Int) x9_1 x322000_1 = some r) ∧ Aside0 (kq ≤ k) ∧ Aside0 (Kd.S (Kd.slice 3 (Kd.int .i64)) 24 w' w.heap.size (fun _ => True) u322000 x322000_1) ∧ Aside0 (w'.heap[gb320]? = some (.cells #[(.slice none 0 0)] 30 (0, 0))) ∧ Aside0 (w'.heap[gb321]? = some (.cells #[u322000] 30 (0, 0))) ∧ Aside0 (Below w.heap.size w w'))
 case atStart => exact ⟨(0), (([] : List (List Int))), (.slice none 0 0), eR, H', ⟨Nat.le_refl _⟩, ⟨by first | exact Kd.S_nil _ _ _ _ _ | exact Kd.N_nil _ _ _ _ _ | exact Kd.V_nil _ _ _ _ _ | exact Kd.Q_nil _ _ _ _ _ | exact Kd.R_nil _ _ _ _ _⟩, ⟨by (with_reducible repeat first|apply qN|apply qD|apply qA); refine blk_far ?_ NB320_321.out _; (with_reducible repeat first|apply qN|apply qD|apply qA); exact BK320.out⟩, ⟨by (with_reducible repeat first|apply qN|apply qD|apply qA); refine blk_put (cs := #[.slice none 0 0]) ?_ 0 _ rfl; (with_reducible repeat first|apply qN|apply qD|apply qA); exact BK321.out⟩, ⟨bq⟩⟩
 case round =>
  clear H'
  try clear p2
  try clear c4
  try clear hcz5_0
  try clear hfz5_0
  obtain ⟨x9_1, x322000_1, u322000, rfl, HA, HK1, HO_322000, BK320, BK321, HB⟩ := hrel
  cases gk with
  | zero => exact absurd HA.out (by simp [spec_maOf.l0])
  | succ k1 =>
   have H := HA.out
   clear HA
   simp only [spec_maOf.l0] at H
   by_cases c6 : x9_1 < (l0.length : Int)
   ·rw [if_pos c6] at H
    have c6b0 := decide_eq_true c6
    clear c6
    replace H := iD2 H
    obtain ⟨c7b0, c8b0, H⟩ := H
    replace H := bS H
    obtain ⟨t323, A9, H⟩ := H
    try dsimp only at H
    have H' := aM H
    clear H
    have p322 : 0 ≤ (x9_1 : Int) := odt
    have q322 : x9_1 < (l0.length : Int) := odt
    obtain ⟨ad322, e322, hx322_0⟩ := Kd.at_int HR0.out x9_1 p322 q322
    cases e322
    replace hx322_0 := (HB.out.cell (World.block_lt_of_cell? w _ hx322_0)).trans hx322_0
    replace p322 := eq_true p322
    replace q322 := eq_true q322
    have hnb10 := NB321_320.out
    have hnc10 := NB320_321.out
    have hcz11_0 := c10 BK321
    have hfz11_0 := blk_frozen BK321.out 0
    obtain ⟨Ao12, co12, eo12⟩ := Kd.S_slice HO_322000.out
    subst eo12
    go_wp2_with (first | ((with_reducible refine gate_callee (f := 115) rfl ?_); refine gL (some 15) Tryz.func115 #[.agg #[.slice Ao12 x322000_1.length co12], .int .i64 (rd l0 x9_1)] ?_; (with_reducible refine (spec_maGrow.calls k1 _ _ x322000_1 (rd l0 x9_1) t323 _ (cQ ((Kd.S_reads' HO_322000.out).2.2)) ((Kd.S_reads' HO_322000.out).2.1) A9.out).mono ?_); rintro e w13 ⟨v324, rfl, ho0, hb⟩; refine ⟨_, rfl, ?_⟩; have _ := aM (Kd.S_elder' (sQ HO_322000) (Kd.S_base ho0) hb); have _ := aM (Kd.S_lower (Kd.S_new' ho0 (Kd.S_lt (sQ HO_322000))) (below_size bq)); have _ := aM (blk_below (qQ BK320) hb); have _ := aM (blk_below (qQ BK321) hb); have _ := aM (below_step bq hb); clear HO_322000 BK320 BK321 HB; rename_i HO_322000 HO325 BK320 BK321 HB; (try clear hb); (try clear hb2); (try clear hk); (try clear hi); (try clear ho0); obtain ⟨Ao14, co14, eo14⟩ := Kd.S_slice HO325.out; subst eo14; have hcz15_0 := c10 BK321; have hfz15_0 := blk_frozen BK321.out 0))
    go_roundg k1
    case measure => have := HK1.out; omega
    case rel => exact ⟨(wrap64 (x9_1 + 1)), (t323), (.slice Ao14 t323.length co14), eR, H', ⟨by have := HK1.out; omega⟩, ⟨by (with_reducible repeat first|apply sA|apply sN|apply sD); exact Kd.S_mono (Kd.S_far (p := ⟨gb321, 0, none⟩) (Kd.S_types HO325.out BK321.out (by decide)) (fun _ hk => hk.2) (.slice Ao14 t323.length co14)) (fun _ hk => trivial)⟩, ⟨by (with_reducible repeat first|apply qN|apply qD|apply qA); refine blk_far ?_ NB320_321.out _; (with_reducible repeat first|apply qN|apply qD|apply qA); exact BK320.out⟩, ⟨by (with_reducible repeat first|apply qN|apply qD|apply qA); refine blk_put (cs := #[.slice Ao12 x322000_1.length co12]) ?_ 0 _ rfl; (with_reducible repeat first|apply qN|apply qD|apply qA); exact BK321.out⟩, ⟨bq⟩⟩
   ·rw [if_neg c6] at H
    have c6b0 := decide_eq_false c6
    clear c6
    obtain rfl := Option.some.inj H
    have hnb16 := NB321_320.out
    have hnc16 := NB320_321.out
    have hcz17_0 := c10 BK321
    have hfz17_0 := blk_frozen BK321.out 0
    obtain ⟨Ao18, co18, eo18⟩ := Kd.S_slice HO_322000.out
    subst eo18
    have hcz19_0 := c10 BK320
    have hfz19_0 := blk_frozen BK320.out 0
    go_wp2
    refine bodyPost_ret (results_cell_row rfl _ _ gb320 30 #[.slice Ao18 x322000_1.length co18] (0, 0) _ rfl (by (with_reducible repeat first|apply qN|apply qD|apply qA); refine blk_put (cs := #[.slice none 0 0]) ?_ 0 _ rfl; (with_reducible repeat first|apply qN|apply qD|apply qA); exact BK320.out) Tryz.underlying30 rfl (by kernel_rfl)) rfl ?_
    exact ⟨_, eE, by (with_reducible repeat first|apply sA|apply sN|apply sD); exact Kd.S_mono (Kd.S_far (p := ⟨gb320, 0, none⟩) (Kd.S_types HO_322000.out BK320.out (by decide)) (fun _ hk => hk.2) (.slice Ao18 x322000_1.length co18)) (fun _ hk => trivial), bq⟩

def spec_l1Cur_among.f (s0_0 : List Int) (s0_1 : Int) (s0_2 : Int) (l1 : List Int) : Option (Int × Int × Int) := (spec_l1Cur_pick.f s0_0 s0_1 s0_2 (l1.length : Int)).bind fun bt326 => (if 0 ≤ bt326.1 then (if bt326.1 < (l1.length : Int) then (some (rd l1 bt326.1, bt326.2.1, bt326.2.2)) else (none)) else (none))
set_option maxHeartbeats 8000000 in
set_option maxRecDepth 100000 in
theorem spec_l1Cur_among.calls (g : Nat) (s0_0 : List Int) (s0_1 : Int) (s0_2 : Int) (A1 : Option Addr) (c1 : Nat) (l1 : List Int) (r1 : Int) (r2 : Int) (r3 : Int) (w0 w : World) (hI : IsS58 w0 w g s0_0 s0_1 s0_2) (hB : Below w0.heap.size w0 w) (hr1 : Kd.C (Kd.int .i64) w A1 l1.length l1) (hc1 : l1.length ≤ c1) (hf1 : ∀ ad, A1 = some ad → 0 < l1.length → ad.block ≠ g) (h : spec_l1Cur_among.f s0_0 s0_1 s0_2 l1 = some (r1, r2, r3)) :
  Calls Tryz.prog 86 #[.pointer (some ⟨g, 0, none⟩), .slice A1 l1.length c1] w fun e w' => e = .returned (.int .i64 r1) ∧ IsS58 w0 w' g s0_0 r2 r3 ∧ Below w0.heap.size w0 w' ∧ KeepBut w w' g none := by
 have HR1 := aM hr1
 have HC1 := aM hc1
 clear hr1 hc1
 have HI0 := aM hI
 have HK := aM (KeepBut.refl w g none)
 have HL := aM hB.size
 clear hI
 have HW0 := aM hB.size
 have HB := aM hB
 clear hB
 have H : ((spec_l1Cur_pick.f s0_0 s0_1 s0_2 (l1.length : Int)).bind fun bt326 => (if 0 ≤ bt326.1 then (if bt326.1 < (l1.length : Int) then (some (rd l1 bt326.1, bt326.2.1, bt326.2.2)) else (none)) else (none))) = some (r1, r2, r3) := h
 clear h
 replace H := bS H
 obtain ⟨⟨t326, t327, t328⟩, A3, H⟩ := H
 try dsimp only at H
 replace H := iD2 H
 obtain ⟨c4b0, c5b0, H⟩ := H
 simp only [Option.some.injEq, Prod.mk.injEq] at H
 obtain ⟨rfl, rfl, rfl⟩ := H
 go_enter Tryz.func86, Tryz.ntmps86
 go_wp2_with (first | ((with_reducible refine gate_callee (f := 85) rfl ?_); refine gL (some 9) Tryz.func85 #[.pointer (some ⟨g, 0, none⟩), .int .i64 (l1.length : Int)] ?_; (with_reducible refine (spec_l1Cur_pick.calls g s0_0 s0_1 s0_2 (l1.length : Int) t326 t327 t328 w0 _ ?side1 ?side2 A3.out).mono ?_); (case side1 => repeat (first | (with_reducible first | exact HI0.out | apply IsS58.alloc | apply IsS58.drewN | apply IsS58.drew | apply IsS58.set_1 | apply IsS58.set_2) | exact HI0.out)); (case side2 => repeat (first | (with_reducible first | exact HB.out | apply bA | apply bN | apply bD | refine below_set ?_ (IsS58.ge HI0.out)) | exact HB.out)); rintro e w6 ⟨rfl, hi, hb, hk⟩; refine ⟨_, rfl, ?_⟩; have _ := aM (KeepBut.trans (by repeat (first | (with_reducible first | exact HK.out | apply KeepBut.set_ | apply keep_drewN | apply keep_drew | apply keep_alloc) | exact HK.out)) hk (.inl rfl)); have _ := aM (hb); have _ := aM (hi); clear HK HB HI0; rename_i HK HB HI0; (try clear hb); (try clear hb2); (try clear hk); (try clear hi); have p329 : 0 ≤ (t326 : Int) := odt; have q329 : t326 < (l1.length : Int) := odt; obtain ⟨ad329, e329, hx329_0⟩ := Kd.at_int HR1.out t326 p329 q329; cases e329; replace hx329_0 := keep_cell HK.out hx329_0 (by first | (rw [add_block]; exact hf1 _ rfl (by omega)) | exact hf1 _ rfl (by omega) | exact hf1 ad329 rfl (by omega)); replace p329 := eq_true p329; replace q329 := eq_true q329))
 go_ret
 exact ⟨eE, by repeat (first | (with_reducible first | exact HI0.out | apply IsS58.alloc | apply IsS58.drewN | apply IsS58.drew | apply IsS58.set_1 | apply IsS58.set_2) | exact HI0.out), by repeat (first | (with_reducible first | exact HB.out | apply bA | apply bN | apply bD | refine below_set ?_ (IsS58.ge HI0.out)) | exact HB.out), by repeat (first | (with_reducible first | exact HK.out | apply KeepBut.set_ | apply keep_drewN | apply keep_drew | apply keep_alloc) | exact HK.out)⟩

end Go.Proofs.YtcodionjhcmfhaaGreatDoor.Ax
