-- Written by hook.py, a program of this session (wip/), which runs the kit's print.py with its own parts; Lean checks it.
import Derived.Test.YtacdlipojhoilaaZx0
import Derived.Test.YtacdlipojhoilaaZx9
import Derived.Test.YtacdlipojhoilaaZx13
import Derived.Test.YtacdlipojhoilaaZxXSq
namespace Go.Proofs.Ytacdlipojhoilaa.Zx
open Go.RowKit Go.Proofs.YtacdlipojhoilaaW.PrintWords Go.Proofs.YtacdlipojhoilaaW.PrintLast Go.Proofs.YtacdlipojhoilaaW.PrintMore Go.Proofs.Ytacdlipojhoilaa.Sq
attribute [local go_sem] max2_int min2_int max_two min_two max_three min_three max_four min_four   -- for this text's walks alone
set_option linter.unusedVariables false
set_option linter.unusedSimpArgs false

def spec_maOf.l0 : Nat → List Int → Int → Int → List (List Int) → Option ((List (List Int)))
 | 0, _, _, _, _ => none
 | k + 1, x7, x8, x9, x364000 => if x9 < x8 then (if 0 ≤ x9 then (if x9 < (x7.length : Int) then ((spec_maGrow.f k x364000 (rd x7 x9)).bind fun t365 => (spec_maOf.l0 k x7 x8 (wrap64 (x9 + 1)) t365)) else (none)) else (none)) else (some x364000)
def spec_maOf.f (k : Nat) (l0 : List Int) : Option ((List (List Int))) := spec_maOf.l0 k l0 (l0.length : Int) 0 ([] : List (List Int))
theorem spec_maOf.mono_l : ∀ k, (∀ y0 y1 y2 y3, LeO (spec_maOf.l0 k y0 y1 y2 y3) (spec_maOf.l0 (k + 1) y0 y1 y2 y3))
 | 0 => fun _ _ _ _ r h => by simp [spec_maOf.l0] at h
 | k + 1 => by
  have ih0 := spec_maOf.mono_l k
  ·intro y0 y1 y2 y3
   unfold spec_maOf.l0
   repeat' first | with_reducible first | exact ih0 _ _ _ _ | exact spec_maGrow.mono _ _ _ | exact LeO.refl _ | exact LeO.none _ | refine LeO.ite ?_ ?_ | refine LeO.bind ?_ (fun _ => ?_)
theorem spec_maOf.mono : ∀ a0 k, LeO (spec_maOf.f k a0) (spec_maOf.f (k + 1) a0) := by
 intro a0 k
 have ih0 := spec_maOf.mono_l k
 unfold spec_maOf.f
 repeat' first | with_reducible first | exact ih0 _ _ _ _ | exact spec_maGrow.mono _ _ _ | exact LeO.refl _ | exact LeO.none _ | refine LeO.ite ?_ ?_ | refine LeO.bind ?_ (fun _ => ?_)
set_option maxHeartbeats 8000000 in
set_option maxRecDepth 100000 in
theorem spec_maOf.calls (k : Nat) (A0 : Option Addr) (c0 : Nat) (l0 : List Int) (r : List (List Int)) (w : World) (hr0 : Kd.C (Kd.int .i64) w A0 l0.length l0) (hc0 : l0.length ≤ c0) (h : spec_maOf.f k l0 = some r) :
  Calls Try.prog 95 #[.slice A0 l0.length c0] w fun e w' => ∃ v0_ : Value, e = .returned (.agg #[v0_]) ∧ Kd.S (Kd.slice 3 (Kd.int .i64)) 24 w' w.heap.size (fun _ => True) v0_ r ∧ Below w.heap.size w w' := by
 have hu36 := Try.underlying36
 have HR0 := aM hr0
 have HC0 := aM hc0
 clear hr0 hc0
 have HB := aM (Below.refl w.heap.size w)
 have H : (spec_maOf.l0 k l0 (l0.length : Int) 0 ([] : List (List Int))) = some r := h
 clear h
 have H' := aM H
 clear H
 go_enter Try.func95, Try.ntmps95
 go_wp2_with (first | ((with_reducible refine gate_dst (N := 2) rfl ?_); refine bE 2 36 #[.slice none 0 0] ?_; intro gb362 hg w2 hbox hb; have _ := aM (below_step bq hb); have _ := aM (hbox); have _ := aM ((gS hg)); have _ := aM ((gS hg)); clear HB; rename_i HB BK362 GW362 GE362; clear hb hbox hg) | ((with_reducible refine gate_dst (N := 3) rfl ?_); refine bE 3 36 #[.slice none 0 0] ?_; intro gb363 hg w3 hbox hb; have _ := aM (blk_below (g := gb362) (o := .cells #[.slice none 0 0] 36 (0, 0)) (qQ BK362) hb); have _ := aM (below_step bq hb); have _ := aM (hbox); have _ := aM ((gS hg)); have _ := aM ((gS hg)); have _ := aM ((by rw [hg]; exact Nat.ne_of_lt (blk_lt (g := gb362) (o := .cells #[.slice none 0 0] 36 (0, 0)) (qQ BK362)) : gb362 ≠ gb363)); have _ := aM ((by rw [hg]; exact Nat.ne_of_gt (blk_lt (g := gb362) (o := .cells #[.slice none 0 0] 36 (0, 0)) (qQ BK362)) : gb363 ≠ gb362)); clear BK362 HB; rename_i BK362 HB BK363 GW363 GE363 NB362_363 NB363_362; clear hb hbox hg; have hnb4 := NB363_362.out; have hnc4 := NB362_363.out; have hcz5_0 : w3.cell? ⟨gb363, 0, none⟩ = some (.slice none 0 0) := (blk_cell BK363.out 0).trans rfl; have hfz5_0 := blk_frozen BK363.out 0))
 go_loopg [9] k (fun kq v9 w' => ∃ (x9_1 : Int) (x364000_1 : List (List Int)) (u364000 : Value), v9 = .int .i64 x9_1 ∧ Aside0 (spec_maOf.l0 kq l0 (l0.length : Int) x9_1 x364000_1 = some r) ∧ Aside0 (kq ≤ k) ∧ Aside0 (Kd.S (Kd.slice 3 (Kd.int .i64)) 24 w' w.heap.size (fun _ => True) u364000 x364000_1) ∧ Aside0 (w'.heap[gb362]? = some (.cells #[(.slice none 0 0)] 36 (0, 0))) ∧ Aside0 (w'.heap[gb363]? = some (.cells #[u364000] 36 (0, 0))) ∧ Aside0 (Below w.heap.size w w'))
 case atStart => exact ⟨(0), (([] : List (List Int))), (.slice none 0 0), (by first | rfl | (simp; done) | (simp [*]; done)), H', ⟨Nat.le_refl _⟩, ⟨by first | exact Kd.S_nil _ _ _ _ _ | exact Kd.N_nil _ _ _ _ _ | exact Kd.V_nil _ _ _ _ _ | exact Kd.Q_nil _ _ _ _ _ | exact Kd.R_nil _ _ _ _ _⟩, ⟨by (with_reducible repeat first|apply qN|apply qD|apply qA); refine blk_far ?_ NB362_363.out _; (with_reducible repeat first|apply qN|apply qD|apply qA); exact BK362.out⟩, ⟨by (with_reducible repeat first|apply qN|apply qD|apply qA); refine blk_put (cs := #[.slice none 0 0]) ?_ 0 _ rfl; (with_reducible repeat first|apply qN|apply qD|apply qA); exact BK363.out⟩, ⟨by exact bq⟩⟩
 case round =>
  clear H'
  try clear p2
  try clear c4
  try clear hcz5_0
  try clear hfz5_0
  obtain ⟨x9_1, x364000_1, u364000, rfl, HA, HK1, HO_364000, BK362, BK363, HB⟩ := hrel
  cases gk with
  | zero => exact absurd HA.out (by simp [spec_maOf.l0])
  | succ k1 =>
   have H := HA.out
   clear HA
   simp only [spec_maOf.l0] at H
   by_cases c6 : x9_1 < (l0.length : Int)
   ·rw [if_pos c6] at H
    have c6b0 : decide (x9_1 < (l0.length : Int)) = true := decide_eq_true c6
    clear c6
    by_cases c7 : 0 ≤ x9_1
    ·rw [if_pos c7] at H
     have c7b0 : decide (0 ≤ x9_1) = true := decide_eq_true c7
     clear c7
     by_cases c8 : x9_1 < (l0.length : Int)
     ·rw [if_pos c8] at H
      have c8b0 : decide (x9_1 < (l0.length : Int)) = true := decide_eq_true c8
      clear c8
      replace H := Option.bind_eq_some_iff.mp H
      obtain ⟨t365, A90, H⟩ := H
      replace H : (spec_maOf.l0 k1 l0 (l0.length : Int) (wrap64 (x9_1 + 1)) t365) = some r := H
      have A9 := aM A90
      clear A90
      have H' := aM H
      clear H
      have p364 : 0 ≤ (x9_1 : Int) := odt
      have q364 : x9_1 < (l0.length : Int) := odt
      obtain ⟨ad364, e364, hx364_0⟩ := Kd.at_int HR0.out x9_1 p364 q364
      cases e364
      replace hx364_0 := (HB.out.cell (World.block_lt_of_cell? w _ hx364_0)).trans hx364_0
      replace p364 := eq_true p364
      replace q364 := eq_true q364
      have hnb10 := NB363_362.out
      have hnc10 := NB362_363.out
      have hcz11_0 : wr.cell? ⟨gb363, 0, none⟩ = some (u364000) := (blk_cell BK363.out 0).trans rfl
      have hfz11_0 := blk_frozen BK363.out 0
      obtain ⟨Ao12, co12, eo12⟩ := Kd.S_slice HO_364000.out
      subst eo12
      go_wp2_with (first | ((with_reducible refine gate_callee (f := 107) rfl ?_); refine gL (some 15) Try.func107 #[.agg #[.slice Ao12 x364000_1.length co12], .int .i64 (rd l0 x9_1)] ?_; (with_reducible refine (spec_maGrow.calls k1 _ _ x364000_1 (rd l0 x9_1) t365 _ (cQ ((Kd.S_reads' HO_364000.out).2.2)) ((Kd.S_reads' HO_364000.out).2.1) A9.out).mono ?_); rintro e w13 ⟨v366, rfl, ho0, hb⟩; refine ⟨_, rfl, ?_⟩; have _ := aM (Kd.S_elder' (sQ HO_364000) (Kd.S_base ho0) hb); have _ := aM (Kd.S_lower (Kd.S_new' ho0 (Kd.S_lt (sQ HO_364000))) (below_size bq)); have _ := aM (blk_below (g := gb362) (o := .cells #[.slice none 0 0] 36 (0, 0)) (qQ BK362) hb); have _ := aM (blk_below (g := gb363) (o := .cells #[.slice Ao12 x364000_1.length co12] 36 (0, 0)) (qQ BK363) hb); have _ := aM (below_step bq hb); clear HO_364000 BK362 BK363 HB; rename_i HO_364000 HO367 BK362 BK363 HB; (try clear hb); (try clear hb2); (try clear hk); (try clear hi); (try clear ho0); obtain ⟨Ao14, co14, eo14⟩ := Kd.S_slice HO367.out; subst eo14; have hcz15_0 : w13.cell? ⟨gb363, 0, none⟩ = some (.slice Ao12 x364000_1.length co12) := (blk_cell BK363.out 0).trans rfl; have hfz15_0 := blk_frozen BK363.out 0))
      go_roundg k1
      case measure => have := HK1.out; omega
      case rel => exact ⟨(wrap64 (x9_1 + 1)), (t365), (.slice Ao14 t365.length co14), (by first | rfl | (simp; done) | (simp [*]; done)), H', ⟨by have := HK1.out; omega⟩, ⟨by (with_reducible repeat first|apply sA|apply sN|apply sD); exact Kd.S_mono (Kd.S_far (p := ⟨gb363, 0, none⟩) (Kd.S_types HO367.out BK363.out (by decide)) (fun _ hk => hk.2) (.slice Ao14 t365.length co14)) (fun _ hk => trivial)⟩, ⟨by (with_reducible repeat first|apply qN|apply qD|apply qA); refine blk_far ?_ NB362_363.out _; (with_reducible repeat first|apply qN|apply qD|apply qA); exact BK362.out⟩, ⟨by (with_reducible repeat first|apply qN|apply qD|apply qA); refine blk_put (cs := #[.slice Ao12 x364000_1.length co12]) ?_ 0 _ rfl; (with_reducible repeat first|apply qN|apply qD|apply qA); exact BK363.out⟩, ⟨by exact bq⟩⟩
     ·rw [if_neg c8] at H
      exact absurd H (by simp)
    ·rw [if_neg c7] at H
     exact absurd H (by simp)
   ·rw [if_neg c6] at H
    have c6b0 : decide (x9_1 < (l0.length : Int)) = false := decide_eq_false c6
    clear c6
    obtain rfl := Option.some.inj H
    have hnb16 := NB363_362.out
    have hnc16 := NB362_363.out
    have hcz17_0 : wr.cell? ⟨gb363, 0, none⟩ = some (u364000) := (blk_cell BK363.out 0).trans rfl
    have hfz17_0 := blk_frozen BK363.out 0
    obtain ⟨Ao18, co18, eo18⟩ := Kd.S_slice HO_364000.out
    subst eo18
    have hcz19_0 : wr.cell? ⟨gb362, 0, none⟩ = some (.slice none 0 0) := (blk_cell BK362.out 0).trans rfl
    have hfz19_0 := blk_frozen BK362.out 0
    go_wp2
    refine bodyPost_ret (results_cell_row rfl _ _ gb362 36 #[.slice Ao18 x364000_1.length co18] (0, 0) _ rfl (by (with_reducible repeat first|apply qN|apply qD|apply qA); refine blk_put (cs := #[.slice none 0 0]) ?_ 0 _ rfl; (with_reducible repeat first|apply qN|apply qD|apply qA); exact BK362.out) Try.underlying36 rfl (by kernel_rfl)) rfl ?_
    exact ⟨_, by first | rfl | (simp [errW_none, errW_some] <;> rfl) | (simp [*, errW_none, errW_some] <;> rfl), by (with_reducible repeat first|apply sA|apply sN|apply sD); exact Kd.S_mono (Kd.S_far (p := ⟨gb362, 0, none⟩) (Kd.S_types HO_364000.out BK362.out (by decide)) (fun _ hk => hk.2) (.slice Ao18 x364000_1.length co18)) (fun _ hk => trivial), by exact bq⟩

def spec_l1Cur_among.f (s0_0 : List Int) (s0_1 : Int) (s0_2 : Int) (l1 : List Int) : Option (Int × Int × Int) := (spec_l1Cur_pick.f s0_0 s0_1 s0_2 (l1.length : Int)).bind fun bt368 => (if 0 ≤ bt368.1 then (if bt368.1 < (l1.length : Int) then (some (rd l1 bt368.1, bt368.2.1, bt368.2.2)) else (none)) else (none))
set_option maxHeartbeats 8000000 in
set_option maxRecDepth 100000 in
theorem spec_l1Cur_among.calls (g : Nat) (s0_0 : List Int) (s0_1 : Int) (s0_2 : Int) (A1 : Option Addr) (c1 : Nat) (l1 : List Int) (r1 : Int) (r2 : Int) (r3 : Int) (w0 w : World) (hI : IsS74 w0 w g s0_0 s0_1 s0_2) (hB : Below w0.heap.size w0 w) (hr1 : Kd.C (Kd.int .i64) w A1 l1.length l1) (hc1 : l1.length ≤ c1) (hf1 : ∀ ad, A1 = some ad → 0 < l1.length → ad.block ≠ g) (h : spec_l1Cur_among.f s0_0 s0_1 s0_2 l1 = some (r1, r2, r3)) :
  Calls Try.prog 118 #[.pointer (some ⟨g, 0, none⟩), .slice A1 l1.length c1] w fun e w' => e = .returned (.int .i64 r1) ∧ IsS74 w0 w' g s0_0 r2 r3 ∧ Below w0.heap.size w0 w' ∧ KeepBut w w' g none := by
 have HR1 := aM hr1
 have HC1 := aM hc1
 clear hr1 hc1
 have HI0 := aM hI
 have HK := aM (KeepBut.refl w g none)
 have HL := aM hB.size
 clear hI
 have HW0 := aM hB.size
 have HB := aM hB
 clear hB
 have H : ((spec_l1Cur_pick.f s0_0 s0_1 s0_2 (l1.length : Int)).bind fun bt368 => (if 0 ≤ bt368.1 then (if bt368.1 < (l1.length : Int) then (some (rd l1 bt368.1, bt368.2.1, bt368.2.2)) else (none)) else (none))) = some (r1, r2, r3) := h
 clear h
 replace H := Option.bind_eq_some_iff.mp H
 obtain ⟨⟨t368, t369, t370⟩, A30, H⟩ := H
 replace H : (if 0 ≤ t368 then (if t368 < (l1.length : Int) then (some (rd l1 t368, t369, t370)) else (none)) else (none)) = some (r1, r2, r3) := H
 have A3 := aM A30
 clear A30
 by_cases c4 : 0 ≤ t368
 ·rw [if_pos c4] at H
  have c4b0 : decide (0 ≤ t368) = true := decide_eq_true c4
  clear c4
  by_cases c5 : t368 < (l1.length : Int)
  ·rw [if_pos c5] at H
   have c5b0 : decide (t368 < (l1.length : Int)) = true := decide_eq_true c5
   clear c5
   simp only [Option.some.injEq, Prod.mk.injEq] at H
   obtain ⟨rfl, rfl, rfl⟩ := H
   go_enter Try.func118, Try.ntmps118
   go_wp2_with (first | ((with_reducible refine gate_callee (f := 102) rfl ?_); refine gL (some 9) Try.func102 #[.pointer (some ⟨g, 0, none⟩), .int .i64 (l1.length : Int)] ?_; (with_reducible refine (spec_l1Cur_pick.calls g s0_0 s0_1 s0_2 (l1.length : Int) t368 t369 t370 w0 _ ?side1 ?side2 A3.out).mono ?_); (case side1 => repeat (first | (with_reducible first | exact HI0.out | apply IsS74.alloc | apply IsS74.drewN | apply IsS74.drew | apply IsS74.set_1 | apply IsS74.set_2) | exact HI0.out)); (case side2 => repeat (first | (with_reducible first | exact HB.out | apply bA | apply bN | apply bD | refine below_set ?_ (IsS74.ge HI0.out)) | exact HB.out)); rintro e w6 ⟨rfl, hi, hb, hk⟩; refine ⟨_, rfl, ?_⟩; have _ := aM (KeepBut.trans (by repeat (first | (with_reducible first | exact HK.out | apply KeepBut.set_ | apply keep_drewN | apply keep_drew | apply keep_alloc) | exact HK.out)) hk (.inl rfl)); have _ := aM (hb); have _ := aM (hi); clear HK HB HI0; rename_i HK HB HI0; (try clear hb); (try clear hb2); (try clear hk); (try clear hi); have p371 : 0 ≤ (t368 : Int) := odt; have q371 : t368 < (l1.length : Int) := odt; obtain ⟨ad371, e371, hx371_0⟩ := Kd.at_int HR1.out t368 p371 q371; cases e371; replace hx371_0 := keep_cell HK.out hx371_0 (by first | (rw [add_block]; exact hf1 _ rfl (by omega)) | exact hf1 _ rfl (by omega) | exact hf1 ad371 rfl (by omega)); replace p371 := eq_true p371; replace q371 := eq_true q371))
   go_ret
   exact ⟨by first | rfl | (simp [errW_none, errW_some] <;> rfl) | (simp [*, errW_none, errW_some] <;> rfl), by repeat (first | (with_reducible first | exact HI0.out | apply IsS74.alloc | apply IsS74.drewN | apply IsS74.drew | apply IsS74.set_1 | apply IsS74.set_2) | exact HI0.out), by repeat (first | (with_reducible first | exact HB.out | apply bA | apply bN | apply bD | refine below_set ?_ (IsS74.ge HI0.out)) | exact HB.out), by repeat (first | (with_reducible first | exact HK.out | apply KeepBut.set_ | apply keep_drewN | apply keep_drew | apply keep_alloc) | exact HK.out)⟩
  ·rw [if_neg c5] at H
   exact absurd H (by simp)
 ·rw [if_neg c4] at H
  exact absurd H (by simp)

def spec_orUpTo.l0 : Nat → Int → List Int → Int → Option (List Int)
 | 0, _, _, _ => none
 | k + 1, x0, x3, x4 => if x4 < x0 then (if x3.length < 17592186044416 then (spec_orUpTo.l0 k x0 (x3 ++ [x4]) (wrap64 (x4 + 1))) else (none)) else (some x3)
def spec_orUpTo.f (k : Nat) (a0 : Int) : Option (List Int) := spec_orUpTo.l0 k a0 ([] : List Int) 0
theorem spec_orUpTo.mono_l : ∀ k, (∀ y0 y1 y2, LeO (spec_orUpTo.l0 k y0 y1 y2) (spec_orUpTo.l0 (k + 1) y0 y1 y2))
 | 0 => fun _ _ _ r h => by simp [spec_orUpTo.l0] at h
 | k + 1 => by
  have ih0 := spec_orUpTo.mono_l k
  ·intro y0 y1 y2
   unfold spec_orUpTo.l0
   repeat' first | with_reducible first | exact ih0 _ _ _ | exact LeO.refl _ | exact LeO.none _ | refine LeO.ite ?_ ?_ | refine LeO.bind ?_ (fun _ => ?_)
theorem spec_orUpTo.mono : ∀ a0 k, LeO (spec_orUpTo.f k a0) (spec_orUpTo.f (k + 1) a0) := by
 intro a0 k
 have ih0 := spec_orUpTo.mono_l k
 unfold spec_orUpTo.f
 repeat' first | with_reducible first | exact ih0 _ _ _ | exact LeO.refl _ | exact LeO.none _ | refine LeO.ite ?_ ?_ | refine LeO.bind ?_ (fun _ => ?_)
set_option maxHeartbeats 8000000 in
set_option maxRecDepth 100000 in
theorem spec_orUpTo.calls (k : Nat) (a0 : Int) (r : List Int) (w : World) (h : spec_orUpTo.f k a0 = some r) :
  Calls Try.prog 140 #[.int .i64 a0] w fun e w' => ∃ v0_ : Value, e = .returned (v0_) ∧ Kd.R (Kd.int .i64) 3 w' w.heap.size (fun _ => True) v0_ r ∧ Below w.heap.size w w' := by
 have HB := aM (Below.refl w.heap.size w)
 have H : (spec_orUpTo.l0 k a0 ([] : List Int) 0) = some r := h
 clear h
 have H' := aM H
 clear H
 go_enter Try.func140, Try.ntmps140
 go_wp2
 go_loopg [3, 4] k (fun kq v3 v4 w' => ∃ (x3_1 : List Int) (x4_1 : Int), v4 = .int .i64 x4_1 ∧ Aside0 (spec_orUpTo.l0 kq a0 x3_1 x4_1 = some r) ∧ Aside0 (kq ≤ k) ∧ Aside0 (Kd.R (Kd.int .i64) 3 w' w.heap.size (fun _ => True) v3 x3_1) ∧ Aside0 (Below w.heap.size w w'))
 case atStart => exact ⟨(([] : List Int)), (0), (by first | rfl | (simp; done) | (simp [*]; done)), H', ⟨Nat.le_refl _⟩, ⟨by first | exact Kd.R_nil _ _ _ _ _ | exact Kd.N_nil _ _ _ _ _ | exact Kd.V_nil _ _ _ _ _ | exact Kd.Q_nil _ _ _ _ _ | exact Kd.S_nil _ _ _ _ _⟩, ⟨by exact bq⟩⟩
 case round =>
  clear H'
  try clear c1
  obtain ⟨x3_1, x4_1, rfl, HA, HK1, HO_3, HB⟩ := hrel
  cases gk with
  | zero => exact absurd HA.out (by simp [spec_orUpTo.l0])
  | succ k1 =>
   have H := HA.out
   clear HA
   simp only [spec_orUpTo.l0] at H
   by_cases c2 : x4_1 < a0
   ·rw [if_pos c2] at H
    have c2b0 : decide (x4_1 < a0) = true := decide_eq_true c2
    clear c2
    by_cases c3 : x3_1.length < 17592186044416
    ·rw [if_pos c3] at H
     have LMc3 := aM c3
     clear c3
     obtain ⟨y372, hy372⟩ : ∃ y_ : List Int, y_ = (x3_1 ++ [x4_1]) := ⟨_, rfl⟩
     replace H : (spec_orUpTo.l0 k1 a0 y372 (wrap64 (x4_1 + 1))) = some r := by first | (rw [hy372]; with_reducible exact H) | (have H2_ := (Option.bind_some _ _).symm.trans H; rw [hy372]; with_reducible exact H2_) | (have H2_ := (Option.bind_some _ _).symm.trans H; with_reducible exact H2_) | with_reducible exact H | (rw [hy372]; exact H) | exact H
     have Ny372 := aM hy372
     clear hy372
     have H' := aM H
     clear H
     go_wp2_with (first | ((with_reducible refine gate_builtin (b := .append) (xs := #[.tmp 10, .tmp 12]) rfl ?_); at_builtin; refine Kd.R_append (Kd.int .i64) (w0 := w) w.heap.size rfl (.tmp 10) (.tmp 12) 24 3 (.int .i64 0) 8 rfl Try.underlying24 info3 rfl (by decide) (by omega) u3 x3_1 x4_1 [.int .i64 x4_1] (fun _ => True) (fun _ => False) rfl rfl ?aP (fun _ hk => hk.elim) ?aF ?aO ?aB ?aS ?aL ?_; (case aP => exact rfl); (case aB => exact bq); (case aF => exact (fun _ _ => trivial)); (case aO => exact (rQ HO_3)); (case aS => exact (below_size bq)); (case aL => have := LMc3.out; omega); intro v373 w4 ho hb hg hat; rw [← Ny372.out] at ho; have _ := aM (hb); have _ := aM (ho); clear HB HO_3; rename_i HB HO374; clear ho hb hg hat))
     go_roundg k1
     case measure => have := HK1.out; omega
     case rel => exact ⟨(y372), (wrap64 (x4_1 + 1)), (by first | rfl | (simp; done) | (simp [*]; done)), H', ⟨by have := HK1.out; omega⟩, ⟨by (with_reducible repeat first|apply rA|apply rN|apply rD); exact HO374.out⟩, ⟨by exact bq⟩⟩
    ·rw [if_neg c3] at H
     exact absurd H (by simp)
   ·rw [if_neg c2] at H
    have c2b0 : decide (x4_1 < a0) = false := decide_eq_false c2
    clear c2
    obtain rfl := Option.some.inj H
    go_wp2
    go_ret
    exact ⟨_, by first | rfl | (simp [errW_none, errW_some] <;> rfl) | (simp [*, errW_none, errW_some] <;> rfl), by (with_reducible repeat first|apply rA|apply rN|apply rD); exact HO_3.out, by exact bq⟩

end Go.Proofs.Ytacdlipojhoilaa.Zx
