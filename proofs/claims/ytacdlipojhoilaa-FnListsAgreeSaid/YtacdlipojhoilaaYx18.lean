-- Written by hook.py, a program of this session (wip/), which runs the kit's print.py with its own parts; Lean checks it.
import Derived.Test.YtacdlipojhoilaaYx0
import Derived.Test.YtacdlipojhoilaaYx17
import Derived.Test.YtacdlipojhoilaaYxXSq
namespace Go.Proofs.Ytacdlipojhoilaa.Yx
open Go.RowKit Go.Proofs.YtacdlipojhoilaaW.PrintWords Go.Proofs.YtacdlipojhoilaaW.PrintLast Go.Proofs.YtacdlipojhoilaaW.PrintMore Go.Proofs.Ytacdlipojhoilaa.Sq
attribute [local go_sem] max2_int min2_int max_two min_two max_three min_three max_four min_four   -- for this text's walks alone
set_option linter.unusedVariables false
set_option linter.unusedSimpArgs false

def spec_maOf.l0 : Nat → List Int → Int → Int → List (List Int) → Option ((List (List Int)))
 | 0, _, _, _, _ => none
 | k + 1, x7, x8, x9, x367000 => if x9 < x8 then (if 0 ≤ x9 then (if x9 < (x7.length : Int) then ((spec_maGrow.f k x367000 (rd x7 x9)).bind fun t368 => (spec_maOf.l0 k x7 x8 (wrap64 (x9 + 1)) t368)) else (none)) else (none)) else (some x367000)
def spec_maOf.f (k : Nat) (l0 : List Int) : Option ((List (List Int))) := spec_maOf.l0 k l0 (l0.length : Int) 0 ([] : List (List Int))
theorem spec_maOf.mono_l : ∀ k, (∀ y0 y1 y2 y3, LeO (spec_maOf.l0 k y0 y1 y2 y3) (spec_maOf.l0 (k + 1) y0 y1 y2 y3))
 | 0 => fun _ _ _ _ r h => by simp [spec_maOf.l0] at h
 | k + 1 => by
  have ih0 := spec_maOf.mono_l k
  ·intro y0 y1 y2 y3
   unfold spec_maOf.l0
   repeat' first | with_reducible first | exact ih0 _ _ _ _ | exact spec_maGrow.mono _ _ _ | exact LeO.refl _ | exact LeO.none _ | refine LeO.ite ?_ ?_ | refine LeO.bind ?_ (fun _ => ?_)
theorem spec_maOf.mono : ∀ a0 k, LeO (spec_maOf.f k a0) (spec_maOf.f (k + 1) a0) := by
 intro a0 k
 have ih0 := spec_maOf.mono_l k
 unfold spec_maOf.f
 repeat' first | with_reducible first | exact ih0 _ _ _ _ | exact spec_maGrow.mono _ _ _ | exact LeO.refl _ | exact LeO.none _ | refine LeO.ite ?_ ?_ | refine LeO.bind ?_ (fun _ => ?_)
set_option maxHeartbeats 8000000 in
set_option maxRecDepth 100000 in
theorem spec_maOf.calls (k : Nat) (A0 : Option Addr) (c0 : Nat) (l0 : List Int) (r : List (List Int)) (w : World) (hr0 : Kd.C (Kd.int .i64) w A0 l0.length l0) (hc0 : l0.length ≤ c0) (h : spec_maOf.f k l0 = some r) :
  Calls Try.prog 95 #[.slice A0 l0.length c0] w fun e w' => ∃ v0_ : Value, e = .returned (.agg #[v0_]) ∧ Kd.S (Kd.slice 3 (Kd.int .i64)) 24 w' w.heap.size (fun _ => True) v0_ r ∧ Below w.heap.size w w' := by
 have hu36 := Try.underlying36
 have HR0 := aM hr0
 have HC0 := aM hc0
 clear hr0 hc0
 have HB := aM (Below.refl w.heap.size w)
 have H : (spec_maOf.l0 k l0 (l0.length : Int) 0 ([] : List (List Int))) = some r := h
 clear h
 have H' := aM H
 clear H
 go_enter Try.func95, Try.ntmps95
 go_wp2_with (first | ((with_reducible refine gate_dst (N := 2) rfl ?_); refine bE 2 36 #[.slice none 0 0] ?_; intro gb365 hg w2 hbox hb; have _ := aM (below_step bq hb); have _ := aM (hbox); have _ := aM ((gS hg)); have _ := aM ((gS hg)); clear HB; rename_i HB BK365 GW365 GE365; clear hb hbox hg) | ((with_reducible refine gate_dst (N := 3) rfl ?_); refine bE 3 36 #[.slice none 0 0] ?_; intro gb366 hg w3 hbox hb; have _ := aM (blk_below (g := gb365) (o := .cells #[.slice none 0 0] 36 (0, 0)) (qQ BK365) hb); have _ := aM (below_step bq hb); have _ := aM (hbox); have _ := aM ((gS hg)); have _ := aM ((gS hg)); have _ := aM ((by rw [hg]; exact Nat.ne_of_lt (blk_lt (g := gb365) (o := .cells #[.slice none 0 0] 36 (0, 0)) (qQ BK365)) : gb365 ≠ gb366)); have _ := aM ((by rw [hg]; exact Nat.ne_of_gt (blk_lt (g := gb365) (o := .cells #[.slice none 0 0] 36 (0, 0)) (qQ BK365)) : gb366 ≠ gb365)); clear BK365 HB; rename_i BK365 HB BK366 GW366 GE366 NB365_366 NB366_365; clear hb hbox hg; have hnb4 := NB366_365.out; have hnc4 := NB365_366.out; have hcz5_0 : w3.cell? ⟨gb366, 0, none⟩ = some (.slice none 0 0) := (blk_cell BK366.out 0).trans rfl; have hfz5_0 := blk_frozen BK366.out 0))
 go_loopg [9] k (fun kq v9 w' => ∃ (x9_1 : Int) (x367000_1 : List (List Int)) (u367000 : Value), v9 = .int .i64 x9_1 ∧ Aside0 (spec_maOf.l0 kq l0 (l0.length : Int) x9_1 x367000_1 = some r) ∧ Aside0 (kq ≤ k) ∧ Aside0 (Kd.S (Kd.slice 3 (Kd.int .i64)) 24 w' w.heap.size (fun _ => True) u367000 x367000_1) ∧ Aside0 (w'.heap[gb365]? = some (.cells #[(.slice none 0 0)] 36 (0, 0))) ∧ Aside0 (w'.heap[gb366]? = some (.cells #[u367000] 36 (0, 0))) ∧ Aside0 (Below w.heap.size w w'))
 case atStart => exact ⟨(0), (([] : List (List Int))), (.slice none 0 0), (by first | rfl | (simp; done) | (simp [*]; done)), H', ⟨Nat.le_refl _⟩, ⟨by first | exact Kd.S_nil _ _ _ _ _ | exact Kd.N_nil _ _ _ _ _ | exact Kd.V_nil _ _ _ _ _ | exact Kd.Q_nil _ _ _ _ _ | exact Kd.R_nil _ _ _ _ _⟩, ⟨by (with_reducible repeat first|apply qN|apply qD|apply qA); refine blk_far ?_ NB365_366.out _; (with_reducible repeat first|apply qN|apply qD|apply qA); exact BK365.out⟩, ⟨by (with_reducible repeat first|apply qN|apply qD|apply qA); refine blk_put (cs := #[.slice none 0 0]) ?_ 0 _ rfl; (with_reducible repeat first|apply qN|apply qD|apply qA); exact BK366.out⟩, ⟨by exact bq⟩⟩
 case round =>
  clear H'
  try clear p2
  try clear c4
  try clear hcz5_0
  try clear hfz5_0
  obtain ⟨x9_1, x367000_1, u367000, rfl, HA, HK1, HO_367000, BK365, BK366, HB⟩ := hrel
  cases gk with
  | zero => exact absurd HA.out (by simp [spec_maOf.l0])
  | succ k1 =>
   have H := HA.out
   clear HA
   simp only [spec_maOf.l0] at H
   by_cases c6 : x9_1 < (l0.length : Int)
   ·rw [if_pos c6] at H
    have c6b0 : decide (x9_1 < (l0.length : Int)) = true := decide_eq_true c6
    clear c6
    by_cases c7 : 0 ≤ x9_1
    ·rw [if_pos c7] at H
     have c7b0 : decide (0 ≤ x9_1) = true := decide_eq_true c7
     clear c7
     by_cases c8 : x9_1 < (l0.length : Int)
     ·rw [if_pos c8] at H
      have c8b0 : decide (x9_1 < (l0.length : Int)) = true := decide_eq_true c8
      clear c8
      replace H := Option.bind_eq_some_iff.mp H
      obtain ⟨t368, A90, H⟩ := H
      replace H : (spec_maOf.l0 k1 l0 (l0.length : Int) (wrap64 (x9_1 + 1)) t368) = some r := H
      have A9 := aM A90
      clear A90
      have H' := aM H
      clear H
      have p367 : 0 ≤ (x9_1 : Int) := odt
      have q367 : x9_1 < (l0.length : Int) := odt
      obtain ⟨ad367, e367, hx367_0⟩ := Kd.at_int HR0.out x9_1 p367 q367
      cases e367
      replace hx367_0 := (HB.out.cell (World.block_lt_of_cell? w _ hx367_0)).trans hx367_0
      replace p367 := eq_true p367
      replace q367 := eq_true q367
      have hnb10 := NB366_365.out
      have hnc10 := NB365_366.out
      have hcz11_0 : wr.cell? ⟨gb366, 0, none⟩ = some (u367000) := (blk_cell BK366.out 0).trans rfl
      have hfz11_0 := blk_frozen BK366.out 0
      obtain ⟨Ao12, co12, eo12⟩ := Kd.S_slice HO_367000.out
      subst eo12
      go_wp2_with (first | ((with_reducible refine gate_callee (f := 107) rfl ?_); refine gL (some 15) Try.func107 #[.agg #[.slice Ao12 x367000_1.length co12], .int .i64 (rd l0 x9_1)] ?_; (with_reducible refine (spec_maGrow.calls k1 _ _ x367000_1 (rd l0 x9_1) t368 _ (cQ ((Kd.S_reads' HO_367000.out).2.2)) ((Kd.S_reads' HO_367000.out).2.1) A9.out).mono ?_); rintro e w13 ⟨v369, rfl, ho0, hb⟩; refine ⟨_, rfl, ?_⟩; have _ := aM (Kd.S_elder' (sQ HO_367000) (Kd.S_base ho0) hb); have _ := aM (Kd.S_lower (Kd.S_new' ho0 (Kd.S_lt (sQ HO_367000))) (below_size bq)); have _ := aM (blk_below (g := gb365) (o := .cells #[.slice none 0 0] 36 (0, 0)) (qQ BK365) hb); have _ := aM (blk_below (g := gb366) (o := .cells #[.slice Ao12 x367000_1.length co12] 36 (0, 0)) (qQ BK366) hb); have _ := aM (below_step bq hb); clear HO_367000 BK365 BK366 HB; rename_i HO_367000 HO370 BK365 BK366 HB; (try clear hb); (try clear hb2); (try clear hk); (try clear hi); (try clear ho0); obtain ⟨Ao14, co14, eo14⟩ := Kd.S_slice HO370.out; subst eo14; have hcz15_0 : w13.cell? ⟨gb366, 0, none⟩ = some (.slice Ao12 x367000_1.length co12) := (blk_cell BK366.out 0).trans rfl; have hfz15_0 := blk_frozen BK366.out 0))
      go_roundg k1
      case measure => have := HK1.out; omega
      case rel => exact ⟨(wrap64 (x9_1 + 1)), (t368), (.slice Ao14 t368.length co14), (by first | rfl | (simp; done) | (simp [*]; done)), H', ⟨by have := HK1.out; omega⟩, ⟨by (with_reducible repeat first|apply sA|apply sN|apply sD); exact Kd.S_mono (Kd.S_far (p := ⟨gb366, 0, none⟩) (Kd.S_types HO370.out BK366.out (by decide)) (fun _ hk => hk.2) (.slice Ao14 t368.length co14)) (fun _ hk => trivial)⟩, ⟨by (with_reducible repeat first|apply qN|apply qD|apply qA); refine blk_far ?_ NB365_366.out _; (with_reducible repeat first|apply qN|apply qD|apply qA); exact BK365.out⟩, ⟨by (with_reducible repeat first|apply qN|apply qD|apply qA); refine blk_put (cs := #[.slice Ao12 x367000_1.length co12]) ?_ 0 _ rfl; (with_reducible repeat first|apply qN|apply qD|apply qA); exact BK366.out⟩, ⟨by exact bq⟩⟩
     ·rw [if_neg c8] at H
      exact absurd H (by simp)
    ·rw [if_neg c7] at H
     exact absurd H (by simp)
   ·rw [if_neg c6] at H
    have c6b0 : decide (x9_1 < (l0.length : Int)) = false := decide_eq_false c6
    clear c6
    obtain rfl := Option.some.inj H
    have hnb16 := NB366_365.out
    have hnc16 := NB365_366.out
    have hcz17_0 : wr.cell? ⟨gb366, 0, none⟩ = some (u367000) := (blk_cell BK366.out 0).trans rfl
    have hfz17_0 := blk_frozen BK366.out 0
    obtain ⟨Ao18, co18, eo18⟩ := Kd.S_slice HO_367000.out
    subst eo18
    have hcz19_0 : wr.cell? ⟨gb365, 0, none⟩ = some (.slice none 0 0) := (blk_cell BK365.out 0).trans rfl
    have hfz19_0 := blk_frozen BK365.out 0
    go_wp2
    refine bodyPost_ret (results_cell_row rfl _ _ gb365 36 #[.slice Ao18 x367000_1.length co18] (0, 0) _ rfl (by (with_reducible repeat first|apply qN|apply qD|apply qA); refine blk_put (cs := #[.slice none 0 0]) ?_ 0 _ rfl; (with_reducible repeat first|apply qN|apply qD|apply qA); exact BK365.out) Try.underlying36 rfl (by kernel_rfl)) rfl ?_
    exact ⟨_, by first | rfl | (simp [errW_none, errW_some] <;> rfl) | (simp [*, errW_none, errW_some] <;> rfl), by (with_reducible repeat first|apply sA|apply sN|apply sD); exact Kd.S_mono (Kd.S_far (p := ⟨gb365, 0, none⟩) (Kd.S_types HO_367000.out BK365.out (by decide)) (fun _ hk => hk.2) (.slice Ao18 x367000_1.length co18)) (fun _ hk => trivial), by exact bq⟩

def spec_l1In.f (a0 : Int) (a1 : Int) (a2 : Int) : Option (Bool) := if a0 ≥ a1 then (some (decide (a0 ≤ a2))) else (some false)
set_option maxHeartbeats 8000000 in
set_option maxRecDepth 100000 in
theorem spec_l1In.calls (a0 : Int) (a1 : Int) (a2 : Int) (r : Bool) (w : World) (h : spec_l1In.f a0 a1 a2 = some r) :
  Calls Try.prog 105 #[.int .i64 a0, .int .i64 a1, .int .i64 a2] w fun e w' => e = .returned (.bool r) ∧ Drawn0 w w' := by
 have H : (if a0 ≥ a1 then (some (decide (a0 ≤ a2))) else (some false)) = some r := h
 clear h
 by_cases c4 : a0 ≥ a1
 ·rw [if_pos c4] at H
  have c4b0 : decide (a1 ≤ a0) = true := decide_eq_true c4
  clear c4
  obtain rfl := Option.some.inj H
  go_enter Try.func105, Try.ntmps105
  go_wp2
  go_ret
  exact ⟨by first | rfl | (simp; done) | (simp [*]; done), by repeat (first | exact Drawn0.refl _ | apply Drawn0.step)⟩
 ·rw [if_neg c4] at H
  have c4b0 : decide (a1 ≤ a0) = false := decide_eq_false c4
  clear c4
  obtain rfl := Option.some.inj H
  go_enter Try.func105, Try.ntmps105
  go_wp2
  go_ret
  exact ⟨by first | rfl | (simp; done) | (simp [*]; done), by repeat (first | exact Drawn0.refl _ | apply Drawn0.step)⟩

def spec_asAscents.l0 : Nat → List Int → Int → Int → Option (Int)
 | 0, _, _, _ => none
 | k + 1, x0, x3, x4 => if x4 < (x0.length : Int) then (if 0 ≤ (wrap64 (x4 - 1)) then (if (wrap64 (x4 - 1)) < (x0.length : Int) then (if 0 ≤ x4 then (if (rd x0 (wrap64 (x4 - 1))) < (rd x0 x4) then (spec_asAscents.l0 k x0 (wrap64 (x3 + 1)) (wrap64 (x4 + 1))) else (spec_asAscents.l0 k x0 x3 (wrap64 (x4 + 1)))) else (none)) else (none)) else (none)) else (some x3)
def spec_asAscents.f (k : Nat) (l0 : List Int) : Option (Int) := spec_asAscents.l0 k l0 0 1
theorem spec_asAscents.mono_l : ∀ k, (∀ y0 y1 y2, LeO (spec_asAscents.l0 k y0 y1 y2) (spec_asAscents.l0 (k + 1) y0 y1 y2))
 | 0 => fun _ _ _ r h => by simp [spec_asAscents.l0] at h
 | k + 1 => by
  have ih0 := spec_asAscents.mono_l k
  ·intro y0 y1 y2
   unfold spec_asAscents.l0
   repeat' first | with_reducible first | exact ih0 _ _ _ | exact LeO.refl _ | exact LeO.none _ | refine LeO.ite ?_ ?_ | refine LeO.bind ?_ (fun _ => ?_)
theorem spec_asAscents.mono : ∀ a0 k, LeO (spec_asAscents.f k a0) (spec_asAscents.f (k + 1) a0) := by
 intro a0 k
 have ih0 := spec_asAscents.mono_l k
 unfold spec_asAscents.f
 repeat' first | with_reducible first | exact ih0 _ _ _ | exact LeO.refl _ | exact LeO.none _ | refine LeO.ite ?_ ?_ | refine LeO.bind ?_ (fun _ => ?_)
set_option maxHeartbeats 8000000 in
set_option maxRecDepth 100000 in
theorem spec_asAscents.calls (k : Nat) (A0 : Option Addr) (c0 : Nat) (l0 : List Int) (r : Int) (w : World) (hr0 : Kd.C (Kd.int .i64) w A0 l0.length l0) (hc0 : l0.length ≤ c0) (h : spec_asAscents.f k l0 = some r) :
  Calls Try.prog 158 #[.slice A0 l0.length c0] w fun e w' => e = .returned (.int .i64 r) ∧ Drawn0 w w' := by
 have HR0 := aM hr0
 have HC0 := aM hc0
 clear hr0 hc0
 have H : (spec_asAscents.l0 k l0 0 1) = some r := h
 clear h
 have H' := aM H
 clear H
 go_enter Try.func158, Try.ntmps158
 go_wp2
 repeat (go_quiet (fail); try go_wp2)
 go_loopg [3, 4] k (fun kq v3 v4 w' => ∃ (x3_1 : Int) (x4_1 : Int), v3 = .int .i64 x3_1 ∧ v4 = .int .i64 x4_1 ∧ Aside0 (spec_asAscents.l0 kq l0 x3_1 x4_1 = some r) ∧ Aside0 (kq ≤ k) ∧ Drawn0 w w')
 case atStart => exact ⟨(0), (1), (by first | rfl | (simp; done) | (simp [*]; done)), (by first | rfl | (simp; done) | (simp [*]; done)), H', ⟨Nat.le_refl _⟩, by repeat (first | exact Drawn0.refl _ | apply Drawn0.step)⟩
 case round =>
  clear H'
  try clear c1
  obtain ⟨x3_1, x4_1, rfl, rfl, HA, HK1, ⟨m1, rfl⟩⟩ := hrel
  cases gk with
  | zero => exact absurd HA.out (by simp [spec_asAscents.l0])
  | succ k1 =>
   have H := HA.out
   clear HA
   simp only [spec_asAscents.l0] at H
   by_cases c2 : x4_1 < (l0.length : Int)
   ·rw [if_pos c2] at H
    have c2b0 : decide (x4_1 < (l0.length : Int)) = true := decide_eq_true c2
    clear c2
    obtain ⟨ji3, hji3⟩ : ∃ j_ : Int, (wrap64 (x4_1 - 1)) = j_ := ⟨_, rfl⟩
    replace H : (if 0 ≤ (ji3) then (if (ji3) < (l0.length : Int) then (if 0 ≤ x4_1 then (if (rd l0 (ji3)) < (rd l0 x4_1) then (spec_asAscents.l0 k1 l0 (wrap64 (x3_1 + 1)) (wrap64 (x4_1 + 1))) else (spec_asAscents.l0 k1 l0 x3_1 (wrap64 (x4_1 + 1)))) else (none)) else (none)) else (none)) = some r := by first | (rw [hji3] at H; exact H) | (simp only [hji3] at H ⊢; exact H)
    have hji3w : (IntKind.i64.wrap (x4_1 - 1)) = ji3 := (i64_w _).trans hji3
    by_cases c4 : 0 ≤ (ji3)
    ·rw [if_pos c4] at H
     have c4b0 : decide (0 ≤ (ji3)) = true := decide_eq_true c4
     clear c4
     by_cases c5 : (ji3) < (l0.length : Int)
     ·rw [if_pos c5] at H
      have c5b0 : decide ((ji3) < (l0.length : Int)) = true := decide_eq_true c5
      clear c5
      by_cases c6 : 0 ≤ x4_1
      ·rw [if_pos c6] at H
       have c6b0 : decide (0 ≤ x4_1) = true := decide_eq_true c6
       clear c6
       by_cases c7 : (rd l0 (ji3)) < (rd l0 x4_1)
       ·rw [if_pos c7] at H
        have c7b0 : decide ((rd l0 (ji3)) < (rd l0 x4_1)) = true := decide_eq_true c7
        clear c7
        have H' := aM H
        clear H
        have p371 : 0 ≤ ((ji3) : Int) := odt
        have q371 : (ji3) < (l0.length : Int) := odt
        obtain ⟨ad371, e371, hx371_0⟩ := Kd.at_int HR0.out (ji3) p371 q371
        cases e371
        replace p371 := eq_true p371
        replace q371 := eq_true q371
        have p372 : 0 ≤ (x4_1 : Int) := odt
        have q372 : x4_1 < (l0.length : Int) := odt
        obtain ⟨ad372, e372, hx372_0⟩ := Kd.at_int HR0.out x4_1 p372 q372
        obtain rfl : ad371 = ad372 := (by injection e372)
        replace p372 := eq_true p372
        replace q372 := eq_true q372
        go_wp2
        repeat (go_quiet (fail); try go_wp2)
        go_roundg k1
        case measure => have := HK1.out; omega
        case rel => exact ⟨(wrap64 (x3_1 + 1)), (wrap64 (x4_1 + 1)), (by first | rfl | (simp; done) | (simp [*]; done)), (by first | rfl | (simp; done) | (simp [*]; done)), H', ⟨by have := HK1.out; omega⟩, by repeat (first | exact Drawn0.refl _ | apply Drawn0.step)⟩
       ·rw [if_neg c7] at H
        have c7b0 : decide ((rd l0 (ji3)) < (rd l0 x4_1)) = false := decide_eq_false c7
        clear c7
        have H' := aM H
        clear H
        have p371 : 0 ≤ ((ji3) : Int) := odt
        have q371 : (ji3) < (l0.length : Int) := odt
        obtain ⟨ad371, e371, hx371_0⟩ := Kd.at_int HR0.out (ji3) p371 q371
        cases e371
        replace p371 := eq_true p371
        replace q371 := eq_true q371
        have p372 : 0 ≤ (x4_1 : Int) := odt
        have q372 : x4_1 < (l0.length : Int) := odt
        obtain ⟨ad372, e372, hx372_0⟩ := Kd.at_int HR0.out x4_1 p372 q372
        obtain rfl : ad371 = ad372 := (by injection e372)
        replace p372 := eq_true p372
        replace q372 := eq_true q372
        go_wp2
        repeat (go_quiet (fail); try go_wp2)
        go_roundg k1
        case measure => have := HK1.out; omega
        case rel => exact ⟨(x3_1), (wrap64 (x4_1 + 1)), (by first | rfl | (simp; done) | (simp [*]; done)), (by first | rfl | (simp; done) | (simp [*]; done)), H', ⟨by have := HK1.out; omega⟩, by repeat (first | exact Drawn0.refl _ | apply Drawn0.step)⟩
      ·rw [if_neg c6] at H
       exact absurd H (by simp)
     ·rw [if_neg c5] at H
      exact absurd H (by simp)
    ·rw [if_neg c4] at H
     exact absurd H (by simp)
   ·rw [if_neg c2] at H
    have c2b0 : decide (x4_1 < (l0.length : Int)) = false := decide_eq_false c2
    clear c2
    obtain rfl := Option.some.inj H
    go_wp2
    repeat (go_quiet (fail); try go_wp2)
    go_ret
    exact ⟨by first | rfl | (simp; done) | (simp [*]; done), by repeat (first | exact Drawn0.refl _ | apply Drawn0.step)⟩

def spec_asBound.f (k : Nat) (l0 : List Int) : Option (Int) := if (l0.length : Int) = 0 then (some 0) else ((spec_asAscents.f k l0).bind fun t373 => (some (wrap64 (t373 + 1))))
theorem spec_asBound.mono : ∀ a0 k, LeO (spec_asBound.f k a0) (spec_asBound.f (k + 1) a0) := by
 intro a0 k
 unfold spec_asBound.f
 repeat' first | with_reducible first | exact spec_asAscents.mono _ _ | exact LeO.refl _ | exact LeO.none _ | refine LeO.ite ?_ ?_ | refine LeO.bind ?_ (fun _ => ?_)
set_option maxHeartbeats 8000000 in
set_option maxRecDepth 100000 in
theorem spec_asBound.calls (k : Nat) (A0 : Option Addr) (c0 : Nat) (l0 : List Int) (r : Int) (w : World) (hr0 : Kd.C (Kd.int .i64) w A0 l0.length l0) (hc0 : l0.length ≤ c0) (h : spec_asBound.f k l0 = some r) :
  Calls Try.prog 134 #[.slice A0 l0.length c0] w fun e w' => e = .returned (.int .i64 r) ∧ Drawn0 w w' := by
 have HR0 := aM hr0
 have HC0 := aM hc0
 clear hr0 hc0
 have H : (if (l0.length : Int) = 0 then (some 0) else ((spec_asAscents.f k l0).bind fun t373 => (some (wrap64 (t373 + 1))))) = some r := h
 clear h
 by_cases c2 : (l0.length : Int) = 0
 ·rw [if_pos c2] at H
  have c2b0 : ((l0.length : Int) == 0) = true := beq_iff_eq.mpr c2
  have c2b1 : ((l0.length : Int) != 0) = false := bne_eq_false_iff_eq.mpr c2
  clear c2
  obtain rfl := Option.some.inj H
  go_enter Try.func134, Try.ntmps134
  go_wp2
  go_ret
  exact ⟨by first | rfl | (simp; done) | (simp [*]; done), by repeat (first | exact Drawn0.refl _ | apply Drawn0.step)⟩
 ·rw [if_neg c2] at H
  have c2b0 : ((l0.length : Int) == 0) = false := beq_eq_false_iff_ne.mpr c2
  have c2b1 : ((l0.length : Int) != 0) = true := bne_iff_ne.mpr c2
  have c2b2 : ¬ (l0 = []) := fun h_ => c2 (by rw [h_]; rfl)
  replace H := Option.bind_eq_some_iff.mp H
  obtain ⟨t373, A30, H⟩ := H
  replace H : (some (wrap64 (t373 + 1))) = some r := H
  have A3 := aM A30
  clear A30
  obtain rfl := Option.some.inj H
  go_enter Try.func134, Try.ntmps134
  go_wp2_with (first | ((with_reducible refine gate_callee (f := 158) rfl ?_); refine gL (some 7) Try.func158 #[.slice A0 l0.length c0] ?_; (with_reducible refine (spec_asAscents.calls k _ _ l0 t373 _ (cQ HR0.out) HC0.out A3.out).mono ?_); rintro e w' ⟨rfl, ⟨nd, rfl⟩⟩; refine ⟨_, rfl, ?_⟩))
  go_ret
  exact ⟨by first | rfl | (simp; done) | (simp [*]; done), by repeat (first | exact Drawn0.refl _ | apply Drawn0.step)⟩

end Go.Proofs.Ytacdlipojhoilaa.Yx
