-- Written by hook.py, a program of this session (wip/), which runs the kit's print.py with its own parts; Lean checks it.
import Derived.Test.YtcodionjhcmfhaaDoorAo0
import Derived.Test.YtcodionjhcmfhaaDoorAo12
import Derived.Test.YtcodionjhcmfhaaDoorAo15
import Derived.Test.YtcodionjhcmfhaaDoorAoXSq
namespace Go.Proofs.YtcodionjhcmfhaaDoor.Ao
open Go.RowKit Go.Proofs.YtcodionjhcmfhaaDoorW.PrintWords Go.Proofs.YtcodionjhcmfhaaDoorW.PrintLast Go.Proofs.YtcodionjhcmfhaaDoorW.PrintMore Go.Proofs.YtcodionjhcmfhaaDoor.Sq
attribute [local go_sem] max2_int min2_int max_two min_two max_three min_three max_four min_four   -- for this text's walks alone
set_option linter.unusedVariables false
set_option linter.unusedSimpArgs false

mutual
def impl_Order_levels.l0 : Nat → List Int → List Int → List Int → Int → Int → Option (List Int)
 | 0, _, _, _, _, _ => none
 | k + 1, x3, x5, x17, x18, x19 => if x19 < x18 then (if 0 ≤ x19 then (if x19 < (x17.length : Int) then (impl_Order_levels.l1 k x3 x5 (rd x17 x19) 0 x17 x18 x19 x5 (x5.length : Int) 0) else (none)) else (none)) else (some x3)
def impl_Order_levels.l1 : Nat → List Int → List Int → Int → Int → List Int → Int → Int → List Int → Int → Int → Option (List Int)
 | 0, _, _, _, _, _, _, _, _, _, _ => none
 | k + 1, x3, x5, x7, x8, x17, x18, x19, x23, x24, x25 => if x25 < x24 then (if 0 ≤ x25 then (if x25 < (x23.length : Int) then (if (rd x23 x25) = x7 then (impl_Order_levels.l1 k x3 x5 x7 x8 x17 x18 x19 x23 x24 (wrap64 (x25 + 1))) else (if (Go.bits .andNot .i64 (rd x23 x25) x7) = 0 then (impl_Order_levels.l1 k x3 x5 x7 (wrap64 (x8 + 1)) x17 x18 x19 x23 x24 (wrap64 (x25 + 1))) else (impl_Order_levels.l1 k x3 x5 x7 x8 x17 x18 x19 x23 x24 (wrap64 (x25 + 1))))) else (none)) else (none)) else (if x3.length < 17592186044416 then (impl_Order_levels.l0 k (x3 ++ [x8]) x5 x17 x18 (wrap64 (x19 + 1))) else (none))
end
def impl_Order_levels.f (k : Nat) (a0_0 : Int) (l0_1 : List Int) : Option (List Int) := (impl_Order_mirror.f a0_0 l0_1).bind fun bt370 => ((impl_different.f bt370.2).bind fun t374 => (impl_Order_levels.l0 k (([] : List Int)) t374 bt370.2 (bt370.2.length : Int) 0))
theorem impl_Order_levels.mono_l : ∀ k, (∀ y0 y1 y2 y3 y4, LeO (impl_Order_levels.l0 k y0 y1 y2 y3 y4) (impl_Order_levels.l0 (k + 1) y0 y1 y2 y3 y4)) ∧ (∀ y0 y1 y2 y3 y4 y5 y6 y7 y8 y9, LeO (impl_Order_levels.l1 k y0 y1 y2 y3 y4 y5 y6 y7 y8 y9) (impl_Order_levels.l1 (k + 1) y0 y1 y2 y3 y4 y5 y6 y7 y8 y9))
 | 0 => ⟨fun _ _ _ _ _ r h => by simp [impl_Order_levels.l0] at h, fun _ _ _ _ _ _ _ _ _ _ r h => by simp [impl_Order_levels.l1] at h⟩
 | k + 1 => by
  obtain ⟨ih0, ih1⟩ := impl_Order_levels.mono_l k
  refine ⟨?_, ?_⟩
  ·intro y0 y1 y2 y3 y4
   unfold impl_Order_levels.l0
   repeat' first | with_reducible first | exact ih0 _ _ _ _ _ | exact ih1 _ _ _ _ _ _ _ _ _ _ | exact LeO.refl _ | exact LeO.none _ | refine LeO.ite ?_ ?_ | refine LeO.bind ?_ (fun _ => ?_)
  ·intro y0 y1 y2 y3 y4 y5 y6 y7 y8 y9
   unfold impl_Order_levels.l1
   repeat' first | with_reducible first | exact ih0 _ _ _ _ _ | exact ih1 _ _ _ _ _ _ _ _ _ _ | exact LeO.refl _ | exact LeO.none _ | refine LeO.ite ?_ ?_ | refine LeO.bind ?_ (fun _ => ?_)
theorem impl_Order_levels.mono : ∀ a0 a1 k, LeO (impl_Order_levels.f k a0 a1) (impl_Order_levels.f (k + 1) a0 a1) := by
 intro a0 a1 k
 obtain ⟨ih0, ih1⟩ := impl_Order_levels.mono_l k
 unfold impl_Order_levels.f
 repeat' first | with_reducible first | exact ih0 _ _ _ _ _ | exact ih1 _ _ _ _ _ _ _ _ _ _ | exact LeO.refl _ | exact LeO.none _ | refine LeO.ite ?_ ?_ | refine LeO.bind ?_ (fun _ => ?_)
set_option maxHeartbeats 8000000 in
set_option maxRecDepth 100000 in
theorem impl_Order_levels.calls (k : Nat) (a0_0 : Int) (A0_1 : Option Addr) (c0_1 : Nat) (l0_1 : List Int) (r : List Int) (w : World) (hr0_1 : Kd.C (Kd.int .i64) w A0_1 l0_1.length l0_1) (hc0_1 : l0_1.length ≤ c0_1) (h : impl_Order_levels.f k a0_0 l0_1 = some r) :
  Calls Tryd.prog 86 #[.agg #[.int .i64 a0_0, .slice A0_1 l0_1.length c0_1]] w fun e w' => ∃ v0_ : Value, e = .returned (v0_) ∧ Kd.R (Kd.int .i64) 3 w' w.heap.size (fun _ => True) v0_ r ∧ Below w.heap.size w w' := by
 have hu31 := Tryd.underlying31
 have hfd : ∀ (w_ : World) (a_ b_ : Value), (Instr.field 31 (.agg #[a_, b_]) 1).run Tryd.prog w_ = .ok b_ w_ := fun _ _ _ => by first | rfl | kernel_rfl
 have HR0_1 := aM hr0_1
 have HC0_1 := aM hc0_1
 clear hr0_1 hc0_1
 have HB := aM (Below.refl w.heap.size w)
 have H : ((impl_Order_mirror.f a0_0 l0_1).bind fun bt370 => ((impl_different.f bt370.2).bind fun t374 => (impl_Order_levels.l0 k (([] : List Int)) t374 bt370.2 (bt370.2.length : Int) 0))) = some r := h
 clear h
 obtain ⟨y367, hy367⟩ : ∃ y_ : List Int, y_ = (([] : List Int)) := ⟨_, rfl⟩
 replace H : ((impl_Order_mirror.f a0_0 l0_1).bind fun bt370 => ((impl_different.f bt370.2).bind fun t374 => (impl_Order_levels.l0 k y367 t374 bt370.2 (bt370.2.length : Int) 0))) = some r := by first | (rw [hy367]; with_reducible exact H) | (have H2_ := (Option.bind_some _ _).symm.trans H; rw [hy367]; with_reducible exact H2_) | (have H2_ := (Option.bind_some _ _).symm.trans H; with_reducible exact H2_) | with_reducible exact H | (rw [hy367]; exact H) | exact H
 have Ny367 := aM hy367
 clear hy367
 replace H := Option.bind_eq_some_iff.mp H
 obtain ⟨⟨t370, t371⟩, A20, H⟩ := H
 replace H : ((impl_different.f t371).bind fun t374 => (impl_Order_levels.l0 k y367 t374 t371 (t371.length : Int) 0)) = some r := H
 have A2 := aM A20
 clear A20
 replace H := Option.bind_eq_some_iff.mp H
 obtain ⟨t374, A30, H⟩ := H
 replace H : (impl_Order_levels.l0 k y367 t374 t371 (t371.length : Int) 0) = some r := H
 have A3 := aM A30
 clear A30
 have H' := aM H
 clear H
 go_enter Tryd.func86, Tryd.ntmps86
 go_wp2_with (first | ((with_reducible refine gate_dst (N := 1) rfl ?_); refine bE 1 31 #[.int .i64 a0_0, .slice A0_1 l0_1.length c0_1] ?_; intro gb366 hg w4 hbox hb; have _ := aM (below_step bq hb); have _ := aM (hbox); have _ := aM ((gS hg)); have _ := aM ((gS hg)); clear HB; rename_i HB BK366 GW366 GE366; clear hb hbox hg) | ((with_reducible refine gate_dst (N := 11) rfl ?_); refine Kd.R_lit (Kd.int .i64) _ 3 ?hg (N := 11) ?hd (xs := ([] : List Int)) (inner := []) (ok := fun _ => True) (okp := fun _ => True) ?hr ?hp (fun _ hk => hk) trivial (Below.refl _ _) (Nat.le_refl _) (by simp) ?_; (case hd => rfl); (case hg => rfl); (case hr => first | (go_simp; done) | (go_simp; rfl)); (case hp => exact (Reps.none _ _)); intro v368 w5 ho6 hb hg_ hnew_; clear hg_ hnew_; (first | rw [← Ny367.out] at ho6 | (simp only [Int.reduceToNat] at ho6; rw [← Ny367.out] at ho6)); have _ := aM (Kd.R_lower ho6 (below_size bq)); have _ := aM (blk_below (g := gb366) (o := .cells #[.int .i64 a0_0, .slice A0_1 l0_1.length c0_1] 31 (0, 0)) (qQ BK366) hb); have _ := aM (below_step bq hb); clear BK366 HB; rename_i HO369 BK366 HB; clear hb ho6; have hcz7_0 : w5.cell? ⟨gb366, 0, none⟩ = some (.int .i64 a0_0) := (blk_cell BK366.out 0).trans rfl; have hcz7_1 : w5.cell? ⟨gb366, 1, none⟩ = some (.slice A0_1 l0_1.length c0_1) := (blk_cell BK366.out 1).trans rfl; have hfz7_0 := blk_frozen BK366.out 0; have hfz7_1 := blk_frozen BK366.out 1) | ((with_reducible refine gate_callee (f := 62) rfl ?_); refine gL (some 13) Tryd.func62 #[.agg #[.int .i64 a0_0, .slice A0_1 l0_1.length c0_1]] ?_; (with_reducible refine (impl_Order_mirror.calls a0_0 _ _ l0_1 t370 t371 _ (cQ (Kd.C_below HR0_1.out HB.out)) HC0_1.out A2.out).mono ?_); rintro e w8 ⟨v372, rfl, ho0, hb⟩; refine ⟨_, rfl, ?_⟩; have _ := aM (Kd.R_elder' (rQ HO369) (Kd.R_base ho0) hb); have _ := aM (Kd.R_lower (Kd.R_new' ho0 (Kd.R_lt (rQ HO369))) (below_size bq)); have _ := aM (blk_below (g := gb366) (o := .cells #[.int .i64 a0_0, .slice A0_1 l0_1.length c0_1] 31 (0, 0)) (qQ BK366) hb); have _ := aM (below_step bq hb); clear HO369 BK366 HB; rename_i HO369 HO373 BK366 HB; (try clear hb); (try clear hb2); (try clear hk); (try clear hi); (try clear ho0); obtain ⟨Ao9, co9, eo9⟩ := Kd.R_slice HO373.out; subst eo9) | ((with_reducible refine gate_callee (f := 88) rfl ?_); refine gL (some 16) Tryd.func88 #[.slice Ao9 t371.length co9] ?_; (with_reducible refine (impl_different.calls _ _ t371 t374 _ (cQ ((Kd.R_reads' HO373.out).2.2)) ((Kd.R_reads' HO373.out).2.1) A3.out).mono ?_); rintro e w10 ⟨v375, rfl, ho0, hb⟩; refine ⟨_, rfl, ?_⟩; have _ := aM (Kd.R_elder' (rQ HO369) (Kd.R_base ho0) hb); have _ := aM (Kd.R_elder' (rQ HO373) (Kd.R_base ho0) hb); have _ := aM (Kd.R_lower (Kd.R_new' (Kd.R_new' ho0 (Kd.R_lt (rQ HO369))) (Kd.R_lt (rQ HO373))) (below_size bq)); have _ := aM (blk_below (g := gb366) (o := .cells #[.int .i64 a0_0, .slice A0_1 l0_1.length c0_1] 31 (0, 0)) (qQ BK366) hb); have _ := aM (below_step bq hb); clear HO369 HO373 BK366 HB; rename_i HO369 HO373 HO376 BK366 HB; (try clear hb); (try clear hb2); (try clear hk); (try clear hi); (try clear ho0)))
 go_loopg [3, 19] k (fun kq v3 v19 w' => ∃ (x3_1 : List Int) (x19_1 : Int), v19 = .int .i64 x19_1 ∧ Aside0 (impl_Order_levels.l0 kq x3_1 t374 t371 (t371.length : Int) x19_1 = some r) ∧ Aside0 (kq ≤ k) ∧ Aside0 (Kd.R (Kd.int .i64) 3 w' w.heap.size (fun k_ => some k_ ≠ (v375 : Value).ownBlock ∧ some k_ ≠ ((.slice Ao9 t371.length co9) : Value).ownBlock) v3 x3_1) ∧ Aside0 (Kd.R (Kd.int .i64) 3 w' w.heap.size (fun k_ => some k_ ≠ (v3 : Value).ownBlock ∧ some k_ ≠ ((.slice Ao9 t371.length co9) : Value).ownBlock) v375 t374) ∧ Aside0 (Kd.R (Kd.int .i64) 3 w' w.heap.size (fun k_ => some k_ ≠ (v3 : Value).ownBlock ∧ some k_ ≠ (v375 : Value).ownBlock) (.slice Ao9 t371.length co9) t371) ∧ Aside0 (w'.heap[gb366]? = some (.cells #[.int .i64 a0_0, (.slice A0_1 l0_1.length c0_1)] 31 (0, 0))) ∧ Aside0 (Below w.heap.size w w'))
 case atStart => exact ⟨(y367), (0), (by first | rfl | (simp; done) | (simp [*]; done)), H', ⟨Nat.le_refl _⟩, ⟨by (with_reducible repeat first|apply rA|apply rN|apply rD); exact Kd.R_mono HO369.out (fun _ hk => ⟨hk.2, hk.1.2⟩)⟩, ⟨by (with_reducible repeat first|apply rA|apply rN|apply rD); exact Kd.R_mono HO376.out (fun _ hk => ⟨hk.1.2, hk.2⟩)⟩, ⟨by (with_reducible repeat first|apply rA|apply rN|apply rD); exact Kd.R_mono HO373.out (fun _ hk => ⟨hk.1.2, hk.2⟩)⟩, ⟨by (with_reducible repeat first|apply qN|apply qD|apply qA); exact BK366.out⟩, ⟨by exact bq⟩⟩
 case round =>
  clear H'
  try clear p2
  try clear c6
  try clear c8
  try clear hcz7_0
  try clear hcz7_1
  try clear hfz7_0
  try clear hfz7_1
  obtain ⟨x3_1, x19_1, rfl, HA, HK1, HO_3, HO_5, HO_17, BK366, HB⟩ := hrel
  cases gk with
  | zero => exact absurd HA.out (by simp [impl_Order_levels.l0])
  | succ k1 =>
   have H := HA.out
   clear HA
   simp only [impl_Order_levels.l0] at H
   by_cases c11 : x19_1 < (t371.length : Int)
   ·rw [if_pos c11] at H
    have c11b0 : decide (x19_1 < (t371.length : Int)) = true := decide_eq_true c11
    clear c11
    by_cases c12 : 0 ≤ x19_1
    ·rw [if_pos c12] at H
     have c12b0 : decide (0 ≤ x19_1) = true := decide_eq_true c12
     clear c12
     by_cases c13 : x19_1 < (t371.length : Int)
     ·rw [if_pos c13] at H
      have c13b0 : decide (x19_1 < (t371.length : Int)) = true := decide_eq_true c13
      clear c13
      have H' := aM H
      clear H
      have p377 : 0 ≤ (x19_1 : Int) := odt
      have q377 : x19_1 < (t371.length : Int) := odt
      obtain ⟨ad377, e377, hx377_0⟩ := Kd.at_int (Kd.R_reads' HO_17.out).2.2 x19_1 p377 q377
      cases e377
      replace p377 := eq_true p377
      replace q377 := eq_true q377
      obtain ⟨Ao14, co14, eo14⟩ := Kd.R_slice HO_5.out
      subst eo14
      go_wp2
      go_loopg [8, 25] k1 (fun kq v8 v25 w' => ∃ (x8_2 : Int) (x25_2 : Int), v8 = .int .i64 x8_2 ∧ v25 = .int .i64 x25_2 ∧ Aside0 (impl_Order_levels.l1 kq x3_1 t374 (rd t371 x19_1) x8_2 t371 (t371.length : Int) x19_1 t374 (t374.length : Int) x25_2 = some r) ∧ Aside0 (kq ≤ k1) ∧ Aside0 (Kd.R (Kd.int .i64) 3 w' w.heap.size (fun k_ => some k_ ≠ ((.slice Ao14 t374.length co14) : Value).ownBlock ∧ some k_ ≠ ((.slice (some ad377) t371.length co9) : Value).ownBlock ∧ some k_ ≠ ((.slice Ao14 t374.length co14) : Value).ownBlock) u3 x3_1) ∧ Aside0 (Kd.R (Kd.int .i64) 3 w' w.heap.size (fun k_ => some k_ ≠ (u3 : Value).ownBlock ∧ some k_ ≠ ((.slice (some ad377) t371.length co9) : Value).ownBlock) (.slice Ao14 t374.length co14) t374) ∧ Aside0 (Kd.R (Kd.int .i64) 3 w' w.heap.size (fun k_ => some k_ ≠ (u3 : Value).ownBlock ∧ some k_ ≠ ((.slice Ao14 t374.length co14) : Value).ownBlock ∧ some k_ ≠ ((.slice Ao14 t374.length co14) : Value).ownBlock) (.slice (some ad377) t371.length co9) t371) ∧ Aside0 (Kd.R (Kd.int .i64) 3 w' w.heap.size (fun k_ => some k_ ≠ (u3 : Value).ownBlock ∧ some k_ ≠ ((.slice (some ad377) t371.length co9) : Value).ownBlock) (.slice Ao14 t374.length co14) t374) ∧ Aside0 (w'.heap[gb366]? = some (.cells #[.int .i64 a0_0, (.slice A0_1 l0_1.length c0_1)] 31 (0, 0))) ∧ Aside0 (Below w.heap.size w w'))
      case atStart => exact ⟨(0), (0), (by first | rfl | (simp; done) | (simp [*]; done)), (by first | rfl | (simp; done) | (simp [*]; done)), H', ⟨Nat.le_refl _⟩, ⟨by (with_reducible repeat first|apply rA|apply rN|apply rD); exact Kd.R_mono HO_3.out (fun _ hk => ⟨hk.1, ⟨hk.2, hk.1⟩⟩)⟩, ⟨by (with_reducible repeat first|apply rA|apply rN|apply rD); exact HO_5.out⟩, ⟨by (with_reducible repeat first|apply rA|apply rN|apply rD); exact Kd.R_mono HO_17.out (fun _ hk => ⟨hk.1, ⟨hk.2, hk.2⟩⟩)⟩, ⟨by (with_reducible repeat first|apply rA|apply rN|apply rD); exact HO_5.out⟩, ⟨by (with_reducible repeat first|apply qN|apply qD|apply qA); exact BK366.out⟩, ⟨by exact bq⟩⟩
      case round =>
       clear H'
       try clear c1
       try clear p2
       try clear p3
       try clear q3
       try clear hx3
       try clear c6
       try clear c8
       try clear c11
       try clear c11b0
       try clear c12
       try clear c12b0
       try clear c13
       try clear c13b0
       try clear hcz7_0
       try clear hcz7_1
       try clear hfz7_0
       try clear hfz7_1
       try clear hx377_0
       try clear p2
       try clear p377
       try clear q377
       obtain ⟨x8_2, x25_2, rfl, rfl, HA, HK2, HO_3, HO_5, HO_17, HO_23, BK366, HB⟩ := hrel
       cases gk with
       | zero => exact absurd HA.out (by simp [impl_Order_levels.l1])
       | succ k2 =>
        have H := HA.out
        clear HA
        simp only [impl_Order_levels.l1] at H
        by_cases c15 : x25_2 < (t374.length : Int)
        ·rw [if_pos c15] at H
         have c15b0 : decide (x25_2 < (t374.length : Int)) = true := decide_eq_true c15
         clear c15
         by_cases c16 : 0 ≤ x25_2
         ·rw [if_pos c16] at H
          have c16b0 : decide (0 ≤ x25_2) = true := decide_eq_true c16
          clear c16
          by_cases c17 : x25_2 < (t374.length : Int)
          ·rw [if_pos c17] at H
           have c17b0 : decide (x25_2 < (t374.length : Int)) = true := decide_eq_true c17
           clear c17
           by_cases c18 : (rd t374 x25_2) = (rd t371 x19_1)
           ·rw [if_pos c18] at H
            have c18b0 : ((rd t374 x25_2) == (rd t371 x19_1)) = true := beq_iff_eq.mpr c18
            have c18b1 : ((rd t374 x25_2) != (rd t371 x19_1)) = false := bne_eq_false_iff_eq.mpr c18
            clear c18
            have H' := aM H
            clear H
            have p378 : 0 ≤ (x25_2 : Int) := odt
            have q378 : x25_2 < (t374.length : Int) := odt
            obtain ⟨ad378, e378, hx378_0⟩ := Kd.at_int (Kd.R_reads' HO_23.out).2.2 x25_2 p378 q378
            cases e378
            replace p378 := eq_true p378
            replace q378 := eq_true q378
            go_wp2
            go_roundg k2
            case measure => have := HK1.out; have := HK2.out; omega
            case rel => exact ⟨(x8_2), (wrap64 (x25_2 + 1)), (by first | rfl | (simp; done) | (simp [*]; done)), (by first | rfl | (simp; done) | (simp [*]; done)), H', ⟨by have := HK1.out; have := HK2.out; omega⟩, ⟨by (with_reducible repeat first|apply rA|apply rN|apply rD); exact HO_3.out⟩, ⟨by (with_reducible repeat first|apply rA|apply rN|apply rD); exact HO_5.out⟩, ⟨by (with_reducible repeat first|apply rA|apply rN|apply rD); exact HO_17.out⟩, ⟨by (with_reducible repeat first|apply rA|apply rN|apply rD); exact HO_23.out⟩, ⟨by (with_reducible repeat first|apply qN|apply qD|apply qA); exact BK366.out⟩, ⟨by exact bq⟩⟩
           ·rw [if_neg c18] at H
            have c18b0 : ((rd t374 x25_2) == (rd t371 x19_1)) = false := beq_eq_false_iff_ne.mpr c18
            have c18b1 : ((rd t374 x25_2) != (rd t371 x19_1)) = true := bne_iff_ne.mpr c18
            by_cases c19 : (Go.bits .andNot .i64 (rd t374 x25_2) (rd t371 x19_1)) = 0
            ·rw [if_pos c19] at H
             have c19b0 : ((Go.bits .andNot .i64 (rd t374 x25_2) (rd t371 x19_1)) == 0) = true := beq_iff_eq.mpr c19
             have c19b1 : ((Go.bits .andNot .i64 (rd t374 x25_2) (rd t371 x19_1)) != 0) = false := bne_eq_false_iff_eq.mpr c19
             clear c19
             have H' := aM H
             clear H
             have p378 : 0 ≤ (x25_2 : Int) := odt
             have q378 : x25_2 < (t374.length : Int) := odt
             obtain ⟨ad378, e378, hx378_0⟩ := Kd.at_int (Kd.R_reads' HO_23.out).2.2 x25_2 p378 q378
             cases e378
             replace p378 := eq_true p378
             replace q378 := eq_true q378
             go_wp2
             go_roundg k2
             case measure => have := HK1.out; have := HK2.out; omega
             case rel => exact ⟨(wrap64 (x8_2 + 1)), (wrap64 (x25_2 + 1)), (by first | rfl | (simp; done) | (simp [*]; done)), (by first | rfl | (simp; done) | (simp [*]; done)), H', ⟨by have := HK1.out; have := HK2.out; omega⟩, ⟨by (with_reducible repeat first|apply rA|apply rN|apply rD); exact HO_3.out⟩, ⟨by (with_reducible repeat first|apply rA|apply rN|apply rD); exact HO_5.out⟩, ⟨by (with_reducible repeat first|apply rA|apply rN|apply rD); exact HO_17.out⟩, ⟨by (with_reducible repeat first|apply rA|apply rN|apply rD); exact HO_23.out⟩, ⟨by (with_reducible repeat first|apply qN|apply qD|apply qA); exact BK366.out⟩, ⟨by exact bq⟩⟩
            ·rw [if_neg c19] at H
             have c19b0 : ((Go.bits .andNot .i64 (rd t374 x25_2) (rd t371 x19_1)) == 0) = false := beq_eq_false_iff_ne.mpr c19
             have c19b1 : ((Go.bits .andNot .i64 (rd t374 x25_2) (rd t371 x19_1)) != 0) = true := bne_iff_ne.mpr c19
             have H' := aM H
             clear H
             have p378 : 0 ≤ (x25_2 : Int) := odt
             have q378 : x25_2 < (t374.length : Int) := odt
             obtain ⟨ad378, e378, hx378_0⟩ := Kd.at_int (Kd.R_reads' HO_23.out).2.2 x25_2 p378 q378
             cases e378
             replace p378 := eq_true p378
             replace q378 := eq_true q378
             go_wp2
             go_roundg k2
             case measure => have := HK1.out; have := HK2.out; omega
             case rel => exact ⟨(x8_2), (wrap64 (x25_2 + 1)), (by first | rfl | (simp; done) | (simp [*]; done)), (by first | rfl | (simp; done) | (simp [*]; done)), H', ⟨by have := HK1.out; have := HK2.out; omega⟩, ⟨by (with_reducible repeat first|apply rA|apply rN|apply rD); exact HO_3.out⟩, ⟨by (with_reducible repeat first|apply rA|apply rN|apply rD); exact HO_5.out⟩, ⟨by (with_reducible repeat first|apply rA|apply rN|apply rD); exact HO_17.out⟩, ⟨by (with_reducible repeat first|apply rA|apply rN|apply rD); exact HO_23.out⟩, ⟨by (with_reducible repeat first|apply qN|apply qD|apply qA); exact BK366.out⟩, ⟨by exact bq⟩⟩
          ·rw [if_neg c17] at H
           exact absurd H (by simp)
         ·rw [if_neg c16] at H
          exact absurd H (by simp)
        ·rw [if_neg c15] at H
         have c15b0 : decide (x25_2 < (t374.length : Int)) = false := decide_eq_false c15
         clear c15
         by_cases c20 : x3_1.length < 17592186044416
         ·rw [if_pos c20] at H
          have LMc20 := aM c20
          clear c20
          obtain ⟨y379, hy379⟩ : ∃ y_ : List Int, y_ = (x3_1 ++ [x8_2]) := ⟨_, rfl⟩
          replace H : (impl_Order_levels.l0 k2 y379 t374 t371 (t371.length : Int) (wrap64 (x19_1 + 1))) = some r := by first | (rw [hy379]; with_reducible exact H) | (have H2_ := (Option.bind_some _ _).symm.trans H; rw [hy379]; with_reducible exact H2_) | (have H2_ := (Option.bind_some _ _).symm.trans H; with_reducible exact H2_) | with_reducible exact H | (rw [hy379]; exact H) | exact H
          have Ny379 := aM hy379
          clear hy379
          have H' := aM H
          clear H
          go_wp2_with (first | ((with_reducible refine gate_builtin (b := .append) (xs := #[.tmp 41, .tmp 43]) rfl ?_); at_builtin; refine Kd.R_append (Kd.int .i64) (w0 := w) w.heap.size rfl (.tmp 41) (.tmp 43) 22 3 (.int .i64 0) 8 rfl Tryd.underlying22 info3 rfl (by decide) (by omega) u3 x3_1 x8_2 [.int .i64 x8_2] (fun k_ => some k_ ≠ (.slice Ao14 t374.length co14 : Value).ownBlock ∧ some k_ ≠ (.slice (some ad377) t371.length co9 : Value).ownBlock ∧ some k_ ≠ (.slice Ao14 t374.length co14 : Value).ownBlock) (fun _ => False) rfl rfl ?aP (fun _ hk => hk.elim) ?aF ?aO ?aB ?aS ?aL ?_; (case aP => exact rfl); (case aB => exact bq); (case aF => exact (fun k_ hk => ⟨Kd.fresh' (Kd.R_lt (rQ HO_5)) k_ hk, Kd.fresh' (Kd.R_lt (rQ HO_17)) k_ hk, Kd.fresh' (Kd.R_lt (rQ HO_23)) k_ hk⟩)); (case aO => exact (rQ HO_3)); (case aS => exact (below_size bq)); (case aL => have := LMc20.out; omega); intro v380 w21 ho hb hg hat; rw [← Ny379.out] at ho; have _ := aM (Kd.R_after (ok := (fun k_ => some k_ ≠ (.slice (some ad377) t371.length co9 : Value).ownBlock)) (by (with_reducible repeat first|apply rA|apply rN|apply rD); exact Kd.R_mono HO_5.out (fun _ hk => ⟨hk.2, hk.1⟩)) hg hat); have _ := aM (Kd.R_after (ok := (fun k_ => some k_ ≠ (.slice Ao14 t374.length co14 : Value).ownBlock ∧ some k_ ≠ (.slice Ao14 t374.length co14 : Value).ownBlock)) (by (with_reducible repeat first|apply rA|apply rN|apply rD); exact Kd.R_mono HO_17.out (fun _ hk => ⟨⟨hk.2.1, hk.2.2⟩, hk.1⟩)) hg hat); have _ := aM (Kd.R_after (ok := (fun k_ => some k_ ≠ (.slice (some ad377) t371.length co9 : Value).ownBlock)) (by (with_reducible repeat first|apply rA|apply rN|apply rD); exact Kd.R_mono HO_23.out (fun _ hk => ⟨hk.2, hk.1⟩)) hg hat); have _ := aM (blk_grown (g := gb366) (o := .cells #[.int .i64 a0_0, .slice A0_1 l0_1.length c0_1] 31 (0, 0)) (qQ BK366) hg (Kd.R_ne HO_3.out BK366.out (by decide))); have _ := aM (hb); have _ := aM (ho); clear HO_5 HO_17 HO_23 BK366 HB HO_3; rename_i HO_5 HO_17 HO_23 BK366 HB HO381; clear ho hb hg hat))
          go_roundg k2
          case measure => have := HK1.out; have := HK2.out; omega
          case rel => exact ⟨(y379), (wrap64 (x19_1 + 1)), (by first | rfl | (simp; done) | (simp [*]; done)), H', ⟨by have := HK1.out; have := HK2.out; omega⟩, ⟨by (with_reducible repeat first|apply rA|apply rN|apply rD); exact Kd.R_mono HO381.out (fun _ hk => ⟨hk.1, hk.2.1⟩)⟩, ⟨by (with_reducible repeat first|apply rA|apply rN|apply rD); exact Kd.R_mono HO_5.out (fun _ hk => ⟨hk.2, hk.1⟩)⟩, ⟨by (with_reducible repeat first|apply rA|apply rN|apply rD); exact Kd.R_mono HO_17.out (fun _ hk => ⟨hk.2, hk.1.1⟩)⟩, ⟨by (with_reducible repeat first|apply qN|apply qD|apply qA); exact BK366.out⟩, ⟨by exact bq⟩⟩
         ·rw [if_neg c20] at H
          exact absurd H (by simp)
     ·rw [if_neg c13] at H
      exact absurd H (by simp)
    ·rw [if_neg c12] at H
     exact absurd H (by simp)
   ·rw [if_neg c11] at H
    have c11b0 : decide (x19_1 < (t371.length : Int)) = false := decide_eq_false c11
    clear c11
    obtain rfl := Option.some.inj H
    go_wp2
    go_ret
    exact ⟨_, by first | rfl | (simp [errW_none, errW_some] <;> rfl) | (simp [*, errW_none, errW_some] <;> rfl), by (with_reducible repeat first|apply rA|apply rN|apply rD); exact Kd.R_mono HO_3.out (fun _ hk => trivial), by exact bq⟩

mutual
def impl_Order_ends.l0 : Nat → List (S76) → List Int → List Int → Int → Int → Int → List Int → Option ((List (S76)))
 | 0, _, _, _, _, _, _, _ => none
 | k + 1, x3, x4, x13, x14, x15, x383000, x383001 => if x15 < x14 then (if 0 ≤ x15 then (if x15 < (x13.length : Int) then (impl_Order_ends.l1 k x3 x4 x15 (rd x13 x15) (rd x13 x15) x13 x14 x15 x4 (x4.length : Int) 0 x383000 x383001) else (none)) else (none)) else (some x3)
def impl_Order_ends.l1 : Nat → List (S76) → List Int → Int → Int → Int → List Int → Int → Int → List Int → Int → Int → Int → List Int → Option ((List (S76)))
 | 0, _, _, _, _, _, _, _, _, _, _, _, _, _ => none
 | k + 1, x3, x4, x5, x6, x7, x13, x14, x15, x21, x22, x23, x383000, x383001 => if x23 < x22 then (if 0 ≤ x23 then (if x23 < (x21.length : Int) then ((impl_Order_better.f x383000 x383001 x5 x23).bind fun t391 => (if t391 = true then (impl_Order_ends.l1 k x3 x4 x5 x6 x7 x13 x14 x15 x21 x22 (wrap64 (x23 + 1)) x383000 x383001) else (impl_Order_ends.l1 k x3 x4 x5 x6 (mx x7 (rd x21 x23)) x13 x14 x15 x21 x22 (wrap64 (x23 + 1)) x383000 x383001))) else (none)) else (none)) else (if x3.length < 8796093022208 then (impl_Order_ends.l0 k (x3 ++ [(⟨x6, x7⟩ : S76)]) x4 x13 x14 (wrap64 (x15 + 1)) x383000 x383001) else (none))
end
def impl_Order_ends.f (k : Nat) (a0_0 : Int) (l0_1 : List Int) : Option ((List (S76))) := (impl_Order_levels.f k a0_0 l0_1).bind fun t386 => (impl_Order_ends.l0 k (([] : List (S76))) t386 t386 (t386.length : Int) 0 a0_0 l0_1)
theorem impl_Order_ends.mono_l : ∀ k, (∀ y0 y1 y2 y3 y4 y5 y6, LeO (impl_Order_ends.l0 k y0 y1 y2 y3 y4 y5 y6) (impl_Order_ends.l0 (k + 1) y0 y1 y2 y3 y4 y5 y6)) ∧ (∀ y0 y1 y2 y3 y4 y5 y6 y7 y8 y9 y10 y11 y12, LeO (impl_Order_ends.l1 k y0 y1 y2 y3 y4 y5 y6 y7 y8 y9 y10 y11 y12) (impl_Order_ends.l1 (k + 1) y0 y1 y2 y3 y4 y5 y6 y7 y8 y9 y10 y11 y12))
 | 0 => ⟨fun _ _ _ _ _ _ _ r h => by simp [impl_Order_ends.l0] at h, fun _ _ _ _ _ _ _ _ _ _ _ _ _ r h => by simp [impl_Order_ends.l1] at h⟩
 | k + 1 => by
  obtain ⟨ih0, ih1⟩ := impl_Order_ends.mono_l k
  refine ⟨?_, ?_⟩
  ·intro y0 y1 y2 y3 y4 y5 y6
   unfold impl_Order_ends.l0
   repeat' first | with_reducible first | exact ih0 _ _ _ _ _ _ _ | exact ih1 _ _ _ _ _ _ _ _ _ _ _ _ _ | exact impl_Order_levels.mono _ _ _ | exact LeO.refl _ | exact LeO.none _ | refine LeO.ite ?_ ?_ | refine LeO.bind ?_ (fun _ => ?_)
  ·intro y0 y1 y2 y3 y4 y5 y6 y7 y8 y9 y10 y11 y12
   unfold impl_Order_ends.l1
   repeat' first | with_reducible first | exact ih0 _ _ _ _ _ _ _ | exact ih1 _ _ _ _ _ _ _ _ _ _ _ _ _ | exact impl_Order_levels.mono _ _ _ | exact LeO.refl _ | exact LeO.none _ | refine LeO.ite ?_ ?_ | refine LeO.bind ?_ (fun _ => ?_)
theorem impl_Order_ends.mono : ∀ a0 a1 k, LeO (impl_Order_ends.f k a0 a1) (impl_Order_ends.f (k + 1) a0 a1) := by
 intro a0 a1 k
 obtain ⟨ih0, ih1⟩ := impl_Order_ends.mono_l k
 unfold impl_Order_ends.f
 repeat' first | with_reducible first | exact ih0 _ _ _ _ _ _ _ | exact ih1 _ _ _ _ _ _ _ _ _ _ _ _ _ | exact impl_Order_levels.mono _ _ _ | exact LeO.refl _ | exact LeO.none _ | refine LeO.ite ?_ ?_ | refine LeO.bind ?_ (fun _ => ?_)
set_option maxHeartbeats 8000000 in
set_option maxRecDepth 100000 in
theorem impl_Order_ends.calls (k : Nat) (a0_0 : Int) (A0_1 : Option Addr) (c0_1 : Nat) (l0_1 : List Int) (r : List (S76)) (w : World) (hr0_1 : Kd.C (Kd.int .i64) w A0_1 l0_1.length l0_1) (hc0_1 : l0_1.length ≤ c0_1) (h : impl_Order_ends.f k a0_0 l0_1 = some r) :
  Calls Tryd.prog 56 #[.agg #[.int .i64 a0_0, .slice A0_1 l0_1.length c0_1]] w fun e w' => ∃ v0_ : Value, e = .returned (v0_) ∧ Kd.R k76 76 w' w.heap.size (fun _ => True) v0_ r ∧ Below w.heap.size w w' := by
 have hu31 := Tryd.underlying31
 have hu76 := Tryd.underlying76
 have HR0_1 := aM hr0_1
 have HC0_1 := aM hc0_1
 clear hr0_1 hc0_1
 have HB := aM (Below.refl w.heap.size w)
 have H : ((impl_Order_levels.f k a0_0 l0_1).bind fun t386 => (impl_Order_ends.l0 k (([] : List (S76))) t386 t386 (t386.length : Int) 0 a0_0 l0_1)) = some r := h
 clear h
 obtain ⟨y383, hy383⟩ : ∃ y_ : List (S76), y_ = (([] : List (S76))) := ⟨_, rfl⟩
 replace H : ((impl_Order_levels.f k a0_0 l0_1).bind fun t386 => (impl_Order_ends.l0 k y383 t386 t386 (t386.length : Int) 0 a0_0 l0_1)) = some r := by first | (rw [hy383]; with_reducible exact H) | (have H2_ := (Option.bind_some _ _).symm.trans H; rw [hy383]; with_reducible exact H2_) | (have H2_ := (Option.bind_some _ _).symm.trans H; with_reducible exact H2_) | with_reducible exact H | (rw [hy383]; exact H) | exact H
 have Ny383 := aM hy383
 clear hy383
 replace H := Option.bind_eq_some_iff.mp H
 obtain ⟨t386, A20, H⟩ := H
 replace H : (impl_Order_ends.l0 k y383 t386 t386 (t386.length : Int) 0 a0_0 l0_1) = some r := H
 have A2 := aM A20
 clear A20
 have H' := aM H
 clear H
 go_enter Tryd.func56, Tryd.ntmps56
 go_wp2_with (first | ((with_reducible refine gate_dst (N := 1) rfl ?_); refine bE 1 31 #[.int .i64 a0_0, .slice A0_1 l0_1.length c0_1] ?_; intro gb382 hg w3 hbox hb; have _ := aM (below_step bq hb); have _ := aM (hbox); have _ := aM ((gS hg)); have _ := aM ((gS hg)); clear HB; rename_i HB BK382 GW382 GE382; clear hb hbox hg) | ((with_reducible refine gate_dst (N := 10) rfl ?_); refine Kd.R_lit k76 _ 76 ?hg (N := 10) ?hd (xs := ([] : List (S76))) (inner := []) (ok := fun _ => True) (okp := fun _ => True) ?hr ?hp (fun _ hk => hk) trivial (Below.refl _ _) (Nat.le_refl _) (by simp) ?_; (case hd => rfl); (case hg => rfl); (case hr => first | (go_simp; done) | (go_simp; rfl)); (case hp => exact (Reps.none _ _)); intro v384 w4 ho5 hb hg_ hnew_; clear hg_ hnew_; (first | rw [← Ny383.out] at ho5 | (simp only [Int.reduceToNat] at ho5; rw [← Ny383.out] at ho5)); have _ := aM (Kd.R_lower ho5 (below_size bq)); have _ := aM (blk_below (g := gb382) (o := .cells #[.int .i64 a0_0, .slice A0_1 l0_1.length c0_1] 31 (0, 0)) (qQ BK382) hb); have _ := aM (below_step bq hb); clear BK382 HB; rename_i HO385 BK382 HB; clear hb ho5; have hcz6_0 : w4.cell? ⟨gb382, 0, none⟩ = some (.int .i64 a0_0) := (blk_cell BK382.out 0).trans rfl; have hcz6_1 : w4.cell? ⟨gb382, 1, none⟩ = some (.slice A0_1 l0_1.length c0_1) := (blk_cell BK382.out 1).trans rfl; have hfz6_0 := blk_frozen BK382.out 0; have hfz6_1 := blk_frozen BK382.out 1) | ((with_reducible refine gate_callee (f := 86) rfl ?_); refine gL (some 12) Tryd.func86 #[.agg #[.int .i64 a0_0, .slice A0_1 l0_1.length c0_1]] ?_; (with_reducible refine (impl_Order_levels.calls k a0_0 _ _ l0_1 t386 _ (cQ (Kd.C_below HR0_1.out HB.out)) HC0_1.out A2.out).mono ?_); rintro e w7 ⟨v387, rfl, ho0, hb⟩; refine ⟨_, rfl, ?_⟩; have _ := aM (Kd.R_below (rQ HO385) hb); have _ := aM (Kd.R_lower ho0 (below_size bq)); have _ := aM (blk_below (g := gb382) (o := .cells #[.int .i64 a0_0, .slice A0_1 l0_1.length c0_1] 31 (0, 0)) (qQ BK382) hb); have _ := aM (below_step bq hb); clear HO385 BK382 HB; rename_i HO385 HO388 BK382 HB; (try clear hb); (try clear hb2); (try clear hk); (try clear hi); (try clear ho0); obtain ⟨Ao8, co8, eo8⟩ := Kd.R_slice HO388.out; subst eo8))
 go_loopg [3, 15] k (fun kq v3 v15 w' => ∃ (x3_1 : List (S76)) (x15_1 : Int), v15 = .int .i64 x15_1 ∧ Aside0 (impl_Order_ends.l0 kq x3_1 t386 t386 (t386.length : Int) x15_1 a0_0 l0_1 = some r) ∧ Aside0 (kq ≤ k) ∧ Aside0 (Kd.R k76 76 w' w.heap.size (fun _ => True) v3 x3_1) ∧ Aside0 (Kd.R (Kd.int .i64) 3 w' w.heap.size (fun _ => True) (.slice Ao8 t386.length co8) t386) ∧ Aside0 (Kd.R (Kd.int .i64) 3 w' w.heap.size (fun _ => True) (.slice Ao8 t386.length co8) t386) ∧ Aside0 (w'.heap[gb382]? = some (.cells #[.int .i64 a0_0, (.slice A0_1 l0_1.length c0_1)] 31 (0, 0))) ∧ Aside0 (Below w.heap.size w w'))
 case atStart => exact ⟨(y383), (0), (by first | rfl | (simp; done) | (simp [*]; done)), H', ⟨Nat.le_refl _⟩, ⟨by (with_reducible repeat first|apply rA|apply rN|apply rD); exact HO385.out⟩, ⟨by (with_reducible repeat first|apply rA|apply rN|apply rD); exact HO388.out⟩, ⟨by (with_reducible repeat first|apply rA|apply rN|apply rD); exact HO388.out⟩, ⟨by (with_reducible repeat first|apply qN|apply qD|apply qA); exact BK382.out⟩, ⟨by exact bq⟩⟩
 case round =>
  clear H'
  try clear p2
  try clear c5
  try clear c8
  try clear hcz6_0
  try clear hcz6_1
  try clear hfz6_0
  try clear hfz6_1
  obtain ⟨x3_1, x15_1, rfl, HA, HK1, HO_3, HO_4, HO_13, BK382, HB⟩ := hrel
  cases gk with
  | zero => exact absurd HA.out (by simp [impl_Order_ends.l0])
  | succ k1 =>
   have H := HA.out
   clear HA
   simp only [impl_Order_ends.l0] at H
   by_cases c9 : x15_1 < (t386.length : Int)
   ·rw [if_pos c9] at H
    have c9b0 : decide (x15_1 < (t386.length : Int)) = true := decide_eq_true c9
    clear c9
    by_cases c10 : 0 ≤ x15_1
    ·rw [if_pos c10] at H
     have c10b0 : decide (0 ≤ x15_1) = true := decide_eq_true c10
     clear c10
     by_cases c11 : x15_1 < (t386.length : Int)
     ·rw [if_pos c11] at H
      have c11b0 : decide (x15_1 < (t386.length : Int)) = true := decide_eq_true c11
      clear c11
      have H' := aM H
      clear H
      have p389 : 0 ≤ (x15_1 : Int) := odt
      have q389 : x15_1 < (t386.length : Int) := odt
      obtain ⟨ad389, e389, hx389_0⟩ := Kd.at_int (Kd.R_reads' HO_13.out).2.2 x15_1 p389 q389
      cases e389
      replace p389 := eq_true p389
      replace q389 := eq_true q389
      go_wp2
      go_loopg [7, 23] k1 (fun kq v7 v23 w' => ∃ (x7_2 : Int) (x23_2 : Int), v7 = .int .i64 x7_2 ∧ v23 = .int .i64 x23_2 ∧ Aside0 (impl_Order_ends.l1 kq x3_1 t386 x15_1 (rd t386 x15_1) x7_2 t386 (t386.length : Int) x15_1 t386 (t386.length : Int) x23_2 a0_0 l0_1 = some r) ∧ Aside0 (kq ≤ k1) ∧ Aside0 (Kd.R k76 76 w' w.heap.size (fun _ => True) u3 x3_1) ∧ Aside0 (Kd.R (Kd.int .i64) 3 w' w.heap.size (fun _ => True) (.slice (some ad389) t386.length co8) t386) ∧ Aside0 (Kd.R (Kd.int .i64) 3 w' w.heap.size (fun _ => True) (.slice (some ad389) t386.length co8) t386) ∧ Aside0 (Kd.R (Kd.int .i64) 3 w' w.heap.size (fun _ => True) (.slice (some ad389) t386.length co8) t386) ∧ Aside0 (w'.heap[gb382]? = some (.cells #[.int .i64 a0_0, (.slice A0_1 l0_1.length c0_1)] 31 (0, 0))) ∧ Aside0 (Below w.heap.size w w'))
      case atStart => exact ⟨(rd t386 x15_1), (0), (by first | rfl | (simp; done) | (simp [*]; done)), (by first | rfl | (simp; done) | (simp [*]; done)), H', ⟨Nat.le_refl _⟩, ⟨by (with_reducible repeat first|apply rA|apply rN|apply rD); exact HO_3.out⟩, ⟨by (with_reducible repeat first|apply rA|apply rN|apply rD); exact HO_4.out⟩, ⟨by (with_reducible repeat first|apply rA|apply rN|apply rD); exact HO_13.out⟩, ⟨by (with_reducible repeat first|apply rA|apply rN|apply rD); exact HO_4.out⟩, ⟨by (with_reducible repeat first|apply qN|apply qD|apply qA); exact BK382.out⟩, ⟨by exact bq⟩⟩
      case round =>
       clear H'
       try clear c1
       try clear p2
       try clear p3
       try clear q3
       try clear hx3
       try clear c5
       try clear c8
       try clear c9
       try clear c9b0
       try clear c10
       try clear c10b0
       try clear c11
       try clear c11b0
       try clear hcz6_0
       try clear hcz6_1
       try clear hfz6_0
       try clear hfz6_1
       try clear hx389_0
       try clear p2
       try clear p389
       try clear q389
       obtain ⟨x7_2, x23_2, rfl, rfl, HA, HK2, HO_3, HO_4, HO_13, HO_21, BK382, HB⟩ := hrel
       cases gk with
       | zero => exact absurd HA.out (by simp [impl_Order_ends.l1])
       | succ k2 =>
        have H := HA.out
        clear HA
        simp only [impl_Order_ends.l1] at H
        by_cases c12 : x23_2 < (t386.length : Int)
        ·rw [if_pos c12] at H
         have c12b0 : decide (x23_2 < (t386.length : Int)) = true := decide_eq_true c12
         clear c12
         by_cases c13 : 0 ≤ x23_2
         ·rw [if_pos c13] at H
          have c13b0 : decide (0 ≤ x23_2) = true := decide_eq_true c13
          clear c13
          by_cases c14 : x23_2 < (t386.length : Int)
          ·rw [if_pos c14] at H
           have c14b0 : decide (x23_2 < (t386.length : Int)) = true := decide_eq_true c14
           clear c14
           replace H := Option.bind_eq_some_iff.mp H
           obtain ⟨t391, A150, H⟩ := H
           replace H : (if t391 = true then (impl_Order_ends.l1 k2 x3_1 t386 x15_1 (rd t386 x15_1) x7_2 t386 (t386.length : Int) x15_1 t386 (t386.length : Int) (wrap64 (x23_2 + 1)) a0_0 l0_1) else (impl_Order_ends.l1 k2 x3_1 t386 x15_1 (rd t386 x15_1) (mx x7_2 (rd t386 x23_2)) t386 (t386.length : Int) x15_1 t386 (t386.length : Int) (wrap64 (x23_2 + 1)) a0_0 l0_1)) = some r := H
           have A15 := aM A150
           clear A150
           by_cases c16 : t391 = true
           ·subst c16
            have H1 : (impl_Order_ends.l1 k2 x3_1 t386 x15_1 (rd t386 x15_1) x7_2 t386 (t386.length : Int) x15_1 t386 (t386.length : Int) (wrap64 (x23_2 + 1)) a0_0 l0_1) = some r := by rw [if_pos rfl] at H; exact H
            clear H
            have H := H1
            clear H1
            have H' := aM H
            clear H
            have p390 : 0 ≤ (x23_2 : Int) := odt
            have q390 : x23_2 < (t386.length : Int) := odt
            obtain ⟨ad390, e390, hx390_0⟩ := Kd.at_int (Kd.R_reads' HO_21.out).2.2 x23_2 p390 q390
            obtain rfl : ad389 = ad390 := (by injection e390)
            replace p390 := eq_true p390
            replace q390 := eq_true q390
            have hcz17_0 : wr.cell? ⟨gb382, 0, none⟩ = some (.int .i64 a0_0) := (blk_cell BK382.out 0).trans rfl
            have hcz17_1 : wr.cell? ⟨gb382, 1, none⟩ = some (.slice A0_1 l0_1.length c0_1) := (blk_cell BK382.out 1).trans rfl
            have hfz17_0 := blk_frozen BK382.out 0
            have hfz17_1 := blk_frozen BK382.out 1
            go_wp2_with (first | ((with_reducible refine gate_callee (f := 87) rfl ?_); refine gL (some 31) Tryd.func87 #[.agg #[.int .i64 a0_0, .slice A0_1 l0_1.length c0_1], .int .i64 x15_1, .int .i64 x23_2] ?_; (with_reducible refine (impl_Order_better.calls a0_0 _ _ l0_1 x15_1 x23_2 true _ (cQ (Kd.C_below HR0_1.out HB.out)) HC0_1.out A15.out).mono ?_); rintro e w18 ⟨rfl, hb⟩; refine ⟨_, rfl, ?_⟩; have _ := aM (Kd.R_below (rQ HO_3) hb); have _ := aM (Kd.R_below (rQ HO_4) hb); have _ := aM (Kd.R_below (rQ HO_13) hb); have _ := aM (Kd.R_below (rQ HO_21) hb); have _ := aM (blk_below (g := gb382) (o := .cells #[.int .i64 a0_0, .slice A0_1 l0_1.length c0_1] 31 (0, 0)) (qQ BK382) hb); have _ := aM (below_step bq hb); clear HO_3 HO_4 HO_13 HO_21 BK382 HB; rename_i HO_3 HO_4 HO_13 HO_21 BK382 HB; (try clear hb); (try clear hb2); (try clear hk); (try clear hi)))
            go_roundg k2
            case measure => have := HK1.out; have := HK2.out; omega
            case rel => exact ⟨(x7_2), (wrap64 (x23_2 + 1)), (by first | rfl | (simp; done) | (simp [*]; done)), (by first | rfl | (simp; done) | (simp [*]; done)), H', ⟨by have := HK1.out; have := HK2.out; omega⟩, ⟨by (with_reducible repeat first|apply rA|apply rN|apply rD); exact HO_3.out⟩, ⟨by (with_reducible repeat first|apply rA|apply rN|apply rD); exact HO_4.out⟩, ⟨by (with_reducible repeat first|apply rA|apply rN|apply rD); exact HO_13.out⟩, ⟨by (with_reducible repeat first|apply rA|apply rN|apply rD); exact HO_21.out⟩, ⟨by (with_reducible repeat first|apply qN|apply qD|apply qA); exact BK382.out⟩, ⟨by exact bq⟩⟩
           ·replace c16 := Bool.eq_false_iff.mpr c16
            subst c16
            have H1 : (impl_Order_ends.l1 k2 x3_1 t386 x15_1 (rd t386 x15_1) (mx x7_2 (rd t386 x23_2)) t386 (t386.length : Int) x15_1 t386 (t386.length : Int) (wrap64 (x23_2 + 1)) a0_0 l0_1) = some r := by rw [if_neg (show ¬ (false = true) by decide)] at H; exact H
            clear H
            have H := H1
            clear H1
            obtain ⟨ji19, hji19⟩ : ∃ j_ : Int, (mx x7_2 (rd t386 x23_2)) = j_ := ⟨_, rfl⟩
            replace H : (impl_Order_ends.l1 k2 x3_1 t386 x15_1 (rd t386 x15_1) ji19 t386 (t386.length : Int) x15_1 t386 (t386.length : Int) (wrap64 (x23_2 + 1)) a0_0 l0_1) = some r := by first | (rw [hji19] at H; exact H) | (simp only [hji19] at H ⊢; exact H)
            (try rw [hji19] at A15)
            have hji19_ : (if x7_2 < (rd t386 x23_2) then (rd t386 x23_2) else x7_2) = ji19 := hji19
            have H' := aM H
            clear H
            have p390 : 0 ≤ (x23_2 : Int) := odt
            have q390 : x23_2 < (t386.length : Int) := odt
            obtain ⟨ad390, e390, hx390_0⟩ := Kd.at_int (Kd.R_reads' HO_21.out).2.2 x23_2 p390 q390
            obtain rfl : ad389 = ad390 := (by injection e390)
            replace p390 := eq_true p390
            replace q390 := eq_true q390
            have hcz20_0 : wr.cell? ⟨gb382, 0, none⟩ = some (.int .i64 a0_0) := (blk_cell BK382.out 0).trans rfl
            have hcz20_1 : wr.cell? ⟨gb382, 1, none⟩ = some (.slice A0_1 l0_1.length c0_1) := (blk_cell BK382.out 1).trans rfl
            have hfz20_0 := blk_frozen BK382.out 0
            have hfz20_1 := blk_frozen BK382.out 1
            go_wp2_with (first | ((with_reducible refine gate_callee (f := 87) rfl ?_); refine gL (some 31) Tryd.func87 #[.agg #[.int .i64 a0_0, .slice A0_1 l0_1.length c0_1], .int .i64 x15_1, .int .i64 x23_2] ?_; (with_reducible refine (impl_Order_better.calls a0_0 _ _ l0_1 x15_1 x23_2 false _ (cQ (Kd.C_below HR0_1.out HB.out)) HC0_1.out A15.out).mono ?_); rintro e w21 ⟨rfl, hb⟩; refine ⟨_, rfl, ?_⟩; have _ := aM (Kd.R_below (rQ HO_3) hb); have _ := aM (Kd.R_below (rQ HO_4) hb); have _ := aM (Kd.R_below (rQ HO_13) hb); have _ := aM (Kd.R_below (rQ HO_21) hb); have _ := aM (blk_below (g := gb382) (o := .cells #[.int .i64 a0_0, .slice A0_1 l0_1.length c0_1] 31 (0, 0)) (qQ BK382) hb); have _ := aM (below_step bq hb); clear HO_3 HO_4 HO_13 HO_21 BK382 HB; rename_i HO_3 HO_4 HO_13 HO_21 BK382 HB; (try clear hb); (try clear hb2); (try clear hk); (try clear hi)))
            go_roundg k2
            case measure => have := HK1.out; have := HK2.out; omega
            case rel => exact ⟨(ji19), (wrap64 (x23_2 + 1)), (by first | rfl | (simp; done) | (simp only [← hji19] <;> (first | rfl | simp)) | (simp [*]; done)), (by first | rfl | (simp; done) | (simp [*]; done)), H', ⟨by have := HK1.out; have := HK2.out; omega⟩, ⟨by (with_reducible repeat first|apply rA|apply rN|apply rD); exact HO_3.out⟩, ⟨by (with_reducible repeat first|apply rA|apply rN|apply rD); exact HO_4.out⟩, ⟨by (with_reducible repeat first|apply rA|apply rN|apply rD); exact HO_13.out⟩, ⟨by (with_reducible repeat first|apply rA|apply rN|apply rD); exact HO_21.out⟩, ⟨by (with_reducible repeat first|apply qN|apply qD|apply qA); exact BK382.out⟩, ⟨by exact bq⟩⟩
          ·rw [if_neg c14] at H
           exact absurd H (by simp)
         ·rw [if_neg c13] at H
          exact absurd H (by simp)
        ·rw [if_neg c12] at H
         have c12b0 : decide (x23_2 < (t386.length : Int)) = false := decide_eq_false c12
         clear c12
         by_cases c22 : x3_1.length < 8796093022208
         ·rw [if_pos c22] at H
          have LMc22 := aM c22
          clear c22
          obtain ⟨y392, hy392⟩ : ∃ y_ : List (S76), y_ = (x3_1 ++ [(⟨(rd t386 x15_1), x7_2⟩ : S76)]) := ⟨_, rfl⟩
          replace H : (impl_Order_ends.l0 k2 y392 t386 t386 (t386.length : Int) (wrap64 (x15_1 + 1)) a0_0 l0_1) = some r := by first | (rw [hy392]; with_reducible exact H) | (have H2_ := (Option.bind_some _ _).symm.trans H; rw [hy392]; with_reducible exact H2_) | (have H2_ := (Option.bind_some _ _).symm.trans H; with_reducible exact H2_) | with_reducible exact H | (rw [hy392]; exact H) | exact H
          have Ny392 := aM hy392
          clear hy392
          have H' := aM H
          clear H
          go_wp2_with (first | ((with_reducible refine gate_builtin (b := .append) (xs := #[.tmp 37, .tmp 41]) rfl ?_); at_builtin; refine Kd.R_append k76 (w0 := w) w.heap.size rfl (.tmp 37) (.tmp 41) 48 76 (.agg #[(.int .i64 0), (.int .i64 0)]) 16 rfl Tryd.underlying48 info76 rfl (by decide) (by omega) u3 x3_1 (⟨(rd t386 x15_1), x7_2⟩ : S76) [.int .i64 (rd t386 x15_1), .int .i64 x7_2] (fun _ => True) (fun _ => False) rfl rfl ?aP (fun _ hk => hk.elim) ?aF ?aO ?aB ?aS ?aL ?_; (case aP => exact k76_mkM _ _ _ (⟨(rd t386 x15_1), x7_2⟩ : S76)); (case aB => exact bq); (case aF => exact (fun _ _ => trivial)); (case aO => exact (rQ HO_3)); (case aS => exact (below_size bq)); (case aL => have := LMc22.out; omega); intro v393 w23 ho hb hg hat; rw [← Ny392.out] at ho; have _ := aM (Kd.R_over' (rQ HO_4) (Kd.R_typed (rQ HO_3)) (by decide) hg); have _ := aM (Kd.R_over' (rQ HO_13) (Kd.R_typed (rQ HO_3)) (by decide) hg); have _ := aM (Kd.R_over' (rQ HO_21) (Kd.R_typed (rQ HO_3)) (by decide) hg); have _ := aM (blk_grown (g := gb382) (o := .cells #[.int .i64 a0_0, .slice A0_1 l0_1.length c0_1] 31 (0, 0)) (qQ BK382) hg (Kd.R_ne HO_3.out BK382.out (by decide))); have _ := aM (hb); have _ := aM (ho); clear HO_4 HO_13 HO_21 BK382 HB HO_3; rename_i HO_4 HO_13 HO_21 BK382 HB HO394; clear ho hb hg hat))
          go_roundg k2
          case measure => have := HK1.out; have := HK2.out; omega
          case rel => exact ⟨(y392), (wrap64 (x15_1 + 1)), (by first | rfl | (simp; done) | (simp [*]; done)), H', ⟨by have := HK1.out; have := HK2.out; omega⟩, ⟨by (with_reducible repeat first|apply rA|apply rN|apply rD); exact HO394.out⟩, ⟨by (with_reducible repeat first|apply rA|apply rN|apply rD); exact HO_4.out⟩, ⟨by (with_reducible repeat first|apply rA|apply rN|apply rD); exact HO_13.out⟩, ⟨by (with_reducible repeat first|apply qN|apply qD|apply qA); exact BK382.out⟩, ⟨by exact bq⟩⟩
         ·rw [if_neg c22] at H
          exact absurd H (by simp)
     ·rw [if_neg c11] at H
      exact absurd H (by simp)
    ·rw [if_neg c10] at H
     exact absurd H (by simp)
   ·rw [if_neg c9] at H
    have c9b0 : decide (x15_1 < (t386.length : Int)) = false := decide_eq_false c9
    clear c9
    obtain rfl := Option.some.inj H
    go_wp2
    go_ret
    exact ⟨_, by first | rfl | (simp [errW_none, errW_some] <;> rfl) | (simp [*, errW_none, errW_some] <;> rfl), by (with_reducible repeat first|apply rA|apply rN|apply rD); exact HO_3.out, by exact bq⟩

def impl_Order_magnitude.f (k : Nat) (a0_0 : Int) (l0_1 : List Int) : Option (Int) := (impl_Order_levels.f k a0_0 l0_1).bind fun t396 => ((impl_different.f t396).bind fun t399 => (some (t399.length : Int)))
theorem impl_Order_magnitude.mono : ∀ a0 a1 k, LeO (impl_Order_magnitude.f k a0 a1) (impl_Order_magnitude.f (k + 1) a0 a1) := by
 intro a0 a1 k
 unfold impl_Order_magnitude.f
 repeat' first | with_reducible first | exact impl_Order_levels.mono _ _ _ | exact LeO.refl _ | exact LeO.none _ | refine LeO.ite ?_ ?_ | refine LeO.bind ?_ (fun _ => ?_)
set_option maxHeartbeats 8000000 in
set_option maxRecDepth 100000 in
theorem impl_Order_magnitude.calls (k : Nat) (a0_0 : Int) (A0_1 : Option Addr) (c0_1 : Nat) (l0_1 : List Int) (r : Int) (w : World) (hr0_1 : Kd.C (Kd.int .i64) w A0_1 l0_1.length l0_1) (hc0_1 : l0_1.length ≤ c0_1) (h : impl_Order_magnitude.f k a0_0 l0_1 = some r) :
  Calls Tryd.prog 57 #[.agg #[.int .i64 a0_0, .slice A0_1 l0_1.length c0_1]] w fun e w' => e = .returned (.int .i64 r) ∧ Below w.heap.size w w' := by
 have hu31 := Tryd.underlying31
 have HR0_1 := aM hr0_1
 have HC0_1 := aM hc0_1
 clear hr0_1 hc0_1
 have HB := aM (Below.refl w.heap.size w)
 have H : ((impl_Order_levels.f k a0_0 l0_1).bind fun t396 => ((impl_different.f t396).bind fun t399 => (some (t399.length : Int)))) = some r := h
 clear h
 replace H := Option.bind_eq_some_iff.mp H
 obtain ⟨t396, A20, H⟩ := H
 replace H : ((impl_different.f t396).bind fun t399 => (some (t399.length : Int))) = some r := H
 have A2 := aM A20
 clear A20
 replace H := Option.bind_eq_some_iff.mp H
 obtain ⟨t399, A30, H⟩ := H
 replace H : (some (t399.length : Int)) = some r := H
 have A3 := aM A30
 clear A30
 obtain rfl := Option.some.inj H
 go_enter Tryd.func57, Tryd.ntmps57
 go_wp2_with (first | ((with_reducible refine gate_dst (N := 1) rfl ?_); refine bE 1 31 #[.int .i64 a0_0, .slice A0_1 l0_1.length c0_1] ?_; intro gb395 hg w4 hbox hb; have _ := aM (below_step bq hb); have _ := aM (hbox); have _ := aM ((gS hg)); have _ := aM ((gS hg)); clear HB; rename_i HB BK395 GW395 GE395; clear hb hbox hg; have hcz5_0 : w4.cell? ⟨gb395, 0, none⟩ = some (.int .i64 a0_0) := (blk_cell BK395.out 0).trans rfl; have hcz5_1 : w4.cell? ⟨gb395, 1, none⟩ = some (.slice A0_1 l0_1.length c0_1) := (blk_cell BK395.out 1).trans rfl; have hfz5_0 := blk_frozen BK395.out 0; have hfz5_1 := blk_frozen BK395.out 1) | ((with_reducible refine gate_callee (f := 86) rfl ?_); refine gL (some 4) Tryd.func86 #[.agg #[.int .i64 a0_0, .slice A0_1 l0_1.length c0_1]] ?_; (with_reducible refine (impl_Order_levels.calls k a0_0 _ _ l0_1 t396 _ (cQ (Kd.C_below HR0_1.out HB.out)) HC0_1.out A2.out).mono ?_); rintro e w6 ⟨v397, rfl, ho0, hb⟩; refine ⟨_, rfl, ?_⟩; have _ := aM (Kd.R_lower ho0 (below_size bq)); have _ := aM (blk_below (g := gb395) (o := .cells #[.int .i64 a0_0, .slice A0_1 l0_1.length c0_1] 31 (0, 0)) (qQ BK395) hb); have _ := aM (below_step bq hb); clear BK395 HB; rename_i HO398 BK395 HB; (try clear hb); (try clear hb2); (try clear hk); (try clear hi); (try clear ho0); obtain ⟨Ao7, co7, eo7⟩ := Kd.R_slice HO398.out; subst eo7) | ((with_reducible refine gate_callee (f := 88) rfl ?_); refine gL (some 5) Tryd.func88 #[.slice Ao7 t396.length co7] ?_; (with_reducible refine (impl_different.calls _ _ t396 t399 _ (cQ ((Kd.R_reads' HO398.out).2.2)) ((Kd.R_reads' HO398.out).2.1) A3.out).mono ?_); rintro e w8 ⟨v400, rfl, ho0, hb⟩; refine ⟨_, rfl, ?_⟩; have _ := aM (Kd.R_elder' (rQ HO398) (Kd.R_base ho0) hb); have _ := aM (Kd.R_lower (Kd.R_new' ho0 (Kd.R_lt (rQ HO398))) (below_size bq)); have _ := aM (blk_below (g := gb395) (o := .cells #[.int .i64 a0_0, .slice A0_1 l0_1.length c0_1] 31 (0, 0)) (qQ BK395) hb); have _ := aM (below_step bq hb); clear HO398 BK395 HB; rename_i HO398 HO401 BK395 HB; (try clear hb); (try clear hb2); (try clear hk); (try clear hi); (try clear ho0); obtain ⟨Ao9, co9, eo9⟩ := Kd.R_slice HO401.out; subst eo9))
 go_ret
 exact ⟨by first | rfl | (simp [errW_none, errW_some] <;> rfl) | (simp [*, errW_none, errW_some] <;> rfl), by exact bq⟩

end Go.Proofs.YtcodionjhcmfhaaDoor.Ao
