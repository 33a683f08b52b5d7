-- Written by hook.py, a program of this session (wip/), which runs the kit's print.py with its own parts; Lean checks it.
import Derived.Test.YtcodionjhcmfhaaDoorMo0
import Derived.Test.YtcodionjhcmfhaaDoorMo8
import Derived.Test.YtcodionjhcmfhaaDoorMo11
import Derived.Test.YtcodionjhcmfhaaDoorMoXSq
namespace Go.Proofs.YtcodionjhcmfhaaDoor.Mo
open Go.RowKit Go.Proofs.YtcodionjhcmfhaaDoorW.PrintWords Go.Proofs.YtcodionjhcmfhaaDoorW.PrintLast Go.Proofs.YtcodionjhcmfhaaDoorW.PrintMore Go.Proofs.YtcodionjhcmfhaaDoor.Sq
attribute [local go_sem] max2_int min2_int max_two min_two max_three min_three max_four min_four   -- for this text's walks alone
set_option linter.unusedVariables false
set_option linter.unusedSimpArgs false

mutual
def impl_Order_levels.l0 : Nat → List Int → List Int → List Int → Int → Int → Option (List Int)
 | 0, _, _, _, _, _ => none
 | k + 1, x3, x5, x17, x18, x19 => if x19 < x18 then (if 0 ≤ x19 then (if x19 < (x17.length : Int) then (impl_Order_levels.l1 k x3 x5 (rd x17 x19) 0 x17 x18 x19 x5 (x5.length : Int) 0) else (none)) else (none)) else (some x3)
def impl_Order_levels.l1 : Nat → List Int → List Int → Int → Int → List Int → Int → Int → List Int → Int → Int → Option (List Int)
 | 0, _, _, _, _, _, _, _, _, _, _ => none
 | k + 1, x3, x5, x7, x8, x17, x18, x19, x23, x24, x25 => if x25 < x24 then (if 0 ≤ x25 then (if x25 < (x23.length : Int) then (if (rd x23 x25) = x7 then (impl_Order_levels.l1 k x3 x5 x7 x8 x17 x18 x19 x23 x24 (wrap64 (x25 + 1))) else (if (Go.bits .andNot .i64 (rd x23 x25) x7) = 0 then (impl_Order_levels.l1 k x3 x5 x7 (wrap64 (x8 + 1)) x17 x18 x19 x23 x24 (wrap64 (x25 + 1))) else (impl_Order_levels.l1 k x3 x5 x7 x8 x17 x18 x19 x23 x24 (wrap64 (x25 + 1))))) else (none)) else (none)) else (if x3.length < 17592186044416 then (impl_Order_levels.l0 k (x3 ++ [x8]) x5 x17 x18 (wrap64 (x19 + 1))) else (none))
end
def impl_Order_levels.f (k : Nat) (a0_0 : Int) (l0_1 : List Int) : Option (List Int) := (impl_Order_mirror.f a0_0 l0_1).bind fun bt279 => ((impl_different.f bt279.2).bind fun t283 => (impl_Order_levels.l0 k (([] : List Int)) t283 bt279.2 (bt279.2.length : Int) 0))
set_option maxHeartbeats 8000000 in
set_option maxRecDepth 100000 in
theorem impl_Order_levels.calls (k : Nat) (a0_0 : Int) (A0_1 : Option Addr) (c0_1 : Nat) (l0_1 : List Int) (r : List Int) (w : World) (hr0_1 : Kd.C (Kd.int .i64) w A0_1 l0_1.length l0_1) (hc0_1 : l0_1.length ≤ c0_1) (h : impl_Order_levels.f k a0_0 l0_1 = some r) :
  Calls Tryd.prog 86 #[.agg #[.int .i64 a0_0, .slice A0_1 l0_1.length c0_1]] w fun e w' => ∃ v0_ : Value, e = .returned (v0_) ∧ Kd.R (Kd.int .i64) 3 w' w.heap.size (fun _ => True) v0_ r ∧ Below w.heap.size w w' := by
 have hu31 := Tryd.underlying31
 have hfd : ∀ (w_ : World) (a_ b_ : Value), (Instr.field 31 (.agg #[a_, b_]) 1).run Tryd.prog w_ = .ok b_ w_ := fun _ _ _ => by first | rfl | kernel_rfl
 have HR0_1 := aM hr0_1
 have HC0_1 := aM hc0_1
 clear hr0_1 hc0_1
 have HB := aM (Below.refl w.heap.size w)
 have H : ((impl_Order_mirror.f a0_0 l0_1).bind fun bt279 => ((impl_different.f bt279.2).bind fun t283 => (impl_Order_levels.l0 k (([] : List Int)) t283 bt279.2 (bt279.2.length : Int) 0))) = some r := h
 clear h
 obtain ⟨y276, hy276⟩ : ∃ y_ : List Int, y_ = (([] : List Int)) := ⟨_, rfl⟩
 replace H : ((impl_Order_mirror.f a0_0 l0_1).bind fun bt279 => ((impl_different.f bt279.2).bind fun t283 => (impl_Order_levels.l0 k y276 t283 bt279.2 (bt279.2.length : Int) 0))) = some r := by first | (rw [hy276]; with_reducible exact H) | (have H2_ := (Option.bind_some _ _).symm.trans H; rw [hy276]; with_reducible exact H2_) | (have H2_ := (Option.bind_some _ _).symm.trans H; with_reducible exact H2_) | with_reducible exact H | (rw [hy276]; exact H) | exact H
 have Ny276 := aM hy276
 clear hy276
 replace H := bS H
 obtain ⟨⟨t279, t280⟩, A2, H⟩ := H
 try dsimp only at H
 replace H := bS H
 obtain ⟨t283, A3, H⟩ := H
 try dsimp only at H
 have H' := aM H
 clear H
 go_enter Tryd.func86, Tryd.ntmps86
 go_wp2_with (first | ((with_reducible refine gate_dst (N := 1) rfl ?_); refine bE 1 31 #[.int .i64 a0_0, .slice A0_1 l0_1.length c0_1] ?_; intro gb275 hg w4 hbox hb; have _ := aM (below_step bq hb); have _ := aM (hbox); have _ := aM ((gS hg)); have _ := aM ((gS hg)); clear HB; rename_i HB BK275 GW275 GE275; clear hb hbox hg) | ((with_reducible refine gate_dst (N := 11) rfl ?_); refine Kd.R_lit (Kd.int .i64) _ 3 ?hg (N := 11) ?hd (xs := ([] : List Int)) (inner := []) (ok := fun _ => True) (okp := fun _ => True) ?hr ?hp (fun _ hk => hk) trivial (Below.refl _ _) (Nat.le_refl _) (by simp) ?_; (case hd => rfl); (case hg => rfl); (case hr => first | (go_simp; done) | (go_simp; rfl)); (case hp => exact (Reps.none _ _)); intro v277 w5 ho6 hb hg_ hnew_; clear hg_ hnew_; (first | rw [← Ny276.out] at ho6 | (simp only [Int.reduceToNat] at ho6; rw [← Ny276.out] at ho6)); have _ := aM (Kd.R_lower ho6 (below_size bq)); have _ := aM (blk_below (qQ BK275) hb); have _ := aM (below_step bq hb); clear BK275 HB; rename_i HO278 BK275 HB; clear hb ho6; have hcz7_0 := zc20 BK275; have hcz7_1 := zc21 BK275; have hfz7_0 := blk_frozen BK275.out 0; have hfz7_1 := blk_frozen BK275.out 1) | ((with_reducible refine gate_callee (f := 62) rfl ?_); refine gL (some 13) Tryd.func62 #[.agg #[.int .i64 a0_0, .slice A0_1 l0_1.length c0_1]] ?_; (with_reducible refine (impl_Order_mirror.calls a0_0 _ _ l0_1 t279 t280 _ (cQ (Kd.C_below HR0_1.out HB.out)) HC0_1.out A2.out).mono ?_); rintro e w8 ⟨v281, rfl, ho0, hb⟩; refine ⟨_, rfl, ?_⟩; have _ := aM (Kd.R_elder' (rQ HO278) (Kd.R_base ho0) hb); have _ := aM (Kd.R_lower (Kd.R_new' ho0 (Kd.R_lt (rQ HO278))) (below_size bq)); have _ := aM (blk_below (qQ BK275) hb); have _ := aM (below_step bq hb); clear HO278 BK275 HB; rename_i HO278 HO282 BK275 HB; (try clear hb); (try clear hb2); (try clear hk); (try clear hi); (try clear ho0); obtain ⟨Ao9, co9, eo9⟩ := Kd.R_slice HO282.out; subst eo9) | ((with_reducible refine gate_callee (f := 88) rfl ?_); refine gL (some 16) Tryd.func88 #[.slice Ao9 t280.length co9] ?_; (with_reducible refine (impl_different.calls _ _ t280 t283 _ (cQ ((Kd.R_reads' HO282.out).2.2)) ((Kd.R_reads' HO282.out).2.1) A3.out).mono ?_); rintro e w10 ⟨v284, rfl, ho0, hb⟩; refine ⟨_, rfl, ?_⟩; have _ := aM (Kd.R_elder' (rQ HO278) (Kd.R_base ho0) hb); have _ := aM (Kd.R_elder' (rQ HO282) (Kd.R_base ho0) hb); have _ := aM (Kd.R_lower (Kd.R_new' (Kd.R_new' ho0 (Kd.R_lt (rQ HO278))) (Kd.R_lt (rQ HO282))) (below_size bq)); have _ := aM (blk_below (qQ BK275) hb); have _ := aM (below_step bq hb); clear HO278 HO282 BK275 HB; rename_i HO278 HO282 HO285 BK275 HB; (try clear hb); (try clear hb2); (try clear hk); (try clear hi); (try clear ho0)))
 go_loopg [3, 19] k (fun kq v3 v19 w' => ∃ (x3_1 : List Int) (x19_1 : Int), v19 = .int .i64 x19_1 ∧ Aside0 (impl_Order_levels.l0 kq x3_1 t283 t280 (t280.length : Int) x19_1 = some r) ∧ Aside0 (kq ≤ k) ∧ Aside0 (Kd.R (Kd.int .i64) 3 w' w.heap.size (fun k_ => some k_ ≠ (v284 : Value).ownBlock ∧ some k_ ≠ ((.slice Ao9 t280.length co9) : Value).ownBlock) v3 x3_1) ∧ Aside0 (Kd.R (Kd.int .i64) 3 w' w.heap.size (fun k_ => some k_ ≠ (v3 : Value).ownBlock ∧ some k_ ≠ ((.slice Ao9 t280.length co9) : Value).ownBlock) v284 t283) ∧ Aside0 (Kd.R (Kd.int .i64) 3 w' w.heap.size (fun k_ => some k_ ≠ (v3 : Value).ownBlock ∧ some k_ ≠ (v284 : Value).ownBlock) (.slice Ao9 t280.length co9) t280) ∧ Aside0 (w'.heap[gb275]? = some (.cells #[.int .i64 a0_0, (.slice A0_1 l0_1.length c0_1)] 31 (0, 0))) ∧ Aside0 (Below w.heap.size w w'))
 case atStart => exact ⟨(y276), (0), eR, H', ⟨Nat.le_refl _⟩, ⟨by (with_reducible repeat first|apply rA|apply rN|apply rD); exact Kd.R_mono HO278.out (fun _ hk => ⟨hk.2, hk.1.2⟩)⟩, ⟨by (with_reducible repeat first|apply rA|apply rN|apply rD); exact Kd.R_mono HO285.out (fun _ hk => ⟨hk.1.2, hk.2⟩)⟩, ⟨by (with_reducible repeat first|apply rA|apply rN|apply rD); exact Kd.R_mono HO282.out (fun _ hk => ⟨hk.1.2, hk.2⟩)⟩, ⟨qQ BK275⟩, ⟨bq⟩⟩
 case round =>
  clear H'
  try clear p2
  try clear c6
  try clear c8
  try clear hcz7_0
  try clear hcz7_1
  try clear hfz7_0
  try clear hfz7_1
  obtain ⟨x3_1, x19_1, rfl, HA, HK1, HO_3, HO_5, HO_17, BK275, HB⟩ := hrel
  cases gk with
  | zero => exact absurd HA.out (by simp [impl_Order_levels.l0])
  | succ k1 =>
   have H := HA.out
   clear HA
   simp only [impl_Order_levels.l0] at H
   by_cases c11 : x19_1 < (t280.length : Int)
   ·rw [if_pos c11] at H
    have c11b0 := decide_eq_true c11
    clear c11
    replace H := iD2 H
    obtain ⟨c12b0, c13b0, H⟩ := H
    have H' := aM H
    clear H
    have p286 : 0 ≤ (x19_1 : Int) := odt
    have q286 : x19_1 < (t280.length : Int) := odt
    obtain ⟨ad286, e286, hx286_0⟩ := Kd.at_int (Kd.R_reads' HO_17.out).2.2 x19_1 p286 q286
    cases e286
    replace p286 := eq_true p286
    replace q286 := eq_true q286
    obtain ⟨Ao14, co14, eo14⟩ := Kd.R_slice HO_5.out
    subst eo14
    go_wp2
    go_loopg [8, 25] k1 (fun kq v8 v25 w' => ∃ (x8_2 : Int) (x25_2 : Int), v8 = .int .i64 x8_2 ∧ v25 = .int .i64 x25_2 ∧ Aside0 (impl_Order_levels.l1 kq x3_1 t283 (rd t280 x19_1) x8_2 t280 (t280.length : Int) x19_1 t283 (t283.length : Int) x25_2 = some r) ∧ Aside0 (kq ≤ k1) ∧ Aside0 (Kd.R (Kd.int .i64) 3 w' w.heap.size (fun k_ => some k_ ≠ ((.slice Ao14 t283.length co14) : Value).ownBlock ∧ some k_ ≠ ((.slice (some ad286) t280.length co9) : Value).ownBlock ∧ some k_ ≠ ((.slice Ao14 t283.length co14) : Value).ownBlock) u3 x3_1) ∧ Aside0 (Kd.R (Kd.int .i64) 3 w' w.heap.size (fun k_ => some k_ ≠ (u3 : Value).ownBlock ∧ some k_ ≠ ((.slice (some ad286) t280.length co9) : Value).ownBlock) (.slice Ao14 t283.length co14) t283) ∧ Aside0 (Kd.R (Kd.int .i64) 3 w' w.heap.size (fun k_ => some k_ ≠ (u3 : Value).ownBlock ∧ some k_ ≠ ((.slice Ao14 t283.length co14) : Value).ownBlock ∧ some k_ ≠ ((.slice Ao14 t283.length co14) : Value).ownBlock) (.slice (some ad286) t280.length co9) t280) ∧ Aside0 (Kd.R (Kd.int .i64) 3 w' w.heap.size (fun k_ => some k_ ≠ (u3 : Value).ownBlock ∧ some k_ ≠ ((.slice (some ad286) t280.length co9) : Value).ownBlock) (.slice Ao14 t283.length co14) t283) ∧ Aside0 (w'.heap[gb275]? = some (.cells #[.int .i64 a0_0, (.slice A0_1 l0_1.length c0_1)] 31 (0, 0))) ∧ Aside0 (Below w.heap.size w w'))
    case atStart => exact ⟨(0), (0), eR, eR, H', ⟨Nat.le_refl _⟩, ⟨by (with_reducible repeat first|apply rA|apply rN|apply rD); exact Kd.R_mono HO_3.out (fun _ hk => ⟨hk.1, ⟨hk.2, hk.1⟩⟩)⟩, ⟨rQ HO_5⟩, ⟨by (with_reducible repeat first|apply rA|apply rN|apply rD); exact Kd.R_mono HO_17.out (fun _ hk => ⟨hk.1, ⟨hk.2, hk.2⟩⟩)⟩, ⟨rQ HO_5⟩, ⟨qQ BK275⟩, ⟨bq⟩⟩
    case round =>
     clear H'
     try clear c1
     try clear p2
     try clear q2
     try clear hx2
     try clear c6
     try clear c8
     try clear c11
     try clear c11b0
     try clear c12
     try clear c12b0
     try clear c13
     try clear c13b0
     try clear hcz7_0
     try clear hcz7_1
     try clear hfz7_0
     try clear hfz7_1
     try clear hx286_0
     try clear p2
     try clear p286
     try clear q286
     obtain ⟨x8_2, x25_2, rfl, rfl, HA, HK2, HO_3, HO_5, HO_17, HO_23, BK275, HB⟩ := hrel
     cases gk with
     | zero => exact absurd HA.out (by simp [impl_Order_levels.l1])
     | succ k2 =>
      have H := HA.out
      clear HA
      simp only [impl_Order_levels.l1] at H
      by_cases c15 : x25_2 < (t283.length : Int)
      ·rw [if_pos c15] at H
       have c15b0 := decide_eq_true c15
       clear c15
       replace H := iD2 H
       obtain ⟨c16b0, c17b0, H⟩ := H
       by_cases c18 : (rd t283 x25_2) = (rd t280 x19_1)
       ·rw [if_pos c18] at H
        have c18b0 : ((rd t283 x25_2) == (rd t280 x19_1)) = true := beq_iff_eq.mpr c18
        have c18b1 : ((rd t283 x25_2) != (rd t280 x19_1)) = false := bne_eq_false_iff_eq.mpr c18
        clear c18
        have H' := aM H
        clear H
        have p287 : 0 ≤ (x25_2 : Int) := odt
        have q287 : x25_2 < (t283.length : Int) := odt
        obtain ⟨ad287, e287, hx287_0⟩ := Kd.at_int (Kd.R_reads' HO_23.out).2.2 x25_2 p287 q287
        cases e287
        replace p287 := eq_true p287
        replace q287 := eq_true q287
        go_wp2
        go_roundg k2
        case measure => have := HK1.out; have := HK2.out; omega
        case rel => exact ⟨(x8_2), (wrap64 (x25_2 + 1)), eR, eR, H', ⟨by have := HK1.out; have := HK2.out; omega⟩, ⟨rQ HO_3⟩, ⟨rQ HO_5⟩, ⟨rQ HO_17⟩, ⟨rQ HO_23⟩, ⟨qQ BK275⟩, ⟨bq⟩⟩
       ·rw [if_neg c18] at H
        have c18b0 : ((rd t283 x25_2) == (rd t280 x19_1)) = false := beq_eq_false_iff_ne.mpr c18
        have c18b1 : ((rd t283 x25_2) != (rd t280 x19_1)) = true := bne_iff_ne.mpr c18
        by_cases c19 : (Go.bits .andNot .i64 (rd t283 x25_2) (rd t280 x19_1)) = 0
        ·rw [if_pos c19] at H
         have c19b0 : ((Go.bits .andNot .i64 (rd t283 x25_2) (rd t280 x19_1)) == 0) = true := beq_iff_eq.mpr c19
         have c19b1 : ((Go.bits .andNot .i64 (rd t283 x25_2) (rd t280 x19_1)) != 0) = false := bne_eq_false_iff_eq.mpr c19
         clear c19
         have H' := aM H
         clear H
         have p287 : 0 ≤ (x25_2 : Int) := odt
         have q287 : x25_2 < (t283.length : Int) := odt
         obtain ⟨ad287, e287, hx287_0⟩ := Kd.at_int (Kd.R_reads' HO_23.out).2.2 x25_2 p287 q287
         cases e287
         replace p287 := eq_true p287
         replace q287 := eq_true q287
         go_wp2
         go_roundg k2
         case measure => have := HK1.out; have := HK2.out; omega
         case rel => exact ⟨(wrap64 (x8_2 + 1)), (wrap64 (x25_2 + 1)), eR, eR, H', ⟨by have := HK1.out; have := HK2.out; omega⟩, ⟨rQ HO_3⟩, ⟨rQ HO_5⟩, ⟨rQ HO_17⟩, ⟨rQ HO_23⟩, ⟨qQ BK275⟩, ⟨bq⟩⟩
        ·rw [if_neg c19] at H
         have c19b0 : ((Go.bits .andNot .i64 (rd t283 x25_2) (rd t280 x19_1)) == 0) = false := beq_eq_false_iff_ne.mpr c19
         have c19b1 : ((Go.bits .andNot .i64 (rd t283 x25_2) (rd t280 x19_1)) != 0) = true := bne_iff_ne.mpr c19
         have H' := aM H
         clear H
         have p287 : 0 ≤ (x25_2 : Int) := odt
         have q287 : x25_2 < (t283.length : Int) := odt
         obtain ⟨ad287, e287, hx287_0⟩ := Kd.at_int (Kd.R_reads' HO_23.out).2.2 x25_2 p287 q287
         cases e287
         replace p287 := eq_true p287
         replace q287 := eq_true q287
         go_wp2
         go_roundg k2
         case measure => have := HK1.out; have := HK2.out; omega
         case rel => exact ⟨(x8_2), (wrap64 (x25_2 + 1)), eR, eR, H', ⟨by have := HK1.out; have := HK2.out; omega⟩, ⟨rQ HO_3⟩, ⟨rQ HO_5⟩, ⟨rQ HO_17⟩, ⟨rQ HO_23⟩, ⟨qQ BK275⟩, ⟨bq⟩⟩
      ·rw [if_neg c15] at H
       have c15b0 := decide_eq_false c15
       clear c15
       replace H := iS H
       obtain ⟨c20, H⟩ := H
       have LMc20 := aM c20
       clear c20
       obtain ⟨y288, hy288⟩ : ∃ y_ : List Int, y_ = (x3_1 ++ [x8_2]) := ⟨_, rfl⟩
       replace H : (impl_Order_levels.l0 k2 y288 t283 t280 (t280.length : Int) (wrap64 (x19_1 + 1))) = some r := by first | (rw [hy288]; with_reducible exact H) | (have H2_ := (Option.bind_some _ _).symm.trans H; rw [hy288]; with_reducible exact H2_) | (have H2_ := (Option.bind_some _ _).symm.trans H; with_reducible exact H2_) | with_reducible exact H | (rw [hy288]; exact H) | exact H
       have Ny288 := aM hy288
       clear hy288
       have H' := aM H
       clear H
       go_wp2_with (first | ((with_reducible refine gate_builtin (b := .append) (xs := #[.tmp 41, .tmp 43]) rfl ?_); at_builtin; refine Kd.R_append (Kd.int .i64) (w0 := w) w.heap.size rfl (.tmp 41) (.tmp 43) 22 3 (.int .i64 0) 8 rfl Tryd.underlying22 info3 rfl (by decide) (by omega) u3 x3_1 x8_2 [.int .i64 x8_2] (fun k_ => some k_ ≠ (.slice Ao14 t283.length co14 : Value).ownBlock ∧ some k_ ≠ (.slice (some ad286) t280.length co9 : Value).ownBlock ∧ some k_ ≠ (.slice Ao14 t283.length co14 : Value).ownBlock) (fun _ => False) rfl rfl ?aP (fun _ hk => hk.elim) ?aF ?aO ?aB ?aS ?aL ?_; (case aP => exact rfl); (case aB => exact bq); (case aF => exact (fun k_ hk => ⟨Kd.fresh' (Kd.R_lt (rQ HO_5)) k_ hk, Kd.fresh' (Kd.R_lt (rQ HO_17)) k_ hk, Kd.fresh' (Kd.R_lt (rQ HO_23)) k_ hk⟩)); (case aO => exact (rQ HO_3)); (case aS => exact (below_size bq)); (case aL => have := LMc20.out; omega); intro v289 w21 ho hb hg hat; rw [← Ny288.out] at ho; have _ := aM (Kd.R_after (ok := (fun k_ => some k_ ≠ (.slice (some ad286) t280.length co9 : Value).ownBlock)) (by (with_reducible repeat first|apply rA|apply rN|apply rD); exact Kd.R_mono HO_5.out (fun _ hk => ⟨hk.2, hk.1⟩)) hg hat); have _ := aM (Kd.R_after (ok := (fun k_ => some k_ ≠ (.slice Ao14 t283.length co14 : Value).ownBlock ∧ some k_ ≠ (.slice Ao14 t283.length co14 : Value).ownBlock)) (by (with_reducible repeat first|apply rA|apply rN|apply rD); exact Kd.R_mono HO_17.out (fun _ hk => ⟨⟨hk.2.1, hk.2.2⟩, hk.1⟩)) hg hat); have _ := aM (Kd.R_after (ok := (fun k_ => some k_ ≠ (.slice (some ad286) t280.length co9 : Value).ownBlock)) (by (with_reducible repeat first|apply rA|apply rN|apply rD); exact Kd.R_mono HO_23.out (fun _ hk => ⟨hk.2, hk.1⟩)) hg hat); have _ := aM (blk_grown (g := gb275) (o := .cells #[.int .i64 a0_0, .slice A0_1 l0_1.length c0_1] 31 (0, 0)) (qQ BK275) hg (Kd.R_ne HO_3.out BK275.out (by decide))); have _ := aM (hb); have _ := aM (ho); clear HO_5 HO_17 HO_23 BK275 HB HO_3; rename_i HO_5 HO_17 HO_23 BK275 HB HO290; clear ho hb hg hat))
       go_roundg k2
       case measure => have := HK1.out; have := HK2.out; omega
       case rel => exact ⟨(y288), (wrap64 (x19_1 + 1)), eR, H', ⟨by have := HK1.out; have := HK2.out; omega⟩, ⟨by (with_reducible repeat first|apply rA|apply rN|apply rD); exact Kd.R_mono HO290.out (fun _ hk => ⟨hk.1, hk.2.1⟩)⟩, ⟨by (with_reducible repeat first|apply rA|apply rN|apply rD); exact Kd.R_mono HO_5.out (fun _ hk => ⟨hk.2, hk.1⟩)⟩, ⟨by (with_reducible repeat first|apply rA|apply rN|apply rD); exact Kd.R_mono HO_17.out (fun _ hk => ⟨hk.2, hk.1.1⟩)⟩, ⟨qQ BK275⟩, ⟨bq⟩⟩
   ·rw [if_neg c11] at H
    have c11b0 := decide_eq_false c11
    clear c11
    obtain rfl := Option.some.inj H
    go_wp2
    go_ret
    exact ⟨_, eE, by (with_reducible repeat first|apply rA|apply rN|apply rD); exact Kd.R_mono HO_3.out (fun _ hk => trivial), bq⟩

mutual
def impl_Order_ends.l0 : Nat → List (S76) → List Int → List Int → Int → Int → Int → List Int → Option ((List (S76)))
 | 0, _, _, _, _, _, _, _ => none
 | k + 1, x3, x4, x13, x14, x15, x292000, x292001 => if x15 < x14 then (if 0 ≤ x15 then (if x15 < (x13.length : Int) then (impl_Order_ends.l1 k x3 x4 x15 (rd x13 x15) (rd x13 x15) x13 x14 x15 x4 (x4.length : Int) 0 x292000 x292001) else (none)) else (none)) else (some x3)
def impl_Order_ends.l1 : Nat → List (S76) → List Int → Int → Int → Int → List Int → Int → Int → List Int → Int → Int → Int → List Int → Option ((List (S76)))
 | 0, _, _, _, _, _, _, _, _, _, _, _, _, _ => none
 | k + 1, x3, x4, x5, x6, x7, x13, x14, x15, x21, x22, x23, x292000, x292001 => if x23 < x22 then (if 0 ≤ x23 then (if x23 < (x21.length : Int) then ((impl_Order_better.f x292000 x292001 x5 x23).bind fun t300 => (if t300 = true then (impl_Order_ends.l1 k x3 x4 x5 x6 x7 x13 x14 x15 x21 x22 (wrap64 (x23 + 1)) x292000 x292001) else (impl_Order_ends.l1 k x3 x4 x5 x6 (mx x7 (rd x21 x23)) x13 x14 x15 x21 x22 (wrap64 (x23 + 1)) x292000 x292001))) else (none)) else (none)) else (if x3.length < 8796093022208 then (impl_Order_ends.l0 k (x3 ++ [(⟨x6, x7⟩ : S76)]) x4 x13 x14 (wrap64 (x15 + 1)) x292000 x292001) else (none))
end
def impl_Order_ends.f (k : Nat) (a0_0 : Int) (l0_1 : List Int) : Option ((List (S76))) := (impl_Order_levels.f k a0_0 l0_1).bind fun t295 => (impl_Order_ends.l0 k (([] : List (S76))) t295 t295 (t295.length : Int) 0 a0_0 l0_1)
set_option maxHeartbeats 8000000 in
set_option maxRecDepth 100000 in
theorem impl_Order_ends.calls (k : Nat) (a0_0 : Int) (A0_1 : Option Addr) (c0_1 : Nat) (l0_1 : List Int) (r : List (S76)) (w : World) (hr0_1 : Kd.C (Kd.int .i64) w A0_1 l0_1.length l0_1) (hc0_1 : l0_1.length ≤ c0_1) (h : impl_Order_ends.f k a0_0 l0_1 = some r) :
  Calls Tryd.prog 56 #[.agg #[.int .i64 a0_0, .slice A0_1 l0_1.length c0_1]] w fun e w' => ∃ v0_ : Value, e = .returned (v0_) ∧ Kd.R k76 76 w' w.heap.size (fun _ => True) v0_ r ∧ Below w.heap.size w w' := by
 have hu31 := Tryd.underlying31
 have hu76 := Tryd.underlying76
 have HR0_1 := aM hr0_1
 have HC0_1 := aM hc0_1
 clear hr0_1 hc0_1
 have HB := aM (Below.refl w.heap.size w)
 have H : ((impl_Order_levels.f k a0_0 l0_1).bind fun t295 => (impl_Order_ends.l0 k (([] : List (S76))) t295 t295 (t295.length : Int) 0 a0_0 l0_1)) = some r := h
 clear h
 obtain ⟨y292, hy292⟩ : ∃ y_ : List (S76), y_ = (([] : List (S76))) := ⟨_, rfl⟩
 replace H : ((impl_Order_levels.f k a0_0 l0_1).bind fun t295 => (impl_Order_ends.l0 k y292 t295 t295 (t295.length : Int) 0 a0_0 l0_1)) = some r := by first | (rw [hy292]; with_reducible exact H) | (have H2_ := (Option.bind_some _ _).symm.trans H; rw [hy292]; with_reducible exact H2_) | (have H2_ := (Option.bind_some _ _).symm.trans H; with_reducible exact H2_) | with_reducible exact H | (rw [hy292]; exact H) | exact H
 have Ny292 := aM hy292
 clear hy292
 replace H := bS H
 obtain ⟨t295, A2, H⟩ := H
 try dsimp only at H
 have H' := aM H
 clear H
 go_enter Tryd.func56, Tryd.ntmps56
 go_wp2_with (first | ((with_reducible refine gate_dst (N := 1) rfl ?_); refine bE 1 31 #[.int .i64 a0_0, .slice A0_1 l0_1.length c0_1] ?_; intro gb291 hg w3 hbox hb; have _ := aM (below_step bq hb); have _ := aM (hbox); have _ := aM ((gS hg)); have _ := aM ((gS hg)); clear HB; rename_i HB BK291 GW291 GE291; clear hb hbox hg) | ((with_reducible refine gate_dst (N := 10) rfl ?_); refine Kd.R_lit k76 _ 76 ?hg (N := 10) ?hd (xs := ([] : List (S76))) (inner := []) (ok := fun _ => True) (okp := fun _ => True) ?hr ?hp (fun _ hk => hk) trivial (Below.refl _ _) (Nat.le_refl _) (by simp) ?_; (case hd => rfl); (case hg => rfl); (case hr => first | (go_simp; done) | (go_simp; rfl)); (case hp => exact (Reps.none _ _)); intro v293 w4 ho5 hb hg_ hnew_; clear hg_ hnew_; (first | rw [← Ny292.out] at ho5 | (simp only [Int.reduceToNat] at ho5; rw [← Ny292.out] at ho5)); have _ := aM (Kd.R_lower ho5 (below_size bq)); have _ := aM (blk_below (qQ BK291) hb); have _ := aM (below_step bq hb); clear BK291 HB; rename_i HO294 BK291 HB; clear hb ho5; have hcz6_0 := zc20 BK291; have hcz6_1 := zc21 BK291; have hfz6_0 := blk_frozen BK291.out 0; have hfz6_1 := blk_frozen BK291.out 1) | ((with_reducible refine gate_callee (f := 86) rfl ?_); refine gL (some 12) Tryd.func86 #[.agg #[.int .i64 a0_0, .slice A0_1 l0_1.length c0_1]] ?_; (with_reducible refine (impl_Order_levels.calls k a0_0 _ _ l0_1 t295 _ (cQ (Kd.C_below HR0_1.out HB.out)) HC0_1.out A2.out).mono ?_); rintro e w7 ⟨v296, rfl, ho0, hb⟩; refine ⟨_, rfl, ?_⟩; have _ := aM (Kd.R_below (rQ HO294) hb); have _ := aM (Kd.R_lower ho0 (below_size bq)); have _ := aM (blk_below (qQ BK291) hb); have _ := aM (below_step bq hb); clear HO294 BK291 HB; rename_i HO294 HO297 BK291 HB; (try clear hb); (try clear hb2); (try clear hk); (try clear hi); (try clear ho0); obtain ⟨Ao8, co8, eo8⟩ := Kd.R_slice HO297.out; subst eo8))
 go_loopg [3, 15] k (fun kq v3 v15 w' => ∃ (x3_1 : List (S76)) (x15_1 : Int), v15 = .int .i64 x15_1 ∧ Aside0 (impl_Order_ends.l0 kq x3_1 t295 t295 (t295.length : Int) x15_1 a0_0 l0_1 = some r) ∧ Aside0 (kq ≤ k) ∧ Aside0 (Kd.R k76 76 w' w.heap.size (fun _ => True) v3 x3_1) ∧ Aside0 (Kd.R (Kd.int .i64) 3 w' w.heap.size (fun _ => True) (.slice Ao8 t295.length co8) t295) ∧ Aside0 (Kd.R (Kd.int .i64) 3 w' w.heap.size (fun _ => True) (.slice Ao8 t295.length co8) t295) ∧ Aside0 (w'.heap[gb291]? = some (.cells #[.int .i64 a0_0, (.slice A0_1 l0_1.length c0_1)] 31 (0, 0))) ∧ Aside0 (Below w.heap.size w w'))
 case atStart => exact ⟨(y292), (0), eR, H', ⟨Nat.le_refl _⟩, ⟨rQ HO294⟩, ⟨rQ HO297⟩, ⟨rQ HO297⟩, ⟨qQ BK291⟩, ⟨bq⟩⟩
 case round =>
  clear H'
  try clear p2
  try clear c5
  try clear c8
  try clear hcz6_0
  try clear hcz6_1
  try clear hfz6_0
  try clear hfz6_1
  obtain ⟨x3_1, x15_1, rfl, HA, HK1, HO_3, HO_4, HO_13, BK291, HB⟩ := hrel
  cases gk with
  | zero => exact absurd HA.out (by simp [impl_Order_ends.l0])
  | succ k1 =>
   have H := HA.out
   clear HA
   simp only [impl_Order_ends.l0] at H
   by_cases c9 : x15_1 < (t295.length : Int)
   ·rw [if_pos c9] at H
    have c9b0 := decide_eq_true c9
    clear c9
    replace H := iD2 H
    obtain ⟨c10b0, c11b0, H⟩ := H
    have H' := aM H
    clear H
    have p298 : 0 ≤ (x15_1 : Int) := odt
    have q298 : x15_1 < (t295.length : Int) := odt
    obtain ⟨ad298, e298, hx298_0⟩ := Kd.at_int (Kd.R_reads' HO_13.out).2.2 x15_1 p298 q298
    cases e298
    replace p298 := eq_true p298
    replace q298 := eq_true q298
    go_wp2
    go_loopg [7, 23] k1 (fun kq v7 v23 w' => ∃ (x7_2 : Int) (x23_2 : Int), v7 = .int .i64 x7_2 ∧ v23 = .int .i64 x23_2 ∧ Aside0 (impl_Order_ends.l1 kq x3_1 t295 x15_1 (rd t295 x15_1) x7_2 t295 (t295.length : Int) x15_1 t295 (t295.length : Int) x23_2 a0_0 l0_1 = some r) ∧ Aside0 (kq ≤ k1) ∧ Aside0 (Kd.R k76 76 w' w.heap.size (fun _ => True) u3 x3_1) ∧ Aside0 (Kd.R (Kd.int .i64) 3 w' w.heap.size (fun _ => True) (.slice (some ad298) t295.length co8) t295) ∧ Aside0 (Kd.R (Kd.int .i64) 3 w' w.heap.size (fun _ => True) (.slice (some ad298) t295.length co8) t295) ∧ Aside0 (Kd.R (Kd.int .i64) 3 w' w.heap.size (fun _ => True) (.slice (some ad298) t295.length co8) t295) ∧ Aside0 (w'.heap[gb291]? = some (.cells #[.int .i64 a0_0, (.slice A0_1 l0_1.length c0_1)] 31 (0, 0))) ∧ Aside0 (Below w.heap.size w w'))
    case atStart => exact ⟨(rd t295 x15_1), (0), eR, eR, H', ⟨Nat.le_refl _⟩, ⟨rQ HO_3⟩, ⟨rQ HO_4⟩, ⟨rQ HO_13⟩, ⟨rQ HO_4⟩, ⟨qQ BK291⟩, ⟨bq⟩⟩
    case round =>
     clear H'
     try clear c1
     try clear p2
     try clear q2
     try clear hx2
     try clear c5
     try clear c8
     try clear c9
     try clear c9b0
     try clear c10
     try clear c10b0
     try clear c11
     try clear c11b0
     try clear hcz6_0
     try clear hcz6_1
     try clear hfz6_0
     try clear hfz6_1
     try clear hx298_0
     try clear p2
     try clear p298
     try clear q298
     obtain ⟨x7_2, x23_2, rfl, rfl, HA, HK2, HO_3, HO_4, HO_13, HO_21, BK291, HB⟩ := hrel
     cases gk with
     | zero => exact absurd HA.out (by simp [impl_Order_ends.l1])
     | succ k2 =>
      have H := HA.out
      clear HA
      simp only [impl_Order_ends.l1] at H
      by_cases c12 : x23_2 < (t295.length : Int)
      ·rw [if_pos c12] at H
       have c12b0 := decide_eq_true c12
       clear c12
       replace H := iD2 H
       obtain ⟨c13b0, c14b0, H⟩ := H
       replace H := bS H
       obtain ⟨t300, A15, H⟩ := H
       try dsimp only at H
       by_cases c16 : t300 = true
       ·subst c16
        have H1 : (impl_Order_ends.l1 k2 x3_1 t295 x15_1 (rd t295 x15_1) x7_2 t295 (t295.length : Int) x15_1 t295 (t295.length : Int) (wrap64 (x23_2 + 1)) a0_0 l0_1) = some r := by rw [if_pos rfl] at H; exact H
        clear H
        have H := H1
        clear H1
        have H' := aM H
        clear H
        have p299 : 0 ≤ (x23_2 : Int) := odt
        have q299 : x23_2 < (t295.length : Int) := odt
        obtain ⟨ad299, e299, hx299_0⟩ := Kd.at_int (Kd.R_reads' HO_21.out).2.2 x23_2 p299 q299
        obtain rfl : ad298 = ad299 := (by injection e299)
        replace p299 := eq_true p299
        replace q299 := eq_true q299
        have hcz17_0 := zc20 BK291
        have hcz17_1 := zc21 BK291
        have hfz17_0 := blk_frozen BK291.out 0
        have hfz17_1 := blk_frozen BK291.out 1
        go_wp2_with (first | ((with_reducible refine gate_callee (f := 87) rfl ?_); refine gL (some 31) Tryd.func87 #[.agg #[.int .i64 a0_0, .slice A0_1 l0_1.length c0_1], .int .i64 x15_1, .int .i64 x23_2] ?_; (with_reducible refine (impl_Order_better.calls a0_0 _ _ l0_1 x15_1 x23_2 true _ (cQ (Kd.C_below HR0_1.out HB.out)) HC0_1.out A15.out).mono ?_); rintro e w18 ⟨rfl, hb⟩; refine ⟨_, rfl, ?_⟩; have _ := aM (Kd.R_below (rQ HO_3) hb); have _ := aM (Kd.R_below (rQ HO_4) hb); have _ := aM (Kd.R_below (rQ HO_13) hb); have _ := aM (Kd.R_below (rQ HO_21) hb); have _ := aM (blk_below (qQ BK291) hb); have _ := aM (below_step bq hb); clear HO_3 HO_4 HO_13 HO_21 BK291 HB; rename_i HO_3 HO_4 HO_13 HO_21 BK291 HB; (try clear hb); (try clear hb2); (try clear hk); (try clear hi)))
        go_roundg k2
        case measure => have := HK1.out; have := HK2.out; omega
        case rel => exact ⟨(x7_2), (wrap64 (x23_2 + 1)), eR, eR, H', ⟨by have := HK1.out; have := HK2.out; omega⟩, ⟨rQ HO_3⟩, ⟨rQ HO_4⟩, ⟨rQ HO_13⟩, ⟨rQ HO_21⟩, ⟨qQ BK291⟩, ⟨bq⟩⟩
       ·replace c16 := Bool.eq_false_iff.mpr c16
        subst c16
        have H1 : (impl_Order_ends.l1 k2 x3_1 t295 x15_1 (rd t295 x15_1) (mx x7_2 (rd t295 x23_2)) t295 (t295.length : Int) x15_1 t295 (t295.length : Int) (wrap64 (x23_2 + 1)) a0_0 l0_1) = some r := by rw [if_neg (show ¬ (false = true) by decide)] at H; exact H
        clear H
        have H := H1
        clear H1
        obtain ⟨ji19, hji19⟩ : ∃ j_ : Int, (mx x7_2 (rd t295 x23_2)) = j_ := ⟨_, rfl⟩
        replace H : (impl_Order_ends.l1 k2 x3_1 t295 x15_1 (rd t295 x15_1) ji19 t295 (t295.length : Int) x15_1 t295 (t295.length : Int) (wrap64 (x23_2 + 1)) a0_0 l0_1) = some r := by first | (rw [hji19] at H; exact H) | (simp only [hji19] at H ⊢; exact H)
        (try rw [hji19] at A15)
        have hji19_ : (if x7_2 < (rd t295 x23_2) then (rd t295 x23_2) else x7_2) = ji19 := hji19
        have H' := aM H
        clear H
        have p299 : 0 ≤ (x23_2 : Int) := odt
        have q299 : x23_2 < (t295.length : Int) := odt
        obtain ⟨ad299, e299, hx299_0⟩ := Kd.at_int (Kd.R_reads' HO_21.out).2.2 x23_2 p299 q299
        obtain rfl : ad298 = ad299 := (by injection e299)
        replace p299 := eq_true p299
        replace q299 := eq_true q299
        have hcz20_0 := zc20 BK291
        have hcz20_1 := zc21 BK291
        have hfz20_0 := blk_frozen BK291.out 0
        have hfz20_1 := blk_frozen BK291.out 1
        go_wp2_with (first | ((with_reducible refine gate_callee (f := 87) rfl ?_); refine gL (some 31) Tryd.func87 #[.agg #[.int .i64 a0_0, .slice A0_1 l0_1.length c0_1], .int .i64 x15_1, .int .i64 x23_2] ?_; (with_reducible refine (impl_Order_better.calls a0_0 _ _ l0_1 x15_1 x23_2 false _ (cQ (Kd.C_below HR0_1.out HB.out)) HC0_1.out A15.out).mono ?_); rintro e w21 ⟨rfl, hb⟩; refine ⟨_, rfl, ?_⟩; have _ := aM (Kd.R_below (rQ HO_3) hb); have _ := aM (Kd.R_below (rQ HO_4) hb); have _ := aM (Kd.R_below (rQ HO_13) hb); have _ := aM (Kd.R_below (rQ HO_21) hb); have _ := aM (blk_below (qQ BK291) hb); have _ := aM (below_step bq hb); clear HO_3 HO_4 HO_13 HO_21 BK291 HB; rename_i HO_3 HO_4 HO_13 HO_21 BK291 HB; (try clear hb); (try clear hb2); (try clear hk); (try clear hi)))
        go_roundg k2
        case measure => have := HK1.out; have := HK2.out; omega
        case rel => exact ⟨(ji19), (wrap64 (x23_2 + 1)), (by first | rfl | (simp; done) | (simp only [← hji19] <;> (first | rfl | simp)) | (simp [*]; done)), eR, H', ⟨by have := HK1.out; have := HK2.out; omega⟩, ⟨rQ HO_3⟩, ⟨rQ HO_4⟩, ⟨rQ HO_13⟩, ⟨rQ HO_21⟩, ⟨qQ BK291⟩, ⟨bq⟩⟩
      ·rw [if_neg c12] at H
       have c12b0 := decide_eq_false c12
       clear c12
       replace H := iS H
       obtain ⟨c22, H⟩ := H
       have LMc22 := aM c22
       clear c22
       obtain ⟨y301, hy301⟩ : ∃ y_ : List (S76), y_ = (x3_1 ++ [(⟨(rd t295 x15_1), x7_2⟩ : S76)]) := ⟨_, rfl⟩
       replace H : (impl_Order_ends.l0 k2 y301 t295 t295 (t295.length : Int) (wrap64 (x15_1 + 1)) a0_0 l0_1) = some r := by first | (rw [hy301]; with_reducible exact H) | (have H2_ := (Option.bind_some _ _).symm.trans H; rw [hy301]; with_reducible exact H2_) | (have H2_ := (Option.bind_some _ _).symm.trans H; with_reducible exact H2_) | with_reducible exact H | (rw [hy301]; exact H) | exact H
       have Ny301 := aM hy301
       clear hy301
       have H' := aM H
       clear H
       go_wp2_with (first | ((with_reducible refine gate_builtin (b := .append) (xs := #[.tmp 37, .tmp 41]) rfl ?_); at_builtin; refine Kd.R_append k76 (w0 := w) w.heap.size rfl (.tmp 37) (.tmp 41) 48 76 (.agg #[(.int .i64 0), (.int .i64 0)]) 16 rfl Tryd.underlying48 info76 rfl (by decide) (by omega) u3 x3_1 (⟨(rd t295 x15_1), x7_2⟩ : S76) [.int .i64 (rd t295 x15_1), .int .i64 x7_2] (fun _ => True) (fun _ => False) rfl rfl ?aP (fun _ hk => hk.elim) ?aF ?aO ?aB ?aS ?aL ?_; (case aP => exact k76_mkM _ _ _ (⟨(rd t295 x15_1), x7_2⟩ : S76)); (case aB => exact bq); (case aF => exact (fun _ _ => trivial)); (case aO => exact (rQ HO_3)); (case aS => exact (below_size bq)); (case aL => have := LMc22.out; omega); intro v302 w23 ho hb hg hat; rw [← Ny301.out] at ho; have _ := aM (Kd.R_over' (rQ HO_4) (Kd.R_typed (rQ HO_3)) (by decide) hg); have _ := aM (Kd.R_over' (rQ HO_13) (Kd.R_typed (rQ HO_3)) (by decide) hg); have _ := aM (Kd.R_over' (rQ HO_21) (Kd.R_typed (rQ HO_3)) (by decide) hg); have _ := aM (blk_grown (g := gb291) (o := .cells #[.int .i64 a0_0, .slice A0_1 l0_1.length c0_1] 31 (0, 0)) (qQ BK291) hg (Kd.R_ne HO_3.out BK291.out (by decide))); have _ := aM (hb); have _ := aM (ho); clear HO_4 HO_13 HO_21 BK291 HB HO_3; rename_i HO_4 HO_13 HO_21 BK291 HB HO303; clear ho hb hg hat))
       go_roundg k2
       case measure => have := HK1.out; have := HK2.out; omega
       case rel => exact ⟨(y301), (wrap64 (x15_1 + 1)), eR, H', ⟨by have := HK1.out; have := HK2.out; omega⟩, ⟨rQ HO303⟩, ⟨rQ HO_4⟩, ⟨rQ HO_13⟩, ⟨qQ BK291⟩, ⟨bq⟩⟩
   ·rw [if_neg c9] at H
    have c9b0 := decide_eq_false c9
    clear c9
    obtain rfl := Option.some.inj H
    go_wp2
    go_ret
    exact ⟨_, eE, rQ HO_3, bq⟩

def impl_Order_magnitude.f (k : Nat) (a0_0 : Int) (l0_1 : List Int) : Option (Int) := (impl_Order_levels.f k a0_0 l0_1).bind fun t305 => ((impl_different.f t305).bind fun t308 => (some (t308.length : Int)))
set_option maxHeartbeats 8000000 in
set_option maxRecDepth 100000 in
theorem impl_Order_magnitude.calls (k : Nat) (a0_0 : Int) (A0_1 : Option Addr) (c0_1 : Nat) (l0_1 : List Int) (r : Int) (w : World) (hr0_1 : Kd.C (Kd.int .i64) w A0_1 l0_1.length l0_1) (hc0_1 : l0_1.length ≤ c0_1) (h : impl_Order_magnitude.f k a0_0 l0_1 = some r) :
  Calls Tryd.prog 57 #[.agg #[.int .i64 a0_0, .slice A0_1 l0_1.length c0_1]] w fun e w' => e = .returned (.int .i64 r) ∧ Below w.heap.size w w' := by
 have hu31 := Tryd.underlying31
 have HR0_1 := aM hr0_1
 have HC0_1 := aM hc0_1
 clear hr0_1 hc0_1
 have HB := aM (Below.refl w.heap.size w)
 have H : ((impl_Order_levels.f k a0_0 l0_1).bind fun t305 => ((impl_different.f t305).bind fun t308 => (some (t308.length : Int)))) = some r := h
 clear h
 replace H := bS H
 obtain ⟨t305, A2, H⟩ := H
 try dsimp only at H
 replace H := bS H
 obtain ⟨t308, A3, H⟩ := H
 try dsimp only at H
 obtain rfl := Option.some.inj H
 go_enter Tryd.func57, Tryd.ntmps57
 go_wp2_with (first | ((with_reducible refine gate_dst (N := 1) rfl ?_); refine bE 1 31 #[.int .i64 a0_0, .slice A0_1 l0_1.length c0_1] ?_; intro gb304 hg w4 hbox hb; have _ := aM (below_step bq hb); have _ := aM (hbox); have _ := aM ((gS hg)); have _ := aM ((gS hg)); clear HB; rename_i HB BK304 GW304 GE304; clear hb hbox hg; have hcz5_0 := zc20 BK304; have hcz5_1 := zc21 BK304; have hfz5_0 := blk_frozen BK304.out 0; have hfz5_1 := blk_frozen BK304.out 1) | ((with_reducible refine gate_callee (f := 86) rfl ?_); refine gL (some 4) Tryd.func86 #[.agg #[.int .i64 a0_0, .slice A0_1 l0_1.length c0_1]] ?_; (with_reducible refine (impl_Order_levels.calls k a0_0 _ _ l0_1 t305 _ (cQ (Kd.C_below HR0_1.out HB.out)) HC0_1.out A2.out).mono ?_); rintro e w6 ⟨v306, rfl, ho0, hb⟩; refine ⟨_, rfl, ?_⟩; have _ := aM (Kd.R_lower ho0 (below_size bq)); have _ := aM (blk_below (qQ BK304) hb); have _ := aM (below_step bq hb); clear BK304 HB; rename_i HO307 BK304 HB; (try clear hb); (try clear hb2); (try clear hk); (try clear hi); (try clear ho0); obtain ⟨Ao7, co7, eo7⟩ := Kd.R_slice HO307.out; subst eo7) | ((with_reducible refine gate_callee (f := 88) rfl ?_); refine gL (some 5) Tryd.func88 #[.slice Ao7 t305.length co7] ?_; (with_reducible refine (impl_different.calls _ _ t305 t308 _ (cQ ((Kd.R_reads' HO307.out).2.2)) ((Kd.R_reads' HO307.out).2.1) A3.out).mono ?_); rintro e w8 ⟨v309, rfl, ho0, hb⟩; refine ⟨_, rfl, ?_⟩; have _ := aM (Kd.R_elder' (rQ HO307) (Kd.R_base ho0) hb); have _ := aM (Kd.R_lower (Kd.R_new' ho0 (Kd.R_lt (rQ HO307))) (below_size bq)); have _ := aM (blk_below (qQ BK304) hb); have _ := aM (below_step bq hb); clear HO307 BK304 HB; rename_i HO307 HO310 BK304 HB; (try clear hb); (try clear hb2); (try clear hk); (try clear hi); (try clear ho0); obtain ⟨Ao9, co9, eo9⟩ := Kd.R_slice HO310.out; subst eo9))
 go_ret
 exact ⟨eE, bq⟩

end Go.Proofs.YtcodionjhcmfhaaDoor.Mo
