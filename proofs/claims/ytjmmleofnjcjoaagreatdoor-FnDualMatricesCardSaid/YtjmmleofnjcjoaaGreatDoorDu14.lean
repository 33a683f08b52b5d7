-- Written by hook.py (wip/), over the kit's print.py.
import Derived.Test.YtjmmleofnjcjoaaGreatDoorDu2
import Derived.Test.YtjmmleofnjcjoaaGreatDoorDu10
import Derived.Test.YtjmmleofnjcjoaaGreatDoorDu13
import Derived.Test.YtjmmleofnjcjoaaGreatDoorDuXSq
namespace Go.Proofs.YtjmmleofnjcjoaaGreatDoor.Du
open Go.RowKit Go.Proofs.YtjmmleofnjcjoaaGreatDoorW.PrintWords Go.Proofs.YtjmmleofnjcjoaaGreatDoorW.PrintLast Go.Proofs.YtjmmleofnjcjoaaGreatDoorW.PrintMore Go.Proofs.YtjmmleofnjcjoaaGreatDoor.Sq
attribute [local go_sem] max2_int min2_int max_two min_two max_three min_three max_four min_four
set_option linter.unusedVariables false
set_option linter.unusedSimpArgs false
set_option maxHeartbeats 8000000
set_option maxRecDepth 100000
mutual
def Y16.l0 : Nat → List Int → List Int → List Int → Int → Int → Option (List Int)
 | 0, _, _, _, _, _ => none
 | k + 1, x3, x5, x17, x18, x19 => if x19 < x18 then (if 0 ≤ x19 then (if x19 < (x17.length : Int) then (Y16.l1 k x3 x5 (rd x17 x19) 0 x17 x18 x19 x5 (x5.length : Int) 0) else (none)) else (none)) else (some x3)
def Y16.l1 : Nat → List Int → List Int → Int → Int → List Int → Int → Int → List Int → Int → Int → Option (List Int)
 | 0, _, _, _, _, _, _, _, _, _, _ => none
 | k + 1, x3, x5, x7, x8, x17, x18, x19, x23, x24, x25 => if x25 < x24 then (if 0 ≤ x25 then (if x25 < (x23.length : Int) then (if (rd x23 x25) = x7 then (Y16.l1 k x3 x5 x7 x8 x17 x18 x19 x23 x24 (wrap64 (x25 + 1))) else (if (Go.bits .andNot .i64 (rd x23 x25) x7) = 0 then (Y16.l1 k x3 x5 x7 (wrap64 (x8 + 1)) x17 x18 x19 x23 x24 (wrap64 (x25 + 1))) else (Y16.l1 k x3 x5 x7 x8 x17 x18 x19 x23 x24 (wrap64 (x25 + 1))))) else (none)) else (none)) else (if x3.length < 17592186044416 then (Y16.l0 k (x3 ++ [x8]) x5 x17 x18 (wrap64 (x19 + 1))) else (none))
end
def Y16.f (k : Nat) (a0_0 : Int) (l0_1 : List Int) : Option (List Int) := (Y3.f a0_0 l0_1).bind fun bt338 => ((Y2.f bt338.2).bind fun t342 => (Y16.l0 k (([] : List Int)) t342 bt338.2 (bt338.2.length : Int) 0))
theorem Y16.calls (k : Nat) (a0_0 : Int) (A0_1 : Option Addr) (c0_1 : Nat) (l0_1 : List Int) (r : List Int) (w : World) (hr0_1 : Kd.C (Kd.int .i64) w A0_1 l0_1.length l0_1) (hc0_1 : l0_1.length ≤ c0_1) (h : Y16.f k a0_0 l0_1 = some r) :
  Calls Tryz.prog 126 #[.agg #[.int .i64 a0_0, .slice A0_1 l0_1.length c0_1]] w fun e w' => ∃ v0_ : Value, e = .returned (v0_) ∧ Kd.R (Kd.int .i64) 3 w' w.heap.size (fun _ => True) v0_ r ∧ Below w.heap.size w w' := by
 have hu26 := Tryz.underlying26
 have hfd : ∀ (w_ : World) (a_ b_ : Value), (Instr.field 26 (.agg #[a_, b_]) 1).run Tryz.prog w_ = .ok b_ w_ := fun _ _ _ => by first | rfl | kernel_rfl
 have HR0_1 := aM hr0_1
 have HC0_1 := aM hc0_1
 clear hr0_1 hc0_1
 have HB := aM (Below.refl w.heap.size w)
 unfold Y16.f at h
 have H := h
 clear h
 obtain ⟨y335, hy335⟩ := nE ((([] : List Int)) : List Int)
 replace H : ((Y3.f a0_0 l0_1).bind fun bt338 => ((Y2.f bt338.2).bind fun t342 => (Y16.l0 k y335 t342 bt338.2 (bt338.2.length : Int) 0))) = some r := by first | (rw [hy335]; with_reducible exact H) | (have H2_ := (Option.bind_some _ _).symm.trans H; rw [hy335]; with_reducible exact H2_) | (have H2_ := (Option.bind_some _ _).symm.trans H; with_reducible exact H2_) | with_reducible exact H | (rw [hy335]; exact H) | exact H
 have Ny335 := aM hy335
 clear hy335
 replace H := bS H
 obtain ⟨⟨t338, t339⟩, A2, H⟩ := H
 try dsimp only at H
 replace H := bS H
 obtain ⟨t342, A3, H⟩ := H
 try dsimp only at H
 have H' := aM H
 clear H
 go_enter Tryz.func126, Tryz.ntmps126
 go_wp2_with (first | ((with_reducible refine gate_dst (N := 1) rfl ?_); refine bF 1 26 #[.int .i64 a0_0, .slice A0_1 l0_1.length c0_1] bq ?_; intro gb334 w4 hg hb _ _ _ _; clear HB; rename_i HB BK334 GW334 GE334; clear hb hg) | ((with_reducible refine gate_dst (N := 11) rfl ?_); refine Kd.R_lit (Kd.int .i64) _ 3 ?hg (N := 11) ?hd (xs := ([] : List Int)) (inner := []) (ok := fun _ => True) (okp := fun _ => True) ?hr ?hp (fun _ hk => hk) trivial (Below.refl _ _) (Nat.le_refl _) (by simp) ?_; (case hd => rfl); (case hg => rfl); (case hr => first | (go_simp; done) | (go_simp; rfl)); (case hp => exact (Reps.none _ _)); intro v336 w5 ho6 hb hg_ hnew_; clear hg_ hnew_; (first | rw [← Ny335.out] at ho6 | (simp only [Int.reduceToNat] at ho6; rw [← Ny335.out] at ho6)); have _ := aM (Kd.R_lower ho6 (below_size bq)); have _ := bK BK334 hb; have _ := bB hb; clear BK334 HB; rename_i HO337 BK334 HB; clear hb ho6; have hcz7_0 := zc20 BK334; have hcz7_1 := zc21 BK334; have hfz7_0 := blk_frozen BK334.out 0; have hfz7_1 := blk_frozen BK334.out 1) | ((with_reducible refine gate_callee (f := 85) rfl ?_); refine gL (some 13) Tryz.func85 #[.agg #[.int .i64 a0_0, .slice A0_1 l0_1.length c0_1]] ?_; (with_reducible refine (Y3.calls a0_0 _ _ l0_1 t338 t339 _ (cQ (Kd.C_below HR0_1.out HB.out)) HC0_1.out A2.out).mono ?_); rintro e w8 ⟨v340, rfl, ho0, hb⟩; refine ⟨_, rfl, ?_⟩; have _ := aM (Kd.R_elder' (rQ HO337) (Kd.R_base ho0) hb); have _ := aM (Kd.R_lower (Kd.R_new' ho0 (Kd.R_lt (rQ HO337))) (below_size bq)); have _ := bK BK334 hb; have _ := bB hb; clear HO337 BK334 HB; rename_i HO337 HO341 BK334 HB; (try clear hb); (try clear ho0); obtain ⟨Ao9, co9, eo9⟩ := Kd.R_slice HO341.out; subst eo9) | ((with_reducible refine gate_callee (f := 105) rfl ?_); refine gL (some 16) Tryz.func105 #[.slice Ao9 t339.length co9] ?_; (with_reducible refine (Y2.calls _ _ t339 t342 _ (cQ ((Kd.R_reads' HO341.out).2.2)) ((Kd.R_reads' HO341.out).2.1) A3.out).mono ?_); rintro e w10 ⟨v343, rfl, ho0, hb⟩; refine ⟨_, rfl, ?_⟩; have _ := aM (Kd.R_elder' (rQ HO337) (Kd.R_base ho0) hb); have _ := aM (Kd.R_elder' (rQ HO341) (Kd.R_base ho0) hb); have _ := aM (Kd.R_lower (Kd.R_new' (Kd.R_new' ho0 (Kd.R_lt (rQ HO337))) (Kd.R_lt (rQ HO341))) (below_size bq)); have _ := bK BK334 hb; have _ := bB hb; clear HO337 HO341 BK334 HB; rename_i HO337 HO341 HO344 BK334 HB; (try clear hb); (try clear ho0)))
 go_loopg [3, 19] k (fun kq v3 v19 w' => ∃ (x3_1 : List Int) (x19_1 : Int), v19 = .int .i64 x19_1 ∧ Aside0 (Y16.l0 kq x3_1 t342 t339 (t339.length : Int) x19_1 = some r) ∧ Aside0 (kq ≤ k) ∧ Aside0 (Kd.R (Kd.int .i64) 3 w' w.heap.size (fun k_ => some k_ ≠ (v343 : Value).ownBlock ∧ some k_ ≠ ((.slice Ao9 t339.length co9) : Value).ownBlock) v3 x3_1) ∧ Aside0 (Kd.R (Kd.int .i64) 3 w' w.heap.size (fun k_ => some k_ ≠ (v3 : Value).ownBlock ∧ some k_ ≠ ((.slice Ao9 t339.length co9) : Value).ownBlock) v343 t342) ∧ Aside0 (Kd.R (Kd.int .i64) 3 w' w.heap.size (fun k_ => some k_ ≠ (v3 : Value).ownBlock ∧ some k_ ≠ (v343 : Value).ownBlock) (.slice Ao9 t339.length co9) t339) ∧ Aside0 (w'.heap[gb334]? = some (.cells #[.int .i64 a0_0, (.slice A0_1 l0_1.length c0_1)] 26 (0, 0))) ∧ Aside0 (Below w.heap.size w w'))
 case atStart => exact ⟨(y335), (0), eR, H', ⟨Nat.le_refl _⟩, ⟨by (with_reducible repeat first|apply rA|apply rN|apply rD); exact Kd.R_mono HO337.out (fun _ hk => ⟨hk.2, hk.1.2⟩)⟩, ⟨by (with_reducible repeat first|apply rA|apply rN|apply rD); exact Kd.R_mono HO344.out (fun _ hk => ⟨hk.1.2, hk.2⟩)⟩, ⟨by (with_reducible repeat first|apply rA|apply rN|apply rD); exact Kd.R_mono HO341.out (fun _ hk => ⟨hk.1.2, hk.2⟩)⟩, ⟨qQ BK334⟩, ⟨bq⟩⟩
 case round =>
  clear H'
  try clear hcz7_0
  try clear hcz7_1
  try clear hfz7_0
  try clear hfz7_1
  obtain ⟨x3_1, x19_1, rfl, HA, HK1, HO_3, HO_5, HO_17, BK334, HB⟩ := hrel
  cases gk with
  | zero => exact absurd HA.out (by simp [Y16.l0])
  | succ k1 =>
   have H := HA.out
   clear HA
   simp only [Y16.l0] at H
   by_cases c11 : x19_1 < (t339.length : Int)
   ·rw [if_pos c11] at H
    have c11b0 := decide_eq_true c11
    clear c11
    replace H := iD2 H
    obtain ⟨c12b0, c13b0, H⟩ := H
    have H' := aM H
    clear H
    have p345 : 0 ≤ (x19_1 : Int) := odt
    have q345 : x19_1 < (t339.length : Int) := odt
    obtain ⟨ad345, e345, hx345_0⟩ := Kd.at_int (Kd.R_reads' HO_17.out).2.2 x19_1 p345 q345
    cases e345
    replace p345 := eq_true p345
    replace q345 := eq_true q345
    obtain ⟨Ao14, co14, eo14⟩ := Kd.R_slice HO_5.out
    subst eo14
    go_wp2
    go_loopg [8, 25] k1 (fun kq v8 v25 w' => ∃ (x8_2 : Int) (x25_2 : Int), v8 = .int .i64 x8_2 ∧ v25 = .int .i64 x25_2 ∧ Aside0 (Y16.l1 kq x3_1 t342 (rd t339 x19_1) x8_2 t339 (t339.length : Int) x19_1 t342 (t342.length : Int) x25_2 = some r) ∧ Aside0 (kq ≤ k1) ∧ Aside0 (Kd.R (Kd.int .i64) 3 w' w.heap.size (fun k_ => some k_ ≠ ((.slice Ao14 t342.length co14) : Value).ownBlock ∧ some k_ ≠ ((.slice (some ad345) t339.length co9) : Value).ownBlock ∧ some k_ ≠ ((.slice Ao14 t342.length co14) : Value).ownBlock) u3 x3_1) ∧ Aside0 (Kd.R (Kd.int .i64) 3 w' w.heap.size (fun k_ => some k_ ≠ (u3 : Value).ownBlock ∧ some k_ ≠ ((.slice (some ad345) t339.length co9) : Value).ownBlock) (.slice Ao14 t342.length co14) t342) ∧ Aside0 (Kd.R (Kd.int .i64) 3 w' w.heap.size (fun k_ => some k_ ≠ (u3 : Value).ownBlock ∧ some k_ ≠ ((.slice Ao14 t342.length co14) : Value).ownBlock ∧ some k_ ≠ ((.slice Ao14 t342.length co14) : Value).ownBlock) (.slice (some ad345) t339.length co9) t339) ∧ Aside0 (Kd.R (Kd.int .i64) 3 w' w.heap.size (fun k_ => some k_ ≠ (u3 : Value).ownBlock ∧ some k_ ≠ ((.slice (some ad345) t339.length co9) : Value).ownBlock) (.slice Ao14 t342.length co14) t342) ∧ Aside0 (w'.heap[gb334]? = some (.cells #[.int .i64 a0_0, (.slice A0_1 l0_1.length c0_1)] 26 (0, 0))) ∧ Aside0 (Below w.heap.size w w'))
    case atStart => exact ⟨(0), (0), eR, eR, H', ⟨Nat.le_refl _⟩, ⟨by (with_reducible repeat first|apply rA|apply rN|apply rD); exact Kd.R_mono HO_3.out (fun _ hk => ⟨hk.1, ⟨hk.2, hk.1⟩⟩)⟩, ⟨rQ HO_5⟩, ⟨by (with_reducible repeat first|apply rA|apply rN|apply rD); exact Kd.R_mono HO_17.out (fun _ hk => ⟨hk.1, ⟨hk.2, hk.2⟩⟩)⟩, ⟨rQ HO_5⟩, ⟨qQ BK334⟩, ⟨bq⟩⟩
    case round =>
     clear H'
     try clear c11
     try clear c11b0
     try clear c12b0
     try clear c13b0
     try clear hcz7_0
     try clear hcz7_1
     try clear hfz7_0
     try clear hfz7_1
     try clear hx345_0
     try clear p345
     try clear q345
     obtain ⟨x8_2, x25_2, rfl, rfl, HA, HK2, HO_3, HO_5, HO_17, HO_23, BK334, HB⟩ := hrel
     cases gk with
     | zero => exact absurd HA.out (by simp [Y16.l1])
     | succ k2 =>
      have H := HA.out
      clear HA
      simp only [Y16.l1] at H
      by_cases c15 : x25_2 < (t342.length : Int)
      ·rw [if_pos c15] at H
       have c15b0 := decide_eq_true c15
       clear c15
       replace H := iD2 H
       obtain ⟨c16b0, c17b0, H⟩ := H
       by_cases c18 : (rd t342 x25_2) = (rd t339 x19_1)
       ·rw [if_pos c18] at H
        have c18b0 : ((rd t342 x25_2) == (rd t339 x19_1)) = true := beq_iff_eq.mpr c18
        have c18b1 : ((rd t342 x25_2) != (rd t339 x19_1)) = false := bne_eq_false_iff_eq.mpr c18
        clear c18
        have H' := aM H
        clear H
        have p346 : 0 ≤ (x25_2 : Int) := odt
        have q346 : x25_2 < (t342.length : Int) := odt
        obtain ⟨ad346, e346, hx346_0⟩ := Kd.at_int (Kd.R_reads' HO_23.out).2.2 x25_2 p346 q346
        cases e346
        replace p346 := eq_true p346
        replace q346 := eq_true q346
        go_wp2
        go_roundg k2
        case measure => have := HK1.out; have := HK2.out; omega
        case rel => exact ⟨(x8_2), (wrap64 (x25_2 + 1)), eR, eR, H', ⟨by have := HK1.out; have := HK2.out; omega⟩, ⟨rQ HO_3⟩, ⟨rQ HO_5⟩, ⟨rQ HO_17⟩, ⟨rQ HO_23⟩, ⟨qQ BK334⟩, ⟨bq⟩⟩
       ·rw [if_neg c18] at H
        have c18b0 : ((rd t342 x25_2) == (rd t339 x19_1)) = false := beq_eq_false_iff_ne.mpr c18
        have c18b1 : ((rd t342 x25_2) != (rd t339 x19_1)) = true := bne_iff_ne.mpr c18
        by_cases c19 : (Go.bits .andNot .i64 (rd t342 x25_2) (rd t339 x19_1)) = 0
        ·rw [if_pos c19] at H
         have c19b0 : ((Go.bits .andNot .i64 (rd t342 x25_2) (rd t339 x19_1)) == 0) = true := beq_iff_eq.mpr c19
         have c19b1 : ((Go.bits .andNot .i64 (rd t342 x25_2) (rd t339 x19_1)) != 0) = false := bne_eq_false_iff_eq.mpr c19
         clear c19
         have H' := aM H
         clear H
         have p346 : 0 ≤ (x25_2 : Int) := odt
         have q346 : x25_2 < (t342.length : Int) := odt
         obtain ⟨ad346, e346, hx346_0⟩ := Kd.at_int (Kd.R_reads' HO_23.out).2.2 x25_2 p346 q346
         cases e346
         replace p346 := eq_true p346
         replace q346 := eq_true q346
         go_wp2
         go_roundg k2
         case measure => have := HK1.out; have := HK2.out; omega
         case rel => exact ⟨(wrap64 (x8_2 + 1)), (wrap64 (x25_2 + 1)), eR, eR, H', ⟨by have := HK1.out; have := HK2.out; omega⟩, ⟨rQ HO_3⟩, ⟨rQ HO_5⟩, ⟨rQ HO_17⟩, ⟨rQ HO_23⟩, ⟨qQ BK334⟩, ⟨bq⟩⟩
        ·rw [if_neg c19] at H
         have c19b0 : ((Go.bits .andNot .i64 (rd t342 x25_2) (rd t339 x19_1)) == 0) = false := beq_eq_false_iff_ne.mpr c19
         have c19b1 : ((Go.bits .andNot .i64 (rd t342 x25_2) (rd t339 x19_1)) != 0) = true := bne_iff_ne.mpr c19
         have H' := aM H
         clear H
         have p346 : 0 ≤ (x25_2 : Int) := odt
         have q346 : x25_2 < (t342.length : Int) := odt
         obtain ⟨ad346, e346, hx346_0⟩ := Kd.at_int (Kd.R_reads' HO_23.out).2.2 x25_2 p346 q346
         cases e346
         replace p346 := eq_true p346
         replace q346 := eq_true q346
         go_wp2
         go_roundg k2
         case measure => have := HK1.out; have := HK2.out; omega
         case rel => exact ⟨(x8_2), (wrap64 (x25_2 + 1)), eR, eR, H', ⟨by have := HK1.out; have := HK2.out; omega⟩, ⟨rQ HO_3⟩, ⟨rQ HO_5⟩, ⟨rQ HO_17⟩, ⟨rQ HO_23⟩, ⟨qQ BK334⟩, ⟨bq⟩⟩
      ·rw [if_neg c15] at H
       have c15b0 := decide_eq_false c15
       clear c15
       replace H := iS H
       obtain ⟨c20, H⟩ := H
       have LMc20 := aM c20
       clear c20
       obtain ⟨y347, hy347⟩ := nE ((x3_1 ++ [x8_2]) : List Int)
       try rw [← hy347] at H
       try with_reducible replace H := (Option.bind_some _ _).symm.trans H
       try dsimp only at H
       have Ny347 := aM hy347
       clear hy347
       have H' := aM H
       clear H
       go_wp2_with (first | ((with_reducible refine gate_builtin (b := .append) (xs := #[.tmp 41, .tmp 43]) rfl ?_); at_builtin; refine Kd.R_append (Kd.int .i64) (w0 := w) w.heap.size rfl (.tmp 41) (.tmp 43) 24 3 (.int .i64 0) 8 rfl Tryz.underlying24 info3 rfl (by decide) (by omega) u3 x3_1 x8_2 [.int .i64 x8_2] (fun k_ => some k_ ≠ (.slice Ao14 t342.length co14 : Value).ownBlock ∧ some k_ ≠ (.slice (some ad345) t339.length co9 : Value).ownBlock ∧ some k_ ≠ (.slice Ao14 t342.length co14 : Value).ownBlock) (fun _ => False) rfl rfl ?aP (fun _ hk => hk.elim) ?aF ?aO ?aB ?aS ?aL ?_; (case aP => exact rfl); (case aB => exact bq); (case aF => exact (fun k_ hk => ⟨Kd.fresh' (Kd.R_lt (rQ HO_5)) k_ hk, Kd.fresh' (Kd.R_lt (rQ HO_17)) k_ hk, Kd.fresh' (Kd.R_lt (rQ HO_23)) k_ hk⟩)); (case aO => exact (rQ HO_3)); (case aS => exact (below_size bq)); (case aL => have := LMc20.out; omega); intro v348 w21 ho hb hg hat; rw [← Ny347.out] at ho; have _ := aM (Kd.R_after (ok := (fun k_ => some k_ ≠ (.slice (some ad345) t339.length co9 : Value).ownBlock)) (by (with_reducible repeat first|apply rA|apply rN|apply rD); exact Kd.R_mono HO_5.out (fun _ hk => ⟨hk.2, hk.1⟩)) hg hat); have _ := aM (Kd.R_after (ok := (fun k_ => some k_ ≠ (.slice Ao14 t342.length co14 : Value).ownBlock ∧ some k_ ≠ (.slice Ao14 t342.length co14 : Value).ownBlock)) (by (with_reducible repeat first|apply rA|apply rN|apply rD); exact Kd.R_mono HO_17.out (fun _ hk => ⟨⟨hk.2.1, hk.2.2⟩, hk.1⟩)) hg hat); have _ := aM (Kd.R_after (ok := (fun k_ => some k_ ≠ (.slice (some ad345) t339.length co9 : Value).ownBlock)) (by (with_reducible repeat first|apply rA|apply rN|apply rD); exact Kd.R_mono HO_23.out (fun _ hk => ⟨hk.2, hk.1⟩)) hg hat); have _ := aM (blk_grown (g := gb334) (o := .cells #[.int .i64 a0_0, .slice A0_1 l0_1.length c0_1] 26 (0, 0)) (qQ BK334) hg (Kd.R_ne HO_3.out BK334.out (by decide))); have _ := aM (hb); have _ := aM (ho); clear HO_5 HO_17 HO_23 BK334 HB HO_3; rename_i HO_5 HO_17 HO_23 BK334 HB HO349; clear ho hb hg hat))
       go_roundg k2
       case measure => have := HK1.out; have := HK2.out; omega
       case rel => exact ⟨(y347), (wrap64 (x19_1 + 1)), eR, H', ⟨by have := HK1.out; have := HK2.out; omega⟩, ⟨by (with_reducible repeat first|apply rA|apply rN|apply rD); exact Kd.R_mono HO349.out (fun _ hk => ⟨hk.1, hk.2.1⟩)⟩, ⟨by (with_reducible repeat first|apply rA|apply rN|apply rD); exact Kd.R_mono HO_5.out (fun _ hk => ⟨hk.2, hk.1⟩)⟩, ⟨by (with_reducible repeat first|apply rA|apply rN|apply rD); exact Kd.R_mono HO_17.out (fun _ hk => ⟨hk.2, hk.1.1⟩)⟩, ⟨qQ BK334⟩, ⟨bq⟩⟩
   ·rw [if_neg c11] at H
    have c11b0 := decide_eq_false c11
    clear c11
    obtain rfl := Option.some.inj H
    go_wp2
    go_ret
    exact ⟨_, eE, by (with_reducible repeat first|apply rA|apply rN|apply rD); exact Kd.R_mono HO_3.out (fun _ hk => trivial), bq⟩
def Y59.f (k : Nat) (a0_0 : Int) (l0_1 : List Int) : Option (Int) := (Y16.f k a0_0 l0_1).bind fun t351 => ((Y2.f t351).bind fun t354 => (some (t354.length : Int)))
theorem Y59.calls (k : Nat) (a0_0 : Int) (A0_1 : Option Addr) (c0_1 : Nat) (l0_1 : List Int) (r : Int) (w : World) (hr0_1 : Kd.C (Kd.int .i64) w A0_1 l0_1.length l0_1) (hc0_1 : l0_1.length ≤ c0_1) (h : Y59.f k a0_0 l0_1 = some r) :
  Calls Tryz.prog 153 #[.agg #[.int .i64 a0_0, .slice A0_1 l0_1.length c0_1]] w fun e w' => e = .returned (.int .i64 r) ∧ Below w.heap.size w w' := by
 have hu26 := Tryz.underlying26
 have HR0_1 := aM hr0_1
 have HC0_1 := aM hc0_1
 clear hr0_1 hc0_1
 have HB := aM (Below.refl w.heap.size w)
 unfold Y59.f at h
 have H := h
 clear h
 replace H := bS H
 obtain ⟨t351, A2, H⟩ := H
 try dsimp only at H
 replace H := bS H
 obtain ⟨t354, A3, H⟩ := H
 try dsimp only at H
 obtain rfl := Option.some.inj H
 go_enter Tryz.func153, Tryz.ntmps153
 go_wp2_with (first | ((with_reducible refine gate_dst (N := 1) rfl ?_); refine bF 1 26 #[.int .i64 a0_0, .slice A0_1 l0_1.length c0_1] bq ?_; intro gb350 w4 hg hb _ _ _ _; clear HB; rename_i HB BK350 GW350 GE350; clear hb hg; have hcz5_0 := zc20 BK350; have hcz5_1 := zc21 BK350; have hfz5_0 := blk_frozen BK350.out 0; have hfz5_1 := blk_frozen BK350.out 1) | ((with_reducible refine gate_callee (f := 126) rfl ?_); refine gL (some 4) Tryz.func126 #[.agg #[.int .i64 a0_0, .slice A0_1 l0_1.length c0_1]] ?_; (with_reducible refine (Y16.calls k a0_0 _ _ l0_1 t351 _ (cQ (Kd.C_below HR0_1.out HB.out)) HC0_1.out A2.out).mono ?_); rintro e w6 ⟨v352, rfl, ho0, hb⟩; refine ⟨_, rfl, ?_⟩; have _ := aM (Kd.R_lower ho0 (below_size bq)); have _ := bK BK350 hb; have _ := bB hb; clear BK350 HB; rename_i HO353 BK350 HB; (try clear hb); (try clear ho0); obtain ⟨Ao7, co7, eo7⟩ := Kd.R_slice HO353.out; subst eo7) | ((with_reducible refine gate_callee (f := 105) rfl ?_); refine gL (some 5) Tryz.func105 #[.slice Ao7 t351.length co7] ?_; (with_reducible refine (Y2.calls _ _ t351 t354 _ (cQ ((Kd.R_reads' HO353.out).2.2)) ((Kd.R_reads' HO353.out).2.1) A3.out).mono ?_); rintro e w8 ⟨v355, rfl, ho0, hb⟩; refine ⟨_, rfl, ?_⟩; have _ := aM (Kd.R_elder' (rQ HO353) (Kd.R_base ho0) hb); have _ := aM (Kd.R_lower (Kd.R_new' ho0 (Kd.R_lt (rQ HO353))) (below_size bq)); have _ := bK BK350 hb; have _ := bB hb; clear HO353 BK350 HB; rename_i HO353 HO356 BK350 HB; (try clear hb); (try clear ho0); obtain ⟨Ao9, co9, eo9⟩ := Kd.R_slice HO356.out; subst eo9))
 go_ret
 exact ⟨eE, bq⟩
mutual
def Y20.l0 : Nat → List (S130) → List Int → List Int → Int → Int → Int → List Int → Option ((List (S130)))
 | 0, _, _, _, _, _, _, _ => none
 | k + 1, x3, x4, x13, x14, x15, x358000, x358001 => if x15 < x14 then (if 0 ≤ x15 then (if x15 < (x13.length : Int) then (Y20.l1 k x3 x4 x15 (rd x13 x15) (rd x13 x15) x13 x14 x15 x4 (x4.length : Int) 0 x358000 x358001) else (none)) else (none)) else (some x3)
def Y20.l1 : Nat → List (S130) → List Int → Int → Int → Int → List Int → Int → Int → List Int → Int → Int → Int → List Int → Option ((List (S130)))
 | 0, _, _, _, _, _, _, _, _, _, _, _, _, _ => none
 | k + 1, x3, x4, x5, x6, x7, x13, x14, x15, x21, x22, x23, x358000, x358001 => if x23 < x22 then (if 0 ≤ x23 then (if x23 < (x21.length : Int) then ((Y9.f x358000 x358001 x5 x23).bind fun t366 => (if t366 = true then (Y20.l1 k x3 x4 x5 x6 x7 x13 x14 x15 x21 x22 (wrap64 (x23 + 1)) x358000 x358001) else (Y20.l1 k x3 x4 x5 x6 (mx x7 (rd x21 x23)) x13 x14 x15 x21 x22 (wrap64 (x23 + 1)) x358000 x358001))) else (none)) else (none)) else (if x3.length < 8796093022208 then (Y20.l0 k (x3 ++ [(⟨x6, x7⟩ : S130)]) x4 x13 x14 (wrap64 (x15 + 1)) x358000 x358001) else (none))
end
def Y20.f (k : Nat) (a0_0 : Int) (l0_1 : List Int) : Option ((List (S130))) := (Y16.f k a0_0 l0_1).bind fun t361 => (Y20.l0 k (([] : List (S130))) t361 t361 (t361.length : Int) 0 a0_0 l0_1)
theorem Y20.calls (k : Nat) (a0_0 : Int) (A0_1 : Option Addr) (c0_1 : Nat) (l0_1 : List Int) (r : List (S130)) (w : World) (hr0_1 : Kd.C (Kd.int .i64) w A0_1 l0_1.length l0_1) (hc0_1 : l0_1.length ≤ c0_1) (h : Y20.f k a0_0 l0_1 = some r) :
  Calls Tryz.prog 154 #[.agg #[.int .i64 a0_0, .slice A0_1 l0_1.length c0_1]] w fun e w' => ∃ v0_ : Value, e = .returned (v0_) ∧ Kd.R k130 130 w' w.heap.size (fun _ => True) v0_ r ∧ Below w.heap.size w w' := by
 have hu26 := Tryz.underlying26
 have hu130 := Tryz.underlying130
 have HR0_1 := aM hr0_1
 have HC0_1 := aM hc0_1
 clear hr0_1 hc0_1
 have HB := aM (Below.refl w.heap.size w)
 unfold Y20.f at h
 have H := h
 clear h
 obtain ⟨y358, hy358⟩ := nE ((([] : List (S130))) : List (S130))
 replace H : ((Y16.f k a0_0 l0_1).bind fun t361 => (Y20.l0 k y358 t361 t361 (t361.length : Int) 0 a0_0 l0_1)) = some r := by first | (rw [hy358]; with_reducible exact H) | (have H2_ := (Option.bind_some _ _).symm.trans H; rw [hy358]; with_reducible exact H2_) | (have H2_ := (Option.bind_some _ _).symm.trans H; with_reducible exact H2_) | with_reducible exact H | (rw [hy358]; exact H) | exact H
 have Ny358 := aM hy358
 clear hy358
 replace H := bS H
 obtain ⟨t361, A2, H⟩ := H
 try dsimp only at H
 have H' := aM H
 clear H
 go_enter Tryz.func154, Tryz.ntmps154
 go_wp2_with (first | ((with_reducible refine gate_dst (N := 1) rfl ?_); refine bF 1 26 #[.int .i64 a0_0, .slice A0_1 l0_1.length c0_1] bq ?_; intro gb357 w3 hg hb _ _ _ _; clear HB; rename_i HB BK357 GW357 GE357; clear hb hg) | ((with_reducible refine gate_dst (N := 10) rfl ?_); refine Kd.R_lit k130 _ 130 ?hg (N := 10) ?hd (xs := ([] : List (S130))) (inner := []) (ok := fun _ => True) (okp := fun _ => True) ?hr ?hp (fun _ hk => hk) trivial (Below.refl _ _) (Nat.le_refl _) (by simp) ?_; (case hd => rfl); (case hg => rfl); (case hr => first | (go_simp; done) | (go_simp; rfl)); (case hp => exact (Reps.none _ _)); intro v359 w4 ho5 hb hg_ hnew_; clear hg_ hnew_; (first | rw [← Ny358.out] at ho5 | (simp only [Int.reduceToNat] at ho5; rw [← Ny358.out] at ho5)); have _ := aM (Kd.R_lower ho5 (below_size bq)); have _ := bK BK357 hb; have _ := bB hb; clear BK357 HB; rename_i HO360 BK357 HB; clear hb ho5; have hcz6_0 := zc20 BK357; have hcz6_1 := zc21 BK357; have hfz6_0 := blk_frozen BK357.out 0; have hfz6_1 := blk_frozen BK357.out 1) | ((with_reducible refine gate_callee (f := 126) rfl ?_); refine gL (some 12) Tryz.func126 #[.agg #[.int .i64 a0_0, .slice A0_1 l0_1.length c0_1]] ?_; (with_reducible refine (Y16.calls k a0_0 _ _ l0_1 t361 _ (cQ (Kd.C_below HR0_1.out HB.out)) HC0_1.out A2.out).mono ?_); rintro e w7 ⟨v362, rfl, ho0, hb⟩; refine ⟨_, rfl, ?_⟩; have _ := aM (Kd.R_below (rQ HO360) hb); have _ := aM (Kd.R_lower ho0 (below_size bq)); have _ := bK BK357 hb; have _ := bB hb; clear HO360 BK357 HB; rename_i HO360 HO363 BK357 HB; (try clear hb); (try clear ho0); obtain ⟨Ao8, co8, eo8⟩ := Kd.R_slice HO363.out; subst eo8))
 go_loopg [3, 15] k (fun kq v3 v15 w' => ∃ (x3_1 : List (S130)) (x15_1 : Int), v15 = .int .i64 x15_1 ∧ Aside0 (Y20.l0 kq x3_1 t361 t361 (t361.length : Int) x15_1 a0_0 l0_1 = some r) ∧ Aside0 (kq ≤ k) ∧ Aside0 (Kd.R k130 130 w' w.heap.size (fun _ => True) v3 x3_1) ∧ Aside0 (Kd.R (Kd.int .i64) 3 w' w.heap.size (fun _ => True) (.slice Ao8 t361.length co8) t361) ∧ Aside0 (Kd.R (Kd.int .i64) 3 w' w.heap.size (fun _ => True) (.slice Ao8 t361.length co8) t361) ∧ Aside0 (w'.heap[gb357]? = some (.cells #[.int .i64 a0_0, (.slice A0_1 l0_1.length c0_1)] 26 (0, 0))) ∧ Aside0 (Below w.heap.size w w'))
 case atStart => exact ⟨(y358), (0), eR, H', ⟨Nat.le_refl _⟩, ⟨rQ HO360⟩, ⟨rQ HO363⟩, ⟨rQ HO363⟩, ⟨qQ BK357⟩, ⟨bq⟩⟩
 case round =>
  clear H'
  try clear hcz6_0
  try clear hcz6_1
  try clear hfz6_0
  try clear hfz6_1
  obtain ⟨x3_1, x15_1, rfl, HA, HK1, HO_3, HO_4, HO_13, BK357, HB⟩ := hrel
  cases gk with
  | zero => exact absurd HA.out (by simp [Y20.l0])
  | succ k1 =>
   have H := HA.out
   clear HA
   simp only [Y20.l0] at H
   by_cases c9 : x15_1 < (t361.length : Int)
   ·rw [if_pos c9] at H
    have c9b0 := decide_eq_true c9
    clear c9
    replace H := iD2 H
    obtain ⟨c10b0, c11b0, H⟩ := H
    have H' := aM H
    clear H
    have p364 : 0 ≤ (x15_1 : Int) := odt
    have q364 : x15_1 < (t361.length : Int) := odt
    obtain ⟨ad364, e364, hx364_0⟩ := Kd.at_int (Kd.R_reads' HO_13.out).2.2 x15_1 p364 q364
    cases e364
    replace p364 := eq_true p364
    replace q364 := eq_true q364
    go_wp2
    go_loopg [7, 23] k1 (fun kq v7 v23 w' => ∃ (x7_2 : Int) (x23_2 : Int), v7 = .int .i64 x7_2 ∧ v23 = .int .i64 x23_2 ∧ Aside0 (Y20.l1 kq x3_1 t361 x15_1 (rd t361 x15_1) x7_2 t361 (t361.length : Int) x15_1 t361 (t361.length : Int) x23_2 a0_0 l0_1 = some r) ∧ Aside0 (kq ≤ k1) ∧ Aside0 (Kd.R k130 130 w' w.heap.size (fun _ => True) u3 x3_1) ∧ Aside0 (Kd.R (Kd.int .i64) 3 w' w.heap.size (fun _ => True) (.slice (some ad364) t361.length co8) t361) ∧ Aside0 (Kd.R (Kd.int .i64) 3 w' w.heap.size (fun _ => True) (.slice (some ad364) t361.length co8) t361) ∧ Aside0 (Kd.R (Kd.int .i64) 3 w' w.heap.size (fun _ => True) (.slice (some ad364) t361.length co8) t361) ∧ Aside0 (w'.heap[gb357]? = some (.cells #[.int .i64 a0_0, (.slice A0_1 l0_1.length c0_1)] 26 (0, 0))) ∧ Aside0 (Below w.heap.size w w'))
    case atStart => exact ⟨(rd t361 x15_1), (0), eR, eR, H', ⟨Nat.le_refl _⟩, ⟨rQ HO_3⟩, ⟨rQ HO_4⟩, ⟨rQ HO_13⟩, ⟨rQ HO_4⟩, ⟨qQ BK357⟩, ⟨bq⟩⟩
    case round =>
     clear H'
     try clear c9
     try clear c9b0
     try clear c10b0
     try clear c11b0
     try clear hcz6_0
     try clear hcz6_1
     try clear hfz6_0
     try clear hfz6_1
     try clear hx364_0
     try clear p364
     try clear q364
     obtain ⟨x7_2, x23_2, rfl, rfl, HA, HK2, HO_3, HO_4, HO_13, HO_21, BK357, HB⟩ := hrel
     cases gk with
     | zero => exact absurd HA.out (by simp [Y20.l1])
     | succ k2 =>
      have H := HA.out
      clear HA
      simp only [Y20.l1] at H
      by_cases c12 : x23_2 < (t361.length : Int)
      ·rw [if_pos c12] at H
       have c12b0 := decide_eq_true c12
       clear c12
       replace H := iD2 H
       obtain ⟨c13b0, c14b0, H⟩ := H
       replace H := bS H
       obtain ⟨t366, A15, H⟩ := H
       try dsimp only at H
       by_cases c16 : t366 = true
       ·subst c16
        have H1 : (Y20.l1 k2 x3_1 t361 x15_1 (rd t361 x15_1) x7_2 t361 (t361.length : Int) x15_1 t361 (t361.length : Int) (wrap64 (x23_2 + 1)) a0_0 l0_1) = some r := by rw [if_pos rfl] at H; exact H
        clear H
        have H := H1
        clear H1
        have H' := aM H
        clear H
        have p365 : 0 ≤ (x23_2 : Int) := odt
        have q365 : x23_2 < (t361.length : Int) := odt
        obtain ⟨ad365, e365, hx365_0⟩ := Kd.at_int (Kd.R_reads' HO_21.out).2.2 x23_2 p365 q365
        obtain rfl : ad364 = ad365 := (by injection e365)
        replace p365 := eq_true p365
        replace q365 := eq_true q365
        have hcz17_0 := zc20 BK357
        have hcz17_1 := zc21 BK357
        have hfz17_0 := blk_frozen BK357.out 0
        have hfz17_1 := blk_frozen BK357.out 1
        go_wp2_with (first | ((with_reducible refine gate_callee (f := 99) rfl ?_); refine gL (some 31) Tryz.func99 #[.agg #[.int .i64 a0_0, .slice A0_1 l0_1.length c0_1], .int .i64 x15_1, .int .i64 x23_2] ?_; (with_reducible refine (Y9.calls a0_0 _ _ l0_1 x15_1 x23_2 true _ (cQ (Kd.C_below HR0_1.out HB.out)) HC0_1.out A15.out).mono ?_); rintro e w18 ⟨rfl, hb⟩; refine ⟨_, rfl, ?_⟩; have _ := aM (Kd.R_below (rQ HO_3) hb); have _ := aM (Kd.R_below (rQ HO_4) hb); have _ := aM (Kd.R_below (rQ HO_13) hb); have _ := aM (Kd.R_below (rQ HO_21) hb); have _ := bK BK357 hb; have _ := bB hb; clear HO_3 HO_4 HO_13 HO_21 BK357 HB; rename_i HO_3 HO_4 HO_13 HO_21 BK357 HB; (try clear hb)))
        go_roundg k2
        case measure => have := HK1.out; have := HK2.out; omega
        case rel => exact ⟨(x7_2), (wrap64 (x23_2 + 1)), eR, eR, H', ⟨by have := HK1.out; have := HK2.out; omega⟩, ⟨rQ HO_3⟩, ⟨rQ HO_4⟩, ⟨rQ HO_13⟩, ⟨rQ HO_21⟩, ⟨qQ BK357⟩, ⟨bq⟩⟩
       ·replace c16 := Bool.eq_false_iff.mpr c16
        subst c16
        have H1 : (Y20.l1 k2 x3_1 t361 x15_1 (rd t361 x15_1) (mx x7_2 (rd t361 x23_2)) t361 (t361.length : Int) x15_1 t361 (t361.length : Int) (wrap64 (x23_2 + 1)) a0_0 l0_1) = some r := by rw [if_neg (show ¬ (false = true) by decide)] at H; exact H
        clear H
        have H := H1
        clear H1
        obtain ⟨ji19, hji19⟩ : ∃ j_ : Int, (mx x7_2 (rd t361 x23_2)) = j_ := ⟨_, rfl⟩
        replace H : (Y20.l1 k2 x3_1 t361 x15_1 (rd t361 x15_1) ji19 t361 (t361.length : Int) x15_1 t361 (t361.length : Int) (wrap64 (x23_2 + 1)) a0_0 l0_1) = some r := by first | (rw [hji19] at H; exact H) | (simp only [hji19] at H ⊢; exact H)
        (try rw [hji19] at A15)
        have hji19_ : (if x7_2 < (rd t361 x23_2) then (rd t361 x23_2) else x7_2) = ji19 := hji19
        have H' := aM H
        clear H
        have p365 : 0 ≤ (x23_2 : Int) := odt
        have q365 : x23_2 < (t361.length : Int) := odt
        obtain ⟨ad365, e365, hx365_0⟩ := Kd.at_int (Kd.R_reads' HO_21.out).2.2 x23_2 p365 q365
        obtain rfl : ad364 = ad365 := (by injection e365)
        replace p365 := eq_true p365
        replace q365 := eq_true q365
        have hcz20_0 := zc20 BK357
        have hcz20_1 := zc21 BK357
        have hfz20_0 := blk_frozen BK357.out 0
        have hfz20_1 := blk_frozen BK357.out 1
        go_wp2_with (first | ((with_reducible refine gate_callee (f := 99) rfl ?_); refine gL (some 31) Tryz.func99 #[.agg #[.int .i64 a0_0, .slice A0_1 l0_1.length c0_1], .int .i64 x15_1, .int .i64 x23_2] ?_; (with_reducible refine (Y9.calls a0_0 _ _ l0_1 x15_1 x23_2 false _ (cQ (Kd.C_below HR0_1.out HB.out)) HC0_1.out A15.out).mono ?_); rintro e w21 ⟨rfl, hb⟩; refine ⟨_, rfl, ?_⟩; have _ := aM (Kd.R_below (rQ HO_3) hb); have _ := aM (Kd.R_below (rQ HO_4) hb); have _ := aM (Kd.R_below (rQ HO_13) hb); have _ := aM (Kd.R_below (rQ HO_21) hb); have _ := bK BK357 hb; have _ := bB hb; clear HO_3 HO_4 HO_13 HO_21 BK357 HB; rename_i HO_3 HO_4 HO_13 HO_21 BK357 HB; (try clear hb)))
        go_roundg k2
        case measure => have := HK1.out; have := HK2.out; omega
        case rel => exact ⟨(ji19), (wrap64 (x23_2 + 1)), (by first | rfl | (simp; done) | (simp only [← hji19] <;> (first | rfl | simp)) | (simp [*]; done)), eR, H', ⟨by have := HK1.out; have := HK2.out; omega⟩, ⟨rQ HO_3⟩, ⟨rQ HO_4⟩, ⟨rQ HO_13⟩, ⟨rQ HO_21⟩, ⟨qQ BK357⟩, ⟨bq⟩⟩
      ·rw [if_neg c12] at H
       have c12b0 := decide_eq_false c12
       clear c12
       replace H := iS H
       obtain ⟨c22, H⟩ := H
       have LMc22 := aM c22
       clear c22
       obtain ⟨y367, hy367⟩ := nE ((x3_1 ++ [(⟨(rd t361 x15_1), x7_2⟩ : S130)]) : List (S130))
       try rw [← hy367] at H
       try with_reducible replace H := (Option.bind_some _ _).symm.trans H
       try dsimp only at H
       have Ny367 := aM hy367
       clear hy367
       have H' := aM H
       clear H
       go_wp2_with (first | ((with_reducible refine gate_builtin (b := .append) (xs := #[.tmp 37, .tmp 41]) rfl ?_); at_builtin; refine Kd.R_append k130 (w0 := w) w.heap.size rfl (.tmp 37) (.tmp 41) 122 130 (.agg #[(.int .i64 0), (.int .i64 0)]) 16 rfl Tryz.underlying122 info130 rfl (by decide) (by omega) u3 x3_1 (⟨(rd t361 x15_1), x7_2⟩ : S130) [.int .i64 (rd t361 x15_1), .int .i64 x7_2] (fun _ => True) (fun _ => False) rfl rfl ?aP (fun _ hk => hk.elim) ?aF ?aO ?aB ?aS ?aL ?_; (case aP => exact k130_mkM _ _ _ (⟨(rd t361 x15_1), x7_2⟩ : S130)); (case aB => exact bq); (case aF => exact (fun _ _ => trivial)); (case aO => exact (rQ HO_3)); (case aS => exact (below_size bq)); (case aL => have := LMc22.out; omega); intro v368 w23 ho hb hg hat; rw [← Ny367.out] at ho; have _ := aM (Kd.R_over' (rQ HO_4) (Kd.R_typed (rQ HO_3)) (by decide) hg); have _ := aM (Kd.R_over' (rQ HO_13) (Kd.R_typed (rQ HO_3)) (by decide) hg); have _ := aM (Kd.R_over' (rQ HO_21) (Kd.R_typed (rQ HO_3)) (by decide) hg); have _ := aM (blk_grown (g := gb357) (o := .cells #[.int .i64 a0_0, .slice A0_1 l0_1.length c0_1] 26 (0, 0)) (qQ BK357) hg (Kd.R_ne HO_3.out BK357.out (by decide))); have _ := aM (hb); have _ := aM (ho); clear HO_4 HO_13 HO_21 BK357 HB HO_3; rename_i HO_4 HO_13 HO_21 BK357 HB HO369; clear ho hb hg hat))
       go_roundg k2
       case measure => have := HK1.out; have := HK2.out; omega
       case rel => exact ⟨(y367), (wrap64 (x15_1 + 1)), eR, H', ⟨by have := HK1.out; have := HK2.out; omega⟩, ⟨rQ HO369⟩, ⟨rQ HO_4⟩, ⟨rQ HO_13⟩, ⟨qQ BK357⟩, ⟨bq⟩⟩
   ·rw [if_neg c9] at H
    have c9b0 := decide_eq_false c9
    clear c9
    obtain rfl := Option.some.inj H
    go_wp2
    go_ret
    exact ⟨_, eE, rQ HO_3, bq⟩
end Go.Proofs.YtjmmleofnjcjoaaGreatDoor.Du
