-- Written by hook.py (wip/), over the kit's print.py.
import Derived.Test.YtcodionjhcmfhaaGreatDoorOa2
import Derived.Test.YtcodionjhcmfhaaGreatDoorOa5
import Derived.Test.YtcodionjhcmfhaaGreatDoorOaXSq
namespace Go.Proofs.YtcodionjhcmfhaaGreatDoor.Oa
open Go.RowKit Go.Proofs.YtcodionjhcmfhaaGreatDoorW.PrintWords Go.Proofs.YtcodionjhcmfhaaGreatDoorW.PrintLast Go.Proofs.YtcodionjhcmfhaaGreatDoorW.PrintMore Go.Proofs.YtcodionjhcmfhaaGreatDoor.Sq
attribute [local go_sem] max2_int min2_int max_two min_two max_three min_three max_four min_four
set_option linter.unusedVariables false
set_option linter.unusedSimpArgs false
set_option maxHeartbeats 8000000
set_option maxRecDepth 100000
mutual
def Y17.l0 : Nat → List Int → List Int → List Int → Int → Int → Option (List Int)
 | 0, _, _, _, _, _ => none
 | k + 1, x3, x5, x17, x18, x19 => if x19 < x18 then (if 0 ≤ x19 then (if x19 < (x17.length : Int) then (Y17.l1 k x3 x5 (rd x17 x19) 0 x17 x18 x19 x5 (x5.length : Int) 0) else (none)) else (none)) else (some x3)
def Y17.l1 : Nat → List Int → List Int → Int → Int → List Int → Int → Int → List Int → Int → Int → Option (List Int)
 | 0, _, _, _, _, _, _, _, _, _, _ => none
 | k + 1, x3, x5, x7, x8, x17, x18, x19, x23, x24, x25 => if x25 < x24 then (if 0 ≤ x25 then (if x25 < (x23.length : Int) then (if (rd x23 x25) = x7 then (Y17.l1 k x3 x5 x7 x8 x17 x18 x19 x23 x24 (wrap64 (x25 + 1))) else (if (Go.bits .andNot .i64 (rd x23 x25) x7) = 0 then (Y17.l1 k x3 x5 x7 (wrap64 (x8 + 1)) x17 x18 x19 x23 x24 (wrap64 (x25 + 1))) else (Y17.l1 k x3 x5 x7 x8 x17 x18 x19 x23 x24 (wrap64 (x25 + 1))))) else (none)) else (none)) else (if x3.length < 17592186044416 then (Y17.l0 k (x3 ++ [x8]) x5 x17 x18 (wrap64 (x19 + 1))) else (none))
end
def Y17.f (k : Nat) (a0_0 : Int) (l0_1 : List Int) : Option (List Int) := (Y6.f a0_0 l0_1).bind fun bt137 => ((Y2.f bt137.2).bind fun t141 => (Y17.l0 k (([] : List Int)) t141 bt137.2 (bt137.2.length : Int) 0))
theorem Y17.calls (k : Nat) (a0_0 : Int) (A0_1 : Option Addr) (c0_1 : Nat) (l0_1 : List Int) (r : List Int) (w : World) (hr0_1 : Kd.C (Kd.int .i64) w A0_1 l0_1.length l0_1) (hc0_1 : l0_1.length ≤ c0_1) (h : Y17.f k a0_0 l0_1 = some r) :
  Calls Tryz.prog 106 #[.agg #[.int .i64 a0_0, .slice A0_1 l0_1.length c0_1]] w fun e w' => ∃ v0_ : Value, e = .returned (v0_) ∧ Kd.R (Kd.int .i64) 3 w' w.heap.size (fun _ => True) v0_ r ∧ Below w.heap.size w w' := by
 have hu26 := Tryz.underlying26
 have hfd : ∀ (w_ : World) (a_ b_ : Value), (Instr.field 26 (.agg #[a_, b_]) 1).run Tryz.prog w_ = .ok b_ w_ := fun _ _ _ => by first | rfl | kernel_rfl
 have HR0_1 := aM hr0_1
 have HC0_1 := aM hc0_1
 clear hr0_1 hc0_1
 have HB := aM (Below.refl w.heap.size w)
 unfold Y17.f at h
 have H := h
 clear h
 obtain ⟨y134, hy134⟩ := nE ((([] : List Int)) : List Int)
 try rw [← hy134] at H
 try with_reducible replace H := (Option.bind_some _ _).symm.trans H
 try dsimp only at H
 have Ny134 := aM hy134
 clear hy134
 replace H := bS H
 obtain ⟨⟨t137, t138⟩, A2, H⟩ := H
 try dsimp only at H
 replace H := bS H
 obtain ⟨t141, A3, H⟩ := H
 try dsimp only at H
 have H' := aM H
 clear H
 go_enter Tryz.func106, Tryz.ntmps106
 go_wp2_with (first | ((with_reducible refine gate_dst (N := 1) rfl ?_); refine bF 1 26 #[.int .i64 a0_0, .slice A0_1 l0_1.length c0_1] bq ?_; intro gb133 w4 hg hb _ _ _ _; clear HB; rename_i HB BK133 GW133 GE133; clear hb hg) | ((with_reducible refine gate_dst (N := 11) rfl ?_); refine Kd.R_lit (Kd.int .i64) _ 3 ?hg (N := 11) ?hd (xs := ([] : List Int)) (inner := []) (ok := fun _ => True) (okp := fun _ => True) ?hr ?hp (fun _ hk => hk) trivial (Below.refl _ _) (Nat.le_refl _) (by simp) ?_; (case hd => rfl); (case hg => rfl); (case hr => first | (go_simp; done) | (go_simp; rfl)); (case hp => exact (Reps.none _ _)); intro v135 w5 ho6 hb hg_ hnew_; clear hg_ hnew_; (first | rw [← Ny134.out] at ho6 | (simp only [Int.reduceToNat] at ho6; rw [← Ny134.out] at ho6)); have _ := aM (Kd.R_lower ho6 (below_size bq)); have _ := bK BK133 hb; have _ := bB hb; clear BK133 HB; rename_i HO136 BK133 HB; clear hb ho6; have hcz7_0 := zc20 BK133; have hcz7_1 := zc21 BK133; have hfz7_0 := blk_frozen BK133.out 0; have hfz7_1 := blk_frozen BK133.out 1) | ((with_reducible refine gate_callee (f := 41) rfl ?_); refine gL (some 13) Tryz.func41 #[.agg #[.int .i64 a0_0, .slice A0_1 l0_1.length c0_1]] ?_; (with_reducible refine (Y6.calls a0_0 _ _ l0_1 t137 t138 _ (cQ (Kd.C_below HR0_1.out HB.out)) HC0_1.out A2.out).mono ?_); rintro e w8 ⟨v139, rfl, ho0, hb⟩; refine ⟨_, rfl, ?_⟩; have _ := aM (Kd.R_elder' (rQ HO136) (Kd.R_base ho0) hb); have _ := aM (Kd.R_lower (Kd.R_new' ho0 (Kd.R_lt (rQ HO136))) (below_size bq)); have _ := bK BK133 hb; have _ := bB hb; clear HO136 BK133 HB; rename_i HO136 HO140 BK133 HB; (try clear hb); (try clear ho0); obtain ⟨Ao9, co9, eo9⟩ := Kd.R_slice HO140.out; subst eo9) | ((with_reducible refine gate_callee (f := 105) rfl ?_); refine gL (some 16) Tryz.func105 #[.slice Ao9 t138.length co9] ?_; (with_reducible refine (Y2.calls _ _ t138 t141 _ (cQ ((Kd.R_reads' HO140.out).2.2)) ((Kd.R_reads' HO140.out).2.1) A3.out).mono ?_); rintro e w10 ⟨v142, rfl, ho0, hb⟩; refine ⟨_, rfl, ?_⟩; have _ := aM (Kd.R_elder' (rQ HO136) (Kd.R_base ho0) hb); have _ := aM (Kd.R_elder' (rQ HO140) (Kd.R_base ho0) hb); have _ := aM (Kd.R_lower (Kd.R_new' (Kd.R_new' ho0 (Kd.R_lt (rQ HO136))) (Kd.R_lt (rQ HO140))) (below_size bq)); have _ := bK BK133 hb; have _ := bB hb; clear HO136 HO140 BK133 HB; rename_i HO136 HO140 HO143 BK133 HB; (try clear hb); (try clear ho0)))
 go_loopg [3, 19] k (fun kq v3 v19 w' => ∃ (x3_1 : List Int) (x19_1 : Int), v19 = .int .i64 x19_1 ∧ Aside0 (Y17.l0 kq x3_1 t141 t138 (t138.length : Int) x19_1 = some r) ∧ Aside0 (kq ≤ k) ∧ Aside0 (Kd.R (Kd.int .i64) 3 w' w.heap.size (fun k_ => some k_ ≠ (v142 : Value).ownBlock ∧ some k_ ≠ ((.slice Ao9 t138.length co9) : Value).ownBlock) v3 x3_1) ∧ Aside0 (Kd.R (Kd.int .i64) 3 w' w.heap.size (fun k_ => some k_ ≠ (v3 : Value).ownBlock ∧ some k_ ≠ ((.slice Ao9 t138.length co9) : Value).ownBlock) v142 t141) ∧ Aside0 (Kd.R (Kd.int .i64) 3 w' w.heap.size (fun k_ => some k_ ≠ (v3 : Value).ownBlock ∧ some k_ ≠ (v142 : Value).ownBlock) (.slice Ao9 t138.length co9) t138) ∧ Aside0 (w'.heap[gb133]? = some (.cells #[.int .i64 a0_0, (.slice A0_1 l0_1.length c0_1)] 26 (0, 0))) ∧ Aside0 (Below w.heap.size w w'))
 case atStart => exact ⟨(y134), (0), eR, H', ⟨Nat.le_refl _⟩, ⟨by (with_reducible repeat first|apply rA|apply rN|apply rD); exact Kd.R_mono HO136.out (fun _ hk => ⟨hk.2, hk.1.2⟩)⟩, ⟨by (with_reducible repeat first|apply rA|apply rN|apply rD); exact Kd.R_mono HO143.out (fun _ hk => ⟨hk.1.2, hk.2⟩)⟩, ⟨by (with_reducible repeat first|apply rA|apply rN|apply rD); exact Kd.R_mono HO140.out (fun _ hk => ⟨hk.1.2, hk.2⟩)⟩, ⟨qQ BK133⟩, ⟨bq⟩⟩
 case round =>
  clear H'
  try clear hcz7_0
  try clear hcz7_1
  try clear hfz7_0
  try clear hfz7_1
  obtain ⟨x3_1, x19_1, rfl, HA, HK1, HO_3, HO_5, HO_17, BK133, HB⟩ := hrel
  cases gk with
  | zero => exact absurd HA.out (by simp [Y17.l0])
  | succ k1 =>
   have H := HA.out
   clear HA
   simp only [Y17.l0] at H
   by_cases c11 : x19_1 < (t138.length : Int)
   ·rw [if_pos c11] at H
    have c11b0 := decide_eq_true c11
    clear c11
    replace H := iD2 H
    obtain ⟨c12b0, c13b0, H⟩ := H
    have H' := aM H
    clear H
    have p144 : 0 ≤ (x19_1 : Int) := odt
    have q144 : x19_1 < (t138.length : Int) := odt
    obtain ⟨ad144, e144, hx144_0⟩ := Kd.at_int (Kd.R_reads' HO_17.out).2.2 x19_1 p144 q144
    cases e144
    replace p144 := eq_true p144
    replace q144 := eq_true q144
    obtain ⟨Ao14, co14, eo14⟩ := Kd.R_slice HO_5.out
    subst eo14
    go_wp2
    go_loopg [8, 25] k1 (fun kq v8 v25 w' => ∃ (x8_2 : Int) (x25_2 : Int), v8 = .int .i64 x8_2 ∧ v25 = .int .i64 x25_2 ∧ Aside0 (Y17.l1 kq x3_1 t141 (rd t138 x19_1) x8_2 t138 (t138.length : Int) x19_1 t141 (t141.length : Int) x25_2 = some r) ∧ Aside0 (kq ≤ k1) ∧ Aside0 (Kd.R (Kd.int .i64) 3 w' w.heap.size (fun k_ => some k_ ≠ ((.slice Ao14 t141.length co14) : Value).ownBlock ∧ some k_ ≠ ((.slice (some ad144) t138.length co9) : Value).ownBlock ∧ some k_ ≠ ((.slice Ao14 t141.length co14) : Value).ownBlock) u3 x3_1) ∧ Aside0 (Kd.R (Kd.int .i64) 3 w' w.heap.size (fun k_ => some k_ ≠ (u3 : Value).ownBlock ∧ some k_ ≠ ((.slice (some ad144) t138.length co9) : Value).ownBlock) (.slice Ao14 t141.length co14) t141) ∧ Aside0 (Kd.R (Kd.int .i64) 3 w' w.heap.size (fun k_ => some k_ ≠ (u3 : Value).ownBlock ∧ some k_ ≠ ((.slice Ao14 t141.length co14) : Value).ownBlock ∧ some k_ ≠ ((.slice Ao14 t141.length co14) : Value).ownBlock) (.slice (some ad144) t138.length co9) t138) ∧ Aside0 (Kd.R (Kd.int .i64) 3 w' w.heap.size (fun k_ => some k_ ≠ (u3 : Value).ownBlock ∧ some k_ ≠ ((.slice (some ad144) t138.length co9) : Value).ownBlock) (.slice Ao14 t141.length co14) t141) ∧ Aside0 (w'.heap[gb133]? = some (.cells #[.int .i64 a0_0, (.slice A0_1 l0_1.length c0_1)] 26 (0, 0))) ∧ Aside0 (Below w.heap.size w w'))
    case atStart => exact ⟨(0), (0), eR, eR, H', ⟨Nat.le_refl _⟩, ⟨by (with_reducible repeat first|apply rA|apply rN|apply rD); exact Kd.R_mono HO_3.out (fun _ hk => ⟨hk.1, ⟨hk.2, hk.1⟩⟩)⟩, ⟨rQ HO_5⟩, ⟨by (with_reducible repeat first|apply rA|apply rN|apply rD); exact Kd.R_mono HO_17.out (fun _ hk => ⟨hk.1, ⟨hk.2, hk.2⟩⟩)⟩, ⟨rQ HO_5⟩, ⟨qQ BK133⟩, ⟨bq⟩⟩
    case round =>
     clear H'
     try clear c11
     try clear c11b0
     try clear c12b0
     try clear c13b0
     try clear hcz7_0
     try clear hcz7_1
     try clear hfz7_0
     try clear hfz7_1
     try clear hx144_0
     try clear p144
     try clear q144
     obtain ⟨x8_2, x25_2, rfl, rfl, HA, HK2, HO_3, HO_5, HO_17, HO_23, BK133, HB⟩ := hrel
     cases gk with
     | zero => exact absurd HA.out (by simp [Y17.l1])
     | succ k2 =>
      have H := HA.out
      clear HA
      simp only [Y17.l1] at H
      by_cases c15 : x25_2 < (t141.length : Int)
      ·rw [if_pos c15] at H
       have c15b0 := decide_eq_true c15
       clear c15
       replace H := iD2 H
       obtain ⟨c16b0, c17b0, H⟩ := H
       by_cases c18 : (rd t141 x25_2) = (rd t138 x19_1)
       ·rw [if_pos c18] at H
        have c18b0 : ((rd t141 x25_2) == (rd t138 x19_1)) = true := beq_iff_eq.mpr c18
        have c18b1 : ((rd t141 x25_2) != (rd t138 x19_1)) = false := bne_eq_false_iff_eq.mpr c18
        clear c18
        have H' := aM H
        clear H
        have p145 : 0 ≤ (x25_2 : Int) := odt
        have q145 : x25_2 < (t141.length : Int) := odt
        obtain ⟨ad145, e145, hx145_0⟩ := Kd.at_int (Kd.R_reads' HO_23.out).2.2 x25_2 p145 q145
        cases e145
        replace p145 := eq_true p145
        replace q145 := eq_true q145
        go_wp2
        go_roundg k2
        case measure => have := HK1.out; have := HK2.out; omega
        case rel => exact ⟨(x8_2), (wrap64 (x25_2 + 1)), eR, eR, H', ⟨by have := HK1.out; have := HK2.out; omega⟩, ⟨rQ HO_3⟩, ⟨rQ HO_5⟩, ⟨rQ HO_17⟩, ⟨rQ HO_23⟩, ⟨qQ BK133⟩, ⟨bq⟩⟩
       ·rw [if_neg c18] at H
        have c18b0 : ((rd t141 x25_2) == (rd t138 x19_1)) = false := beq_eq_false_iff_ne.mpr c18
        have c18b1 : ((rd t141 x25_2) != (rd t138 x19_1)) = true := bne_iff_ne.mpr c18
        by_cases c19 : (Go.bits .andNot .i64 (rd t141 x25_2) (rd t138 x19_1)) = 0
        ·rw [if_pos c19] at H
         have c19b0 : ((Go.bits .andNot .i64 (rd t141 x25_2) (rd t138 x19_1)) == 0) = true := beq_iff_eq.mpr c19
         have c19b1 : ((Go.bits .andNot .i64 (rd t141 x25_2) (rd t138 x19_1)) != 0) = false := bne_eq_false_iff_eq.mpr c19
         clear c19
         have H' := aM H
         clear H
         have p145 : 0 ≤ (x25_2 : Int) := odt
         have q145 : x25_2 < (t141.length : Int) := odt
         obtain ⟨ad145, e145, hx145_0⟩ := Kd.at_int (Kd.R_reads' HO_23.out).2.2 x25_2 p145 q145
         cases e145
         replace p145 := eq_true p145
         replace q145 := eq_true q145
         go_wp2
         go_roundg k2
         case measure => have := HK1.out; have := HK2.out; omega
         case rel => exact ⟨(wrap64 (x8_2 + 1)), (wrap64 (x25_2 + 1)), eR, eR, H', ⟨by have := HK1.out; have := HK2.out; omega⟩, ⟨rQ HO_3⟩, ⟨rQ HO_5⟩, ⟨rQ HO_17⟩, ⟨rQ HO_23⟩, ⟨qQ BK133⟩, ⟨bq⟩⟩
        ·rw [if_neg c19] at H
         have c19b0 : ((Go.bits .andNot .i64 (rd t141 x25_2) (rd t138 x19_1)) == 0) = false := beq_eq_false_iff_ne.mpr c19
         have c19b1 : ((Go.bits .andNot .i64 (rd t141 x25_2) (rd t138 x19_1)) != 0) = true := bne_iff_ne.mpr c19
         have H' := aM H
         clear H
         have p145 : 0 ≤ (x25_2 : Int) := odt
         have q145 : x25_2 < (t141.length : Int) := odt
         obtain ⟨ad145, e145, hx145_0⟩ := Kd.at_int (Kd.R_reads' HO_23.out).2.2 x25_2 p145 q145
         cases e145
         replace p145 := eq_true p145
         replace q145 := eq_true q145
         go_wp2
         go_roundg k2
         case measure => have := HK1.out; have := HK2.out; omega
         case rel => exact ⟨(x8_2), (wrap64 (x25_2 + 1)), eR, eR, H', ⟨by have := HK1.out; have := HK2.out; omega⟩, ⟨rQ HO_3⟩, ⟨rQ HO_5⟩, ⟨rQ HO_17⟩, ⟨rQ HO_23⟩, ⟨qQ BK133⟩, ⟨bq⟩⟩
      ·rw [if_neg c15] at H
       have c15b0 := decide_eq_false c15
       clear c15
       replace H := iS H
       obtain ⟨c20, H⟩ := H
       have LMc20 := aM c20
       clear c20
       obtain ⟨y146, hy146⟩ := nE ((x3_1 ++ [x8_2]) : List Int)
       try rw [← hy146] at H
       try with_reducible replace H := (Option.bind_some _ _).symm.trans H
       try dsimp only at H
       have Ny146 := aM hy146
       clear hy146
       have H' := aM H
       clear H
       go_wp2_with (first | ((with_reducible refine gate_builtin (b := .append) (xs := #[.tmp 41, .tmp 43]) rfl ?_); at_builtin; refine Kd.R_append (Kd.int .i64) (w0 := w) w.heap.size rfl (.tmp 41) (.tmp 43) 24 3 (.int .i64 0) 8 rfl Tryz.underlying24 info3 rfl (by decide) (by omega) u3 x3_1 x8_2 [.int .i64 x8_2] (fun k_ => some k_ ≠ (.slice Ao14 t141.length co14 : Value).ownBlock ∧ some k_ ≠ (.slice (some ad144) t138.length co9 : Value).ownBlock ∧ some k_ ≠ (.slice Ao14 t141.length co14 : Value).ownBlock) (fun _ => False) rfl rfl ?aP (fun _ hk => hk.elim) ?aF ?aO ?aB ?aS ?aL ?_; (case aP => exact rfl); (case aB => exact bq); (case aF => exact (fun k_ hk => ⟨Kd.fresh' (Kd.R_lt (rQ HO_5)) k_ hk, Kd.fresh' (Kd.R_lt (rQ HO_17)) k_ hk, Kd.fresh' (Kd.R_lt (rQ HO_23)) k_ hk⟩)); (case aO => exact (rQ HO_3)); (case aS => exact (below_size bq)); (case aL => have := LMc20.out; omega); intro v147 w21 ho hb hg hat; rw [← Ny146.out] at ho; have _ := aM (Kd.R_after (ok := (fun k_ => some k_ ≠ (.slice (some ad144) t138.length co9 : Value).ownBlock)) (by (with_reducible repeat first|apply rA|apply rN|apply rD); exact Kd.R_mono HO_5.out (fun _ hk => ⟨hk.2, hk.1⟩)) hg hat); have _ := aM (Kd.R_after (ok := (fun k_ => some k_ ≠ (.slice Ao14 t141.length co14 : Value).ownBlock ∧ some k_ ≠ (.slice Ao14 t141.length co14 : Value).ownBlock)) (by (with_reducible repeat first|apply rA|apply rN|apply rD); exact Kd.R_mono HO_17.out (fun _ hk => ⟨⟨hk.2.1, hk.2.2⟩, hk.1⟩)) hg hat); have _ := aM (Kd.R_after (ok := (fun k_ => some k_ ≠ (.slice (some ad144) t138.length co9 : Value).ownBlock)) (by (with_reducible repeat first|apply rA|apply rN|apply rD); exact Kd.R_mono HO_23.out (fun _ hk => ⟨hk.2, hk.1⟩)) hg hat); have _ := aM (blk_grown (g := gb133) (o := .cells #[.int .i64 a0_0, .slice A0_1 l0_1.length c0_1] 26 (0, 0)) (qQ BK133) hg (Kd.R_ne HO_3.out BK133.out (by decide))); have _ := aM (hb); have _ := aM (ho); clear HO_5 HO_17 HO_23 BK133 HB HO_3; rename_i HO_5 HO_17 HO_23 BK133 HB HO148; clear ho hb hg hat))
       go_roundg k2
       case measure => have := HK1.out; have := HK2.out; omega
       case rel => exact ⟨(y146), (wrap64 (x19_1 + 1)), eR, H', ⟨by have := HK1.out; have := HK2.out; omega⟩, ⟨by (with_reducible repeat first|apply rA|apply rN|apply rD); exact Kd.R_mono HO148.out (fun _ hk => ⟨hk.1, hk.2.1⟩)⟩, ⟨by (with_reducible repeat first|apply rA|apply rN|apply rD); exact Kd.R_mono HO_5.out (fun _ hk => ⟨hk.2, hk.1⟩)⟩, ⟨by (with_reducible repeat first|apply rA|apply rN|apply rD); exact Kd.R_mono HO_17.out (fun _ hk => ⟨hk.2, hk.1.1⟩)⟩, ⟨qQ BK133⟩, ⟨bq⟩⟩
   ·rw [if_neg c11] at H
    have c11b0 := decide_eq_false c11
    clear c11
    obtain rfl := Option.some.inj H
    go_wp2
    go_ret
    exact ⟨_, eE, by (with_reducible repeat first|apply rA|apply rN|apply rD); exact Kd.R_mono HO_3.out (fun _ hk => trivial), bq⟩
def Y75.f (k : Nat) (a0_0 : Int) (l0_1 : List Int) : Option (Int) := (Y17.f k a0_0 l0_1).bind fun t150 => ((Y2.f t150).bind fun t153 => (some (t153.length : Int)))
theorem Y75.calls (k : Nat) (a0_0 : Int) (A0_1 : Option Addr) (c0_1 : Nat) (l0_1 : List Int) (r : Int) (w : World) (hr0_1 : Kd.C (Kd.int .i64) w A0_1 l0_1.length l0_1) (hc0_1 : l0_1.length ≤ c0_1) (h : Y75.f k a0_0 l0_1 = some r) :
  Calls Tryz.prog 69 #[.agg #[.int .i64 a0_0, .slice A0_1 l0_1.length c0_1]] w fun e w' => e = .returned (.int .i64 r) ∧ Below w.heap.size w w' := by
 have hu26 := Tryz.underlying26
 have HR0_1 := aM hr0_1
 have HC0_1 := aM hc0_1
 clear hr0_1 hc0_1
 have HB := aM (Below.refl w.heap.size w)
 unfold Y75.f at h
 have H := h
 clear h
 replace H := bS H
 obtain ⟨t150, A2, H⟩ := H
 try dsimp only at H
 replace H := bS H
 obtain ⟨t153, A3, H⟩ := H
 try dsimp only at H
 obtain rfl := Option.some.inj H
 go_enter Tryz.func69, Tryz.ntmps69
 go_wp2_with (first | ((with_reducible refine gate_dst (N := 1) rfl ?_); refine bF 1 26 #[.int .i64 a0_0, .slice A0_1 l0_1.length c0_1] bq ?_; intro gb149 w4 hg hb _ _ _ _; clear HB; rename_i HB BK149 GW149 GE149; clear hb hg; have hcz5_0 := zc20 BK149; have hcz5_1 := zc21 BK149; have hfz5_0 := blk_frozen BK149.out 0; have hfz5_1 := blk_frozen BK149.out 1) | ((with_reducible refine gate_callee (f := 106) rfl ?_); refine gL (some 4) Tryz.func106 #[.agg #[.int .i64 a0_0, .slice A0_1 l0_1.length c0_1]] ?_; (with_reducible refine (Y17.calls k a0_0 _ _ l0_1 t150 _ (cQ (Kd.C_below HR0_1.out HB.out)) HC0_1.out A2.out).mono ?_); rintro e w6 ⟨v151, rfl, ho0, hb⟩; refine ⟨_, rfl, ?_⟩; have _ := aM (Kd.R_lower ho0 (below_size bq)); have _ := bK BK149 hb; have _ := bB hb; clear BK149 HB; rename_i HO152 BK149 HB; (try clear hb); (try clear ho0); obtain ⟨Ao7, co7, eo7⟩ := Kd.R_slice HO152.out; subst eo7) | ((with_reducible refine gate_callee (f := 105) rfl ?_); refine gL (some 5) Tryz.func105 #[.slice Ao7 t150.length co7] ?_; (with_reducible refine (Y2.calls _ _ t150 t153 _ (cQ ((Kd.R_reads' HO152.out).2.2)) ((Kd.R_reads' HO152.out).2.1) A3.out).mono ?_); rintro e w8 ⟨v154, rfl, ho0, hb⟩; refine ⟨_, rfl, ?_⟩; have _ := aM (Kd.R_elder' (rQ HO152) (Kd.R_base ho0) hb); have _ := aM (Kd.R_lower (Kd.R_new' ho0 (Kd.R_lt (rQ HO152))) (below_size bq)); have _ := bK BK149 hb; have _ := bB hb; clear HO152 BK149 HB; rename_i HO152 HO155 BK149 HB; (try clear hb); (try clear ho0); obtain ⟨Ao9, co9, eo9⟩ := Kd.R_slice HO155.out; subst eo9))
 go_ret
 exact ⟨eE, bq⟩
mutual
def Y19.l0 : Nat → List (S70) → List Int → List Int → Int → Int → Int → List Int → Option ((List (S70)))
 | 0, _, _, _, _, _, _, _ => none
 | k + 1, x3, x4, x13, x14, x15, x157000, x157001 => if x15 < x14 then (if 0 ≤ x15 then (if x15 < (x13.length : Int) then (Y19.l1 k x3 x4 x15 (rd x13 x15) (rd x13 x15) x13 x14 x15 x4 (x4.length : Int) 0 x157000 x157001) else (none)) else (none)) else (some x3)
def Y19.l1 : Nat → List (S70) → List Int → Int → Int → Int → List Int → Int → Int → List Int → Int → Int → Int → List Int → Option ((List (S70)))
 | 0, _, _, _, _, _, _, _, _, _, _, _, _, _ => none
 | k + 1, x3, x4, x5, x6, x7, x13, x14, x15, x21, x22, x23, x157000, x157001 => if x23 < x22 then (if 0 ≤ x23 then (if x23 < (x21.length : Int) then ((Y11.f x157000 x157001 x5 x23).bind fun t165 => (if t165 = true then (Y19.l1 k x3 x4 x5 x6 x7 x13 x14 x15 x21 x22 (wrap64 (x23 + 1)) x157000 x157001) else (Y19.l1 k x3 x4 x5 x6 (mx x7 (rd x21 x23)) x13 x14 x15 x21 x22 (wrap64 (x23 + 1)) x157000 x157001))) else (none)) else (none)) else (if x3.length < 8796093022208 then (Y19.l0 k (x3 ++ [(⟨x6, x7⟩ : S70)]) x4 x13 x14 (wrap64 (x15 + 1)) x157000 x157001) else (none))
end
def Y19.f (k : Nat) (a0_0 : Int) (l0_1 : List Int) : Option ((List (S70))) := (Y17.f k a0_0 l0_1).bind fun t160 => (Y19.l0 k (([] : List (S70))) t160 t160 (t160.length : Int) 0 a0_0 l0_1)
theorem Y19.calls (k : Nat) (a0_0 : Int) (A0_1 : Option Addr) (c0_1 : Nat) (l0_1 : List Int) (r : List (S70)) (w : World) (hr0_1 : Kd.C (Kd.int .i64) w A0_1 l0_1.length l0_1) (hc0_1 : l0_1.length ≤ c0_1) (h : Y19.f k a0_0 l0_1 = some r) :
  Calls Tryz.prog 70 #[.agg #[.int .i64 a0_0, .slice A0_1 l0_1.length c0_1]] w fun e w' => ∃ v0_ : Value, e = .returned (v0_) ∧ Kd.R k70 70 w' w.heap.size (fun _ => True) v0_ r ∧ Below w.heap.size w w' := by
 have hu26 := Tryz.underlying26
 have hu70 := Tryz.underlying70
 have HR0_1 := aM hr0_1
 have HC0_1 := aM hc0_1
 clear hr0_1 hc0_1
 have HB := aM (Below.refl w.heap.size w)
 unfold Y19.f at h
 have H := h
 clear h
 obtain ⟨y157, hy157⟩ := nE ((([] : List (S70))) : List (S70))
 try rw [← hy157] at H
 try with_reducible replace H := (Option.bind_some _ _).symm.trans H
 try dsimp only at H
 have Ny157 := aM hy157
 clear hy157
 replace H := bS H
 obtain ⟨t160, A2, H⟩ := H
 try dsimp only at H
 have H' := aM H
 clear H
 go_enter Tryz.func70, Tryz.ntmps70
 go_wp2_with (first | ((with_reducible refine gate_dst (N := 1) rfl ?_); refine bF 1 26 #[.int .i64 a0_0, .slice A0_1 l0_1.length c0_1] bq ?_; intro gb156 w3 hg hb _ _ _ _; clear HB; rename_i HB BK156 GW156 GE156; clear hb hg) | ((with_reducible refine gate_dst (N := 10) rfl ?_); refine Kd.R_lit k70 _ 70 ?hg (N := 10) ?hd (xs := ([] : List (S70))) (inner := []) (ok := fun _ => True) (okp := fun _ => True) ?hr ?hp (fun _ hk => hk) trivial (Below.refl _ _) (Nat.le_refl _) (by simp) ?_; (case hd => rfl); (case hg => rfl); (case hr => first | (go_simp; done) | (go_simp; rfl)); (case hp => exact (Reps.none _ _)); intro v158 w4 ho5 hb hg_ hnew_; clear hg_ hnew_; (first | rw [← Ny157.out] at ho5 | (simp only [Int.reduceToNat] at ho5; rw [← Ny157.out] at ho5)); have _ := aM (Kd.R_lower ho5 (below_size bq)); have _ := bK BK156 hb; have _ := bB hb; clear BK156 HB; rename_i HO159 BK156 HB; clear hb ho5; have hcz6_0 := zc20 BK156; have hcz6_1 := zc21 BK156; have hfz6_0 := blk_frozen BK156.out 0; have hfz6_1 := blk_frozen BK156.out 1) | ((with_reducible refine gate_callee (f := 106) rfl ?_); refine gL (some 12) Tryz.func106 #[.agg #[.int .i64 a0_0, .slice A0_1 l0_1.length c0_1]] ?_; (with_reducible refine (Y17.calls k a0_0 _ _ l0_1 t160 _ (cQ (Kd.C_below HR0_1.out HB.out)) HC0_1.out A2.out).mono ?_); rintro e w7 ⟨v161, rfl, ho0, hb⟩; refine ⟨_, rfl, ?_⟩; have _ := aM (Kd.R_below (rQ HO159) hb); have _ := aM (Kd.R_lower ho0 (below_size bq)); have _ := bK BK156 hb; have _ := bB hb; clear HO159 BK156 HB; rename_i HO159 HO162 BK156 HB; (try clear hb); (try clear ho0); obtain ⟨Ao8, co8, eo8⟩ := Kd.R_slice HO162.out; subst eo8))
 go_loopg [3, 15] k (fun kq v3 v15 w' => ∃ (x3_1 : List (S70)) (x15_1 : Int), v15 = .int .i64 x15_1 ∧ Aside0 (Y19.l0 kq x3_1 t160 t160 (t160.length : Int) x15_1 a0_0 l0_1 = some r) ∧ Aside0 (kq ≤ k) ∧ Aside0 (Kd.R k70 70 w' w.heap.size (fun _ => True) v3 x3_1) ∧ Aside0 (Kd.R (Kd.int .i64) 3 w' w.heap.size (fun _ => True) (.slice Ao8 t160.length co8) t160) ∧ Aside0 (Kd.R (Kd.int .i64) 3 w' w.heap.size (fun _ => True) (.slice Ao8 t160.length co8) t160) ∧ Aside0 (w'.heap[gb156]? = some (.cells #[.int .i64 a0_0, (.slice A0_1 l0_1.length c0_1)] 26 (0, 0))) ∧ Aside0 (Below w.heap.size w w'))
 case atStart => exact ⟨(y157), (0), eR, H', ⟨Nat.le_refl _⟩, ⟨rQ HO159⟩, ⟨rQ HO162⟩, ⟨rQ HO162⟩, ⟨qQ BK156⟩, ⟨bq⟩⟩
 case round =>
  clear H'
  try clear hcz6_0
  try clear hcz6_1
  try clear hfz6_0
  try clear hfz6_1
  obtain ⟨x3_1, x15_1, rfl, HA, HK1, HO_3, HO_4, HO_13, BK156, HB⟩ := hrel
  cases gk with
  | zero => exact absurd HA.out (by simp [Y19.l0])
  | succ k1 =>
   have H := HA.out
   clear HA
   simp only [Y19.l0] at H
   by_cases c9 : x15_1 < (t160.length : Int)
   ·rw [if_pos c9] at H
    have c9b0 := decide_eq_true c9
    clear c9
    replace H := iD2 H
    obtain ⟨c10b0, c11b0, H⟩ := H
    have H' := aM H
    clear H
    have p163 : 0 ≤ (x15_1 : Int) := odt
    have q163 : x15_1 < (t160.length : Int) := odt
    obtain ⟨ad163, e163, hx163_0⟩ := Kd.at_int (Kd.R_reads' HO_13.out).2.2 x15_1 p163 q163
    cases e163
    replace p163 := eq_true p163
    replace q163 := eq_true q163
    go_wp2
    go_loopg [7, 23] k1 (fun kq v7 v23 w' => ∃ (x7_2 : Int) (x23_2 : Int), v7 = .int .i64 x7_2 ∧ v23 = .int .i64 x23_2 ∧ Aside0 (Y19.l1 kq x3_1 t160 x15_1 (rd t160 x15_1) x7_2 t160 (t160.length : Int) x15_1 t160 (t160.length : Int) x23_2 a0_0 l0_1 = some r) ∧ Aside0 (kq ≤ k1) ∧ Aside0 (Kd.R k70 70 w' w.heap.size (fun _ => True) u3 x3_1) ∧ Aside0 (Kd.R (Kd.int .i64) 3 w' w.heap.size (fun _ => True) (.slice (some ad163) t160.length co8) t160) ∧ Aside0 (Kd.R (Kd.int .i64) 3 w' w.heap.size (fun _ => True) (.slice (some ad163) t160.length co8) t160) ∧ Aside0 (Kd.R (Kd.int .i64) 3 w' w.heap.size (fun _ => True) (.slice (some ad163) t160.length co8) t160) ∧ Aside0 (w'.heap[gb156]? = some (.cells #[.int .i64 a0_0, (.slice A0_1 l0_1.length c0_1)] 26 (0, 0))) ∧ Aside0 (Below w.heap.size w w'))
    case atStart => exact ⟨(rd t160 x15_1), (0), eR, eR, H', ⟨Nat.le_refl _⟩, ⟨rQ HO_3⟩, ⟨rQ HO_4⟩, ⟨rQ HO_13⟩, ⟨rQ HO_4⟩, ⟨qQ BK156⟩, ⟨bq⟩⟩
    case round =>
     clear H'
     try clear c9
     try clear c9b0
     try clear c10b0
     try clear c11b0
     try clear hcz6_0
     try clear hcz6_1
     try clear hfz6_0
     try clear hfz6_1
     try clear hx163_0
     try clear p163
     try clear q163
     obtain ⟨x7_2, x23_2, rfl, rfl, HA, HK2, HO_3, HO_4, HO_13, HO_21, BK156, HB⟩ := hrel
     cases gk with
     | zero => exact absurd HA.out (by simp [Y19.l1])
     | succ k2 =>
      have H := HA.out
      clear HA
      simp only [Y19.l1] at H
      by_cases c12 : x23_2 < (t160.length : Int)
      ·rw [if_pos c12] at H
       have c12b0 := decide_eq_true c12
       clear c12
       replace H := iD2 H
       obtain ⟨c13b0, c14b0, H⟩ := H
       replace H := bS H
       obtain ⟨t165, A15, H⟩ := H
       try dsimp only at H
       by_cases c16 : t165 = true
       ·subst c16
        have H1 : (Y19.l1 k2 x3_1 t160 x15_1 (rd t160 x15_1) x7_2 t160 (t160.length : Int) x15_1 t160 (t160.length : Int) (wrap64 (x23_2 + 1)) a0_0 l0_1) = some r := by rw [if_pos rfl] at H; exact H
        clear H
        have H := H1
        clear H1
        have H' := aM H
        clear H
        have p164 : 0 ≤ (x23_2 : Int) := odt
        have q164 : x23_2 < (t160.length : Int) := odt
        obtain ⟨ad164, e164, hx164_0⟩ := Kd.at_int (Kd.R_reads' HO_21.out).2.2 x23_2 p164 q164
        obtain rfl : ad163 = ad164 := (by injection e164)
        replace p164 := eq_true p164
        replace q164 := eq_true q164
        have hcz17_0 := zc20 BK156
        have hcz17_1 := zc21 BK156
        have hfz17_0 := blk_frozen BK156.out 0
        have hfz17_1 := blk_frozen BK156.out 1
        go_wp2_with (first | ((with_reducible refine gate_callee (f := 80) rfl ?_); refine gL (some 31) Tryz.func80 #[.agg #[.int .i64 a0_0, .slice A0_1 l0_1.length c0_1], .int .i64 x15_1, .int .i64 x23_2] ?_; (with_reducible refine (Y11.calls a0_0 _ _ l0_1 x15_1 x23_2 true _ (cQ (Kd.C_below HR0_1.out HB.out)) HC0_1.out A15.out).mono ?_); rintro e w18 ⟨rfl, hb⟩; refine ⟨_, rfl, ?_⟩; have _ := aM (Kd.R_below (rQ HO_3) hb); have _ := aM (Kd.R_below (rQ HO_4) hb); have _ := aM (Kd.R_below (rQ HO_13) hb); have _ := aM (Kd.R_below (rQ HO_21) hb); have _ := bK BK156 hb; have _ := bB hb; clear HO_3 HO_4 HO_13 HO_21 BK156 HB; rename_i HO_3 HO_4 HO_13 HO_21 BK156 HB; (try clear hb)))
        go_roundg k2
        case measure => have := HK1.out; have := HK2.out; omega
        case rel => exact ⟨(x7_2), (wrap64 (x23_2 + 1)), eR, eR, H', ⟨by have := HK1.out; have := HK2.out; omega⟩, ⟨rQ HO_3⟩, ⟨rQ HO_4⟩, ⟨rQ HO_13⟩, ⟨rQ HO_21⟩, ⟨qQ BK156⟩, ⟨bq⟩⟩
       ·replace c16 := Bool.eq_false_iff.mpr c16
        subst c16
        have H1 : (Y19.l1 k2 x3_1 t160 x15_1 (rd t160 x15_1) (mx x7_2 (rd t160 x23_2)) t160 (t160.length : Int) x15_1 t160 (t160.length : Int) (wrap64 (x23_2 + 1)) a0_0 l0_1) = some r := by rw [if_neg (show ¬ (false = true) by decide)] at H; exact H
        clear H
        have H := H1
        clear H1
        obtain ⟨ji19, hji19⟩ : ∃ j_ : Int, (mx x7_2 (rd t160 x23_2)) = j_ := ⟨_, rfl⟩
        replace H : (Y19.l1 k2 x3_1 t160 x15_1 (rd t160 x15_1) ji19 t160 (t160.length : Int) x15_1 t160 (t160.length : Int) (wrap64 (x23_2 + 1)) a0_0 l0_1) = some r := by first | (rw [hji19] at H; exact H) | (simp only [hji19] at H ⊢; exact H)
        (try rw [hji19] at A15)
        have hji19_ : (if x7_2 < (rd t160 x23_2) then (rd t160 x23_2) else x7_2) = ji19 := hji19
        have H' := aM H
        clear H
        have p164 : 0 ≤ (x23_2 : Int) := odt
        have q164 : x23_2 < (t160.length : Int) := odt
        obtain ⟨ad164, e164, hx164_0⟩ := Kd.at_int (Kd.R_reads' HO_21.out).2.2 x23_2 p164 q164
        obtain rfl : ad163 = ad164 := (by injection e164)
        replace p164 := eq_true p164
        replace q164 := eq_true q164
        have hcz20_0 := zc20 BK156
        have hcz20_1 := zc21 BK156
        have hfz20_0 := blk_frozen BK156.out 0
        have hfz20_1 := blk_frozen BK156.out 1
        go_wp2_with (first | ((with_reducible refine gate_callee (f := 80) rfl ?_); refine gL (some 31) Tryz.func80 #[.agg #[.int .i64 a0_0, .slice A0_1 l0_1.length c0_1], .int .i64 x15_1, .int .i64 x23_2] ?_; (with_reducible refine (Y11.calls a0_0 _ _ l0_1 x15_1 x23_2 false _ (cQ (Kd.C_below HR0_1.out HB.out)) HC0_1.out A15.out).mono ?_); rintro e w21 ⟨rfl, hb⟩; refine ⟨_, rfl, ?_⟩; have _ := aM (Kd.R_below (rQ HO_3) hb); have _ := aM (Kd.R_below (rQ HO_4) hb); have _ := aM (Kd.R_below (rQ HO_13) hb); have _ := aM (Kd.R_below (rQ HO_21) hb); have _ := bK BK156 hb; have _ := bB hb; clear HO_3 HO_4 HO_13 HO_21 BK156 HB; rename_i HO_3 HO_4 HO_13 HO_21 BK156 HB; (try clear hb)))
        go_roundg k2
        case measure => have := HK1.out; have := HK2.out; omega
        case rel => exact ⟨(ji19), (wrap64 (x23_2 + 1)), (by first | rfl | (simp; done) | (simp only [← hji19] <;> (first | rfl | simp)) | (simp [*]; done)), eR, H', ⟨by have := HK1.out; have := HK2.out; omega⟩, ⟨rQ HO_3⟩, ⟨rQ HO_4⟩, ⟨rQ HO_13⟩, ⟨rQ HO_21⟩, ⟨qQ BK156⟩, ⟨bq⟩⟩
      ·rw [if_neg c12] at H
       have c12b0 := decide_eq_false c12
       clear c12
       replace H := iS H
       obtain ⟨c22, H⟩ := H
       have LMc22 := aM c22
       clear c22
       obtain ⟨y166, hy166⟩ := nE ((x3_1 ++ [(⟨(rd t160 x15_1), x7_2⟩ : S70)]) : List (S70))
       try rw [← hy166] at H
       try with_reducible replace H := (Option.bind_some _ _).symm.trans H
       try dsimp only at H
       have Ny166 := aM hy166
       clear hy166
       have H' := aM H
       clear H
       go_wp2_with (first | ((with_reducible refine gate_builtin (b := .append) (xs := #[.tmp 37, .tmp 41]) rfl ?_); at_builtin; refine Kd.R_append k70 (w0 := w) w.heap.size rfl (.tmp 37) (.tmp 41) 68 70 (.agg #[(.int .i64 0), (.int .i64 0)]) 16 rfl Tryz.underlying68 info70 rfl (by decide) (by omega) u3 x3_1 (⟨(rd t160 x15_1), x7_2⟩ : S70) [.int .i64 (rd t160 x15_1), .int .i64 x7_2] (fun _ => True) (fun _ => False) rfl rfl ?aP (fun _ hk => hk.elim) ?aF ?aO ?aB ?aS ?aL ?_; (case aP => exact k70_mkM _ _ _ (⟨(rd t160 x15_1), x7_2⟩ : S70)); (case aB => exact bq); (case aF => exact (fun _ _ => trivial)); (case aO => exact (rQ HO_3)); (case aS => exact (below_size bq)); (case aL => have := LMc22.out; omega); intro v167 w23 ho hb hg hat; rw [← Ny166.out] at ho; have _ := aM (Kd.R_over' (rQ HO_4) (Kd.R_typed (rQ HO_3)) (by decide) hg); have _ := aM (Kd.R_over' (rQ HO_13) (Kd.R_typed (rQ HO_3)) (by decide) hg); have _ := aM (Kd.R_over' (rQ HO_21) (Kd.R_typed (rQ HO_3)) (by decide) hg); have _ := aM (blk_grown (g := gb156) (o := .cells #[.int .i64 a0_0, .slice A0_1 l0_1.length c0_1] 26 (0, 0)) (qQ BK156) hg (Kd.R_ne HO_3.out BK156.out (by decide))); have _ := aM (hb); have _ := aM (ho); clear HO_4 HO_13 HO_21 BK156 HB HO_3; rename_i HO_4 HO_13 HO_21 BK156 HB HO168; clear ho hb hg hat))
       go_roundg k2
       case measure => have := HK1.out; have := HK2.out; omega
       case rel => exact ⟨(y166), (wrap64 (x15_1 + 1)), eR, H', ⟨by have := HK1.out; have := HK2.out; omega⟩, ⟨rQ HO168⟩, ⟨rQ HO_4⟩, ⟨rQ HO_13⟩, ⟨qQ BK156⟩, ⟨bq⟩⟩
   ·rw [if_neg c9] at H
    have c9b0 := decide_eq_false c9
    clear c9
    obtain rfl := Option.some.inj H
    go_wp2
    go_ret
    exact ⟨_, eE, rQ HO_3, bq⟩
end Go.Proofs.YtcodionjhcmfhaaGreatDoor.Oa
