-- Written by hook.py, a program of this session (wip/), which runs the kit's print.py with its own parts; Lean checks it.
import Derived.Test.YtcodionjhcmfhaaDoorBe0
import Derived.Test.YtcodionjhcmfhaaDoorBe18
import Derived.Test.YtcodionjhcmfhaaDoorBeXSq
namespace Go.Proofs.YtcodionjhcmfhaaDoor.Be
open Go.RowKit Go.Proofs.YtcodionjhcmfhaaDoorW.PrintWords Go.Proofs.YtcodionjhcmfhaaDoorW.PrintLast Go.Proofs.YtcodionjhcmfhaaDoorW.PrintMore Go.Proofs.YtcodionjhcmfhaaDoor.Sq
attribute [local go_sem] max2_int min2_int max_two min_two max_three min_three max_four min_four   -- for this text's walks alone
set_option linter.unusedVariables false
set_option linter.unusedSimpArgs false

mutual
def spec_asGrow.l0 : Nat → List (S76) → Int → Int → Int → List (S76) → Int → Int → Option ((List (S76)) × Int)
 | 0, _, _, _, _, _, _, _ => none
 | k + 1, x0, x1, x2, x8, x16, x17, x18 => if x18 < x17 then (if 0 ≤ x18 then (if x18 < (x16.length : Int) then (if ((rd_T76 x16 x18).f1) = (wrap64 (x2 - 1)) then ((spec_l1Least.f x8 ((rd_T76 x16 x18).f0)).bind fun t355 => (spec_asGrow.l0 k x0 x1 x2 t355 x16 x17 (wrap64 (x18 + 1)))) else (spec_asGrow.l0 k x0 x1 x2 x8 x16 x17 (wrap64 (x18 + 1)))) else (none)) else (none)) else (if x1 ≤ x8 then (spec_asGrow.j1 k x0 x1 x2 (decide (x2 > 0))) else (spec_asGrow.j1 k x0 x1 x2 false))
def spec_asGrow.j1 : Nat → List (S76) → Int → Int → Bool → Option ((List (S76)) × Int)
 | 0, _, _, _, _ => none
 | k + 1, x0, x1, x2, x38 => if x38 = true then ((some (([] : List (S76)) : List (S76))).bind fun y356 => (if y356.length + x0.length < 8796093022208 then ((some (y356 ++ x0 : List (S76))).bind fun y359 => (if y359.length < 8796093022208 then (some ((y359 ++ [(⟨x1, wrap64 (x2 - 1)⟩ : S76)]), x2)) else (none))) else (none))) else (spec_asGrow.l1 k x1 x2 ([] : List (S76)) x0 (x0.length : Int) 0)
def spec_asGrow.l1 : Nat → Int → Int → List (S76) → List (S76) → Int → Int → Option ((List (S76)) × Int)
 | 0, _, _, _, _, _, _ => none
 | k + 1, x1, x2, x11, x49, x50, x51 => if x51 < x50 then (if 0 ≤ x51 then (if x51 < (x49.length : Int) then (if ((rd_T76 x49 x51).f1) ≥ x1 then (if ((rd_T76 x49 x51).f1) = (wrap64 (x2 - 1)) then (spec_asGrow.j3 k x1 x2 x11 x49 x50 x51 (decide (((rd_T76 x49 x51).f0) < x1)) ((rd_T76 x49 x51).f0) ((rd_T76 x49 x51).f1) ((rd_T76 x49 x51).f0) (wrap64 (((rd_T76 x49 x51).f1) + 1))) else (spec_asGrow.j3 k x1 x2 x11 x49 x50 x51 false ((rd_T76 x49 x51).f0) ((rd_T76 x49 x51).f1) ((rd_T76 x49 x51).f0) (wrap64 (((rd_T76 x49 x51).f1) + 1)))) else (if ((rd_T76 x49 x51).f0) ≥ x1 then (if x11.length < 8796093022208 then (spec_asGrow.l1 k x1 x2 (x11 ++ [(⟨wrap64 (((rd_T76 x49 x51).f0) + 1), (rd_T76 x49 x51).f1⟩ : S76)]) x49 x50 (wrap64 (x51 + 1))) else (none)) else (if x11.length < 8796093022208 then (spec_asGrow.l1 k x1 x2 (x11 ++ [(⟨(rd_T76 x49 x51).f0, (rd_T76 x49 x51).f1⟩ : S76)]) x49 x50 (wrap64 (x51 + 1))) else (none)))) else (none)) else (none)) else (if x11.length < 8796093022208 then (some ((x11 ++ [(⟨x1, x2⟩ : S76)]), wrap64 (x2 + 1))) else (none))
def spec_asGrow.j3 : Nat → Int → Int → List (S76) → List (S76) → Int → Int → Bool → Int → Int → Int → Int → Option ((List (S76)) × Int)
 | 0, _, _, _, _, _, _, _, _, _, _, _ => none
 | k + 1, x1, x2, x11, x49, x50, x51, x74, x370000, x370001, x371000, x371001 => if x74 = true then (if x370000 ≥ x1 then (if x11.length < 8796093022208 then (spec_asGrow.l1 k x1 x2 (x11 ++ [(⟨wrap64 (x370000 + 1), x1⟩ : S76)]) x49 x50 (wrap64 (x51 + 1))) else (none)) else (if x11.length < 8796093022208 then (spec_asGrow.l1 k x1 x2 (x11 ++ [(⟨x371000, x1⟩ : S76)]) x49 x50 (wrap64 (x51 + 1))) else (none))) else (if x370000 ≥ x1 then (if x11.length < 8796093022208 then (spec_asGrow.l1 k x1 x2 (x11 ++ [(⟨wrap64 (x370000 + 1), x371001⟩ : S76)]) x49 x50 (wrap64 (x51 + 1))) else (none)) else (if x11.length < 8796093022208 then (spec_asGrow.l1 k x1 x2 (x11 ++ [(⟨x371000, x371001⟩ : S76)]) x49 x50 (wrap64 (x51 + 1))) else (none)))
end
def spec_asGrow.f (k : Nat) (l0 : List (S76)) (a1 : Int) (a2 : Int) : Option ((List (S76)) × Int) := spec_asGrow.l0 k l0 a1 a2 a2 l0 (l0.length : Int) 0
set_option maxHeartbeats 8000000 in
set_option maxRecDepth 100000 in
theorem spec_asGrow.calls (k : Nat) (A0 : Option Addr) (c0 : Nat) (l0 : List (S76)) (a1 : Int) (a2 : Int) (r1 : List (S76)) (r2 : Int) (w : World) (hr0 : Kd.C k76 w A0 l0.length l0) (hc0 : l0.length ≤ c0) (h : spec_asGrow.f k l0 a1 a2 = some (r1, r2)) :
  Calls Tryd.prog 83 #[.slice A0 l0.length c0, .int .i64 a1, .int .i64 a2] w fun e w' => ∃ v0_ : Value, e = .returned (.tuple #[v0_, .int .i64 r2]) ∧ Kd.R k76 76 w' w.heap.size (fun _ => True) v0_ r1 ∧ Below w.heap.size w w' := by
 have hu76 := Tryd.underlying76
 have HR0 := aM hr0
 have HC0 := aM hc0
 clear hr0 hc0
 have HB := aM (Below.refl w.heap.size w)
 have H : (spec_asGrow.l0 k l0 a1 a2 a2 l0 (l0.length : Int) 0) = some (r1, r2) := h
 clear h
 have H' := aM H
 clear H
 go_enter Tryd.func83, Tryd.ntmps83
 go_wp2
 go_loopg [8, 18] k (fun kq v8 v18 w' => ∃ (x8_1 : Int) (x18_1 : Int), v8 = .int .i64 x8_1 ∧ v18 = .int .i64 x18_1 ∧ Aside0 (spec_asGrow.l0 kq l0 a1 a2 x8_1 l0 (l0.length : Int) x18_1 = some (r1, r2)) ∧ Aside0 (kq ≤ k) ∧ Aside0 (Below w.heap.size w w'))
 case atStart => exact ⟨(a2), (0), eR, eR, H', ⟨Nat.le_refl _⟩, ⟨bq⟩⟩
 case round =>
  clear H'
  try clear p2
  obtain ⟨x8_1, x18_1, rfl, rfl, HA, HK1, HB⟩ := hrel
  cases gk with
  | zero => exact absurd HA.out (by simp [spec_asGrow.l0])
  | succ k1 =>
   have H := HA.out
   clear HA
   simp only [spec_asGrow.l0] at H
   by_cases c4 : x18_1 < (l0.length : Int)
   ·rw [if_pos c4] at H
    have c4b0 := decide_eq_true c4
    clear c4
    replace H := iD2 H
    obtain ⟨c5b0, c6b0, H⟩ := H
    by_cases c7 : ((rd_T76 l0 x18_1).f1) = (wrap64 (a2 - 1))
    ·rw [if_pos c7] at H
     have c7b0 : (((rd_T76 l0 x18_1).f1) == (wrap64 (a2 - 1))) = true := beq_iff_eq.mpr c7
     have c7b1 : (((rd_T76 l0 x18_1).f1) != (wrap64 (a2 - 1))) = false := bne_eq_false_iff_eq.mpr c7
     clear c7
     replace H := bS H
     obtain ⟨t355, A8, H⟩ := H
     try dsimp only at H
     have H' := aM H
     clear H
     have p353 : 0 ≤ (x18_1 : Int) := odt
     have q353 : x18_1 < (l0.length : Int) := odt
     obtain ⟨ad353, e353, hx353_0, hx353_1⟩ := at_T76 HR0.out x18_1 p353 q353
     cases e353
     replace hx353_0 := (HB.out.cell (World.block_lt_of_cell? w _ hx353_0)).trans hx353_0
     replace hx353_1 := (HB.out.cell (World.block_lt_of_cell? w _ hx353_1)).trans hx353_1
     replace p353 := eq_true p353
     replace q353 := eq_true q353
     go_wp2_with (first | ((with_reducible refine gate_dst (N := 10) rfl ?_); refine bE 10 76 #[.int .i64 0, .int .i64 0] ?_; intro gb354 hg w9 hbox hb; have _ := aM (below_step bq hb); have _ := aM (hbox); have _ := aM ((gS hg)); have _ := aM ((gS hg)); clear HB; rename_i HB BK354 GW354 GE354; clear hb hbox hg; have hcz10_0 := zc20 BK354; have hcz10_1 := zc21 BK354; have hfz10_0 := blk_frozen BK354.out 0; have hfz10_1 := blk_frozen BK354.out 1) | ((with_reducible refine gate_callee (f := 117) rfl ?_); refine gL (some 30) Tryd.func117 #[.int .i64 x8_1, .int .i64 ((rd_T76 l0 x18_1).f0)] ?_; (with_reducible refine (spec_l1Least.calls x8_1 ((rd_T76 l0 x18_1).f0) t355 _ A8.out).mono ?_); rintro e w' ⟨rfl, ⟨nd, rfl⟩⟩; refine ⟨_, rfl, ?_⟩))
     go_roundg k1
     case measure => have := HK1.out; omega
     case rel => exact ⟨(t355), (wrap64 (x18_1 + 1)), eR, eR, H', ⟨by have := HK1.out; omega⟩, ⟨bq⟩⟩
    ·rw [if_neg c7] at H
     have c7b0 : (((rd_T76 l0 x18_1).f1) == (wrap64 (a2 - 1))) = false := beq_eq_false_iff_ne.mpr c7
     have c7b1 : (((rd_T76 l0 x18_1).f1) != (wrap64 (a2 - 1))) = true := bne_iff_ne.mpr c7
     have H' := aM H
     clear H
     have p353 : 0 ≤ (x18_1 : Int) := odt
     have q353 : x18_1 < (l0.length : Int) := odt
     obtain ⟨ad353, e353, hx353_0, hx353_1⟩ := at_T76 HR0.out x18_1 p353 q353
     cases e353
     replace hx353_0 := (HB.out.cell (World.block_lt_of_cell? w _ hx353_0)).trans hx353_0
     replace hx353_1 := (HB.out.cell (World.block_lt_of_cell? w _ hx353_1)).trans hx353_1
     replace p353 := eq_true p353
     replace q353 := eq_true q353
     go_wp2_with (first | ((with_reducible refine gate_dst (N := 10) rfl ?_); refine bE 10 76 #[.int .i64 0, .int .i64 0] ?_; intro gb354 hg w11 hbox hb; have _ := aM (below_step bq hb); have _ := aM (hbox); have _ := aM ((gS hg)); have _ := aM ((gS hg)); clear HB; rename_i HB BK354 GW354 GE354; clear hb hbox hg; have hcz12_0 := zc20 BK354; have hcz12_1 := zc21 BK354; have hfz12_0 := blk_frozen BK354.out 0; have hfz12_1 := blk_frozen BK354.out 1))
     go_roundg k1
     case measure => have := HK1.out; omega
     case rel => exact ⟨(x8_1), (wrap64 (x18_1 + 1)), eR, eR, H', ⟨by have := HK1.out; omega⟩, ⟨bq⟩⟩
   ·rw [if_neg c4] at H
    have c4b0 := decide_eq_false c4
    clear c4
    have HC13 := aM H
    clear H
    go_upto_region 8 with (fail)
    go_cut [38] (fun v38 wc => ∃ (kq : Nat) (x38_12 : Bool), v38 = .bool x38_12 ∧ Aside0 (spec_asGrow.j1 kq l0 a1 a2 x38_12 = some (r1, r2)) ∧ Aside0 (kq ≤ k1) ∧ Aside0 (Below w.heap.size w wc))
    case first =>
     have H := HC13.out
     clear HC13
     by_cases c14 : a1 ≤ x8_1
     ·rw [if_pos c14] at H
      have c14b0 := decide_eq_true c14
      clear c14
      (first | rw [c14b0] | (simp only [i64_w, i32_w]; rw [c14b0]) | skip)
      have H' := aM H
      clear H
      go_wp2
      go_meet
      case rel => exact ⟨_, (decide (a2 > 0)), eR, H', ⟨by have := HK1.out; first | omega | exact Nat.le_refl _⟩, ⟨bq⟩⟩
     ·rw [if_neg c14] at H
      have c14b0 := decide_eq_false c14
      clear c14
      (first | rw [c14b0] | (simp only [i64_w, i32_w]; rw [c14b0]) | skip)
      have H' := aM H
      clear H
      go_wp2
      go_meet
      case rel => exact ⟨_, (false), eR, H', ⟨by have := HK1.out; first | omega | exact Nat.le_refl _⟩, ⟨bq⟩⟩
    case rest =>
     clear HC13
     try clear c1
     try clear p2
     try clear p3
     try clear q3
     try clear hx3
     try clear c4
     try clear c4b0
     try clear c5
     try clear c5b0
     try clear c6
     try clear c6b0
     try clear p6
     try clear c7
     try clear c7b0
     try clear c7b1
     try clear c8
     try clear c11
     try clear c14
     try clear c14b0
     try clear hcz10_0
     try clear hcz10_1
     try clear hcz12_0
     try clear hcz12_1
     try clear hfz10_0
     try clear hfz10_1
     try clear hfz12_0
     try clear hfz12_1
     try clear hx353_0
     try clear hx353_1
     try clear p2
     try clear p353
     try clear q353
     obtain ⟨kq, x38_12, rfl, HA, HJ12, HB⟩ := hcut
     cases kq with
     | zero => exact absurd HA.out (by simp [spec_asGrow.j1])
     | succ kj12 =>
      have H := HA.out
      clear HA
      simp only [spec_asGrow.j1] at H
      by_cases c15 : x38_12 = true
      ·subst c15
       have H1 : ((some (([] : List (S76)) : List (S76))).bind fun y356 => (if y356.length + l0.length < 8796093022208 then ((some (y356 ++ l0 : List (S76))).bind fun y359 => (if y359.length < 8796093022208 then (some ((y359 ++ [(⟨a1, wrap64 (a2 - 1)⟩ : S76)]), a2)) else (none))) else (none))) = some (r1, r2) := by rw [if_pos rfl] at H; exact H
       clear H
       have H := H1
       clear H1
       obtain ⟨y356, hy356⟩ : ∃ y_ : List (S76), y_ = (([] : List (S76))) := ⟨_, rfl⟩
       replace H : (if y356.length + l0.length < 8796093022208 then ((some (y356 ++ l0 : List (S76))).bind fun y359 => (if y359.length < 8796093022208 then (some ((y359 ++ [(⟨a1, wrap64 (a2 - 1)⟩ : S76)]), a2)) else (none))) else (none)) = some (r1, r2) := by first | (rw [hy356]; with_reducible exact H) | (have H2_ := (Option.bind_some _ _).symm.trans H; rw [hy356]; with_reducible exact H2_) | (have H2_ := (Option.bind_some _ _).symm.trans H; with_reducible exact H2_) | with_reducible exact H | (rw [hy356]; exact H) | exact H
       have Ny356 := aM hy356
       clear hy356
       replace H := iS H
       obtain ⟨c16, H⟩ := H
       have LMc16 := aM c16
       clear c16
       obtain ⟨y359, hy359⟩ : ∃ y_ : List (S76), y_ = (y356 ++ l0) := ⟨_, rfl⟩
       replace H : (if y359.length < 8796093022208 then (some ((y359 ++ [(⟨a1, wrap64 (a2 - 1)⟩ : S76)]), a2)) else (none)) = some (r1, r2) := by first | (rw [hy359]; with_reducible exact H) | (have H2_ := (Option.bind_some _ _).symm.trans H; rw [hy359]; with_reducible exact H2_) | (have H2_ := (Option.bind_some _ _).symm.trans H; with_reducible exact H2_) | with_reducible exact H | (rw [hy359]; exact H) | exact H
       have Ny359 := aM hy359
       clear hy359
       replace H := iS H
       obtain ⟨c17, H⟩ := H
       have LMc17 := aM c17
       clear c17
       obtain ⟨y362, hy362⟩ : ∃ y_ : List (S76), y_ = (y359 ++ [(⟨a1, wrap64 (a2 - 1)⟩ : S76)]) := ⟨_, rfl⟩
       replace H : (some (y362, a2)) = some (r1, r2) := by first | (rw [hy362]; with_reducible exact H) | (have H2_ := (Option.bind_some _ _).symm.trans H; rw [hy362]; with_reducible exact H2_) | (have H2_ := (Option.bind_some _ _).symm.trans H; with_reducible exact H2_) | with_reducible exact H | (rw [hy362]; exact H) | exact H
       have Ny362 := aM hy362
       clear hy362
       simp only [Option.some.injEq, Prod.mk.injEq] at H
       obtain ⟨rfl, rfl⟩ := H
       go_wp2_with (first | ((with_reducible refine gate_dst (N := 39) rfl ?_); refine Kd.R_lit k76 _ 76 ?hg (N := 39) ?hd (xs := ([] : List (S76))) (inner := []) (ok := fun _ => True) (okp := fun _ => True) ?hr ?hp (fun _ hk => hk) trivial (Below.refl _ _) (Nat.le_refl _) (by simp) ?_; (case hd => rfl); (case hg => rfl); (case hr => first | (go_simp; done) | (go_simp; rfl)); (case hp => exact (Reps.none _ _)); intro v357 w18 ho19 hb hg_ hnew_; clear hg_ hnew_; (first | rw [← Ny356.out] at ho19 | (simp only [Int.reduceToNat] at ho19; rw [← Ny356.out] at ho19)); have _ := aM (Kd.R_lower ho19 (below_size bq)); have _ := aM (below_step bq hb); clear HB; rename_i HO358 HB; clear hb ho19) | ((with_reducible refine gate_builtin (b := .append) (xs := #[.tmp 39, .tmp 40]) rfl ?_); at_builtin; refine Kd.R_append_rows k76 (w0 := w) w.heap.size rfl (.tmp 39) (.tmp 40) 48 76 (.agg #[(.int .i64 0), (.int .i64 0)]) 16 rfl Tryd.underlying48 info76 rfl (by decide) (by omega) v357 y356 l0 _ _ _ (fun _ => True) (fun _ => False) rfl rfl ?aO ?aR (fun _ _ h => h) (fun _ h => h.elim) ?aF ?aB ?aS ?aL ?_; (case aR => repeat (first | exact (Kd.C_below HR0.out HB.out) | (with_reducible refine Kd.C_alloc ?_ _) | (with_reducible refine Kd.C_drewN ?_ _) | (with_reducible refine Kd.C_drew ?_))); (case aB => exact bq); (case aF => exact (fun _ _ => trivial)); (case aO => exact (rQ HO358)); (case aS => exact (below_size bq)); (case aL => have := LMc16.out; omega); intro v360 w20 ho hb hg hat; rw [← Ny359.out] at ho; have _ := aM (hb); have _ := aM (ho); clear HB HO358; rename_i HB HO361; clear ho hb hg hat) | ((with_reducible refine gate_builtin (b := .append) (xs := #[.tmp 41, .tmp 46]) rfl ?_); at_builtin; refine Kd.R_append k76 (w0 := w) w.heap.size rfl (.tmp 41) (.tmp 46) 48 76 (.agg #[(.int .i64 0), (.int .i64 0)]) 16 rfl Tryd.underlying48 info76 rfl (by decide) (by omega) v360 y359 (⟨a1, wrap64 (a2 - 1)⟩ : S76) [.int .i64 a1, .int .i64 (wrap64 (a2 - 1))] (fun _ => True) (fun _ => False) rfl rfl ?aP (fun _ hk => hk.elim) ?aF ?aO ?aB ?aS ?aL ?_; (case aP => exact k76_mkM _ _ _ (⟨a1, wrap64 (a2 - 1)⟩ : S76)); (case aB => exact bq); (case aF => exact (fun _ _ => trivial)); (case aO => exact (rQ HO361)); (case aS => exact (below_size bq)); (case aL => have := LMc17.out; omega); intro v363 w21 ho hb hg hat; rw [← Ny362.out] at ho; have _ := aM (hb); have _ := aM (ho); clear HB HO361; rename_i HB HO364; clear ho hb hg hat))
       go_ret2
       exact ⟨_, eE, rQ HO364, bq⟩
      ·replace c15 := Bool.eq_false_iff.mpr c15
       subst c15
       have H1 : (spec_asGrow.l1 kj12 a1 a2 ([] : List (S76)) l0 (l0.length : Int) 0) = some (r1, r2) := by rw [if_neg (show ¬ (false = true) by decide)] at H; exact H
       clear H
       have H := H1
       clear H1
       have H' := aM H
       clear H
       go_wp2
       go_loopg [11, 51] kj12 (fun kq v11 v51 w' => ∃ (x11_3 : List (S76)) (x51_3 : Int), v51 = .int .i64 x51_3 ∧ Aside0 (spec_asGrow.l1 kq a1 a2 x11_3 l0 (l0.length : Int) x51_3 = some (r1, r2)) ∧ Aside0 (kq ≤ kj12) ∧ Aside0 (Kd.R k76 76 w' w.heap.size (fun _ => True) v11 x11_3) ∧ Aside0 (Below w.heap.size w w'))
       case atStart => exact ⟨(([] : List (S76))), (0), eR, H', ⟨Nat.le_refl _⟩, ⟨by first | exact Kd.R_nil _ _ _ _ _ | exact Kd.N_nil _ _ _ _ _ | exact Kd.V_nil _ _ _ _ _ | exact Kd.Q_nil _ _ _ _ _ | exact Kd.S_nil _ _ _ _ _⟩, ⟨bq⟩⟩
       case round =>
        clear H'
        try clear c1
        try clear p2
        try clear p3
        try clear q3
        try clear hx3
        try clear c4
        try clear c4b0
        try clear c5
        try clear c5b0
        try clear c6
        try clear c6b0
        try clear p6
        try clear c7
        try clear c7b0
        try clear c7b1
        try clear c8
        try clear c11
        try clear c14
        try clear c14b0
        try clear c15
        try clear c16
        try clear c17
        try clear hcz10_0
        try clear hcz10_1
        try clear hcz12_0
        try clear hcz12_1
        try clear hfz10_0
        try clear hfz10_1
        try clear hfz12_0
        try clear hfz12_1
        try clear hx353_0
        try clear hx353_1
        try clear p2
        try clear p3
        try clear p353
        try clear p6
        try clear q3
        try clear q353
        obtain ⟨x11_3, x51_3, rfl, HA, HK3, HO_11, HB⟩ := hrel
        cases gk with
        | zero => exact absurd HA.out (by simp [spec_asGrow.l1])
        | succ k3 =>
         have H := HA.out
         clear HA
         simp only [spec_asGrow.l1] at H
         by_cases c22 : x51_3 < (l0.length : Int)
         ·rw [if_pos c22] at H
          have c22b0 := decide_eq_true c22
          clear c22
          replace H := iD2 H
          obtain ⟨c23b0, c24b0, H⟩ := H
          by_cases c25 : ((rd_T76 l0 x51_3).f1) ≥ a1
          ·rw [if_pos c25] at H
           have c25b0 := decide_eq_true c25
           clear c25
           have HC26 := aM H
           clear H
           have p368 : 0 ≤ (x51_3 : Int) := odt
           have q368 : x51_3 < (l0.length : Int) := odt
           obtain ⟨ad368, e368, hx368_0, hx368_1⟩ := at_T76 HR0.out x51_3 p368 q368
           cases e368
           replace hx368_0 := (HB.out.cell (World.block_lt_of_cell? w _ hx368_0)).trans hx368_0
           replace hx368_1 := (HB.out.cell (World.block_lt_of_cell? w _ hx368_1)).trans hx368_1
           replace p368 := eq_true p368
           replace q368 := eq_true q368
           go_upto_region 17 with (first | ((with_reducible refine gate_dst (N := 13) rfl ?_); refine bE 13 76 #[.int .i64 0, .int .i64 0] ?_; intro gb369 hg w27 hbox hb; have _ := aM (Kd.R_below (Kd.R_elderB (rQ HO_11) gb369 (Nat.le_of_eq hg.symm)) hb); have _ := aM (below_step bq hb); have _ := aM (hbox); have _ := aM ((gS hg)); have _ := aM ((gS hg)); clear HO_11 HB; rename_i HO_11 HB BK369 GW369 GE369; clear hb hbox hg; have hcz28_0 := zc20 BK369; have hcz28_1 := zc21 BK369; have hfz28_0 := blk_frozen BK369.out 0; have hfz28_1 := blk_frozen BK369.out 1) | ((with_reducible refine gate_dst (N := 14) rfl ?_); refine bE 14 76 #[.int .i64 0, .int .i64 0] ?_; intro gb370 hg w29 hbox hb; have _ := aM (Kd.R_below (Kd.R_elderB (by (with_reducible repeat first|apply rA|apply rN|apply rD); exact (Kd.R_mono (Kd.R_far (p := ⟨gb369, 1, none⟩) (Kd.R_far (p := ⟨gb369, 0, none⟩) (Kd.R_mono HO_11.out (fun k_ hk => (⟨hk, hk.2⟩ : _ ∧ k_ ≠ gb369))) (fun _ hk => hk.2) (.int .i64 ((rd_T76 l0 x51_3).f0))) (fun _ hk => hk.2) (.int .i64 ((rd_T76 l0 x51_3).f1))) (fun _ h_ => h_.1))) gb370 (Nat.le_of_eq hg.symm)) hb); have _ := aM (blk_below (g := gb369) (o := .cells #[.int .i64 ((rd_T76 l0 x51_3).f0), .int .i64 ((rd_T76 l0 x51_3).f1)] 76 (0, 0)) (by (with_reducible repeat first|apply qN|apply qD|apply qA); refine blk_put (cs := #[.int .i64 ((rd_T76 l0 x51_3).f0), .int .i64 0]) ?_ 1 _ rfl; (with_reducible repeat first|apply qN|apply qD|apply qA); refine blk_put (cs := #[.int .i64 0, .int .i64 0]) ?_ 0 _ rfl; (with_reducible repeat first|apply qN|apply qD|apply qA); exact BK369.out) hb); have _ := aM (below_step bq hb); have _ := aM (hbox); have _ := aM ((gS hg)); have _ := aM ((gS hg)); have _ := aM ((by rw [hg]; exact Nat.ne_of_lt (blk_lt (g := gb369) (o := .cells #[.int .i64 ((rd_T76 l0 x51_3).f0), .int .i64 ((rd_T76 l0 x51_3).f1)] 76 (0, 0)) (by (with_reducible repeat first|apply qN|apply qD|apply qA); refine blk_put (cs := #[.int .i64 ((rd_T76 l0 x51_3).f0), .int .i64 0]) ?_ 1 _ rfl; (with_reducible repeat first|apply qN|apply qD|apply qA); refine blk_put (cs := #[.int .i64 0, .int .i64 0]) ?_ 0 _ rfl; (with_reducible repeat first|apply qN|apply qD|apply qA); exact BK369.out)) : gb369 ≠ gb370)); have _ := aM ((by rw [hg]; exact Nat.ne_of_gt (blk_lt (g := gb369) (o := .cells #[.int .i64 ((rd_T76 l0 x51_3).f0), .int .i64 ((rd_T76 l0 x51_3).f1)] 76 (0, 0)) (by (with_reducible repeat first|apply qN|apply qD|apply qA); refine blk_put (cs := #[.int .i64 ((rd_T76 l0 x51_3).f0), .int .i64 0]) ?_ 1 _ rfl; (with_reducible repeat first|apply qN|apply qD|apply qA); refine blk_put (cs := #[.int .i64 0, .int .i64 0]) ?_ 0 _ rfl; (with_reducible repeat first|apply qN|apply qD|apply qA); exact BK369.out)) : gb370 ≠ gb369)); clear HO_11 BK369 HB; rename_i HO_11 BK369 HB BK370 GW370 GE370 NB369_370 NB370_369; clear hb hbox hg; have hnb30 := NB370_369.out; have hnc30 := NB369_370.out; have hcz31_0 := zc20 BK370; have hcz31_1 := zc21 BK370; have hfz31_0 := blk_frozen BK370.out 0; have hfz31_1 := blk_frozen BK370.out 1; have hcz32_0 := zc20 BK369; have hcz32_1 := zc21 BK369; have hfz32_0 := blk_frozen BK369.out 0; have hfz32_1 := blk_frozen BK369.out 1))
           (try simp only [Act.put, List.setIfInBounds_toArray, List.set_cons_zero, List.set_cons_succ])
           go_cut [74] (fun v74 wc => ∃ (kq : Nat) (x74_25 : Bool), v74 = .bool x74_25 ∧ Aside0 (spec_asGrow.j3 kq a1 a2 x11_3 l0 (l0.length : Int) x51_3 x74_25 ((rd_T76 l0 x51_3).f0) ((rd_T76 l0 x51_3).f1) ((rd_T76 l0 x51_3).f0) (wrap64 (((rd_T76 l0 x51_3).f1) + 1)) = some (r1, r2)) ∧ Aside0 (kq ≤ k3) ∧ Aside0 (Kd.R k76 76 wc w.heap.size (fun k_ => k_ ≠ gb369 ∧ k_ ≠ gb370) u11 x11_3) ∧ Aside0 (wc.heap[gb369]? = some (.cells #[.int .i64 ((rd_T76 l0 x51_3).f0), .int .i64 ((rd_T76 l0 x51_3).f1)] 76 (0, 0))) ∧ Aside0 (wc.heap[gb370]? = some (.cells #[.int .i64 ((rd_T76 l0 x51_3).f0), .int .i64 (wrap64 (((rd_T76 l0 x51_3).f1) + 1))] 76 (0, 0))) ∧ Aside0 (Below w.heap.size w wc))
           case first =>
            have H := HC26.out
            clear HC26
            by_cases c33 : ((rd_T76 l0 x51_3).f1) = (wrap64 (a2 - 1))
            ·rw [if_pos c33] at H
             have c33b0 : (((rd_T76 l0 x51_3).f1) == (wrap64 (a2 - 1))) = true := beq_iff_eq.mpr c33
             have c33b1 : (((rd_T76 l0 x51_3).f1) != (wrap64 (a2 - 1))) = false := bne_eq_false_iff_eq.mpr c33
             clear c33
             (first | rw [c33b0] | (simp only [i64_w, i32_w]; rw [c33b0]) | skip)
             have H' := aM H
             clear H
             have hnb34 := NB369_370.out
             have hnc34 := NB370_369.out
             have hcz35_0 := zc20 BK369
             have hcz35_1 := zc21 BK369
             have hfz35_0 := blk_frozen BK369.out 0
             have hfz35_1 := blk_frozen BK369.out 1
             go_wp2
             go_meet
             case rel => exact ⟨_, (decide (((rd_T76 l0 x51_3).f0) < a1)), eR, H', ⟨by have := HK1.out; have := HJ12.out; have := HK3.out; first | omega | exact Nat.le_refl _⟩, ⟨by (with_reducible repeat first|apply rA|apply rN|apply rD); exact Kd.R_mono (Kd.R_far (p := ⟨gb370, 1, none⟩) (Kd.R_far (p := ⟨gb370, 1, none⟩) (Kd.R_far (p := ⟨gb370, 0, none⟩) (Kd.R_mono HO_11.out (fun k_ hk => (⟨hk, hk.2⟩ : _ ∧ k_ ≠ gb370))) (fun _ hk => hk.2) (.int .i64 ((rd_T76 l0 x51_3).f0))) (fun _ hk => hk.2) (.int .i64 ((rd_T76 l0 x51_3).f1))) (fun _ hk => hk.2) (.int .i64 (wrap64 (((rd_T76 l0 x51_3).f1) + 1)))) (fun _ hk => ⟨hk.1.1.2, hk.1.2⟩)⟩, ⟨by (with_reducible repeat first|apply qN|apply qD|apply qA); refine blk_far ?_ NB369_370.out _; (with_reducible repeat first|apply qN|apply qD|apply qA); refine blk_far ?_ NB369_370.out _; (with_reducible repeat first|apply qN|apply qD|apply qA); refine blk_far ?_ NB369_370.out _; (with_reducible repeat first|apply qN|apply qD|apply qA); exact BK369.out⟩, ⟨by (with_reducible repeat first|apply qN|apply qD|apply qA); refine blk_put (cs := #[.int .i64 ((rd_T76 l0 x51_3).f0), .int .i64 ((rd_T76 l0 x51_3).f1)]) ?_ 1 _ rfl; (with_reducible repeat first|apply qN|apply qD|apply qA); refine blk_put (cs := #[.int .i64 ((rd_T76 l0 x51_3).f0), .int .i64 0]) ?_ 1 _ rfl; (with_reducible repeat first|apply qN|apply qD|apply qA); refine blk_put (cs := #[.int .i64 0, .int .i64 0]) ?_ 0 _ rfl; (with_reducible repeat first|apply qN|apply qD|apply qA); exact BK370.out⟩, ⟨bq⟩⟩
            ·rw [if_neg c33] at H
             have c33b0 : (((rd_T76 l0 x51_3).f1) == (wrap64 (a2 - 1))) = false := beq_eq_false_iff_ne.mpr c33
             have c33b1 : (((rd_T76 l0 x51_3).f1) != (wrap64 (a2 - 1))) = true := bne_iff_ne.mpr c33
             (first | rw [c33b0] | (simp only [i64_w, i32_w]; rw [c33b0]) | skip)
             have H' := aM H
             clear H
             have hnb36 := NB369_370.out
             have hnc36 := NB370_369.out
             have hcz37_0 := zc20 BK369
             have hcz37_1 := zc21 BK369
             have hfz37_0 := blk_frozen BK369.out 0
             have hfz37_1 := blk_frozen BK369.out 1
             go_wp2
             go_meet
             case rel => exact ⟨_, (false), eR, H', ⟨by have := HK1.out; have := HJ12.out; have := HK3.out; first | omega | exact Nat.le_refl _⟩, ⟨by (with_reducible repeat first|apply rA|apply rN|apply rD); exact Kd.R_mono (Kd.R_far (p := ⟨gb370, 1, none⟩) (Kd.R_far (p := ⟨gb370, 1, none⟩) (Kd.R_far (p := ⟨gb370, 0, none⟩) (Kd.R_mono HO_11.out (fun k_ hk => (⟨hk, hk.2⟩ : _ ∧ k_ ≠ gb370))) (fun _ hk => hk.2) (.int .i64 ((rd_T76 l0 x51_3).f0))) (fun _ hk => hk.2) (.int .i64 ((rd_T76 l0 x51_3).f1))) (fun _ hk => hk.2) (.int .i64 (wrap64 (((rd_T76 l0 x51_3).f1) + 1)))) (fun _ hk => ⟨hk.1.1.2, hk.1.2⟩)⟩, ⟨by (with_reducible repeat first|apply qN|apply qD|apply qA); refine blk_far ?_ NB369_370.out _; (with_reducible repeat first|apply qN|apply qD|apply qA); refine blk_far ?_ NB369_370.out _; (with_reducible repeat first|apply qN|apply qD|apply qA); refine blk_far ?_ NB369_370.out _; (with_reducible repeat first|apply qN|apply qD|apply qA); exact BK369.out⟩, ⟨by (with_reducible repeat first|apply qN|apply qD|apply qA); refine blk_put (cs := #[.int .i64 ((rd_T76 l0 x51_3).f0), .int .i64 ((rd_T76 l0 x51_3).f1)]) ?_ 1 _ rfl; (with_reducible repeat first|apply qN|apply qD|apply qA); refine blk_put (cs := #[.int .i64 ((rd_T76 l0 x51_3).f0), .int .i64 0]) ?_ 1 _ rfl; (with_reducible repeat first|apply qN|apply qD|apply qA); refine blk_put (cs := #[.int .i64 0, .int .i64 0]) ?_ 0 _ rfl; (with_reducible repeat first|apply qN|apply qD|apply qA); exact BK370.out⟩, ⟨bq⟩⟩
           case rest =>
            clear HC26
            try clear c1
            try clear c2
            try clear p2
            try clear c3
            try clear p3
            try clear q3
            try clear hx3
            try clear c4
            try clear c4b0
            try clear c5
            try clear c5b0
            try clear c6
            try clear c6b0
            try clear p6
            try clear c7
            try clear c7b0
            try clear c7b1
            try clear c8
            try clear c11
            try clear c14
            try clear c14b0
            try clear c15
            try clear c16
            try clear c17
            try clear c22
            try clear c22b0
            try clear c23
            try clear c23b0
            try clear c24
            try clear c24b0
            try clear c25
            try clear c25b0
            try clear c30
            try clear c33
            try clear c33b0
            try clear c33b1
            try clear c34
            try clear p35
            try clear q35
            try clear hx35
            try clear c36
            try clear p36
            try clear q36
            try clear hx36
            try clear hcz10_0
            try clear hcz10_1
            try clear hcz12_0
            try clear hcz12_1
            try clear hcz28_0
            try clear hcz28_1
            try clear hcz31_0
            try clear hcz31_1
            try clear hcz32_0
            try clear hcz32_1
            try clear hcz35_0
            try clear hcz35_1
            try clear hcz37_0
            try clear hcz37_1
            try clear hfz10_0
            try clear hfz10_1
            try clear hfz12_0
            try clear hfz12_1
            try clear hfz28_0
            try clear hfz28_1
            try clear hfz31_0
            try clear hfz31_1
            try clear hfz32_0
            try clear hfz32_1
            try clear hfz35_0
            try clear hfz35_1
            try clear hfz37_0
            try clear hfz37_1
            try clear hx353_0
            try clear hx353_1
            try clear hx368_0
            try clear hx368_1
            try clear p2
            try clear p3
            try clear p353
            try clear p368
            try clear p6
            try clear q3
            try clear q353
            try clear q368
            obtain ⟨kq, x74_25, rfl, HA, HJ25, HO_11, BK369, BK370, HB⟩ := hcut
            cases kq with
            | zero => exact absurd HA.out (by simp [spec_asGrow.j3])
            | succ kj25 =>
             have H := HA.out
             clear HA
             simp only [spec_asGrow.j3] at H
             by_cases c38 : x74_25 = true
             ·subst c38
              have H1 : (if ((rd_T76 l0 x51_3).f0) ≥ a1 then (if x11_3.length < 8796093022208 then (spec_asGrow.l1 kj25 a1 a2 (x11_3 ++ [(⟨wrap64 (((rd_T76 l0 x51_3).f0) + 1), a1⟩ : S76)]) l0 (l0.length : Int) (wrap64 (x51_3 + 1))) else (none)) else (if x11_3.length < 8796093022208 then (spec_asGrow.l1 kj25 a1 a2 (x11_3 ++ [(⟨((rd_T76 l0 x51_3).f0), a1⟩ : S76)]) l0 (l0.length : Int) (wrap64 (x51_3 + 1))) else (none))) = some (r1, r2) := by rw [if_pos rfl] at H; exact H
              clear H
              have H := H1
              clear H1
              by_cases c39 : ((rd_T76 l0 x51_3).f0) ≥ a1
              ·rw [if_pos c39] at H
               have c39b0 := decide_eq_true c39
               clear c39
               replace H := iS H
               obtain ⟨c40, H⟩ := H
               have LMc40 := aM c40
               clear c40
               obtain ⟨y371, hy371⟩ : ∃ y_ : List (S76), y_ = (x11_3 ++ [(⟨wrap64 (((rd_T76 l0 x51_3).f0) + 1), a1⟩ : S76)]) := ⟨_, rfl⟩
               replace H : (spec_asGrow.l1 kj25 a1 a2 y371 l0 (l0.length : Int) (wrap64 (x51_3 + 1))) = some (r1, r2) := by first | (rw [hy371]; with_reducible exact H) | (have H2_ := (Option.bind_some _ _).symm.trans H; rw [hy371]; with_reducible exact H2_) | (have H2_ := (Option.bind_some _ _).symm.trans H; with_reducible exact H2_) | with_reducible exact H | (rw [hy371]; exact H) | exact H
               have Ny371 := aM hy371
               clear hy371
               have H' := aM H
               clear H
               have hnb41 := NB370_369.out
               have hnc41 := NB369_370.out
               have hcz42_0 := zc20 BK370
               have hcz42_1 := zc21 BK370
               have hfz42_0 := blk_frozen BK370.out 0
               have hfz42_1 := blk_frozen BK370.out 1
               have hcz43_0 := zc20 BK369
               have hcz43_1 := zc21 BK369
               have hfz43_0 := blk_frozen BK369.out 0
               have hfz43_1 := blk_frozen BK369.out 1
               go_wp2_with (first | ((with_reducible refine gate_builtin (b := .append) (xs := #[.tmp 85, .tmp 87]) rfl ?_); at_builtin; refine Kd.R_append k76 (w0 := w) w.heap.size rfl (.tmp 85) (.tmp 87) 48 76 (.agg #[(.int .i64 0), (.int .i64 0)]) 16 rfl Tryd.underlying48 info76 rfl (by decide) (by omega) u11 x11_3 (⟨wrap64 (((rd_T76 l0 x51_3).f0) + 1), a1⟩ : S76) [.int .i64 (wrap64 (((rd_T76 l0 x51_3).f0) + 1)), .int .i64 a1] (fun k_ => k_ ≠ gb369 ∧ k_ ≠ gb370) (fun _ => False) rfl (by first | (go_simp; done) | (go_simp; rfl)) ?aP (fun _ hk => hk.elim) ?aF ?aO ?aB ?aS ?aL ?_; (case aP => exact k76_mkM _ _ _ (⟨wrap64 (((rd_T76 l0 x51_3).f0) + 1), a1⟩ : S76)); (case aB => exact bq); (case aF => exact (fun k_ hk => ⟨Kd.freshB (g := gb369) (o := .cells #[.int .i64 ((rd_T76 l0 x51_3).f0), .int .i64 ((rd_T76 l0 x51_3).f1)] 76 (0, 0)) (by (with_reducible repeat first|apply qN|apply qD|apply qA); refine blk_far ?_ NB369_370.out _; (with_reducible repeat first|apply qN|apply qD|apply qA); refine blk_far ?_ NB369_370.out _; (with_reducible repeat first|apply qN|apply qD|apply qA); exact BK369.out) k_ hk, Kd.freshB (g := gb370) (o := .cells #[.int .i64 (wrap64 (((rd_T76 l0 x51_3).f0) + 1)), .int .i64 a1] 76 (0, 0)) (by (with_reducible repeat first|apply qN|apply qD|apply qA); refine blk_put (cs := #[.int .i64 ((rd_T76 l0 x51_3).f0), .int .i64 a1]) ?_ 0 _ rfl; (with_reducible repeat first|apply qN|apply qD|apply qA); refine blk_put (cs := #[.int .i64 ((rd_T76 l0 x51_3).f0), .int .i64 (wrap64 (((rd_T76 l0 x51_3).f1) + 1))]) ?_ 1 _ rfl; (with_reducible repeat first|apply qN|apply qD|apply qA); exact BK370.out) k_ hk⟩)); (case aO => exact (by (with_reducible repeat first|apply rA|apply rN|apply rD); exact Kd.R_mono (Kd.R_far (p := ⟨gb370, 0, none⟩) (Kd.R_far (p := ⟨gb370, 1, none⟩) (Kd.R_mono HO_11.out (fun k_ hk => (⟨hk, hk.2⟩ : _ ∧ k_ ≠ gb370))) (fun _ hk => hk.2) (.int .i64 a1)) (fun _ hk => hk.2) (.int .i64 (wrap64 (((rd_T76 l0 x51_3).f0) + 1)))) (fun _ hk => ⟨hk.1.1, hk.1.2⟩))); (case aS => exact (below_size bq)); (case aL => have := LMc40.out; omega); intro v372 w44 ho hb hg hat; rw [← Ny371.out] at ho; have _ := aM (blk_grown (g := gb369) (o := .cells #[.int .i64 ((rd_T76 l0 x51_3).f0), .int .i64 ((rd_T76 l0 x51_3).f1)] 76 (0, 0)) (by (with_reducible repeat first|apply qN|apply qD|apply qA); refine blk_far ?_ NB369_370.out _; (with_reducible repeat first|apply qN|apply qD|apply qA); refine blk_far ?_ NB369_370.out _; (with_reducible repeat first|apply qN|apply qD|apply qA); exact BK369.out) hg (Kd.R_away HO_11.out (fun _ hk => hk.1))); have _ := aM (blk_grown (g := gb370) (o := .cells #[.int .i64 (wrap64 (((rd_T76 l0 x51_3).f0) + 1)), .int .i64 a1] 76 (0, 0)) (by (with_reducible repeat first|apply qN|apply qD|apply qA); refine blk_put (cs := #[.int .i64 ((rd_T76 l0 x51_3).f0), .int .i64 a1]) ?_ 0 _ rfl; (with_reducible repeat first|apply qN|apply qD|apply qA); refine blk_put (cs := #[.int .i64 ((rd_T76 l0 x51_3).f0), .int .i64 (wrap64 (((rd_T76 l0 x51_3).f1) + 1))]) ?_ 1 _ rfl; (with_reducible repeat first|apply qN|apply qD|apply qA); exact BK370.out) hg (Kd.R_away HO_11.out (fun _ hk => hk.2))); have _ := aM (hb); have _ := aM (ho); clear BK369 BK370 HB HO_11; rename_i BK369 BK370 HB HO373; clear ho hb hg hat))
               go_roundg kj25
               case measure => have := HK1.out; have := HJ12.out; have := HK3.out; have := HJ25.out; omega
               case rel => exact ⟨(y371), (wrap64 (x51_3 + 1)), eR, H', ⟨by have := HK1.out; have := HJ12.out; have := HK3.out; have := HJ25.out; omega⟩, ⟨by (with_reducible repeat first|apply rA|apply rN|apply rD); exact Kd.R_mono HO373.out (fun _ hk => trivial)⟩, ⟨bq⟩⟩
              ·rw [if_neg c39] at H
               have c39b0 := decide_eq_false c39
               clear c39
               replace H := iS H
               obtain ⟨c45, H⟩ := H
               have LMc45 := aM c45
               clear c45
               obtain ⟨y374, hy374⟩ : ∃ y_ : List (S76), y_ = (x11_3 ++ [(⟨((rd_T76 l0 x51_3).f0), a1⟩ : S76)]) := ⟨_, rfl⟩
               replace H : (spec_asGrow.l1 kj25 a1 a2 y374 l0 (l0.length : Int) (wrap64 (x51_3 + 1))) = some (r1, r2) := by first | (rw [hy374]; with_reducible exact H) | (have H2_ := (Option.bind_some _ _).symm.trans H; rw [hy374]; with_reducible exact H2_) | (have H2_ := (Option.bind_some _ _).symm.trans H; with_reducible exact H2_) | with_reducible exact H | (rw [hy374]; exact H) | exact H
               have Ny374 := aM hy374
               clear hy374
               have H' := aM H
               clear H
               have hnb46 := NB370_369.out
               have hnc46 := NB369_370.out
               have hcz47_0 := zc20 BK370
               have hcz47_1 := zc21 BK370
               have hfz47_0 := blk_frozen BK370.out 0
               have hfz47_1 := blk_frozen BK370.out 1
               have hcz48_0 := zc20 BK369
               have hcz48_1 := zc21 BK369
               have hfz48_0 := blk_frozen BK369.out 0
               have hfz48_1 := blk_frozen BK369.out 1
               go_wp2_with (first | ((with_reducible refine gate_builtin (b := .append) (xs := #[.tmp 85, .tmp 87]) rfl ?_); at_builtin; refine Kd.R_append k76 (w0 := w) w.heap.size rfl (.tmp 85) (.tmp 87) 48 76 (.agg #[(.int .i64 0), (.int .i64 0)]) 16 rfl Tryd.underlying48 info76 rfl (by decide) (by omega) u11 x11_3 (⟨((rd_T76 l0 x51_3).f0), a1⟩ : S76) [.int .i64 ((rd_T76 l0 x51_3).f0), .int .i64 a1] (fun k_ => k_ ≠ gb369 ∧ k_ ≠ gb370) (fun _ => False) rfl (by first | (go_simp; done) | (go_simp; rfl)) ?aP (fun _ hk => hk.elim) ?aF ?aO ?aB ?aS ?aL ?_; (case aP => exact k76_mkM _ _ _ (⟨((rd_T76 l0 x51_3).f0), a1⟩ : S76)); (case aB => exact bq); (case aF => exact (fun k_ hk => ⟨Kd.freshB (g := gb369) (o := .cells #[.int .i64 ((rd_T76 l0 x51_3).f0), .int .i64 ((rd_T76 l0 x51_3).f1)] 76 (0, 0)) (by (with_reducible repeat first|apply qN|apply qD|apply qA); refine blk_far ?_ NB369_370.out _; (with_reducible repeat first|apply qN|apply qD|apply qA); exact BK369.out) k_ hk, Kd.freshB (g := gb370) (o := .cells #[.int .i64 ((rd_T76 l0 x51_3).f0), .int .i64 a1] 76 (0, 0)) (by (with_reducible repeat first|apply qN|apply qD|apply qA); refine blk_put (cs := #[.int .i64 ((rd_T76 l0 x51_3).f0), .int .i64 (wrap64 (((rd_T76 l0 x51_3).f1) + 1))]) ?_ 1 _ rfl; (with_reducible repeat first|apply qN|apply qD|apply qA); exact BK370.out) k_ hk⟩)); (case aO => exact (by (with_reducible repeat first|apply rA|apply rN|apply rD); exact Kd.R_mono (Kd.R_far (p := ⟨gb370, 1, none⟩) (Kd.R_mono HO_11.out (fun k_ hk => (⟨hk, hk.2⟩ : _ ∧ k_ ≠ gb370))) (fun _ hk => hk.2) (.int .i64 a1)) (fun _ hk => ⟨hk.1.1, hk.1.2⟩))); (case aS => exact (below_size bq)); (case aL => have := LMc45.out; omega); intro v375 w49 ho hb hg hat; rw [← Ny374.out] at ho; have _ := aM (blk_grown (g := gb369) (o := .cells #[.int .i64 ((rd_T76 l0 x51_3).f0), .int .i64 ((rd_T76 l0 x51_3).f1)] 76 (0, 0)) (by (with_reducible repeat first|apply qN|apply qD|apply qA); refine blk_far ?_ NB369_370.out _; (with_reducible repeat first|apply qN|apply qD|apply qA); exact BK369.out) hg (Kd.R_away HO_11.out (fun _ hk => hk.1))); have _ := aM (blk_grown (g := gb370) (o := .cells #[.int .i64 ((rd_T76 l0 x51_3).f0), .int .i64 a1] 76 (0, 0)) (by (with_reducible repeat first|apply qN|apply qD|apply qA); refine blk_put (cs := #[.int .i64 ((rd_T76 l0 x51_3).f0), .int .i64 (wrap64 (((rd_T76 l0 x51_3).f1) + 1))]) ?_ 1 _ rfl; (with_reducible repeat first|apply qN|apply qD|apply qA); exact BK370.out) hg (Kd.R_away HO_11.out (fun _ hk => hk.2))); have _ := aM (hb); have _ := aM (ho); clear BK369 BK370 HB HO_11; rename_i BK369 BK370 HB HO376; clear ho hb hg hat))
               go_roundg kj25
               case measure => have := HK1.out; have := HJ12.out; have := HK3.out; have := HJ25.out; omega
               case rel => exact ⟨(y374), (wrap64 (x51_3 + 1)), eR, H', ⟨by have := HK1.out; have := HJ12.out; have := HK3.out; have := HJ25.out; omega⟩, ⟨by (with_reducible repeat first|apply rA|apply rN|apply rD); exact Kd.R_mono HO376.out (fun _ hk => trivial)⟩, ⟨bq⟩⟩
             ·replace c38 := Bool.eq_false_iff.mpr c38
              subst c38
              have H1 : (if ((rd_T76 l0 x51_3).f0) ≥ a1 then (if x11_3.length < 8796093022208 then (spec_asGrow.l1 kj25 a1 a2 (x11_3 ++ [(⟨wrap64 (((rd_T76 l0 x51_3).f0) + 1), (wrap64 (((rd_T76 l0 x51_3).f1) + 1))⟩ : S76)]) l0 (l0.length : Int) (wrap64 (x51_3 + 1))) else (none)) else (if x11_3.length < 8796093022208 then (spec_asGrow.l1 kj25 a1 a2 (x11_3 ++ [(⟨((rd_T76 l0 x51_3).f0), (wrap64 (((rd_T76 l0 x51_3).f1) + 1))⟩ : S76)]) l0 (l0.length : Int) (wrap64 (x51_3 + 1))) else (none))) = some (r1, r2) := by rw [if_neg (show ¬ (false = true) by decide)] at H; exact H
              clear H
              have H := H1
              clear H1
              by_cases c50 : ((rd_T76 l0 x51_3).f0) ≥ a1
              ·rw [if_pos c50] at H
               have c50b0 := decide_eq_true c50
               clear c50
               replace H := iS H
               obtain ⟨c51, H⟩ := H
               have LMc51 := aM c51
               clear c51
               obtain ⟨y377, hy377⟩ : ∃ y_ : List (S76), y_ = (x11_3 ++ [(⟨wrap64 (((rd_T76 l0 x51_3).f0) + 1), (wrap64 (((rd_T76 l0 x51_3).f1) + 1))⟩ : S76)]) := ⟨_, rfl⟩
               replace H : (spec_asGrow.l1 kj25 a1 a2 y377 l0 (l0.length : Int) (wrap64 (x51_3 + 1))) = some (r1, r2) := by first | (rw [hy377]; with_reducible exact H) | (have H2_ := (Option.bind_some _ _).symm.trans H; rw [hy377]; with_reducible exact H2_) | (have H2_ := (Option.bind_some _ _).symm.trans H; with_reducible exact H2_) | with_reducible exact H | (rw [hy377]; exact H) | exact H
               have Ny377 := aM hy377
               clear hy377
               have H' := aM H
               clear H
               have hnb52 := NB369_370.out
               have hnc52 := NB370_369.out
               have hcz53_0 := zc20 BK369
               have hcz53_1 := zc21 BK369
               have hfz53_0 := blk_frozen BK369.out 0
               have hfz53_1 := blk_frozen BK369.out 1
               have hcz54_0 := zc20 BK370
               have hcz54_1 := zc21 BK370
               have hfz54_0 := blk_frozen BK370.out 0
               have hfz54_1 := blk_frozen BK370.out 1
               go_wp2_with (first | ((with_reducible refine gate_builtin (b := .append) (xs := #[.tmp 85, .tmp 87]) rfl ?_); at_builtin; refine Kd.R_append k76 (w0 := w) w.heap.size rfl (.tmp 85) (.tmp 87) 48 76 (.agg #[(.int .i64 0), (.int .i64 0)]) 16 rfl Tryd.underlying48 info76 rfl (by decide) (by omega) u11 x11_3 (⟨wrap64 (((rd_T76 l0 x51_3).f0) + 1), (wrap64 (((rd_T76 l0 x51_3).f1) + 1))⟩ : S76) [.int .i64 (wrap64 (((rd_T76 l0 x51_3).f0) + 1)), .int .i64 (wrap64 (((rd_T76 l0 x51_3).f1) + 1))] (fun k_ => k_ ≠ gb369 ∧ k_ ≠ gb370) (fun _ => False) rfl (by first | (go_simp; done) | (go_simp; rfl)) ?aP (fun _ hk => hk.elim) ?aF ?aO ?aB ?aS ?aL ?_; (case aP => exact k76_mkM _ _ _ (⟨wrap64 (((rd_T76 l0 x51_3).f0) + 1), (wrap64 (((rd_T76 l0 x51_3).f1) + 1))⟩ : S76)); (case aB => exact bq); (case aF => exact (fun k_ hk => ⟨Kd.freshB (g := gb369) (o := .cells #[.int .i64 ((rd_T76 l0 x51_3).f0), .int .i64 ((rd_T76 l0 x51_3).f1)] 76 (0, 0)) (by (with_reducible repeat first|apply qN|apply qD|apply qA); refine blk_far ?_ NB369_370.out _; (with_reducible repeat first|apply qN|apply qD|apply qA); exact BK369.out) k_ hk, Kd.freshB (g := gb370) (o := .cells #[.int .i64 (wrap64 (((rd_T76 l0 x51_3).f0) + 1)), .int .i64 (wrap64 (((rd_T76 l0 x51_3).f1) + 1))] 76 (0, 0)) (by (with_reducible repeat first|apply qN|apply qD|apply qA); refine blk_put (cs := #[.int .i64 ((rd_T76 l0 x51_3).f0), .int .i64 (wrap64 (((rd_T76 l0 x51_3).f1) + 1))]) ?_ 0 _ rfl; (with_reducible repeat first|apply qN|apply qD|apply qA); exact BK370.out) k_ hk⟩)); (case aO => exact (by (with_reducible repeat first|apply rA|apply rN|apply rD); exact Kd.R_mono (Kd.R_far (p := ⟨gb370, 0, none⟩) (Kd.R_mono HO_11.out (fun k_ hk => (⟨hk, hk.2⟩ : _ ∧ k_ ≠ gb370))) (fun _ hk => hk.2) (.int .i64 (wrap64 (((rd_T76 l0 x51_3).f0) + 1)))) (fun _ hk => ⟨hk.1.1, hk.1.2⟩))); (case aS => exact (below_size bq)); (case aL => have := LMc51.out; omega); intro v378 w55 ho hb hg hat; rw [← Ny377.out] at ho; have _ := aM (blk_grown (g := gb369) (o := .cells #[.int .i64 ((rd_T76 l0 x51_3).f0), .int .i64 ((rd_T76 l0 x51_3).f1)] 76 (0, 0)) (by (with_reducible repeat first|apply qN|apply qD|apply qA); refine blk_far ?_ NB369_370.out _; (with_reducible repeat first|apply qN|apply qD|apply qA); exact BK369.out) hg (Kd.R_away HO_11.out (fun _ hk => hk.1))); have _ := aM (blk_grown (g := gb370) (o := .cells #[.int .i64 (wrap64 (((rd_T76 l0 x51_3).f0) + 1)), .int .i64 (wrap64 (((rd_T76 l0 x51_3).f1) + 1))] 76 (0, 0)) (by (with_reducible repeat first|apply qN|apply qD|apply qA); refine blk_put (cs := #[.int .i64 ((rd_T76 l0 x51_3).f0), .int .i64 (wrap64 (((rd_T76 l0 x51_3).f1) + 1))]) ?_ 0 _ rfl; (with_reducible repeat first|apply qN|apply qD|apply qA); exact BK370.out) hg (Kd.R_away HO_11.out (fun _ hk => hk.2))); have _ := aM (hb); have _ := aM (ho); clear BK369 BK370 HB HO_11; rename_i BK369 BK370 HB HO379; clear ho hb hg hat))
               go_roundg kj25
               case measure => have := HK1.out; have := HJ12.out; have := HK3.out; have := HJ25.out; omega
               case rel => exact ⟨(y377), (wrap64 (x51_3 + 1)), eR, H', ⟨by have := HK1.out; have := HJ12.out; have := HK3.out; have := HJ25.out; omega⟩, ⟨by (with_reducible repeat first|apply rA|apply rN|apply rD); exact Kd.R_mono HO379.out (fun _ hk => trivial)⟩, ⟨bq⟩⟩
              ·rw [if_neg c50] at H
               have c50b0 := decide_eq_false c50
               clear c50
               replace H := iS H
               obtain ⟨c56, H⟩ := H
               have LMc56 := aM c56
               clear c56
               obtain ⟨y380, hy380⟩ : ∃ y_ : List (S76), y_ = (x11_3 ++ [(⟨((rd_T76 l0 x51_3).f0), (wrap64 (((rd_T76 l0 x51_3).f1) + 1))⟩ : S76)]) := ⟨_, rfl⟩
               replace H : (spec_asGrow.l1 kj25 a1 a2 y380 l0 (l0.length : Int) (wrap64 (x51_3 + 1))) = some (r1, r2) := by first | (rw [hy380]; with_reducible exact H) | (have H2_ := (Option.bind_some _ _).symm.trans H; rw [hy380]; with_reducible exact H2_) | (have H2_ := (Option.bind_some _ _).symm.trans H; with_reducible exact H2_) | with_reducible exact H | (rw [hy380]; exact H) | exact H
               have Ny380 := aM hy380
               clear hy380
               have H' := aM H
               clear H
               have hnb57 := NB369_370.out
               have hnc57 := NB370_369.out
               have hcz58_0 := zc20 BK369
               have hcz58_1 := zc21 BK369
               have hfz58_0 := blk_frozen BK369.out 0
               have hfz58_1 := blk_frozen BK369.out 1
               have hcz59_0 := zc20 BK370
               have hcz59_1 := zc21 BK370
               have hfz59_0 := blk_frozen BK370.out 0
               have hfz59_1 := blk_frozen BK370.out 1
               go_wp2_with (first | ((with_reducible refine gate_builtin (b := .append) (xs := #[.tmp 85, .tmp 87]) rfl ?_); at_builtin; refine Kd.R_append k76 (w0 := w) w.heap.size rfl (.tmp 85) (.tmp 87) 48 76 (.agg #[(.int .i64 0), (.int .i64 0)]) 16 rfl Tryd.underlying48 info76 rfl (by decide) (by omega) u11 x11_3 (⟨((rd_T76 l0 x51_3).f0), (wrap64 (((rd_T76 l0 x51_3).f1) + 1))⟩ : S76) [.int .i64 ((rd_T76 l0 x51_3).f0), .int .i64 (wrap64 (((rd_T76 l0 x51_3).f1) + 1))] (fun k_ => k_ ≠ gb369 ∧ k_ ≠ gb370) (fun _ => False) rfl rfl ?aP (fun _ hk => hk.elim) ?aF ?aO ?aB ?aS ?aL ?_; (case aP => exact k76_mkM _ _ _ (⟨((rd_T76 l0 x51_3).f0), (wrap64 (((rd_T76 l0 x51_3).f1) + 1))⟩ : S76)); (case aB => exact bq); (case aF => exact (fun k_ hk => ⟨Kd.freshB (g := gb369) (o := .cells #[.int .i64 ((rd_T76 l0 x51_3).f0), .int .i64 ((rd_T76 l0 x51_3).f1)] 76 (0, 0)) (qQ BK369) k_ hk, Kd.freshB (g := gb370) (o := .cells #[.int .i64 ((rd_T76 l0 x51_3).f0), .int .i64 (wrap64 (((rd_T76 l0 x51_3).f1) + 1))] 76 (0, 0)) (qQ BK370) k_ hk⟩)); (case aO => exact (rQ HO_11)); (case aS => exact (below_size bq)); (case aL => have := LMc56.out; omega); intro v381 w60 ho hb hg hat; rw [← Ny380.out] at ho; have _ := aM (blk_grown (g := gb369) (o := .cells #[.int .i64 ((rd_T76 l0 x51_3).f0), .int .i64 ((rd_T76 l0 x51_3).f1)] 76 (0, 0)) (qQ BK369) hg (Kd.R_away HO_11.out (fun _ hk => hk.1))); have _ := aM (blk_grown (g := gb370) (o := .cells #[.int .i64 ((rd_T76 l0 x51_3).f0), .int .i64 (wrap64 (((rd_T76 l0 x51_3).f1) + 1))] 76 (0, 0)) (qQ BK370) hg (Kd.R_away HO_11.out (fun _ hk => hk.2))); have _ := aM (hb); have _ := aM (ho); clear BK369 BK370 HB HO_11; rename_i BK369 BK370 HB HO382; clear ho hb hg hat))
               go_roundg kj25
               case measure => have := HK1.out; have := HJ12.out; have := HK3.out; have := HJ25.out; omega
               case rel => exact ⟨(y380), (wrap64 (x51_3 + 1)), eR, H', ⟨by have := HK1.out; have := HJ12.out; have := HK3.out; have := HJ25.out; omega⟩, ⟨by (with_reducible repeat first|apply rA|apply rN|apply rD); exact Kd.R_mono HO382.out (fun _ hk => trivial)⟩, ⟨bq⟩⟩
          ·rw [if_neg c25] at H
           have c25b0 := decide_eq_false c25
           clear c25
           by_cases c61 : ((rd_T76 l0 x51_3).f0) ≥ a1
           ·rw [if_pos c61] at H
            have c61b0 := decide_eq_true c61
            clear c61
            replace H := iS H
            obtain ⟨c62, H⟩ := H
            have LMc62 := aM c62
            clear c62
            obtain ⟨y383, hy383⟩ : ∃ y_ : List (S76), y_ = (x11_3 ++ [(⟨wrap64 (((rd_T76 l0 x51_3).f0) + 1), (rd_T76 l0 x51_3).f1⟩ : S76)]) := ⟨_, rfl⟩
            replace H : (spec_asGrow.l1 k3 a1 a2 y383 l0 (l0.length : Int) (wrap64 (x51_3 + 1))) = some (r1, r2) := by first | (rw [hy383]; with_reducible exact H) | (have H2_ := (Option.bind_some _ _).symm.trans H; rw [hy383]; with_reducible exact H2_) | (have H2_ := (Option.bind_some _ _).symm.trans H; with_reducible exact H2_) | with_reducible exact H | (rw [hy383]; exact H) | exact H
            have Ny383 := aM hy383
            clear hy383
            have H' := aM H
            clear H
            have p368 : 0 ≤ (x51_3 : Int) := odt
            have q368 : x51_3 < (l0.length : Int) := odt
            obtain ⟨ad368, e368, hx368_0, hx368_1⟩ := at_T76 HR0.out x51_3 p368 q368
            cases e368
            replace hx368_0 := (HB.out.cell (World.block_lt_of_cell? w _ hx368_0)).trans hx368_0
            replace hx368_1 := (HB.out.cell (World.block_lt_of_cell? w _ hx368_1)).trans hx368_1
            replace p368 := eq_true p368
            replace q368 := eq_true q368
            go_wp2_with (first | ((with_reducible refine gate_dst (N := 13) rfl ?_); refine bE 13 76 #[.int .i64 0, .int .i64 0] ?_; intro gb369 hg w63 hbox hb; have _ := aM (Kd.R_below (Kd.R_elderB (rQ HO_11) gb369 (Nat.le_of_eq hg.symm)) hb); have _ := aM (below_step bq hb); have _ := aM (hbox); have _ := aM ((gS hg)); have _ := aM ((gS hg)); clear HO_11 HB; rename_i HO_11 HB BK369 GW369 GE369; clear hb hbox hg; have hcz64_0 := zc20 BK369; have hcz64_1 := zc21 BK369; have hfz64_0 := blk_frozen BK369.out 0; have hfz64_1 := blk_frozen BK369.out 1) | ((with_reducible refine gate_dst (N := 14) rfl ?_); refine bE 14 76 #[.int .i64 0, .int .i64 0] ?_; intro gb370 hg w65 hbox hb; have _ := aM (Kd.R_below (Kd.R_elderB (by (with_reducible repeat first|apply rA|apply rN|apply rD); exact (Kd.R_mono (Kd.R_far (p := ⟨gb369, 1, none⟩) (Kd.R_far (p := ⟨gb369, 0, none⟩) (Kd.R_mono HO_11.out (fun k_ hk => (⟨hk, hk.2⟩ : _ ∧ k_ ≠ gb369))) (fun _ hk => hk.2) (.int .i64 ((rd_T76 l0 x51_3).f0))) (fun _ hk => hk.2) (.int .i64 ((rd_T76 l0 x51_3).f1))) (fun _ h_ => h_.1))) gb370 (Nat.le_of_eq hg.symm)) hb); have _ := aM (blk_below (g := gb369) (o := .cells #[.int .i64 ((rd_T76 l0 x51_3).f0), .int .i64 ((rd_T76 l0 x51_3).f1)] 76 (0, 0)) (by (with_reducible repeat first|apply qN|apply qD|apply qA); refine blk_put (cs := #[.int .i64 ((rd_T76 l0 x51_3).f0), .int .i64 0]) ?_ 1 _ rfl; (with_reducible repeat first|apply qN|apply qD|apply qA); refine blk_put (cs := #[.int .i64 0, .int .i64 0]) ?_ 0 _ rfl; (with_reducible repeat first|apply qN|apply qD|apply qA); exact BK369.out) hb); have _ := aM (below_step bq hb); have _ := aM (hbox); have _ := aM ((gS hg)); have _ := aM ((gS hg)); have _ := aM ((by rw [hg]; exact Nat.ne_of_lt (blk_lt (g := gb369) (o := .cells #[.int .i64 ((rd_T76 l0 x51_3).f0), .int .i64 ((rd_T76 l0 x51_3).f1)] 76 (0, 0)) (by (with_reducible repeat first|apply qN|apply qD|apply qA); refine blk_put (cs := #[.int .i64 ((rd_T76 l0 x51_3).f0), .int .i64 0]) ?_ 1 _ rfl; (with_reducible repeat first|apply qN|apply qD|apply qA); refine blk_put (cs := #[.int .i64 0, .int .i64 0]) ?_ 0 _ rfl; (with_reducible repeat first|apply qN|apply qD|apply qA); exact BK369.out)) : gb369 ≠ gb370)); have _ := aM ((by rw [hg]; exact Nat.ne_of_gt (blk_lt (g := gb369) (o := .cells #[.int .i64 ((rd_T76 l0 x51_3).f0), .int .i64 ((rd_T76 l0 x51_3).f1)] 76 (0, 0)) (by (with_reducible repeat first|apply qN|apply qD|apply qA); refine blk_put (cs := #[.int .i64 ((rd_T76 l0 x51_3).f0), .int .i64 0]) ?_ 1 _ rfl; (with_reducible repeat first|apply qN|apply qD|apply qA); refine blk_put (cs := #[.int .i64 0, .int .i64 0]) ?_ 0 _ rfl; (with_reducible repeat first|apply qN|apply qD|apply qA); exact BK369.out)) : gb370 ≠ gb369)); clear HO_11 BK369 HB; rename_i HO_11 BK369 HB BK370 GW370 GE370 NB369_370 NB370_369; clear hb hbox hg; have hnb66 := NB370_369.out; have hnc66 := NB369_370.out; have hcz67_0 := zc20 BK370; have hcz67_1 := zc21 BK370; have hfz67_0 := blk_frozen BK370.out 0; have hfz67_1 := blk_frozen BK370.out 1; have hcz68_0 := zc20 BK369; have hcz68_1 := zc21 BK369; have hfz68_0 := blk_frozen BK369.out 0; have hfz68_1 := blk_frozen BK369.out 1) | ((with_reducible refine gate_builtin (b := .append) (xs := #[.tmp 85, .tmp 87]) rfl ?_); at_builtin; refine Kd.R_append k76 (w0 := w) w.heap.size rfl (.tmp 85) (.tmp 87) 48 76 (.agg #[(.int .i64 0), (.int .i64 0)]) 16 rfl Tryd.underlying48 info76 rfl (by decide) (by omega) u11 x11_3 (⟨wrap64 (((rd_T76 l0 x51_3).f0) + 1), (rd_T76 l0 x51_3).f1⟩ : S76) [.int .i64 (wrap64 (((rd_T76 l0 x51_3).f0) + 1)), .int .i64 ((rd_T76 l0 x51_3).f1)] (fun k_ => k_ ≠ gb369 ∧ k_ ≠ gb370) (fun _ => False) rfl (by first | (go_simp; done) | (go_simp; rfl)) ?aP (fun _ hk => hk.elim) ?aF ?aO ?aB ?aS ?aL ?_; (case aP => exact k76_mkM _ _ _ (⟨wrap64 (((rd_T76 l0 x51_3).f0) + 1), (rd_T76 l0 x51_3).f1⟩ : S76)); (case aB => exact bq); (case aF => exact (fun k_ hk => ⟨Kd.freshB (g := gb369) (o := .cells #[.int .i64 ((rd_T76 l0 x51_3).f0), .int .i64 ((rd_T76 l0 x51_3).f1)] 76 (0, 0)) (by (with_reducible repeat first|apply qN|apply qD|apply qA); refine blk_far ?_ NB369_370.out _; (with_reducible repeat first|apply qN|apply qD|apply qA); refine blk_far ?_ NB369_370.out _; (with_reducible repeat first|apply qN|apply qD|apply qA); refine blk_far ?_ NB369_370.out _; (with_reducible repeat first|apply qN|apply qD|apply qA); exact BK369.out) k_ hk, Kd.freshB (g := gb370) (o := .cells #[.int .i64 (wrap64 (((rd_T76 l0 x51_3).f0) + 1)), .int .i64 ((rd_T76 l0 x51_3).f1)] 76 (0, 0)) (by (with_reducible repeat first|apply qN|apply qD|apply qA); refine blk_put (cs := #[.int .i64 ((rd_T76 l0 x51_3).f0), .int .i64 ((rd_T76 l0 x51_3).f1)]) ?_ 0 _ rfl; (with_reducible repeat first|apply qN|apply qD|apply qA); refine blk_put (cs := #[.int .i64 ((rd_T76 l0 x51_3).f0), .int .i64 0]) ?_ 1 _ rfl; (with_reducible repeat first|apply qN|apply qD|apply qA); refine blk_put (cs := #[.int .i64 0, .int .i64 0]) ?_ 0 _ rfl; (with_reducible repeat first|apply qN|apply qD|apply qA); exact BK370.out) k_ hk⟩)); (case aO => exact (by (with_reducible repeat first|apply rA|apply rN|apply rD); exact Kd.R_mono (Kd.R_far (p := ⟨gb370, 0, none⟩) (Kd.R_far (p := ⟨gb370, 1, none⟩) (Kd.R_far (p := ⟨gb370, 0, none⟩) (Kd.R_mono HO_11.out (fun k_ hk => (⟨hk, hk.2⟩ : _ ∧ k_ ≠ gb370))) (fun _ hk => hk.2) (.int .i64 ((rd_T76 l0 x51_3).f0))) (fun _ hk => hk.2) (.int .i64 ((rd_T76 l0 x51_3).f1))) (fun _ hk => hk.2) (.int .i64 (wrap64 (((rd_T76 l0 x51_3).f0) + 1)))) (fun _ hk => ⟨hk.1.1.2, hk.1.2⟩))); (case aS => exact (below_size bq)); (case aL => have := LMc62.out; omega); intro v384 w69 ho hb hg hat; rw [← Ny383.out] at ho; have _ := aM (blk_grown (g := gb369) (o := .cells #[.int .i64 ((rd_T76 l0 x51_3).f0), .int .i64 ((rd_T76 l0 x51_3).f1)] 76 (0, 0)) (by (with_reducible repeat first|apply qN|apply qD|apply qA); refine blk_far ?_ NB369_370.out _; (with_reducible repeat first|apply qN|apply qD|apply qA); refine blk_far ?_ NB369_370.out _; (with_reducible repeat first|apply qN|apply qD|apply qA); refine blk_far ?_ NB369_370.out _; (with_reducible repeat first|apply qN|apply qD|apply qA); exact BK369.out) hg (Kd.R_away HO_11.out (fun _ hk => hk.1.2))); have _ := aM (blk_grown (g := gb370) (o := .cells #[.int .i64 (wrap64 (((rd_T76 l0 x51_3).f0) + 1)), .int .i64 ((rd_T76 l0 x51_3).f1)] 76 (0, 0)) (by (with_reducible repeat first|apply qN|apply qD|apply qA); refine blk_put (cs := #[.int .i64 ((rd_T76 l0 x51_3).f0), .int .i64 ((rd_T76 l0 x51_3).f1)]) ?_ 0 _ rfl; (with_reducible repeat first|apply qN|apply qD|apply qA); refine blk_put (cs := #[.int .i64 ((rd_T76 l0 x51_3).f0), .int .i64 0]) ?_ 1 _ rfl; (with_reducible repeat first|apply qN|apply qD|apply qA); refine blk_put (cs := #[.int .i64 0, .int .i64 0]) ?_ 0 _ rfl; (with_reducible repeat first|apply qN|apply qD|apply qA); exact BK370.out) hg (Kd.R_away HO_11.out (fun _ hk => hk.2))); have _ := aM (hb); have _ := aM (ho); clear BK369 BK370 HB HO_11; rename_i BK369 BK370 HB HO385; clear ho hb hg hat))
            go_roundg k3
            case measure => have := HK1.out; have := HJ12.out; have := HK3.out; omega
            case rel => exact ⟨(y383), (wrap64 (x51_3 + 1)), eR, H', ⟨by have := HK1.out; have := HJ12.out; have := HK3.out; omega⟩, ⟨by (with_reducible repeat first|apply rA|apply rN|apply rD); exact Kd.R_mono HO385.out (fun _ hk => trivial)⟩, ⟨bq⟩⟩
           ·rw [if_neg c61] at H
            have c61b0 := decide_eq_false c61
            clear c61
            replace H := iS H
            obtain ⟨c70, H⟩ := H
            have LMc70 := aM c70
            clear c70
            obtain ⟨y386, hy386⟩ : ∃ y_ : List (S76), y_ = (x11_3 ++ [(⟨(rd_T76 l0 x51_3).f0, (rd_T76 l0 x51_3).f1⟩ : S76)]) := ⟨_, rfl⟩
            replace H : (spec_asGrow.l1 k3 a1 a2 y386 l0 (l0.length : Int) (wrap64 (x51_3 + 1))) = some (r1, r2) := by first | (rw [hy386]; with_reducible exact H) | (have H2_ := (Option.bind_some _ _).symm.trans H; rw [hy386]; with_reducible exact H2_) | (have H2_ := (Option.bind_some _ _).symm.trans H; with_reducible exact H2_) | with_reducible exact H | (rw [hy386]; exact H) | exact H
            have Ny386 := aM hy386
            clear hy386
            have H' := aM H
            clear H
            have p368 : 0 ≤ (x51_3 : Int) := odt
            have q368 : x51_3 < (l0.length : Int) := odt
            obtain ⟨ad368, e368, hx368_0, hx368_1⟩ := at_T76 HR0.out x51_3 p368 q368
            cases e368
            replace hx368_0 := (HB.out.cell (World.block_lt_of_cell? w _ hx368_0)).trans hx368_0
            replace hx368_1 := (HB.out.cell (World.block_lt_of_cell? w _ hx368_1)).trans hx368_1
            replace p368 := eq_true p368
            replace q368 := eq_true q368
            go_wp2_with (first | ((with_reducible refine gate_dst (N := 13) rfl ?_); refine bE 13 76 #[.int .i64 0, .int .i64 0] ?_; intro gb369 hg w71 hbox hb; have _ := aM (Kd.R_below (Kd.R_elderB (rQ HO_11) gb369 (Nat.le_of_eq hg.symm)) hb); have _ := aM (below_step bq hb); have _ := aM (hbox); have _ := aM ((gS hg)); have _ := aM ((gS hg)); clear HO_11 HB; rename_i HO_11 HB BK369 GW369 GE369; clear hb hbox hg; have hcz72_0 := zc20 BK369; have hcz72_1 := zc21 BK369; have hfz72_0 := blk_frozen BK369.out 0; have hfz72_1 := blk_frozen BK369.out 1) | ((with_reducible refine gate_dst (N := 14) rfl ?_); refine bE 14 76 #[.int .i64 0, .int .i64 0] ?_; intro gb370 hg w73 hbox hb; have _ := aM (Kd.R_below (Kd.R_elderB (by (with_reducible repeat first|apply rA|apply rN|apply rD); exact (Kd.R_mono (Kd.R_far (p := ⟨gb369, 1, none⟩) (Kd.R_far (p := ⟨gb369, 0, none⟩) (Kd.R_mono HO_11.out (fun k_ hk => (⟨hk, hk.2⟩ : _ ∧ k_ ≠ gb369))) (fun _ hk => hk.2) (.int .i64 ((rd_T76 l0 x51_3).f0))) (fun _ hk => hk.2) (.int .i64 ((rd_T76 l0 x51_3).f1))) (fun _ h_ => h_.1))) gb370 (Nat.le_of_eq hg.symm)) hb); have _ := aM (blk_below (g := gb369) (o := .cells #[.int .i64 ((rd_T76 l0 x51_3).f0), .int .i64 ((rd_T76 l0 x51_3).f1)] 76 (0, 0)) (by (with_reducible repeat first|apply qN|apply qD|apply qA); refine blk_put (cs := #[.int .i64 ((rd_T76 l0 x51_3).f0), .int .i64 0]) ?_ 1 _ rfl; (with_reducible repeat first|apply qN|apply qD|apply qA); refine blk_put (cs := #[.int .i64 0, .int .i64 0]) ?_ 0 _ rfl; (with_reducible repeat first|apply qN|apply qD|apply qA); exact BK369.out) hb); have _ := aM (below_step bq hb); have _ := aM (hbox); have _ := aM ((gS hg)); have _ := aM ((gS hg)); have _ := aM ((by rw [hg]; exact Nat.ne_of_lt (blk_lt (g := gb369) (o := .cells #[.int .i64 ((rd_T76 l0 x51_3).f0), .int .i64 ((rd_T76 l0 x51_3).f1)] 76 (0, 0)) (by (with_reducible repeat first|apply qN|apply qD|apply qA); refine blk_put (cs := #[.int .i64 ((rd_T76 l0 x51_3).f0), .int .i64 0]) ?_ 1 _ rfl; (with_reducible repeat first|apply qN|apply qD|apply qA); refine blk_put (cs := #[.int .i64 0, .int .i64 0]) ?_ 0 _ rfl; (with_reducible repeat first|apply qN|apply qD|apply qA); exact BK369.out)) : gb369 ≠ gb370)); have _ := aM ((by rw [hg]; exact Nat.ne_of_gt (blk_lt (g := gb369) (o := .cells #[.int .i64 ((rd_T76 l0 x51_3).f0), .int .i64 ((rd_T76 l0 x51_3).f1)] 76 (0, 0)) (by (with_reducible repeat first|apply qN|apply qD|apply qA); refine blk_put (cs := #[.int .i64 ((rd_T76 l0 x51_3).f0), .int .i64 0]) ?_ 1 _ rfl; (with_reducible repeat first|apply qN|apply qD|apply qA); refine blk_put (cs := #[.int .i64 0, .int .i64 0]) ?_ 0 _ rfl; (with_reducible repeat first|apply qN|apply qD|apply qA); exact BK369.out)) : gb370 ≠ gb369)); clear HO_11 BK369 HB; rename_i HO_11 BK369 HB BK370 GW370 GE370 NB369_370 NB370_369; clear hb hbox hg; have hnb74 := NB370_369.out; have hnc74 := NB369_370.out; have hcz75_0 := zc20 BK370; have hcz75_1 := zc21 BK370; have hfz75_0 := blk_frozen BK370.out 0; have hfz75_1 := blk_frozen BK370.out 1; have hcz76_0 := zc20 BK369; have hcz76_1 := zc21 BK369; have hfz76_0 := blk_frozen BK369.out 0; have hfz76_1 := blk_frozen BK369.out 1) | ((with_reducible refine gate_builtin (b := .append) (xs := #[.tmp 85, .tmp 87]) rfl ?_); at_builtin; refine Kd.R_append k76 (w0 := w) w.heap.size rfl (.tmp 85) (.tmp 87) 48 76 (.agg #[(.int .i64 0), (.int .i64 0)]) 16 rfl Tryd.underlying48 info76 rfl (by decide) (by omega) u11 x11_3 (⟨(rd_T76 l0 x51_3).f0, (rd_T76 l0 x51_3).f1⟩ : S76) [.int .i64 ((rd_T76 l0 x51_3).f0), .int .i64 ((rd_T76 l0 x51_3).f1)] (fun k_ => k_ ≠ gb369 ∧ k_ ≠ gb370) (fun _ => False) rfl (by first | (go_simp; done) | (go_simp; rfl)) ?aP (fun _ hk => hk.elim) ?aF ?aO ?aB ?aS ?aL ?_; (case aP => exact k76_mkM _ _ _ (⟨(rd_T76 l0 x51_3).f0, (rd_T76 l0 x51_3).f1⟩ : S76)); (case aB => exact bq); (case aF => exact (fun k_ hk => ⟨Kd.freshB (g := gb369) (o := .cells #[.int .i64 ((rd_T76 l0 x51_3).f0), .int .i64 ((rd_T76 l0 x51_3).f1)] 76 (0, 0)) (by (with_reducible repeat first|apply qN|apply qD|apply qA); refine blk_far ?_ NB369_370.out _; (with_reducible repeat first|apply qN|apply qD|apply qA); refine blk_far ?_ NB369_370.out _; (with_reducible repeat first|apply qN|apply qD|apply qA); exact BK369.out) k_ hk, Kd.freshB (g := gb370) (o := .cells #[.int .i64 ((rd_T76 l0 x51_3).f0), .int .i64 ((rd_T76 l0 x51_3).f1)] 76 (0, 0)) (by (with_reducible repeat first|apply qN|apply qD|apply qA); refine blk_put (cs := #[.int .i64 ((rd_T76 l0 x51_3).f0), .int .i64 0]) ?_ 1 _ rfl; (with_reducible repeat first|apply qN|apply qD|apply qA); refine blk_put (cs := #[.int .i64 0, .int .i64 0]) ?_ 0 _ rfl; (with_reducible repeat first|apply qN|apply qD|apply qA); exact BK370.out) k_ hk⟩)); (case aO => exact (by (with_reducible repeat first|apply rA|apply rN|apply rD); exact Kd.R_mono (Kd.R_far (p := ⟨gb370, 1, none⟩) (Kd.R_far (p := ⟨gb370, 0, none⟩) (Kd.R_mono HO_11.out (fun k_ hk => (⟨hk, hk.2⟩ : _ ∧ k_ ≠ gb370))) (fun _ hk => hk.2) (.int .i64 ((rd_T76 l0 x51_3).f0))) (fun _ hk => hk.2) (.int .i64 ((rd_T76 l0 x51_3).f1))) (fun _ hk => ⟨hk.1.1.2, hk.1.2⟩))); (case aS => exact (below_size bq)); (case aL => have := LMc70.out; omega); intro v387 w77 ho hb hg hat; rw [← Ny386.out] at ho; have _ := aM (blk_grown (g := gb369) (o := .cells #[.int .i64 ((rd_T76 l0 x51_3).f0), .int .i64 ((rd_T76 l0 x51_3).f1)] 76 (0, 0)) (by (with_reducible repeat first|apply qN|apply qD|apply qA); refine blk_far ?_ NB369_370.out _; (with_reducible repeat first|apply qN|apply qD|apply qA); refine blk_far ?_ NB369_370.out _; (with_reducible repeat first|apply qN|apply qD|apply qA); exact BK369.out) hg (Kd.R_away HO_11.out (fun _ hk => hk.1.2))); have _ := aM (blk_grown (g := gb370) (o := .cells #[.int .i64 ((rd_T76 l0 x51_3).f0), .int .i64 ((rd_T76 l0 x51_3).f1)] 76 (0, 0)) (by (with_reducible repeat first|apply qN|apply qD|apply qA); refine blk_put (cs := #[.int .i64 ((rd_T76 l0 x51_3).f0), .int .i64 0]) ?_ 1 _ rfl; (with_reducible repeat first|apply qN|apply qD|apply qA); refine blk_put (cs := #[.int .i64 0, .int .i64 0]) ?_ 0 _ rfl; (with_reducible repeat first|apply qN|apply qD|apply qA); exact BK370.out) hg (Kd.R_away HO_11.out (fun _ hk => hk.2))); have _ := aM (hb); have _ := aM (ho); clear BK369 BK370 HB HO_11; rename_i BK369 BK370 HB HO388; clear ho hb hg hat))
            go_roundg k3
            case measure => have := HK1.out; have := HJ12.out; have := HK3.out; omega
            case rel => exact ⟨(y386), (wrap64 (x51_3 + 1)), eR, H', ⟨by have := HK1.out; have := HJ12.out; have := HK3.out; omega⟩, ⟨by (with_reducible repeat first|apply rA|apply rN|apply rD); exact Kd.R_mono HO388.out (fun _ hk => trivial)⟩, ⟨bq⟩⟩
         ·rw [if_neg c22] at H
          have c22b0 := decide_eq_false c22
          clear c22
          replace H := iS H
          obtain ⟨c78, H⟩ := H
          have LMc78 := aM c78
          clear c78
          obtain ⟨y365, hy365⟩ : ∃ y_ : List (S76), y_ = (x11_3 ++ [(⟨a1, a2⟩ : S76)]) := ⟨_, rfl⟩
          replace H : (some (y365, wrap64 (a2 + 1))) = some (r1, r2) := by first | (rw [hy365]; with_reducible exact H) | (have H2_ := (Option.bind_some _ _).symm.trans H; rw [hy365]; with_reducible exact H2_) | (have H2_ := (Option.bind_some _ _).symm.trans H; with_reducible exact H2_) | with_reducible exact H | (rw [hy365]; exact H) | exact H
          have Ny365 := aM hy365
          clear hy365
          simp only [Option.some.injEq, Prod.mk.injEq] at H
          obtain ⟨rfl, rfl⟩ := H
          go_wp2_with (first | ((with_reducible refine gate_builtin (b := .append) (xs := #[.tmp 90, .tmp 94]) rfl ?_); at_builtin; refine Kd.R_append k76 (w0 := w) w.heap.size rfl (.tmp 90) (.tmp 94) 48 76 (.agg #[(.int .i64 0), (.int .i64 0)]) 16 rfl Tryd.underlying48 info76 rfl (by decide) (by omega) u11 x11_3 (⟨a1, a2⟩ : S76) [.int .i64 a1, .int .i64 a2] (fun _ => True) (fun _ => False) rfl rfl ?aP (fun _ hk => hk.elim) ?aF ?aO ?aB ?aS ?aL ?_; (case aP => exact k76_mkM _ _ _ (⟨a1, a2⟩ : S76)); (case aB => exact bq); (case aF => exact (fun _ _ => trivial)); (case aO => exact (rQ HO_11)); (case aS => exact (below_size bq)); (case aL => have := LMc78.out; omega); intro v366 w79 ho hb hg hat; rw [← Ny365.out] at ho; have _ := aM (hb); have _ := aM (ho); clear HB HO_11; rename_i HB HO367; clear ho hb hg hat))
          go_ret2
          exact ⟨_, eE, rQ HO367, bq⟩

end Go.Proofs.YtcodionjhcmfhaaDoor.Be
