-- Written by hook.py, a program of this session (wip/), which runs the kit's print.py with its own parts; Lean checks it.
import Derived.Test.YtacdlipojhoilaaZx0
import Derived.Test.YtacdlipojhoilaaZx2
import Derived.Test.YtacdlipojhoilaaZx3
import Derived.Test.YtacdlipojhoilaaZx5
import Derived.Test.YtacdlipojhoilaaZx8
import Derived.Test.YtacdlipojhoilaaZxXSq
namespace Go.Proofs.Ytacdlipojhoilaa.Zx
open Go.RowKit Go.Proofs.YtacdlipojhoilaaW.PrintWords Go.Proofs.YtacdlipojhoilaaW.PrintLast Go.Proofs.YtacdlipojhoilaaW.PrintMore Go.Proofs.Ytacdlipojhoilaa.Sq
attribute [local go_sem] max2_int min2_int max_two min_two max_three min_three max_four min_four   -- for this text's walks alone
set_option linter.unusedVariables false
set_option linter.unusedSimpArgs false

mutual
def impl_DualMatrix.l0 : Nat → Int → List (List Int) → Int → Int → List (List Int) → Option ((List (List Int)) × Bool)
 | 0, _, _, _, _, _ => none
 | k + 1, x4, x19, x20, x21, x509000 => if x21 < x20 then (if 0 ≤ x21 then (if x21 < (x19.length : Int) then (impl_DualMatrix.l1 k x4 x21 x19 x20 x21 (rd_L2 x19 x21) ((rd_L2 x19 x21).length : Int) 0 x509000) else (none)) else (none)) else (some (x509000, true))
def impl_DualMatrix.l1 : Nat → Int → Int → List (List Int) → Int → Int → List Int → Int → Int → List (List Int) → Option ((List (List Int)) × Bool)
 | 0, _, _, _, _, _, _, _, _, _ => none
 | k + 1, x4, x6, x19, x20, x21, x26, x27, x28, x509000 => if x28 < x27 then (if 0 ≤ x28 then (if x28 < (x26.length : Int) then (if 0 ≤ (wrap64 ((wrap64 (x4 - 1)) - x28)) then (if (wrap64 ((wrap64 (x4 - 1)) - x28)) < (x509000.length : Int) then (if 0 ≤ (wrap64 ((wrap64 (x4 - 1)) - x6)) then (if (wrap64 ((wrap64 (x4 - 1)) - x6)) < ((rd_L2 x509000 (wrap64 ((wrap64 (x4 - 1)) - x28))).length : Int) then (impl_DualMatrix.l1 k x4 x6 x19 x20 x21 x26 x27 (wrap64 (x28 + 1)) (x509000.set ((wrap64 ((wrap64 (x4 - 1)) - x28)) : Int).toNat ((rd_L2 x509000 (wrap64 ((wrap64 (x4 - 1)) - x28))).set ((wrap64 ((wrap64 (x4 - 1)) - x6)) : Int).toNat (rd x26 x28)))) else (none)) else (none)) else (none)) else (none)) else (none)) else (none)) else (impl_DualMatrix.l0 k x4 x19 x20 (wrap64 (x21 + 1)) x509000)
end
def impl_DualMatrix.f (k : Nat) (l0_0 : List (List Int)) : Option ((List (List Int)) × Bool) := (impl_IsMatrix.f k l0_0).bind fun t503 => (if t503 = true then ((impl_Matrix_size.f l0_0).bind fun t504 => ((impl_ofSize.f k t504).bind fun t505 => (impl_DualMatrix.l0 k t504 l0_0 (l0_0.length : Int) 0 t505))) else (some (([] : List (List Int)), false)))
theorem impl_DualMatrix.mono_l : ∀ k, (∀ y0 y1 y2 y3 y4, LeO (impl_DualMatrix.l0 k y0 y1 y2 y3 y4) (impl_DualMatrix.l0 (k + 1) y0 y1 y2 y3 y4)) ∧ (∀ y0 y1 y2 y3 y4 y5 y6 y7 y8, LeO (impl_DualMatrix.l1 k y0 y1 y2 y3 y4 y5 y6 y7 y8) (impl_DualMatrix.l1 (k + 1) y0 y1 y2 y3 y4 y5 y6 y7 y8))
 | 0 => ⟨fun _ _ _ _ _ r h => by simp [impl_DualMatrix.l0] at h, fun _ _ _ _ _ _ _ _ _ r h => by simp [impl_DualMatrix.l1] at h⟩
 | k + 1 => by
  obtain ⟨ih0, ih1⟩ := impl_DualMatrix.mono_l k
  refine ⟨?_, ?_⟩
  ·intro y0 y1 y2 y3 y4
   unfold impl_DualMatrix.l0
   repeat' first | with_reducible first | exact ih0 _ _ _ _ _ | exact ih1 _ _ _ _ _ _ _ _ _ | exact impl_IsMatrix.mono _ _ | exact impl_ofSize.mono _ _ | exact LeO.refl _ | exact LeO.none _ | refine LeO.ite ?_ ?_ | refine LeO.bind ?_ (fun _ => ?_)
  ·intro y0 y1 y2 y3 y4 y5 y6 y7 y8
   unfold impl_DualMatrix.l1
   repeat' first | with_reducible first | exact ih0 _ _ _ _ _ | exact ih1 _ _ _ _ _ _ _ _ _ | exact impl_IsMatrix.mono _ _ | exact impl_ofSize.mono _ _ | exact LeO.refl _ | exact LeO.none _ | refine LeO.ite ?_ ?_ | refine LeO.bind ?_ (fun _ => ?_)
theorem impl_DualMatrix.mono : ∀ a0 k, LeO (impl_DualMatrix.f k a0) (impl_DualMatrix.f (k + 1) a0) := by
 intro a0 k
 obtain ⟨ih0, ih1⟩ := impl_DualMatrix.mono_l k
 unfold impl_DualMatrix.f
 repeat' first | with_reducible first | exact ih0 _ _ _ _ _ | exact ih1 _ _ _ _ _ _ _ _ _ | exact impl_IsMatrix.mono _ _ | exact impl_ofSize.mono _ _ | exact LeO.refl _ | exact LeO.none _ | refine LeO.ite ?_ ?_ | refine LeO.bind ?_ (fun _ => ?_)
set_option maxHeartbeats 8000000 in
set_option maxRecDepth 100000 in
theorem impl_DualMatrix.calls (k : Nat) (A0_0 : Option Addr) (c0_0 : Nat) (l0_0 : List (List Int)) (r1 : List (List Int)) (r2 : Bool) (w : World) (hr0_0 : Kd.C (Kd.slice 3 (Kd.int .i64)) w A0_0 l0_0.length l0_0) (hc0_0 : l0_0.length ≤ c0_0) (h : impl_DualMatrix.f k l0_0 = some (r1, r2)) :
  Calls Try.prog 44 #[.agg #[.slice A0_0 l0_0.length c0_0]] w fun e w' => ∃ v0_ : Value, e = .returned (.tuple #[.agg #[v0_], .bool r2]) ∧ Kd.S (Kd.slice 3 (Kd.int .i64)) 24 w' w.heap.size (fun _ => True) v0_ r1 ∧ Below w.heap.size w w' := by
 have hu36 := Try.underlying36
 have HR0_0 := aM hr0_0
 have HC0_0 := aM hc0_0
 clear hr0_0 hc0_0
 have HB := aM (Below.refl w.heap.size w)
 have H : ((impl_IsMatrix.f k l0_0).bind fun t503 => (if t503 = true then ((impl_Matrix_size.f l0_0).bind fun t504 => ((impl_ofSize.f k t504).bind fun t505 => (impl_DualMatrix.l0 k t504 l0_0 (l0_0.length : Int) 0 t505))) else (some (([] : List (List Int)), false)))) = some (r1, r2) := h
 clear h
 replace H := Option.bind_eq_some_iff.mp H
 obtain ⟨t503, A20, H⟩ := H
 replace H : (if t503 = true then ((impl_Matrix_size.f l0_0).bind fun t504 => ((impl_ofSize.f k t504).bind fun t505 => (impl_DualMatrix.l0 k t504 l0_0 (l0_0.length : Int) 0 t505))) else (some (([] : List (List Int)), false))) = some (r1, r2) := H
 have A2 := aM A20
 clear A20
 by_cases c3 : t503 = true
 ·subst c3
  have H1 : ((impl_Matrix_size.f l0_0).bind fun t504 => ((impl_ofSize.f k t504).bind fun t505 => (impl_DualMatrix.l0 k t504 l0_0 (l0_0.length : Int) 0 t505))) = some (r1, r2) := by rw [if_pos rfl] at H; exact H
  clear H
  have H := H1
  clear H1
  replace H := Option.bind_eq_some_iff.mp H
  obtain ⟨t504, A40, H⟩ := H
  replace H : ((impl_ofSize.f k t504).bind fun t505 => (impl_DualMatrix.l0 k t504 l0_0 (l0_0.length : Int) 0 t505)) = some (r1, r2) := H
  have A4 := aM A40
  clear A40
  replace H := Option.bind_eq_some_iff.mp H
  obtain ⟨t505, A50, H⟩ := H
  replace H : (impl_DualMatrix.l0 k t504 l0_0 (l0_0.length : Int) 0 t505) = some (r1, r2) := H
  have A5 := aM A50
  clear A50
  have H' := aM H
  clear H
  go_enter Try.func44, Try.ntmps44
  go_wp2_with (first | ((with_reducible refine gate_dst (N := 1) rfl ?_); refine bE 1 36 #[.slice A0_0 l0_0.length c0_0] ?_; intro gb501 hg w6 hbox hb; have _ := aM (below_step bq hb); have _ := aM (hbox); have _ := aM ((gS hg)); have _ := aM ((gS hg)); clear HB; rename_i HB BK501 GW501 GE501; clear hb hbox hg) | ((with_reducible refine gate_dst (N := 2) rfl ?_); refine bE 2 36 #[.slice none 0 0] ?_; intro gb502 hg w7 hbox hb; have _ := aM (blk_below (g := gb501) (o := .cells #[.slice A0_0 l0_0.length c0_0] 36 (0, 0)) (qQ BK501) hb); have _ := aM (below_step bq hb); have _ := aM (hbox); have _ := aM ((gS hg)); have _ := aM ((gS hg)); have _ := aM ((by rw [hg]; exact Nat.ne_of_lt (blk_lt (g := gb501) (o := .cells #[.slice A0_0 l0_0.length c0_0] 36 (0, 0)) (qQ BK501)) : gb501 ≠ gb502)); have _ := aM ((by rw [hg]; exact Nat.ne_of_gt (blk_lt (g := gb501) (o := .cells #[.slice A0_0 l0_0.length c0_0] 36 (0, 0)) (qQ BK501)) : gb502 ≠ gb501)); clear BK501 HB; rename_i BK501 HB BK502 GW502 GE502 NB501_502 NB502_501; clear hb hbox hg; have hnb8 := NB501_502.out; have hnc8 := NB502_501.out; have hcz9_0 : w7.cell? ⟨gb501, 0, none⟩ = some (.slice A0_0 l0_0.length c0_0) := (blk_cell BK501.out 0).trans rfl; have hfz9_0 := blk_frozen BK501.out 0) | ((with_reducible refine gate_callee (f := 33) rfl ?_); refine gL (some 11) Try.func33 #[.agg #[.slice A0_0 l0_0.length c0_0]] ?_; (with_reducible refine (impl_IsMatrix.calls k _ _ l0_0 true _ (cQ (Kd.C_below HR0_0.out HB.out)) HC0_0.out A2.out).mono ?_); rintro e w10 ⟨rfl, hb⟩; refine ⟨_, rfl, ?_⟩; have _ := aM (blk_below (g := gb501) (o := .cells #[.slice A0_0 l0_0.length c0_0] 36 (0, 0)) (qQ BK501) hb); have _ := aM (blk_below (g := gb502) (o := .cells #[.slice none 0 0] 36 (0, 0)) (qQ BK502) hb); have _ := aM (below_step bq hb); clear BK501 BK502 HB; rename_i BK501 BK502 HB; (try clear hb); (try clear hb2); (try clear hk); (try clear hi); have hcz11_0 : w10.cell? ⟨gb501, 0, none⟩ = some (.slice A0_0 l0_0.length c0_0) := (blk_cell BK501.out 0).trans rfl; have hfz11_0 := blk_frozen BK501.out 0) | ((with_reducible refine gate_callee (f := 89) rfl ?_); refine gL (some 15) Try.func89 #[.agg #[.slice A0_0 l0_0.length c0_0]] ?_; (with_reducible refine (impl_Matrix_size.calls _ _ l0_0 t504 _ (cQ (Kd.C_below HR0_0.out HB.out)) HC0_0.out A4.out).mono ?_); rintro e w12 ⟨rfl, hb⟩; refine ⟨_, rfl, ?_⟩; have _ := aM (blk_below (g := gb501) (o := .cells #[.slice A0_0 l0_0.length c0_0] 36 (0, 0)) (qQ BK501) hb); have _ := aM (blk_below (g := gb502) (o := .cells #[.slice none 0 0] 36 (0, 0)) (qQ BK502) hb); have _ := aM (below_step bq hb); clear BK501 BK502 HB; rename_i BK501 BK502 HB; (try clear hb); (try clear hb2); (try clear hk); (try clear hi)) | ((with_reducible refine gate_callee (f := 101) rfl ?_); refine gL (some 17) Try.func101 #[.int .i64 t504] ?_; (with_reducible refine (impl_ofSize.calls k t504 t505 _ A5.out).mono ?_); rintro e w13 ⟨v506, rfl, ho0, hb⟩; refine ⟨_, rfl, ?_⟩; have _ := aM (Kd.S_lower ho0 (below_size bq)); have _ := aM (blk_below (g := gb501) (o := .cells #[.slice A0_0 l0_0.length c0_0] 36 (0, 0)) (qQ BK501) hb); have _ := aM (blk_below (g := gb502) (o := .cells #[.slice none 0 0] 36 (0, 0)) (qQ BK502) hb); have _ := aM (below_step bq hb); clear BK501 BK502 HB; rename_i HO507 BK501 BK502 HB; (try clear hb); (try clear hb2); (try clear hk); (try clear hi); (try clear ho0)) | ((with_reducible refine gate_dst (N := 5) rfl ?_); refine bE 5 36 #[.slice none 0 0] ?_; intro gb508 hg w14 hbox hb; have _ := aM (Kd.S_below (sQ HO507) hb); have _ := aM (blk_below (g := gb501) (o := .cells #[.slice A0_0 l0_0.length c0_0] 36 (0, 0)) (qQ BK501) hb); have _ := aM (blk_below (g := gb502) (o := .cells #[.slice none 0 0] 36 (0, 0)) (qQ BK502) hb); have _ := aM (below_step bq hb); have _ := aM (hbox); have _ := aM ((gS hg)); have _ := aM ((gS hg)); have _ := aM ((by rw [hg]; exact Nat.ne_of_lt (blk_lt (g := gb501) (o := .cells #[.slice A0_0 l0_0.length c0_0] 36 (0, 0)) (qQ BK501)) : gb501 ≠ gb508)); have _ := aM ((by rw [hg]; exact Nat.ne_of_gt (blk_lt (g := gb501) (o := .cells #[.slice A0_0 l0_0.length c0_0] 36 (0, 0)) (qQ BK501)) : gb508 ≠ gb501)); have _ := aM ((by rw [hg]; exact Nat.ne_of_lt (blk_lt (g := gb502) (o := .cells #[.slice none 0 0] 36 (0, 0)) (qQ BK502)) : gb502 ≠ gb508)); have _ := aM ((by rw [hg]; exact Nat.ne_of_gt (blk_lt (g := gb502) (o := .cells #[.slice none 0 0] 36 (0, 0)) (qQ BK502)) : gb508 ≠ gb502)); clear HO507 BK501 BK502 HB; rename_i HO507 BK501 BK502 HB BK508 GW508 GE508 NB501_508 NB508_501 NB502_508 NB508_502; clear hb hbox hg; obtain ⟨Ao15, co15, eo15⟩ := Kd.S_slice HO507.out; subst eo15; have hnb16 := NB508_501.out; have hnc16 := NB501_508.out; have hnb17 := NB508_502.out; have hnc17 := NB502_508.out; have hcz18_0 : w14.cell? ⟨gb508, 0, none⟩ = some (.slice none 0 0) := (blk_cell BK508.out 0).trans rfl; have hfz18_0 := blk_frozen BK508.out 0; have hcz19_0 : w14.cell? ⟨gb501, 0, none⟩ = some (.slice A0_0 l0_0.length c0_0) := (blk_cell BK501.out 0).trans rfl; have hfz19_0 := blk_frozen BK501.out 0))
  go_loopg [21] k (fun kq v21 w' => ∃ (x21_1 : Int) (x509000_1 : List (List Int)) (u509000 : Value), v21 = .int .i64 x21_1 ∧ Aside0 (impl_DualMatrix.l0 kq t504 l0_0 (l0_0.length : Int) x21_1 x509000_1 = some (r1, r2)) ∧ Aside0 (kq ≤ k) ∧ Aside0 (Kd.S (Kd.slice 3 (Kd.int .i64)) 24 w' w.heap.size (fun _ => True) u509000 x509000_1) ∧ Aside0 (w'.heap[gb501]? = some (.cells #[(.slice A0_0 l0_0.length c0_0)] 36 (0, 0))) ∧ Aside0 (w'.heap[gb502]? = some (.cells #[(.slice none 0 0)] 36 (0, 0))) ∧ Aside0 (w'.heap[gb508]? = some (.cells #[u509000] 36 (0, 0))) ∧ Aside0 (Below w.heap.size w w'))
  case atStart => exact ⟨(0), (t505), (.slice Ao15 t505.length co15), (by first | rfl | (simp; done) | (simp [*]; done)), H', ⟨Nat.le_refl _⟩, ⟨by (with_reducible repeat first|apply sA|apply sN|apply sD); exact Kd.S_mono (Kd.S_far (p := ⟨gb508, 0, none⟩) (Kd.S_types HO507.out BK508.out (by decide)) (fun _ hk => hk.2) (.slice Ao15 t505.length co15)) (fun _ hk => trivial)⟩, ⟨by (with_reducible repeat first|apply qN|apply qD|apply qA); refine blk_far ?_ NB501_508.out _; (with_reducible repeat first|apply qN|apply qD|apply qA); exact BK501.out⟩, ⟨by (with_reducible repeat first|apply qN|apply qD|apply qA); refine blk_far ?_ NB502_508.out _; (with_reducible repeat first|apply qN|apply qD|apply qA); exact BK502.out⟩, ⟨by (with_reducible repeat first|apply qN|apply qD|apply qA); refine blk_put (cs := #[.slice none 0 0]) ?_ 0 _ rfl; (with_reducible repeat first|apply qN|apply qD|apply qA); exact BK508.out⟩, ⟨by exact bq⟩⟩
  case round =>
   clear H'
   try clear c1
   try clear p2
   try clear c3
   try clear c4
   try clear c8
   try clear c10
   try clear c16
   try clear c17
   try clear hcz11_0
   try clear hcz18_0
   try clear hcz19_0
   try clear hcz9_0
   try clear hfz11_0
   try clear hfz18_0
   try clear hfz19_0
   try clear hfz9_0
   obtain ⟨x21_1, x509000_1, u509000, rfl, HA, HK1, HO_509000, BK501, BK502, BK508, HB⟩ := hrel
   cases gk with
   | zero => exact absurd HA.out (by simp [impl_DualMatrix.l0])
   | succ k1 =>
    have H := HA.out
    clear HA
    simp only [impl_DualMatrix.l0] at H
    by_cases c20 : x21_1 < (l0_0.length : Int)
    ·rw [if_pos c20] at H
     have c20b0 : decide (x21_1 < (l0_0.length : Int)) = true := decide_eq_true c20
     clear c20
     by_cases c21 : 0 ≤ x21_1
     ·rw [if_pos c21] at H
      have c21b0 : decide (0 ≤ x21_1) = true := decide_eq_true c21
      clear c21
      by_cases c22 : x21_1 < (l0_0.length : Int)
      ·rw [if_pos c22] at H
       have c22b0 : decide (x21_1 < (l0_0.length : Int)) = true := decide_eq_true c22
       clear c22
       have H' := aM H
       clear H
       have p509 : 0 ≤ (x21_1 : Int) := odt
       have q509 : x21_1 < (l0_0.length : Int) := odt
       obtain ⟨ad509, A509_0, c509_0, e509, hx509_0, hl509_0, hi509_0⟩ := at_L2 HR0_0.out x21_1 p509 q509
       cases e509
       replace hx509_0 := (HB.out.cell (World.block_lt_of_cell? w _ hx509_0)).trans hx509_0
       have HR509_0 := aM hi509_0
       have HC509_0 := aM hl509_0
       clear hi509_0 hl509_0
       replace p509 := eq_true p509
       replace q509 := eq_true q509
       go_wp2
       go_loopg [28] k1 (fun kq v28 w' => ∃ (x28_2 : Int) (x509000_2 : List (List Int)) (u509000 : Value), v28 = .int .i64 x28_2 ∧ Aside0 (impl_DualMatrix.l1 kq t504 x21_1 l0_0 (l0_0.length : Int) x21_1 (rd_L2 l0_0 x21_1) ((rd_L2 l0_0 x21_1).length : Int) x28_2 x509000_2 = some (r1, r2)) ∧ Aside0 (kq ≤ k1) ∧ Aside0 (Kd.S (Kd.slice 3 (Kd.int .i64)) 24 w' w.heap.size (fun _ => True) u509000 x509000_2) ∧ Aside0 (w'.heap[gb501]? = some (.cells #[(.slice (some ad509) l0_0.length c0_0)] 36 (0, 0))) ∧ Aside0 (w'.heap[gb502]? = some (.cells #[(.slice none 0 0)] 36 (0, 0))) ∧ Aside0 (w'.heap[gb508]? = some (.cells #[u509000] 36 (0, 0))) ∧ Aside0 (Below w.heap.size w w'))
       case atStart => exact ⟨(0), (x509000_1), (u509000), (by first | rfl | (simp; done) | (simp [*]; done)), H', ⟨Nat.le_refl _⟩, ⟨by (with_reducible repeat first|apply sA|apply sN|apply sD); exact HO_509000.out⟩, ⟨by (with_reducible repeat first|apply qN|apply qD|apply qA); exact BK501.out⟩, ⟨by (with_reducible repeat first|apply qN|apply qD|apply qA); exact BK502.out⟩, ⟨by (with_reducible repeat first|apply qN|apply qD|apply qA); exact BK508.out⟩, ⟨by exact bq⟩⟩
       case round =>
        clear H'
        try clear c1
        try clear c2
        try clear p2
        try clear c3
        try clear c4
        try clear c5
        try clear p5
        try clear q5
        try clear hx5
        try clear c8
        try clear c10
        try clear c16
        try clear c17
        try clear c20
        try clear c20b0
        try clear c21
        try clear c21b0
        try clear c22
        try clear c22b0
        try clear hcz11_0
        try clear hcz18_0
        try clear hcz19_0
        try clear hcz9_0
        try clear hfz11_0
        try clear hfz18_0
        try clear hfz19_0
        try clear hfz9_0
        try clear hx509_0
        try clear p2
        try clear p509
        try clear q509
        obtain ⟨x28_2, x509000_2, u509000, rfl, HA, HK2, HO_509000, BK501, BK502, BK508, HB⟩ := hrel
        cases gk with
        | zero => exact absurd HA.out (by simp [impl_DualMatrix.l1])
        | succ k2 =>
         have H := HA.out
         clear HA
         simp only [impl_DualMatrix.l1] at H
         by_cases c23 : x28_2 < ((rd_L2 l0_0 x21_1).length : Int)
         ·rw [if_pos c23] at H
          have c23b0 : decide (x28_2 < ((rd_L2 l0_0 x21_1).length : Int)) = true := decide_eq_true c23
          clear c23
          by_cases c24 : 0 ≤ x28_2
          ·rw [if_pos c24] at H
           have c24b0 : decide (0 ≤ x28_2) = true := decide_eq_true c24
           clear c24
           by_cases c25 : x28_2 < ((rd_L2 l0_0 x21_1).length : Int)
           ·rw [if_pos c25] at H
            have c25b0 : decide (x28_2 < ((rd_L2 l0_0 x21_1).length : Int)) = true := decide_eq_true c25
            clear c25
            obtain ⟨ji26, hji26⟩ : ∃ j_ : Int, (wrap64 ((wrap64 (t504 - 1)) - x28_2)) = j_ := ⟨_, rfl⟩
            replace H : (if 0 ≤ (ji26) then (if (ji26) < (x509000_2.length : Int) then (if 0 ≤ (wrap64 ((wrap64 (t504 - 1)) - x21_1)) then (if (wrap64 ((wrap64 (t504 - 1)) - x21_1)) < ((rd_L2 x509000_2 (ji26)).length : Int) then (impl_DualMatrix.l1 k2 t504 x21_1 l0_0 (l0_0.length : Int) x21_1 (rd_L2 l0_0 x21_1) ((rd_L2 l0_0 x21_1).length : Int) (wrap64 (x28_2 + 1)) (x509000_2.set ((ji26) : Int).toNat ((rd_L2 x509000_2 (ji26)).set ((wrap64 ((wrap64 (t504 - 1)) - x21_1)) : Int).toNat (rd (rd_L2 l0_0 x21_1) x28_2)))) else (none)) else (none)) else (none)) else (none)) = some (r1, r2) := by first | (rw [hji26] at H; exact H) | (simp only [hji26] at H ⊢; exact H)
            have hji26w : (IntKind.i64.wrap ((wrap64 (t504 - 1)) - x28_2)) = ji26 := (i64_w _).trans hji26
            by_cases c27 : 0 ≤ (ji26)
            ·rw [if_pos c27] at H
             have c27b0 : decide (0 ≤ (ji26)) = true := decide_eq_true c27
             clear c27
             by_cases c28 : (ji26) < (x509000_2.length : Int)
             ·rw [if_pos c28] at H
              have c28b0 : decide ((ji26) < (x509000_2.length : Int)) = true := decide_eq_true c28
              clear c28
              obtain ⟨ji29, hji29⟩ : ∃ j_ : Int, (wrap64 ((wrap64 (t504 - 1)) - x21_1)) = j_ := ⟨_, rfl⟩
              replace H : (if 0 ≤ (ji29) then (if (ji29) < ((rd_L2 x509000_2 (ji26)).length : Int) then (impl_DualMatrix.l1 k2 t504 x21_1 l0_0 (l0_0.length : Int) x21_1 (rd_L2 l0_0 x21_1) ((rd_L2 l0_0 x21_1).length : Int) (wrap64 (x28_2 + 1)) (x509000_2.set ((ji26) : Int).toNat ((rd_L2 x509000_2 (ji26)).set ((ji29) : Int).toNat (rd (rd_L2 l0_0 x21_1) x28_2)))) else (none)) else (none)) = some (r1, r2) := by first | (rw [hji29] at H; exact H) | (simp only [hji29] at H ⊢; exact H)
              have hji29w : (IntKind.i64.wrap ((wrap64 (t504 - 1)) - x21_1)) = ji29 := (i64_w _).trans hji29
              by_cases c30 : 0 ≤ (ji29)
              ·rw [if_pos c30] at H
               have c30b0 : decide (0 ≤ (ji29)) = true := decide_eq_true c30
               clear c30
               by_cases c31 : (ji29) < ((rd_L2 x509000_2 (ji26)).length : Int)
               ·rw [if_pos c31] at H
                have c31b0 : decide ((ji29) < ((rd_L2 x509000_2 (ji26)).length : Int)) = true := decide_eq_true c31
                clear c31
                obtain ⟨y512, hy512⟩ : ∃ y_ : List Int, y_ = ((rd_L2 x509000_2 (ji26)).set ((ji29) : Int).toNat (rd (rd_L2 l0_0 x21_1) x28_2)) := ⟨_, rfl⟩
                replace H : (impl_DualMatrix.l1 k2 t504 x21_1 l0_0 (l0_0.length : Int) x21_1 (rd_L2 l0_0 x21_1) ((rd_L2 l0_0 x21_1).length : Int) (wrap64 (x28_2 + 1)) (x509000_2.set ((ji26) : Int).toNat y512)) = some (r1, r2) := by first | (rw [hy512]; with_reducible exact H) | (have H2_ := (Option.bind_some _ _).symm.trans H; rw [hy512]; with_reducible exact H2_) | (have H2_ := (Option.bind_some _ _).symm.trans H; with_reducible exact H2_) | with_reducible exact H | (rw [hy512]; exact H) | exact H
                have Ny512 := aM hy512
                clear hy512
                obtain ⟨y514, hy514⟩ : ∃ y_ : List (List Int), y_ = (x509000_2.set ((ji26) : Int).toNat y512) := ⟨_, rfl⟩
                replace H : (impl_DualMatrix.l1 k2 t504 x21_1 l0_0 (l0_0.length : Int) x21_1 (rd_L2 l0_0 x21_1) ((rd_L2 l0_0 x21_1).length : Int) (wrap64 (x28_2 + 1)) y514) = some (r1, r2) := by first | (rw [hy514]; with_reducible exact H) | (have H2_ := (Option.bind_some _ _).symm.trans H; rw [hy514]; with_reducible exact H2_) | (have H2_ := (Option.bind_some _ _).symm.trans H; with_reducible exact H2_) | with_reducible exact H | (rw [hy514]; exact H) | exact H
                have Ny514 := aM hy514
                clear hy514
                have H' := aM H
                clear H
                have p510 : 0 ≤ (x28_2 : Int) := odt
                have q510 : x28_2 < ((rd_L2 l0_0 x21_1).length : Int) := odt
                obtain ⟨ad510, e510, hx510_0⟩ := Kd.at_int HR509_0.out x28_2 p510 q510
                cases e510
                replace hx510_0 := (HB.out.cell (World.block_lt_of_cell? w _ hx510_0)).trans hx510_0
                replace p510 := eq_true p510
                replace q510 := eq_true q510
                have hnb33 := NB508_501.out
                have hnc33 := NB501_508.out
                have hnb34 := NB508_502.out
                have hnc34 := NB502_508.out
                have hcz35_0 : wr.cell? ⟨gb508, 0, none⟩ = some (u509000) := (blk_cell BK508.out 0).trans rfl
                have hfz35_0 := blk_frozen BK508.out 0
                obtain ⟨Ao36, co36, eo36⟩ := Kd.S_slice HO_509000.out
                subst eo36
                have p511 : 0 ≤ ((ji26) : Int) := odt
                have q511 : (ji26) < (x509000_2.length : Int) := odt
                obtain ⟨ad511, A511_0, c511_0, e511, hx511_0, hl511_0, hi511_0⟩ := at_L2 (Kd.S_reads' HO_509000.out).2.2 (ji26) p511 q511
                cases e511
                obtain ⟨ce511, hce511, hMe511, hcc511⟩ := Kd.S_get HO_509000.out [] (ji26) p511 (by first | exact q511 | exact odt | (have e_ := (Kd.S_reads' HO_509000.out).1; omega))
                obtain ⟨ve511_0, rfl, ge511_0⟩ := hMe511
                have hv511_0 := hcc511 0 _ rfl
                rw [Nat.add_zero, show ((Kd.slice 3 (Kd.int .i64))).sz = 1 from rfl, Nat.mul_one] at hv511_0
                replace hv511_0 := Option.some.inj (hv511_0.symm.trans hx511_0)
                rw [hv511_0] at ge511_0
                have HL511_0 := aM (show Kd.R (Kd.int .i64) 3 _ _ _ _ (rd_L2 x509000_2 (ji26)) from ge511_0)
                clear hv511_0 ge511_0
                have HX511_0 := aM hx511_0
                clear hcc511 hce511
                have HR511_0 := aM hi511_0
                have HC511_0 := aM hl511_0
                clear hi511_0 hl511_0
                replace p511 := eq_true p511
                replace q511 := eq_true q511
                have p32 : 0 ≤ ((ji29) : Int) := odt
                have q32 : ((ji29) : Int) < (((rd_L2 x509000_2 (ji26)).length : Int) : Int) := odt
                obtain ⟨go32, co32, eo32, gb32, gl32, cl32, HG32⟩ := Kd.R_form HL511_0.out (by omega)
                (first | cases eo32 | (injection eo32 with ea_ en_ ec_; (first | subst ea_ | (injection ea_ with ea_; subst ea_)); subst ec_; clear en_))
                have GB32 := aM gb32
                have GG32 := aM HG32
                clear gb32 gl32 HG32
                obtain ⟨hx32_0, hf32_0⟩ := Kd.R_celln 0 HL511_0.out ((ji29) : Int) p32 q32
                replace p32 := eq_true p32
                replace q32 := eq_true q32
                have hq37 : ((ji26) : Int) < (x509000_2.length : Int) := (by have h_ : ((ji26) : Int) < ((x509000_2.length : Int) : Int) := odt; first | exact h_ | (have e_ := (Kd.S_reads' HO_509000.out).1; omega) | simpa only [List.length_set, List.length_set] using h_)
                obtain ⟨oki37, ce37, hcl37, hM37, hcc37, hok37, hbk37⟩ := Kd.S_borrow HO_509000.out [] ((ji26) : Int) (odt) hq37
                obtain ⟨ve37_0, rfl, ge37_0⟩ := hM37
                have hv37 := hcc37 0 _ rfl
                rw [Nat.add_zero, show ((Kd.slice 3 (Kd.int .i64))).sz = 1 from rfl, Nat.mul_one] at hv37
                replace hv37 := Option.some.inj (hv37.symm.trans HX511_0.out)
                subst hv37
                clear hcc37 hcl37
                replace ge37_0 := (show Kd.R (Kd.int .i64) 3 _ _ _ _ (rd_L2 x509000_2 (ji26)) from ge37_0)
                have HP37 := Kd.R_putg ge37_0 ((ji29) : Int) (rd (rd_L2 l0_0 x21_1) x28_2)
                go_wp2_with (first | ((with_reducible refine gate_store (t := 3) (p := 46) rfl ?_); refine sE (wr.setCell ⟨go32, ((ji29) : Int).toNat, none⟩ (.int .i64 (rd (rd_L2 l0_0 x21_1) x28_2))) 3 46 ?_; intro w38 hw; have hg : wr.grownBy w38 (some go32) := (by rw [hw]; exact HP37.2); have hz_ : Kd.R (Kd.int .i64) 3 w38 w.heap.size oki37 (.slice (some ⟨go32, 0, none⟩) (rd_L2 x509000_2 (ji26)).length c511_0) y512 := (by rw [hw, Ny512.out]; exact HP37.1); have hp_ : Kd.S (Kd.slice 3 (Kd.int .i64)) 24 w38 w.heap.size (fun _ => True) (.slice (some ad511) x509000_2.length co36) y514 := (by rw [Ny514.out]; exact hbk37 hg (fun k_ e_ => by injection e_ with e_; subst e_; exact ge37_0.1 _ rfl) (Kd.M_row hz_)); have hm_ := Kd.R_mono hz_ hok37; clear HP37 hbk37; have _ := aM (hp_); have _ := aM (blk_grown (g := gb501) (o := .cells #[.slice (some ad509) l0_0.length c0_0] 36 (0, 0)) (qQ BK501) hg (Kd.R_ne HL511_0.out BK501.out (by decide))); have _ := aM (blk_grown (g := gb502) (o := .cells #[.slice none 0 0] 36 (0, 0)) (qQ BK502) hg (Kd.R_ne HL511_0.out BK502.out (by decide))); have _ := aM (blk_grown (g := gb508) (o := .cells #[.slice (some ad511) x509000_2.length co36] 36 (0, 0)) (qQ BK508) hg (Kd.R_ne HL511_0.out BK508.out (by decide))); have _ := aM ((by rw [hw]; exact below_set (HB.out) GB32.out : Below w.heap.size w w38)); have _ := aM (hm_); have _ := aM ((Kd.R_reads' hm_).2.1); clear HO_509000 BK501 BK502 BK508 HB HL511_0; rename_i HO_509000 BK501 BK502 BK508 HB HL515 HC513; clear hg hw hp_ hz_ hm_ hok37))
                go_roundg k2
                case measure => have := HK1.out; have := HK2.out; omega
                case rel => exact ⟨(wrap64 (x28_2 + 1)), (y514), (.slice (some ad511) x509000_2.length co36), (by first | rfl | (simp; done) | (simp [*]; done)), H', ⟨by have := HK1.out; have := HK2.out; omega⟩, ⟨by (with_reducible repeat first|apply sA|apply sN|apply sD); exact HO_509000.out⟩, ⟨by (with_reducible repeat first|apply qN|apply qD|apply qA); exact BK501.out⟩, ⟨by (with_reducible repeat first|apply qN|apply qD|apply qA); exact BK502.out⟩, ⟨by (with_reducible repeat first|apply qN|apply qD|apply qA); exact BK508.out⟩, ⟨by exact bq⟩⟩
               ·rw [if_neg c31] at H
                exact absurd H (by simp)
              ·rw [if_neg c30] at H
               exact absurd H (by simp)
             ·rw [if_neg c28] at H
              exact absurd H (by simp)
            ·rw [if_neg c27] at H
             exact absurd H (by simp)
           ·rw [if_neg c25] at H
            exact absurd H (by simp)
          ·rw [if_neg c24] at H
           exact absurd H (by simp)
         ·rw [if_neg c23] at H
          have c23b0 : decide (x28_2 < ((rd_L2 l0_0 x21_1).length : Int)) = false := decide_eq_false c23
          clear c23
          have H' := aM H
          clear H
          go_wp2
          go_roundg k2
          case measure => have := HK1.out; have := HK2.out; omega
          case rel => exact ⟨(wrap64 (x21_1 + 1)), (x509000_2), (u509000), (by first | rfl | (simp; done) | (simp [*]; done)), H', ⟨by have := HK1.out; have := HK2.out; omega⟩, ⟨by (with_reducible repeat first|apply sA|apply sN|apply sD); exact HO_509000.out⟩, ⟨by (with_reducible repeat first|apply qN|apply qD|apply qA); exact BK501.out⟩, ⟨by (with_reducible repeat first|apply qN|apply qD|apply qA); exact BK502.out⟩, ⟨by (with_reducible repeat first|apply qN|apply qD|apply qA); exact BK508.out⟩, ⟨by exact bq⟩⟩
      ·rw [if_neg c22] at H
       exact absurd H (by simp)
     ·rw [if_neg c21] at H
      exact absurd H (by simp)
    ·rw [if_neg c20] at H
     have c20b0 : decide (x21_1 < (l0_0.length : Int)) = false := decide_eq_false c20
     clear c20
     simp only [Option.some.injEq, Prod.mk.injEq] at H
     obtain ⟨rfl, rfl⟩ := H
     have hnb39 := NB508_501.out
     have hnc39 := NB501_508.out
     have hnb40 := NB508_502.out
     have hnc40 := NB502_508.out
     have hcz41_0 : wr.cell? ⟨gb508, 0, none⟩ = some (u509000) := (blk_cell BK508.out 0).trans rfl
     have hfz41_0 := blk_frozen BK508.out 0
     obtain ⟨Ao42, co42, eo42⟩ := Kd.S_slice HO_509000.out
     subst eo42
     have hnb43 := NB502_501.out
     have hnc43 := NB501_502.out
     have hcz44_0 : wr.cell? ⟨gb502, 0, none⟩ = some (.slice none 0 0) := (blk_cell BK502.out 0).trans rfl
     have hfz44_0 := blk_frozen BK502.out 0
     go_wp2
     refine bodyPost_ret (results_ct rfl _ _ gb502 36 #[.slice Ao42 x509000_1.length co42] (0, 0) _ rfl (by (with_reducible repeat first|apply qN|apply qD|apply qA); refine blk_put (cs := #[.slice none 0 0]) ?_ 0 _ rfl; (with_reducible repeat first|apply qN|apply qD|apply qA); exact BK502.out) Try.underlying36 rfl (by kernel_rfl)) rfl ?_
     exact ⟨_, by first | rfl | (simp [errW_none, errW_some] <;> rfl) | (simp [*, errW_none, errW_some] <;> rfl), by (with_reducible repeat first|apply sA|apply sN|apply sD); exact Kd.S_mono (Kd.S_far (p := ⟨gb502, 0, none⟩) (Kd.S_types HO_509000.out BK502.out (by decide)) (fun _ hk => hk.2) (.slice Ao42 x509000_1.length co42)) (fun _ hk => trivial), by exact bq⟩
 ·replace c3 := Bool.eq_false_iff.mpr c3
  subst c3
  have H1 : (some (([] : List (List Int)), false)) = some (r1, r2) := by rw [if_neg (show ¬ (false = true) by decide)] at H; exact H
  clear H
  have H := H1
  clear H1
  simp only [Option.some.injEq, Prod.mk.injEq] at H
  obtain ⟨rfl, rfl⟩ := H
  go_enter Try.func44, Try.ntmps44
  go_wp2_with (first | ((with_reducible refine gate_dst (N := 1) rfl ?_); refine bE 1 36 #[.slice A0_0 l0_0.length c0_0] ?_; intro gb501 hg w45 hbox hb; have _ := aM (below_step bq hb); have _ := aM (hbox); have _ := aM ((gS hg)); have _ := aM ((gS hg)); clear HB; rename_i HB BK501 GW501 GE501; clear hb hbox hg) | ((with_reducible refine gate_dst (N := 2) rfl ?_); refine bE 2 36 #[.slice none 0 0] ?_; intro gb502 hg w46 hbox hb; have _ := aM (blk_below (g := gb501) (o := .cells #[.slice A0_0 l0_0.length c0_0] 36 (0, 0)) (qQ BK501) hb); have _ := aM (below_step bq hb); have _ := aM (hbox); have _ := aM ((gS hg)); have _ := aM ((gS hg)); have _ := aM ((by rw [hg]; exact Nat.ne_of_lt (blk_lt (g := gb501) (o := .cells #[.slice A0_0 l0_0.length c0_0] 36 (0, 0)) (qQ BK501)) : gb501 ≠ gb502)); have _ := aM ((by rw [hg]; exact Nat.ne_of_gt (blk_lt (g := gb501) (o := .cells #[.slice A0_0 l0_0.length c0_0] 36 (0, 0)) (qQ BK501)) : gb502 ≠ gb501)); clear BK501 HB; rename_i BK501 HB BK502 GW502 GE502 NB501_502 NB502_501; clear hb hbox hg; have hnb47 := NB501_502.out; have hnc47 := NB502_501.out; have hcz48_0 : w46.cell? ⟨gb501, 0, none⟩ = some (.slice A0_0 l0_0.length c0_0) := (blk_cell BK501.out 0).trans rfl; have hfz48_0 := blk_frozen BK501.out 0) | ((with_reducible refine gate_callee (f := 33) rfl ?_); refine gL (some 11) Try.func33 #[.agg #[.slice A0_0 l0_0.length c0_0]] ?_; (with_reducible refine (impl_IsMatrix.calls k _ _ l0_0 false _ (cQ (Kd.C_below HR0_0.out HB.out)) HC0_0.out A2.out).mono ?_); rintro e w49 ⟨rfl, hb⟩; refine ⟨_, rfl, ?_⟩; have _ := aM (blk_below (g := gb501) (o := .cells #[.slice A0_0 l0_0.length c0_0] 36 (0, 0)) (qQ BK501) hb); have _ := aM (blk_below (g := gb502) (o := .cells #[.slice none 0 0] 36 (0, 0)) (qQ BK502) hb); have _ := aM (below_step bq hb); clear BK501 BK502 HB; rename_i BK501 BK502 HB; (try clear hb); (try clear hb2); (try clear hk); (try clear hi); have hcz50_0 : w49.cell? ⟨gb502, 0, none⟩ = some (.slice none 0 0) := (blk_cell BK502.out 0).trans rfl; have hfz50_0 := blk_frozen BK502.out 0))
  refine bodyPost_ret (results_ct rfl _ _ gb502 36 #[.slice none 0 0] (0, 0) _ rfl (by (with_reducible repeat first|apply qN|apply qD|apply qA); refine blk_put (cs := #[.slice none 0 0]) ?_ 0 _ rfl; (with_reducible repeat first|apply qN|apply qD|apply qA); exact BK502.out) Try.underlying36 rfl (by kernel_rfl)) rfl ?_
  exact ⟨_, by first | rfl | (simp [errW_none, errW_some] <;> rfl) | (simp [*, errW_none, errW_some] <;> rfl), by first | exact Kd.S_nil _ _ _ _ _ | exact Kd.N_nil _ _ _ _ _ | exact Kd.V_nil _ _ _ _ _ | exact Kd.Q_nil _ _ _ _ _ | exact Kd.R_nil _ _ _ _ _, by exact bq⟩

def impl_MirrorMatching.l0 : Nat → List Int → List Int → Int → Int → Int → Option (List Int × Bool)
 | 0, _, _, _, _, _ => none
 | k + 1, x0, x4, x5, x15, x16 => if x16 < x15 then (if 0 ≤ (wrap64 (x5 - x16)) then (if (wrap64 (x5 - x16)) < (x0.length : Int) then (if x4.length < 17592186044416 then (impl_MirrorMatching.l0 k x0 (x4 ++ [wrap64 (x5 - (rd x0 (wrap64 (x5 - x16))))]) x5 x15 (wrap64 (x16 + 1))) else (none)) else (none)) else (none)) else (some (x4, true))
def impl_MirrorMatching.f (k : Nat) (l0 : List Int) : Option (List Int × Bool) := (impl_IsMatching.f k l0).bind fun t516 => (if t516 = true then (impl_MirrorMatching.l0 k l0 (([] : List Int)) (wrap64 ((l0.length : Int) - 1)) (l0.length : Int) 0) else (some (([] : List Int), false)))
theorem impl_MirrorMatching.mono_l : ∀ k, (∀ y0 y1 y2 y3 y4, LeO (impl_MirrorMatching.l0 k y0 y1 y2 y3 y4) (impl_MirrorMatching.l0 (k + 1) y0 y1 y2 y3 y4))
 | 0 => fun _ _ _ _ _ r h => by simp [impl_MirrorMatching.l0] at h
 | k + 1 => by
  have ih0 := impl_MirrorMatching.mono_l k
  ·intro y0 y1 y2 y3 y4
   unfold impl_MirrorMatching.l0
   repeat' first | with_reducible first | exact ih0 _ _ _ _ _ | exact impl_IsMatching.mono _ _ | exact LeO.refl _ | exact LeO.none _ | refine LeO.ite ?_ ?_ | refine LeO.bind ?_ (fun _ => ?_)
theorem impl_MirrorMatching.mono : ∀ a0 k, LeO (impl_MirrorMatching.f k a0) (impl_MirrorMatching.f (k + 1) a0) := by
 intro a0 k
 have ih0 := impl_MirrorMatching.mono_l k
 unfold impl_MirrorMatching.f
 repeat' first | with_reducible first | exact ih0 _ _ _ _ _ | exact impl_IsMatching.mono _ _ | exact LeO.refl _ | exact LeO.none _ | refine LeO.ite ?_ ?_ | refine LeO.bind ?_ (fun _ => ?_)
set_option maxHeartbeats 8000000 in
set_option maxRecDepth 100000 in
theorem impl_MirrorMatching.calls (k : Nat) (A0 : Option Addr) (c0 : Nat) (l0 : List Int) (r1 : List Int) (r2 : Bool) (w : World) (hr0 : Kd.C (Kd.int .i64) w A0 l0.length l0) (hc0 : l0.length ≤ c0) (h : impl_MirrorMatching.f k l0 = some (r1, r2)) :
  Calls Try.prog 45 #[.slice A0 l0.length c0] w fun e w' => ∃ v0_ : Value, e = .returned (.tuple #[v0_, .bool r2]) ∧ Kd.R (Kd.int .i64) 3 w' w.heap.size (fun _ => True) v0_ r1 ∧ Below w.heap.size w w' := by
 have HR0 := aM hr0
 have HC0 := aM hc0
 clear hr0 hc0
 have HB := aM (Below.refl w.heap.size w)
 have H : ((impl_IsMatching.f k l0).bind fun t516 => (if t516 = true then (impl_MirrorMatching.l0 k l0 (([] : List Int)) (wrap64 ((l0.length : Int) - 1)) (l0.length : Int) 0) else (some (([] : List Int), false)))) = some (r1, r2) := h
 clear h
 replace H := Option.bind_eq_some_iff.mp H
 obtain ⟨t516, A20, H⟩ := H
 replace H : (if t516 = true then (impl_MirrorMatching.l0 k l0 (([] : List Int)) (wrap64 ((l0.length : Int) - 1)) (l0.length : Int) 0) else (some (([] : List Int), false))) = some (r1, r2) := H
 have A2 := aM A20
 clear A20
 by_cases c3 : t516 = true
 ·subst c3
  have H1 : (impl_MirrorMatching.l0 k l0 (([] : List Int)) (wrap64 ((l0.length : Int) - 1)) (l0.length : Int) 0) = some (r1, r2) := by rw [if_pos rfl] at H; exact H
  clear H
  have H := H1
  clear H1
  obtain ⟨y517, hy517⟩ : ∃ y_ : List Int, y_ = (([] : List Int)) := ⟨_, rfl⟩
  replace H : (impl_MirrorMatching.l0 k l0 y517 (wrap64 ((l0.length : Int) - 1)) (l0.length : Int) 0) = some (r1, r2) := by first | (rw [hy517]; with_reducible exact H) | (have H2_ := (Option.bind_some _ _).symm.trans H; rw [hy517]; with_reducible exact H2_) | (have H2_ := (Option.bind_some _ _).symm.trans H; with_reducible exact H2_) | with_reducible exact H | (rw [hy517]; exact H) | exact H
  have Ny517 := aM hy517
  clear hy517
  have H' := aM H
  clear H
  go_enter Try.func45, Try.ntmps45
  go_wp2_with (first | ((with_reducible refine gate_callee (f := 15) rfl ?_); refine gL (some 8) Try.func15 #[.slice A0 l0.length c0] ?_; (with_reducible refine (impl_IsMatching.calls k _ _ l0 true _ (cQ HR0.out) HC0.out A2.out).mono ?_); rintro e w' ⟨rfl, ⟨nd, rfl⟩⟩; refine ⟨_, rfl, ?_⟩) | ((with_reducible refine gate_dst (N := 10) rfl ?_); refine Kd.R_lit (Kd.int .i64) _ 3 ?hg (N := 10) ?hd (xs := ([] : List Int)) (inner := []) (ok := fun _ => True) (okp := fun _ => True) ?hr ?hp (fun _ hk => hk) trivial (Below.refl _ _) (Nat.le_refl _) (by simp) ?_; (case hd => rfl); (case hg => rfl); (case hr => first | (go_simp; done) | (go_simp; rfl)); (case hp => exact (Reps.none _ _)); intro v518 w4 ho5 hb hg_ hnew_; clear hg_ hnew_; (first | rw [← Ny517.out] at ho5 | (simp only [Int.reduceToNat] at ho5; rw [← Ny517.out] at ho5)); have _ := aM (Kd.R_lower ho5 (below_size bq)); have _ := aM (below_step bq hb); clear HB; rename_i HO519 HB; clear hb ho5))
  go_loopg [4, 16] k (fun kq v4 v16 w' => ∃ (x4_1 : List Int) (x16_1 : Int), v16 = .int .i64 x16_1 ∧ Aside0 (impl_MirrorMatching.l0 kq l0 x4_1 (wrap64 ((l0.length : Int) - 1)) (l0.length : Int) x16_1 = some (r1, r2)) ∧ Aside0 (kq ≤ k) ∧ Aside0 (Kd.R (Kd.int .i64) 3 w' w.heap.size (fun _ => True) v4 x4_1) ∧ Aside0 (Below w.heap.size w w'))
  case atStart => exact ⟨(y517), (0), (by first | rfl | (simp; done) | (simp [*]; done)), H', ⟨Nat.le_refl _⟩, ⟨by (with_reducible repeat first|apply rA|apply rN|apply rD); exact HO519.out⟩, ⟨by exact bq⟩⟩
  case round =>
   clear H'
   try clear c1
   try clear p2
   try clear c3
   try clear c4
   obtain ⟨x4_1, x16_1, rfl, HA, HK1, HO_4, HB⟩ := hrel
   cases gk with
   | zero => exact absurd HA.out (by simp [impl_MirrorMatching.l0])
   | succ k1 =>
    have H := HA.out
    clear HA
    simp only [impl_MirrorMatching.l0] at H
    by_cases c6 : x16_1 < (l0.length : Int)
    ·rw [if_pos c6] at H
     have c6b0 : decide (x16_1 < (l0.length : Int)) = true := decide_eq_true c6
     clear c6
     obtain ⟨ji7, hji7⟩ : ∃ j_ : Int, (wrap64 ((wrap64 ((l0.length : Int) - 1)) - x16_1)) = j_ := ⟨_, rfl⟩
     replace H : (if 0 ≤ (ji7) then (if (ji7) < (l0.length : Int) then (if x4_1.length < 17592186044416 then (impl_MirrorMatching.l0 k1 l0 (x4_1 ++ [wrap64 ((wrap64 ((l0.length : Int) - 1)) - (rd l0 (ji7)))]) (wrap64 ((l0.length : Int) - 1)) (l0.length : Int) (wrap64 (x16_1 + 1))) else (none)) else (none)) else (none)) = some (r1, r2) := by first | (rw [hji7] at H; exact H) | (simp only [hji7] at H ⊢; exact H)
     have hji7w : (IntKind.i64.wrap ((wrap64 ((l0.length : Int) - 1)) - x16_1)) = ji7 := (i64_w _).trans hji7
     by_cases c8 : 0 ≤ (ji7)
     ·rw [if_pos c8] at H
      have c8b0 : decide (0 ≤ (ji7)) = true := decide_eq_true c8
      clear c8
      by_cases c9 : (ji7) < (l0.length : Int)
      ·rw [if_pos c9] at H
       have c9b0 : decide ((ji7) < (l0.length : Int)) = true := decide_eq_true c9
       clear c9
       by_cases c10 : x4_1.length < 17592186044416
       ·rw [if_pos c10] at H
        have LMc10 := aM c10
        clear c10
        obtain ⟨y521, hy521⟩ : ∃ y_ : List Int, y_ = (x4_1 ++ [wrap64 ((wrap64 ((l0.length : Int) - 1)) - (rd l0 (ji7)))]) := ⟨_, rfl⟩
        replace H : (impl_MirrorMatching.l0 k1 l0 y521 (wrap64 ((l0.length : Int) - 1)) (l0.length : Int) (wrap64 (x16_1 + 1))) = some (r1, r2) := by first | (rw [hy521]; with_reducible exact H) | (have H2_ := (Option.bind_some _ _).symm.trans H; rw [hy521]; with_reducible exact H2_) | (have H2_ := (Option.bind_some _ _).symm.trans H; with_reducible exact H2_) | with_reducible exact H | (rw [hy521]; exact H) | exact H
        have Ny521 := aM hy521
        clear hy521
        have H' := aM H
        clear H
        have p520 : 0 ≤ ((ji7) : Int) := odt
        have q520 : (ji7) < (l0.length : Int) := odt
        obtain ⟨ad520, e520, hx520_0⟩ := Kd.at_int HR0.out (ji7) p520 q520
        cases e520
        replace hx520_0 := (HB.out.cell (World.block_lt_of_cell? w _ hx520_0)).trans hx520_0
        replace p520 := eq_true p520
        replace q520 := eq_true q520
        go_wp2_with (first | ((with_reducible refine gate_builtin (b := .append) (xs := #[.tmp 19, .tmp 28]) rfl ?_); at_builtin; refine Kd.R_append (Kd.int .i64) (w0 := w) w.heap.size rfl (.tmp 19) (.tmp 28) 24 3 (.int .i64 0) 8 rfl Try.underlying24 info3 rfl (by decide) (by omega) u4 x4_1 (wrap64 ((wrap64 ((l0.length : Int) - 1)) - (rd l0 (ji7)))) [.int .i64 (wrap64 ((wrap64 ((l0.length : Int) - 1)) - (rd l0 (ji7))))] (fun _ => True) (fun _ => False) rfl rfl ?aP (fun _ hk => hk.elim) ?aF ?aO ?aB ?aS ?aL ?_; (case aP => exact rfl); (case aB => exact bq); (case aF => exact (fun _ _ => trivial)); (case aO => exact (rQ HO_4)); (case aS => exact (below_size bq)); (case aL => have := LMc10.out; omega); intro v522 w11 ho hb hg hat; rw [← Ny521.out] at ho; have _ := aM (hb); have _ := aM (ho); clear HB HO_4; rename_i HB HO523; clear ho hb hg hat))
        go_roundg k1
        case measure => have := HK1.out; omega
        case rel => exact ⟨(y521), (wrap64 (x16_1 + 1)), (by first | rfl | (simp; done) | (simp [*]; done)), H', ⟨by have := HK1.out; omega⟩, ⟨by (with_reducible repeat first|apply rA|apply rN|apply rD); exact HO523.out⟩, ⟨by exact bq⟩⟩
       ·rw [if_neg c10] at H
        exact absurd H (by simp)
      ·rw [if_neg c9] at H
       exact absurd H (by simp)
     ·rw [if_neg c8] at H
      exact absurd H (by simp)
    ·rw [if_neg c6] at H
     have c6b0 : decide (x16_1 < (l0.length : Int)) = false := decide_eq_false c6
     clear c6
     simp only [Option.some.injEq, Prod.mk.injEq] at H
     obtain ⟨rfl, rfl⟩ := H
     go_wp2
     go_ret2
     exact ⟨_, by first | rfl | (simp [errW_none, errW_some] <;> rfl) | (simp [*, errW_none, errW_some] <;> rfl), by (with_reducible repeat first|apply rA|apply rN|apply rD); exact HO_4.out, by exact bq⟩
 ·replace c3 := Bool.eq_false_iff.mpr c3
  subst c3
  have H1 : (some (([] : List Int), false)) = some (r1, r2) := by rw [if_neg (show ¬ (false = true) by decide)] at H; exact H
  clear H
  have H := H1
  clear H1
  simp only [Option.some.injEq, Prod.mk.injEq] at H
  obtain ⟨rfl, rfl⟩ := H
  go_enter Try.func45, Try.ntmps45
  go_wp2_with (first | ((with_reducible refine gate_callee (f := 15) rfl ?_); refine gL (some 8) Try.func15 #[.slice A0 l0.length c0] ?_; (with_reducible refine (impl_IsMatching.calls k _ _ l0 false _ (cQ HR0.out) HC0.out A2.out).mono ?_); rintro e w' ⟨rfl, ⟨nd, rfl⟩⟩; refine ⟨_, rfl, ?_⟩))
  go_ret2
  exact ⟨_, by first | rfl | (simp [errW_none, errW_some] <;> rfl) | (simp [*, errW_none, errW_some] <;> rfl), by first | exact Kd.R_nil _ _ _ _ _ | exact Kd.N_nil _ _ _ _ _ | exact Kd.V_nil _ _ _ _ _ | exact Kd.Q_nil _ _ _ _ _ | exact Kd.S_nil _ _ _ _ _, by exact bq⟩

end Go.Proofs.Ytacdlipojhoilaa.Zx
