-- Written by hook.py (wip/), over the kit's print.py.
import Derived.Test.YtjmmleofnjcjoaaGreatDoorDu2
import Derived.Test.YtjmmleofnjcjoaaGreatDoorDuXSq
namespace Go.Proofs.YtjmmleofnjcjoaaGreatDoor.Du
open Go.RowKit Go.Proofs.YtjmmleofnjcjoaaGreatDoorW.PrintWords Go.Proofs.YtjmmleofnjcjoaaGreatDoorW.PrintLast Go.Proofs.YtjmmleofnjcjoaaGreatDoorW.PrintMore Go.Proofs.YtjmmleofnjcjoaaGreatDoor.Sq
attribute [local go_sem] max2_int min2_int max_two min_two max_three min_three max_four min_four
set_option linter.unusedVariables false
set_option linter.unusedSimpArgs false
set_option maxHeartbeats 8000000
set_option maxRecDepth 100000
mutual
def Y18.l0 : Nat → List (S130) → Int → List Int → Int → Int → Option ((List (S130)) × Int × Int)
 | 0, _, _, _, _, _ => none
 | k + 1, x5, x6, x1000, x1001, x1002 => if x6 > 0 then ((Y8.f x1000 x1001 x1002 8).bind fun bt237 => ((Y8.f x1000 bt237.2.1 bt237.2.2 4).bind fun bt240 => (if x5.length < 8796093022208 then (Y18.l0 k (x5 ++ [(⟨wrap64 (bt237.1 - 1), wrap64 ((wrap64 (bt237.1 - 1)) + bt240.1)⟩ : S130)]) (wrap64 (x6 - 1)) x1000 bt240.2.1 bt240.2.2) else (none)))) else ((Y8.f x1000 x1001 x1002 14).bind fun bt246 => (if bt246.1 = 0 then ((Y46.f x1000 bt246.2.1 bt246.2.2 (([(-1001), (-1000), 1, 1000] : List Int))).bind fun bt252 => ((Y46.f x1000 bt252.2.1 bt252.2.2 (([0, 1000, 1001] : List Int))).bind fun bt258 => (if x5.length < 8796093022208 then (some ((x5 ++ [(⟨bt252.1, bt258.1⟩ : S130)]), bt258.2.1, bt258.2.2)) else (none)))) else (if bt246.1 = 1 then (Y18.l1 k ([] : List (S130)) x1000 bt246.2.1 bt246.2.2) else (some (x5, bt246.2.1, bt246.2.2)))))
def Y18.l1 : Nat → List (S130) → List Int → Int → Int → Option ((List (S130)) × Int × Int)
 | 0, _, _, _, _ => none
 | k + 1, x5, x1000, x1001, x1002 => (Y8.f x1000 x1001 x1002 2).bind fun bt264 => (if (x5.length : Int) < (wrap64 (10 + bt264.1)) then (if x5.length < 8796093022208 then (Y18.l1 k (x5 ++ [(⟨wrap64 ((x5.length : Int) / 2), 3⟩ : S130)]) x1000 bt264.2.1 bt264.2.2) else (none)) else (some (x5, bt264.2.1, bt264.2.2)))
end
def Y18.f (k : Nat) (s0_0 : List Int) (s0_1 : Int) (s0_2 : Int) (a1 : Int) : Option ((List (S130)) × Int × Int) := (Y8.f s0_0 s0_1 s0_2 (wrap64 (a1 + 1))).bind fun bt234 => (Y18.l0 k ([] : List (S130)) bt234.1 s0_0 bt234.2.1 bt234.2.2)
theorem Y18.calls (k : Nat) (g : Nat) (s0_0 : List Int) (s0_1 : Int) (s0_2 : Int) (a1 : Int) (r1 : List (S130)) (r2 : Int) (r3 : Int) (w0 w : World) (hI : IsS70 w0 w g s0_0 s0_1 s0_2) (hB : Below w0.heap.size w0 w) (h : Y18.f k s0_0 s0_1 s0_2 a1 = some (r1, r2, r3)) :
  Calls Tryz.prog 142 #[.pointer (some ⟨g, 0, none⟩), .int .i64 a1] w fun e w' => ∃ v0_ : Value, e = .returned (v0_) ∧ Kd.R k130 130 w' w.heap.size (fun _ => True) v0_ r1 ∧ IsS70 w0 w' g s0_0 r2 r3 ∧ Below w0.heap.size w0 w' ∧ KeepBut w w' g none := by
 have hu130 := Tryz.underlying130
 have HI0 := aM hI
 have HK := aM (KeepBut.refl w g none)
 have HL := aM hB.size
 clear hI
 have HW0 := aM hB.size
 have HB := aM hB
 clear hB
 unfold Y18.f at h
 have H := h
 clear h
 replace H := bS H
 obtain ⟨⟨t234, t235, t236⟩, A3, H⟩ := H
 try dsimp only at H
 have H' := aM H
 clear H
 go_enter Tryz.func142, Tryz.ntmps142
 go_wp2_with (first | ((with_reducible refine gate_callee (f := 107) rfl ?_); refine gL (some 11) Tryz.func107 #[.pointer (some ⟨g, 0, none⟩), .int .i64 (wrap64 (a1 + 1))] ?_; (with_reducible refine (Y8.calls g s0_0 s0_1 s0_2 (wrap64 (a1 + 1)) t234 t235 t236 w0 _ ?side1 ?side2 A3.out).mono ?_); (case side1 => exact iI); (case side2 => exact bI); rintro e w4 ⟨rfl, hi, hb, hk⟩; refine ⟨_, rfl, ?_⟩; have _ := aM (KeepBut.trans (kI (w := w)) hk (.inl rfl)); have _ := aM (hb); have _ := aM (hi); clear HK HB HI0; rename_i HK HB HI0; (try clear hb); (try clear hk); (try clear hi)))
 go_loopg [5, 6] k (fun kq v5 v6 w' => ∃ (x5_1 : List (S130)) (x6_1 : Int) (x1001_1 : Int) (x1002_1 : Int), v6 = .int .i64 x6_1 ∧ Aside0 (Y18.l0 kq x5_1 x6_1 s0_0 x1001_1 x1002_1 = some (r1, r2, r3)) ∧ Aside0 (kq ≤ k) ∧ Aside0 (Kd.R k130 130 w' w.heap.size (fun _ => True) v5 x5_1) ∧ Aside0 (IsS70 w0 w' g s0_0 x1001_1 x1002_1) ∧ Aside0 (KeepBut w w' g none) ∧ Aside0 (Below w0.heap.size w0 w'))
 case atStart => exact ⟨(([] : List (S130))), (t234), (t235), (t236), eR, H', ⟨Nat.le_refl _⟩, ⟨by first | exact Kd.R_nil _ _ _ _ _ | exact Kd.N_nil _ _ _ _ _ | exact Kd.V_nil _ _ _ _ _ | exact Kd.Q_nil _ _ _ _ _ | exact Kd.S_nil _ _ _ _ _⟩, ⟨iI⟩, ⟨kI⟩, ⟨bI⟩⟩
 case round =>
  clear H'
  obtain ⟨x5_1, x6_1, x1001_1, x1002_1, rfl, HA, HK1, HO_5, HI0, HK, HB⟩ := hrel
  cases gk with
  | zero => exact absurd HA.out (by simp [Y18.l0])
  | succ k1 =>
   have H := HA.out
   clear HA
   simp only [Y18.l0] at H
   by_cases c5 : x6_1 > 0
   ·rw [if_pos c5] at H
    have c5b0 := decide_eq_true c5
    clear c5
    replace H := bS H
    obtain ⟨⟨t237, t238, t239⟩, A6, H⟩ := H
    try dsimp only at H
    replace H := bS H
    obtain ⟨⟨t240, t241, t242⟩, A7, H⟩ := H
    try dsimp only at H
    replace H := iS H
    obtain ⟨c8, H⟩ := H
    have LMc8 := aM c8
    clear c8
    obtain ⟨y243, hy243⟩ := nE ((x5_1 ++ [(⟨wrap64 (t237 - 1), wrap64 ((wrap64 (t237 - 1)) + t240)⟩ : S130)]) : List (S130))
    try rw [← hy243] at H
    try with_reducible replace H := (Option.bind_some _ _).symm.trans H
    try dsimp only at H
    have Ny243 := aM hy243
    clear hy243
    have H' := aM H
    clear H
    go_wp2_with (first | ((with_reducible refine gate_callee (f := 107) rfl ?_); refine gL (some 17) Tryz.func107 #[.pointer (some ⟨g, 0, none⟩), .int .i64 8] ?_; (with_reducible refine (Y8.calls g s0_0 x1001_1 x1002_1 8 t237 t238 t239 w0 _ ?side1 ?side2 A6.out).mono ?_); (case side1 => exact iI); (case side2 => exact bI); rintro e w9 ⟨rfl, hi, hb, hk⟩; refine ⟨_, rfl, ?_⟩; have _ := aM (Kd.R_mono (Kd.R_keep (IsS70.apart (show IsS70 w0 _ g s0_0 x1001_1 x1002_1 from iI) (rQ HO_5) (by decide)) hk (fun _ h => h.2)) (fun _ h => h.1)); have _ := aM (KeepBut.trans (kI (w := w)) hk (.inl rfl)); have _ := aM (hb); have _ := aM (hi); clear HO_5 HK HB HI0; rename_i HO_5 HK HB HI0; (try clear hb); (try clear hk); (try clear hi)) | ((with_reducible refine gate_callee (f := 107) rfl ?_); refine gL (some 23) Tryz.func107 #[.pointer (some ⟨g, 0, none⟩), .int .i64 4] ?_; (with_reducible refine (Y8.calls g s0_0 t238 t239 4 t240 t241 t242 w0 _ ?side1 ?side2 A7.out).mono ?_); (case side1 => exact iI); (case side2 => exact bI); rintro e w10 ⟨rfl, hi, hb, hk⟩; refine ⟨_, rfl, ?_⟩; have _ := aM (Kd.R_mono (Kd.R_keep (IsS70.apart (show IsS70 w0 _ g s0_0 t238 t239 from iI) (rQ HO_5) (by decide)) hk (fun _ h => h.2)) (fun _ h => h.1)); have _ := aM (KeepBut.trans (kI (w := w)) hk (.inl rfl)); have _ := aM (hb); have _ := aM (hi); clear HO_5 HK HB HI0; rename_i HO_5 HK HB HI0; (try clear hb); (try clear hk); (try clear hi)) | ((with_reducible refine gate_builtin (b := .append) (xs := #[.tmp 19, .tmp 26]) rfl ?_); at_builtin; refine Kd.R_append k130 w.heap.size rfl (.tmp 19) (.tmp 26) 122 130 (.agg #[(.int .i64 0), (.int .i64 0)]) 16 rfl Tryz.underlying122 info130 rfl (by decide) (by omega) u5 x5_1 (⟨wrap64 (t237 - 1), wrap64 ((wrap64 (t237 - 1)) + t240)⟩ : S130) [.int .i64 (wrap64 (t237 - 1)), .int .i64 (wrap64 ((wrap64 (t237 - 1)) + t240))] (fun _ => True) (fun _ => False) rfl rfl ?aP (fun _ hk => hk.elim) ?aF ?aO (Below.refl _ _) ?aS ?aL ?_; (case aP => exact k130_mkM _ _ _ (⟨wrap64 (t237 - 1), wrap64 ((wrap64 (t237 - 1)) + t240)⟩ : S130)); (case aF => exact (fun _ _ => trivial)); (case aO => exact (rQ HO_5)); (case aS => exact (keep_size (w := w) (g := g) (row := none) kI)); (case aL => have := LMc8.out; omega); intro v244 w11 ho hb hg hat; rw [← Ny243.out] at ho; have _ := aM (IsS70.grown iI hg (IsS70.own_ne HI0.out HO_5.out (by decide))); have _ := aM (below_weaken bI HL.out hb); have _ := aM (KeepBut.trans (kI (w := w)) (KeepBut.of_grown hg g) (Kd.R_base2 HO_5.out)); have _ := aM (ho); clear HI0 HB HK HO_5; rename_i HI0 HB HK HO245; clear ho hb hg hat))
    go_roundg k1
    case measure => have := HK1.out; omega
    case rel => exact ⟨(y243), (wrap64 (x6_1 - 1)), (t241), (t242), eR, H', ⟨by have := HK1.out; omega⟩, ⟨rQ HO245⟩, ⟨iI⟩, ⟨kI⟩, ⟨bI⟩⟩
   ·rw [if_neg c5] at H
    have c5b0 := decide_eq_false c5
    clear c5
    replace H := bS H
    obtain ⟨⟨t246, t247, t248⟩, A12, H⟩ := H
    try dsimp only at H
    by_cases c13 : t246 = 0
    ·rw [if_pos c13] at H
     have c13b0 : (t246 == 0) = true := beq_iff_eq.mpr c13
     have c13b1 : (t246 != 0) = false := bne_eq_false_iff_eq.mpr c13
     clear c13
     obtain ⟨y249, hy249⟩ := nE ((([(-1001), (-1000), 1, 1000] : List Int)) : List Int)
     try rw [← hy249] at H
     try with_reducible replace H := (Option.bind_some _ _).symm.trans H
     try dsimp only at H
     have Ny249 := aM hy249
     clear hy249
     replace H := bS H
     obtain ⟨⟨t252, t253, t254⟩, A14, H⟩ := H
     try dsimp only at H
     obtain ⟨y255, hy255⟩ := nE ((([0, 1000, 1001] : List Int)) : List Int)
     try rw [← hy255] at H
     try with_reducible replace H := (Option.bind_some _ _).symm.trans H
     try dsimp only at H
     have Ny255 := aM hy255
     clear hy255
     replace H := bS H
     obtain ⟨⟨t258, t259, t260⟩, A15, H⟩ := H
     try dsimp only at H
     replace H := iS H
     obtain ⟨c16, H⟩ := H
     have LMc16 := aM c16
     clear c16
     obtain ⟨y261, hy261⟩ := nE ((x5_1 ++ [(⟨t252, t258⟩ : S130)]) : List (S130))
     try rw [← hy261] at H
     try with_reducible replace H := (Option.bind_some _ _).symm.trans H
     try dsimp only at H
     have Ny261 := aM hy261
     clear hy261
     simp only [Option.some.injEq, Prod.mk.injEq] at H
     obtain ⟨rfl, rfl, rfl⟩ := H
     go_wp2_with (first | ((with_reducible refine gate_callee (f := 107) rfl ?_); refine gL (some 29) Tryz.func107 #[.pointer (some ⟨g, 0, none⟩), .int .i64 14] ?_; (with_reducible refine (Y8.calls g s0_0 x1001_1 x1002_1 14 t246 t247 t248 w0 _ ?side1 ?side2 A12.out).mono ?_); (case side1 => exact iI); (case side2 => exact bI); rintro e w17 ⟨rfl, hi, hb, hk⟩; refine ⟨_, rfl, ?_⟩; have _ := aM (Kd.R_mono (Kd.R_keep (IsS70.apart (show IsS70 w0 _ g s0_0 x1001_1 x1002_1 from iI) (rQ HO_5) (by decide)) hk (fun _ h => h.2)) (fun _ h => h.1)); have _ := aM (KeepBut.trans (kI (w := w)) hk (.inl rfl)); have _ := aM (hb); have _ := aM (hi); clear HO_5 HK HB HI0; rename_i HO_5 HK HB HI0; (try clear hb); (try clear hk); (try clear hi)) | ((with_reducible refine gate_dst (N := 34) rfl ?_); refine Kd.R_lit (Kd.int .i64) _ 3 ?hg (N := 34) ?hd (xs := ([(-1001), (-1000), 1, 1000] : List Int)) (inner := [.int .i64 (-1001), .int .i64 (-1000), .int .i64 1, .int .i64 1000]) (ok := fun _ => True) (okp := fun _ => True) ?hr ?hp (fun _ hk => hk) trivial (Below.refl _ _) (Nat.le_refl _) (by simp) ?_; (case hd => rfl); (case hg => rfl); (case hr => first | (go_simp; done) | (go_simp; rfl)); (case hp => exact (Reps.one (show Kd.M (Kd.int .i64) _ _ _ (-1001) [.int .i64 (-1001)] from rfl) (Reps.one (show Kd.M (Kd.int .i64) _ _ _ (-1000) [.int .i64 (-1000)] from rfl) (Reps.one (show Kd.M (Kd.int .i64) _ _ _ 1 [.int .i64 1] from rfl) (Reps.one (show Kd.M (Kd.int .i64) _ _ _ 1000 [.int .i64 1000] from rfl) (Reps.none _ _)))))); intro v250 w18 ho19 hb hg_ hnew_; clear hg_ hnew_; (first | rw [← Ny249.out] at ho19 | (simp only [Int.reduceToNat] at ho19; rw [← Ny249.out] at ho19)); have _ := aM (Kd.R_below (rQ HO_5) hb); have _ := aM (Kd.R_lower ho19 (keep_size (w := w) (g := g) (row := none) kI)); have _ := aM (IsS70.below iI hb); have _ := aM (KeepBut.trans (kI (w := w)) (KeepBut.of_below hb g none) (.inl rfl)); have _ := aM (below_step (bI (w0 := w0)) hb); clear HO_5 HI0 HK HB; rename_i HO_5 HO251 HI0 HK HB; clear hb ho19; obtain ⟨Ao20, co20, eo20⟩ := Kd.R_slice HO251.out; subst eo20) | ((with_reducible refine gate_callee (f := 109) rfl ?_); refine gL (some 35) Tryz.func109 #[.pointer (some ⟨g, 0, none⟩), .slice Ao20 y249.length co20] ?_; (with_reducible refine (Y46.calls g s0_0 t247 t248 _ _ y249 t252 t253 t254 w0 _ ?side1 ?side2 ?side3 ?side4 ?side5 A14.out).mono ?_); (case side1 => exact iI); (case side2 => exact bI); (case side3 => repeat (first | exact (Kd.R_reads' HO251.out).2.2 | (with_reducible refine Kd.C_alloc ?_ _) | (with_reducible refine Kd.C_drewN ?_ _) | (with_reducible refine Kd.C_drew ?_))); (case side4 => exact (Kd.R_reads' HO251.out).2.1); (case side5 => exact far_slice (IsS70.own_ne HI0.out HO251.out (by decide))); rintro e w21 ⟨rfl, hi, hb, hk⟩; refine ⟨_, rfl, ?_⟩; have _ := aM (Kd.R_mono (Kd.R_keep (IsS70.apart (show IsS70 w0 _ g s0_0 t247 t248 from iI) (rQ HO_5) (by decide)) hk (fun _ h => h.2)) (fun _ h => h.1)); have _ := aM (Kd.R_mono (Kd.R_keep (IsS70.apart (show IsS70 w0 _ g s0_0 t247 t248 from iI) (rQ HO251) (by decide)) hk (fun _ h => h.2)) (fun _ h => h.1)); have _ := aM (KeepBut.trans (kI (w := w)) hk (.inl rfl)); have _ := aM (hb); have _ := aM (hi); clear HO_5 HO251 HK HB HI0; rename_i HO_5 HO251 HK HB HI0; (try clear hb); (try clear hk); (try clear hi)) | ((with_reducible refine gate_dst (N := 37) rfl ?_); refine Kd.R_lit (Kd.int .i64) _ 3 ?hg (N := 37) ?hd (xs := ([0, 1000, 1001] : List Int)) (inner := [.int .i64 0, .int .i64 1000, .int .i64 1001]) (ok := fun _ => True) (okp := fun _ => True) ?hr ?hp (fun _ hk => hk) trivial (Below.refl _ _) (Nat.le_refl _) (by simp) ?_; (case hd => rfl); (case hg => rfl); (case hr => first | (go_simp; done) | (go_simp; rfl)); (case hp => exact (Reps.one (show Kd.M (Kd.int .i64) _ _ _ 0 [.int .i64 0] from rfl) (Reps.one (show Kd.M (Kd.int .i64) _ _ _ 1000 [.int .i64 1000] from rfl) (Reps.one (show Kd.M (Kd.int .i64) _ _ _ 1001 [.int .i64 1001] from rfl) (Reps.none _ _))))); intro v256 w22 ho23 hb hg_ hnew_; clear hg_ hnew_; (first | rw [← Ny255.out] at ho23 | (simp only [Int.reduceToNat] at ho23; rw [← Ny255.out] at ho23)); have _ := aM (Kd.R_below (rQ HO_5) hb); have _ := aM (Kd.R_elder' (rQ HO251) (Kd.R_base ho23) hb); have _ := aM (Kd.R_lower (Kd.R_new' ho23 (Kd.R_lt (rQ HO251))) (keep_size (w := w) (g := g) (row := none) kI)); have _ := aM (IsS70.below iI hb); have _ := aM (KeepBut.trans (kI (w := w)) (KeepBut.of_below hb g none) (.inl rfl)); have _ := aM (below_step (bI (w0 := w0)) hb); clear HO_5 HO251 HI0 HK HB; rename_i HO_5 HO251 HO257 HI0 HK HB; clear hb ho23; obtain ⟨Ao24, co24, eo24⟩ := Kd.R_slice HO257.out; subst eo24) | ((with_reducible refine gate_callee (f := 109) rfl ?_); refine gL (some 38) Tryz.func109 #[.pointer (some ⟨g, 0, none⟩), .slice Ao24 y255.length co24] ?_; (with_reducible refine (Y46.calls g s0_0 t253 t254 _ _ y255 t258 t259 t260 w0 _ ?side1 ?side2 ?side3 ?side4 ?side5 A15.out).mono ?_); (case side1 => exact iI); (case side2 => exact bI); (case side3 => repeat (first | exact (Kd.R_reads' HO257.out).2.2 | (with_reducible refine Kd.C_alloc ?_ _) | (with_reducible refine Kd.C_drewN ?_ _) | (with_reducible refine Kd.C_drew ?_))); (case side4 => exact (Kd.R_reads' HO257.out).2.1); (case side5 => exact far_slice (IsS70.own_ne HI0.out HO257.out (by decide))); rintro e w25 ⟨rfl, hi, hb, hk⟩; refine ⟨_, rfl, ?_⟩; have _ := aM (Kd.R_mono (Kd.R_keep (IsS70.apart (show IsS70 w0 _ g s0_0 t253 t254 from iI) (rQ HO_5) (by decide)) hk (fun _ h => h.2)) (fun _ h => h.1)); have _ := aM (Kd.R_mono (Kd.R_keep (IsS70.apart (show IsS70 w0 _ g s0_0 t253 t254 from iI) (rQ HO251) (by decide)) hk (fun _ h => h.2)) (fun _ h => h.1)); have _ := aM (Kd.R_mono (Kd.R_keep (IsS70.apart (show IsS70 w0 _ g s0_0 t253 t254 from iI) (rQ HO257) (by decide)) hk (fun _ h => h.2)) (fun _ h => h.1)); have _ := aM (KeepBut.trans (kI (w := w)) hk (.inl rfl)); have _ := aM (hb); have _ := aM (hi); clear HO_5 HO251 HO257 HK HB HI0; rename_i HO_5 HO251 HO257 HK HB HI0; (try clear hb); (try clear hk); (try clear hi)) | ((with_reducible refine gate_builtin (b := .append) (xs := #[.tmp 32, .tmp 40]) rfl ?_); at_builtin; refine Kd.R_append k130 w.heap.size rfl (.tmp 32) (.tmp 40) 122 130 (.agg #[(.int .i64 0), (.int .i64 0)]) 16 rfl Tryz.underlying122 info130 rfl (by decide) (by omega) u5 x5_1 (⟨t252, t258⟩ : S130) [.int .i64 t252, .int .i64 t258] (fun _ => True) (fun _ => False) rfl rfl ?aP (fun _ hk => hk.elim) ?aF ?aO (Below.refl _ _) ?aS ?aL ?_; (case aP => exact k130_mkM _ _ _ (⟨t252, t258⟩ : S130)); (case aF => exact (fun _ _ => trivial)); (case aO => exact (rQ HO_5)); (case aS => exact (keep_size (w := w) (g := g) (row := none) kI)); (case aL => have := LMc16.out; omega); intro v262 w26 ho hb hg hat; rw [← Ny261.out] at ho; have _ := aM (IsS70.grown iI hg (IsS70.own_ne HI0.out HO_5.out (by decide))); have _ := aM (Kd.R_over' (rQ HO251) (Kd.R_typed (rQ HO_5)) (by decide) hg); have _ := aM (Kd.R_over' (rQ HO257) (Kd.R_typed (rQ HO_5)) (by decide) hg); have _ := aM (below_weaken bI HL.out hb); have _ := aM (KeepBut.trans (kI (w := w)) (KeepBut.of_grown hg g) (Kd.R_base2 HO_5.out)); have _ := aM (ho); clear HI0 HO251 HO257 HB HK HO_5; rename_i HI0 HO251 HO257 HB HK HO263; clear ho hb hg hat))
     go_ret
     exact ⟨_, eE, rQ HO263, iI, bI, kI⟩
    ·rw [if_neg c13] at H
     have c13b0 : (t246 == 0) = false := beq_eq_false_iff_ne.mpr c13
     have c13b1 : (t246 != 0) = true := bne_iff_ne.mpr c13
     by_cases c27 : t246 = 1
     ·rw [if_pos c27] at H
      have c27b0 : (t246 == 1) = true := beq_iff_eq.mpr c27
      have c27b1 : (t246 != 1) = false := bne_eq_false_iff_eq.mpr c27
      clear c27
      have H' := aM H
      clear H
      go_wp2_with (first | ((with_reducible refine gate_callee (f := 107) rfl ?_); refine gL (some 29) Tryz.func107 #[.pointer (some ⟨g, 0, none⟩), .int .i64 14] ?_; (with_reducible refine (Y8.calls g s0_0 x1001_1 x1002_1 14 t246 t247 t248 w0 _ ?side1 ?side2 A12.out).mono ?_); (case side1 => exact iI); (case side2 => exact bI); rintro e w28 ⟨rfl, hi, hb, hk⟩; refine ⟨_, rfl, ?_⟩; have _ := aM (Kd.R_mono (Kd.R_keep (IsS70.apart (show IsS70 w0 _ g s0_0 x1001_1 x1002_1 from iI) (rQ HO_5) (by decide)) hk (fun _ h => h.2)) (fun _ h => h.1)); have _ := aM (KeepBut.trans (kI (w := w)) hk (.inl rfl)); have _ := aM (hb); have _ := aM (hi); clear HO_5 HK HB HI0; rename_i HO_5 HK HB HI0; (try clear hb); (try clear hk); (try clear hi)))
      go_loopg [5] k1 (fun kq v5 w' => ∃ (x5_2 : List (S130)) (x1001_2 : Int) (x1002_2 : Int), Aside0 (Y18.l1 kq x5_2 s0_0 x1001_2 x1002_2 = some (r1, r2, r3)) ∧ Aside0 (kq ≤ k1) ∧ Aside0 (Kd.R k130 130 w' w.heap.size (fun _ => True) v5 x5_2) ∧ Aside0 (IsS70 w0 w' g s0_0 x1001_2 x1002_2) ∧ Aside0 (KeepBut w w' g none) ∧ Aside0 (Below w0.heap.size w0 w'))
      case atStart => exact ⟨(([] : List (S130))), (t247), (t248), H', ⟨Nat.le_refl _⟩, ⟨by first | exact Kd.R_nil _ _ _ _ _ | exact Kd.N_nil _ _ _ _ _ | exact Kd.V_nil _ _ _ _ _ | exact Kd.Q_nil _ _ _ _ _ | exact Kd.S_nil _ _ _ _ _⟩, ⟨iI⟩, ⟨kI⟩, ⟨bI⟩⟩
      case round =>
       clear H'
       try clear c5
       try clear c5b0
       try clear c8
       try clear c13
       try clear c13b0
       try clear c13b1
       try clear c16
       try clear c27
       try clear c27b0
       try clear c27b1
       obtain ⟨x5_2, x1001_2, x1002_2, HA, HK2, HO_5, HI0, HK, HB⟩ := hrel
       cases gk with
       | zero => exact absurd HA.out (by simp [Y18.l1])
       | succ k2 =>
        have H := HA.out
        clear HA
        simp only [Y18.l1] at H
        replace H := bS H
        obtain ⟨⟨t264, t265, t266⟩, A29, H⟩ := H
        try dsimp only at H
        by_cases c30 : (x5_2.length : Int) < (wrap64 (10 + t264))
        ·rw [if_pos c30] at H
         have c30b0 := decide_eq_true c30
         clear c30
         replace H := iS H
         obtain ⟨c31, H⟩ := H
         have LMc31 := aM c31
         clear c31
         obtain ⟨y267, hy267⟩ := nE ((x5_2 ++ [(⟨wrap64 ((x5_2.length : Int) / 2), 3⟩ : S130)]) : List (S130))
         try rw [← hy267] at H
         try with_reducible replace H := (Option.bind_some _ _).symm.trans H
         try dsimp only at H
         have Ny267 := aM hy267
         clear hy267
         have H' := aM H
         clear H
         obtain ⟨Ao32, co32, eo32⟩ := Kd.R_slice HO_5.out
         subst eo32
         go_wp2_with (first | ((with_reducible refine gate_callee (f := 107) rfl ?_); refine gL (some 47) Tryz.func107 #[.pointer (some ⟨g, 0, none⟩), .int .i64 2] ?_; (with_reducible refine (Y8.calls g s0_0 x1001_2 x1002_2 2 t264 t265 t266 w0 _ ?side1 ?side2 A29.out).mono ?_); (case side1 => exact iI); (case side2 => exact bI); rintro e w33 ⟨rfl, hi, hb, hk⟩; refine ⟨_, rfl, ?_⟩; have _ := aM (Kd.R_mono (Kd.R_keep (IsS70.apart (show IsS70 w0 _ g s0_0 x1001_2 x1002_2 from iI) (rQ HO_5) (by decide)) hk (fun _ h => h.2)) (fun _ h => h.1)); have _ := aM (KeepBut.trans (kI (w := w)) hk (.inl rfl)); have _ := aM (hb); have _ := aM (hi); clear HO_5 HK HB HI0; rename_i HO_5 HK HB HI0; (try clear hb); (try clear hk); (try clear hi)) | ((with_reducible refine gate_builtin (b := .append) (xs := #[.tmp 50, .tmp 55]) rfl ?_); at_builtin; refine Kd.R_append k130 w.heap.size rfl (.tmp 50) (.tmp 55) 122 130 (.agg #[(.int .i64 0), (.int .i64 0)]) 16 rfl Tryz.underlying122 info130 rfl (by decide) (by omega) (.slice Ao32 x5_2.length co32) x5_2 (⟨wrap64 ((x5_2.length : Int) / 2), 3⟩ : S130) [.int .i64 (wrap64 ((x5_2.length : Int) / 2)), .int .i64 3] (fun _ => True) (fun _ => False) rfl rfl ?aP (fun _ hk => hk.elim) ?aF ?aO (Below.refl _ _) ?aS ?aL ?_; (case aP => exact k130_mkM _ _ _ (⟨wrap64 ((x5_2.length : Int) / 2), 3⟩ : S130)); (case aF => exact (fun _ _ => trivial)); (case aO => exact (rQ HO_5)); (case aS => exact (keep_size (w := w) (g := g) (row := none) kI)); (case aL => have := LMc31.out; omega); intro v268 w34 ho hb hg hat; rw [← Ny267.out] at ho; have _ := aM (IsS70.grown iI hg (IsS70.own_ne HI0.out HO_5.out (by decide))); have _ := aM (below_weaken bI HL.out hb); have _ := aM (KeepBut.trans (kI (w := w)) (KeepBut.of_grown hg g) (Kd.R_base2 HO_5.out)); have _ := aM (ho); clear HI0 HB HK HO_5; rename_i HI0 HB HK HO269; clear ho hb hg hat))
         go_roundg k2
         case measure => have := HK1.out; have := HK2.out; omega
         case rel => exact ⟨(y267), (t265), (t266), H', ⟨by have := HK1.out; have := HK2.out; omega⟩, ⟨rQ HO269⟩, ⟨iI⟩, ⟨kI⟩, ⟨bI⟩⟩
        ·rw [if_neg c30] at H
         have c30b0 := decide_eq_false c30
         clear c30
         simp only [Option.some.injEq, Prod.mk.injEq] at H
         obtain ⟨rfl, rfl, rfl⟩ := H
         obtain ⟨Ao35, co35, eo35⟩ := Kd.R_slice HO_5.out
         subst eo35
         go_wp2_with (first | ((with_reducible refine gate_callee (f := 107) rfl ?_); refine gL (some 47) Tryz.func107 #[.pointer (some ⟨g, 0, none⟩), .int .i64 2] ?_; (with_reducible refine (Y8.calls g s0_0 x1001_2 x1002_2 2 t264 t265 t266 w0 _ ?side1 ?side2 A29.out).mono ?_); (case side1 => exact iI); (case side2 => exact bI); rintro e w36 ⟨rfl, hi, hb, hk⟩; refine ⟨_, rfl, ?_⟩; have _ := aM (Kd.R_mono (Kd.R_keep (IsS70.apart (show IsS70 w0 _ g s0_0 x1001_2 x1002_2 from iI) (rQ HO_5) (by decide)) hk (fun _ h => h.2)) (fun _ h => h.1)); have _ := aM (KeepBut.trans (kI (w := w)) hk (.inl rfl)); have _ := aM (hb); have _ := aM (hi); clear HO_5 HK HB HI0; rename_i HO_5 HK HB HI0; (try clear hb); (try clear hk); (try clear hi)))
         go_ret
         exact ⟨_, eE, rQ HO_5, iI, bI, kI⟩
     ·rw [if_neg c27] at H
      have c27b0 : (t246 == 1) = false := beq_eq_false_iff_ne.mpr c27
      have c27b1 : (t246 != 1) = true := bne_iff_ne.mpr c27
      simp only [Option.some.injEq, Prod.mk.injEq] at H
      obtain ⟨rfl, rfl, rfl⟩ := H
      go_wp2_with (first | ((with_reducible refine gate_callee (f := 107) rfl ?_); refine gL (some 29) Tryz.func107 #[.pointer (some ⟨g, 0, none⟩), .int .i64 14] ?_; (with_reducible refine (Y8.calls g s0_0 x1001_1 x1002_1 14 t246 t247 t248 w0 _ ?side1 ?side2 A12.out).mono ?_); (case side1 => exact iI); (case side2 => exact bI); rintro e w37 ⟨rfl, hi, hb, hk⟩; refine ⟨_, rfl, ?_⟩; have _ := aM (Kd.R_mono (Kd.R_keep (IsS70.apart (show IsS70 w0 _ g s0_0 x1001_1 x1002_1 from iI) (rQ HO_5) (by decide)) hk (fun _ h => h.2)) (fun _ h => h.1)); have _ := aM (KeepBut.trans (kI (w := w)) hk (.inl rfl)); have _ := aM (hb); have _ := aM (hi); clear HO_5 HK HB HI0; rename_i HO_5 HK HB HI0; (try clear hb); (try clear hk); (try clear hi)))
      go_ret
      exact ⟨_, eE, rQ HO_5, iI, bI, kI⟩
def Y34.l0 : Nat → List (S130) → List (S130) → Int → Int → Option (Bool)
 | 0, _, _, _, _ => none
 | k + 1, x0, x5, x6, x7 => if x7 < x6 then (if 0 ≤ x7 then (if x7 < (x5.length : Int) then ((Y30.f ((rd_T130 x5 x7).f0) (-1000) ((rd_T130 x5 x7).f1)).bind fun t272 => (if t272 = true then (if ((rd_T130 x5 x7).f1) > 1000 then (some false) else (Y34.l0 k x0 x5 x6 (wrap64 (x7 + 1)))) else (some false))) else (none)) else (none)) else (some (decide ((x0.length : Int) ≤ 10)))
def Y34.f (k : Nat) (l0 : List (S130)) : Option (Bool) := Y34.l0 k l0 l0 (l0.length : Int) 0
theorem Y34.calls (k : Nat) (A0 : Option Addr) (c0 : Nat) (l0 : List (S130)) (r : Bool) (w : World) (hr0 : Kd.C k130 w A0 l0.length l0) (hc0 : l0.length ≤ c0) (h : Y34.f k l0 = some r) :
  Calls Tryz.prog 143 #[.slice A0 l0.length c0] w fun e w' => e = .returned (.bool r) ∧ Below w.heap.size w w' := by
 have hu130 := Tryz.underlying130
 have HR0 := aM hr0
 have HC0 := aM hc0
 clear hr0 hc0
 have HB := aM (Below.refl w.heap.size w)
 have H : (Y34.l0 k l0 l0 (l0.length : Int) 0) = some r := h
 clear h
 have H' := aM H
 clear H
 go_enter Tryz.func143, Tryz.ntmps143
 go_wp2
 go_loopg [7] k (fun kq v7 w' => ∃ (x7_1 : Int), v7 = .int .i64 x7_1 ∧ Aside0 (Y34.l0 kq l0 l0 (l0.length : Int) x7_1 = some r) ∧ Aside0 (kq ≤ k) ∧ Aside0 (Below w.heap.size w w'))
 case atStart => exact ⟨(0), eR, H', ⟨Nat.le_refl _⟩, ⟨bq⟩⟩
 case round =>
  clear H'
  obtain ⟨x7_1, rfl, HA, HK1, HB⟩ := hrel
  cases gk with
  | zero => exact absurd HA.out (by simp [Y34.l0])
  | succ k1 =>
   have H := HA.out
   clear HA
   simp only [Y34.l0] at H
   by_cases c2 : x7_1 < (l0.length : Int)
   ·rw [if_pos c2] at H
    have c2b0 := decide_eq_true c2
    clear c2
    replace H := iD2 H
    obtain ⟨c3b0, c4b0, H⟩ := H
    replace H := bS H
    obtain ⟨t272, A5, H⟩ := H
    try dsimp only at H
    by_cases c6 : t272 = true
    ·subst c6
     have H1 : (if ((rd_T130 l0 x7_1).f1) > 1000 then (some false) else (Y34.l0 k1 l0 l0 (l0.length : Int) (wrap64 (x7_1 + 1)))) = some r := by rw [if_pos rfl] at H; exact H
     clear H
     have H := H1
     clear H1
     by_cases c7 : ((rd_T130 l0 x7_1).f1) > 1000
     ·rw [if_pos c7] at H
      have c7b0 := decide_eq_true c7
      clear c7
      obtain rfl := Option.some.inj H
      have p270 : 0 ≤ (x7_1 : Int) := odt
      have q270 : x7_1 < (l0.length : Int) := odt
      obtain ⟨ad270, e270, hx270_0, hx270_1⟩ := at_T130 HR0.out x7_1 p270 q270
      cases e270
      replace hx270_0 := (HB.out.cell (World.block_lt_of_cell? w _ hx270_0)).trans hx270_0
      replace hx270_1 := (HB.out.cell (World.block_lt_of_cell? w _ hx270_1)).trans hx270_1
      replace p270 := eq_true p270
      replace q270 := eq_true q270
      go_wp2_with (first | ((with_reducible refine gate_dst (N := 4) rfl ?_); refine bF 4 130 #[.int .i64 0, .int .i64 0] bq ?_; intro gb271 w8 hg hb _ _ _ _; clear HB; rename_i HB BK271 GW271 GE271; clear hb hg; have hcz9_0 := zc20 BK271; have hcz9_1 := zc21 BK271; have hfz9_0 := blk_frozen BK271.out 0; have hfz9_1 := blk_frozen BK271.out 1) | ((with_reducible refine gate_callee (f := 145) rfl ?_); refine gL (some 15) Tryz.func145 #[.int .i64 ((rd_T130 l0 x7_1).f0), .int .i64 (-1000), .int .i64 ((rd_T130 l0 x7_1).f1)] ?_; (with_reducible refine (Y30.calls ((rd_T130 l0 x7_1).f0) (-1000) ((rd_T130 l0 x7_1).f1) true _ A5.out).mono ?_); rintro e w' ⟨rfl, ⟨nd, rfl⟩⟩; refine ⟨_, rfl, ?_⟩))
      go_ret
      exact ⟨eE, bq⟩
     ·rw [if_neg c7] at H
      have c7b0 := decide_eq_false c7
      clear c7
      have H' := aM H
      clear H
      have p270 : 0 ≤ (x7_1 : Int) := odt
      have q270 : x7_1 < (l0.length : Int) := odt
      obtain ⟨ad270, e270, hx270_0, hx270_1⟩ := at_T130 HR0.out x7_1 p270 q270
      cases e270
      replace hx270_0 := (HB.out.cell (World.block_lt_of_cell? w _ hx270_0)).trans hx270_0
      replace hx270_1 := (HB.out.cell (World.block_lt_of_cell? w _ hx270_1)).trans hx270_1
      replace p270 := eq_true p270
      replace q270 := eq_true q270
      go_wp2_with (first | ((with_reducible refine gate_dst (N := 4) rfl ?_); refine bF 4 130 #[.int .i64 0, .int .i64 0] bq ?_; intro gb271 w10 hg hb _ _ _ _; clear HB; rename_i HB BK271 GW271 GE271; clear hb hg; have hcz11_0 := zc20 BK271; have hcz11_1 := zc21 BK271; have hfz11_0 := blk_frozen BK271.out 0; have hfz11_1 := blk_frozen BK271.out 1) | ((with_reducible refine gate_callee (f := 145) rfl ?_); refine gL (some 15) Tryz.func145 #[.int .i64 ((rd_T130 l0 x7_1).f0), .int .i64 (-1000), .int .i64 ((rd_T130 l0 x7_1).f1)] ?_; (with_reducible refine (Y30.calls ((rd_T130 l0 x7_1).f0) (-1000) ((rd_T130 l0 x7_1).f1) true _ A5.out).mono ?_); rintro e w' ⟨rfl, ⟨nd, rfl⟩⟩; refine ⟨_, rfl, ?_⟩))
      go_roundg k1
      case measure => have := HK1.out; omega
      case rel => exact ⟨(wrap64 (x7_1 + 1)), eR, H', ⟨by have := HK1.out; omega⟩, ⟨bq⟩⟩
    ·replace c6 := Bool.eq_false_iff.mpr c6
     subst c6
     have H1 : (some false) = some r := by rw [if_neg (show ¬ (false = true) by decide)] at H; exact H
     clear H
     have H := H1
     clear H1
     obtain rfl := Option.some.inj H
     have p270 : 0 ≤ (x7_1 : Int) := odt
     have q270 : x7_1 < (l0.length : Int) := odt
     obtain ⟨ad270, e270, hx270_0, hx270_1⟩ := at_T130 HR0.out x7_1 p270 q270
     cases e270
     replace hx270_0 := (HB.out.cell (World.block_lt_of_cell? w _ hx270_0)).trans hx270_0
     replace hx270_1 := (HB.out.cell (World.block_lt_of_cell? w _ hx270_1)).trans hx270_1
     replace p270 := eq_true p270
     replace q270 := eq_true q270
     go_wp2_with (first | ((with_reducible refine gate_dst (N := 4) rfl ?_); refine bF 4 130 #[.int .i64 0, .int .i64 0] bq ?_; intro gb271 w12 hg hb _ _ _ _; clear HB; rename_i HB BK271 GW271 GE271; clear hb hg; have hcz13_0 := zc20 BK271; have hcz13_1 := zc21 BK271; have hfz13_0 := blk_frozen BK271.out 0; have hfz13_1 := blk_frozen BK271.out 1) | ((with_reducible refine gate_callee (f := 145) rfl ?_); refine gL (some 15) Tryz.func145 #[.int .i64 ((rd_T130 l0 x7_1).f0), .int .i64 (-1000), .int .i64 ((rd_T130 l0 x7_1).f1)] ?_; (with_reducible refine (Y30.calls ((rd_T130 l0 x7_1).f0) (-1000) ((rd_T130 l0 x7_1).f1) false _ A5.out).mono ?_); rintro e w' ⟨rfl, ⟨nd, rfl⟩⟩; refine ⟨_, rfl, ?_⟩))
     go_ret
     exact ⟨eE, bq⟩
   ·rw [if_neg c2] at H
    have c2b0 := decide_eq_false c2
    clear c2
    obtain rfl := Option.some.inj H
    go_wp2
    go_ret
    exact ⟨eE, bq⟩
end Go.Proofs.YtjmmleofnjcjoaaGreatDoor.Du
