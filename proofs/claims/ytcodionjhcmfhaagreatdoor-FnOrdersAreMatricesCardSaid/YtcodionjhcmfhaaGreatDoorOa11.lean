-- Written by hook.py (wip/), over the kit's print.py.
import Derived.Test.YtcodionjhcmfhaaGreatDoorOa2
import Derived.Test.YtcodionjhcmfhaaGreatDoorOa9
import Derived.Test.YtcodionjhcmfhaaGreatDoorOaXSq
namespace Go.Proofs.YtcodionjhcmfhaaGreatDoor.Oa
open Go.RowKit Go.Proofs.YtcodionjhcmfhaaGreatDoorW.PrintWords Go.Proofs.YtcodionjhcmfhaaGreatDoorW.PrintLast Go.Proofs.YtcodionjhcmfhaaGreatDoorW.PrintMore Go.Proofs.YtcodionjhcmfhaaGreatDoor.Sq
attribute [local go_sem] max2_int min2_int max_two min_two max_three min_three max_four min_four
set_option linter.unusedVariables false
set_option linter.unusedSimpArgs false
set_option maxHeartbeats 8000000
set_option maxRecDepth 100000
mutual
def Y13.j0 : Nat → Int → List Int → Int → Int → Option (List Int × Int × Int)
 | 0, _, _, _, _ => none
 | k + 1, x5, x1000, x1001, x1002 => Y13.l0 k x5 ([] : List Int) x1000 x1001 x1002
def Y13.l0 : Nat → Int → List Int → List Int → Int → Int → Option (List Int × Int × Int)
 | 0, _, _, _, _, _ => none
 | k + 1, x5, x6, x1000, x1001, x1002 => if (x6.length : Int) < x5 then ((Y50.f k x6).bind fun t221 => ((Y10.f x1000 x1001 x1002 (wrap64 (t221 + 1))).bind fun bt222 => ((Y59.f x1000 bt222.2.1 bt222.2.2 3).bind fun bt225 => (if bt225.1 = true then (if x6.length < 17592186044416 then (Y13.l0 k x5 (x6 ++ [t221]) x1000 bt225.2.1 bt225.2.2) else (none)) else (if x6.length < 17592186044416 then (Y13.l0 k x5 (x6 ++ [bt222.1]) x1000 bt225.2.1 bt225.2.2) else (none)))))) else ((Y10.f x1000 x1001 x1002 14).bind fun bt234 => (if bt234.1 = 0 then (if (x6.length : Int) > 0 then ((Y10.f x1000 bt234.2.1 bt234.2.2 (x6.length : Int)).bind fun bt237 => ((Y10.f x1000 bt237.2.1 bt237.2.2 7).bind fun bt240 => (if 0 ≤ bt237.1 then (if bt237.1 < (x6.length : Int) then (some ((x6.set (bt237.1 : Int).toNat (wrap64 (bt240.1 - 1))), bt240.2.1, bt240.2.2)) else (none)) else (none)))) else (some (x6, bt234.2.1, bt234.2.2))) else (if bt234.1 = 1 then ((Y50.f k x6).bind fun t244 => ((Y10.f x1000 bt234.2.1 bt234.2.2 2).bind fun bt245 => (if x6.length < 17592186044416 then (some ((x6 ++ [wrap64 (t244 + bt245.1)]), bt245.2.1, bt245.2.2)) else (none)))) else (some (x6, bt234.2.1, bt234.2.2)))))
end
def Y13.f (k : Nat) (s0_0 : List Int) (s0_1 : Int) (s0_2 : Int) (a1 : Int) : Option (List Int × Int × Int) := (Y10.f s0_0 s0_1 s0_2 (wrap64 (a1 + 1))).bind fun bt212 => ((Y59.f s0_0 bt212.2.1 bt212.2.2 10).bind fun bt215 => (if bt215.1 = true then ((Y10.f s0_0 bt215.2.1 bt215.2.2 2).bind fun bt218 => (Y13.j0 k (wrap64 (12 + bt218.1)) s0_0 bt218.2.1 bt218.2.2)) else (Y13.j0 k bt212.1 s0_0 bt215.2.1 bt215.2.2)))
theorem Y13.calls (k : Nat) (g : Nat) (s0_0 : List Int) (s0_1 : Int) (s0_2 : Int) (a1 : Int) (r1 : List Int) (r2 : Int) (r3 : Int) (w0 w : World) (hI : IsS58 w0 w g s0_0 s0_1 s0_2) (hB : Below w0.heap.size w0 w) (h : Y13.f k s0_0 s0_1 s0_2 a1 = some (r1, r2, r3)) :
  Calls Tryz.prog 81 #[.pointer (some ⟨g, 0, none⟩), .int .i64 a1] w fun e w' => ∃ v0_ : Value, e = .returned (v0_) ∧ Kd.R (Kd.int .i64) 3 w' w.heap.size (fun _ => True) v0_ r1 ∧ IsS58 w0 w' g s0_0 r2 r3 ∧ Below w0.heap.size w0 w' ∧ KeepBut w w' g none := by
 have HI0 := aM hI
 have HK := aM (KeepBut.refl w g none)
 have HL := aM hB.size
 clear hI
 have HW0 := aM hB.size
 have HB := aM hB
 clear hB
 unfold Y13.f at h
 have H := h
 clear h
 replace H := bS H
 obtain ⟨⟨t212, t213, t214⟩, A3, H⟩ := H
 try dsimp only at H
 replace H := bS H
 obtain ⟨⟨t215, t216, t217⟩, A4, H⟩ := H
 try dsimp only at H
 have HC5 := aM H
 clear H
 go_enter Tryz.func81, Tryz.ntmps81
 go_upto_if 14 with (first | ((with_reducible refine gate_callee (f := 85) rfl ?_); refine gL (some 12) Tryz.func85 #[.pointer (some ⟨g, 0, none⟩), .int .i64 (wrap64 (a1 + 1))] ?_; (with_reducible refine (Y10.calls g s0_0 s0_1 s0_2 (wrap64 (a1 + 1)) t212 t213 t214 w0 _ ?side1 ?side2 A3.out).mono ?_); (case side1 => exact iI); (case side2 => exact bI); rintro e w6 ⟨rfl, hi, hb, hk⟩; refine ⟨_, rfl, ?_⟩; have _ := aM (KeepBut.trans (kI (w := w)) hk (.inl rfl)); have _ := aM (hb); have _ := aM (hi); clear HK HB HI0; rename_i HK HB HI0; (try clear hb); (try clear hk); (try clear hi)) | ((with_reducible refine gate_callee (f := 65) rfl ?_); refine gL (some 14) Tryz.func65 #[.pointer (some ⟨g, 0, none⟩), .int .i64 10] ?_; (with_reducible refine (Y59.calls g s0_0 t213 t214 10 t215 t216 t217 w0 _ ?side1 ?side2 A4.out).mono ?_); (case side1 => exact iI); (case side2 => exact bI); rintro e w7 ⟨rfl, hi, hb, hk⟩; refine ⟨_, rfl, ?_⟩; have _ := aM (KeepBut.trans (kI (w := w)) hk (.inl rfl)); have _ := aM (hb); have _ := aM (hi); clear HK HB HI0; rename_i HK HB HI0; (try clear hb); (try clear hk); (try clear hi)))
 (try simp only [Act.put, List.setIfInBounds_toArray, List.set_cons_zero, List.set_cons_succ])
 go_cut [5] (fun v5 wc => ∃ (kq : Nat) (x5_4 : Int) (x1001_4 : Int) (x1002_4 : Int), v5 = .int .i64 x5_4 ∧ Aside0 (Y13.j0 kq x5_4 s0_0 x1001_4 x1002_4 = some (r1, r2, r3)) ∧ Aside0 (kq ≤ k) ∧ Aside0 (IsS58 w0 wc g s0_0 x1001_4 x1002_4) ∧ Aside0 (KeepBut w wc g none) ∧ Aside0 (Below w0.heap.size w0 wc))
 case first =>
  have H := HC5.out
  clear HC5
  by_cases c8 : t215 = true
  ·subst c8
   have H1 : ((Y10.f s0_0 t216 t217 2).bind fun bt218 => (Y13.j0 k (wrap64 (12 + bt218.1)) s0_0 bt218.2.1 bt218.2.2)) = some (r1, r2, r3) := by rw [if_pos rfl] at H; exact H
   clear H
   have H := H1
   clear H1
   replace H := bS H
   obtain ⟨⟨t218, t219, t220⟩, A9, H⟩ := H
   try dsimp only at H
   have H' := aM H
   clear H
   go_wp2_with (first | ((with_reducible refine gate_callee (f := 85) rfl ?_); refine gL (some 16) Tryz.func85 #[.pointer (some ⟨g, 0, none⟩), .int .i64 2] ?_; (with_reducible refine (Y10.calls g s0_0 t216 t217 2 t218 t219 t220 w0 _ ?side1 ?side2 A9.out).mono ?_); (case side1 => exact iI); (case side2 => exact bI); rintro e w10 ⟨rfl, hi, hb, hk⟩; refine ⟨_, rfl, ?_⟩; have _ := aM (KeepBut.trans (kI (w := w)) hk (.inl rfl)); have _ := aM (hb); have _ := aM (hi); clear HK HB HI0; rename_i HK HB HI0; (try clear hb); (try clear hk); (try clear hi)))
   go_meet
   case rel => exact ⟨_, (wrap64 (12 + t218)), (t219), (t220), eR, H', ⟨by first | omega | exact Nat.le_refl _⟩, ⟨iI⟩, ⟨kI⟩, ⟨bI⟩⟩
  ·replace c8 := Bool.eq_false_iff.mpr c8
   subst c8
   have H1 : (Y13.j0 k t212 s0_0 t216 t217) = some (r1, r2, r3) := by rw [if_neg (show ¬ (false = true) by decide)] at H; exact H
   clear H
   have H := H1
   clear H1
   have H' := aM H
   clear H
   go_wp2
   go_meet
   case rel => exact ⟨_, (t212), (t216), (t217), eR, H', ⟨by first | omega | exact Nat.le_refl _⟩, ⟨iI⟩, ⟨kI⟩, ⟨bI⟩⟩
 case rest =>
  clear HC5
  try clear c8
  obtain ⟨kq, x5_4, x1001_4, x1002_4, rfl, HA, HJ4, HI0, HK, HB⟩ := hcut
  cases kq with
  | zero => exact absurd HA.out (by simp [Y13.j0])
  | succ kj4 =>
   have H := HA.out
   clear HA
   simp only [Y13.j0] at H
   have H' := aM H
   clear H
   go_wp2
   go_loopg [6] kj4 (fun kq v6 w' => ∃ (x6_2 : List Int) (x1001_2 : Int) (x1002_2 : Int), Aside0 (Y13.l0 kq x5_4 x6_2 s0_0 x1001_2 x1002_2 = some (r1, r2, r3)) ∧ Aside0 (kq ≤ kj4) ∧ Aside0 (Kd.R (Kd.int .i64) 3 w' w.heap.size (fun _ => True) v6 x6_2) ∧ Aside0 (IsS58 w0 w' g s0_0 x1001_2 x1002_2) ∧ Aside0 (KeepBut w w' g none) ∧ Aside0 (Below w0.heap.size w0 w'))
   case atStart => exact ⟨(([] : List Int)), (x1001_4), (x1002_4), H', ⟨Nat.le_refl _⟩, ⟨by first | exact Kd.R_nil _ _ _ _ _ | exact Kd.N_nil _ _ _ _ _ | exact Kd.V_nil _ _ _ _ _ | exact Kd.Q_nil _ _ _ _ _ | exact Kd.S_nil _ _ _ _ _⟩, ⟨iI⟩, ⟨kI⟩, ⟨bI⟩⟩
   case round =>
    clear H'
    try clear c8
    obtain ⟨x6_2, x1001_2, x1002_2, HA, HK2, HO_6, HI0, HK, HB⟩ := hrel
    cases gk with
    | zero => exact absurd HA.out (by simp [Y13.l0])
    | succ k2 =>
     have H := HA.out
     clear HA
     simp only [Y13.l0] at H
     by_cases c11 : (x6_2.length : Int) < x5_4
     ·rw [if_pos c11] at H
      have c11b0 := decide_eq_true c11
      clear c11
      replace H := bS H
      obtain ⟨t221, A12, H⟩ := H
      try dsimp only at H
      replace H := bS H
      obtain ⟨⟨t222, t223, t224⟩, A13, H⟩ := H
      try dsimp only at H
      replace H := bS H
      obtain ⟨⟨t225, t226, t227⟩, A14, H⟩ := H
      try dsimp only at H
      by_cases c15 : t225 = true
      ·subst c15
       have H1 : (if x6_2.length < 17592186044416 then (Y13.l0 k2 x5_4 (x6_2 ++ [t221]) s0_0 t226 t227) else (none)) = some (r1, r2, r3) := by rw [if_pos rfl] at H; exact H
       clear H
       have H := H1
       clear H1
       replace H := iS H
       obtain ⟨c16, H⟩ := H
       have LMc16 := aM c16
       clear c16
       obtain ⟨y228, hy228⟩ := nE ((x6_2 ++ [t221]) : List Int)
       try rw [← hy228] at H
       try with_reducible replace H := (Option.bind_some _ _).symm.trans H
       try dsimp only at H
       have Ny228 := aM hy228
       clear hy228
       have H' := aM H
       clear H
       obtain ⟨Ao17, co17, eo17⟩ := Kd.R_slice HO_6.out
       subst eo17
       go_wp2_with (first | ((with_reducible refine gate_callee (f := 114) rfl ?_); refine gL (some 23) Tryz.func114 #[.slice Ao17 x6_2.length co17] ?_; (with_reducible refine (Y50.calls k2 _ _ x6_2 t221 _ (cQ ((Kd.R_reads' HO_6.out).2.2)) ((Kd.R_reads' HO_6.out).2.1) A12.out).mono ?_); rintro e w' ⟨rfl, ⟨nd, rfl⟩⟩; refine ⟨_, rfl, ?_⟩) | ((with_reducible refine gate_callee (f := 85) rfl ?_); refine gL (some 27) Tryz.func85 #[.pointer (some ⟨g, 0, none⟩), .int .i64 (wrap64 (t221 + 1))] ?_; (with_reducible refine (Y10.calls g s0_0 x1001_2 x1002_2 (wrap64 (t221 + 1)) t222 t223 t224 w0 _ ?side1 ?side2 A13.out).mono ?_); (case side1 => exact iI); (case side2 => exact bI); rintro e w18 ⟨rfl, hi, hb, hk⟩; refine ⟨_, rfl, ?_⟩; have _ := aM (Kd.R_mono (Kd.R_keep (IsS58.apart (show IsS58 w0 _ g s0_0 x1001_2 x1002_2 from iI) (rQ HO_6) (by decide)) hk (fun _ h => h.2)) (fun _ h => h.1)); have _ := aM (KeepBut.trans (kI (w := w)) hk (.inl rfl)); have _ := aM (hb); have _ := aM (hi); clear HO_6 HK HB HI0; rename_i HO_6 HK HB HI0; (try clear hb); (try clear hk); (try clear hi)) | ((with_reducible refine gate_callee (f := 65) rfl ?_); refine gL (some 29) Tryz.func65 #[.pointer (some ⟨g, 0, none⟩), .int .i64 3] ?_; (with_reducible refine (Y59.calls g s0_0 t223 t224 3 true t226 t227 w0 _ ?side1 ?side2 A14.out).mono ?_); (case side1 => exact iI); (case side2 => exact bI); rintro e w19 ⟨rfl, hi, hb, hk⟩; refine ⟨_, rfl, ?_⟩; have _ := aM (Kd.R_mono (Kd.R_keep (IsS58.apart (show IsS58 w0 _ g s0_0 t223 t224 from iI) (rQ HO_6) (by decide)) hk (fun _ h => h.2)) (fun _ h => h.1)); have _ := aM (KeepBut.trans (kI (w := w)) hk (.inl rfl)); have _ := aM (hb); have _ := aM (hi); clear HO_6 HK HB HI0; rename_i HO_6 HK HB HI0; (try clear hb); (try clear hk); (try clear hi)) | ((with_reducible refine gate_builtin (b := .append) (xs := #[.tmp 31, .tmp 33]) rfl ?_); at_builtin; refine Kd.R_append (Kd.int .i64) w.heap.size rfl (.tmp 31) (.tmp 33) 24 3 (.int .i64 0) 8 rfl Tryz.underlying24 info3 rfl (by decide) (by omega) (.slice Ao17 x6_2.length co17) x6_2 t221 [.int .i64 t221] (fun _ => True) (fun _ => False) rfl rfl ?aP (fun _ hk => hk.elim) ?aF ?aO (Below.refl _ _) ?aS ?aL ?_; (case aP => exact rfl); (case aF => exact (fun _ _ => trivial)); (case aO => exact (rQ HO_6)); (case aS => exact (keep_size (w := w) (g := g) (row := none) kI)); (case aL => have := LMc16.out; omega); intro v229 w20 ho hb hg hat; rw [← Ny228.out] at ho; have _ := aM (IsS58.grown iI hg (IsS58.own_ne HI0.out HO_6.out (by decide))); have _ := aM (below_weaken bI HL.out hb); have _ := aM (KeepBut.trans (kI (w := w)) (KeepBut.of_grown hg g) (Kd.R_base2 HO_6.out)); have _ := aM (ho); clear HI0 HB HK HO_6; rename_i HI0 HB HK HO230; clear ho hb hg hat))
       go_roundg k2
       case measure => have := HJ4.out; have := HK2.out; omega
       case rel => exact ⟨(y228), (t226), (t227), H', ⟨by have := HJ4.out; have := HK2.out; omega⟩, ⟨rQ HO230⟩, ⟨iI⟩, ⟨kI⟩, ⟨bI⟩⟩
      ·replace c15 := Bool.eq_false_iff.mpr c15
       subst c15
       have H1 : (if x6_2.length < 17592186044416 then (Y13.l0 k2 x5_4 (x6_2 ++ [t222]) s0_0 t226 t227) else (none)) = some (r1, r2, r3) := by rw [if_neg (show ¬ (false = true) by decide)] at H; exact H
       clear H
       have H := H1
       clear H1
       replace H := iS H
       obtain ⟨c21, H⟩ := H
       have LMc21 := aM c21
       clear c21
       obtain ⟨y231, hy231⟩ := nE ((x6_2 ++ [t222]) : List Int)
       try rw [← hy231] at H
       try with_reducible replace H := (Option.bind_some _ _).symm.trans H
       try dsimp only at H
       have Ny231 := aM hy231
       clear hy231
       have H' := aM H
       clear H
       obtain ⟨Ao22, co22, eo22⟩ := Kd.R_slice HO_6.out
       subst eo22
       go_wp2_with (first | ((with_reducible refine gate_callee (f := 114) rfl ?_); refine gL (some 23) Tryz.func114 #[.slice Ao22 x6_2.length co22] ?_; (with_reducible refine (Y50.calls k2 _ _ x6_2 t221 _ (cQ ((Kd.R_reads' HO_6.out).2.2)) ((Kd.R_reads' HO_6.out).2.1) A12.out).mono ?_); rintro e w' ⟨rfl, ⟨nd, rfl⟩⟩; refine ⟨_, rfl, ?_⟩) | ((with_reducible refine gate_callee (f := 85) rfl ?_); refine gL (some 27) Tryz.func85 #[.pointer (some ⟨g, 0, none⟩), .int .i64 (wrap64 (t221 + 1))] ?_; (with_reducible refine (Y10.calls g s0_0 x1001_2 x1002_2 (wrap64 (t221 + 1)) t222 t223 t224 w0 _ ?side1 ?side2 A13.out).mono ?_); (case side1 => exact iI); (case side2 => exact bI); rintro e w23 ⟨rfl, hi, hb, hk⟩; refine ⟨_, rfl, ?_⟩; have _ := aM (Kd.R_mono (Kd.R_keep (IsS58.apart (show IsS58 w0 _ g s0_0 x1001_2 x1002_2 from iI) (rQ HO_6) (by decide)) hk (fun _ h => h.2)) (fun _ h => h.1)); have _ := aM (KeepBut.trans (kI (w := w)) hk (.inl rfl)); have _ := aM (hb); have _ := aM (hi); clear HO_6 HK HB HI0; rename_i HO_6 HK HB HI0; (try clear hb); (try clear hk); (try clear hi)) | ((with_reducible refine gate_callee (f := 65) rfl ?_); refine gL (some 29) Tryz.func65 #[.pointer (some ⟨g, 0, none⟩), .int .i64 3] ?_; (with_reducible refine (Y59.calls g s0_0 t223 t224 3 false t226 t227 w0 _ ?side1 ?side2 A14.out).mono ?_); (case side1 => exact iI); (case side2 => exact bI); rintro e w24 ⟨rfl, hi, hb, hk⟩; refine ⟨_, rfl, ?_⟩; have _ := aM (Kd.R_mono (Kd.R_keep (IsS58.apart (show IsS58 w0 _ g s0_0 t223 t224 from iI) (rQ HO_6) (by decide)) hk (fun _ h => h.2)) (fun _ h => h.1)); have _ := aM (KeepBut.trans (kI (w := w)) hk (.inl rfl)); have _ := aM (hb); have _ := aM (hi); clear HO_6 HK HB HI0; rename_i HO_6 HK HB HI0; (try clear hb); (try clear hk); (try clear hi)) | ((with_reducible refine gate_builtin (b := .append) (xs := #[.tmp 31, .tmp 33]) rfl ?_); at_builtin; refine Kd.R_append (Kd.int .i64) w.heap.size rfl (.tmp 31) (.tmp 33) 24 3 (.int .i64 0) 8 rfl Tryz.underlying24 info3 rfl (by decide) (by omega) (.slice Ao22 x6_2.length co22) x6_2 t222 [.int .i64 t222] (fun _ => True) (fun _ => False) rfl rfl ?aP (fun _ hk => hk.elim) ?aF ?aO (Below.refl _ _) ?aS ?aL ?_; (case aP => exact rfl); (case aF => exact (fun _ _ => trivial)); (case aO => exact (rQ HO_6)); (case aS => exact (keep_size (w := w) (g := g) (row := none) kI)); (case aL => have := LMc21.out; omega); intro v232 w25 ho hb hg hat; rw [← Ny231.out] at ho; have _ := aM (IsS58.grown iI hg (IsS58.own_ne HI0.out HO_6.out (by decide))); have _ := aM (below_weaken bI HL.out hb); have _ := aM (KeepBut.trans (kI (w := w)) (KeepBut.of_grown hg g) (Kd.R_base2 HO_6.out)); have _ := aM (ho); clear HI0 HB HK HO_6; rename_i HI0 HB HK HO233; clear ho hb hg hat))
       go_roundg k2
       case measure => have := HJ4.out; have := HK2.out; omega
       case rel => exact ⟨(y231), (t226), (t227), H', ⟨by have := HJ4.out; have := HK2.out; omega⟩, ⟨rQ HO233⟩, ⟨iI⟩, ⟨kI⟩, ⟨bI⟩⟩
     ·rw [if_neg c11] at H
      have c11b0 := decide_eq_false c11
      clear c11
      replace H := bS H
      obtain ⟨⟨t234, t235, t236⟩, A26, H⟩ := H
      try dsimp only at H
      by_cases c27 : t234 = 0
      ·rw [if_pos c27] at H
       have c27b0 : (t234 == 0) = true := beq_iff_eq.mpr c27
       have c27b1 : (t234 != 0) = false := bne_eq_false_iff_eq.mpr c27
       clear c27
       by_cases c28 : (x6_2.length : Int) > 0
       ·rw [if_pos c28] at H
        have c28b0 := decide_eq_true c28
        have c28b1 : decide (0 < x6_2.length) = true := decide_eq_true (by omega)
        clear c28
        replace H := bS H
        obtain ⟨⟨t237, t238, t239⟩, A29, H⟩ := H
        try dsimp only at H
        replace H := bS H
        obtain ⟨⟨t240, t241, t242⟩, A30, H⟩ := H
        try dsimp only at H
        replace H := iD2 H
        obtain ⟨c31b0, c32b0, H⟩ := H
        obtain ⟨y243, hy243⟩ := nE ((x6_2.set (t237 : Int).toNat (wrap64 (t240 - 1))) : List Int)
        try rw [← hy243] at H
        try with_reducible replace H := (Option.bind_some _ _).symm.trans H
        try dsimp only at H
        have Ny243 := aM hy243
        clear hy243
        simp only [Option.some.injEq, Prod.mk.injEq] at H
        obtain ⟨rfl, rfl, rfl⟩ := H
        obtain ⟨Ao34, co34, eo34⟩ := Kd.R_slice HO_6.out
        subst eo34
        go_wp2_with (first | ((with_reducible refine gate_callee (f := 85) rfl ?_); refine gL (some 36) Tryz.func85 #[.pointer (some ⟨g, 0, none⟩), .int .i64 14] ?_; (with_reducible refine (Y10.calls g s0_0 x1001_2 x1002_2 14 t234 t235 t236 w0 _ ?side1 ?side2 A26.out).mono ?_); (case side1 => exact iI); (case side2 => exact bI); rintro e w35 ⟨rfl, hi, hb, hk⟩; refine ⟨_, rfl, ?_⟩; have _ := aM (Kd.R_mono (Kd.R_keep (IsS58.apart (show IsS58 w0 _ g s0_0 x1001_2 x1002_2 from iI) (rQ HO_6) (by decide)) hk (fun _ h => h.2)) (fun _ h => h.1)); have _ := aM (KeepBut.trans (kI (w := w)) hk (.inl rfl)); have _ := aM (hb); have _ := aM (hi); clear HO_6 HK HB HI0; rename_i HO_6 HK HB HI0; (try clear hb); (try clear hk); (try clear hi)) | ((with_reducible refine gate_callee (f := 85) rfl ?_); refine gL (some 46) Tryz.func85 #[.pointer (some ⟨g, 0, none⟩), .int .i64 (x6_2.length : Int)] ?_; (with_reducible refine (Y10.calls g s0_0 t235 t236 (x6_2.length : Int) t237 t238 t239 w0 _ ?side1 ?side2 A29.out).mono ?_); (case side1 => exact iI); (case side2 => exact bI); rintro e w36 ⟨rfl, hi, hb, hk⟩; refine ⟨_, rfl, ?_⟩; have _ := aM (Kd.R_mono (Kd.R_keep (IsS58.apart (show IsS58 w0 _ g s0_0 t235 t236 from iI) (rQ HO_6) (by decide)) hk (fun _ h => h.2)) (fun _ h => h.1)); have _ := aM (KeepBut.trans (kI (w := w)) hk (.inl rfl)); have _ := aM (hb); have _ := aM (hi); clear HO_6 HK HB HI0; rename_i HO_6 HK HB HI0; (try clear hb); (try clear hk); (try clear hi)) | ((with_reducible refine gate_callee (f := 85) rfl ?_); refine gL (some 48) Tryz.func85 #[.pointer (some ⟨g, 0, none⟩), .int .i64 7] ?_; (with_reducible refine (Y10.calls g s0_0 t238 t239 7 t240 t241 t242 w0 _ ?side1 ?side2 A30.out).mono ?_); (case side1 => exact iI); (case side2 => exact bI); rintro e w37 ⟨rfl, hi, hb, hk⟩; refine ⟨_, rfl, ?_⟩; have _ := aM (Kd.R_mono (Kd.R_keep (IsS58.apart (show IsS58 w0 _ g s0_0 t238 t239 from iI) (rQ HO_6) (by decide)) hk (fun _ h => h.2)) (fun _ h => h.1)); have _ := aM (KeepBut.trans (kI (w := w)) hk (.inl rfl)); have _ := aM (hb); have _ := aM (hi); clear HO_6 HK HB HI0; rename_i HO_6 HK HB HI0; (try clear hb); (try clear hk); (try clear hi); have p33 : 0 ≤ (t237 : Int) := odt; have q33 : (t237 : Int) < ((x6_2.length : Int) : Int) := odt; obtain ⟨go33, co33, eo33, gb33, gl33, cl33, HG33⟩ := Kd.R_form HO_6.out (by omega); (first | cases eo33 | (injection eo33 with ea_ en_ ec_; (first | subst ea_ | (injection ea_ with ea_; subst ea_)); subst ec_; clear en_)); have GB33 := aM gb33; have GG33 := aM HG33; clear gb33 gl33 HG33; obtain ⟨hx33_0, hf33_0⟩ := Kd.R_celln 0 HO_6.out (t237 : Int) p33 q33; replace p33 := eq_true p33; replace q33 := eq_true q33; obtain ⟨hy38_, hz38_⟩ := Kd.R_celln 0 HO_6.out (t237 : Int) (odt) (odt); have HP38 := Kd.R_putg HO_6.out (t237 : Int) (wrap64 (t240 - 1))) | ((with_reducible refine gate_store (t := 3) (p := 50) rfl ?_); refine sE (w37.setCell ⟨go33, (t237 : Int).toNat, none⟩ (.int .i64 (wrap64 (t240 - 1)))) 3 50 ?_; intro w39 hw; have hg : w37.grownBy w39 (some go33) := (by rw [hw]; exact HP38.2); have hp_ : Kd.R (Kd.int .i64) 3 w39 w.heap.size (fun _ => True) (.slice (some ⟨go33, 0, none⟩) x6_2.length co34) y243 := (by rw [hw, Ny243.out]; exact HP38.1); clear HP38; have _ := aM (hp_); have _ := aM (IsS58.grown iI hg (IsS58.own_ne HI0.out HO_6.out (by decide))); have _ := aM ((by rw [hw]; exact below_set (HB.out) (Nat.le_trans HL.out GB33.out) : Below w0.heap.size w0 w39)); have _ := aM (KeepBut.trans (kI (w := w)) (KeepBut.of_grown hg g) (Kd.R_base2 HO_6.out)); clear HO_6 HI0 HB HK; rename_i HO_6 HI0 HB HK; clear hg hw hp_))
        go_ret
        exact ⟨_, eE, rQ HO_6, iI, bI, kI⟩
       ·rw [if_neg c28] at H
        have c28b0 := decide_eq_false c28
        have c28b1 : decide (0 < x6_2.length) = false := decide_eq_false (by omega)
        clear c28
        simp only [Option.some.injEq, Prod.mk.injEq] at H
        obtain ⟨rfl, rfl, rfl⟩ := H
        obtain ⟨Ao40, co40, eo40⟩ := Kd.R_slice HO_6.out
        subst eo40
        go_wp2_with (first | ((with_reducible refine gate_callee (f := 85) rfl ?_); refine gL (some 36) Tryz.func85 #[.pointer (some ⟨g, 0, none⟩), .int .i64 14] ?_; (with_reducible refine (Y10.calls g s0_0 x1001_2 x1002_2 14 t234 t235 t236 w0 _ ?side1 ?side2 A26.out).mono ?_); (case side1 => exact iI); (case side2 => exact bI); rintro e w41 ⟨rfl, hi, hb, hk⟩; refine ⟨_, rfl, ?_⟩; have _ := aM (Kd.R_mono (Kd.R_keep (IsS58.apart (show IsS58 w0 _ g s0_0 x1001_2 x1002_2 from iI) (rQ HO_6) (by decide)) hk (fun _ h => h.2)) (fun _ h => h.1)); have _ := aM (KeepBut.trans (kI (w := w)) hk (.inl rfl)); have _ := aM (hb); have _ := aM (hi); clear HO_6 HK HB HI0; rename_i HO_6 HK HB HI0; (try clear hb); (try clear hk); (try clear hi)))
        go_ret
        exact ⟨_, eE, rQ HO_6, iI, bI, kI⟩
      ·rw [if_neg c27] at H
       have c27b0 : (t234 == 0) = false := beq_eq_false_iff_ne.mpr c27
       have c27b1 : (t234 != 0) = true := bne_iff_ne.mpr c27
       by_cases c42 : t234 = 1
       ·rw [if_pos c42] at H
        have c42b0 : (t234 == 1) = true := beq_iff_eq.mpr c42
        have c42b1 : (t234 != 1) = false := bne_eq_false_iff_eq.mpr c42
        clear c42
        replace H := bS H
        obtain ⟨t244, A43, H⟩ := H
        try dsimp only at H
        replace H := bS H
        obtain ⟨⟨t245, t246, t247⟩, A44, H⟩ := H
        try dsimp only at H
        replace H := iS H
        obtain ⟨c45, H⟩ := H
        have LMc45 := aM c45
        clear c45
        obtain ⟨y248, hy248⟩ := nE ((x6_2 ++ [wrap64 (t244 + t245)]) : List Int)
        try rw [← hy248] at H
        try with_reducible replace H := (Option.bind_some _ _).symm.trans H
        try dsimp only at H
        have Ny248 := aM hy248
        clear hy248
        simp only [Option.some.injEq, Prod.mk.injEq] at H
        obtain ⟨rfl, rfl, rfl⟩ := H
        obtain ⟨Ao46, co46, eo46⟩ := Kd.R_slice HO_6.out
        subst eo46
        go_wp2_with (first | ((with_reducible refine gate_callee (f := 85) rfl ?_); refine gL (some 36) Tryz.func85 #[.pointer (some ⟨g, 0, none⟩), .int .i64 14] ?_; (with_reducible refine (Y10.calls g s0_0 x1001_2 x1002_2 14 t234 t235 t236 w0 _ ?side1 ?side2 A26.out).mono ?_); (case side1 => exact iI); (case side2 => exact bI); rintro e w47 ⟨rfl, hi, hb, hk⟩; refine ⟨_, rfl, ?_⟩; have _ := aM (Kd.R_mono (Kd.R_keep (IsS58.apart (show IsS58 w0 _ g s0_0 x1001_2 x1002_2 from iI) (rQ HO_6) (by decide)) hk (fun _ h => h.2)) (fun _ h => h.1)); have _ := aM (KeepBut.trans (kI (w := w)) hk (.inl rfl)); have _ := aM (hb); have _ := aM (hi); clear HO_6 HK HB HI0; rename_i HO_6 HK HB HI0; (try clear hb); (try clear hk); (try clear hi)) | ((with_reducible refine gate_callee (f := 114) rfl ?_); refine gL (some 55) Tryz.func114 #[.slice Ao46 x6_2.length co46] ?_; (with_reducible refine (Y50.calls k2 _ _ x6_2 t244 _ (cQ ((Kd.R_reads' HO_6.out).2.2)) ((Kd.R_reads' HO_6.out).2.1) A43.out).mono ?_); rintro e w' ⟨rfl, ⟨nd, rfl⟩⟩; refine ⟨_, rfl, ?_⟩) | ((with_reducible refine gate_callee (f := 85) rfl ?_); refine gL (some 57) Tryz.func85 #[.pointer (some ⟨g, 0, none⟩), .int .i64 2] ?_; (with_reducible refine (Y10.calls g s0_0 t235 t236 2 t245 t246 t247 w0 _ ?side1 ?side2 A44.out).mono ?_); (case side1 => exact iI); (case side2 => exact bI); rintro e w48 ⟨rfl, hi, hb, hk⟩; refine ⟨_, rfl, ?_⟩; have _ := aM (Kd.R_mono (Kd.R_keep (IsS58.apart (show IsS58 w0 _ g s0_0 t235 t236 from iI) (rQ HO_6) (by decide)) hk (fun _ h => h.2)) (fun _ h => h.1)); have _ := aM (KeepBut.trans (kI (w := w)) hk (.inl rfl)); have _ := aM (hb); have _ := aM (hi); clear HO_6 HK HB HI0; rename_i HO_6 HK HB HI0; (try clear hb); (try clear hk); (try clear hi)) | ((with_reducible refine gate_builtin (b := .append) (xs := #[.tmp 53, .tmp 59]) rfl ?_); at_builtin; refine Kd.R_append (Kd.int .i64) w.heap.size rfl (.tmp 53) (.tmp 59) 24 3 (.int .i64 0) 8 rfl Tryz.underlying24 info3 rfl (by decide) (by omega) (.slice Ao46 x6_2.length co46) x6_2 (wrap64 (t244 + t245)) [.int .i64 (wrap64 (t244 + t245))] (fun _ => True) (fun _ => False) rfl rfl ?aP (fun _ hk => hk.elim) ?aF ?aO (Below.refl _ _) ?aS ?aL ?_; (case aP => exact rfl); (case aF => exact (fun _ _ => trivial)); (case aO => exact (rQ HO_6)); (case aS => exact (keep_size (w := w) (g := g) (row := none) kI)); (case aL => have := LMc45.out; omega); intro v249 w49 ho hb hg hat; rw [← Ny248.out] at ho; have _ := aM (IsS58.grown iI hg (IsS58.own_ne HI0.out HO_6.out (by decide))); have _ := aM (below_weaken bI HL.out hb); have _ := aM (KeepBut.trans (kI (w := w)) (KeepBut.of_grown hg g) (Kd.R_base2 HO_6.out)); have _ := aM (ho); clear HI0 HB HK HO_6; rename_i HI0 HB HK HO250; clear ho hb hg hat))
        go_ret
        exact ⟨_, eE, rQ HO250, iI, bI, kI⟩
       ·rw [if_neg c42] at H
        have c42b0 : (t234 == 1) = false := beq_eq_false_iff_ne.mpr c42
        have c42b1 : (t234 != 1) = true := bne_iff_ne.mpr c42
        simp only [Option.some.injEq, Prod.mk.injEq] at H
        obtain ⟨rfl, rfl, rfl⟩ := H
        obtain ⟨Ao50, co50, eo50⟩ := Kd.R_slice HO_6.out
        subst eo50
        go_wp2_with (first | ((with_reducible refine gate_callee (f := 85) rfl ?_); refine gL (some 36) Tryz.func85 #[.pointer (some ⟨g, 0, none⟩), .int .i64 14] ?_; (with_reducible refine (Y10.calls g s0_0 x1001_2 x1002_2 14 t234 t235 t236 w0 _ ?side1 ?side2 A26.out).mono ?_); (case side1 => exact iI); (case side2 => exact bI); rintro e w51 ⟨rfl, hi, hb, hk⟩; refine ⟨_, rfl, ?_⟩; have _ := aM (Kd.R_mono (Kd.R_keep (IsS58.apart (show IsS58 w0 _ g s0_0 x1001_2 x1002_2 from iI) (rQ HO_6) (by decide)) hk (fun _ h => h.2)) (fun _ h => h.1)); have _ := aM (KeepBut.trans (kI (w := w)) hk (.inl rfl)); have _ := aM (hb); have _ := aM (hi); clear HO_6 HK HB HI0; rename_i HO_6 HK HB HI0; (try clear hb); (try clear hk); (try clear hi)))
        go_ret
        exact ⟨_, eE, rQ HO_6, iI, bI, kI⟩
def Y54.f (a0 : Int) (a1 : Int) (a2 : Int) : Option (Bool) := if a0 ≥ a1 then (some (decide (a0 ≤ a2))) else (some false)
theorem Y54.calls (a0 : Int) (a1 : Int) (a2 : Int) (r : Bool) (w : World) (h : Y54.f a0 a1 a2 = some r) :
  Calls Tryz.prog 101 #[.int .i64 a0, .int .i64 a1, .int .i64 a2] w fun e w' => e = .returned (.bool r) ∧ Drawn0 w w' := by
 have H : (if a0 ≥ a1 then (some (decide (a0 ≤ a2))) else (some false)) = some r := h
 clear h
 by_cases c4 : a0 ≥ a1
 ·rw [if_pos c4] at H
  have c4b0 := decide_eq_true c4
  clear c4
  obtain rfl := Option.some.inj H
  go_enter Tryz.func101, Tryz.ntmps101
  go_wp2
  go_ret
  exact ⟨by first | rfl | (simp; done) | (simp [*]; done), dQ⟩
 ·rw [if_neg c4] at H
  have c4b0 := decide_eq_false c4
  clear c4
  obtain rfl := Option.some.inj H
  go_enter Tryz.func101, Tryz.ntmps101
  go_wp2
  go_ret
  exact ⟨by first | rfl | (simp; done) | (simp [*]; done), dQ⟩
def Y46.l0 : Nat → List Int → List Int → Int → Int → Option (Bool)
 | 0, _, _, _, _ => none
 | k + 1, x0, x8, x9, x10 => if x10 < x9 then (if 0 ≤ x10 then (if x10 < (x8.length : Int) then (if x10 ≤ (x0.length : Int) then ((Y50.f k (x0.take (x10 : Int).toNat)).bind fun t253 => ((Y54.f (rd x8 x10) 0 t253).bind fun t254 => (if t254 = true then (Y46.l0 k x0 x8 x9 (wrap64 (x10 + 1))) else (some false)))) else (none)) else (none)) else (none)) else (some true)
def Y46.f (k : Nat) (l0 : List Int) : Option (Bool) := if (l0.length : Int) > 12 then (some false) else (Y46.l0 k l0 l0 (l0.length : Int) 0)
theorem Y46.calls (k : Nat) (A0 : Option Addr) (c0 : Nat) (l0 : List Int) (r : Bool) (w : World) (hr0 : Kd.C (Kd.int .i64) w A0 l0.length l0) (hc0 : l0.length ≤ c0) (h : Y46.f k l0 = some r) :
  Calls Tryz.prog 82 #[.slice A0 l0.length c0] w fun e w' => e = .returned (.bool r) ∧ Drawn0 w w' := by
 have HR0 := aM hr0
 have HC0 := aM hc0
 clear hr0 hc0
 unfold Y46.f at h
 have H := h
 clear h
 by_cases c2 : (l0.length : Int) > 12
 ·rw [if_pos c2] at H
  have c2b0 := decide_eq_true c2
  have c2b1 : decide (12 < l0.length) = true := decide_eq_true (by omega)
  clear c2
  obtain rfl := Option.some.inj H
  go_enter Tryz.func82, Tryz.ntmps82
  go_wp2
  go_ret
  exact ⟨by first | rfl | (simp; done) | (simp [*]; done), dQ⟩
 ·rw [if_neg c2] at H
  have c2b0 := decide_eq_false c2
  have c2b1 : decide (12 < l0.length) = false := decide_eq_false (by omega)
  clear c2
  have H' := aM H
  clear H
  go_enter Tryz.func82, Tryz.ntmps82
  go_wp2
  go_loopg [10] k (fun kq v10 w' => ∃ (x10_1 : Int), v10 = .int .i64 x10_1 ∧ Aside0 (Y46.l0 kq l0 l0 (l0.length : Int) x10_1 = some r) ∧ Aside0 (kq ≤ k) ∧ Drawn0 w w')
  case atStart => exact ⟨(0), eR, H', ⟨Nat.le_refl _⟩, dQ⟩
  case round =>
   clear H'
   try clear c2
   try clear c2b0
   try clear c2b1
   obtain ⟨x10_1, rfl, HA, HK1, ⟨m1, rfl⟩⟩ := hrel
   cases gk with
   | zero => exact absurd HA.out (by simp [Y46.l0])
   | succ k1 =>
    have H := HA.out
    clear HA
    simp only [Y46.l0] at H
    by_cases c3 : x10_1 < (l0.length : Int)
    ·rw [if_pos c3] at H
     have c3b0 := decide_eq_true c3
     clear c3
     replace H := iD2 H
     obtain ⟨c4b0, c5b0, H⟩ := H
     have c6b0 := eq_true (odt : 0 ≤ x10_1)
     replace H := iS H
     obtain ⟨c7, H⟩ := H
     have c7b0 := eq_true c7
     have c7b1 := decide_eq_true c7
     clear c7
     replace H := bS H
     obtain ⟨t253, A8, H⟩ := H
     try dsimp only at H
     replace H := bS H
     obtain ⟨t254, A9, H⟩ := H
     try dsimp only at H
     by_cases c10 : t254 = true
     ·subst c10
      have H1 : (Y46.l0 k1 l0 l0 (l0.length : Int) (wrap64 (x10_1 + 1))) = some r := by rw [if_pos rfl] at H; exact H
      clear H
      have H := H1
      clear H1
      have H' := aM H
      clear H
      have p251 : 0 ≤ (x10_1 : Int) := odt
      have q251 : x10_1 < (l0.length : Int) := odt
      obtain ⟨ad251, e251, hx251_0⟩ := Kd.at_int HR0.out x10_1 p251 q251
      cases e251
      replace p251 := eq_true p251
      replace q251 := eq_true q251
      obtain ⟨i011, hi011, _, hsz11, _⟩ := info_parts info3
      obtain ⟨hcut11, hA11, hC11⟩ := print_take_of (P := Tryz.prog) (Value.int .i64) 0 24 3 .i64 Tryz.underlying24 hi011 hsz11 (some ad251) c0 l0 x10_1 (odt) (odt) HC0.out
      have HR252 := aM (Kd.C_of_reads (h1 := fun _ => rfl) (hA11 _ (Kd.reads_of_C HR0.out)))
      have HC252 := aM hC11
      clear hA11 hC11 hi011 hsz11
      go_wp2_with (first | ((with_reducible refine gate_callee (f := 114) rfl ?_); refine goesL_ (some 19) rfl rfl Tryz.func114 (by kernel_rfl) rfl #[.slice (some ad251) (l0.take (x10_1 : Int).toNat).length c0] rfl (by (try simp only [List.map_toArray, List.map_cons, List.map_nil]); first | done | (rw [show (l0.take (x10_1 : Int).toNat).length = x10_1.toNat from (by rw [List.length_take]; have h_ : (x10_1 : Int) ≤ (l0.length : Int) := odt; omega)] <;> rfl) | rfl | (simp only [List.length_drop, List.length_take]; rfl)) ?_; (with_reducible refine (Y50.calls k1 _ _ (l0.take (x10_1 : Int).toNat) t253 _ ?side1 ?side2 A8.out).mono ?_); (case side1 => exact cQ HR252.out); (case side2 => exact HC252.out); rintro e w' ⟨rfl, ⟨nd, rfl⟩⟩; refine ⟨_, rfl, ?_⟩) | ((with_reducible refine gate_callee (f := 101) rfl ?_); refine gL (some 20) Tryz.func101 #[.int .i64 (rd l0 x10_1), .int .i64 0, .int .i64 t253] ?_; (with_reducible refine (Y54.calls (rd l0 x10_1) 0 t253 true _ A9.out).mono ?_); rintro e w' ⟨rfl, ⟨nd, rfl⟩⟩; refine ⟨_, rfl, ?_⟩))
      go_roundg k1
      case measure => have := HK1.out; omega
      case rel => exact ⟨(wrap64 (x10_1 + 1)), eR, H', ⟨by have := HK1.out; omega⟩, dQ⟩
     ·replace c10 := Bool.eq_false_iff.mpr c10
      subst c10
      have H1 : (some false) = some r := by rw [if_neg (show ¬ (false = true) by decide)] at H; exact H
      clear H
      have H := H1
      clear H1
      obtain rfl := Option.some.inj H
      have p251 : 0 ≤ (x10_1 : Int) := odt
      have q251 : x10_1 < (l0.length : Int) := odt
      obtain ⟨ad251, e251, hx251_0⟩ := Kd.at_int HR0.out x10_1 p251 q251
      cases e251
      replace p251 := eq_true p251
      replace q251 := eq_true q251
      obtain ⟨i012, hi012, _, hsz12, _⟩ := info_parts info3
      obtain ⟨hcut12, hA12, hC12⟩ := print_take_of (P := Tryz.prog) (Value.int .i64) 0 24 3 .i64 Tryz.underlying24 hi012 hsz12 (some ad251) c0 l0 x10_1 (odt) (odt) HC0.out
      have HR252 := aM (Kd.C_of_reads (h1 := fun _ => rfl) (hA12 _ (Kd.reads_of_C HR0.out)))
      have HC252 := aM hC12
      clear hA12 hC12 hi012 hsz12
      go_wp2_with (first | ((with_reducible refine gate_callee (f := 114) rfl ?_); refine goesL_ (some 19) rfl rfl Tryz.func114 (by kernel_rfl) rfl #[.slice (some ad251) (l0.take (x10_1 : Int).toNat).length c0] rfl (by (try simp only [List.map_toArray, List.map_cons, List.map_nil]); first | done | (rw [show (l0.take (x10_1 : Int).toNat).length = x10_1.toNat from (by rw [List.length_take]; have h_ : (x10_1 : Int) ≤ (l0.length : Int) := odt; omega)] <;> rfl) | rfl | (simp only [List.length_drop, List.length_take]; rfl)) ?_; (with_reducible refine (Y50.calls k1 _ _ (l0.take (x10_1 : Int).toNat) t253 _ ?side1 ?side2 A8.out).mono ?_); (case side1 => exact cQ HR252.out); (case side2 => exact HC252.out); rintro e w' ⟨rfl, ⟨nd, rfl⟩⟩; refine ⟨_, rfl, ?_⟩) | ((with_reducible refine gate_callee (f := 101) rfl ?_); refine gL (some 20) Tryz.func101 #[.int .i64 (rd l0 x10_1), .int .i64 0, .int .i64 t253] ?_; (with_reducible refine (Y54.calls (rd l0 x10_1) 0 t253 false _ A9.out).mono ?_); rintro e w' ⟨rfl, ⟨nd, rfl⟩⟩; refine ⟨_, rfl, ?_⟩))
      go_ret
      exact ⟨by first | rfl | (simp; done) | (simp [*]; done), dQ⟩
    ·rw [if_neg c3] at H
     have c3b0 := decide_eq_false c3
     clear c3
     obtain rfl := Option.some.inj H
     go_wp2
     go_ret
     exact ⟨by first | rfl | (simp; done) | (simp [*]; done), dQ⟩
def Y51.l0 : Nat → Int → List Int → Int → Option (List Int)
 | 0, _, _, _ => none
 | k + 1, x0, x3, x4 => if x4 < x0 then (if x3.length < 17592186044416 then (Y51.l0 k x0 (x3 ++ [x4]) (wrap64 (x4 + 1))) else (none)) else (some x3)
def Y51.f (k : Nat) (a0 : Int) : Option (List Int) := Y51.l0 k a0 ([] : List Int) 0
theorem Y51.calls (k : Nat) (a0 : Int) (r : List Int) (w : World) (h : Y51.f k a0 = some r) :
  Calls Tryz.prog 83 #[.int .i64 a0] w fun e w' => ∃ v0_ : Value, e = .returned (v0_) ∧ Kd.R (Kd.int .i64) 3 w' w.heap.size (fun _ => True) v0_ r ∧ Below w.heap.size w w' := by
 have HB := aM (Below.refl w.heap.size w)
 have H : (Y51.l0 k a0 ([] : List Int) 0) = some r := h
 clear h
 have H' := aM H
 clear H
 go_enter Tryz.func83, Tryz.ntmps83
 go_wp2
 go_loopg [3, 4] k (fun kq v3 v4 w' => ∃ (x3_1 : List Int) (x4_1 : Int), v4 = .int .i64 x4_1 ∧ Aside0 (Y51.l0 kq a0 x3_1 x4_1 = some r) ∧ Aside0 (kq ≤ k) ∧ Aside0 (Kd.R (Kd.int .i64) 3 w' w.heap.size (fun _ => True) v3 x3_1) ∧ Aside0 (Below w.heap.size w w'))
 case atStart => exact ⟨(([] : List Int)), (0), eR, H', ⟨Nat.le_refl _⟩, ⟨by first | exact Kd.R_nil _ _ _ _ _ | exact Kd.N_nil _ _ _ _ _ | exact Kd.V_nil _ _ _ _ _ | exact Kd.Q_nil _ _ _ _ _ | exact Kd.S_nil _ _ _ _ _⟩, ⟨bq⟩⟩
 case round =>
  clear H'
  obtain ⟨x3_1, x4_1, rfl, HA, HK1, HO_3, HB⟩ := hrel
  cases gk with
  | zero => exact absurd HA.out (by simp [Y51.l0])
  | succ k1 =>
   have H := HA.out
   clear HA
   simp only [Y51.l0] at H
   by_cases c2 : x4_1 < a0
   ·rw [if_pos c2] at H
    have c2b0 := decide_eq_true c2
    clear c2
    replace H := iS H
    obtain ⟨c3, H⟩ := H
    have LMc3 := aM c3
    clear c3
    obtain ⟨y255, hy255⟩ := nE ((x3_1 ++ [x4_1]) : List Int)
    try rw [← hy255] at H
    try with_reducible replace H := (Option.bind_some _ _).symm.trans H
    try dsimp only at H
    have Ny255 := aM hy255
    clear hy255
    have H' := aM H
    clear H
    go_wp2_with (first | ((with_reducible refine gate_builtin (b := .append) (xs := #[.tmp 10, .tmp 12]) rfl ?_); at_builtin; refine Kd.R_append (Kd.int .i64) (w0 := w) w.heap.size rfl (.tmp 10) (.tmp 12) 24 3 (.int .i64 0) 8 rfl Tryz.underlying24 info3 rfl (by decide) (by omega) u3 x3_1 x4_1 [.int .i64 x4_1] (fun _ => True) (fun _ => False) rfl rfl ?aP (fun _ hk => hk.elim) ?aF ?aO ?aB ?aS ?aL ?_; (case aP => exact rfl); (case aB => exact bq); (case aF => exact (fun _ _ => trivial)); (case aO => exact (rQ HO_3)); (case aS => exact (below_size bq)); (case aL => have := LMc3.out; omega); intro v256 w4 ho hb hg hat; rw [← Ny255.out] at ho; have _ := aM (hb); have _ := aM (ho); clear HB HO_3; rename_i HB HO257; clear ho hb hg hat))
    go_roundg k1
    case measure => have := HK1.out; omega
    case rel => exact ⟨(y255), (wrap64 (x4_1 + 1)), eR, H', ⟨by have := HK1.out; omega⟩, ⟨rQ HO257⟩, ⟨bq⟩⟩
   ·rw [if_neg c2] at H
    have c2b0 := decide_eq_false c2
    clear c2
    obtain rfl := Option.some.inj H
    go_wp2
    go_ret
    exact ⟨_, eE, rQ HO_3, bq⟩
def Y42.l0 : Nat → List (List Int) → Int → Int → Option (Int)
 | 0, _, _, _ => none
 | k + 1, x6, x7, x8 => if x8 < x7 then (if 0 ≤ x8 then (if x8 < (x6.length : Int) then (if 0 ≤ (wrap64 (((rd_L3 x6 x8).length : Int) - 1)) then (if (wrap64 (((rd_L3 x6 x8).length : Int) - 1)) < ((rd_L3 x6 x8).length : Int) then (if (rd (rd_L3 x6 x8) (wrap64 (((rd_L3 x6 x8).length : Int) - 1))) > 0 then (some x8) else (Y42.l0 k x6 x7 (wrap64 (x8 + 1)))) else (none)) else (none)) else (none)) else (none)) else (some (-1))
def Y42.f (k : Nat) (l0_0 : List (List Int)) : Option (Int) := Y42.l0 k l0_0 (l0_0.length : Int) 0
theorem Y42.calls (k : Nat) (A0_0 : Option Addr) (c0_0 : Nat) (l0_0 : List (List Int)) (r : Int) (w : World) (hr0_0 : Kd.C (Kd.slice 3 (Kd.int .i64)) w A0_0 l0_0.length l0_0) (hc0_0 : l0_0.length ≤ c0_0) (h : Y42.f k l0_0 = some r) :
  Calls Tryz.prog 125 #[.agg #[.slice A0_0 l0_0.length c0_0]] w fun e w' => e = .returned (.int .i64 r) ∧ Below w.heap.size w w' := by
 have hu30 := Tryz.underlying30
 have HR0_0 := aM hr0_0
 have HC0_0 := aM hc0_0
 clear hr0_0 hc0_0
 have HB := aM (Below.refl w.heap.size w)
 have H : (Y42.l0 k l0_0 (l0_0.length : Int) 0) = some r := h
 clear h
 have H' := aM H
 clear H
 go_enter Tryz.func125, Tryz.ntmps125
 go_wp2_with (first | ((with_reducible refine gate_dst (N := 1) rfl ?_); refine bF 1 30 #[.slice A0_0 l0_0.length c0_0] bq ?_; intro gb258 w2 hg hb _ _ _ _; clear HB; rename_i HB BK258 GW258 GE258; clear hb hg; have hcz3_0 := zc10 BK258; have hfz3_0 := blk_frozen BK258.out 0))
 go_loopg [8] k (fun kq v8 w' => ∃ (x8_1 : Int), v8 = .int .i64 x8_1 ∧ Aside0 (Y42.l0 kq l0_0 (l0_0.length : Int) x8_1 = some r) ∧ Aside0 (kq ≤ k) ∧ Aside0 (w'.heap[gb258]? = some (.cells #[(.slice A0_0 l0_0.length c0_0)] 30 (0, 0))) ∧ Aside0 (Below w.heap.size w w'))
 case atStart => exact ⟨(0), eR, H', ⟨Nat.le_refl _⟩, ⟨qQ BK258⟩, ⟨bq⟩⟩
 case round =>
  clear H'
  try clear hcz3_0
  try clear hfz3_0
  obtain ⟨x8_1, rfl, HA, HK1, BK258, HB⟩ := hrel
  cases gk with
  | zero => exact absurd HA.out (by simp [Y42.l0])
  | succ k1 =>
   have H := HA.out
   clear HA
   simp only [Y42.l0] at H
   by_cases c4 : x8_1 < (l0_0.length : Int)
   ·rw [if_pos c4] at H
    have c4b0 := decide_eq_true c4
    clear c4
    replace H := iD2 H
    obtain ⟨c5b0, c6b0, H⟩ := H
    obtain ⟨ji7, hji7⟩ : ∃ j_ : Int, (wrap64 (((rd_L3 l0_0 x8_1).length : Int) - 1)) = j_ := ⟨_, rfl⟩
    replace H : (if 0 ≤ (ji7) then (if (ji7) < ((rd_L3 l0_0 x8_1).length : Int) then (if (rd (rd_L3 l0_0 x8_1) (ji7)) > 0 then (some x8_1) else (Y42.l0 k1 l0_0 (l0_0.length : Int) (wrap64 (x8_1 + 1)))) else (none)) else (none)) = some r := by first | (rw [hji7] at H; exact H) | (simp only [hji7] at H ⊢; exact H)
    have hji7w : (IntKind.i64.wrap (((rd_L3 l0_0 x8_1).length : Int) - 1)) = ji7 := (i64_w _).trans hji7
    replace H := iD2 H
    obtain ⟨c8b0, c9b0, H⟩ := H
    by_cases c10 : (rd (rd_L3 l0_0 x8_1) (ji7)) > 0
    ·rw [if_pos c10] at H
     have c10b0 := decide_eq_true c10
     clear c10
     obtain rfl := Option.some.inj H
     have p259 : 0 ≤ (x8_1 : Int) := odt
     have q259 : x8_1 < (l0_0.length : Int) := odt
     obtain ⟨ad259, A259_0, c259_0, e259, hx259_0, hl259_0, hi259_0⟩ := at_L3 HR0_0.out x8_1 p259 q259
     cases e259
     replace hx259_0 := (HB.out.cell (World.block_lt_of_cell? w _ hx259_0)).trans hx259_0
     have HR259_0 := aM hi259_0
     have HC259_0 := aM hl259_0
     clear hi259_0 hl259_0
     replace p259 := eq_true p259
     replace q259 := eq_true q259
     have p260 : 0 ≤ ((ji7) : Int) := odt
     have q260 : (ji7) < ((rd_L3 l0_0 x8_1).length : Int) := odt
     obtain ⟨ad260, e260, hx260_0⟩ := Kd.at_int HR259_0.out (ji7) p260 q260
     cases e260
     replace hx260_0 := (HB.out.cell (World.block_lt_of_cell? w _ hx260_0)).trans hx260_0
     replace p260 := eq_true p260
     replace q260 := eq_true q260
     go_wp2
     go_ret
     exact ⟨by first | rfl | (simp [errW_none, errW_some] <;> rfl) | (simp only [← hji7]; first | rfl | (simp [errW_none, errW_some] <;> rfl)) | (simp [*, errW_none, errW_some] <;> rfl), bq⟩
    ·rw [if_neg c10] at H
     have c10b0 := decide_eq_false c10
     clear c10
     have H' := aM H
     clear H
     have p259 : 0 ≤ (x8_1 : Int) := odt
     have q259 : x8_1 < (l0_0.length : Int) := odt
     obtain ⟨ad259, A259_0, c259_0, e259, hx259_0, hl259_0, hi259_0⟩ := at_L3 HR0_0.out x8_1 p259 q259
     cases e259
     replace hx259_0 := (HB.out.cell (World.block_lt_of_cell? w _ hx259_0)).trans hx259_0
     have HR259_0 := aM hi259_0
     have HC259_0 := aM hl259_0
     clear hi259_0 hl259_0
     replace p259 := eq_true p259
     replace q259 := eq_true q259
     have p260 : 0 ≤ ((ji7) : Int) := odt
     have q260 : (ji7) < ((rd_L3 l0_0 x8_1).length : Int) := odt
     obtain ⟨ad260, e260, hx260_0⟩ := Kd.at_int HR259_0.out (ji7) p260 q260
     cases e260
     replace hx260_0 := (HB.out.cell (World.block_lt_of_cell? w _ hx260_0)).trans hx260_0
     replace p260 := eq_true p260
     replace q260 := eq_true q260
     go_wp2
     go_roundg k1
     case measure => have := HK1.out; omega
     case rel => exact ⟨(wrap64 (x8_1 + 1)), eR, H', ⟨by have := HK1.out; omega⟩, ⟨qQ BK258⟩, ⟨bq⟩⟩
   ·rw [if_neg c4] at H
    have c4b0 := decide_eq_false c4
    clear c4
    obtain rfl := Option.some.inj H
    go_wp2
    go_ret
    exact ⟨eE, bq⟩
def Y56.f (l0 : List Int) : Option (List Int) := (some (([] : List Int) : List Int)).bind fun y261 => (if y261.length + l0.length < 17592186044416 then (some (y261 ++ l0)) else (none))
theorem Y56.calls (A0 : Option Addr) (c0 : Nat) (l0 : List Int) (r : List Int) (w : World) (hr0 : Kd.C (Kd.int .i64) w A0 l0.length l0) (hc0 : l0.length ≤ c0) (h : Y56.f l0 = some r) :
  Calls Tryz.prog 127 #[.slice A0 l0.length c0] w fun e w' => ∃ v0_ : Value, e = .returned (v0_) ∧ Kd.R (Kd.int .i64) 3 w' w.heap.size (fun _ => True) v0_ r ∧ Below w.heap.size w w' := by
 have HR0 := aM hr0
 have HC0 := aM hc0
 clear hr0 hc0
 have HB := aM (Below.refl w.heap.size w)
 unfold Y56.f at h
 have H := h
 clear h
 obtain ⟨y261, hy261⟩ := nE ((([] : List Int)) : List Int)
 try rw [← hy261] at H
 try with_reducible replace H := (Option.bind_some _ _).symm.trans H
 try dsimp only at H
 have Ny261 := aM hy261
 clear hy261
 replace H := iS H
 obtain ⟨c2, H⟩ := H
 have LMc2 := aM c2
 clear c2
 obtain ⟨y264, hy264⟩ := nE ((y261 ++ l0) : List Int)
 try rw [← hy264] at H
 try with_reducible replace H := (Option.bind_some _ _).symm.trans H
 try dsimp only at H
 have Ny264 := aM hy264
 clear hy264
 obtain rfl := Option.some.inj H
 go_enter Tryz.func127, Tryz.ntmps127
 go_wp2_with (first | ((with_reducible refine gate_dst (N := 3) rfl ?_); refine Kd.R_lit (Kd.int .i64) _ 3 ?hg (N := 3) ?hd (xs := ([] : List Int)) (inner := []) (ok := fun _ => True) (okp := fun _ => True) ?hr ?hp (fun _ hk => hk) trivial (Below.refl _ _) (Nat.le_refl _) (by simp) ?_; (case hd => rfl); (case hg => rfl); (case hr => first | (go_simp; done) | (go_simp; rfl)); (case hp => exact (Reps.none _ _)); intro v262 w3 ho4 hb hg_ hnew_; clear hg_ hnew_; (first | rw [← Ny261.out] at ho4 | (simp only [Int.reduceToNat] at ho4; rw [← Ny261.out] at ho4)); have _ := aM (Kd.R_lower ho4 (below_size bq)); have _ := bB hb; clear HB; rename_i HO263 HB; clear hb ho4) | ((with_reducible refine gate_builtin (b := .append) (xs := #[.tmp 3, .tmp 4]) rfl ?_); at_builtin; refine Kd.R_append_rows (Kd.int .i64) (w0 := w) w.heap.size rfl (.tmp 3) (.tmp 4) 24 3 (.int .i64 0) 8 rfl Tryz.underlying24 info3 rfl (by decide) (by omega) v262 y261 l0 _ _ _ (fun _ => True) (fun _ => False) rfl rfl ?aO ?aR (fun _ _ h => h) (fun _ h => h.elim) ?aF ?aB ?aS ?aL ?_; (case aR => repeat (first | exact (Kd.C_below HR0.out HB.out) | (with_reducible refine Kd.C_alloc ?_ _) | (with_reducible refine Kd.C_drewN ?_ _) | (with_reducible refine Kd.C_drew ?_))); (case aB => exact bq); (case aF => exact (fun _ _ => trivial)); (case aO => exact (rQ HO263)); (case aS => exact (below_size bq)); (case aL => have := LMc2.out; omega); intro v265 w5 ho hb hg hat; rw [← Ny264.out] at ho; have _ := aM (hb); have _ := aM (ho); clear HB HO263; rename_i HB HO266; clear ho hb hg hat))
 go_ret
 exact ⟨_, eE, rQ HO266, bq⟩
end Go.Proofs.YtcodionjhcmfhaaGreatDoor.Oa
