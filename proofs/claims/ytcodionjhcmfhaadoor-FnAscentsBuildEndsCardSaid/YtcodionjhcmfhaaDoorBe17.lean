-- Written by hook.py, a program of this session (wip/), which runs the kit's print.py with its own parts; Lean checks it.
import Derived.Test.YtcodionjhcmfhaaDoorBe0
import Derived.Test.YtcodionjhcmfhaaDoorBe5
import Derived.Test.YtcodionjhcmfhaaDoorBe16
import Derived.Test.YtcodionjhcmfhaaDoorBeXSq
namespace Go.Proofs.YtcodionjhcmfhaaDoor.Be
open Go.RowKit Go.Proofs.YtcodionjhcmfhaaDoorW.PrintWords Go.Proofs.YtcodionjhcmfhaaDoorW.PrintLast Go.Proofs.YtcodionjhcmfhaaDoorW.PrintMore Go.Proofs.YtcodionjhcmfhaaDoor.Sq
attribute [local go_sem] max2_int min2_int max_two min_two max_three min_three max_four min_four   -- for this text's walks alone
set_option linter.unusedVariables false
set_option linter.unusedSimpArgs false

mutual
def impl_build.l0 : Nat → List (S76) → Int → List Int → List (S76) → Int → Int → Option ((List (S76)))
 | 0, _, _, _, _, _, _ => none
 | k + 1, x0, x1, x5, x16, x17, x18 => if x18 < x17 then (if 0 ≤ x18 then (if x18 < (x16.length : Int) then (if x5.length < 17592186044416 then (impl_build.l0 k x0 x1 (x5 ++ [(rd_T76 x16 x18).f0]) x16 x17 (wrap64 (x18 + 1))) else (none)) else (none)) else (none)) else ((impl_different.f x5).bind fun t310 => (if (t310.length : Int) = 0 then (some (([(⟨0, 0⟩ : S76)] : List (S76)))) else (impl_build.l1 k x0 x1 (t310.length : Int) (t310.length : Int) x0 (x0.length : Int) 0)))
def impl_build.l1 : Nat → List (S76) → Int → Int → Int → List (S76) → Int → Int → Option ((List (S76)))
 | 0, _, _, _, _, _, _, _ => none
 | k + 1, x0, x1, x6, x9, x36, x37, x38 => if x38 < x37 then (if 0 ≤ x38 then (if x38 < (x36.length : Int) then (if ((rd_T76 x36 x38).f1) = (wrap64 (x9 - 1)) then (impl_build.l1 k x0 x1 (mn x6 ((rd_T76 x36 x38).f0)) x9 x36 x37 (wrap64 (x38 + 1))) else (impl_build.l1 k x0 x1 x6 x9 x36 x37 (wrap64 (x38 + 1)))) else (none)) else (none)) else ((impl_Interval.f x0).bind fun t318 => (if x1 ≤ x6 then (if t318.length < 8796093022208 then (some (t318 ++ [(⟨x1, wrap64 (x9 - 1)⟩ : S76)])) else (none)) else (impl_build.l2 k x1 x9 t318 x0 (x0.length : Int) 0)))
def impl_build.l2 : Nat → Int → Int → List (S76) → List (S76) → Int → Int → Option ((List (S76)))
 | 0, _, _, _, _, _, _ => none
 | k + 1, x1, x9, x12, x64, x65, x66 => if x66 < x65 then (if 0 ≤ x66 then (if x66 < (x64.length : Int) then (if ((rd_T76 x64 x66).f1) < x1 then (if ((rd_T76 x64 x66).f0) ≥ x1 then (if x66 < (x12.length : Int) then (impl_build.l2 k x1 x9 (x12.set (x66 : Int).toNat (⟨wrap64 (((rd_T76 x12 x66).f0) + 1), (rd_T76 x12 x66).f1⟩ : S76)) x64 x65 (wrap64 (x66 + 1))) else (none)) else (impl_build.l2 k x1 x9 x12 x64 x65 (wrap64 (x66 + 1)))) else (if ((rd_T76 x64 x66).f1) = (wrap64 (x9 - 1)) then (impl_build.j3 k x1 x9 x12 x66 x64 x65 x66 (decide (((rd_T76 x64 x66).f0) < x1)) ((rd_T76 x64 x66).f0) ((rd_T76 x64 x66).f1)) else (impl_build.j3 k x1 x9 x12 x66 x64 x65 x66 false ((rd_T76 x64 x66).f0) ((rd_T76 x64 x66).f1)))) else (none)) else (none)) else (if x12.length < 8796093022208 then (some (x12 ++ [(⟨x1, x9⟩ : S76)])) else (none))
def impl_build.j3 : Nat → Int → Int → List (S76) → Int → List (S76) → Int → Int → Bool → Int → Int → Option ((List (S76)))
 | 0, _, _, _, _, _, _, _, _, _, _ => none
 | k + 1, x1, x9, x12, x13, x64, x65, x66, x84, x329000, x329001 => if x84 = true then (if 0 ≤ x13 then (if x13 < (x12.length : Int) then ((some (x12.set (x13 : Int).toNat (⟨(rd_T76 x12 x13).f0, x1⟩ : S76) : List (S76))).bind fun y331 => (if x329000 ≥ x1 then (impl_build.l2 k x1 x9 (y331.set (x13 : Int).toNat (⟨wrap64 (((rd_T76 y331 x13).f0) + 1), (rd_T76 y331 x13).f1⟩ : S76)) x64 x65 (wrap64 (x66 + 1))) else (impl_build.l2 k x1 x9 y331 x64 x65 (wrap64 (x66 + 1))))) else (none)) else (none)) else (if 0 ≤ x13 then (if x13 < (x12.length : Int) then ((some (x12.set (x13 : Int).toNat (⟨(rd_T76 x12 x13).f0, wrap64 (((rd_T76 x12 x13).f1) + 1)⟩ : S76) : List (S76))).bind fun y335 => (if x329000 ≥ x1 then (impl_build.l2 k x1 x9 (y335.set (x13 : Int).toNat (⟨wrap64 (((rd_T76 y335 x13).f0) + 1), (rd_T76 y335 x13).f1⟩ : S76)) x64 x65 (wrap64 (x66 + 1))) else (impl_build.l2 k x1 x9 y335 x64 x65 (wrap64 (x66 + 1))))) else (none)) else (none))
end
def impl_build.f (k : Nat) (l0 : List (S76)) (a1 : Int) : Option ((List (S76))) := impl_build.l0 k l0 a1 (([] : List Int)) l0 (l0.length : Int) 0
set_option maxHeartbeats 8000000 in
set_option maxRecDepth 100000 in
theorem impl_build.calls (k : Nat) (A0 : Option Addr) (c0 : Nat) (l0 : List (S76)) (a1 : Int) (r : List (S76)) (w : World) (hr0 : Kd.C k76 w A0 l0.length l0) (hc0 : l0.length ≤ c0) (h : impl_build.f k l0 a1 = some r) :
  Calls Tryd.prog 81 #[.slice A0 l0.length c0, .int .i64 a1] w fun e w' => ∃ v0_ : Value, e = .returned (v0_) ∧ Kd.R k76 76 w' w.heap.size (fun _ => True) v0_ r ∧ Below w.heap.size w w' := by
 have hu76 := Tryd.underlying76
 have HR0 := aM hr0
 have HC0 := aM hc0
 clear hr0 hc0
 have HB := aM (Below.refl w.heap.size w)
 have H : (impl_build.l0 k l0 a1 (([] : List Int)) l0 (l0.length : Int) 0) = some r := h
 clear h
 obtain ⟨y302, hy302⟩ : ∃ y_ : List Int, y_ = (([] : List Int)) := ⟨_, rfl⟩
 replace H : (impl_build.l0 k l0 a1 y302 l0 (l0.length : Int) 0) = some r := by first | (rw [hy302]; with_reducible exact H) | (have H2_ := (Option.bind_some _ _).symm.trans H; rw [hy302]; with_reducible exact H2_) | (have H2_ := (Option.bind_some _ _).symm.trans H; with_reducible exact H2_) | with_reducible exact H | (rw [hy302]; exact H) | exact H
 have Ny302 := aM hy302
 clear hy302
 have H' := aM H
 clear H
 go_enter Tryd.func81, Tryd.ntmps81
 go_wp2_with (first | ((with_reducible refine gate_dst (N := 15) rfl ?_); refine Kd.R_lit (Kd.int .i64) _ 3 ?hg (N := 15) ?hd (xs := ([] : List Int)) (inner := []) (ok := fun _ => True) (okp := fun _ => True) ?hr ?hp (fun _ hk => hk) trivial (Below.refl _ _) (Nat.le_refl _) (by simp) ?_; (case hd => rfl); (case hg => rfl); (case hr => first | (go_simp; done) | (go_simp; rfl)); (case hp => exact (Reps.none _ _)); intro v303 w3 ho4 hb hg_ hnew_; clear hg_ hnew_; (first | rw [← Ny302.out] at ho4 | (simp only [Int.reduceToNat] at ho4; rw [← Ny302.out] at ho4)); have _ := aM (Kd.R_lower ho4 (below_size bq)); have _ := aM (below_step bq hb); clear HB; rename_i HO304 HB; clear hb ho4))
 go_loopg [5, 18] k (fun kq v5 v18 w' => ∃ (x5_1 : List Int) (x18_1 : Int), v18 = .int .i64 x18_1 ∧ Aside0 (impl_build.l0 kq l0 a1 x5_1 l0 (l0.length : Int) x18_1 = some r) ∧ Aside0 (kq ≤ k) ∧ Aside0 (Kd.R (Kd.int .i64) 3 w' w.heap.size (fun _ => True) v5 x5_1) ∧ Aside0 (Below w.heap.size w w'))
 case atStart => exact ⟨(y302), (0), eR, H', ⟨Nat.le_refl _⟩, ⟨rQ HO304⟩, ⟨bq⟩⟩
 case round =>
  clear H'
  try clear p2
  obtain ⟨x5_1, x18_1, rfl, HA, HK1, HO_5, HB⟩ := hrel
  cases gk with
  | zero => exact absurd HA.out (by simp [impl_build.l0])
  | succ k1 =>
   have H := HA.out
   clear HA
   simp only [impl_build.l0] at H
   by_cases c5 : x18_1 < (l0.length : Int)
   ·rw [if_pos c5] at H
    have c5b0 := decide_eq_true c5
    clear c5
    replace H := iD2 H
    obtain ⟨c6b0, c7b0, H⟩ := H
    replace H := iS H
    obtain ⟨c8, H⟩ := H
    have LMc8 := aM c8
    clear c8
    obtain ⟨y307, hy307⟩ : ∃ y_ : List Int, y_ = (x5_1 ++ [(rd_T76 l0 x18_1).f0]) := ⟨_, rfl⟩
    replace H : (impl_build.l0 k1 l0 a1 y307 l0 (l0.length : Int) (wrap64 (x18_1 + 1))) = some r := by first | (rw [hy307]; with_reducible exact H) | (have H2_ := (Option.bind_some _ _).symm.trans H; rw [hy307]; with_reducible exact H2_) | (have H2_ := (Option.bind_some _ _).symm.trans H; with_reducible exact H2_) | with_reducible exact H | (rw [hy307]; exact H) | exact H
    have Ny307 := aM hy307
    clear hy307
    have H' := aM H
    clear H
    have p305 : 0 ≤ (x18_1 : Int) := odt
    have q305 : x18_1 < (l0.length : Int) := odt
    obtain ⟨ad305, e305, hx305_0, hx305_1⟩ := at_T76 HR0.out x18_1 p305 q305
    cases e305
    replace hx305_0 := (HB.out.cell (World.block_lt_of_cell? w _ hx305_0)).trans hx305_0
    replace hx305_1 := (HB.out.cell (World.block_lt_of_cell? w _ hx305_1)).trans hx305_1
    replace p305 := eq_true p305
    replace q305 := eq_true q305
    go_wp2_with (first | ((with_reducible refine gate_dst (N := 8) rfl ?_); refine bE 8 76 #[.int .i64 0, .int .i64 0] ?_; intro gb306 hg w9 hbox hb; have _ := aM (Kd.R_below (rQ HO_5) hb); have _ := aM (below_step bq hb); have _ := aM (hbox); have _ := aM ((gS hg)); have _ := aM ((gS hg)); clear HO_5 HB; rename_i HO_5 HB BK306 GW306 GE306; clear hb hbox hg; have hcz10_0 := zc20 BK306; have hcz10_1 := zc21 BK306; have hfz10_0 := blk_frozen BK306.out 0; have hfz10_1 := blk_frozen BK306.out 1) | ((with_reducible refine gate_builtin (b := .append) (xs := #[.tmp 22, .tmp 25]) rfl ?_); at_builtin; refine Kd.R_append (Kd.int .i64) (w0 := w) w.heap.size rfl (.tmp 22) (.tmp 25) 22 3 (.int .i64 0) 8 rfl Tryd.underlying22 info3 rfl (by decide) (by omega) u5 x5_1 ((rd_T76 l0 x18_1).f0) [.int .i64 ((rd_T76 l0 x18_1).f0)] (fun _ => True) (fun _ => False) rfl (by first | (go_simp; done) | (go_simp; rfl)) ?aP (fun _ hk => hk.elim) ?aF ?aO ?aB ?aS ?aL ?_; (case aP => exact rfl); (case aB => exact bq); (case aF => exact (fun _ _ => trivial)); (case aO => exact (by (with_reducible repeat first|apply rA|apply rN|apply rD); exact Kd.R_mono (Kd.R_far (p := ⟨gb306, 1, none⟩) (Kd.R_far (p := ⟨gb306, 0, none⟩) (Kd.R_types HO_5.out BK306.out (by decide)) (fun _ hk => hk.2) (.int .i64 ((rd_T76 l0 x18_1).f0))) (fun _ hk => hk.2) (.int .i64 ((rd_T76 l0 x18_1).f1))) (fun _ hk => trivial))); (case aS => exact (below_size bq)); (case aL => have := LMc8.out; omega); intro v308 w11 ho hb hg hat; rw [← Ny307.out] at ho; have _ := aM (blk_grown (g := gb306) (o := .cells #[.int .i64 ((rd_T76 l0 x18_1).f0), .int .i64 ((rd_T76 l0 x18_1).f1)] 76 (0, 0)) (by (with_reducible repeat first|apply qN|apply qD|apply qA); refine blk_put (cs := #[.int .i64 ((rd_T76 l0 x18_1).f0), .int .i64 0]) ?_ 1 _ rfl; (with_reducible repeat first|apply qN|apply qD|apply qA); refine blk_put (cs := #[.int .i64 0, .int .i64 0]) ?_ 0 _ rfl; (with_reducible repeat first|apply qN|apply qD|apply qA); exact BK306.out) hg (Kd.R_ne HO_5.out BK306.out (by decide))); have _ := aM (hb); have _ := aM (ho); clear BK306 HB HO_5; rename_i BK306 HB HO309; clear ho hb hg hat))
    go_roundg k1
    case measure => have := HK1.out; omega
    case rel => exact ⟨(y307), (wrap64 (x18_1 + 1)), eR, H', ⟨by have := HK1.out; omega⟩, ⟨rQ HO309⟩, ⟨bq⟩⟩
   ·rw [if_neg c5] at H
    have c5b0 := decide_eq_false c5
    clear c5
    replace H := bS H
    obtain ⟨t310, A12, H⟩ := H
    try dsimp only at H
    by_cases c13 : (t310.length : Int) = 0
    ·rw [if_pos c13] at H
     have c13b0 : ((t310.length : Int) == 0) = true := beq_iff_eq.mpr c13
     have c13b1 : ((t310.length : Int) != 0) = false := bne_eq_false_iff_eq.mpr c13
     clear c13
     obtain ⟨y313, hy313⟩ : ∃ y_ : List (S76), y_ = (([(⟨0, 0⟩ : S76)] : List (S76))) := ⟨_, rfl⟩
     replace H : (some y313) = some r := by first | (rw [hy313]; with_reducible exact H) | (have H2_ := (Option.bind_some _ _).symm.trans H; rw [hy313]; with_reducible exact H2_) | (have H2_ := (Option.bind_some _ _).symm.trans H; with_reducible exact H2_) | with_reducible exact H | (rw [hy313]; exact H) | exact H
     have Ny313 := aM hy313
     clear hy313
     obtain rfl := Option.some.inj H
     obtain ⟨Ao14, co14, eo14⟩ := Kd.R_slice HO_5.out
     subst eo14
     go_wp2_with (first | ((with_reducible refine gate_callee (f := 88) rfl ?_); refine gL (some 29) Tryd.func88 #[.slice Ao14 x5_1.length co14] ?_; (with_reducible refine (impl_different.calls _ _ x5_1 t310 _ (cQ ((Kd.R_reads' HO_5.out).2.2)) ((Kd.R_reads' HO_5.out).2.1) A12.out).mono ?_); rintro e w15 ⟨v311, rfl, ho0, hb⟩; refine ⟨_, rfl, ?_⟩; have _ := aM (Kd.R_elder' (rQ HO_5) (Kd.R_base ho0) hb); have _ := aM (Kd.R_lower (Kd.R_new' ho0 (Kd.R_lt (rQ HO_5))) (below_size bq)); have _ := aM (below_step bq hb); clear HO_5 HB; rename_i HO_5 HO312 HB; (try clear hb); (try clear hb2); (try clear hk); (try clear hi); (try clear ho0); obtain ⟨Ao16, co16, eo16⟩ := Kd.R_slice HO312.out; subst eo16) | ((with_reducible refine gate_dst (N := 34) rfl ?_); refine Kd.R_lit k76 _ 76 ?hg (N := 34) ?hd (xs := ([(⟨0, 0⟩ : S76)] : List (S76))) (inner := [.int .i64 0, .int .i64 0]) (ok := fun _ => True) (okp := fun _ => True) ?hr ?hp (fun _ hk => hk) trivial (Below.refl _ _) (Nat.le_refl _) (by simp) ?_; (case hd => rfl); (case hg => rfl); (case hr => first | (go_simp; done) | (go_simp; rfl)); (case hp => exact (Reps.c2 (show Kd.M k76 _ _ _ (⟨0, 0⟩ : S76) [.int .i64 0, .int .i64 0] from (k76_mkM _ _ _ (⟨0, 0⟩ : S76) )) (Reps.none _ _))); intro v314 w17 ho18 hb hg_ hnew_; clear hg_ hnew_; (first | rw [← Ny313.out] at ho18 | (simp only [Int.reduceToNat] at ho18; rw [← Ny313.out] at ho18)); have _ := aM (Kd.R_below (rQ HO_5) hb); have _ := aM (Kd.R_below (rQ HO312) hb); have _ := aM (Kd.R_lower ho18 (below_size bq)); have _ := aM (below_step bq hb); clear HO_5 HO312 HB; rename_i HO_5 HO312 HO315 HB; clear hb ho18))
     go_ret
     exact ⟨_, eE, rQ HO315, bq⟩
    ·rw [if_neg c13] at H
     have c13b0 : ((t310.length : Int) == 0) = false := beq_eq_false_iff_ne.mpr c13
     have c13b1 : ((t310.length : Int) != 0) = true := bne_iff_ne.mpr c13
     have c13b2 : ¬ (t310 = []) := fun h_ => c13 (by rw [h_]; rfl)
     have H' := aM H
     clear H
     obtain ⟨Ao19, co19, eo19⟩ := Kd.R_slice HO_5.out
     subst eo19
     go_wp2_with (first | ((with_reducible refine gate_callee (f := 88) rfl ?_); refine gL (some 29) Tryd.func88 #[.slice Ao19 x5_1.length co19] ?_; (with_reducible refine (impl_different.calls _ _ x5_1 t310 _ (cQ ((Kd.R_reads' HO_5.out).2.2)) ((Kd.R_reads' HO_5.out).2.1) A12.out).mono ?_); rintro e w20 ⟨v311, rfl, ho0, hb⟩; refine ⟨_, rfl, ?_⟩; have _ := aM (Kd.R_elder' (rQ HO_5) (Kd.R_base ho0) hb); have _ := aM (Kd.R_lower (Kd.R_new' ho0 (Kd.R_lt (rQ HO_5))) (below_size bq)); have _ := aM (below_step bq hb); clear HO_5 HB; rename_i HO_5 HO312 HB; (try clear hb); (try clear hb2); (try clear hk); (try clear hi); (try clear ho0); obtain ⟨Ao21, co21, eo21⟩ := Kd.R_slice HO312.out; subst eo21))
     go_loopg [6, 38] k1 (fun kq v6 v38 w' => ∃ (x6_2 : Int) (x38_2 : Int), v6 = .int .i64 x6_2 ∧ v38 = .int .i64 x38_2 ∧ Aside0 (impl_build.l1 kq l0 a1 x6_2 (t310.length : Int) l0 (l0.length : Int) x38_2 = some r) ∧ Aside0 (kq ≤ k1) ∧ Aside0 (Below w.heap.size w w'))
     case atStart => exact ⟨((t310.length : Int)), (0), eR, eR, H', ⟨Nat.le_refl _⟩, ⟨bq⟩⟩
     case round =>
      clear H'
      try clear c1
      try clear c2
      try clear p2
      try clear p3
      try clear q3
      try clear hx3
      try clear c5
      try clear c5b0
      try clear c6
      try clear c6b0
      try clear p6
      try clear c7
      try clear c7b0
      try clear c8
      try clear c13
      try clear c13b0
      try clear c13b1
      try clear c13b2
      try clear hcz10_0
      try clear hcz10_1
      try clear hfz10_0
      try clear hfz10_1
      try clear hx305_0
      try clear hx305_1
      try clear p2
      try clear p305
      try clear q305
      obtain ⟨x6_2, x38_2, rfl, rfl, HA, HK2, HB⟩ := hrel
      cases gk with
      | zero => exact absurd HA.out (by simp [impl_build.l1])
      | succ k2 =>
       have H := HA.out
       clear HA
       simp only [impl_build.l1] at H
       by_cases c22 : x38_2 < (l0.length : Int)
       ·rw [if_pos c22] at H
        have c22b0 := decide_eq_true c22
        clear c22
        replace H := iD2 H
        obtain ⟨c23b0, c24b0, H⟩ := H
        by_cases c25 : ((rd_T76 l0 x38_2).f1) = (wrap64 ((t310.length : Int) - 1))
        ·rw [if_pos c25] at H
         have c25b0 : (((rd_T76 l0 x38_2).f1) == (wrap64 ((t310.length : Int) - 1))) = true := beq_iff_eq.mpr c25
         have c25b1 : (((rd_T76 l0 x38_2).f1) != (wrap64 ((t310.length : Int) - 1))) = false := bne_eq_false_iff_eq.mpr c25
         clear c25
         obtain ⟨ji26, hji26⟩ : ∃ j_ : Int, (mn x6_2 ((rd_T76 l0 x38_2).f0)) = j_ := ⟨_, rfl⟩
         replace H : (impl_build.l1 k2 l0 a1 ji26 (t310.length : Int) l0 (l0.length : Int) (wrap64 (x38_2 + 1))) = some r := by first | (rw [hji26] at H; exact H) | (simp only [hji26] at H ⊢; exact H)
         have hji26_ : (if ((rd_T76 l0 x38_2).f0) < x6_2 then ((rd_T76 l0 x38_2).f0) else x6_2) = ji26 := hji26
         have H' := aM H
         clear H
         have p316 : 0 ≤ (x38_2 : Int) := odt
         have q316 : x38_2 < (l0.length : Int) := odt
         obtain ⟨ad316, e316, hx316_0, hx316_1⟩ := at_T76 HR0.out x38_2 p316 q316
         cases e316
         replace hx316_0 := (HB.out.cell (World.block_lt_of_cell? w _ hx316_0)).trans hx316_0
         replace hx316_1 := (HB.out.cell (World.block_lt_of_cell? w _ hx316_1)).trans hx316_1
         replace p316 := eq_true p316
         replace q316 := eq_true q316
         go_wp2_with (first | ((with_reducible refine gate_dst (N := 11) rfl ?_); refine bE 11 76 #[.int .i64 0, .int .i64 0] ?_; intro gb317 hg w27 hbox hb; have _ := aM (below_step bq hb); have _ := aM (hbox); have _ := aM ((gS hg)); have _ := aM ((gS hg)); clear HB; rename_i HB BK317 GW317 GE317; clear hb hbox hg; have hcz28_0 := zc20 BK317; have hcz28_1 := zc21 BK317; have hfz28_0 := blk_frozen BK317.out 0; have hfz28_1 := blk_frozen BK317.out 1))
         go_roundg k2
         case measure => have := HK1.out; have := HK2.out; omega
         case rel => exact ⟨(ji26), (wrap64 (x38_2 + 1)), (by first | rfl | (simp; done) | (simp only [← hji26] <;> (first | rfl | simp)) | (simp [*]; done)), eR, H', ⟨by have := HK1.out; have := HK2.out; omega⟩, ⟨bq⟩⟩
        ·rw [if_neg c25] at H
         have c25b0 : (((rd_T76 l0 x38_2).f1) == (wrap64 ((t310.length : Int) - 1))) = false := beq_eq_false_iff_ne.mpr c25
         have c25b1 : (((rd_T76 l0 x38_2).f1) != (wrap64 ((t310.length : Int) - 1))) = true := bne_iff_ne.mpr c25
         have H' := aM H
         clear H
         have p316 : 0 ≤ (x38_2 : Int) := odt
         have q316 : x38_2 < (l0.length : Int) := odt
         obtain ⟨ad316, e316, hx316_0, hx316_1⟩ := at_T76 HR0.out x38_2 p316 q316
         cases e316
         replace hx316_0 := (HB.out.cell (World.block_lt_of_cell? w _ hx316_0)).trans hx316_0
         replace hx316_1 := (HB.out.cell (World.block_lt_of_cell? w _ hx316_1)).trans hx316_1
         replace p316 := eq_true p316
         replace q316 := eq_true q316
         go_wp2_with (first | ((with_reducible refine gate_dst (N := 11) rfl ?_); refine bE 11 76 #[.int .i64 0, .int .i64 0] ?_; intro gb317 hg w29 hbox hb; have _ := aM (below_step bq hb); have _ := aM (hbox); have _ := aM ((gS hg)); have _ := aM ((gS hg)); clear HB; rename_i HB BK317 GW317 GE317; clear hb hbox hg; have hcz30_0 := zc20 BK317; have hcz30_1 := zc21 BK317; have hfz30_0 := blk_frozen BK317.out 0; have hfz30_1 := blk_frozen BK317.out 1))
         go_roundg k2
         case measure => have := HK1.out; have := HK2.out; omega
         case rel => exact ⟨(x6_2), (wrap64 (x38_2 + 1)), eR, eR, H', ⟨by have := HK1.out; have := HK2.out; omega⟩, ⟨bq⟩⟩
       ·rw [if_neg c22] at H
        have c22b0 := decide_eq_false c22
        clear c22
        replace H := bS H
        obtain ⟨t318, A31, H⟩ := H
        try dsimp only at H
        by_cases c32 : a1 ≤ x6_2
        ·rw [if_pos c32] at H
         have c32b0 := decide_eq_true c32
         clear c32
         replace H := iS H
         obtain ⟨c33, H⟩ := H
         have LMc33 := aM c33
         clear c33
         obtain ⟨y321, hy321⟩ : ∃ y_ : List (S76), y_ = (t318 ++ [(⟨a1, wrap64 ((t310.length : Int) - 1)⟩ : S76)]) := ⟨_, rfl⟩
         replace H : (some y321) = some r := by first | (rw [hy321]; with_reducible exact H) | (have H2_ := (Option.bind_some _ _).symm.trans H; rw [hy321]; with_reducible exact H2_) | (have H2_ := (Option.bind_some _ _).symm.trans H; with_reducible exact H2_) | with_reducible exact H | (rw [hy321]; exact H) | exact H
         have Ny321 := aM hy321
         clear hy321
         obtain rfl := Option.some.inj H
         go_wp2_with (first | ((with_reducible refine gate_callee (f := 116) rfl ?_); refine gL (some 53) Tryd.func116 #[.slice A0 l0.length c0] ?_; (with_reducible refine (impl_Interval.calls _ _ l0 t318 _ (cQ (Kd.C_below HR0.out HB.out)) HC0.out A31.out).mono ?_); rintro e w34 ⟨v319, rfl, ho0, hb⟩; refine ⟨_, rfl, ?_⟩; have _ := aM (Kd.R_lower ho0 (below_size bq)); have _ := aM (below_step bq hb); clear HB; rename_i HO320 HB; (try clear hb); (try clear hb2); (try clear hk); (try clear hi); (try clear ho0)) | ((with_reducible refine gate_builtin (b := .append) (xs := #[.tmp 57, .tmp 62]) rfl ?_); at_builtin; refine Kd.R_append k76 (w0 := w) w.heap.size rfl (.tmp 57) (.tmp 62) 48 76 (.agg #[(.int .i64 0), (.int .i64 0)]) 16 rfl Tryd.underlying48 info76 rfl (by decide) (by omega) v319 t318 (⟨a1, wrap64 ((t310.length : Int) - 1)⟩ : S76) [.int .i64 a1, .int .i64 (wrap64 ((t310.length : Int) - 1))] (fun _ => True) (fun _ => False) rfl rfl ?aP (fun _ hk => hk.elim) ?aF ?aO ?aB ?aS ?aL ?_; (case aP => exact k76_mkM _ _ _ (⟨a1, wrap64 ((t310.length : Int) - 1)⟩ : S76)); (case aB => exact bq); (case aF => exact (fun _ _ => trivial)); (case aO => exact (rQ HO320)); (case aS => exact (below_size bq)); (case aL => have := LMc33.out; omega); intro v322 w35 ho hb hg hat; rw [← Ny321.out] at ho; have _ := aM (hb); have _ := aM (ho); clear HB HO320; rename_i HB HO323; clear ho hb hg hat))
         go_ret
         exact ⟨_, eE, rQ HO323, bq⟩
        ·rw [if_neg c32] at H
         have c32b0 := decide_eq_false c32
         clear c32
         have H' := aM H
         clear H
         go_wp2_with (first | ((with_reducible refine gate_callee (f := 116) rfl ?_); refine gL (some 53) Tryd.func116 #[.slice A0 l0.length c0] ?_; (with_reducible refine (impl_Interval.calls _ _ l0 t318 _ (cQ (Kd.C_below HR0.out HB.out)) HC0.out A31.out).mono ?_); rintro e w36 ⟨v319, rfl, ho0, hb⟩; refine ⟨_, rfl, ?_⟩; have _ := aM (Kd.R_lower ho0 (below_size bq)); have _ := aM (below_step bq hb); clear HB; rename_i HO320 HB; (try clear hb); (try clear hb2); (try clear hk); (try clear hi); (try clear ho0)))
         go_loopg [66] k2 (fun kq v66 w' => ∃ (x12_3 : List (S76)) (x66_3 : Int), v66 = .int .i64 x66_3 ∧ Aside0 (impl_build.l2 kq a1 (t310.length : Int) x12_3 l0 (l0.length : Int) x66_3 = some r) ∧ Aside0 (kq ≤ k2) ∧ Aside0 (Kd.R k76 76 w' w.heap.size (fun _ => True) v319 x12_3) ∧ Aside0 (Below w.heap.size w w'))
         case atStart => exact ⟨(t318), (0), eR, H', ⟨Nat.le_refl _⟩, ⟨rQ HO320⟩, ⟨bq⟩⟩
         case round =>
          clear H'
          try clear c1
          try clear c2
          try clear p2
          try clear c3
          try clear p3
          try clear q3
          try clear hx3
          try clear c5
          try clear c5b0
          try clear c6
          try clear c6b0
          try clear p6
          try clear c7
          try clear c7b0
          try clear c8
          try clear c11
          try clear c13
          try clear c13b0
          try clear c13b1
          try clear c13b2
          try clear c22
          try clear c22b0
          try clear c23
          try clear c23b0
          try clear c24
          try clear c24b0
          try clear c25
          try clear c25b0
          try clear c25b1
          try clear p30
          try clear q30
          try clear hx30
          try clear p31
          try clear q31
          try clear hx31
          try clear c32
          try clear c32b0
          try clear c33
          try clear hcz10_0
          try clear hcz10_1
          try clear hcz28_0
          try clear hcz28_1
          try clear hcz30_0
          try clear hcz30_1
          try clear hfz10_0
          try clear hfz10_1
          try clear hfz28_0
          try clear hfz28_1
          try clear hfz30_0
          try clear hfz30_1
          try clear hx305_0
          try clear hx305_1
          try clear hx316_0
          try clear hx316_1
          try clear p2
          try clear p3
          try clear p305
          try clear p316
          try clear p6
          try clear q3
          try clear q305
          try clear q316
          obtain ⟨x12_3, x66_3, rfl, HA, HK3, HO_12, HB⟩ := hrel
          cases gk with
          | zero => exact absurd HA.out (by simp [impl_build.l2])
          | succ k3 =>
           have H := HA.out
           clear HA
           simp only [impl_build.l2] at H
           by_cases c37 : x66_3 < (l0.length : Int)
           ·rw [if_pos c37] at H
            have c37b0 := decide_eq_true c37
            clear c37
            replace H := iD2 H
            obtain ⟨c38b0, c39b0, H⟩ := H
            by_cases c40 : ((rd_T76 l0 x66_3).f1) < a1
            ·rw [if_pos c40] at H
             have c40b0 := decide_eq_true c40
             clear c40
             by_cases c41 : ((rd_T76 l0 x66_3).f0) ≥ a1
             ·rw [if_pos c41] at H
              have c41b0 := decide_eq_true c41
              clear c41
              replace H := iD H
              obtain ⟨c42b0, H⟩ := H
              obtain ⟨y330, hy330⟩ : ∃ y_ : List (S76), y_ = (x12_3.set (x66_3 : Int).toNat (⟨wrap64 (((rd_T76 x12_3 x66_3).f0) + 1), (rd_T76 x12_3 x66_3).f1⟩ : S76)) := ⟨_, rfl⟩
              replace H : (impl_build.l2 k3 a1 (t310.length : Int) y330 l0 (l0.length : Int) (wrap64 (x66_3 + 1))) = some r := by first | (rw [hy330]; with_reducible exact H) | (have H2_ := (Option.bind_some _ _).symm.trans H; rw [hy330]; with_reducible exact H2_) | (have H2_ := (Option.bind_some _ _).symm.trans H; with_reducible exact H2_) | with_reducible exact H | (rw [hy330]; exact H) | exact H
              have Ny330 := aM hy330
              clear hy330
              have H' := aM H
              clear H
              have p327 : 0 ≤ (x66_3 : Int) := odt
              have q327 : x66_3 < (l0.length : Int) := odt
              obtain ⟨ad327, e327, hx327_0, hx327_1⟩ := at_T76 HR0.out x66_3 p327 q327
              cases e327
              replace hx327_0 := (HB.out.cell (World.block_lt_of_cell? w _ hx327_0)).trans hx327_0
              replace hx327_1 := (HB.out.cell (World.block_lt_of_cell? w _ hx327_1)).trans hx327_1
              replace p327 := eq_true p327
              replace q327 := eq_true q327
              go_wp2_with (first | ((with_reducible refine gate_dst (N := 14) rfl ?_); refine bE 14 76 #[.int .i64 0, .int .i64 0] ?_; intro gb328 hg w44 hbox hb; have _ := aM (Kd.R_below (Kd.R_elderB (rQ HO_12) gb328 (Nat.le_of_eq hg.symm)) hb); have _ := aM (below_step bq hb); have _ := aM (hbox); have _ := aM ((gS hg)); have _ := aM ((gS hg)); clear HO_12 HB; rename_i HO_12 HB BK328 GW328 GE328; clear hb hbox hg; have hcz45_0 := zc20 BK328; have hcz45_1 := zc21 BK328; have hfz45_0 := blk_frozen BK328.out 0; have hfz45_1 := blk_frozen BK328.out 1) | ((with_reducible refine gate_store (t := 76) (p := 14) rfl ?_); refine sE ((w44.setCell ⟨gb328, 0, none⟩ (.int .i64 ((rd_T76 l0 x66_3).f0))).setCell ⟨gb328, 1, none⟩ (.int .i64 ((rd_T76 l0 x66_3).f1))) 76 14 ?_; intro w46 hw; have _ : Aside0 (Kd.R k76 76 w46 w.heap.size (fun k_ => k_ ≠ gb328) v319 x12_3) := ⟨(by rw [hw]; exact (by (with_reducible repeat first|apply rA|apply rN|apply rD); exact Kd.R_mono (Kd.R_far (p := ⟨gb328, 1, none⟩) (Kd.R_far (p := ⟨gb328, 0, none⟩) (Kd.R_mono HO_12.out (fun k_ hk => (⟨hk, hk.2⟩ : _ ∧ k_ ≠ gb328))) (fun _ hk => hk.2) (.int .i64 ((rd_T76 l0 x66_3).f0))) (fun _ hk => hk.2) (.int .i64 ((rd_T76 l0 x66_3).f1))) (fun _ hk => hk.1.2)))⟩; have _ : Aside0 (w46.heap[gb328]? = some (.cells #[.int .i64 ((rd_T76 l0 x66_3).f0), .int .i64 ((rd_T76 l0 x66_3).f1)] 76 (0, 0))) := ⟨(by rw [hw]; exact (by (with_reducible repeat first|apply qN|apply qD|apply qA); refine blk_put (cs := #[.int .i64 ((rd_T76 l0 x66_3).f0), .int .i64 0]) ?_ 1 _ rfl; (with_reducible repeat first|apply qN|apply qD|apply qA); refine blk_put (cs := #[.int .i64 0, .int .i64 0]) ?_ 0 _ rfl; (with_reducible repeat first|apply qN|apply qD|apply qA); exact BK328.out))⟩; have _ : Aside0 (Below w.heap.size w w46) := ⟨(by rw [hw]; exact bq)⟩; clear hw HO_12 BK328 HB; rename_i HO_12 BK328 HB; have hcz47_0 := zc20 BK328; have hcz47_1 := zc21 BK328; have hfz47_0 := blk_frozen BK328.out 0; have hfz47_1 := blk_frozen BK328.out 1; obtain ⟨Ao48, co48, eo48⟩ := Kd.R_slice HO_12.out; subst eo48; have p329 : 0 ≤ (x66_3 : Int) := odt; have q329 : x66_3 < (x12_3.length : Int) := odt; obtain ⟨ad329, e329, hx329_0, hx329_1⟩ := at_T76 (Kd.R_reads' HO_12.out).2.2 x66_3 p329 q329; cases e329; replace p329 := eq_true p329; replace q329 := eq_true q329; have p43 : 0 ≤ (x66_3 : Int) := odt; have q43 : (x66_3 : Int) < ((x12_3.length : Int) : Int) := odt; obtain ⟨go43, co43, eo43, gb43, gl43, cl43, HG43⟩ := Kd.R_form HO_12.out (by omega); (first | cases eo43 | (injection eo43 with ea_ en_ ec_; (first | subst ea_ | (injection ea_ with ea_; subst ea_)); subst ec_; clear en_)); have GB43 := aM gb43; have GG43 := aM HG43; clear gb43 gl43 HG43; (first | simp only [add_plain] at hx329_0 | skip); (first | simp only [add_plain] at hx329_1 | skip); obtain ⟨ce43, hcl43, hM43, hcc43, hfr43⟩ := Kd.R_elem HO_12.out z76 (x66_3 : Int) p43 q43; obtain rfl := k76_openM hM43; have hx43_0 : w46.cell? ⟨go43, (x66_3 : Int).toNat * 2, none⟩ = some (.int .i64 ((rd_T76 x12_3 x66_3).f0)) := hcc43 0 _ rfl; have hx43_1 : w46.cell? ⟨go43, (x66_3 : Int).toNat * 2 + 1, none⟩ = some (.int .i64 ((rd_T76 x12_3 x66_3).f1)) := hcc43 1 _ rfl; have hf43_0 : w46.frozen? ⟨go43, (x66_3 : Int).toNat * 2, none⟩ = false := hfr43 0; have hf43_1 : w46.frozen? ⟨go43, (x66_3 : Int).toNat * 2 + 1, none⟩ = false := hfr43 1; clear hcl43 hcc43 hfr43 hM43; replace p43 := eq_true p43; replace q43 := eq_true q43; have HX49 := aM (show Kd.R k76 76 w46 w.heap.size (fun k_ => k_ ≠ gb328) (.slice (some ⟨go43, 0, none⟩) x12_3.length co48) x12_3 from (rQ HO_12)); obtain ⟨ce49, hcl49, hM49, hcc49, hfr49⟩ := Kd.R_elem HX49.out z76 (x66_3 : Int) (odt) (by have h_ : (x66_3 : Int) < ((x12_3.length : Int) : Int) := odt; first | exact h_ | (have e_ := (Kd.R_reads' HO_12.out).1; omega) | simpa using h_); obtain rfl := k76_openM hM49; have HP49 := Kd.R_seg HX49.out (x66_3 : Int) (odt) (by have h_ : (x66_3 : Int) < ((x12_3.length : Int) : Int) := odt; first | exact h_ | (have e_ := (Kd.R_reads' HO_12.out).1; omega) | simpa using h_) (seg := [.int .i64 (wrap64 (((rd_T76 x12_3 x66_3).f0) + 1))]) (j := 0) hcl49 hcc49 (show 1 ≤ 2 from by decide) (x' := (⟨wrap64 (((rd_T76 x12_3 x66_3).f0) + 1), (rd_T76 x12_3 x66_3).f1⟩ : S76)) (k76_mkM _ _ _ (⟨wrap64 (((rd_T76 x12_3 x66_3).f0) + 1), (rd_T76 x12_3 x66_3).f1⟩ : S76) ) (fun _ hk => hk); have hx49_0 := hcc49 0 _ rfl; (try simp only [show (k76).sz = 2 from rfl, Nat.mul_one, Nat.add_zero] at hx49_0); have hf49_0 := hfr49 0; (try simp only [show (k76).sz = 2 from rfl, Nat.mul_one, Nat.add_zero] at hf49_0); clear hcl49 hcc49 hfr49 hM49) | ((with_reducible refine gate_store (t := 3) (p := 112) rfl ?_); refine sE (w46.setCell ⟨go43, (x66_3 : Int).toNat * 2, none⟩ (.int .i64 (wrap64 (((rd_T76 x12_3 x66_3).f0) + 1)))) 3 112 ?_; intro w50 hw; have hg : w46.grownBy w50 (some go43) := (by rw [hw]; exact HP49.2); have hp_ : Kd.R k76 76 w50 w.heap.size (fun k_ => k_ ≠ gb328) (.slice (some ⟨go43, 0, none⟩) x12_3.length co48) y330 := (by rw [hw, Ny330.out]; exact HP49.1); clear HP49; have _ := aM (hp_); have _ := aM (blk_grown (g := gb328) (o := .cells #[.int .i64 ((rd_T76 l0 x66_3).f0), .int .i64 ((rd_T76 l0 x66_3).f1)] 76 (0, 0)) (qQ BK328) hg (Kd.R_away HO_12.out (fun _ hk => hk))); have _ := aM ((by rw [hw]; exact below_set (HB.out) GB43.out : Below w.heap.size w w50)); clear HO_12 BK328 HB; rename_i HO_12 BK328 HB; clear hg hw hp_))
              go_roundg k3
              case measure => have := HK1.out; have := HK2.out; have := HK3.out; omega
              case rel => exact ⟨(y330), (wrap64 (x66_3 + 1)), eR, H', ⟨by have := HK1.out; have := HK2.out; have := HK3.out; omega⟩, ⟨by (with_reducible repeat first|apply rA|apply rN|apply rD); exact Kd.R_mono HO_12.out (fun _ hk => trivial)⟩, ⟨bq⟩⟩
             ·rw [if_neg c41] at H
              have c41b0 := decide_eq_false c41
              clear c41
              have H' := aM H
              clear H
              have p327 : 0 ≤ (x66_3 : Int) := odt
              have q327 : x66_3 < (l0.length : Int) := odt
              obtain ⟨ad327, e327, hx327_0, hx327_1⟩ := at_T76 HR0.out x66_3 p327 q327
              cases e327
              replace hx327_0 := (HB.out.cell (World.block_lt_of_cell? w _ hx327_0)).trans hx327_0
              replace hx327_1 := (HB.out.cell (World.block_lt_of_cell? w _ hx327_1)).trans hx327_1
              replace p327 := eq_true p327
              replace q327 := eq_true q327
              go_wp2_with (first | ((with_reducible refine gate_dst (N := 14) rfl ?_); refine bE 14 76 #[.int .i64 0, .int .i64 0] ?_; intro gb328 hg w51 hbox hb; have _ := aM (Kd.R_below (Kd.R_elderB (rQ HO_12) gb328 (Nat.le_of_eq hg.symm)) hb); have _ := aM (below_step bq hb); have _ := aM (hbox); have _ := aM ((gS hg)); have _ := aM ((gS hg)); clear HO_12 HB; rename_i HO_12 HB BK328 GW328 GE328; clear hb hbox hg; have hcz52_0 := zc20 BK328; have hcz52_1 := zc21 BK328; have hfz52_0 := blk_frozen BK328.out 0; have hfz52_1 := blk_frozen BK328.out 1))
              go_roundg k3
              case measure => have := HK1.out; have := HK2.out; have := HK3.out; omega
              case rel => exact ⟨(x12_3), (wrap64 (x66_3 + 1)), eR, H', ⟨by have := HK1.out; have := HK2.out; have := HK3.out; omega⟩, ⟨by (with_reducible repeat first|apply rA|apply rN|apply rD); exact Kd.R_mono (Kd.R_far (p := ⟨gb328, 1, none⟩) (Kd.R_far (p := ⟨gb328, 0, none⟩) (Kd.R_mono HO_12.out (fun k_ hk => (⟨hk, hk.2⟩ : _ ∧ k_ ≠ gb328))) (fun _ hk => hk.2) (.int .i64 ((rd_T76 l0 x66_3).f0))) (fun _ hk => hk.2) (.int .i64 ((rd_T76 l0 x66_3).f1))) (fun _ hk => trivial)⟩, ⟨bq⟩⟩
            ·rw [if_neg c40] at H
             have c40b0 := decide_eq_false c40
             clear c40
             have HC53 := aM H
             clear H
             have p327 : 0 ≤ (x66_3 : Int) := odt
             have q327 : x66_3 < (l0.length : Int) := odt
             obtain ⟨ad327, e327, hx327_0, hx327_1⟩ := at_T76 HR0.out x66_3 p327 q327
             cases e327
             replace hx327_0 := (HB.out.cell (World.block_lt_of_cell? w _ hx327_0)).trans hx327_0
             replace hx327_1 := (HB.out.cell (World.block_lt_of_cell? w _ hx327_1)).trans hx327_1
             replace p327 := eq_true p327
             replace q327 := eq_true q327
             go_upto_region 25 with (first | ((with_reducible refine gate_dst (N := 14) rfl ?_); refine bE 14 76 #[.int .i64 0, .int .i64 0] ?_; intro gb328 hg w54 hbox hb; have _ := aM (Kd.R_below (Kd.R_elderB (rQ HO_12) gb328 (Nat.le_of_eq hg.symm)) hb); have _ := aM (below_step bq hb); have _ := aM (hbox); have _ := aM ((gS hg)); have _ := aM ((gS hg)); clear HO_12 HB; rename_i HO_12 HB BK328 GW328 GE328; clear hb hbox hg; have hcz55_0 := zc20 BK328; have hcz55_1 := zc21 BK328; have hfz55_0 := blk_frozen BK328.out 0; have hfz55_1 := blk_frozen BK328.out 1))
             (try simp only [Act.put, List.setIfInBounds_toArray, List.set_cons_zero, List.set_cons_succ])
             go_cut [84] (fun v84 wc => ∃ (kq : Nat) (x84_52 : Bool), v84 = .bool x84_52 ∧ Aside0 (impl_build.j3 kq a1 (t310.length : Int) x12_3 x66_3 l0 (l0.length : Int) x66_3 x84_52 ((rd_T76 l0 x66_3).f0) ((rd_T76 l0 x66_3).f1) = some r) ∧ Aside0 (kq ≤ k3) ∧ Aside0 (Kd.R k76 76 wc w.heap.size (fun k_ => k_ ≠ gb328) v319 x12_3) ∧ Aside0 (wc.heap[gb328]? = some (.cells #[.int .i64 ((rd_T76 l0 x66_3).f0), .int .i64 ((rd_T76 l0 x66_3).f1)] 76 (0, 0))) ∧ Aside0 (Below w.heap.size w wc))
             case first =>
              have H := HC53.out
              clear HC53
              by_cases c56 : ((rd_T76 l0 x66_3).f1) = (wrap64 ((t310.length : Int) - 1))
              ·rw [if_pos c56] at H
               have c56b0 : (((rd_T76 l0 x66_3).f1) == (wrap64 ((t310.length : Int) - 1))) = true := beq_iff_eq.mpr c56
               have c56b1 : (((rd_T76 l0 x66_3).f1) != (wrap64 ((t310.length : Int) - 1))) = false := bne_eq_false_iff_eq.mpr c56
               clear c56
               (first | rw [c56b0] | (simp only [i64_w, i32_w]; rw [c56b0]) | skip)
               have H' := aM H
               clear H
               have hcz57_0 := zc20 BK328
               have hcz57_1 := zc21 BK328
               have hfz57_0 := blk_frozen BK328.out 0
               have hfz57_1 := blk_frozen BK328.out 1
               go_wp2
               go_meet
               case rel => exact ⟨_, (decide (((rd_T76 l0 x66_3).f0) < a1)), eR, H', ⟨by have := HK1.out; have := HK2.out; have := HK3.out; first | omega | exact Nat.le_refl _⟩, ⟨by (with_reducible repeat first|apply rA|apply rN|apply rD); exact Kd.R_mono (Kd.R_far (p := ⟨gb328, 1, none⟩) (Kd.R_far (p := ⟨gb328, 0, none⟩) (Kd.R_mono HO_12.out (fun k_ hk => (⟨hk, hk.2⟩ : _ ∧ k_ ≠ gb328))) (fun _ hk => hk.2) (.int .i64 ((rd_T76 l0 x66_3).f0))) (fun _ hk => hk.2) (.int .i64 ((rd_T76 l0 x66_3).f1))) (fun _ hk => hk.1.2)⟩, ⟨by (with_reducible repeat first|apply qN|apply qD|apply qA); refine blk_put (cs := #[.int .i64 ((rd_T76 l0 x66_3).f0), .int .i64 0]) ?_ 1 _ rfl; (with_reducible repeat first|apply qN|apply qD|apply qA); refine blk_put (cs := #[.int .i64 0, .int .i64 0]) ?_ 0 _ rfl; (with_reducible repeat first|apply qN|apply qD|apply qA); exact BK328.out⟩, ⟨bq⟩⟩
              ·rw [if_neg c56] at H
               have c56b0 : (((rd_T76 l0 x66_3).f1) == (wrap64 ((t310.length : Int) - 1))) = false := beq_eq_false_iff_ne.mpr c56
               have c56b1 : (((rd_T76 l0 x66_3).f1) != (wrap64 ((t310.length : Int) - 1))) = true := bne_iff_ne.mpr c56
               (first | rw [c56b0] | (simp only [i64_w, i32_w]; rw [c56b0]) | skip)
               have H' := aM H
               clear H
               have hcz58_0 := zc20 BK328
               have hcz58_1 := zc21 BK328
               have hfz58_0 := blk_frozen BK328.out 0
               have hfz58_1 := blk_frozen BK328.out 1
               go_wp2
               go_meet
               case rel => exact ⟨_, (false), eR, H', ⟨by have := HK1.out; have := HK2.out; have := HK3.out; first | omega | exact Nat.le_refl _⟩, ⟨by (with_reducible repeat first|apply rA|apply rN|apply rD); exact Kd.R_mono (Kd.R_far (p := ⟨gb328, 1, none⟩) (Kd.R_far (p := ⟨gb328, 0, none⟩) (Kd.R_mono HO_12.out (fun k_ hk => (⟨hk, hk.2⟩ : _ ∧ k_ ≠ gb328))) (fun _ hk => hk.2) (.int .i64 ((rd_T76 l0 x66_3).f0))) (fun _ hk => hk.2) (.int .i64 ((rd_T76 l0 x66_3).f1))) (fun _ hk => hk.1.2)⟩, ⟨by (with_reducible repeat first|apply qN|apply qD|apply qA); refine blk_put (cs := #[.int .i64 ((rd_T76 l0 x66_3).f0), .int .i64 0]) ?_ 1 _ rfl; (with_reducible repeat first|apply qN|apply qD|apply qA); refine blk_put (cs := #[.int .i64 0, .int .i64 0]) ?_ 0 _ rfl; (with_reducible repeat first|apply qN|apply qD|apply qA); exact BK328.out⟩, ⟨bq⟩⟩
             case rest =>
              clear HC53
              try clear c1
              try clear c2
              try clear p2
              try clear c3
              try clear p3
              try clear q3
              try clear hx3
              try clear c4
              try clear p4
              try clear q4
              try clear hx4
              try clear hf4
              try clear c5
              try clear c5b0
              try clear c6
              try clear c6b0
              try clear p6
              try clear c7
              try clear c7b0
              try clear c8
              try clear c11
              try clear c13
              try clear c13b0
              try clear c13b1
              try clear c13b2
              try clear c22
              try clear c22b0
              try clear c23
              try clear c23b0
              try clear c24
              try clear c24b0
              try clear c25
              try clear c25b0
              try clear c25b1
              try clear p30
              try clear q30
              try clear hx30
              try clear p31
              try clear q31
              try clear hx31
              try clear c32
              try clear c32b0
              try clear p32
              try clear q32
              try clear hx32
              try clear c33
              try clear c37
              try clear c37b0
              try clear c38
              try clear c38b0
              try clear c39
              try clear c39b0
              try clear c40
              try clear c40b0
              try clear c41
              try clear c41b0
              try clear c42
              try clear c42b0
              try clear c43
              try clear p43
              try clear q43
              try clear hx43
              try clear hf43
              try clear c49
              try clear hx49
              try clear hf49
              try clear c56
              try clear c56b0
              try clear c56b1
              try clear hcz10_0
              try clear hcz10_1
              try clear hcz28_0
              try clear hcz28_1
              try clear hcz30_0
              try clear hcz30_1
              try clear hcz45_0
              try clear hcz45_1
              try clear hcz47_0
              try clear hcz47_1
              try clear hcz52_0
              try clear hcz52_1
              try clear hcz55_0
              try clear hcz55_1
              try clear hcz57_0
              try clear hcz57_1
              try clear hcz58_0
              try clear hcz58_1
              try clear hfz10_0
              try clear hfz10_1
              try clear hfz28_0
              try clear hfz28_1
              try clear hfz30_0
              try clear hfz30_1
              try clear hfz45_0
              try clear hfz45_1
              try clear hfz47_0
              try clear hfz47_1
              try clear hfz52_0
              try clear hfz52_1
              try clear hfz55_0
              try clear hfz55_1
              try clear hfz57_0
              try clear hfz57_1
              try clear hfz58_0
              try clear hfz58_1
              try clear hx305_0
              try clear hx305_1
              try clear hx316_0
              try clear hx316_1
              try clear hx327_0
              try clear hx327_1
              try clear hx329_0
              try clear hx329_1
              try clear hx43_0
              try clear hx43_1
              try clear hx49_0
              try clear p2
              try clear p3
              try clear p30
              try clear p305
              try clear p31
              try clear p316
              try clear p327
              try clear p329
              try clear p43
              try clear p6
              try clear q3
              try clear q30
              try clear q305
              try clear q31
              try clear q316
              try clear q327
              try clear q329
              try clear q43
              obtain ⟨kq, x84_52, rfl, HA, HJ52, HO_12, BK328, HB⟩ := hcut
              cases kq with
              | zero => exact absurd HA.out (by simp [impl_build.j3])
              | succ kj52 =>
               have H := HA.out
               clear HA
               simp only [impl_build.j3] at H
               by_cases c59 : x84_52 = true
               ·subst c59
                have H1 : (if 0 ≤ x66_3 then (if x66_3 < (x12_3.length : Int) then ((some (x12_3.set (x66_3 : Int).toNat (⟨(rd_T76 x12_3 x66_3).f0, a1⟩ : S76) : List (S76))).bind fun y331 => (if ((rd_T76 l0 x66_3).f0) ≥ a1 then (impl_build.l2 kj52 a1 (t310.length : Int) (y331.set (x66_3 : Int).toNat (⟨wrap64 (((rd_T76 y331 x66_3).f0) + 1), (rd_T76 y331 x66_3).f1⟩ : S76)) l0 (l0.length : Int) (wrap64 (x66_3 + 1))) else (impl_build.l2 kj52 a1 (t310.length : Int) y331 l0 (l0.length : Int) (wrap64 (x66_3 + 1))))) else (none)) else (none)) = some r := by rw [if_pos rfl] at H; exact H
                clear H
                have H := H1
                clear H1
                replace H := iD2 H
                obtain ⟨c60b0, c61b0, H⟩ := H
                obtain ⟨y331, hy331⟩ : ∃ y_ : List (S76), y_ = (x12_3.set (x66_3 : Int).toNat (⟨(rd_T76 x12_3 x66_3).f0, a1⟩ : S76)) := ⟨_, rfl⟩
                replace H : (if ((rd_T76 l0 x66_3).f0) ≥ a1 then (impl_build.l2 kj52 a1 (t310.length : Int) (y331.set (x66_3 : Int).toNat (⟨wrap64 (((rd_T76 y331 x66_3).f0) + 1), (rd_T76 y331 x66_3).f1⟩ : S76)) l0 (l0.length : Int) (wrap64 (x66_3 + 1))) else (impl_build.l2 kj52 a1 (t310.length : Int) y331 l0 (l0.length : Int) (wrap64 (x66_3 + 1)))) = some r := by first | (rw [hy331]; with_reducible exact H) | (have H2_ := (Option.bind_some _ _).symm.trans H; rw [hy331]; with_reducible exact H2_) | (have H2_ := (Option.bind_some _ _).symm.trans H; with_reducible exact H2_) | with_reducible exact H | (rw [hy331]; exact H) | exact H
                have Ny331 := aM hy331
                clear hy331
                by_cases c63 : ((rd_T76 l0 x66_3).f0) ≥ a1
                ·rw [if_pos c63] at H
                 have c63b0 := decide_eq_true c63
                 clear c63
                 obtain ⟨y333, hy333⟩ : ∃ y_ : List (S76), y_ = (y331.set (x66_3 : Int).toNat (⟨wrap64 (((rd_T76 y331 x66_3).f0) + 1), (rd_T76 y331 x66_3).f1⟩ : S76)) := ⟨_, rfl⟩
                 replace H : (impl_build.l2 kj52 a1 (t310.length : Int) y333 l0 (l0.length : Int) (wrap64 (x66_3 + 1))) = some r := by first | (rw [hy333]; with_reducible exact H) | (have H2_ := (Option.bind_some _ _).symm.trans H; rw [hy333]; with_reducible exact H2_) | (have H2_ := (Option.bind_some _ _).symm.trans H; with_reducible exact H2_) | with_reducible exact H | (rw [hy333]; exact H) | exact H
                 have Ny333 := aM hy333
                 clear hy333
                 have H' := aM H
                 clear H
                 have p62 : 0 ≤ (x66_3 : Int) := odt
                 have q62 : (x66_3 : Int) < ((x12_3.length : Int) : Int) := odt
                 obtain ⟨go62, co62, eo62, gb62, gl62, cl62, HG62⟩ := Kd.R_form HO_12.out (by omega)
                 (first | cases eo62 | (injection eo62 with ea_ en_ ec_; (first | subst ea_ | (injection ea_ with ea_; subst ea_)); subst ec_; clear en_))
                 have GB62 := aM gb62
                 have GG62 := aM HG62
                 clear gb62 gl62 HG62
                 obtain ⟨ce62, hcl62, hM62, hcc62, hfr62⟩ := Kd.R_elem HO_12.out z76 (x66_3 : Int) p62 q62
                 obtain rfl := k76_openM hM62
                 have hx62_0 : wc.cell? ⟨go62, (x66_3 : Int).toNat * 2, none⟩ = some (.int .i64 ((rd_T76 x12_3 x66_3).f0)) := hcc62 0 _ rfl
                 have hx62_1 : wc.cell? ⟨go62, (x66_3 : Int).toNat * 2 + 1, none⟩ = some (.int .i64 ((rd_T76 x12_3 x66_3).f1)) := hcc62 1 _ rfl
                 have hf62_0 : wc.frozen? ⟨go62, (x66_3 : Int).toNat * 2, none⟩ = false := hfr62 0
                 have hf62_1 : wc.frozen? ⟨go62, (x66_3 : Int).toNat * 2 + 1, none⟩ = false := hfr62 1
                 clear hcl62 hcc62 hfr62 hM62
                 replace p62 := eq_true p62
                 replace q62 := eq_true q62
                 have HX65 := aM (show Kd.R k76 76 wc w.heap.size (fun k_ => k_ ≠ gb328) (.slice (some ⟨go62, 0, none⟩) x12_3.length co62) x12_3 from (rQ HO_12))
                 obtain ⟨ce65, hcl65, hM65, hcc65, hfr65⟩ := Kd.R_elem HX65.out z76 (x66_3 : Int) (odt) (by have h_ : (x66_3 : Int) < ((x12_3.length : Int) : Int) := odt; first | exact h_ | (have e_ := (Kd.R_reads' HO_12.out).1; omega) | simpa using h_)
                 obtain rfl := k76_openM hM65
                 have HP65 := Kd.R_seg HX65.out (x66_3 : Int) (odt) (by have h_ : (x66_3 : Int) < ((x12_3.length : Int) : Int) := odt; first | exact h_ | (have e_ := (Kd.R_reads' HO_12.out).1; omega) | simpa using h_) (seg := [.int .i64 a1]) (j := 1) hcl65 hcc65 (show 2 ≤ 2 from by decide) (x' := (⟨(rd_T76 x12_3 x66_3).f0, a1⟩ : S76)) (k76_mkM _ _ _ (⟨(rd_T76 x12_3 x66_3).f0, a1⟩ : S76) ) (fun _ hk => hk)
                 have hx65_1 := hcc65 1 _ rfl
                 (try simp only [show (k76).sz = 2 from rfl, Nat.mul_one, Nat.add_zero] at hx65_1)
                 have hf65_1 := hfr65 1
                 (try simp only [show (k76).sz = 2 from rfl, Nat.mul_one, Nat.add_zero] at hf65_1)
                 clear hcl65 hcc65 hfr65 hM65
                 go_wp2_with (first | ((with_reducible refine gate_store (t := 3) (p := 100) rfl ?_); refine sE (wc.setCell ⟨go62, (x66_3 : Int).toNat * 2 + 1, none⟩ (.int .i64 a1)) 3 100 ?_; intro w66 hw; have hg : wc.grownBy w66 (some go62) := (by rw [hw]; exact HP65.2); have hp_ : Kd.R k76 76 w66 w.heap.size (fun k_ => k_ ≠ gb328) (.slice (some ⟨go62, 0, none⟩) x12_3.length co62) y331 := (by rw [hw, Ny331.out]; exact HP65.1); clear HP65; have _ := aM (hp_); have _ := aM (blk_grown (g := gb328) (o := .cells #[.int .i64 ((rd_T76 l0 x66_3).f0), .int .i64 ((rd_T76 l0 x66_3).f1)] 76 (0, 0)) (qQ BK328) hg (Kd.R_away HO_12.out (fun _ hk => hk))); have _ := aM ((by rw [hw]; exact below_set (HB.out) GB62.out : Below w.heap.size w w66)); clear HO_12 BK328 HB; rename_i HO_12 BK328 HB; clear hg hw hp_; have hcz67_0 := zc20 BK328; have hcz67_1 := zc21 BK328; have hfz67_0 := blk_frozen BK328.out 0; have hfz67_1 := blk_frozen BK328.out 1; have p332 : 0 ≤ (x66_3 : Int) := odt; have q332 : x66_3 < (y331.length : Int) := (by have h_ : (x66_3 : Int) < ((x12_3.length : Int) : Int) := odt; first | (have e_ := (Kd.R_reads' HO_12.out).1; omega) | simpa only [Ny331.out, List.length_set] using h_); have ql332 : ((x66_3 : Int) < ((x12_3.length : Int) : Int)) = True := eq_true (odt); obtain ⟨ad332, e332, hx332_0, hx332_1⟩ := at_T76 (Kd.R_reads' HO_12.out).2.2 x66_3 p332 q332; obtain rfl : (⟨go62, 0, none⟩ : Addr) = ad332 := (by injection e332); (first | simp only [add_plain] at hx332_0 | simp only [add_at] at hx332_0 | simp only [Addr.add, Nat.zero_add] at hx332_0 | skip); (first | simp only [add_plain] at hx332_1 | simp only [add_at] at hx332_1 | simp only [Addr.add, Nat.zero_add] at hx332_1 | skip); replace p332 := eq_true p332; replace q332 := eq_true q332; have p64 : 0 ≤ (x66_3 : Int) := odt; have q64 : (x66_3 : Int) < ((x12_3.length : Int) : Int) := odt; obtain ⟨ce64, hcl64, hM64, hcc64, hfr64⟩ := Kd.R_elem HO_12.out z76 (x66_3 : Int) p64 q64; obtain rfl := k76_openM hM64; have hx64_0 : w66.cell? ⟨go62, (x66_3 : Int).toNat * 2, none⟩ = some (.int .i64 ((rd_T76 y331 x66_3).f0)) := hcc64 0 _ rfl; have hx64_1 : w66.cell? ⟨go62, (x66_3 : Int).toNat * 2 + 1, none⟩ = some (.int .i64 ((rd_T76 y331 x66_3).f1)) := hcc64 1 _ rfl; have hf64_0 : w66.frozen? ⟨go62, (x66_3 : Int).toNat * 2, none⟩ = false := hfr64 0; have hf64_1 : w66.frozen? ⟨go62, (x66_3 : Int).toNat * 2 + 1, none⟩ = false := hfr64 1; clear hcl64 hcc64 hfr64 hM64; replace p64 := eq_true p64; replace q64 := eq_true q64; have HX68 := aM (show Kd.R k76 76 w66 w.heap.size (fun k_ => k_ ≠ gb328) (.slice (some ⟨go62, 0, none⟩) x12_3.length co62) y331 from (rQ HO_12)); obtain ⟨ce68, hcl68, hM68, hcc68, hfr68⟩ := Kd.R_elem HX68.out z76 (x66_3 : Int) (odt) (by have h_ : (x66_3 : Int) < ((x12_3.length : Int) : Int) := odt; first | exact h_ | (have e_ := (Kd.R_reads' HO_12.out).1; omega) | simpa using h_); obtain rfl := k76_openM hM68; have HP68 := Kd.R_seg HX68.out (x66_3 : Int) (odt) (by have h_ : (x66_3 : Int) < ((x12_3.length : Int) : Int) := odt; first | exact h_ | (have e_ := (Kd.R_reads' HO_12.out).1; omega) | simpa using h_) (seg := [.int .i64 (wrap64 (((rd_T76 y331 x66_3).f0) + 1))]) (j := 0) hcl68 hcc68 (show 1 ≤ 2 from by decide) (x' := (⟨wrap64 (((rd_T76 y331 x66_3).f0) + 1), (rd_T76 y331 x66_3).f1⟩ : S76)) (k76_mkM _ _ _ (⟨wrap64 (((rd_T76 y331 x66_3).f0) + 1), (rd_T76 y331 x66_3).f1⟩ : S76) ) (fun _ hk => hk); have hx68_0 := hcc68 0 _ rfl; (try simp only [show (k76).sz = 2 from rfl, Nat.mul_one, Nat.add_zero] at hx68_0); have hf68_0 := hfr68 0; (try simp only [show (k76).sz = 2 from rfl, Nat.mul_one, Nat.add_zero] at hf68_0); clear hcl68 hcc68 hfr68 hM68) | ((with_reducible refine gate_store (t := 3) (p := 112) rfl ?_); refine sE (w66.setCell ⟨go62, (x66_3 : Int).toNat * 2, none⟩ (.int .i64 (wrap64 (((rd_T76 y331 x66_3).f0) + 1)))) 3 112 ?_; intro w69 hw; have hg : w66.grownBy w69 (some go62) := (by rw [hw]; exact HP68.2); have hp_ : Kd.R k76 76 w69 w.heap.size (fun k_ => k_ ≠ gb328) (.slice (some ⟨go62, 0, none⟩) x12_3.length co62) y333 := (by rw [hw, Ny333.out]; exact HP68.1); clear HP68; have _ := aM (hp_); have _ := aM (blk_grown (g := gb328) (o := .cells #[.int .i64 ((rd_T76 l0 x66_3).f0), .int .i64 ((rd_T76 l0 x66_3).f1)] 76 (0, 0)) (qQ BK328) hg (Kd.R_away HO_12.out (fun _ hk => hk))); have _ := aM ((by rw [hw]; exact below_set (HB.out) GB62.out : Below w.heap.size w w69)); clear HO_12 BK328 HB; rename_i HO_12 BK328 HB; clear hg hw hp_))
                 go_roundg kj52
                 case measure => have := HK1.out; have := HK2.out; have := HK3.out; have := HJ52.out; omega
                 case rel => exact ⟨(y333), (wrap64 (x66_3 + 1)), eR, H', ⟨by have := HK1.out; have := HK2.out; have := HK3.out; have := HJ52.out; omega⟩, ⟨by (with_reducible repeat first|apply rA|apply rN|apply rD); exact Kd.R_mono HO_12.out (fun _ hk => trivial)⟩, ⟨bq⟩⟩
                ·rw [if_neg c63] at H
                 have c63b0 := decide_eq_false c63
                 clear c63
                 have H' := aM H
                 clear H
                 have p62 : 0 ≤ (x66_3 : Int) := odt
                 have q62 : (x66_3 : Int) < ((x12_3.length : Int) : Int) := odt
                 obtain ⟨go62, co62, eo62, gb62, gl62, cl62, HG62⟩ := Kd.R_form HO_12.out (by omega)
                 (first | cases eo62 | (injection eo62 with ea_ en_ ec_; (first | subst ea_ | (injection ea_ with ea_; subst ea_)); subst ec_; clear en_))
                 have GB62 := aM gb62
                 have GG62 := aM HG62
                 clear gb62 gl62 HG62
                 obtain ⟨ce62, hcl62, hM62, hcc62, hfr62⟩ := Kd.R_elem HO_12.out z76 (x66_3 : Int) p62 q62
                 obtain rfl := k76_openM hM62
                 have hx62_0 : wc.cell? ⟨go62, (x66_3 : Int).toNat * 2, none⟩ = some (.int .i64 ((rd_T76 x12_3 x66_3).f0)) := hcc62 0 _ rfl
                 have hx62_1 : wc.cell? ⟨go62, (x66_3 : Int).toNat * 2 + 1, none⟩ = some (.int .i64 ((rd_T76 x12_3 x66_3).f1)) := hcc62 1 _ rfl
                 have hf62_0 : wc.frozen? ⟨go62, (x66_3 : Int).toNat * 2, none⟩ = false := hfr62 0
                 have hf62_1 : wc.frozen? ⟨go62, (x66_3 : Int).toNat * 2 + 1, none⟩ = false := hfr62 1
                 clear hcl62 hcc62 hfr62 hM62
                 replace p62 := eq_true p62
                 replace q62 := eq_true q62
                 have HX70 := aM (show Kd.R k76 76 wc w.heap.size (fun k_ => k_ ≠ gb328) (.slice (some ⟨go62, 0, none⟩) x12_3.length co62) x12_3 from (rQ HO_12))
                 obtain ⟨ce70, hcl70, hM70, hcc70, hfr70⟩ := Kd.R_elem HX70.out z76 (x66_3 : Int) (odt) (by have h_ : (x66_3 : Int) < ((x12_3.length : Int) : Int) := odt; first | exact h_ | (have e_ := (Kd.R_reads' HO_12.out).1; omega) | simpa using h_)
                 obtain rfl := k76_openM hM70
                 have HP70 := Kd.R_seg HX70.out (x66_3 : Int) (odt) (by have h_ : (x66_3 : Int) < ((x12_3.length : Int) : Int) := odt; first | exact h_ | (have e_ := (Kd.R_reads' HO_12.out).1; omega) | simpa using h_) (seg := [.int .i64 a1]) (j := 1) hcl70 hcc70 (show 2 ≤ 2 from by decide) (x' := (⟨(rd_T76 x12_3 x66_3).f0, a1⟩ : S76)) (k76_mkM _ _ _ (⟨(rd_T76 x12_3 x66_3).f0, a1⟩ : S76) ) (fun _ hk => hk)
                 have hx70_1 := hcc70 1 _ rfl
                 (try simp only [show (k76).sz = 2 from rfl, Nat.mul_one, Nat.add_zero] at hx70_1)
                 have hf70_1 := hfr70 1
                 (try simp only [show (k76).sz = 2 from rfl, Nat.mul_one, Nat.add_zero] at hf70_1)
                 clear hcl70 hcc70 hfr70 hM70
                 go_wp2_with (first | ((with_reducible refine gate_store (t := 3) (p := 100) rfl ?_); refine sE (wc.setCell ⟨go62, (x66_3 : Int).toNat * 2 + 1, none⟩ (.int .i64 a1)) 3 100 ?_; intro w71 hw; have hg : wc.grownBy w71 (some go62) := (by rw [hw]; exact HP70.2); have hp_ : Kd.R k76 76 w71 w.heap.size (fun k_ => k_ ≠ gb328) (.slice (some ⟨go62, 0, none⟩) x12_3.length co62) y331 := (by rw [hw, Ny331.out]; exact HP70.1); clear HP70; have _ := aM (hp_); have _ := aM (blk_grown (g := gb328) (o := .cells #[.int .i64 ((rd_T76 l0 x66_3).f0), .int .i64 ((rd_T76 l0 x66_3).f1)] 76 (0, 0)) (qQ BK328) hg (Kd.R_away HO_12.out (fun _ hk => hk))); have _ := aM ((by rw [hw]; exact below_set (HB.out) GB62.out : Below w.heap.size w w71)); clear HO_12 BK328 HB; rename_i HO_12 BK328 HB; clear hg hw hp_; have hcz72_0 := zc20 BK328; have hcz72_1 := zc21 BK328; have hfz72_0 := blk_frozen BK328.out 0; have hfz72_1 := blk_frozen BK328.out 1))
                 go_roundg kj52
                 case measure => have := HK1.out; have := HK2.out; have := HK3.out; have := HJ52.out; omega
                 case rel => exact ⟨(y331), (wrap64 (x66_3 + 1)), eR, H', ⟨by have := HK1.out; have := HK2.out; have := HK3.out; have := HJ52.out; omega⟩, ⟨by (with_reducible repeat first|apply rA|apply rN|apply rD); exact Kd.R_mono HO_12.out (fun _ hk => trivial)⟩, ⟨bq⟩⟩
               ·replace c59 := Bool.eq_false_iff.mpr c59
                subst c59
                have H1 : (if 0 ≤ x66_3 then (if x66_3 < (x12_3.length : Int) then ((some (x12_3.set (x66_3 : Int).toNat (⟨(rd_T76 x12_3 x66_3).f0, wrap64 (((rd_T76 x12_3 x66_3).f1) + 1)⟩ : S76) : List (S76))).bind fun y335 => (if ((rd_T76 l0 x66_3).f0) ≥ a1 then (impl_build.l2 kj52 a1 (t310.length : Int) (y335.set (x66_3 : Int).toNat (⟨wrap64 (((rd_T76 y335 x66_3).f0) + 1), (rd_T76 y335 x66_3).f1⟩ : S76)) l0 (l0.length : Int) (wrap64 (x66_3 + 1))) else (impl_build.l2 kj52 a1 (t310.length : Int) y335 l0 (l0.length : Int) (wrap64 (x66_3 + 1))))) else (none)) else (none)) = some r := by rw [if_neg (show ¬ (false = true) by decide)] at H; exact H
                clear H
                have H := H1
                clear H1
                replace H := iD2 H
                obtain ⟨c73b0, c74b0, H⟩ := H
                obtain ⟨y335, hy335⟩ : ∃ y_ : List (S76), y_ = (x12_3.set (x66_3 : Int).toNat (⟨(rd_T76 x12_3 x66_3).f0, wrap64 (((rd_T76 x12_3 x66_3).f1) + 1)⟩ : S76)) := ⟨_, rfl⟩
                replace H : (if ((rd_T76 l0 x66_3).f0) ≥ a1 then (impl_build.l2 kj52 a1 (t310.length : Int) (y335.set (x66_3 : Int).toNat (⟨wrap64 (((rd_T76 y335 x66_3).f0) + 1), (rd_T76 y335 x66_3).f1⟩ : S76)) l0 (l0.length : Int) (wrap64 (x66_3 + 1))) else (impl_build.l2 kj52 a1 (t310.length : Int) y335 l0 (l0.length : Int) (wrap64 (x66_3 + 1)))) = some r := by first | (rw [hy335]; with_reducible exact H) | (have H2_ := (Option.bind_some _ _).symm.trans H; rw [hy335]; with_reducible exact H2_) | (have H2_ := (Option.bind_some _ _).symm.trans H; with_reducible exact H2_) | with_reducible exact H | (rw [hy335]; exact H) | exact H
                have Ny335 := aM hy335
                clear hy335
                by_cases c76 : ((rd_T76 l0 x66_3).f0) ≥ a1
                ·rw [if_pos c76] at H
                 have c76b0 := decide_eq_true c76
                 clear c76
                 obtain ⟨y337, hy337⟩ : ∃ y_ : List (S76), y_ = (y335.set (x66_3 : Int).toNat (⟨wrap64 (((rd_T76 y335 x66_3).f0) + 1), (rd_T76 y335 x66_3).f1⟩ : S76)) := ⟨_, rfl⟩
                 replace H : (impl_build.l2 kj52 a1 (t310.length : Int) y337 l0 (l0.length : Int) (wrap64 (x66_3 + 1))) = some r := by first | (rw [hy337]; with_reducible exact H) | (have H2_ := (Option.bind_some _ _).symm.trans H; rw [hy337]; with_reducible exact H2_) | (have H2_ := (Option.bind_some _ _).symm.trans H; with_reducible exact H2_) | with_reducible exact H | (rw [hy337]; exact H) | exact H
                 have Ny337 := aM hy337
                 clear hy337
                 have H' := aM H
                 clear H
                 obtain ⟨Ao78, co78, eo78⟩ := Kd.R_slice HO_12.out
                 subst eo78
                 have p334 : 0 ≤ (x66_3 : Int) := odt
                 have q334 : x66_3 < (x12_3.length : Int) := odt
                 obtain ⟨ad334, e334, hx334_0, hx334_1⟩ := at_T76 (Kd.R_reads' HO_12.out).2.2 x66_3 p334 q334
                 cases e334
                 replace p334 := eq_true p334
                 replace q334 := eq_true q334
                 have p75 : 0 ≤ (x66_3 : Int) := odt
                 have q75 : (x66_3 : Int) < ((x12_3.length : Int) : Int) := odt
                 obtain ⟨go75, co75, eo75, gb75, gl75, cl75, HG75⟩ := Kd.R_form HO_12.out (by omega)
                 (first | cases eo75 | (injection eo75 with ea_ en_ ec_; (first | subst ea_ | (injection ea_ with ea_; subst ea_)); subst ec_; clear en_))
                 have GB75 := aM gb75
                 have GG75 := aM HG75
                 clear gb75 gl75 HG75
                 (first | simp only [add_plain] at hx334_0 | skip)
                 (first | simp only [add_plain] at hx334_1 | skip)
                 obtain ⟨ce75, hcl75, hM75, hcc75, hfr75⟩ := Kd.R_elem HO_12.out z76 (x66_3 : Int) p75 q75
                 obtain rfl := k76_openM hM75
                 have hx75_0 : wc.cell? ⟨go75, (x66_3 : Int).toNat * 2, none⟩ = some (.int .i64 ((rd_T76 x12_3 x66_3).f0)) := hcc75 0 _ rfl
                 have hx75_1 : wc.cell? ⟨go75, (x66_3 : Int).toNat * 2 + 1, none⟩ = some (.int .i64 ((rd_T76 x12_3 x66_3).f1)) := hcc75 1 _ rfl
                 have hf75_0 : wc.frozen? ⟨go75, (x66_3 : Int).toNat * 2, none⟩ = false := hfr75 0
                 have hf75_1 : wc.frozen? ⟨go75, (x66_3 : Int).toNat * 2 + 1, none⟩ = false := hfr75 1
                 clear hcl75 hcc75 hfr75 hM75
                 replace p75 := eq_true p75
                 replace q75 := eq_true q75
                 have HX79 := aM (show Kd.R k76 76 wc w.heap.size (fun k_ => k_ ≠ gb328) (.slice (some ⟨go75, 0, none⟩) x12_3.length co78) x12_3 from (rQ HO_12))
                 obtain ⟨ce79, hcl79, hM79, hcc79, hfr79⟩ := Kd.R_elem HX79.out z76 (x66_3 : Int) (odt) (by have h_ : (x66_3 : Int) < ((x12_3.length : Int) : Int) := odt; first | exact h_ | (have e_ := (Kd.R_reads' HO_12.out).1; omega) | simpa using h_)
                 obtain rfl := k76_openM hM79
                 have HP79 := Kd.R_seg HX79.out (x66_3 : Int) (odt) (by have h_ : (x66_3 : Int) < ((x12_3.length : Int) : Int) := odt; first | exact h_ | (have e_ := (Kd.R_reads' HO_12.out).1; omega) | simpa using h_) (seg := [.int .i64 (wrap64 (((rd_T76 x12_3 x66_3).f1) + 1))]) (j := 1) hcl79 hcc79 (show 2 ≤ 2 from by decide) (x' := (⟨(rd_T76 x12_3 x66_3).f0, wrap64 (((rd_T76 x12_3 x66_3).f1) + 1)⟩ : S76)) (k76_mkM _ _ _ (⟨(rd_T76 x12_3 x66_3).f0, wrap64 (((rd_T76 x12_3 x66_3).f1) + 1)⟩ : S76) ) (fun _ hk => hk)
                 have hx79_1 := hcc79 1 _ rfl
                 (try simp only [show (k76).sz = 2 from rfl, Nat.mul_one, Nat.add_zero] at hx79_1)
                 have hf79_1 := hfr79 1
                 (try simp only [show (k76).sz = 2 from rfl, Nat.mul_one, Nat.add_zero] at hf79_1)
                 clear hcl79 hcc79 hfr79 hM79
                 go_wp2_with (first | ((with_reducible refine gate_store (t := 3) (p := 78) rfl ?_); refine sE (wc.setCell ⟨go75, (x66_3 : Int).toNat * 2 + 1, none⟩ (.int .i64 (wrap64 (((rd_T76 x12_3 x66_3).f1) + 1)))) 3 78 ?_; intro w80 hw; have hg : wc.grownBy w80 (some go75) := (by rw [hw]; exact HP79.2); have hp_ : Kd.R k76 76 w80 w.heap.size (fun k_ => k_ ≠ gb328) (.slice (some ⟨go75, 0, none⟩) x12_3.length co78) y335 := (by rw [hw, Ny335.out]; exact HP79.1); clear HP79; have _ := aM (hp_); have _ := aM (blk_grown (g := gb328) (o := .cells #[.int .i64 ((rd_T76 l0 x66_3).f0), .int .i64 ((rd_T76 l0 x66_3).f1)] 76 (0, 0)) (qQ BK328) hg (Kd.R_away HO_12.out (fun _ hk => hk))); have _ := aM ((by rw [hw]; exact below_set (HB.out) GB75.out : Below w.heap.size w w80)); clear HO_12 BK328 HB; rename_i HO_12 BK328 HB; clear hg hw hp_; have hcz81_0 := zc20 BK328; have hcz81_1 := zc21 BK328; have hfz81_0 := blk_frozen BK328.out 0; have hfz81_1 := blk_frozen BK328.out 1; have p336 : 0 ≤ (x66_3 : Int) := odt; have q336 : x66_3 < (y335.length : Int) := (by have h_ : (x66_3 : Int) < ((x12_3.length : Int) : Int) := odt; first | (have e_ := (Kd.R_reads' HO_12.out).1; omega) | simpa only [Ny335.out, List.length_set] using h_); have ql336 : ((x66_3 : Int) < ((x12_3.length : Int) : Int)) = True := eq_true (odt); obtain ⟨ad336, e336, hx336_0, hx336_1⟩ := at_T76 (Kd.R_reads' HO_12.out).2.2 x66_3 p336 q336; obtain rfl : (⟨go75, 0, none⟩ : Addr) = ad336 := (by injection e336); (first | simp only [add_plain] at hx336_0 | simp only [add_at] at hx336_0 | simp only [Addr.add, Nat.zero_add] at hx336_0 | skip); (first | simp only [add_plain] at hx336_1 | simp only [add_at] at hx336_1 | simp only [Addr.add, Nat.zero_add] at hx336_1 | skip); replace p336 := eq_true p336; replace q336 := eq_true q336; have p77 : 0 ≤ (x66_3 : Int) := odt; have q77 : (x66_3 : Int) < ((x12_3.length : Int) : Int) := odt; obtain ⟨ce77, hcl77, hM77, hcc77, hfr77⟩ := Kd.R_elem HO_12.out z76 (x66_3 : Int) p77 q77; obtain rfl := k76_openM hM77; have hx77_0 : w80.cell? ⟨go75, (x66_3 : Int).toNat * 2, none⟩ = some (.int .i64 ((rd_T76 y335 x66_3).f0)) := hcc77 0 _ rfl; have hx77_1 : w80.cell? ⟨go75, (x66_3 : Int).toNat * 2 + 1, none⟩ = some (.int .i64 ((rd_T76 y335 x66_3).f1)) := hcc77 1 _ rfl; have hf77_0 : w80.frozen? ⟨go75, (x66_3 : Int).toNat * 2, none⟩ = false := hfr77 0; have hf77_1 : w80.frozen? ⟨go75, (x66_3 : Int).toNat * 2 + 1, none⟩ = false := hfr77 1; clear hcl77 hcc77 hfr77 hM77; replace p77 := eq_true p77; replace q77 := eq_true q77; have HX82 := aM (show Kd.R k76 76 w80 w.heap.size (fun k_ => k_ ≠ gb328) (.slice (some ⟨go75, 0, none⟩) x12_3.length co78) y335 from (rQ HO_12)); obtain ⟨ce82, hcl82, hM82, hcc82, hfr82⟩ := Kd.R_elem HX82.out z76 (x66_3 : Int) (odt) (by have h_ : (x66_3 : Int) < ((x12_3.length : Int) : Int) := odt; first | exact h_ | (have e_ := (Kd.R_reads' HO_12.out).1; omega) | simpa using h_); obtain rfl := k76_openM hM82; have HP82 := Kd.R_seg HX82.out (x66_3 : Int) (odt) (by have h_ : (x66_3 : Int) < ((x12_3.length : Int) : Int) := odt; first | exact h_ | (have e_ := (Kd.R_reads' HO_12.out).1; omega) | simpa using h_) (seg := [.int .i64 (wrap64 (((rd_T76 y335 x66_3).f0) + 1))]) (j := 0) hcl82 hcc82 (show 1 ≤ 2 from by decide) (x' := (⟨wrap64 (((rd_T76 y335 x66_3).f0) + 1), (rd_T76 y335 x66_3).f1⟩ : S76)) (k76_mkM _ _ _ (⟨wrap64 (((rd_T76 y335 x66_3).f0) + 1), (rd_T76 y335 x66_3).f1⟩ : S76) ) (fun _ hk => hk); have hx82_0 := hcc82 0 _ rfl; (try simp only [show (k76).sz = 2 from rfl, Nat.mul_one, Nat.add_zero] at hx82_0); have hf82_0 := hfr82 0; (try simp only [show (k76).sz = 2 from rfl, Nat.mul_one, Nat.add_zero] at hf82_0); clear hcl82 hcc82 hfr82 hM82) | ((with_reducible refine gate_store (t := 3) (p := 112) rfl ?_); refine sE (w80.setCell ⟨go75, (x66_3 : Int).toNat * 2, none⟩ (.int .i64 (wrap64 (((rd_T76 y335 x66_3).f0) + 1)))) 3 112 ?_; intro w83 hw; have hg : w80.grownBy w83 (some go75) := (by rw [hw]; exact HP82.2); have hp_ : Kd.R k76 76 w83 w.heap.size (fun k_ => k_ ≠ gb328) (.slice (some ⟨go75, 0, none⟩) x12_3.length co78) y337 := (by rw [hw, Ny337.out]; exact HP82.1); clear HP82; have _ := aM (hp_); have _ := aM (blk_grown (g := gb328) (o := .cells #[.int .i64 ((rd_T76 l0 x66_3).f0), .int .i64 ((rd_T76 l0 x66_3).f1)] 76 (0, 0)) (qQ BK328) hg (Kd.R_away HO_12.out (fun _ hk => hk))); have _ := aM ((by rw [hw]; exact below_set (HB.out) GB75.out : Below w.heap.size w w83)); clear HO_12 BK328 HB; rename_i HO_12 BK328 HB; clear hg hw hp_))
                 go_roundg kj52
                 case measure => have := HK1.out; have := HK2.out; have := HK3.out; have := HJ52.out; omega
                 case rel => exact ⟨(y337), (wrap64 (x66_3 + 1)), eR, H', ⟨by have := HK1.out; have := HK2.out; have := HK3.out; have := HJ52.out; omega⟩, ⟨by (with_reducible repeat first|apply rA|apply rN|apply rD); exact Kd.R_mono HO_12.out (fun _ hk => trivial)⟩, ⟨bq⟩⟩
                ·rw [if_neg c76] at H
                 have c76b0 := decide_eq_false c76
                 clear c76
                 have H' := aM H
                 clear H
                 obtain ⟨Ao84, co84, eo84⟩ := Kd.R_slice HO_12.out
                 subst eo84
                 have p334 : 0 ≤ (x66_3 : Int) := odt
                 have q334 : x66_3 < (x12_3.length : Int) := odt
                 obtain ⟨ad334, e334, hx334_0, hx334_1⟩ := at_T76 (Kd.R_reads' HO_12.out).2.2 x66_3 p334 q334
                 cases e334
                 replace p334 := eq_true p334
                 replace q334 := eq_true q334
                 have p75 : 0 ≤ (x66_3 : Int) := odt
                 have q75 : (x66_3 : Int) < ((x12_3.length : Int) : Int) := odt
                 obtain ⟨go75, co75, eo75, gb75, gl75, cl75, HG75⟩ := Kd.R_form HO_12.out (by omega)
                 (first | cases eo75 | (injection eo75 with ea_ en_ ec_; (first | subst ea_ | (injection ea_ with ea_; subst ea_)); subst ec_; clear en_))
                 have GB75 := aM gb75
                 have GG75 := aM HG75
                 clear gb75 gl75 HG75
                 (first | simp only [add_plain] at hx334_0 | skip)
                 (first | simp only [add_plain] at hx334_1 | skip)
                 obtain ⟨ce75, hcl75, hM75, hcc75, hfr75⟩ := Kd.R_elem HO_12.out z76 (x66_3 : Int) p75 q75
                 obtain rfl := k76_openM hM75
                 have hx75_0 : wc.cell? ⟨go75, (x66_3 : Int).toNat * 2, none⟩ = some (.int .i64 ((rd_T76 x12_3 x66_3).f0)) := hcc75 0 _ rfl
                 have hx75_1 : wc.cell? ⟨go75, (x66_3 : Int).toNat * 2 + 1, none⟩ = some (.int .i64 ((rd_T76 x12_3 x66_3).f1)) := hcc75 1 _ rfl
                 have hf75_0 : wc.frozen? ⟨go75, (x66_3 : Int).toNat * 2, none⟩ = false := hfr75 0
                 have hf75_1 : wc.frozen? ⟨go75, (x66_3 : Int).toNat * 2 + 1, none⟩ = false := hfr75 1
                 clear hcl75 hcc75 hfr75 hM75
                 replace p75 := eq_true p75
                 replace q75 := eq_true q75
                 have HX85 := aM (show Kd.R k76 76 wc w.heap.size (fun k_ => k_ ≠ gb328) (.slice (some ⟨go75, 0, none⟩) x12_3.length co84) x12_3 from (rQ HO_12))
                 obtain ⟨ce85, hcl85, hM85, hcc85, hfr85⟩ := Kd.R_elem HX85.out z76 (x66_3 : Int) (odt) (by have h_ : (x66_3 : Int) < ((x12_3.length : Int) : Int) := odt; first | exact h_ | (have e_ := (Kd.R_reads' HO_12.out).1; omega) | simpa using h_)
                 obtain rfl := k76_openM hM85
                 have HP85 := Kd.R_seg HX85.out (x66_3 : Int) (odt) (by have h_ : (x66_3 : Int) < ((x12_3.length : Int) : Int) := odt; first | exact h_ | (have e_ := (Kd.R_reads' HO_12.out).1; omega) | simpa using h_) (seg := [.int .i64 (wrap64 (((rd_T76 x12_3 x66_3).f1) + 1))]) (j := 1) hcl85 hcc85 (show 2 ≤ 2 from by decide) (x' := (⟨(rd_T76 x12_3 x66_3).f0, wrap64 (((rd_T76 x12_3 x66_3).f1) + 1)⟩ : S76)) (k76_mkM _ _ _ (⟨(rd_T76 x12_3 x66_3).f0, wrap64 (((rd_T76 x12_3 x66_3).f1) + 1)⟩ : S76) ) (fun _ hk => hk)
                 have hx85_1 := hcc85 1 _ rfl
                 (try simp only [show (k76).sz = 2 from rfl, Nat.mul_one, Nat.add_zero] at hx85_1)
                 have hf85_1 := hfr85 1
                 (try simp only [show (k76).sz = 2 from rfl, Nat.mul_one, Nat.add_zero] at hf85_1)
                 clear hcl85 hcc85 hfr85 hM85
                 go_wp2_with (first | ((with_reducible refine gate_store (t := 3) (p := 78) rfl ?_); refine sE (wc.setCell ⟨go75, (x66_3 : Int).toNat * 2 + 1, none⟩ (.int .i64 (wrap64 (((rd_T76 x12_3 x66_3).f1) + 1)))) 3 78 ?_; intro w86 hw; have hg : wc.grownBy w86 (some go75) := (by rw [hw]; exact HP85.2); have hp_ : Kd.R k76 76 w86 w.heap.size (fun k_ => k_ ≠ gb328) (.slice (some ⟨go75, 0, none⟩) x12_3.length co84) y335 := (by rw [hw, Ny335.out]; exact HP85.1); clear HP85; have _ := aM (hp_); have _ := aM (blk_grown (g := gb328) (o := .cells #[.int .i64 ((rd_T76 l0 x66_3).f0), .int .i64 ((rd_T76 l0 x66_3).f1)] 76 (0, 0)) (qQ BK328) hg (Kd.R_away HO_12.out (fun _ hk => hk))); have _ := aM ((by rw [hw]; exact below_set (HB.out) GB75.out : Below w.heap.size w w86)); clear HO_12 BK328 HB; rename_i HO_12 BK328 HB; clear hg hw hp_; have hcz87_0 := zc20 BK328; have hcz87_1 := zc21 BK328; have hfz87_0 := blk_frozen BK328.out 0; have hfz87_1 := blk_frozen BK328.out 1))
                 go_roundg kj52
                 case measure => have := HK1.out; have := HK2.out; have := HK3.out; have := HJ52.out; omega
                 case rel => exact ⟨(y335), (wrap64 (x66_3 + 1)), eR, H', ⟨by have := HK1.out; have := HK2.out; have := HK3.out; have := HJ52.out; omega⟩, ⟨by (with_reducible repeat first|apply rA|apply rN|apply rD); exact Kd.R_mono HO_12.out (fun _ hk => trivial)⟩, ⟨bq⟩⟩
           ·rw [if_neg c37] at H
            have c37b0 := decide_eq_false c37
            clear c37
            replace H := iS H
            obtain ⟨c88, H⟩ := H
            have LMc88 := aM c88
            clear c88
            obtain ⟨y324, hy324⟩ : ∃ y_ : List (S76), y_ = (x12_3 ++ [(⟨a1, (t310.length : Int)⟩ : S76)]) := ⟨_, rfl⟩
            replace H : (some y324) = some r := by first | (rw [hy324]; with_reducible exact H) | (have H2_ := (Option.bind_some _ _).symm.trans H; rw [hy324]; with_reducible exact H2_) | (have H2_ := (Option.bind_some _ _).symm.trans H; with_reducible exact H2_) | with_reducible exact H | (rw [hy324]; exact H) | exact H
            have Ny324 := aM hy324
            clear hy324
            obtain rfl := Option.some.inj H
            go_wp2_with (first | ((with_reducible refine gate_builtin (b := .append) (xs := #[.tmp 114, .tmp 118]) rfl ?_); at_builtin; refine Kd.R_append k76 (w0 := w) w.heap.size rfl (.tmp 114) (.tmp 118) 48 76 (.agg #[(.int .i64 0), (.int .i64 0)]) 16 rfl Tryd.underlying48 info76 rfl (by decide) (by omega) v319 x12_3 (⟨a1, (t310.length : Int)⟩ : S76) [.int .i64 a1, .int .i64 (t310.length : Int)] (fun _ => True) (fun _ => False) rfl rfl ?aP (fun _ hk => hk.elim) ?aF ?aO ?aB ?aS ?aL ?_; (case aP => exact k76_mkM _ _ _ (⟨a1, (t310.length : Int)⟩ : S76)); (case aB => exact bq); (case aF => exact (fun _ _ => trivial)); (case aO => exact (rQ HO_12)); (case aS => exact (below_size bq)); (case aL => have := LMc88.out; omega); intro v325 w89 ho hb hg hat; rw [← Ny324.out] at ho; have _ := aM (hb); have _ := aM (ho); clear HB HO_12; rename_i HB HO326; clear ho hb hg hat))
            go_ret
            exact ⟨_, eE, rQ HO326, bq⟩

end Go.Proofs.YtcodionjhcmfhaaDoor.Be
