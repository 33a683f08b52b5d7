-- Written by hook.py, a program of this session (wip/), which runs the kit's print.py with its own parts; Lean checks it.
import Derived.Test.YtcodionjhcmfhaaGreatDoorAx0
import Derived.Test.YtcodionjhcmfhaaGreatDoorAx18
import Derived.Test.YtcodionjhcmfhaaGreatDoorAx20
import Derived.Test.YtcodionjhcmfhaaGreatDoorAxXSq
namespace Go.Proofs.YtcodionjhcmfhaaGreatDoor.Ax
open Go.RowKit Go.Proofs.YtcodionjhcmfhaaGreatDoorW.PrintWords Go.Proofs.YtcodionjhcmfhaaGreatDoorW.PrintLast Go.Proofs.YtcodionjhcmfhaaGreatDoorW.PrintMore Go.Proofs.YtcodionjhcmfhaaGreatDoor.Sq
attribute [local go_sem] max2_int min2_int max_two min_two max_three min_three max_four min_four   -- for this text's walks alone
set_option linter.unusedVariables false
set_option linter.unusedSimpArgs false

def spec_maAscent.l0 : Nat → List Int → List (List Int) → Option (List Int)
 | 0, _, _ => none
 | k + 1, x3, x445000 => if (x445000.length : Int) > 0 then ((spec_maShrink.f k x445000).bind fun bt445 => ((some (([bt445.2] : List Int) : List Int)).bind fun y450 => (if y450.length + x3.length < 17592186044416 then (spec_maAscent.l0 k (y450 ++ x3) bt445.1) else (none)))) else (some x3)
def spec_maAscent.f (k : Nat) (l0_0 : List (List Int)) : Option (List Int) := spec_maAscent.l0 k ([] : List Int) l0_0
set_option maxHeartbeats 8000000 in
set_option maxRecDepth 100000 in
theorem spec_maAscent.calls (k : Nat) (P0_0_ : Nat → Prop) (A0_0 : Option Addr) (c0_0 : Nat) (l0_0 : List (List Int)) (r : List Int) (w : World) (hs0_0 : Kd.V (Kd.slice 3 (Kd.int .i64)) 24 w w.heap.size (fun k_ => P0_0_ k_) (.slice A0_0 l0_0.length c0_0) l0_0) (h : spec_maAscent.f k l0_0 = some r) :
  Calls Tryz.prog 52 #[.agg #[.slice A0_0 l0_0.length c0_0]] w fun e w' => ∃ v0_ : Value, e = .returned (v0_) ∧ Kd.R (Kd.int .i64) 3 w' w.heap.size (fun k_ => (w.heap.size ≤ k_)) v0_ r ∧ Below w.heap.size w w' := by
 have hu30 := Tryz.underlying30
 have HO0_0 := aM (show Kd.V (Kd.slice 3 (Kd.int .i64)) 24 w w.heap.size (fun k_ => (P0_0_ k_ ∨ w.heap.size ≤ k_)) (.slice A0_0 l0_0.length c0_0) l0_0 from Kd.V_mono hs0_0 (fun k_ hk => .inl hk))
 have HB := aM (Below.refl w.heap.size w)
 have H : (spec_maAscent.l0 k ([] : List Int) l0_0) = some r := h
 clear h
 have H' := aM H
 clear H
 go_enter Tryz.func52, Tryz.ntmps52
 go_wp2_with (first | ((with_reducible refine gate_dst (N := 1) rfl ?_); refine bE 1 30 #[.slice A0_0 l0_0.length c0_0] ?_; intro gb444 hg w2 hbox hb; have _ := aM (Kd.V_below (Kd.V_elderB (by (with_reducible repeat (first | apply Kd.V_alloc | apply Kd.V_drewN | apply Kd.V_drew)); exact HO0_0.out) gb444 (Nat.le_of_eq hg.symm)) hb); have _ := aM (below_step bq hb); have _ := aM (hbox); have _ := aM ((gS hg)); have _ := aM ((gS hg)); clear HO0_0 HB; rename_i HO0_0 HB BK444 GW444 GE444; clear hb hbox hg))
 go_loopg [3] k (fun kq v3 w' => ∃ (x3_1 : List Int) (x445000_1 : List (List Int)) (u445000 : Value), Aside0 (spec_maAscent.l0 kq x3_1 x445000_1 = some r) ∧ Aside0 (kq ≤ k) ∧ Aside0 (Kd.R (Kd.int .i64) 3 w' w.heap.size (fun k_ => (w.heap.size ≤ k_)) v3 x3_1) ∧ Aside0 (Kd.V (Kd.slice 3 (Kd.int .i64)) 24 w' w.heap.size (fun k_ => (P0_0_ k_ ∨ w.heap.size ≤ k_) ∧ some k_ ≠ (v3 : Value).ownBlock ∧ k_ ≠ gb444) u445000 x445000_1) ∧ Aside0 (w'.heap[gb444]? = some (.cells #[u445000] 30 (0, 0))) ∧ Aside0 (Below w.heap.size w w'))
 case atStart => exact ⟨(([] : List Int)), (l0_0), (.slice A0_0 l0_0.length c0_0), H', ⟨Nat.le_refl _⟩, ⟨by first | exact Kd.R_nil _ _ _ _ _ | exact Kd.N_nil _ _ _ _ _ | exact Kd.V_nil _ _ _ _ _ | exact Kd.Q_nil _ _ _ _ _ | exact Kd.S_nil _ _ _ _ _⟩, ⟨by (with_reducible repeat (first | apply Kd.V_alloc | apply Kd.V_drewN | apply Kd.V_drew)); exact Kd.V_mono HO0_0.out (fun _ hk => ⟨hk.1, ⟨(by simp [Value.ownBlock]), hk.2⟩⟩)⟩, ⟨qQ BK444⟩, ⟨bq⟩⟩
 case round =>
  clear H'
  try clear p2
  obtain ⟨x3_1, x445000_1, u445000, HA, HK1, HO_3, HO_445000, BK444, HB⟩ := hrel
  cases gk with
  | zero => exact absurd HA.out (by simp [spec_maAscent.l0])
  | succ k1 =>
   have H := HA.out
   clear HA
   simp only [spec_maAscent.l0] at H
   by_cases c3 : (x445000_1.length : Int) > 0
   ·rw [if_pos c3] at H
    have c3b0 := decide_eq_true c3
    have c3b1 : decide (0 < x445000_1.length) = true := decide_eq_true (by omega)
    clear c3
    replace H := bS H
    obtain ⟨⟨t445, t448⟩, A4, H⟩ := H
    try dsimp only at H
    obtain ⟨y450, hy450⟩ : ∃ y_ : List Int, y_ = (([t448] : List Int)) := ⟨_, rfl⟩
    replace H : (if y450.length + x3_1.length < 17592186044416 then (spec_maAscent.l0 k1 (y450 ++ x3_1) t445) else (none)) = some r := by first | (rw [hy450]; with_reducible exact H) | (have H2_ := (Option.bind_some _ _).symm.trans H; rw [hy450]; with_reducible exact H2_) | (have H2_ := (Option.bind_some _ _).symm.trans H; with_reducible exact H2_) | with_reducible exact H | (rw [hy450]; exact H) | exact H
    have Ny450 := aM hy450
    clear hy450
    replace H := iS H
    obtain ⟨c5, H⟩ := H
    have LMc5 := aM c5
    clear c5
    obtain ⟨y453, hy453⟩ : ∃ y_ : List Int, y_ = (y450 ++ x3_1) := ⟨_, rfl⟩
    replace H : (spec_maAscent.l0 k1 y453 t445) = some r := by first | (rw [hy453]; with_reducible exact H) | (have H2_ := (Option.bind_some _ _).symm.trans H; rw [hy453]; with_reducible exact H2_) | (have H2_ := (Option.bind_some _ _).symm.trans H; with_reducible exact H2_) | with_reducible exact H | (rw [hy453]; exact H) | exact H
    have Ny453 := aM hy453
    clear hy453
    have H' := aM H
    clear H
    have hcz6_0 := c10 BK444
    have hfz6_0 := blk_frozen BK444.out 0
    obtain ⟨Ao7, co7, eo7⟩ := Kd.V_slice HO_445000.out
    subst eo7
    go_wp2_with (first | ((with_reducible refine gate_callee (f := 94) rfl ?_); refine gL (some 12) Tryz.func94 #[.agg #[.slice Ao7 x445000_1.length co7]] ?_; (with_reducible refine (spec_maShrink.calls k1 _ _ x445000_1 t445 t448 _ (cQ ((Kd.V_reads' HO_445000.out).2.2)) ((Kd.V_reads' HO_445000.out).2.1) A4.out).mono ?_); rintro e w8 ⟨v446, rfl, ho0, hb⟩; refine ⟨_, rfl, ?_⟩; have _ := aM (Kd.R_below (rQ HO_3) hb); have _ := aM (Kd.V_elder' (by (with_reducible repeat (first | apply Kd.V_alloc | apply Kd.V_drewN | apply Kd.V_drew)); exact HO_445000.out) (Kd.S_base ho0) hb); have _ := aM (Kd.S_lower (Kd.S_new' (Kd.S_newM (M := fun k_ => (w.heap.size ≤ k_)) ho0 (below_size bq) (fun k_ h_ => h_)) (Kd.R_lt (rQ HO_3))) (below_size bq)); have _ := aM (blk_below (qQ BK444) hb); have _ := aM (below_step bq hb); clear HO_3 HO_445000 BK444 HB; rename_i HO_3 HO_445000 HO447 BK444 HB; (try clear hb); (try clear hb2); (try clear hk); (try clear hi); (try clear ho0)) | ((with_reducible refine gate_dst (N := 4) rfl ?_); refine bE 4 30 #[.slice none 0 0] ?_; intro gb449 hg w9 hbox hb; have _ := aM (Kd.R_below (rQ HO_3) hb); have _ := aM (Kd.V_below (Kd.V_elderB (by (with_reducible repeat (first | apply Kd.V_alloc | apply Kd.V_drewN | apply Kd.V_drew)); exact HO_445000.out) gb449 (Nat.le_of_eq hg.symm)) hb); have _ := aM (Kd.S_below (sQ HO447) hb); have _ := aM (blk_below (qQ BK444) hb); have _ := aM (below_step bq hb); have _ := aM (hbox); have _ := aM ((gS hg)); have _ := aM ((gS hg)); have _ := aM ((by rw [hg]; exact Nat.ne_of_lt (blk_lt (g := gb444) (o := .cells #[.slice Ao7 x445000_1.length co7] 30 (0, 0)) (qQ BK444)) : gb444 ≠ gb449)); have _ := aM ((by rw [hg]; exact Nat.ne_of_gt (blk_lt (g := gb444) (o := .cells #[.slice Ao7 x445000_1.length co7] 30 (0, 0)) (qQ BK444)) : gb449 ≠ gb444)); clear HO_3 HO_445000 HO447 BK444 HB; rename_i HO_3 HO_445000 HO447 BK444 HB BK449 GW449 GE449 NB444_449 NB449_444; clear hb hbox hg; obtain ⟨Ao10, co10, eo10⟩ := Kd.S_slice HO447.out; subst eo10; have hnb11 := NB449_444.out; have hnc11 := NB444_449.out; have hcz12_0 := c10 BK449; have hfz12_0 := blk_frozen BK449.out 0) | ((with_reducible refine gate_dst (N := 16) rfl ?_); refine Kd.R_lit (Kd.int .i64) _ 3 ?hg (N := 16) ?hd (xs := ([t448] : List Int)) (inner := [.int .i64 t448]) (ok := fun _ => True) (okp := fun _ => True) ?hr ?hp (fun _ hk => hk) trivial (Below.refl _ _) (Nat.le_refl _) (by simp) ?_; (case hd => rfl); (case hg => rfl); (case hr => first | (go_simp; done) | (go_simp; rfl)); (case hp => exact (Reps.one (show Kd.M (Kd.int .i64) _ _ _ t448 [.int .i64 t448] from rfl) (Reps.none _ _))); intro v451 w13 ho14 hb hg_ hnew_; clear hg_ hnew_; (first | rw [← Ny450.out] at ho14 | (simp only [Int.reduceToNat] at ho14; rw [← Ny450.out] at ho14)); have _ := aM (Kd.R_elder' (by (with_reducible repeat first|apply rA|apply rN|apply rD); exact (Kd.R_mono (Kd.R_far (p := ⟨gb449, 0, none⟩) (Kd.R_types HO_3.out BK449.out (by decide)) (fun _ hk => hk.2) (.slice Ao10 t445.length co10)) (fun _ h_ => h_.1))) (Kd.R_base ho14) hb); have _ := aM (Kd.V_elder' (by (with_reducible repeat (first | apply Kd.V_alloc | apply Kd.V_drewN | apply Kd.V_drew)); exact (Kd.V_mono (Kd.V_far (p := ⟨gb449, 0, none⟩) (Kd.V_mono HO_445000.out (fun k_ hk => (⟨hk, hk.2⟩ : _ ∧ k_ ≠ gb449))) (fun _ hk => hk.2) (.slice Ao10 t445.length co10)) (fun _ h_ => h_.1))) (Kd.R_base ho14) hb); have _ := aM (Kd.S_elder' (by (with_reducible repeat first|apply sA|apply sN|apply sD); exact (Kd.S_mono (Kd.S_far (p := ⟨gb449, 0, none⟩) (Kd.S_types HO447.out BK449.out (by decide)) (fun _ hk => hk.2) (.slice Ao10 t445.length co10)) (fun _ h_ => h_.1))) (Kd.R_base ho14) hb); have _ := aM (Kd.R_lower (Kd.R_new' (Kd.R_newM (M := fun k_ => (w.heap.size ≤ k_)) ho14 (below_size bq) (fun k_ h_ => h_)) (Kd.R_lt (by (with_reducible repeat first|apply rA|apply rN|apply rD); exact (Kd.R_mono (Kd.R_far (p := ⟨gb449, 0, none⟩) (Kd.R_types HO_3.out BK449.out (by decide)) (fun _ hk => hk.2) (.slice Ao10 t445.length co10)) (fun _ h_ => h_.1))))) (below_size bq)); have _ := aM (blk_below (g := gb444) (o := .cells #[.slice Ao7 x445000_1.length co7] 30 (0, 0)) (by (with_reducible repeat first|apply qN|apply qD|apply qA); refine blk_far ?_ NB444_449.out _; (with_reducible repeat first|apply qN|apply qD|apply qA); exact BK444.out) hb); have _ := aM (blk_below (g := gb449) (o := .cells #[.slice Ao10 t445.length co10] 30 (0, 0)) (by (with_reducible repeat first|apply qN|apply qD|apply qA); refine blk_put (cs := #[.slice none 0 0]) ?_ 0 _ rfl; (with_reducible repeat first|apply qN|apply qD|apply qA); exact BK449.out) hb); have _ := aM (below_step bq hb); clear HO_3 HO_445000 HO447 BK444 BK449 HB; rename_i HO_3 HO_445000 HO447 HO452 BK444 BK449 HB; clear hb ho14; obtain ⟨Ao16, co16, eo16⟩ := Kd.R_slice HO_3.out; subst eo16) | ((with_reducible refine gate_builtin (b := .append) (xs := #[.tmp 16, .tmp 17]) rfl ?_); at_builtin; refine Kd.R_append_rows (Kd.int .i64) (w0 := w) w.heap.size rfl (.tmp 16) (.tmp 17) 24 3 (.int .i64 0) 8 rfl Tryz.underlying24 info3 rfl (by decide) (by omega) v451 y450 x3_1 _ _ _ (fun k_ => (w.heap.size ≤ k_) ∧ some k_ ≠ (.slice Ao16 x3_1.length co16 : Value).ownBlock) (fun _ => False) rfl rfl ?aO ?aR (fun _ _ h => h) (fun _ h => h.elim) ?aF ?aB ?aS ?aL ?_; (case aR => repeat (first | exact (Kd.R_reads' HO_3.out).2.2 | (with_reducible refine Kd.C_alloc ?_ _) | (with_reducible refine Kd.C_drewN ?_ _) | (with_reducible refine Kd.C_drew ?_))); (case aB => exact bq); (case aF => exact (fun k_ hk => ⟨(Nat.le_trans (below_size bq) hk), Kd.fresh' (Kd.R_lt (rQ HO_3)) k_ hk⟩)); (case aO => exact (by (with_reducible repeat first|apply rA|apply rN|apply rD); exact Kd.R_mono HO452.out (fun _ hk => ⟨hk.1.1, hk.2⟩))); (case aS => exact (below_size bq)); (case aL => have := LMc5.out; omega); intro v454 w15 ho hb hg hat; rw [← Ny453.out] at ho; have _ := aM (Kd.R_after (ok := (fun k_ => (w.heap.size ≤ k_))) (rQ HO_3) hg hat); have _ := aM (Kd.V_afterv (ok := (fun k_ => (P0_0_ k_ ∨ w.heap.size ≤ k_) ∧ some k_ ≠ (.slice Ao16 x3_1.length co16 : Value).ownBlock ∧ some k_ ≠ (.slice Ao10 t445.length co10 : Value).ownBlock ∧ k_ ≠ gb444 ∧ k_ ≠ gb449)) (by (with_reducible repeat (first | apply Kd.V_alloc | apply Kd.V_drewN | apply Kd.V_drew)); exact Kd.V_mono HO_445000.out (fun _ hk => ⟨⟨hk.1.1.1.1, ⟨hk.1.1.1.2.1, ⟨hk.1.1.2, ⟨hk.1.1.1.2.2, hk.1.2⟩⟩⟩⟩, hk.2⟩)) hg hat); have _ := aM (blk_grown (g := gb444) (o := .cells #[.slice Ao7 x445000_1.length co7] 30 (0, 0)) (qQ BK444) hg (Kd.R_ne HO452.out BK444.out (by decide))); have _ := aM (Kd.S_after (ok := (fun k_ => (w.heap.size ≤ k_) ∧ some k_ ≠ (.slice Ao16 x3_1.length co16 : Value).ownBlock)) (by (with_reducible repeat first|apply sA|apply sN|apply sD); exact Kd.S_mono HO447.out (fun _ hk => ⟨⟨hk.1.1.1, hk.1.2⟩, hk.2⟩)) hg hat); have _ := aM (blk_grown (g := gb449) (o := .cells #[.slice Ao10 t445.length co10] 30 (0, 0)) (qQ BK449) hg (Kd.R_ne HO452.out BK449.out (by decide))); have _ := aM (hb); have _ := aM (ho); clear HO_3 HO_445000 BK444 HO447 BK449 HB HO452; rename_i HO_3 HO_445000 BK444 HO447 BK449 HB HO455; clear ho hb hg hat; have hcz17_0 := c10 BK449; have hfz17_0 := blk_frozen BK449.out 0; have hcz18_0 := c10 BK444; have hfz18_0 := blk_frozen BK444.out 0))
    go_roundg k1
    case measure => have := HK1.out; omega
    case rel => exact ⟨(y453), (t445), (.slice Ao10 t445.length co10), H', ⟨by have := HK1.out; omega⟩, ⟨by (with_reducible repeat first|apply rA|apply rN|apply rD); exact Kd.R_mono (Kd.R_far (p := ⟨gb444, 0, none⟩) (Kd.R_types HO455.out BK444.out (by decide)) (fun _ hk => hk.2) (.slice Ao10 t445.length co10)) (fun _ hk => hk.1.1)⟩, ⟨Kd.V_mono (Kd.S_V (ok := fun k_ => w.heap.size ≤ k_ ∧ some k_ ≠ v454.ownBlock ∧ k_ ≠ gb444) (by (with_reducible repeat first|apply sA|apply sN|apply sD); exact Kd.S_mono (Kd.S_far (p := ⟨gb444, 0, none⟩) (Kd.S_types (Kd.S_types HO447.out BK444.out (by decide)) BK444.out (by decide)) (fun _ hk => hk.2) (.slice Ao10 t445.length co10)) (fun _ hk => ⟨hk.1.1.1.1, ⟨hk.1.1.2, hk.1.2⟩⟩))) (fun k_ hk => by first | exact ⟨(.inr (hk.1)), hk.2⟩ | exact (.inr (hk)))⟩, ⟨by (with_reducible repeat first|apply qN|apply qD|apply qA); refine blk_put (cs := #[.slice Ao7 x445000_1.length co7]) ?_ 0 _ rfl; (with_reducible repeat first|apply qN|apply qD|apply qA); exact BK444.out⟩, ⟨bq⟩⟩
   ·rw [if_neg c3] at H
    have c3b0 := decide_eq_false c3
    have c3b1 : decide (0 < x445000_1.length) = false := decide_eq_false (by omega)
    clear c3
    obtain rfl := Option.some.inj H
    have hcz19_0 := c10 BK444
    have hfz19_0 := blk_frozen BK444.out 0
    obtain ⟨Ao20, co20, eo20⟩ := Kd.V_slice HO_445000.out
    subst eo20
    go_wp2
    go_ret
    exact ⟨_, eE, rQ HO_3, bq⟩

def spec_AscentOfMatrix.f (k : Nat) (l0_0 : List (List Int)) : Option (List Int × Bool) := (spec_maGood.f k l0_0).bind fun t457 => (if t457 = true then ((spec_maAscent.f k l0_0).bind fun t458 => (some (t458, true))) else (some (([] : List Int), false)))
set_option maxHeartbeats 8000000 in
set_option maxRecDepth 100000 in
theorem spec_AscentOfMatrix.calls (k : Nat) (A0_0 : Option Addr) (c0_0 : Nat) (l0_0 : List (List Int)) (r1 : List Int) (r2 : Bool) (w : World) (hr0_0 : Kd.C (Kd.slice 3 (Kd.int .i64)) w A0_0 l0_0.length l0_0) (hc0_0 : l0_0.length ≤ c0_0) (h : spec_AscentOfMatrix.f k l0_0 = some (r1, r2)) :
  Calls Tryz.prog 25 #[.agg #[.slice A0_0 l0_0.length c0_0]] w fun e w' => ∃ v0_ : Value, e = .returned (.tuple #[v0_, .bool r2]) ∧ Kd.R (Kd.int .i64) 3 w' w.heap.size (fun _ => True) v0_ r1 ∧ Below w.heap.size w w' := by
 have hu30 := Tryz.underlying30
 have HR0_0 := aM hr0_0
 have HC0_0 := aM hc0_0
 clear hr0_0 hc0_0
 have HB := aM (Below.refl w.heap.size w)
 have H : ((spec_maGood.f k l0_0).bind fun t457 => (if t457 = true then ((spec_maAscent.f k l0_0).bind fun t458 => (some (t458, true))) else (some (([] : List Int), false)))) = some (r1, r2) := h
 clear h
 replace H := bS H
 obtain ⟨t457, A2, H⟩ := H
 try dsimp only at H
 by_cases c3 : t457 = true
 ·subst c3
  have H1 : ((spec_maAscent.f k l0_0).bind fun t458 => (some (t458, true))) = some (r1, r2) := by rw [if_pos rfl] at H; exact H
  clear H
  have H := H1
  clear H1
  replace H := bS H
  obtain ⟨t458, A4, H⟩ := H
  try dsimp only at H
  simp only [Option.some.injEq, Prod.mk.injEq] at H
  obtain ⟨rfl, rfl⟩ := H
  go_enter Tryz.func25, Tryz.ntmps25
  go_wp2_with (first | ((with_reducible refine gate_dst (N := 1) rfl ?_); refine bE 1 30 #[.slice A0_0 l0_0.length c0_0] ?_; intro gb456 hg w5 hbox hb; have _ := aM (below_step bq hb); have _ := aM (hbox); have _ := aM ((gS hg)); have _ := aM ((gS hg)); clear HB; rename_i HB BK456 GW456 GE456; clear hb hbox hg; have hcz6_0 := c10 BK456; have hfz6_0 := blk_frozen BK456.out 0) | ((with_reducible refine gate_callee (f := 39) rfl ?_); refine gL (some 5) Tryz.func39 #[.agg #[.slice A0_0 l0_0.length c0_0]] ?_; (with_reducible refine (spec_maGood.calls k _ _ l0_0 true _ (cQ (Kd.C_below HR0_0.out HB.out)) HC0_0.out A2.out).mono ?_); rintro e w7 ⟨rfl, hb⟩; refine ⟨_, rfl, ?_⟩; have _ := aM (blk_below (qQ BK456) hb); have _ := aM (below_step bq hb); clear BK456 HB; rename_i BK456 HB; (try clear hb); (try clear hb2); (try clear hk); (try clear hi); have hcz8_0 := c10 BK456; have hfz8_0 := blk_frozen BK456.out 0) | ((with_reducible refine gate_callee (f := 52) rfl ?_); refine gL (some 8) Tryz.func52 #[.agg #[.slice A0_0 l0_0.length c0_0]] ?_; (with_reducible refine (spec_maAscent.calls k (fun k_ => k_ < w.heap.size) _ _ l0_0 t458 _ ?side1 A4.out).mono ?_); (case side1 => exact Kd.V_mk HC0_0.out (Kd.F_below (Kd.C_F (Kd.heap_slice 3 (Kd.heap_int .i64)) HR0_0.out) bq)); rintro e w9 ⟨v459, rfl, ho0, hb⟩; refine ⟨_, rfl, ?_⟩; have _ := aM (Kd.R_lower (Kd.R_mono (ok' := fun k_ => True) ho0 (fun _ hk_ => trivial)) (below_size bq)); have _ := aM (blk_below (qQ BK456) hb); have _ := aM (below_step bq hb); clear BK456 HB; rename_i HO460 BK456 HB; (try clear hb); (try clear hb2); (try clear hk); (try clear hi); (try clear ho0)))
  go_ret2
  exact ⟨_, eE, rQ HO460, bq⟩
 ·replace c3 := Bool.eq_false_iff.mpr c3
  subst c3
  have H1 : (some (([] : List Int), false)) = some (r1, r2) := by rw [if_neg (show ¬ (false = true) by decide)] at H; exact H
  clear H
  have H := H1
  clear H1
  simp only [Option.some.injEq, Prod.mk.injEq] at H
  obtain ⟨rfl, rfl⟩ := H
  go_enter Tryz.func25, Tryz.ntmps25
  go_wp2_with (first | ((with_reducible refine gate_dst (N := 1) rfl ?_); refine bE 1 30 #[.slice A0_0 l0_0.length c0_0] ?_; intro gb456 hg w10 hbox hb; have _ := aM (below_step bq hb); have _ := aM (hbox); have _ := aM ((gS hg)); have _ := aM ((gS hg)); clear HB; rename_i HB BK456 GW456 GE456; clear hb hbox hg; have hcz11_0 := c10 BK456; have hfz11_0 := blk_frozen BK456.out 0) | ((with_reducible refine gate_callee (f := 39) rfl ?_); refine gL (some 5) Tryz.func39 #[.agg #[.slice A0_0 l0_0.length c0_0]] ?_; (with_reducible refine (spec_maGood.calls k _ _ l0_0 false _ (cQ (Kd.C_below HR0_0.out HB.out)) HC0_0.out A2.out).mono ?_); rintro e w12 ⟨rfl, hb⟩; refine ⟨_, rfl, ?_⟩; have _ := aM (blk_below (qQ BK456) hb); have _ := aM (below_step bq hb); clear BK456 HB; rename_i BK456 HB; (try clear hb); (try clear hb2); (try clear hk); (try clear hi)))
  go_ret2
  exact ⟨_, eE, by first | exact Kd.R_nil _ _ _ _ _ | exact Kd.N_nil _ _ _ _ _ | exact Kd.V_nil _ _ _ _ _ | exact Kd.Q_nil _ _ _ _ _ | exact Kd.S_nil _ _ _ _ _, bq⟩

def impl_ascents.l0 : Nat → List Int → Int → Int → Option (Int)
 | 0, _, _, _ => none
 | k + 1, x0, x3, x4 => if x4 < (x0.length : Int) then (if 0 ≤ (wrap64 (x4 - 1)) then (if (wrap64 (x4 - 1)) < (x0.length : Int) then (if 0 ≤ x4 then (if (rd x0 (wrap64 (x4 - 1))) < (rd x0 x4) then (impl_ascents.l0 k x0 (wrap64 (x3 + 1)) (wrap64 (x4 + 1))) else (impl_ascents.l0 k x0 x3 (wrap64 (x4 + 1)))) else (none)) else (none)) else (none)) else (some x3)
def impl_ascents.f (k : Nat) (l0 : List Int) : Option (Int) := impl_ascents.l0 k l0 0 1
set_option maxHeartbeats 8000000 in
set_option maxRecDepth 100000 in
theorem impl_ascents.calls (k : Nat) (A0 : Option Addr) (c0 : Nat) (l0 : List Int) (r : Int) (w : World) (hr0 : Kd.C (Kd.int .i64) w A0 l0.length l0) (hc0 : l0.length ≤ c0) (h : impl_ascents.f k l0 = some r) :
  Calls Tryz.prog 62 #[.slice A0 l0.length c0] w fun e w' => e = .returned (.int .i64 r) ∧ Drawn0 w w' := by
 have HR0 := aM hr0
 have HC0 := aM hc0
 clear hr0 hc0
 have H : (impl_ascents.l0 k l0 0 1) = some r := h
 clear h
 have H' := aM H
 clear H
 go_enter Tryz.func62, Tryz.ntmps62
 go_wp2
 repeat (go_quiet (fail); try go_wp2)
 go_loopg [3, 4] k (fun kq v3 v4 w' => ∃ (x3_1 : Int) (x4_1 : Int), v3 = .int .i64 x3_1 ∧ v4 = .int .i64 x4_1 ∧ Aside0 (impl_ascents.l0 kq l0 x3_1 x4_1 = some r) ∧ Aside0 (kq ≤ k) ∧ Drawn0 w w')
 case atStart => exact ⟨(0), (1), eR, eR, H', ⟨Nat.le_refl _⟩, by repeat (first | exact Drawn0.refl _ | apply Drawn0.step)⟩
 case round =>
  clear H'
  obtain ⟨x3_1, x4_1, rfl, rfl, HA, HK1, ⟨m1, rfl⟩⟩ := hrel
  cases gk with
  | zero => exact absurd HA.out (by simp [impl_ascents.l0])
  | succ k1 =>
   have H := HA.out
   clear HA
   simp only [impl_ascents.l0] at H
   by_cases c2 : x4_1 < (l0.length : Int)
   ·rw [if_pos c2] at H
    have c2b0 := decide_eq_true c2
    clear c2
    obtain ⟨ji3, hji3⟩ : ∃ j_ : Int, (wrap64 (x4_1 - 1)) = j_ := ⟨_, rfl⟩
    replace H : (if 0 ≤ (ji3) then (if (ji3) < (l0.length : Int) then (if 0 ≤ x4_1 then (if (rd l0 (ji3)) < (rd l0 x4_1) then (impl_ascents.l0 k1 l0 (wrap64 (x3_1 + 1)) (wrap64 (x4_1 + 1))) else (impl_ascents.l0 k1 l0 x3_1 (wrap64 (x4_1 + 1)))) else (none)) else (none)) else (none)) = some r := by first | (rw [hji3] at H; exact H) | (simp only [hji3] at H ⊢; exact H)
    have hji3w : (IntKind.i64.wrap (x4_1 - 1)) = ji3 := (i64_w _).trans hji3
    replace H := iD3 H
    obtain ⟨c4b0, c5b0, c6b0, H⟩ := H
    by_cases c7 : (rd l0 (ji3)) < (rd l0 x4_1)
    ·rw [if_pos c7] at H
     have c7b0 := decide_eq_true c7
     clear c7
     have H' := aM H
     clear H
     have p461 : 0 ≤ ((ji3) : Int) := odt
     have q461 : (ji3) < (l0.length : Int) := odt
     obtain ⟨ad461, e461, hx461_0⟩ := Kd.at_int HR0.out (ji3) p461 q461
     cases e461
     replace p461 := eq_true p461
     replace q461 := eq_true q461
     have p462 : 0 ≤ (x4_1 : Int) := odt
     have q462 : x4_1 < (l0.length : Int) := odt
     obtain ⟨ad462, e462, hx462_0⟩ := Kd.at_int HR0.out x4_1 p462 q462
     obtain rfl : ad461 = ad462 := (by injection e462)
     replace p462 := eq_true p462
     replace q462 := eq_true q462
     go_wp2
     repeat (go_quiet (fail); try go_wp2)
     go_roundg k1
     case measure => have := HK1.out; omega
     case rel => exact ⟨(wrap64 (x3_1 + 1)), (wrap64 (x4_1 + 1)), eR, eR, H', ⟨by have := HK1.out; omega⟩, by repeat (first | exact Drawn0.refl _ | apply Drawn0.step)⟩
    ·rw [if_neg c7] at H
     have c7b0 := decide_eq_false c7
     clear c7
     have H' := aM H
     clear H
     have p461 : 0 ≤ ((ji3) : Int) := odt
     have q461 : (ji3) < (l0.length : Int) := odt
     obtain ⟨ad461, e461, hx461_0⟩ := Kd.at_int HR0.out (ji3) p461 q461
     cases e461
     replace p461 := eq_true p461
     replace q461 := eq_true q461
     have p462 : 0 ≤ (x4_1 : Int) := odt
     have q462 : x4_1 < (l0.length : Int) := odt
     obtain ⟨ad462, e462, hx462_0⟩ := Kd.at_int HR0.out x4_1 p462 q462
     obtain rfl : ad461 = ad462 := (by injection e462)
     replace p462 := eq_true p462
     replace q462 := eq_true q462
     go_wp2
     repeat (go_quiet (fail); try go_wp2)
     go_roundg k1
     case measure => have := HK1.out; omega
     case rel => exact ⟨(x3_1), (wrap64 (x4_1 + 1)), eR, eR, H', ⟨by have := HK1.out; omega⟩, by repeat (first | exact Drawn0.refl _ | apply Drawn0.step)⟩
   ·rw [if_neg c2] at H
    have c2b0 := decide_eq_false c2
    clear c2
    obtain rfl := Option.some.inj H
    go_wp2
    repeat (go_quiet (fail); try go_wp2)
    go_ret
    exact ⟨by first | rfl | (simp; done) | (simp [*]; done), by repeat (first | exact Drawn0.refl _ | apply Drawn0.step)⟩

end Go.Proofs.YtcodionjhcmfhaaGreatDoor.Ax
