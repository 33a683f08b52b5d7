-- Written by hook.py, a program of this session (wip/), which runs the kit's print.py with its own parts; Lean checks it.
import Derived.Test.YtacdlipojhoilaaZx0
import Derived.Test.YtacdlipojhoilaaZx1
import Derived.Test.YtacdlipojhoilaaZx5
import Derived.Test.YtacdlipojhoilaaZx9
import Derived.Test.YtacdlipojhoilaaZx16
import Derived.Test.YtacdlipojhoilaaZx18
import Derived.Test.YtacdlipojhoilaaZx22
import Derived.Test.YtacdlipojhoilaaZx23
import Derived.Test.YtacdlipojhoilaaZxXSq
namespace Go.Proofs.Ytacdlipojhoilaa.Zx
open Go.RowKit Go.Proofs.YtacdlipojhoilaaW.PrintWords Go.Proofs.YtacdlipojhoilaaW.PrintLast Go.Proofs.YtacdlipojhoilaaW.PrintMore Go.Proofs.Ytacdlipojhoilaa.Sq
attribute [local go_sem] max2_int min2_int max_two min_two max_three min_three max_four min_four   -- for this text's walks alone
set_option linter.unusedVariables false
set_option linter.unusedSimpArgs false

def laws_FnMatchingsAreMatrices.Good (k : Nat) (l0 l1 : List Int) : Prop :=
  laws_big.f l0 l1 = some true ∨ (laws_big.f l0 l1 = some false ∧ ∃ (m : List (List Int)) (p p2 : List Int) (ok : Bool),
    spec_DrawMatchingOfMatrix.f k l0 = some m ∧ impl_MatchingOfMatrix.f k m = some (p, ok) ∧ spec_MatchingOfMatrix.f k m = some (p2, ok) ∧ laws_pSame.f k p p2 = some true ∧
    (ok = true → ∃ (bk d : List (List Int)) (rs rw cl ot mi : List Int), impl_IsTidy.f k p = some (true, true) ∧ impl_MatrixOfMatching.f k p = some (bk, true) ∧ impl_RunsOf.f k p = some (rs, true) ∧ impl_RowSums.f k m = some (rw, cl, true) ∧
      impl_DualMatrix.f k m = some (d, true) ∧ impl_MatchingOfMatrix.f k d = some (ot, true) ∧ impl_MirrorMatching.f k p = some (mi, true) ∧ laws_pSameMatrix.f k bk m = some true ∧ laws_pSame.f k mi ot = some true ∧
      rs.length = 2 * rw.length ∧ cl.length = rw.length ∧ rw.length ≤ 1000 ∧ ∀ i, i < rw.length → rs.getD (2 * i) 0 = rw.getD i 0 ∧ rs.getD (2 * i + 1) 0 = cl.getD i 0))
open Go.Proofs.Ytacdlipojhoilaa.Live in
set_option maxHeartbeats 8000000 in
set_option maxRecDepth 100000 in
theorem laws_FnMatchingsAreMatrices.calls (k : Nat) (A0 : Option Addr) (c0 : Nat) (l0 : List Int) (A1 : Option Addr) (c1 : Nat) (l1 : List Int) (w : World) (hr0 : Kd.C (Kd.int .u8) w A0 l0.length l0) (hc0 : l0.length ≤ c0) (hr1 : Kd.C (Kd.int .u8) w A1 l1.length l1) (hc1 : l1.length ≤ c1) (h : laws_FnMatchingsAreMatrices.Good k l0 l1) :
    Calls Try.prog 7 #[.slice A0 l0.length c0, .slice A1 l1.length c1] w fun e w' => e = .returned (.bool true) ∧ Below w.heap.size w w' := by
 have HC0 := aM hr0
 have HC1 := aM hr1
 have HL0 := aM hc0
 have HL1 := aM hc1
 clear hr0 hr1 hc0 hc1
 rcases h with hb | ⟨hb, m, p, p2, ok, e1, e2, e3, e4, e5⟩
 · {
 have HB := aM hb
 clear hb
 go_enter Try.func7, Try.ntmps7
 go_wp2_with (fail)
 refine (laws_big.calls A0 c0 l0 A1 c1 l1 true _ HC0.out HL0.out HC1.out HL1.out HB.out).mono ?_
 rintro e w1 ⟨rfl, ⟨q, rfl⟩⟩
 go_wp2_with (fail)
 go_ret
 exact ⟨rfl, pw_below_drewN (Below.refl _ _) _⟩}
 have HB := aM hb
 have E1 := aM e1
 have E2 := aM e2
 have E3 := aM e3
 have E4 := aM e4
 have E5 := aM e5
 clear hb e1 e2 e3 e4 e5
 go_enter Try.func7, Try.ntmps7
 go_wp2_with (fail)
 refine (laws_big.calls A0 c0 l0 A1 c1 l1 false _ (HC0.out) (HL0.out) (HC1.out) (HL1.out) HB.out).mono ?_
 rintro e w1 ⟨rfl, ⟨q_, rfl⟩⟩
 have H1 := aM ((Live.start w).drewN q_)
 go_wp2_with (fail)
 refine (spec_DrawMatchingOfMatrix.calls k A0 c0 l0 m _ (Kd.C_below HC0.out H1.out.below) (HL0.out) E1.out).mono ?_
 rintro e w2 ⟨u0, rfl, hs0, hb⟩
 have H2 := aM (Live.add (o := lent (Kd.slice 3 (Kd.int .i64)) 24 u0 m) H1.out hb hs0)
 clear hs0 hb
 obtain ⟨A_m, c_m, rfl, _, _⟩ := H2.out.formq 0 rfl
 clear H1
 have H3 := aM (H2.out.new #[.slice A_m m.length c_m] 36)
 clear H2
 have k_m := cellV H3.out 1 rfl 0 rfl
 go_wp2_with (fail)
 refine (impl_MatchingOfMatrix.calls k A_m c_m m p ok _ ((H3.out.nowq 0 rfl).2.2) ((H3.out.nowq 0 rfl).2.1) E2.out).mono ?_
 rintro e w3 ⟨u0, rfl, hs0, hb⟩
 clear k_m
 have H4 := aM (Live.add (o := row (Kd.int .i64) 3 u0 p) H3.out hb hs0)
 clear hs0 hb
 obtain ⟨A_p, c_p, rfl, _, _⟩ := H4.out.form 2 rfl
 clear H3
 have k_m := cellV H4.out 1 rfl 0 rfl
 go_wp2_with (fail)
 have bb : (ok != ok) = false := by simp
 refine (spec_MatchingOfMatrix.calls k A_m c_m m p2 ok _ ((H4.out.nowq 0 rfl).2.2) ((H4.out.nowq 0 rfl).2.1) E3.out).mono ?_
 rintro e w4 ⟨u0, rfl, hs0, hb⟩
 clear k_m
 have H5 := aM (Live.add (o := row (Kd.int .i64) 3 u0 p2) H4.out hb hs0)
 clear hs0 hb
 obtain ⟨A_p2, c_p2, rfl, _, _⟩ := H5.out.form 3 rfl
 clear H4
 go_wp2_with (fail)
 refine (laws_pSame.calls k A_p c_p p A_p2 c_p2 p2 true _ ((H5.out.now 2 rfl).2.2) ((H5.out.now 2 rfl).2.1) ((H5.out.now 3 rfl).2.2) ((H5.out.now 3 rfl).2.1) E4.out).mono ?_
 rintro e w5 ⟨rfl, ⟨q_, rfl⟩⟩
 have H6 := aM (H5.out.drewN q_)
 clear H5
 clear bb
 cases ok with
 | false => {
 go_wp2_with (fail)
 go_ret
 exact ⟨rfl, H6.out.below⟩}
 | true => {
 obtain ⟨bk, d, rs, rw, cl, ot, mi, g1, g2, g3, g4, g5, g6, g7, g8, g9, g10, g11, g12, g13⟩ := E5.out rfl
 have G1 := aM g1
 have G2 := aM g2
 have G3 := aM g3
 have G4 := aM g4
 have G5 := aM g5
 have G6 := aM g6
 have G7 := aM g7
 have G8 := aM g8
 have G9 := aM g9
 have G10 := aM g10
 have G11 := aM g11
 have G12 := aM g12
 have G13 := aM g13
 clear g1 g2 g3 g4 g5 g6 g7 g8 g9 g10 g11 g12 g13
 go_wp2_with (fail)
 refine (impl_IsTidy.calls k A_p c_p p true true _ ((H6.out.now 2 rfl).2.2) ((H6.out.now 2 rfl).2.1) G1.out).mono ?_
 rintro e w6 ⟨rfl, hb⟩
 have H7 := aM (H6.out.step hb)
 clear hb
 clear H6
 go_wp2_with (fail)
 refine (impl_MatrixOfMatching.calls k A_p c_p p bk true _ ((H7.out.now 2 rfl).2.2) ((H7.out.now 2 rfl).2.1) G2.out).mono ?_
 rintro e w7 ⟨u0, rfl, hs0, hb⟩
 have H8 := aM (Live.add (o := rows (Kd.slice 3 (Kd.int .i64)) 24 u0 bk) H7.out hb hs0)
 clear hs0 hb
 obtain ⟨A_bk, c_bk, rfl, _, _⟩ := H8.out.forms 4 rfl
 clear H7
 have H9 := aM (H8.out.new #[.slice A_bk bk.length c_bk] 36)
 clear H8
 go_wp2_with (fail)
 refine (impl_RunsOf.calls k A_p c_p p rs true _ ((H9.out.now 2 rfl).2.2) ((H9.out.now 2 rfl).2.1) G3.out).mono ?_
 rintro e w8 ⟨u0, rfl, hs0, hb⟩
 have H10 := aM (Live.add (o := row (Kd.int .i64) 3 u0 rs) H9.out hb hs0)
 clear hs0 hb
 obtain ⟨A_rs, c_rs, rfl, _, _⟩ := H10.out.form 6 rfl
 clear H9
 have k_m := cellV H10.out 1 rfl 0 rfl
 go_wp2_with (fail)
 refine (impl_RowSums.calls k A_m c_m m rw cl true _ ((H10.out.nowq 0 rfl).2.2) ((H10.out.nowq 0 rfl).2.1) G4.out).mono ?_
 rintro e w9 ⟨u0, u1, rfl, hs0, hs1, hb⟩
 clear k_m
 have H11 := aM (Live.addRR rfl rfl H10.out hb hs0 hs1)
 clear hs0 hs1 hb
 obtain ⟨A_rw, c_rw, rfl, _, _⟩ := H11.out.form 7 rfl
 obtain ⟨A_cl, c_cl, rfl, _, _⟩ := H11.out.form 8 rfl
 clear H10
 have k_m := cellV H11.out 1 rfl 0 rfl
 go_wp2_with (fail)
 refine (impl_DualMatrix.calls k A_m c_m m d true _ ((H11.out.nowq 0 rfl).2.2) ((H11.out.nowq 0 rfl).2.1) G5.out).mono ?_
 rintro e w10 ⟨u0, rfl, hs0, hb⟩
 clear k_m
 have H12 := aM (Live.add (o := rows (Kd.slice 3 (Kd.int .i64)) 24 u0 d) H11.out hb hs0)
 clear hs0 hb
 obtain ⟨A_d, c_d, rfl, _, _⟩ := H12.out.forms 9 rfl
 clear H11
 have H13 := aM (H12.out.new #[.slice A_d d.length c_d] 36)
 clear H12
 have k_d := cellV H13.out 10 rfl 0 rfl
 go_wp2_with (fail)
 refine (impl_MatchingOfMatrix.calls k A_d c_d d ot true _ ((H13.out.nows 9 rfl).2.2) ((H13.out.nows 9 rfl).2.1) G6.out).mono ?_
 rintro e w11 ⟨u0, rfl, hs0, hb⟩
 clear k_d
 have H14 := aM (Live.add (o := row (Kd.int .i64) 3 u0 ot) H13.out hb hs0)
 clear hs0 hb
 obtain ⟨A_ot, c_ot, rfl, _, _⟩ := H14.out.form 11 rfl
 clear H13
 go_wp2_with (fail)
 have dm : IntKind.i64.wrap (2 * (rw.length : Int)) = (rs.length : Int) := by rw [i64_w, G10.out]; have := G12.out; unfold wrap64; omega
 have dn : ((rs.length : Int) != (rs.length : Int)) = false := by simp
 refine (impl_MirrorMatching.calls k A_p c_p p mi true _ ((H14.out.now 2 rfl).2.2) ((H14.out.now 2 rfl).2.1) G7.out).mono ?_
 rintro e w12 ⟨u0, rfl, hs0, hb⟩
 have H15 := aM (Live.add (o := row (Kd.int .i64) 3 u0 mi) H14.out hb hs0)
 clear hs0 hb
 obtain ⟨A_mi, c_mi, rfl, _, _⟩ := H15.out.form 12 rfl
 clear H14
 have k_bk := cellV H15.out 5 rfl 0 rfl
 have k_m := cellV H15.out 1 rfl 0 rfl
 go_wp2_with (fail)
 refine (laws_pSameMatrix.calls k A_bk c_bk bk A_m c_m m true _ ((H15.out.nows 4 rfl).2.2) ((H15.out.nows 4 rfl).2.1) ((H15.out.nowq 0 rfl).2.2) ((H15.out.nowq 0 rfl).2.1) G8.out).mono ?_
 rintro e w13 ⟨rfl, hb⟩
 clear k_bk k_m
 have H16 := aM (H15.out.step hb)
 clear hb
 clear H15
 go_wp2_with (fail)
 refine (laws_pSame.calls k A_mi c_mi mi A_ot c_ot ot true _ ((H16.out.now 12 rfl).2.2) ((H16.out.now 12 rfl).2.1) ((H16.out.now 11 rfl).2.2) ((H16.out.now 11 rfl).2.1) G9.out).mono ?_
 rintro e w14 ⟨rfl, ⟨q_, rfl⟩⟩
 have H17 := aM (H16.out.drewN q_)
 clear H16
 clear dm dn
 go_wp2_with (fail)
 go_loopg [140] (rw.length + 1) (fun kq v140 w' => ∃ i : Nat, v140 = .int .i64 (i : Int) ∧ Aside0 (i ≤ rw.length ∧ kq = rw.length - i + 1) ∧ Aside0 (Live w w' [lent (Kd.slice 3 (Kd.int .i64)) 24 (.slice A_m m.length c_m) m, var w2.heap.size #[.slice A_m m.length c_m] 36, row (Kd.int .i64) 3 (.slice A_p p.length c_p) p, row (Kd.int .i64) 3 (.slice A_p2 p2.length c_p2) p2, rows (Kd.slice 3 (Kd.int .i64)) 24 (.slice A_bk bk.length c_bk) bk, var w7.heap.size #[.slice A_bk bk.length c_bk] 36, row (Kd.int .i64) 3 (.slice A_rs rs.length c_rs) rs, row (Kd.int .i64) 3 (.slice A_rw rw.length c_rw) rw, row (Kd.int .i64) 3 (.slice A_cl cl.length c_cl) cl, rows (Kd.slice 3 (Kd.int .i64)) 24 (.slice A_d d.length c_d) d, var w10.heap.size #[.slice A_d d.length c_d] 36, row (Kd.int .i64) 3 (.slice A_ot ot.length c_ot) ot, row (Kd.int .i64) 3 (.slice A_mi mi.length c_mi) mi]))
 case atStart => exact ⟨0, rfl, ⟨Nat.zero_le _, rfl⟩, H17⟩
 case round => (
 clear H17
 obtain ⟨i, rfl, HI, H0⟩ := hrel
 by_cases ci : i < rw.length
 · {
 have hn := G12.out
 have cr : 2 * i + 1 < rs.length := by rw [G10.out]; omega
 have cc : i < cl.length := by rw [G11.out]; exact ci
 obtain ⟨j, hj⟩ : ∃ j, j = 2 * i := ⟨_, rfl⟩
 obtain ⟨j1, hj1⟩ : ∃ j1, j1 = 2 * i + 1 := ⟨_, rfl⟩
 obtain ⟨ad_a, e_a, x_a⟩ := C_num ((H0.out.now 6 rfl).2.2) j (by omega)
 obtain ⟨ad_b, e_b, x_b⟩ := C_num ((H0.out.now 7 rfl).2.2) i (by omega)
 obtain ⟨ad_c, e_c, x_c⟩ := C_num ((H0.out.now 6 rfl).2.2) j1 (by omega)
 obtain ⟨ad_d, e_d, x_d⟩ := C_num ((H0.out.now 8 rfl).2.2) i (by omega)
 obtain rfl := Option.some.inj (e_a.symm.trans e_c)
 rw [hj, (G13.out i ci).1, ← hj] at x_a
 rw [hj1, (G13.out i ci).2, ← hj1] at x_c
 have y1 : IntKind.i64.wrap (2 * (i : Int)) = (j : Int) := by rw [i64_w, hj]; unfold wrap64; omega
 have y2 : IntKind.i64.wrap ((j : Int) + 1) = (j1 : Int) := by rw [i64_w, hj, hj1]; unfold wrap64; omega
 have z0 : (0 : Int) ≤ (j : Int) := by omega
 have t0 : (j : Int) < (rs.length : Int) := by omega
 have z1 : (0 : Int) ≤ (j1 : Int) := by omega
 have t1 : (j1 : Int) < (rs.length : Int) := by omega
 have z2 : (0 : Int) ≤ (i : Int) := by omega
 have t2 : (i : Int) < (rw.length : Int) := by omega
 have z3 : (0 : Int) ≤ (i : Int) := by omega
 have t3 : (i : Int) < (cl.length : Int) := by omega
 clear hj hj1
 have u0 : (rw.getD i 0 != rw.getD i 0) = false := by simp
 have u1 : (cl.getD i 0 != cl.getD i 0) = false := by simp
 obtain ⟨va, hva⟩ : ∃ va, va = rw.getD i 0 := ⟨_, rfl⟩
 obtain ⟨vb, hvb⟩ : ∃ vb, vb = cl.getD i 0 := ⟨_, rfl⟩
 rw [← hva] at x_a x_b u0
 rw [← hvb] at x_c x_d u1
 clear hva hvb
 clear e_c hn
 subst e_a e_b e_d
 go_wp2_with (fail)
 go_cut [165] (fun s_ wx => s_ = .bool false ∧ Aside0 (Live w wx [lent (Kd.slice 3 (Kd.int .i64)) 24 (.slice A_m m.length c_m) m, var w2.heap.size #[.slice A_m m.length c_m] 36, row (Kd.int .i64) 3 (.slice A_p p.length c_p) p, row (Kd.int .i64) 3 (.slice A_p2 p2.length c_p2) p2, rows (Kd.slice 3 (Kd.int .i64)) 24 (.slice A_bk bk.length c_bk) bk, var w7.heap.size #[.slice A_bk bk.length c_bk] 36, row (Kd.int .i64) 3 (.slice (some ad_a) rs.length c_rs) rs, row (Kd.int .i64) 3 (.slice (some ad_b) rw.length c_rw) rw, row (Kd.int .i64) 3 (.slice (some ad_d) cl.length c_cl) cl, rows (Kd.slice 3 (Kd.int .i64)) 24 (.slice A_d d.length c_d) d, var w10.heap.size #[.slice A_d d.length c_d] 36, row (Kd.int .i64) 3 (.slice A_ot ot.length c_ot) ot, row (Kd.int .i64) 3 (.slice A_mi mi.length c_mi) mi]))
 case first => (
 go_region_held3 (fun w' => w'.cell? (ad_a.add j) = some (.int .i64 va) ∧ w'.cell? (ad_b.add i) = some (.int .i64 va) ∧ w'.cell? (ad_a.add j1) = some (.int .i64 vb) ∧ w'.cell? (ad_d.add i) = some (.int .i64 vb) ∧ Below wr.heap.size wr w') ((refine ⟨pw_cell_below ?hb x_a, pw_cell_below ?hb x_b, pw_cell_below ?hb x_c, pw_cell_below ?hb x_d, ?hb⟩; (case hb => ((repeat (first | assumption | exact Below.refl _ _ | apply below_alloc | apply pw_below_drewN | apply below_drew1)); done)))) (first | fail)
 all_goals (go_wp2_with fail; go_meet)
 all_goals exact ⟨rfl, ⟨H0.out.step (by ((repeat (first | assumption | exact Below.refl _ _ | apply below_alloc | apply pw_below_drewN | apply below_drew1)); done))⟩⟩)
 case rest => (
 rename_i aK
 obtain ⟨rfl, H18⟩ := hcut
 refine aK _ _ ?_
 clear H0
 go_wp2_with (fail)
 go_roundg (rw.length - i)
 case measure => have := HI.out; omega
 case rel => exact ⟨i + 1, by first | rfl | exact up1 (by have := G12.out; omega), ⟨by omega, by omega⟩, H18⟩)}
 · {
 obtain rfl : i = rw.length := by have := HI.out.1; omega
 have d1 : decide ((rw.length : Int) < (rw.length : Int)) = false := decide_eq_false (by omega)
 go_wp2_with (fail)
 go_ret
 exact ⟨rfl, H0.out.below⟩})}
def laws_FnMatchingsAreMatrices.Pure : Prop := ∀ (l0 : List Int) (l1 : List Int), l0.length ≤ maxLen → l0.length * 1 ≤ 140737488351232 → (∀ x ∈ l0, (Lit.int .u8 x).wf = true) → l1.length ≤ maxLen → l1.length * 1 ≤ 140737488351232 → (∀ x ∈ l1, (Lit.int .u8 x).wf = true) → ∃ k, laws_FnMatchingsAreMatrices.Good k l0 l1
theorem laws_FnMatchingsAreMatrices.walk (P : laws_FnMatchingsAreMatrices.Pure) (a0 : Option Addr) (len0 cap0 : Nat) (z0 : List Int) (a1 : Option Addr) (len1 cap1 : Nat) (z1 : List Int) (w : World) (w0 : (a0 = none ∧ len0 = 0 ∧ cap0 = 0 ∧ z0 = []) ∨ ∃ x, a0 = some x ∧ len0 ≤ cap0 ∧ cap0 ≤ maxLen ∧ z0.length = cap0 ∧ (∀ i, i < z0.length → w.cell? (x.add i) = some (.int .u8 (z0.getD i 0))) ∧ ∀ n ∈ z0, (Lit.int .u8 n).wf = true) (y0 : len0 * 1 ≤ 140737488351232) (w1 : (a1 = none ∧ len1 = 0 ∧ cap1 = 0 ∧ z1 = []) ∨ ∃ x, a1 = some x ∧ len1 ≤ cap1 ∧ cap1 ≤ maxLen ∧ z1.length = cap1 ∧ (∀ i, i < z1.length → w.cell? (x.add i) = some (.int .u8 (z1.getD i 0))) ∧ ∀ n ∈ z1, (Lit.int .u8 n).wf = true) (y1 : len1 * 1 ≤ 140737488351232) :
  Calls Try.prog 7 #[.slice a0 len0 cap0, .slice a1 len1 cap1] w fun e w' => e = .returned (.bool true) ∧ Below w.heap.size w w' := by
 obtain ⟨l0, rfl, hr0, hm0, hw0, hc0⟩ := ReadsInt.ofRowC w0
 obtain ⟨l1, rfl, hr1, hm1, hw1, hc1⟩ := ReadsInt.ofRowC w1
 obtain ⟨k, h⟩ := P l0 l1 hm0 y0 hw0 hm1 y1 hw1
 refine (laws_FnMatchingsAreMatrices.calls k _ _ l0 _ _ l1 w (Kd.C_of_reads (d := (0 : Int)) (h1 := fun _ => rfl) hr0) hc0 (Kd.C_of_reads (d := (0 : Int)) (h1 := fun _ => rfl) hr1) hc1 h).mono ?_
 rintro e w' ⟨rfl, hd⟩
 exact ⟨rfl, hd⟩

end Go.Proofs.Ytacdlipojhoilaa.Zx
