-- Written by hook.py (wip/), over the kit's print.py.
import Derived.Test.YtjmmleofnjcjoaaGreatDoorDu2
import Derived.Test.YtjmmleofnjcjoaaGreatDoorDu8
import Derived.Test.YtjmmleofnjcjoaaGreatDoorDu10
import Derived.Test.YtjmmleofnjcjoaaGreatDoorDu16
import Derived.Test.YtjmmleofnjcjoaaGreatDoorDu21
import Derived.Test.YtjmmleofnjcjoaaGreatDoorDu24
import Derived.Test.YtjmmleofnjcjoaaGreatDoorDu27
import Derived.Test.YtjmmleofnjcjoaaGreatDoorDu29
import Derived.Test.YtjmmleofnjcjoaaGreatDoorDuXSq
namespace Go.Proofs.YtjmmleofnjcjoaaGreatDoor.Du
open Go.RowKit Go.Proofs.YtjmmleofnjcjoaaGreatDoorW.PrintWords Go.Proofs.YtjmmleofnjcjoaaGreatDoorW.PrintLast Go.Proofs.YtjmmleofnjcjoaaGreatDoorW.PrintMore Go.Proofs.YtjmmleofnjcjoaaGreatDoor.Sq
attribute [local go_sem] max2_int min2_int max_two min_two max_three min_three max_four min_four
set_option linter.unusedVariables false
set_option linter.unusedSimpArgs false
def laws_FnDualMatrices.Good (k : Nat) (l0 l1 : List Int) : Prop :=
  laws_big.f l0 l1 = some true ∨ (laws_big.f l0 l1 = some false ∧ ∃ (z : Int) (o : List Int) (m m2 : List (List Int)) (ok : Bool),
    Y61.f k l0 = some (z, o) ∧ Y43.f k z o = some (m, ok) ∧ Y52.f k z o = some (m2, ok) ∧ laws_pSameMatrix.f k m m2 = some true ∧
    (ok = true → ∃ (d d2 ot bk : List (List Int)) (zm : Int) (mu rw cl du tu : List Int), Y15.f k m = some (d, true) ∧ Y21.f k m = some (d2, true) ∧ Y56.f k z o = some (zm, mu, true) ∧ Y43.f k zm mu = some (ot, true) ∧
      Y15.f k d = some (bk, true) ∧ Y50.f k m = some (rw, cl, true) ∧ Y50.f k d = some (du, tu, true) ∧ laws_pSameMatrix.f k d d2 = some true ∧ laws_pSameMatrix.f k d ot = some true ∧ laws_pSameMatrix.f k bk m = some true ∧
      cl.length = rw.length ∧ du.length = rw.length ∧ tu.length = rw.length ∧ rw.length < 2 ^ 31 ∧ ∀ i, i < rw.length → rw.getD i 0 = tu.getD (rw.length - 1 - i) 0 ∧ cl.getD i 0 = du.getD (rw.length - 1 - i) 0))
open Go.Proofs.YtjmmleofnjcjoaaGreatDoor.Live in
set_option maxHeartbeats 8000000 in
set_option maxRecDepth 100000 in
theorem laws_FnDualMatrices.calls (k : Nat) (A0 : Option Addr) (c0 : Nat) (l0 : List Int) (A1 : Option Addr) (c1 : Nat) (l1 : List Int) (w : World) (hV : TabZ w) (hr0 : Kd.C (Kd.int .u8) w A0 l0.length l0) (hc0 : l0.length ≤ c0) (hr1 : Kd.C (Kd.int .u8) w A1 l1.length l1) (hc1 : l1.length ≤ c1) (h : laws_FnDualMatrices.Good k l0 l1) :
    Calls Tryz.prog 4 #[.slice A0 l0.length c0, .slice A1 l1.length c1] w fun e w' => e = .returned (.bool true) ∧ Below w.heap.size w w' := by
 have HC0 := aM hr0
 have HC1 := aM hr1
 have HL0 := aM hc0
 have HL1 := aM hc1
 clear hr0 hr1 hc0 hc1
 have HV := aM hV
 clear hV
 rcases h with hb | ⟨hb, z, o, m, m2, ok, e1, e2, e3, e4, e5⟩
 · {
 have HB := aM hb
 clear hb
 go_enter Tryz.func4, Tryz.ntmps4
 go_wp2_with (fail)
 refine (laws_big.calls A0 c0 l0 A1 c1 l1 true _ HC0.out HL0.out HC1.out HL1.out HB.out).mono ?_
 rintro e w1 ⟨rfl, ⟨q, rfl⟩⟩
 go_wp2_with (fail)
 go_ret
 exact ⟨rfl, pw_below_drewN (Below.refl _ _) _⟩}
 have HB := aM hb
 have E1 := aM e1
 have E2 := aM e2
 have E3 := aM e3
 have E4 := aM e4
 have E5 := aM e5
 clear hb e1 e2 e3 e4 e5
 go_enter Tryz.func4, Tryz.ntmps4
 go_wp2_with (fail)
 refine (laws_big.calls A0 c0 l0 A1 c1 l1 false _ (HC0.out) (HL0.out) (HC1.out) (HL1.out) HB.out).mono ?_
 rintro e w1 ⟨rfl, hd_⟩
 have H1 := aM ((Live.start w).drawn hd_)
 clear hd_
 go_wp2_with (fail)
 refine (Y61.calls k A0 c0 l0 z o _ (Kd.C_below HC0.out H1.out.below) (HL0.out) E1.out).mono ?_
 rintro e w2 ⟨u0, rfl, hs0, hb⟩
 have H2 := aM (Live.add (o := row (Kd.int .i64) 3 u0 o) H1.out hb hs0)
 clear hs0 hb
 obtain ⟨A_o, c_o, rfl, _, _⟩ := H2.out.form 0 rfl
 clear H1
 have H3 := aM (H2.out.new #[.int .i64 z, .slice A_o o.length c_o] 26)
 clear H2
 have k_o := cellV H3.out 1 rfl 0 rfl
 have k_o_1 := cellV H3.out 1 rfl 1 rfl
 go_wp2_with (fail)
 refine (Y43.calls k z A_o c_o o m ok _ (HV.out.below H3.out.below) ((H3.out.now 0 rfl).2.2) ((H3.out.now 0 rfl).2.1) E2.out).mono ?_
 rintro e w3 ⟨u0, rfl, hs0, hb⟩
 clear k_o k_o_1
 have H4 := aM (Live.add (o := rows (Kd.slice 3 (Kd.int .i64)) 24 u0 m) H3.out hb hs0)
 clear hs0 hb
 obtain ⟨A_m, c_m, rfl, _, _⟩ := H4.out.forms 2 rfl
 clear H3
 have H5 := aM (H4.out.new #[.slice A_m m.length c_m] 41)
 clear H4
 have H6 := aM (show Live w (World.alloc w3 (Obj.cells #[.slice A_m m.length c_m] 41)) [row (Kd.int .i64) 3 (.slice A_o o.length c_o) o, var w2.heap.size #[.int .i64 z, .slice A_o o.length c_o] 26, rows (Kd.slice 3 (Kd.int .i64)) 24 (.slice A_m m.length c_m) m, var w3.heap.size #[.slice A_m m.length c_m] 41] from H5.out)
 clear H5
 have k_o := cellV H6.out 1 rfl 0 rfl
 have k_o_1 := cellV H6.out 1 rfl 1 rfl
 go_wp2_with (fail)
 have bb : (ok != ok) = false := by simp
 refine (Y52.calls k z A_o c_o o m2 ok _ ((H6.out.now 0 rfl).2.2) ((H6.out.now 0 rfl).2.1) E3.out).mono ?_
 rintro e w4 ⟨u0, rfl, hs0, hb⟩
 clear k_o k_o_1
 have H7 := aM (Live.add (o := rows (Kd.slice 3 (Kd.int .i64)) 24 u0 m2) H6.out hb hs0)
 clear hs0 hb
 obtain ⟨A_m2, c_m2, rfl, _, _⟩ := H7.out.forms 4 rfl
 clear H6
 have H8 := aM (H7.out.new #[.slice A_m2 m2.length c_m2] 41)
 clear H7
 have H9 := aM (show Live w (World.alloc w4 (Obj.cells #[.slice A_m2 m2.length c_m2] 41)) [row (Kd.int .i64) 3 (.slice A_o o.length c_o) o, var w2.heap.size #[.int .i64 z, .slice A_o o.length c_o] 26, rows (Kd.slice 3 (Kd.int .i64)) 24 (.slice A_m m.length c_m) m, var w3.heap.size #[.slice A_m m.length c_m] 41, rows (Kd.slice 3 (Kd.int .i64)) 24 (.slice A_m2 m2.length c_m2) m2, var w4.heap.size #[.slice A_m2 m2.length c_m2] 41] from H8.out)
 clear H8
 have k_m := cellV H9.out 3 rfl 0 rfl
 have k_m2 := cellV H9.out 5 rfl 0 rfl
 go_wp2_with (fail)
 refine (laws_pSameMatrix.calls k A_m c_m m A_m2 c_m2 m2 true _ ((H9.out.nows 2 rfl).2.2) ((H9.out.nows 2 rfl).2.1) ((H9.out.nows 4 rfl).2.2) ((H9.out.nows 4 rfl).2.1) E4.out).mono ?_
 rintro e w5 ⟨rfl, hb⟩
 clear k_m k_m2
 have H10 := aM (H9.out.step hb)
 clear hb
 clear H9
 cases ok with
 | false => {
 go_wp2_with (fail)
 go_ret
 exact ⟨rfl, H10.out.below⟩}
 | true => {
 obtain ⟨d, d2, ot, bk, zm, mu, rw, cl, du, tu, g1, g2, g3, g4, g5, g6, g7, g8, g9, g10, g11, g12, g13, g14, g15⟩ := E5.out rfl
 have G1 := aM g1
 have G2 := aM g2
 have G3 := aM g3
 have G4 := aM g4
 have G5 := aM g5
 have G6 := aM g6
 have G7 := aM g7
 have G8 := aM g8
 have G9 := aM g9
 have G10 := aM g10
 have G11 := aM g11
 have G12 := aM g12
 have G13 := aM g13
 have G14 := aM g14
 have G15 := aM g15
 clear g1 g2 g3 g4 g5 g6 g7 g8 g9 g10 g11 g12 g13 g14 g15
 have k_m := cellV H10.out 3 rfl 0 rfl
 go_wp2_with (fail)
 clear bb
 refine (Y15.calls k A_m c_m m d true _ ((H10.out.nows 2 rfl).2.2) ((H10.out.nows 2 rfl).2.1) G1.out).mono ?_
 rintro e w6 ⟨u0, rfl, hs0, hb⟩
 clear k_m
 have H11 := aM (Live.add (o := rows (Kd.slice 3 (Kd.int .i64)) 24 u0 d) H10.out hb hs0)
 clear hs0 hb
 obtain ⟨A_d, c_d, rfl, _, _⟩ := H11.out.forms 6 rfl
 clear H10
 have H12 := aM (H11.out.new #[.slice A_d d.length c_d] 41)
 clear H11
 have H13 := aM (show Live w (World.alloc w6 (Obj.cells #[.slice A_d d.length c_d] 41)) [row (Kd.int .i64) 3 (.slice A_o o.length c_o) o, var w2.heap.size #[.int .i64 z, .slice A_o o.length c_o] 26, rows (Kd.slice 3 (Kd.int .i64)) 24 (.slice A_m m.length c_m) m, var w3.heap.size #[.slice A_m m.length c_m] 41, rows (Kd.slice 3 (Kd.int .i64)) 24 (.slice A_m2 m2.length c_m2) m2, var w4.heap.size #[.slice A_m2 m2.length c_m2] 41, rows (Kd.slice 3 (Kd.int .i64)) 24 (.slice A_d d.length c_d) d, var w6.heap.size #[.slice A_d d.length c_d] 41] from H12.out)
 clear H12
 have k_m := cellV H13.out 3 rfl 0 rfl
 go_wp2_with (fail)
 refine (Y21.calls k A_m c_m m d2 true _ ((H13.out.nows 2 rfl).2.2) ((H13.out.nows 2 rfl).2.1) G2.out).mono ?_
 rintro e w7 ⟨u0, rfl, hs0, hb⟩
 clear k_m
 have H14 := aM (Live.add (o := rows (Kd.slice 3 (Kd.int .i64)) 24 u0 d2) H13.out hb hs0)
 clear hs0 hb
 obtain ⟨A_d2, c_d2, rfl, _, _⟩ := H14.out.forms 8 rfl
 clear H13
 have H15 := aM (H14.out.new #[.slice A_d2 d2.length c_d2] 41)
 clear H14
 have H16 := aM (show Live w (World.alloc w7 (Obj.cells #[.slice A_d2 d2.length c_d2] 41)) [row (Kd.int .i64) 3 (.slice A_o o.length c_o) o, var w2.heap.size #[.int .i64 z, .slice A_o o.length c_o] 26, rows (Kd.slice 3 (Kd.int .i64)) 24 (.slice A_m m.length c_m) m, var w3.heap.size #[.slice A_m m.length c_m] 41, rows (Kd.slice 3 (Kd.int .i64)) 24 (.slice A_m2 m2.length c_m2) m2, var w4.heap.size #[.slice A_m2 m2.length c_m2] 41, rows (Kd.slice 3 (Kd.int .i64)) 24 (.slice A_d d.length c_d) d, var w6.heap.size #[.slice A_d d.length c_d] 41, rows (Kd.slice 3 (Kd.int .i64)) 24 (.slice A_d2 d2.length c_d2) d2, var w7.heap.size #[.slice A_d2 d2.length c_d2] 41] from H15.out)
 clear H15
 have k_o := cellV H16.out 1 rfl 0 rfl
 have k_o_1 := cellV H16.out 1 rfl 1 rfl
 go_wp2_with (fail)
 refine (Y56.calls k z A_o c_o o zm mu true _ ((H16.out.now 0 rfl).2.2) ((H16.out.now 0 rfl).2.1) G3.out).mono ?_
 rintro e w8 ⟨u0, rfl, hs0, hb⟩
 clear k_o k_o_1
 have H17 := aM (Live.add (o := row (Kd.int .i64) 3 u0 mu) H16.out hb hs0)
 clear hs0 hb
 obtain ⟨A_mu, c_mu, rfl, _, _⟩ := H17.out.form 10 rfl
 clear H16
 have H18 := aM (H17.out.new #[.int .i64 zm, .slice A_mu mu.length c_mu] 26)
 clear H17
 have H19 := aM (show Live w (World.alloc w8 (Obj.cells #[.int .i64 zm, .slice A_mu mu.length c_mu] 26)) [row (Kd.int .i64) 3 (.slice A_o o.length c_o) o, var w2.heap.size #[.int .i64 z, .slice A_o o.length c_o] 26, rows (Kd.slice 3 (Kd.int .i64)) 24 (.slice A_m m.length c_m) m, var w3.heap.size #[.slice A_m m.length c_m] 41, rows (Kd.slice 3 (Kd.int .i64)) 24 (.slice A_m2 m2.length c_m2) m2, var w4.heap.size #[.slice A_m2 m2.length c_m2] 41, rows (Kd.slice 3 (Kd.int .i64)) 24 (.slice A_d d.length c_d) d, var w6.heap.size #[.slice A_d d.length c_d] 41, rows (Kd.slice 3 (Kd.int .i64)) 24 (.slice A_d2 d2.length c_d2) d2, var w7.heap.size #[.slice A_d2 d2.length c_d2] 41, row (Kd.int .i64) 3 (.slice A_mu mu.length c_mu) mu, var w8.heap.size #[.int .i64 zm, .slice A_mu mu.length c_mu] 26] from H18.out)
 clear H18
 have k_mu := cellV H19.out 11 rfl 0 rfl
 have k_mu_1 := cellV H19.out 11 rfl 1 rfl
 go_wp2_with (fail)
 refine (Y43.calls k zm A_mu c_mu mu ot true _ (HV.out.below H19.out.below) ((H19.out.now 10 rfl).2.2) ((H19.out.now 10 rfl).2.1) G4.out).mono ?_
 rintro e w9 ⟨u0, rfl, hs0, hb⟩
 clear k_mu k_mu_1
 have H20 := aM (Live.add (o := rows (Kd.slice 3 (Kd.int .i64)) 24 u0 ot) H19.out hb hs0)
 clear hs0 hb
 obtain ⟨A_ot, c_ot, rfl, _, _⟩ := H20.out.forms 12 rfl
 clear H19
 have H21 := aM (H20.out.new #[.slice A_ot ot.length c_ot] 41)
 clear H20
 have H22 := aM (show Live w (World.alloc w9 (Obj.cells #[.slice A_ot ot.length c_ot] 41)) [row (Kd.int .i64) 3 (.slice A_o o.length c_o) o, var w2.heap.size #[.int .i64 z, .slice A_o o.length c_o] 26, rows (Kd.slice 3 (Kd.int .i64)) 24 (.slice A_m m.length c_m) m, var w3.heap.size #[.slice A_m m.length c_m] 41, rows (Kd.slice 3 (Kd.int .i64)) 24 (.slice A_m2 m2.length c_m2) m2, var w4.heap.size #[.slice A_m2 m2.length c_m2] 41, rows (Kd.slice 3 (Kd.int .i64)) 24 (.slice A_d d.length c_d) d, var w6.heap.size #[.slice A_d d.length c_d] 41, rows (Kd.slice 3 (Kd.int .i64)) 24 (.slice A_d2 d2.length c_d2) d2, var w7.heap.size #[.slice A_d2 d2.length c_d2] 41, row (Kd.int .i64) 3 (.slice A_mu mu.length c_mu) mu, var w8.heap.size #[.int .i64 zm, .slice A_mu mu.length c_mu] 26, rows (Kd.slice 3 (Kd.int .i64)) 24 (.slice A_ot ot.length c_ot) ot, var w9.heap.size #[.slice A_ot ot.length c_ot] 41] from H21.out)
 clear H21
 have k_d := cellV H22.out 7 rfl 0 rfl
 go_wp2_with (fail)
 refine (Y15.calls k A_d c_d d bk true _ ((H22.out.nows 6 rfl).2.2) ((H22.out.nows 6 rfl).2.1) G5.out).mono ?_
 rintro e w10 ⟨u0, rfl, hs0, hb⟩
 clear k_d
 have H23 := aM (Live.add (o := rows (Kd.slice 3 (Kd.int .i64)) 24 u0 bk) H22.out hb hs0)
 clear hs0 hb
 obtain ⟨A_bk, c_bk, rfl, _, _⟩ := H23.out.forms 14 rfl
 clear H22
 have H24 := aM (H23.out.new #[.slice A_bk bk.length c_bk] 41)
 clear H23
 have H25 := aM (show Live w (World.alloc w10 (Obj.cells #[.slice A_bk bk.length c_bk] 41)) [row (Kd.int .i64) 3 (.slice A_o o.length c_o) o, var w2.heap.size #[.int .i64 z, .slice A_o o.length c_o] 26, rows (Kd.slice 3 (Kd.int .i64)) 24 (.slice A_m m.length c_m) m, var w3.heap.size #[.slice A_m m.length c_m] 41, rows (Kd.slice 3 (Kd.int .i64)) 24 (.slice A_m2 m2.length c_m2) m2, var w4.heap.size #[.slice A_m2 m2.length c_m2] 41, rows (Kd.slice 3 (Kd.int .i64)) 24 (.slice A_d d.length c_d) d, var w6.heap.size #[.slice A_d d.length c_d] 41, rows (Kd.slice 3 (Kd.int .i64)) 24 (.slice A_d2 d2.length c_d2) d2, var w7.heap.size #[.slice A_d2 d2.length c_d2] 41, row (Kd.int .i64) 3 (.slice A_mu mu.length c_mu) mu, var w8.heap.size #[.int .i64 zm, .slice A_mu mu.length c_mu] 26, rows (Kd.slice 3 (Kd.int .i64)) 24 (.slice A_ot ot.length c_ot) ot, var w9.heap.size #[.slice A_ot ot.length c_ot] 41, rows (Kd.slice 3 (Kd.int .i64)) 24 (.slice A_bk bk.length c_bk) bk, var w10.heap.size #[.slice A_bk bk.length c_bk] 41] from H24.out)
 clear H24
 have k_m := cellV H25.out 3 rfl 0 rfl
 go_wp2_with (fail)
 refine (Y50.calls k A_m c_m m rw cl true _ ((H25.out.nows 2 rfl).2.2) ((H25.out.nows 2 rfl).2.1) G6.out).mono ?_
 rintro e w11 ⟨u0, u1, rfl, hs0, hs1, hb⟩
 clear k_m
 have H26 := aM (Live.addRR rfl rfl H25.out hb hs0 hs1)
 clear hs0 hs1 hb
 obtain ⟨A_rw, c_rw, rfl, _, _⟩ := H26.out.form 16 rfl
 obtain ⟨A_cl, c_cl, rfl, _, _⟩ := H26.out.form 17 rfl
 clear H25
 have H27 := aM (show Live w w11 [row (Kd.int .i64) 3 (.slice A_o o.length c_o) o, var w2.heap.size #[.int .i64 z, .slice A_o o.length c_o] 26, rows (Kd.slice 3 (Kd.int .i64)) 24 (.slice A_m m.length c_m) m, var w3.heap.size #[.slice A_m m.length c_m] 41, rows (Kd.slice 3 (Kd.int .i64)) 24 (.slice A_m2 m2.length c_m2) m2, var w4.heap.size #[.slice A_m2 m2.length c_m2] 41, rows (Kd.slice 3 (Kd.int .i64)) 24 (.slice A_d d.length c_d) d, var w6.heap.size #[.slice A_d d.length c_d] 41, rows (Kd.slice 3 (Kd.int .i64)) 24 (.slice A_d2 d2.length c_d2) d2, var w7.heap.size #[.slice A_d2 d2.length c_d2] 41, row (Kd.int .i64) 3 (.slice A_mu mu.length c_mu) mu, var w8.heap.size #[.int .i64 zm, .slice A_mu mu.length c_mu] 26, rows (Kd.slice 3 (Kd.int .i64)) 24 (.slice A_ot ot.length c_ot) ot, var w9.heap.size #[.slice A_ot ot.length c_ot] 41, rows (Kd.slice 3 (Kd.int .i64)) 24 (.slice A_bk bk.length c_bk) bk, var w10.heap.size #[.slice A_bk bk.length c_bk] 41, row (Kd.int .i64) 3 (.slice A_rw rw.length c_rw) rw, row (Kd.int .i64) 3 (.slice A_cl cl.length c_cl) cl] from H26.out)
 clear H26
 have k_d := cellV H27.out 7 rfl 0 rfl
 go_wp2_with (fail)
 refine (Y50.calls k A_d c_d d du tu true _ ((H27.out.nows 6 rfl).2.2) ((H27.out.nows 6 rfl).2.1) G7.out).mono ?_
 rintro e w12 ⟨u0, u1, rfl, hs0, hs1, hb⟩
 clear k_d
 have H28 := aM (Live.addRR rfl rfl H27.out hb hs0 hs1)
 clear hs0 hs1 hb
 obtain ⟨A_du, c_du, rfl, _, _⟩ := H28.out.form 18 rfl
 obtain ⟨A_tu, c_tu, rfl, _, _⟩ := H28.out.form 19 rfl
 clear H27
 have H29 := aM (show Live w w12 [row (Kd.int .i64) 3 (.slice A_o o.length c_o) o, var w2.heap.size #[.int .i64 z, .slice A_o o.length c_o] 26, rows (Kd.slice 3 (Kd.int .i64)) 24 (.slice A_m m.length c_m) m, var w3.heap.size #[.slice A_m m.length c_m] 41, rows (Kd.slice 3 (Kd.int .i64)) 24 (.slice A_m2 m2.length c_m2) m2, var w4.heap.size #[.slice A_m2 m2.length c_m2] 41, rows (Kd.slice 3 (Kd.int .i64)) 24 (.slice A_d d.length c_d) d, var w6.heap.size #[.slice A_d d.length c_d] 41, rows (Kd.slice 3 (Kd.int .i64)) 24 (.slice A_d2 d2.length c_d2) d2, var w7.heap.size #[.slice A_d2 d2.length c_d2] 41, row (Kd.int .i64) 3 (.slice A_mu mu.length c_mu) mu, var w8.heap.size #[.int .i64 zm, .slice A_mu mu.length c_mu] 26, rows (Kd.slice 3 (Kd.int .i64)) 24 (.slice A_ot ot.length c_ot) ot, var w9.heap.size #[.slice A_ot ot.length c_ot] 41, rows (Kd.slice 3 (Kd.int .i64)) 24 (.slice A_bk bk.length c_bk) bk, var w10.heap.size #[.slice A_bk bk.length c_bk] 41, row (Kd.int .i64) 3 (.slice A_rw rw.length c_rw) rw, row (Kd.int .i64) 3 (.slice A_cl cl.length c_cl) cl, row (Kd.int .i64) 3 (.slice A_du du.length c_du) du, row (Kd.int .i64) 3 (.slice A_tu tu.length c_tu) tu] from H28.out)
 clear H28
 have k_d := cellV H29.out 7 rfl 0 rfl
 have k_d2 := cellV H29.out 9 rfl 0 rfl
 go_wp2_with (fail)
 refine (laws_pSameMatrix.calls k A_d c_d d A_d2 c_d2 d2 true _ ((H29.out.nows 6 rfl).2.2) ((H29.out.nows 6 rfl).2.1) ((H29.out.nows 8 rfl).2.2) ((H29.out.nows 8 rfl).2.1) G8.out).mono ?_
 rintro e w13 ⟨rfl, hb⟩
 clear k_d k_d2
 have H30 := aM (H29.out.step hb)
 clear hb
 clear H29
 have k_d := cellV H30.out 7 rfl 0 rfl
 have k_ot := cellV H30.out 13 rfl 0 rfl
 go_wp2_with (fail)
 refine (laws_pSameMatrix.calls k A_d c_d d A_ot c_ot ot true _ ((H30.out.nows 6 rfl).2.2) ((H30.out.nows 6 rfl).2.1) ((H30.out.nows 12 rfl).2.2) ((H30.out.nows 12 rfl).2.1) G9.out).mono ?_
 rintro e w14 ⟨rfl, hb⟩
 clear k_d k_ot
 have H31 := aM (H30.out.step hb)
 clear hb
 clear H30
 have k_bk := cellV H31.out 15 rfl 0 rfl
 have k_m := cellV H31.out 3 rfl 0 rfl
 go_wp2_with (fail)
 refine (laws_pSameMatrix.calls k A_bk c_bk bk A_m c_m m true _ ((H31.out.nows 14 rfl).2.2) ((H31.out.nows 14 rfl).2.1) ((H31.out.nows 2 rfl).2.2) ((H31.out.nows 2 rfl).2.1) G10.out).mono ?_
 rintro e w15 ⟨rfl, hb⟩
 clear k_bk k_m
 have H32 := aM (H31.out.step hb)
 clear hb
 clear H31
 go_wp2_with (fail)
 go_loopg [139] (rw.length + 1) (fun kq v139 w' => ∃ i : Nat, v139 = .int .i64 (i : Int) ∧ Aside0 (i ≤ rw.length ∧ kq = rw.length - i + 1) ∧ Aside0 (Live w w' [row (Kd.int .i64) 3 (.slice A_o o.length c_o) o, var w2.heap.size #[.int .i64 z, .slice A_o o.length c_o] 26, rows (Kd.slice 3 (Kd.int .i64)) 24 (.slice A_m m.length c_m) m, var w3.heap.size #[.slice A_m m.length c_m] 41, rows (Kd.slice 3 (Kd.int .i64)) 24 (.slice A_m2 m2.length c_m2) m2, var w4.heap.size #[.slice A_m2 m2.length c_m2] 41, rows (Kd.slice 3 (Kd.int .i64)) 24 (.slice A_d d.length c_d) d, var w6.heap.size #[.slice A_d d.length c_d] 41, rows (Kd.slice 3 (Kd.int .i64)) 24 (.slice A_d2 d2.length c_d2) d2, var w7.heap.size #[.slice A_d2 d2.length c_d2] 41, row (Kd.int .i64) 3 (.slice A_mu mu.length c_mu) mu, var w8.heap.size #[.int .i64 zm, .slice A_mu mu.length c_mu] 26, rows (Kd.slice 3 (Kd.int .i64)) 24 (.slice A_ot ot.length c_ot) ot, var w9.heap.size #[.slice A_ot ot.length c_ot] 41, rows (Kd.slice 3 (Kd.int .i64)) 24 (.slice A_bk bk.length c_bk) bk, var w10.heap.size #[.slice A_bk bk.length c_bk] 41, row (Kd.int .i64) 3 (.slice A_rw rw.length c_rw) rw, row (Kd.int .i64) 3 (.slice A_cl cl.length c_cl) cl, row (Kd.int .i64) 3 (.slice A_du du.length c_du) du, row (Kd.int .i64) 3 (.slice A_tu tu.length c_tu) tu]))
 case atStart => exact ⟨0, rfl, ⟨Nat.zero_le _, rfl⟩, H32⟩
 case round => (
 clear H32
 obtain ⟨i, rfl, HI, H0⟩ := hrel
 by_cases ci : i < rw.length
 · {
 have hn := G14.out
 have l1 := G11.out
 have l2 := G12.out
 have l3 := G13.out
 obtain ⟨j, hj⟩ : ∃ j, j = rw.length - 1 - i := ⟨_, rfl⟩
 obtain ⟨ad_a, e_a, x_a⟩ := C_num ((H0.out.now 16 rfl).2.2) i (by omega)
 obtain ⟨ad_b, e_b, x_b⟩ := C_num ((H0.out.now 19 rfl).2.2) j (by omega)
 obtain ⟨ad_c, e_c, x_c⟩ := C_num ((H0.out.now 17 rfl).2.2) i (by omega)
 obtain ⟨ad_d, e_d, x_d⟩ := C_num ((H0.out.now 18 rfl).2.2) j (by omega)
 rw [(G15.out i ci).1, ← hj] at x_a
 rw [(G15.out i ci).2, ← hj] at x_c
 have y1 : IntKind.i64.wrap ((rw.length : Int) - 1) = ((rw.length - 1 : Nat) : Int) := by rw [i64_w]; unfold wrap64; omega
 have y2 : IntKind.i64.wrap (((rw.length - 1 : Nat) : Int) - (i : Int)) = (j : Int) := by rw [i64_w, hj]; unfold wrap64; omega
 have z0 : (0 : Int) ≤ (i : Int) := by omega
 have t0 : (i : Int) < (rw.length : Int) := by omega
 have z1 : (0 : Int) ≤ (j : Int) := by omega
 have t1 : (j : Int) < (tu.length : Int) := by omega
 have z2 : (0 : Int) ≤ (i : Int) := by omega
 have t2 : (i : Int) < (cl.length : Int) := by omega
 have z3 : (0 : Int) ≤ (j : Int) := by omega
 have t3 : (j : Int) < (du.length : Int) := by omega
 clear hj l1 l2 l3
 have u0 : (tu.getD j 0 != tu.getD j 0) = false := by simp
 have u1 : (du.getD j 0 != du.getD j 0) = false := by simp
 obtain ⟨va, hva⟩ : ∃ va, va = tu.getD j 0 := ⟨_, rfl⟩
 obtain ⟨vb, hvb⟩ : ∃ vb, vb = du.getD j 0 := ⟨_, rfl⟩
 rw [← hva] at x_a x_b u0
 rw [← hvb] at x_c x_d u1
 clear hva hvb hn
 subst e_a e_b e_c e_d
 go_wp2_with (fail)
 go_cut [167] (fun s_ wx => s_ = .bool false ∧ Aside0 (Live w wx [row (Kd.int .i64) 3 (.slice A_o o.length c_o) o, var w2.heap.size #[.int .i64 z, .slice A_o o.length c_o] 26, rows (Kd.slice 3 (Kd.int .i64)) 24 (.slice A_m m.length c_m) m, var w3.heap.size #[.slice A_m m.length c_m] 41, rows (Kd.slice 3 (Kd.int .i64)) 24 (.slice A_m2 m2.length c_m2) m2, var w4.heap.size #[.slice A_m2 m2.length c_m2] 41, rows (Kd.slice 3 (Kd.int .i64)) 24 (.slice A_d d.length c_d) d, var w6.heap.size #[.slice A_d d.length c_d] 41, rows (Kd.slice 3 (Kd.int .i64)) 24 (.slice A_d2 d2.length c_d2) d2, var w7.heap.size #[.slice A_d2 d2.length c_d2] 41, row (Kd.int .i64) 3 (.slice A_mu mu.length c_mu) mu, var w8.heap.size #[.int .i64 zm, .slice A_mu mu.length c_mu] 26, rows (Kd.slice 3 (Kd.int .i64)) 24 (.slice A_ot ot.length c_ot) ot, var w9.heap.size #[.slice A_ot ot.length c_ot] 41, rows (Kd.slice 3 (Kd.int .i64)) 24 (.slice A_bk bk.length c_bk) bk, var w10.heap.size #[.slice A_bk bk.length c_bk] 41, row (Kd.int .i64) 3 (.slice (some ad_a) rw.length c_rw) rw, row (Kd.int .i64) 3 (.slice (some ad_c) cl.length c_cl) cl, row (Kd.int .i64) 3 (.slice (some ad_d) du.length c_du) du, row (Kd.int .i64) 3 (.slice (some ad_b) tu.length c_tu) tu]))
 case first => (
 go_region_held3 (fun w' => w'.cell? (ad_a.add i) = some (.int .i64 va) ∧ w'.cell? (ad_b.add j) = some (.int .i64 va) ∧ w'.cell? (ad_c.add i) = some (.int .i64 vb) ∧ w'.cell? (ad_d.add j) = some (.int .i64 vb) ∧ Below wr.heap.size wr w') ((refine ⟨pw_cell_below ?hb x_a, pw_cell_below ?hb x_b, pw_cell_below ?hb x_c, pw_cell_below ?hb x_d, ?hb⟩; (case hb => ((repeat (first | assumption | exact Below.refl _ _ | apply below_alloc | apply pw_below_drewN | apply below_drew1)); done)))) (first | fail)
 all_goals (go_wp2_with fail; go_meet)
 all_goals exact ⟨rfl, ⟨H0.out.step (by ((repeat (first | assumption | exact Below.refl _ _ | apply below_alloc | apply pw_below_drewN | apply below_drew1)); done))⟩⟩)
 case rest => (
 rename_i aK
 obtain ⟨rfl, H33⟩ := hcut
 refine aK _ _ ?_
 clear H0
 go_wp2_with (fail)
 go_roundg (rw.length - i)
 case measure => have := HI.out; omega
 case rel => exact ⟨i + 1, by first | rfl | exact up1 (by have := G14.out; omega), ⟨by omega, by omega⟩, H33⟩)}
 · {
 obtain rfl : i = rw.length := by have := HI.out.1; omega
 have d1 : decide ((rw.length : Int) < (rw.length : Int)) = false := decide_eq_false (by omega)
 go_wp2_with (fail)
 go_ret
 exact ⟨rfl, H0.out.below⟩})}
def laws_FnDualMatrices.Pure : Prop := ∀ (l0 : List Int) (l1 : List Int), l0.length ≤ maxLen → l0.length * 1 ≤ 140737488351232 → (∀ x ∈ l0, (Lit.int .u8 x).wf = true) → l1.length ≤ maxLen → l1.length * 1 ≤ 140737488351232 → (∀ x ∈ l1, (Lit.int .u8 x).wf = true) → ∃ k, laws_FnDualMatrices.Good k l0 l1
theorem laws_FnDualMatrices.walk (P : laws_FnDualMatrices.Pure) (a0 : Option Addr) (len0 cap0 : Nat) (z0 : List Int) (a1 : Option Addr) (len1 cap1 : Nat) (z1 : List Int) (w : World) (hV : TabZ w) (w0 : (a0 = none ∧ len0 = 0 ∧ cap0 = 0 ∧ z0 = []) ∨ ∃ x, a0 = some x ∧ len0 ≤ cap0 ∧ cap0 ≤ maxLen ∧ z0.length = cap0 ∧ (∀ i, i < z0.length → w.cell? (x.add i) = some (.int .u8 (z0.getD i 0))) ∧ ∀ n ∈ z0, (Lit.int .u8 n).wf = true) (y0 : len0 * 1 ≤ 140737488351232) (w1 : (a1 = none ∧ len1 = 0 ∧ cap1 = 0 ∧ z1 = []) ∨ ∃ x, a1 = some x ∧ len1 ≤ cap1 ∧ cap1 ≤ maxLen ∧ z1.length = cap1 ∧ (∀ i, i < z1.length → w.cell? (x.add i) = some (.int .u8 (z1.getD i 0))) ∧ ∀ n ∈ z1, (Lit.int .u8 n).wf = true) (y1 : len1 * 1 ≤ 140737488351232) :
  Calls Tryz.prog 4 #[.slice a0 len0 cap0, .slice a1 len1 cap1] w fun e w' => e = .returned (.bool true) ∧ Below w.heap.size w w' := by
 obtain ⟨l0, rfl, hr0, hm0, hw0, hc0⟩ := ReadsInt.ofRowC w0
 obtain ⟨l1, rfl, hr1, hm1, hw1, hc1⟩ := ReadsInt.ofRowC w1
 obtain ⟨k, h⟩ := P l0 l1 hm0 y0 hw0 hm1 y1 hw1
 refine (laws_FnDualMatrices.calls k _ _ l0 _ _ l1 w hV (Kd.C_of_reads (d := (0 : Int)) (h1 := fun _ => rfl) hr0) hc0 (Kd.C_of_reads (d := (0 : Int)) (h1 := fun _ => rfl) hr1) hc1 h).mono ?_
 rintro e w' ⟨rfl, hd⟩
 exact ⟨rfl, hd⟩
end Go.Proofs.YtjmmleofnjcjoaaGreatDoor.Du
