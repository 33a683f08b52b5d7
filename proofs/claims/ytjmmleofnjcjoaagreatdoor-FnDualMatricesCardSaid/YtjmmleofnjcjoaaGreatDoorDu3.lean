-- Written by hook.py (wip/), over the kit's print.py.
import Derived.Test.YtjmmleofnjcjoaaGreatDoorDu2
import Derived.Test.YtjmmleofnjcjoaaGreatDoorDuXSq
namespace Go.Proofs.YtjmmleofnjcjoaaGreatDoor.Du
open Go.RowKit Go.Proofs.YtjmmleofnjcjoaaGreatDoorW.PrintWords Go.Proofs.YtjmmleofnjcjoaaGreatDoorW.PrintLast Go.Proofs.YtjmmleofnjcjoaaGreatDoorW.PrintMore Go.Proofs.YtjmmleofnjcjoaaGreatDoor.Sq
attribute [local go_sem] max2_int min2_int max_two min_two max_three min_three max_four min_four
set_option linter.unusedVariables false
set_option linter.unusedSimpArgs false
mutual
def Y5.l0 : Nat → Int → Int → Int → List Int → Option (Int × List Int × Bool)
 | 0, _, _, _, _ => none
 | k + 1, x19, x20, x133000, x133001 => if x20 < x19 then (Y5.l1 k x20 x19 x20 (x133001.length : Int) 0 x133000 x133001) else (some (x133000, x133001, true))
def Y5.l1 : Nat → Int → Int → Int → Int → Int → Int → List Int → Option (Int × List Int × Bool)
 | 0, _, _, _, _, _, _, _ => none
 | k + 1, x5, x19, x20, x25, x26, x133000, x133001 => if x26 < x25 then (if 0 ≤ x26 then (if x26 < (x133001.length : Int) then ((Y7.f (rd x133001 x26) x5).bind fun t134 => (if t134 = true then (if 0 ≤ x5 then (if x5 < (x133001.length : Int) then (Y5.l1 k x5 x19 x20 x25 (wrap64 (x26 + 1)) x133000 (x133001.set (x26 : Int).toNat (Go.bits .or .i64 (rd x133001 x26) (rd x133001 x5)))) else (none)) else (none)) else (Y5.l1 k x5 x19 x20 x25 (wrap64 (x26 + 1)) x133000 x133001))) else (none)) else (none)) else (Y5.l0 k x19 (wrap64 (x20 + 1)) x133000 x133001)
end
def Y5.f (k : Nat) (a0_0 : Int) (l0_1 : List Int) : Option (Int × List Int × Bool) := (Y48.f k a0_0 l0_1).bind fun t128 => (if t128 = true then ((Y53.f l0_1).bind fun t129 => (Y5.l0 k (t129.length : Int) 0 a0_0 t129)) else (some (0, ([] : List Int), false)))
def Y5.T3 : Bool × List (List Nat × List Nat) := (true, [([], []), ([0], [0]), ([], []), ([2], [2]), ([3], [3]), ([1, 4], [1, 4]), ([], []), ([6, 5, 4, 0, 1, 2, 3, 4, 5, 6], [5, 6])])
def Y5.B3 : List Nat := [0, 1, 0, 4, 12, 31, 0, 127]
theorem Y5.tab3 : rtab .any (opsOf Tryz.f210 3) = Y5.T3 := by kernel_rfl
theorem Y5.bits3 : waitsOk Y5.T3.2 Y5.B3 = true := by kernel_rfl
def Y5.T11 : Bool × List (List Nat × List Nat) := (true, [([], []), ([0], [0]), ([], []), ([1, 2], [1, 2]), ([3], [3]), ([], []), ([5], [5]), ([], []), ([6, 7], [6, 7]), ([8], [8]), ([4, 9], [4, 9]), ([1, 2, 0, 1, 2, 3, 4, 5, 6, 7, 8, 9, 10], [1, 2]), ([11, 10, 0, 1, 2, 3, 4, 5, 6, 7, 8, 9, 10], [10, 11])])
def Y5.B11 : List Nat := [0, 1, 0, 7, 15, 0, 32, 0, 224, 480, 1023, 2047, 4095]
theorem Y5.tab11 : rtab .any (opsOf Tryz.f210 11) = Y5.T11 := by kernel_rfl
theorem Y5.bits11 : waitsOk Y5.T11.2 Y5.B11 = true := by kernel_rfl
set_option maxHeartbeats 8000000 in
set_option maxRecDepth 100000 in
theorem Y5.calls (k : Nat) (a0_0 : Int) (A0_1 : Option Addr) (c0_1 : Nat) (l0_1 : List Int) (r1 : Int) (r2 : List Int) (r3 : Bool) (w : World) (hr0_1 : Kd.C (Kd.int .i64) w A0_1 l0_1.length l0_1) (hc0_1 : l0_1.length ≤ c0_1) (h : Y5.f k a0_0 l0_1 = some (r1, r2, r3)) :
  Calls Tryz.prog 210 #[.agg #[.int .i64 a0_0, .slice A0_1 l0_1.length c0_1]] w fun e w' => ∃ v1_ : Value, e = .returned (.tuple #[.agg #[.int .i64 r1, v1_], .bool r3]) ∧ Kd.R (Kd.int .i64) 3 w' w.heap.size (fun _ => True) v1_ r2 ∧ Below w.heap.size w w' := by
 have hu26 := Tryz.underlying26
 have HR0_1 := aM hr0_1
 have HC0_1 := aM hc0_1
 clear hr0_1 hc0_1
 have HB := aM (Below.refl w.heap.size w)
 unfold Y5.f at h
 have H := h
 clear h
 replace H := bS H
 obtain ⟨t128, A2, H⟩ := H
 try dsimp only at H
 by_cases c3 : t128 = true
 ·subst c3
  have H1 : ((Y53.f l0_1).bind fun t129 => (Y5.l0 k (t129.length : Int) 0 a0_0 t129)) = some (r1, r2, r3) := by rw [if_pos rfl] at H; exact H
  clear H
  have H := H1
  clear H1
  replace H := bS H
  obtain ⟨t129, A4, H⟩ := H
  try dsimp only at H
  have H' := aM H
  clear H
  go_enter Tryz.func210, Tryz.ntmps210
  try go_wp2_with (first | ((with_reducible refine gate_dst (N := 1) rfl ?_); refine bF 1 26 #[.int .i64 a0_0, .slice A0_1 l0_1.length c0_1] bq ?_; intro gb126 w5 hg hb _ _ _ _; clear HB; rename_i HB BK126 GW126 GE126; clear hb hg) | ((with_reducible refine gate_dst (N := 2) rfl ?_); refine bE 2 26 #[.int .i64 0, .slice none 0 0] ?_; intro gb127 hg w6 hbox hb; have _ := bK BK126 hb; have _ := bB hb; have _ := aM (hbox); have _ := aM ((gS hg)); have _ := aM ((gS hg)); have _ := aM (nL hg BK126); have _ := aM (nG hg BK126); clear BK126 HB; rename_i BK126 HB BK127 GW127 GE127 NB126_127 NB127_126; clear hb hbox hg; have hnb7 := NB126_127.out; have hnc7 := NB127_126.out; have hcz8_0 := zc20 BK126; have hcz8_1 := zc21 BK126; have hfz8_0 := blk_frozen BK126.out 0; have hfz8_1 := blk_frozen BK126.out 1) | ((with_reducible refine gate_callee (f := 64) rfl ?_); refine gL (some 8) Tryz.func64 #[.agg #[.int .i64 a0_0, .slice A0_1 l0_1.length c0_1]] ?_; (with_reducible refine (Y48.calls k a0_0 _ _ l0_1 true _ (cQ (Kd.C_below HR0_1.out HB.out)) HC0_1.out A2.out).mono ?_); rintro e w9 ⟨rfl, hb⟩; refine ⟨_, rfl, ?_⟩; have _ := bK BK126 hb; have _ := bK BK127 hb; have _ := bB hb; clear BK126 BK127 HB; rename_i BK126 BK127 HB; (try clear hb)))
  have n0_ := aM (blk_drew BK126.out)
  have n1_ := aM (blk_drew BK127.out)
  have n2_ := aM (below_drew1 HB.out)
  clear BK126
  clear BK127
  clear HB
  have BK126 := n0_
  have BK127 := n1_
  have HB := n2_
  clear n0_ n1_ n2_
  refine start_ (n := 8) (S := fun w' => w'.cell? ⟨gb126, 0, none⟩ = some (.int .i64 a0_0) ∧ w'.cell? ⟨gb126, 1, none⟩ = some (.slice A0_1 l0_1.length c0_1)) (ds := []) #[false, false, false, false, false, false, false, false] (by kernel_rfl) rfl rfl ⟨(blk_cell BK126.out 0).trans rfl, (blk_cell BK126.out 1).trans rfl⟩ (fun hHeld => ?_); refine with_tabW Y5.tab3 Y5.bits3 (fun HT_ HW_ => ?_)
  generalize w9.drew = w10 at BK126 BK127 HB hHeld ⊢
  refine pA 0 11 (h := ?_)
  refine pA 2 13 (h := ?_)
  refine tA 1 12 hHeld (h := ?_)
  refine tA 3 14 hHeld (h := ?_)
  refine join_ (σ := Value × Nat) 1 #[true, true, true, true, true, true, true, false] (fun s_ => [(15, s_.1), (4, .pointer (some ⟨s_.2, 0, none⟩)), (16, .agg #[.int .i64 a0_0, s_.1])]) (fun s_ w' => (w'.cell? ⟨gb126, 0, none⟩ = some (.int .i64 a0_0) ∧ w'.cell? ⟨gb126, 1, none⟩ = some (.slice A0_1 l0_1.length c0_1)) ∧ (Kd.R (Kd.int .i64) 3 w' w.heap.size (fun _ => True) s_.1 t129) ∧ (w'.heap[gb126]? = some (.cells #[.int .i64 a0_0, .slice A0_1 l0_1.length c0_1] 26 (0, 0))) ∧ (w'.heap[gb127]? = some (.cells #[.int .i64 0, .slice none 0 0] 26 (0, 0))) ∧ (w'.heap[s_.2]? = some (.cells #[.int .i64 0, .slice none 0 0] 26 (0, 0))) ∧ (w.heap.size ≤ s_.2) ∧ (w.heap.size ≤ s_.2) ∧ (gb126 ≠ s_.2) ∧ (s_.2 ≠ gb126) ∧ (gb127 ≠ s_.2) ∧ (s_.2 ≠ gb127) ∧ (Below w.heap.size w w')) ?_ ?_
  rotate_left
  ·intro hCont
   refine two_ (i := 4) (j := 6) (Ni := some 15) (Nj := some 4) #[true, true, true, true, true, false, false, false] #[true, true, true, true, false, false, true, false] rfl rfl rfl rfl (two_of HT_.out (by kernel_rfl)) (by decide) (by decide) (fun K hK => ?_) (fun K hK => ?_)
   ·skip
    refine goes_ Tryz.func176 (by kernel_rfl) rfl #[.slice A0_1 l0_1.length c0_1] (by rfl) rfl rfl (by (try simp only [List.map_toArray, List.map_cons, List.map_nil]); first | done | rfl | (simp only [List.length_drop, List.length_take]; rfl)) ?_
    with_reducible refine (Y53.calls _ _ l0_1 t129 _ ?side1 ?side2 A4.out).mono ?_
    (case side1 => exact cQ (Kd.C_below HR0_1.out HB.out))
    (case side2 => exact HC0_1.out)
    rintro e w11 ⟨v130, rfl, ho0, hb⟩
    refine ⟨_, rfl, ?_⟩
    have n0_ := aM (Kd.R_lower ho0 (below_size bq))
    have n1_ := aM (blk_below (qQ BK126) hb)
    have n2_ := aM (blk_below (qQ BK127) hb)
    have n3_ := aM (below_step bq hb)
    clear BK126
    clear BK127
    clear HB
    have HO131 := n0_
    have BK126 := n1_
    have BK127 := n2_
    have HB := n3_
    clear n0_ n1_ n2_ n3_
    (try clear hb)
    (try clear hb2)
    (try clear hk)
    (try clear hi)
    (try clear ho0)
    obtain ⟨Ao12, co12, eo12⟩ := Kd.R_slice HO131.out
    (first | subst eo12 | (injection eo12 with f1_ f2_ f3_; have f4_ := f1_.symm; have f5_ := f3_.symm; clear f1_ f2_ f3_; subst f4_; subst f5_))
    refine hK.out _ _ ⟨(blk_cell BK126.out 0).trans rfl, (blk_cell BK126.out 1).trans rfl⟩ (fun hHeld => ?_)
    clear hK K
    refine nA 15 (h := ?_)
    refine pA 5 16 (h := ?_)
    refine one_ (i := 6) (N := some 4) #[true, true, true, true, true, true, true, false] rfl rfl (one_of HT_.out (by kernel_rfl)) (by decide) (fun K hK => ?_)
    refine box_step ?hg (N := 4) ?hd (cs := #[.int .i64 0, .slice none 0 0]) (t := 26) ?hr ?_; (case hd => rfl); (case hg => rfl); (case hr => first | (go_simp; done) | (go_simp; rfl))
    intro gb132 hg w13 hbox hb
    have n0_ := aM (Kd.R_below (rQ HO131) hb)
    have n1_ := aM (blk_below (qQ BK126) hb)
    have n2_ := aM (blk_below (qQ BK127) hb)
    have n3_ := aM (below_step bq hb)
    have n4_ := aM (hbox)
    have n5_ := aM ((gS hg))
    have n6_ := aM ((gS hg))
    have n7_ := aM (nL hg BK126)
    have n8_ := aM (nG hg BK126)
    have n9_ := aM (nL hg BK127)
    have n10_ := aM (nG hg BK127)
    clear HO131
    clear BK126
    clear BK127
    clear HB
    have HO131 := n0_
    have BK126 := n1_
    have BK127 := n2_
    have HB := n3_
    have BK132 := n4_
    have GW132 := n5_
    have GE132 := n6_
    have NB126_132 := n7_
    have NB132_126 := n8_
    have NB127_132 := n9_
    have NB132_127 := n10_
    clear n0_ n1_ n2_ n3_ n4_ n5_ n6_ n7_ n8_ n9_ n10_
    clear hb hbox hg
    refine hK.out _ _ ⟨(blk_cell BK126.out 0).trans rfl, (blk_cell BK126.out 1).trans rfl⟩ (fun hHeld => ?_)
    clear hK K
    refine nA 4 (h := ?_)
    exact norm_ (by simp only [putAll, Act.put, List.setIfInBounds_toArray, List.set_cons_zero, List.set_cons_succ]) (hCont (.slice Ao12 t129.length co12, gb132) _ ⟨hHeld, (rQ HO131), (qQ BK126), (qQ BK127), (qQ BK132), GW132.out, GE132.out, NB126_132.out, NB132_126.out, NB127_132.out, NB132_127.out, bq⟩)
   ·skip
    refine box_step ?hg (N := 4) ?hd (cs := #[.int .i64 0, .slice none 0 0]) (t := 26) ?hr ?_; (case hd => rfl); (case hg => rfl); (case hr => first | (go_simp; done) | (go_simp; rfl))
    intro gb132 hg w11 hbox hb
    have n0_ := aM (blk_below (qQ BK126) hb)
    have n1_ := aM (blk_below (qQ BK127) hb)
    have n2_ := aM (below_step bq hb)
    have n3_ := aM (hbox)
    have n4_ := aM ((gS hg))
    have n5_ := aM ((gS hg))
    have n6_ := aM (nL hg BK126)
    have n7_ := aM (nG hg BK126)
    have n8_ := aM (nL hg BK127)
    have n9_ := aM (nG hg BK127)
    clear BK126
    clear BK127
    clear HB
    have BK126 := n0_
    have BK127 := n1_
    have HB := n2_
    have BK132 := n3_
    have GW132 := n4_
    have GE132 := n5_
    have NB126_132 := n6_
    have NB132_126 := n7_
    have NB127_132 := n8_
    have NB132_127 := n9_
    clear n0_ n1_ n2_ n3_ n4_ n5_ n6_ n7_ n8_ n9_
    clear hb hbox hg
    refine hK.out _ _ ⟨(blk_cell BK126.out 0).trans rfl, (blk_cell BK126.out 1).trans rfl⟩ (fun hHeld => ?_)
    clear hK K
    refine nA 4 (h := ?_)
    refine one_ (i := 4) (N := some 15) #[true, true, true, true, true, false, true, false] rfl rfl (one_of HT_.out (by kernel_rfl)) (by decide) (fun K hK => ?_)
    refine goes_ Tryz.func176 (by kernel_rfl) rfl #[.slice A0_1 l0_1.length c0_1] (by rfl) rfl rfl (by (try simp only [List.map_toArray, List.map_cons, List.map_nil]); first | done | rfl | (simp only [List.length_drop, List.length_take]; rfl)) ?_
    with_reducible refine (Y53.calls _ _ l0_1 t129 _ ?side1 ?side2 A4.out).mono ?_
    (case side1 => exact cQ (Kd.C_below HR0_1.out HB.out))
    (case side2 => exact HC0_1.out)
    rintro e w12 ⟨v130, rfl, ho0, hb⟩
    refine ⟨_, rfl, ?_⟩
    have n0_ := aM (Kd.R_lower ho0 (below_size bq))
    have n1_ := aM (blk_below (qQ BK126) hb)
    have n2_ := aM (blk_below (qQ BK127) hb)
    have n3_ := aM (blk_below (qQ BK132) hb)
    have n4_ := aM (below_step bq hb)
    clear BK126
    clear BK127
    clear BK132
    clear HB
    have HO131 := n0_
    have BK126 := n1_
    have BK127 := n2_
    have BK132 := n3_
    have HB := n4_
    clear n0_ n1_ n2_ n3_ n4_
    (try clear hb)
    (try clear hb2)
    (try clear hk)
    (try clear hi)
    (try clear ho0)
    obtain ⟨Ao13, co13, eo13⟩ := Kd.R_slice HO131.out
    (first | subst eo13 | (injection eo13 with f1_ f2_ f3_; have f4_ := f1_.symm; have f5_ := f3_.symm; clear f1_ f2_ f3_; subst f4_; subst f5_))
    refine hK.out _ _ ⟨(blk_cell BK126.out 0).trans rfl, (blk_cell BK126.out 1).trans rfl⟩ (fun hHeld => ?_)
    clear hK K
    refine nA 15 (h := ?_)
    refine pA 5 16 (h := ?_)
    exact norm_ (by simp only [putAll, Act.put, List.setIfInBounds_toArray, List.set_cons_zero, List.set_cons_succ]) (hCont (.slice Ao13 t129.length co13, gb132) _ ⟨hHeld, (rQ HO131), (qQ BK126), (qQ BK127), (qQ BK132), GW132.out, GE132.out, NB126_132.out, NB132_126.out, NB127_132.out, NB132_127.out, bq⟩)
  rintro ⟨v130, gb132⟩ w14 ⟨hS_, h0_, h1_, h2_, h3_, h4_, h5_, h6_, h7_, h8_, h9_, h10_⟩
  have n0_ : Aside0 (Kd.R (Kd.int .i64) 3 w14 w.heap.size (fun _ => True) v130 t129) := ⟨h0_⟩
  have n1_ : Aside0 (w14.heap[gb126]? = some (.cells #[.int .i64 a0_0, .slice A0_1 l0_1.length c0_1] 26 (0, 0))) := ⟨h1_⟩
  have n2_ : Aside0 (w14.heap[gb127]? = some (.cells #[.int .i64 0, .slice none 0 0] 26 (0, 0))) := ⟨h2_⟩
  have n3_ : Aside0 (w14.heap[gb132]? = some (.cells #[.int .i64 0, .slice none 0 0] 26 (0, 0))) := ⟨h3_⟩
  have n4_ : Aside0 (w.heap.size ≤ gb132) := ⟨h4_⟩
  have n5_ : Aside0 (w.heap.size ≤ gb132) := ⟨h5_⟩
  have n6_ : Aside0 (gb126 ≠ gb132) := ⟨h6_⟩
  have n7_ : Aside0 (gb132 ≠ gb126) := ⟨h7_⟩
  have n8_ : Aside0 (gb127 ≠ gb132) := ⟨h8_⟩
  have n9_ : Aside0 (gb132 ≠ gb127) := ⟨h9_⟩
  have n10_ : Aside0 (Below w.heap.size w w14) := ⟨h10_⟩
  clear BK126
  clear BK127
  clear HB
  clear h0_ h1_ h2_ h3_ h4_ h5_ h6_ h7_ h8_ h9_ h10_
  have HO131 := n0_
  have BK126 := n1_
  have BK127 := n2_
  have BK132 := n3_
  have GW132 := n4_
  have GE132 := n5_
  have NB126_132 := n6_
  have NB132_126 := n7_
  have NB127_132 := n8_
  have NB132_127 := n9_
  have HB := n10_
  clear n0_ n1_ n2_ n3_ n4_ n5_ n6_ n7_ n8_ n9_ n10_
  have hHeld : w14.cell? ⟨gb126, 0, none⟩ = some (.int .i64 a0_0) ∧ w14.cell? ⟨gb126, 1, none⟩ = some (.slice A0_1 l0_1.length c0_1) := hS_
  obtain ⟨Ao15, co15, eo15⟩ := Kd.R_slice HO131.out
  (first | subst eo15 | (injection eo15 with f1_ f2_ f3_; have f4_ := f1_.symm; have f5_ := f3_.symm; clear f1_ f2_ f3_; subst f4_; subst f5_))
  refine norm_ (a' := ?_) ?_ ?_
  rotate_left
  ·simp only [putAll, Act.put, List.setIfInBounds_toArray, List.set_cons_zero, List.set_cons_succ]
   rfl
  refine one_ (i := 7) (N := none) #[true, true, true, true, true, true, true, true] rfl rfl (one_of HT_.out (by kernel_rfl)) (by decide) (fun K hK => ?_)
  have hs16 := zc20 BK132
  have hfs16 := blk_frozen BK132.out 0
  have hns16_0 := NB126_132.out
  have hns16_1 := NB127_132.out
  have hms16_0 := NB132_126.out
  have hms16_1 := NB132_127.out
  have hs17 := zc21 BK132
  have hfs17 := blk_frozen BK132.out 1
  have hns17_0 := NB126_132.out
  have hns17_1 := NB127_132.out
  have hms17_0 := NB132_126.out
  have hms17_1 := NB132_127.out
  refine skip_ (w1 := ?_) (by rfl) rfl ?_ ?_
  rotate_left
  ·go_simp
   rfl
  refine hK.out _ _ ⟨((cell_far (p := ⟨gb132, _, none⟩) NB126_132.out _).trans (((cell_far (p := ⟨gb132, _, none⟩) NB126_132.out _).trans (hHeld.1)))), ((cell_far (p := ⟨gb132, _, none⟩) NB126_132.out _).trans (((cell_far (p := ⟨gb132, _, none⟩) NB126_132.out _).trans (hHeld.2))))⟩ (fun hHeld => ?_)
  clear hK K
  refine done_ (done_of HT_.out (by kernel_rfl)) ?_
  have hnb18 := NB132_126.out
  have hnc18 := NB126_132.out
  have hnb19 := NB132_127.out
  have hnc19 := NB127_132.out
  have hcz20_0 := zc20 BK132
  have hcz20_1 := zc21 BK132
  have hfz20_0 := blk_frozen BK132.out 0
  have hfz20_1 := blk_frozen BK132.out 1
  try go_wp2
  go_loopg [20] k (fun kq v20 w' => ∃ (x20_1 : Int) (x133001_1 : List Int) (u133001 : Value), v20 = .int .i64 x20_1 ∧ Aside0 (Y5.l0 kq (t129.length : Int) x20_1 a0_0 x133001_1 = some (r1, r2, r3)) ∧ Aside0 (kq ≤ k) ∧ Aside0 (Kd.R (Kd.int .i64) 3 w' w.heap.size (fun _ => True) u133001 x133001_1) ∧ Aside0 (w'.heap[gb126]? = some (.cells #[.int .i64 a0_0, (.slice A0_1 l0_1.length c0_1)] 26 (0, 0))) ∧ Aside0 (w'.heap[gb127]? = some (.cells #[.int .i64 0, (.slice none 0 0)] 26 (0, 0))) ∧ Aside0 (w'.heap[gb132]? = some (.cells #[.int .i64 a0_0, u133001] 26 (0, 0))) ∧ Aside0 (Below w.heap.size w w'))
  case atStart => exact ⟨(0), (t129), (.slice Ao15 t129.length co15), eR, H', ⟨Nat.le_refl _⟩, ⟨by (with_reducible repeat first|apply rA|apply rN|apply rD); exact Kd.R_mono (Kd.R_far (p := ⟨gb132, 1, none⟩) (Kd.R_far (p := ⟨gb132, 0, none⟩) (Kd.R_types HO131.out BK132.out (by decide)) (fun _ hk => hk.2) (.int .i64 a0_0)) (fun _ hk => hk.2) (.slice Ao15 t129.length co15)) (fun _ hk => trivial)⟩, ⟨by (with_reducible repeat first|apply qN|apply qD|apply qA); refine blk_far ?_ NB126_132.out _; (with_reducible repeat first|apply qN|apply qD|apply qA); refine blk_far ?_ NB126_132.out _; (with_reducible repeat first|apply qN|apply qD|apply qA); exact BK126.out⟩, ⟨by (with_reducible repeat first|apply qN|apply qD|apply qA); refine blk_far ?_ NB127_132.out _; (with_reducible repeat first|apply qN|apply qD|apply qA); refine blk_far ?_ NB127_132.out _; (with_reducible repeat first|apply qN|apply qD|apply qA); exact BK127.out⟩, ⟨by (with_reducible repeat first|apply qN|apply qD|apply qA); refine blk_put (cs := #[.int .i64 a0_0, .slice none 0 0]) ?_ 1 _ rfl; (with_reducible repeat first|apply qN|apply qD|apply qA); refine blk_put (cs := #[.int .i64 0, .slice none 0 0]) ?_ 0 _ rfl; (with_reducible repeat first|apply qN|apply qD|apply qA); exact BK132.out⟩, ⟨bq⟩⟩
  case round =>
   clear H'
   try clear c3
   try clear hcz20_0
   try clear hcz20_1
   try clear hcz8_0
   try clear hcz8_1
   try clear hfz20_0
   try clear hfz20_1
   try clear hfz8_0
   try clear hfz8_1
   obtain ⟨x20_1, x133001_1, u133001, rfl, HA, HK1, HO_133001, BK126, BK127, BK132, HB⟩ := hrel
   cases gk with
   | zero => exact absurd HA.out (by simp [Y5.l0])
   | succ k1 =>
    have H := HA.out
    clear HA
    simp only [Y5.l0] at H
    by_cases c21 : x20_1 < (t129.length : Int)
    ·rw [if_pos c21] at H
     have c21b0 := decide_eq_true c21
     clear c21
     have H' := aM H
     clear H
     have hnb22 := NB132_126.out
     have hnc22 := NB126_132.out
     have hnb23 := NB132_127.out
     have hnc23 := NB127_132.out
     have hcz24_0 := zc20 BK132
     have hcz24_1 := zc21 BK132
     have hfz24_0 := blk_frozen BK132.out 0
     have hfz24_1 := blk_frozen BK132.out 1
     obtain ⟨Ao25, co25, eo25⟩ := Kd.R_slice HO_133001.out
     subst eo25
     go_wp2
     go_loopg [26] k1 (fun kq v26 w' => ∃ (x26_2 : Int) (x133001_2 : List Int) (u133001 : Value), v26 = .int .i64 x26_2 ∧ Aside0 (Y5.l1 kq x20_1 (t129.length : Int) x20_1 (x133001_1.length : Int) x26_2 a0_0 x133001_2 = some (r1, r2, r3)) ∧ Aside0 (kq ≤ k1) ∧ Aside0 (Kd.R (Kd.int .i64) 3 w' w.heap.size (fun _ => True) u133001 x133001_2) ∧ Aside0 (w'.heap[gb126]? = some (.cells #[.int .i64 a0_0, (.slice A0_1 l0_1.length c0_1)] 26 (0, 0))) ∧ Aside0 (w'.heap[gb127]? = some (.cells #[.int .i64 0, (.slice none 0 0)] 26 (0, 0))) ∧ Aside0 (w'.heap[gb132]? = some (.cells #[.int .i64 a0_0, u133001] 26 (0, 0))) ∧ Aside0 (Below w.heap.size w w'))
     case atStart => exact ⟨(0), (x133001_1), (.slice Ao25 x133001_1.length co25), eR, H', ⟨Nat.le_refl _⟩, ⟨rQ HO_133001⟩, ⟨qQ BK126⟩, ⟨qQ BK127⟩, ⟨qQ BK132⟩, ⟨bq⟩⟩
     case round =>
      clear H'
      try clear c3
      try clear c21
      try clear c21b0
      try clear hcz20_0
      try clear hcz20_1
      try clear hcz24_0
      try clear hcz24_1
      try clear hcz8_0
      try clear hcz8_1
      try clear hfz20_0
      try clear hfz20_1
      try clear hfz24_0
      try clear hfz24_1
      try clear hfz8_0
      try clear hfz8_1
      obtain ⟨x26_2, x133001_2, u133001, rfl, HA, HK2, HO_133001, BK126, BK127, BK132, HB⟩ := hrel
      cases gk with
      | zero => exact absurd HA.out (by simp [Y5.l1])
      | succ k2 =>
       have H := HA.out
       clear HA
       simp only [Y5.l1] at H
       by_cases c26 : x26_2 < (x133001_1.length : Int)
       ·rw [if_pos c26] at H
        have c26b0 := decide_eq_true c26
        clear c26
        replace H := iD2 H
        obtain ⟨c27b0, c28b0, H⟩ := H
        replace H := bS H
        obtain ⟨t134, A29, H⟩ := H
        try dsimp only at H
        by_cases c30 : t134 = true
        ·subst c30
         have H1 : (if 0 ≤ x20_1 then (if x20_1 < (x133001_2.length : Int) then (Y5.l1 k2 x20_1 (t129.length : Int) x20_1 (x133001_1.length : Int) (wrap64 (x26_2 + 1)) a0_0 (x133001_2.set (x26_2 : Int).toNat (Go.bits .or .i64 (rd x133001_2 x26_2) (rd x133001_2 x20_1)))) else (none)) else (none)) = some (r1, r2, r3) := by rw [if_pos rfl] at H; exact H
         clear H
         have H := H1
         clear H1
         replace H := iD2 H
         obtain ⟨c31b0, c32b0, H⟩ := H
         obtain ⟨y137, hy137⟩ := nE ((x133001_2.set (x26_2 : Int).toNat (Go.bits .or .i64 (rd x133001_2 x26_2) (rd x133001_2 x20_1))) : List Int)
         try rw [← hy137] at H
         try with_reducible replace H := (Option.bind_some _ _).symm.trans H
         try dsimp only at H
         have Ny137 := aM hy137
         clear hy137
         have H' := aM H
         clear H
         have hnb34 := NB132_126.out
         have hnc34 := NB126_132.out
         have hnb35 := NB132_127.out
         have hnc35 := NB127_132.out
         have hcz36_0 := zc20 BK132
         have hcz36_1 := zc21 BK132
         have hfz36_0 := blk_frozen BK132.out 0
         have hfz36_1 := blk_frozen BK132.out 1
         obtain ⟨Ao37, co37, eo37⟩ := Kd.R_slice HO_133001.out
         subst eo37
         have p133 : 0 ≤ (x26_2 : Int) := odt
         have q133 : x26_2 < (x133001_2.length : Int) := odt
         obtain ⟨ad133, e133, hx133_0⟩ := Kd.at_int (Kd.R_reads' HO_133001.out).2.2 x26_2 p133 q133
         cases e133
         replace p133 := eq_true p133
         replace q133 := eq_true q133
         try go_wp2_with (first | ((with_reducible refine gate_callee (f := 149) rfl ?_); refine gL (some 35) Tryz.func149 #[.int .i64 (rd x133001_2 x26_2), .int .i64 x20_1] ?_; (with_reducible refine (Y7.calls (rd x133001_2 x26_2) x20_1 true _ A29.out).mono ?_); rintro e w' ⟨rfl, ⟨nd, rfl⟩⟩; refine ⟨_, rfl, ?_⟩; (try (rw [drewN_self wr]; generalize hq_ : World.drewN wr _ = wr; have _ : Aside0 (Kd.R (Kd.int .i64) 3 wr w.heap.size (fun _ => True) (.slice (some ad133) x133001_2.length co37) x133001_2) := ⟨by rw [← hq_]; exact (rQ HO_133001)⟩; have _ : Aside0 (wr.heap[gb126]? = some (.cells #[.int .i64 a0_0, .slice A0_1 l0_1.length c0_1] 26 (0, 0))) := ⟨by rw [← hq_]; exact (qQ BK126)⟩; have _ : Aside0 (wr.heap[gb127]? = some (.cells #[.int .i64 0, .slice none 0 0] 26 (0, 0))) := ⟨by rw [← hq_]; exact (qQ BK127)⟩; have _ : Aside0 (wr.heap[gb132]? = some (.cells #[.int .i64 a0_0, .slice (some ad133) x133001_2.length co37] 26 (0, 0))) := ⟨by rw [← hq_]; exact (qQ BK132)⟩; have _ : Aside0 (Below w.heap.size w wr) := ⟨by rw [← hq_]; exact bq⟩; clear HO_133001 BK126 BK127 BK132 HB hq_; rename_i HO_133001 BK126 BK127 BK132 HB))))
         have n0_ := aM (Kd.R_drew HO_133001.out)
         have n1_ := aM (blk_drew BK126.out)
         have n2_ := aM (blk_drew BK127.out)
         have n3_ := aM (blk_drew BK132.out)
         have n4_ := aM (below_drew1 HB.out)
         clear HO_133001
         clear BK126
         clear BK127
         clear BK132
         clear HB
         have HO_133001 := n0_
         have BK126 := n1_
         have BK127 := n2_
         have BK132 := n3_
         have HB := n4_
         clear n0_ n1_ n2_ n3_ n4_
         have p135 : 0 ≤ (x26_2 : Int) := odt
         have q135 : x26_2 < (x133001_2.length : Int) := odt
         obtain ⟨ad135, e135, hx135_0⟩ := Kd.at_int (Kd.R_reads' HO_133001.out).2.2 x26_2 p135 q135
         obtain rfl : ad133 = ad135 := (by injection e135)
         replace p135 := eq_true p135
         replace q135 := eq_true q135
         have p136 : 0 ≤ (x20_1 : Int) := odt
         have q136 : x20_1 < (x133001_2.length : Int) := odt
         obtain ⟨ad136, e136, hx136_0⟩ := Kd.at_int (Kd.R_reads' HO_133001.out).2.2 x20_1 p136 q136
         obtain rfl : ad133 = ad136 := (by injection e136)
         replace p136 := eq_true p136
         replace q136 := eq_true q136
         have p33 : 0 ≤ (x26_2 : Int) := odt
         have q33 : (x26_2 : Int) < ((x133001_2.length : Int) : Int) := odt
         obtain ⟨go33, co33, eo33, gb33, gl33, cl33, HG33⟩ := Kd.R_form HO_133001.out (by omega)
         (first | cases eo33 | (injection eo33 with ea_ en_ ec_; (first | subst ea_ | (injection ea_ with ea_; subst ea_)); subst ec_; clear en_))
         have GB33 := aM gb33
         have GG33 := aM HG33
         clear gb33 gl33 HG33
         (first | simp only [add_plain] at hx133_0 | skip)
         (first | simp only [add_plain] at hx135_0 | skip)
         (first | simp only [add_plain] at hx136_0 | skip)
         obtain ⟨hx33_0, hf33_0⟩ := Kd.R_celln 0 HO_133001.out (x26_2 : Int) p33 q33
         replace p33 := eq_true p33
         replace q33 := eq_true q33
         have HP39 := Kd.R_putn HO_133001.out (x26_2 : Int) (Go.bits .or .i64 (rd x133001_2 x26_2) (rd x133001_2 x20_1))
         rw [← Ny137.out] at HP39
         have HQ39 := aM HP39
         clear HP39
         refine start_ (n := 13) (S := fun w' => w'.cell? ⟨gb132, 0, none⟩ = some (.int .i64 a0_0) ∧ w'.cell? ⟨gb132, 1, none⟩ = some (.slice (some ⟨go33, 0, none⟩) x133001_2.length co37) ∧ w'.cell? ⟨go33, (x26_2).toNat, none⟩ = some (.int .i64 (rd x133001_2 x26_2)) ∧ w'.cell? ⟨go33, (x20_1).toNat, none⟩ = some (.int .i64 (rd x133001_2 x20_1))) (ds := [12]) #[false, false, false, false, false, false, false, false, false, false, false, false, false] (by kernel_rfl) rfl rfl ⟨(blk_cell BK132.out 0).trans rfl, (blk_cell BK132.out 1).trans rfl, hx135_0, hx136_0⟩ (fun hHeld => ?_); refine with_tabW Y5.tab11 Y5.bits11 (fun HT_ HW_ => ?_)
         generalize wr.drew = w38 at HO_133001 BK126 BK127 BK132 HB GG33 HQ39 hf33_0 hx133_0 hx135_0 hx136_0 hx33_0 hHeld ⊢
         refine pA 0 36 (h := ?_)
         refine pA 2 38 (h := ?_)
         refine pA 5 41 (h := ?_)
         refine pA 7 43 (h := ?_)
         refine tA 1 37 hHeld (h := ?_)
         refine pA 3 39 (h := ?_)
         refine tA 4 40 hHeld (h := ?_)
         refine tA 6 42 hHeld (h := ?_)
         refine pA 8 44 (h := ?_)
         refine tA 9 45 hHeld (h := ?_)
         refine pA 10 46 (h := ?_)
         refine pA 11 47 (h := ?_)
         refine last_ (i := 12) (N := none) #[true, true, true, true, true, true, true, true, true, true, true, true, true] rfl rfl (one_of HT_.out (by kernel_rfl)) (by decide) (fun K hK => ?_)
         refine skip_ (w1 := ?_) (by rfl) rfl ?_ ?_
         rotate_left
         ·go_simp
          rfl
         refine hK.out _ _ ?_
         clear hK K
         refine done_ (done_of HT_.out (by kernel_rfl)) ?_
         try go_wp2
         go_roundg k2
         case measure => have := HK1.out; have := HK2.out; omega
         case rel => exact ⟨(wrap64 (x26_2 + 1)), (y137), (.slice (some ⟨go33, 0, none⟩) x133001_2.length co37), eR, H', ⟨by have := HK1.out; have := HK2.out; omega⟩, ⟨rQ HQ39⟩, ⟨by (with_reducible repeat first|apply qN|apply qD|apply qA); refine blk_far ?_ (by have h_ := Kd.R_ne HO_133001.out BK126.out (by decide); intro e_; exact h_ (by rw [e_]; rfl)) _; (with_reducible repeat first|apply qN|apply qD|apply qA); exact BK126.out⟩, ⟨by (with_reducible repeat first|apply qN|apply qD|apply qA); refine blk_far ?_ (by have h_ := Kd.R_ne HO_133001.out BK127.out (by decide); intro e_; exact h_ (by rw [e_]; rfl)) _; (with_reducible repeat first|apply qN|apply qD|apply qA); exact BK127.out⟩, ⟨by (with_reducible repeat first|apply qN|apply qD|apply qA); refine blk_far ?_ (by have h_ := Kd.R_ne HO_133001.out BK132.out (by decide); intro e_; exact h_ (by rw [e_]; rfl)) _; (with_reducible repeat first|apply qN|apply qD|apply qA); exact BK132.out⟩, ⟨bq⟩⟩
        ·replace c30 := Bool.eq_false_iff.mpr c30
         subst c30
         have H1 : (Y5.l1 k2 x20_1 (t129.length : Int) x20_1 (x133001_1.length : Int) (wrap64 (x26_2 + 1)) a0_0 x133001_2) = some (r1, r2, r3) := by rw [if_neg (show ¬ (false = true) by decide)] at H; exact H
         clear H
         have H := H1
         clear H1
         have H' := aM H
         clear H
         have hnb40 := NB132_126.out
         have hnc40 := NB126_132.out
         have hnb41 := NB132_127.out
         have hnc41 := NB127_132.out
         have hcz42_0 := zc20 BK132
         have hcz42_1 := zc21 BK132
         have hfz42_0 := blk_frozen BK132.out 0
         have hfz42_1 := blk_frozen BK132.out 1
         obtain ⟨Ao43, co43, eo43⟩ := Kd.R_slice HO_133001.out
         subst eo43
         have p133 : 0 ≤ (x26_2 : Int) := odt
         have q133 : x26_2 < (x133001_2.length : Int) := odt
         obtain ⟨ad133, e133, hx133_0⟩ := Kd.at_int (Kd.R_reads' HO_133001.out).2.2 x26_2 p133 q133
         cases e133
         replace p133 := eq_true p133
         replace q133 := eq_true q133
         go_wp2_with (first | ((with_reducible refine gate_callee (f := 149) rfl ?_); refine gL (some 35) Tryz.func149 #[.int .i64 (rd x133001_2 x26_2), .int .i64 x20_1] ?_; (with_reducible refine (Y7.calls (rd x133001_2 x26_2) x20_1 false _ A29.out).mono ?_); rintro e w' ⟨rfl, ⟨nd, rfl⟩⟩; refine ⟨_, rfl, ?_⟩))
         go_roundg k2
         case measure => have := HK1.out; have := HK2.out; omega
         case rel => exact ⟨(wrap64 (x26_2 + 1)), (x133001_2), (.slice (some ad133) x133001_2.length co43), eR, H', ⟨by have := HK1.out; have := HK2.out; omega⟩, ⟨rQ HO_133001⟩, ⟨qQ BK126⟩, ⟨qQ BK127⟩, ⟨qQ BK132⟩, ⟨bq⟩⟩
       ·rw [if_neg c26] at H
        have c26b0 := decide_eq_false c26
        clear c26
        have H' := aM H
        clear H
        go_wp2
        go_roundg k2
        case measure => have := HK1.out; have := HK2.out; omega
        case rel => exact ⟨(wrap64 (x20_1 + 1)), (x133001_2), (u133001), eR, H', ⟨by have := HK1.out; have := HK2.out; omega⟩, ⟨rQ HO_133001⟩, ⟨qQ BK126⟩, ⟨qQ BK127⟩, ⟨qQ BK132⟩, ⟨bq⟩⟩
    ·rw [if_neg c21] at H
     have c21b0 := decide_eq_false c21
     clear c21
     simp only [Option.some.injEq, Prod.mk.injEq] at H
     obtain ⟨rfl, rfl, rfl⟩ := H
     have hnb44 := NB132_126.out
     have hnc44 := NB126_132.out
     have hnb45 := NB132_127.out
     have hnc45 := NB127_132.out
     have hcz46_0 := zc20 BK132
     have hcz46_1 := zc21 BK132
     have hfz46_0 := blk_frozen BK132.out 0
     have hfz46_1 := blk_frozen BK132.out 1
     have hnb47 := NB127_126.out
     have hnc47 := NB126_127.out
     have hcz48_0 := zc20 BK127
     have hcz48_1 := zc21 BK127
     have hfz48_0 := blk_frozen BK127.out 0
     have hfz48_1 := blk_frozen BK127.out 1
     obtain ⟨Ao49, co49, eo49⟩ := Kd.R_slice HO_133001.out
     subst eo49
     go_wp2
     refine bodyPost_ret (results_ct rfl _ _ gb127 26 #[.int .i64 a0_0, .slice Ao49 x133001_1.length co49] (0, 0) _ rfl (by (with_reducible repeat first|apply qN|apply qD|apply qA); refine blk_put (cs := #[.int .i64 a0_0, .slice none 0 0]) ?_ 1 _ rfl; (with_reducible repeat first|apply qN|apply qD|apply qA); refine blk_put (cs := #[.int .i64 0, .slice none 0 0]) ?_ 0 _ rfl; (with_reducible repeat first|apply qN|apply qD|apply qA); exact BK127.out) Tryz.underlying26 rfl (by kernel_rfl)) rfl ?_
     exact ⟨_, eE, by (with_reducible repeat first|apply rA|apply rN|apply rD); exact Kd.R_mono (Kd.R_far (p := ⟨gb127, 1, none⟩) (Kd.R_far (p := ⟨gb127, 0, none⟩) (Kd.R_types HO_133001.out BK127.out (by decide)) (fun _ hk => hk.2) (.int .i64 a0_0)) (fun _ hk => hk.2) (.slice Ao49 x133001_1.length co49)) (fun _ hk => trivial), bq⟩
 ·replace c3 := Bool.eq_false_iff.mpr c3
  subst c3
  have H1 : (some (0, ([] : List Int), false)) = some (r1, r2, r3) := by rw [if_neg (show ¬ (false = true) by decide)] at H; exact H
  clear H
  have H := H1
  clear H1
  simp only [Option.some.injEq, Prod.mk.injEq] at H
  obtain ⟨rfl, rfl, rfl⟩ := H
  go_enter Tryz.func210, Tryz.ntmps210
  go_wp2_with (first | ((with_reducible refine gate_dst (N := 1) rfl ?_); refine bF 1 26 #[.int .i64 a0_0, .slice A0_1 l0_1.length c0_1] bq ?_; intro gb126 w50 hg hb _ _ _ _; clear HB; rename_i HB BK126 GW126 GE126; clear hb hg) | ((with_reducible refine gate_dst (N := 2) rfl ?_); refine bE 2 26 #[.int .i64 0, .slice none 0 0] ?_; intro gb127 hg w51 hbox hb; have _ := bK BK126 hb; have _ := bB hb; have _ := aM (hbox); have _ := aM ((gS hg)); have _ := aM ((gS hg)); have _ := aM (nL hg BK126); have _ := aM (nG hg BK126); clear BK126 HB; rename_i BK126 HB BK127 GW127 GE127 NB126_127 NB127_126; clear hb hbox hg; have hnb52 := NB126_127.out; have hnc52 := NB127_126.out; have hcz53_0 := zc20 BK126; have hcz53_1 := zc21 BK126; have hfz53_0 := blk_frozen BK126.out 0; have hfz53_1 := blk_frozen BK126.out 1) | ((with_reducible refine gate_callee (f := 64) rfl ?_); refine gL (some 8) Tryz.func64 #[.agg #[.int .i64 a0_0, .slice A0_1 l0_1.length c0_1]] ?_; (with_reducible refine (Y48.calls k a0_0 _ _ l0_1 false _ (cQ (Kd.C_below HR0_1.out HB.out)) HC0_1.out A2.out).mono ?_); rintro e w54 ⟨rfl, hb⟩; refine ⟨_, rfl, ?_⟩; have _ := bK BK126 hb; have _ := bK BK127 hb; have _ := bB hb; clear BK126 BK127 HB; rename_i BK126 BK127 HB; (try clear hb); have hcz55_0 := zc20 BK127; have hcz55_1 := zc21 BK127; have hfz55_0 := blk_frozen BK127.out 0; have hfz55_1 := blk_frozen BK127.out 1))
  refine bodyPost_ret (results_ct rfl _ _ gb127 26 #[.int .i64 0, .slice none 0 0] (0, 0) _ rfl (by (with_reducible repeat first|apply qN|apply qD|apply qA); refine blk_put (cs := #[.int .i64 0, .slice none 0 0]) ?_ 1 _ rfl; (with_reducible repeat first|apply qN|apply qD|apply qA); refine blk_put (cs := #[.int .i64 0, .slice none 0 0]) ?_ 0 _ rfl; (with_reducible repeat first|apply qN|apply qD|apply qA); exact BK127.out) Tryz.underlying26 rfl (by kernel_rfl)) rfl ?_
  exact ⟨_, eE, by first | exact Kd.R_nil _ _ _ _ _ | exact Kd.N_nil _ _ _ _ _ | exact Kd.V_nil _ _ _ _ _ | exact Kd.Q_nil _ _ _ _ _ | exact Kd.S_nil _ _ _ _ _, bq⟩
end Go.Proofs.YtjmmleofnjcjoaaGreatDoor.Du
