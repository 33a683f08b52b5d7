-- Written by hook.py (wip/), over the kit's print.py.
import Derived.Test.YtcodionjhcmfhaaGreatDoorOa2
import Derived.Test.YtcodionjhcmfhaaGreatDoorOa16
import Derived.Test.YtcodionjhcmfhaaGreatDoorOaXSq
namespace Go.Proofs.YtcodionjhcmfhaaGreatDoor.Oa
open Go.RowKit Go.Proofs.YtcodionjhcmfhaaGreatDoorW.PrintWords Go.Proofs.YtcodionjhcmfhaaGreatDoorW.PrintLast Go.Proofs.YtcodionjhcmfhaaGreatDoorW.PrintMore Go.Proofs.YtcodionjhcmfhaaGreatDoor.Sq
attribute [local go_sem] max2_int min2_int max_two min_two max_three min_three max_four min_four
set_option linter.unusedVariables false
set_option linter.unusedSimpArgs false
set_option maxHeartbeats 8000000
set_option maxRecDepth 100000
def Y78.f (k : Nat) (l0 : List Int) : Option (List (List Int)) := (Y15.f k l0 0 0 9).bind fun b => some b.1
theorem Y78.calls (k : Nat) (A0 : Option Addr) (c0 : Nat) (l0 : List Int) (r : List (List Int)) (w : World) (hr0 : Kd.C (Kd.int .u8) w A0 l0.length l0) (hc0 : l0.length ≤ c0) (h : Y78.f k l0 = some r) :
    Calls Tryz.prog 15 #[.slice A0 l0.length c0] w fun e w' => ∃ v0_ : Value, e = .returned (.agg #[v0_]) ∧ Kd.Q (Kd.slice 3 (Kd.int .i64)) 24 w' w.heap.size (fun _ => True) v0_ r ∧ Below w.heap.size w w' := by
 obtain ⟨⟨r1, r2, r3⟩, e1, e2⟩ := Option.bind_eq_some_iff.mp h
 obtain rfl := Option.some.inj e2
 clear h e2
 have HC := aM hr0
 have E1 := aM e1
 clear hr0 e1
 have sz1 : (w.alloc (.cells #[.slice none 0 0] 30)).heap.size = w.heap.size + 1 := Live.size_alloc _ _
 go_enter Tryz.func15, Tryz.ntmps15
 go_wp2_with (fail)
 refine (Y15.calls k (w.heap.size + 1) l0 0 0 9 r1 r2 r3 w _ ⟨A0, c0, ?c1, ?c2, ?c3⟩ ?c4 E1.out).mono ?_
 case c1 => rw [← sz1]; exact blk_new _ _
 case c2 => exact Nat.le_succ _
 case c3 => exact HC.out
 case c4 => exact below_alloc (below_alloc (Below.refl _ _) _) _
 rintro e w' ⟨v0, rfl, hr, hi, hb, hk⟩
 obtain ⟨Ao, co, rfl, _⟩ := Kd.Q_slice hr
 have HR := aM hr
 have HB := aM hb
 have HK := aM (hk.blk (blk_alloc (blk_new w (.cells #[.slice none 0 0] 30)) _) (by omega) (by simp))
 have HZ := aM hk.1
 clear hr hi hb hk
 have k1 : w'.cell? ⟨w.heap.size, 0, none⟩ = some (.slice none 0 0) := blk_cell HK.out 0
 have k2 : w'.frozen? ⟨w.heap.size, 0, none⟩ = false := blk_frozen HK.out 0
 go_wp2_with (fail)
 refine bodyPost_ret (results_cell_row rfl _ _ w.heap.size 30 #[.slice Ao r1.length co] (0, 0) _ rfl (blk_put (cs := #[.slice none 0 0]) HK.out 0 _ rfl) Tryz.underlying30 rfl (by kernel_rfl)) rfl ?_
 have hz : w.heap.size + 2 ≤ w'.heap.size := by {
 have := HZ.out
 rw [Live.size_alloc, sz1] at this; exact this}
 refine ⟨_, rfl, ?_, below_set HB.out (Nat.le_refl _)⟩
 refine Kd.Q_lower (Kd.Q_mono (Kd.Q_far (p := ⟨w.heap.size, 0, none⟩) (Kd.Q_mono (Kd.Q_bound HR.out) (fun k_ hk_ => hk_)) (fun k_ hk_ => ?_) _) (fun _ _ => trivial)) ?_
 · {
 have := hk_.2.1
 rw [Live.size_alloc, sz1] at this
 show k_ ≠ w.heap.size
 omega}
 · rw [Live.size_alloc, sz1]; omega
def Y25.f (l0_0 : List (List Int)) : Option (Int) := some (l0_0.length : Int)
theorem Y25.calls (A0_0 : Option Addr) (c0_0 : Nat) (l0_0 : List (List Int)) (r : Int) (w : World) (hr0_0 : Kd.C (Kd.slice 3 (Kd.int .i64)) w A0_0 l0_0.length l0_0) (hc0_0 : l0_0.length ≤ c0_0) (h : Y25.f l0_0 = some r) :
  Calls Tryz.prog 37 #[.agg #[.slice A0_0 l0_0.length c0_0]] w fun e w' => e = .returned (.int .i64 r) ∧ Below w.heap.size w w' := by
 have hu30 := Tryz.underlying30
 have HR0_0 := aM hr0_0
 have HC0_0 := aM hc0_0
 clear hr0_0 hc0_0
 have HB := aM (Below.refl w.heap.size w)
 have H : (some (l0_0.length : Int)) = some r := h
 clear h
 obtain rfl := Option.some.inj H
 go_enter Tryz.func37, Tryz.ntmps37
 go_wp2_with (first | ((with_reducible refine gate_dst (N := 1) rfl ?_); refine bF 1 30 #[.slice A0_0 l0_0.length c0_0] bq ?_; intro gb384 w2 hg hb _ _ _ _; clear HB; rename_i HB BK384 GW384 GE384; clear hb hg; have hcz3_0 := zc10 BK384; have hfz3_0 := blk_frozen BK384.out 0))
 go_ret
 exact ⟨eE, bq⟩
mutual
def Y12.l0 : Nat → List Int → List Int → List (List Int) → Int → Int → Option (List Int × List Int)
 | 0, _, _, _, _, _ => none
 | k + 1, x4, x5, x17, x18, x19 => if x19 < x18 then (if 0 ≤ x19 then (if x19 < (x17.length : Int) then (Y12.l1 k x4 x5 x19 x17 x18 x19 (rd_L3 x17 x19) ((rd_L3 x17 x19).length : Int) 0) else (none)) else (none)) else (some (x4, x5))
def Y12.l1 : Nat → List Int → List Int → Int → List (List Int) → Int → Int → List Int → Int → Int → Option (List Int × List Int)
 | 0, _, _, _, _, _, _, _, _, _ => none
 | k + 1, x4, x5, x6, x17, x18, x19, x24, x25, x26 => if x26 < x25 then (if 0 ≤ x26 then (if x26 < (x24.length : Int) then (if 0 ≤ x6 then (if x6 < (x4.length : Int) then (if x26 < (x5.length : Int) then (Y12.l1 k (x4.set (x6 : Int).toNat (wrap64 ((rd x4 x6) + (rd x24 x26)))) (x5.set (x26 : Int).toNat (wrap64 ((rd x5 x26) + (rd x24 x26)))) x6 x17 x18 x19 x24 x25 (wrap64 (x26 + 1))) else (none)) else (none)) else (none)) else (none)) else (none)) else (Y12.l0 k x4 x5 x17 x18 (wrap64 (x19 + 1)))
end
def Y12.f (k : Nat) (l0_0 : List (List Int)) : Option (List Int × List Int) := (Y25.f l0_0).bind fun t386 => (if 0 ≤ t386 then (if (t386 : Int).toNat ≤ 35184372088832 then ((Y25.f l0_0).bind fun t390 => (if 0 ≤ t390 then (if (t390 : Int).toNat ≤ 35184372088832 then (Y12.l0 k (List.replicate (t386 : Int).toNat 0) (List.replicate (t390 : Int).toNat 0) l0_0 (l0_0.length : Int) 0) else (none)) else (none))) else (none)) else (none))
def Y12.T1 : Bool × List (List Nat × List Nat) := (true, [([], []), ([0], [0]), ([1, 1], [1]), ([], []), ([3, 1], [3]), ([4, 4], [4]), ([2, 4, 0, 1, 2], [2]), ([5, 6, 0, 1, 2, 3, 4, 5, 6], [5])])
def Y12.B1 : List Nat := [0, 1, 3, 0, 11, 27, 31, 127]
theorem Y12.tab1 : rtab .any (opsOf Tryz.f42 1) = Y12.T1 := by kernel_rfl
theorem Y12.bits1 : waitsOk Y12.T1.2 Y12.B1 = true := by kernel_rfl
set_option maxHeartbeats 8000000 in
set_option maxRecDepth 100000 in
theorem Y12.calls (k : Nat) (A0_0 : Option Addr) (c0_0 : Nat) (l0_0 : List (List Int)) (r1 : List Int) (r2 : List Int) (w : World) (hr0_0 : Kd.C (Kd.slice 3 (Kd.int .i64)) w A0_0 l0_0.length l0_0) (hc0_0 : l0_0.length ≤ c0_0) (h : Y12.f k l0_0 = some (r1, r2)) :
  Calls Tryz.prog 42 #[.agg #[.slice A0_0 l0_0.length c0_0]] w fun e w' => ∃ v0_ v1_ : Value, e = .returned (.tuple #[v0_, v1_]) ∧ Kd.R (Kd.int .i64) 3 w' w.heap.size (fun k_ => some k_ ≠ (v1_ : Value).ownBlock) v0_ r1 ∧ Kd.R (Kd.int .i64) 3 w' w.heap.size (fun k_ => some k_ ≠ (v0_ : Value).ownBlock) v1_ r2 ∧ Below w.heap.size w w' := by
 have hu30 := Tryz.underlying30
 have HR0_0 := aM hr0_0
 have HC0_0 := aM hc0_0
 clear hr0_0 hc0_0
 have HB := aM (Below.refl w.heap.size w)
 unfold Y12.f at h
 have H := h
 clear h
 replace H := bS H
 obtain ⟨t386, A2, H⟩ := H
 try dsimp only at H
 replace H := iS H
 obtain ⟨c3, H⟩ := H
 have c3b0 := eq_true c3
 have c3b1 := decide_eq_true c3
 clear c3
 replace H := iS H
 obtain ⟨c4, H⟩ := H
 have c4b0 := eq_true c4
 have c4b1 := decide_eq_true c4
 clear c4
 obtain ⟨y387, hy387⟩ := nE ((List.replicate (t386 : Int).toNat 0) : List Int)
 try rw [← hy387] at H
 try with_reducible replace H := (Option.bind_some _ _).symm.trans H
 try dsimp only at H
 have Ny387 := aM hy387
 clear hy387
 replace H := bS H
 obtain ⟨t390, A5, H⟩ := H
 try dsimp only at H
 replace H := iS H
 obtain ⟨c6, H⟩ := H
 have c6b0 := eq_true c6
 have c6b1 := decide_eq_true c6
 clear c6
 replace H := iS H
 obtain ⟨c7, H⟩ := H
 have c7b0 := eq_true c7
 have c7b1 := decide_eq_true c7
 clear c7
 obtain ⟨y391, hy391⟩ := nE ((List.replicate (t390 : Int).toNat 0) : List Int)
 try rw [← hy391] at H
 try with_reducible replace H := (Option.bind_some _ _).symm.trans H
 try dsimp only at H
 have Ny391 := aM hy391
 clear hy391
 have H' := aM H
 clear H
 go_enter Tryz.func42, Tryz.ntmps42
 try go_wp2_with (first | ((with_reducible refine gate_dst (N := 1) rfl ?_); refine bF 1 30 #[.slice A0_0 l0_0.length c0_0] bq ?_; intro gb385 w8 hg hb _ _ _ _; clear HB; rename_i HB BK385 GW385 GE385; clear hb hg))
 have n0_ := aM (blk_drew BK385.out)
 have n1_ := aM (below_drew1 HB.out)
 clear BK385
 clear HB
 have BK385 := n0_
 have HB := n1_
 clear n0_ n1_
 refine start_ (n := 8) (S := fun w' => w'.cell? ⟨gb385, 0, none⟩ = some (.slice A0_0 l0_0.length c0_0)) (ds := []) #[false, false, false, false, false, false, false, false] (by kernel_rfl) rfl rfl ((blk_cell BK385.out 0).trans rfl) (fun hHeld => ?_); refine with_tabW Y12.tab1 Y12.bits1 (fun HT_ HW_ => ?_)
 generalize w8.drew = w9 at BK385 HB hHeld ⊢
 refine tA 0 10 hHeld (h := ?_)
 refine tA 3 13 hHeld (h := ?_)
 refine one_ (i := 1) (N := some 11) #[true, true, false, true, false, false, false, false] rfl rfl (one_of HT_.out (by kernel_rfl)) (by decide) (fun K hK => ?_)
 refine goes_ Tryz.func37 (by kernel_rfl) rfl #[.agg #[.slice A0_0 l0_0.length c0_0]] (by rfl) rfl rfl (by (try simp only [List.map_toArray, List.map_cons, List.map_nil]); first | done | rfl | (simp only [List.length_drop, List.length_take]; rfl)) ?_
 with_reducible refine (Y25.calls _ _ l0_0 t386 _ ?side1 ?side2 A2.out).mono ?_
 (case side1 => exact cQ (Kd.C_below HR0_0.out HB.out))
 (case side2 => exact HC0_0.out)
 rintro e w10 ⟨rfl, hb⟩
 refine ⟨_, rfl, ?_⟩
 have n0_ := aM (blk_below (qQ BK385) hb)
 have n1_ := aM (below_step bq hb)
 clear BK385
 clear HB
 have BK385 := n0_
 have HB := n1_
 clear n0_ n1_
 (try clear hb)
 (try clear hb2)
 (try clear hk)
 (try clear hi)
 refine hK.out _ _ ((blk_cell BK385.out 0).trans rfl) (fun hHeld => ?_)
 clear hK K
 refine nA 11 (h := ?_)
 refine join_ (σ := Value × Value) 1 #[true, true, true, true, true, true, true, false] (fun s_ => [(12, s_.1), (14, .int .i64 t390), (15, s_.2), (4, s_.1)]) (fun s_ w' => (w'.cell? ⟨gb385, 0, none⟩ = some (.slice A0_0 l0_0.length c0_0)) ∧ (Kd.R (Kd.int .i64) 3 w' w.heap.size (fun k_ => some k_ ≠ (s_.2 : Value).ownBlock) s_.1 y387) ∧ (Kd.R (Kd.int .i64) 3 w' w.heap.size (fun k_ => some k_ ≠ (s_.1 : Value).ownBlock) s_.2 y391) ∧ (w'.heap[gb385]? = some (.cells #[.slice A0_0 l0_0.length c0_0] 30 (0, 0))) ∧ (Below w.heap.size w w')) ?_ ?_
 rotate_left
 ·intro hCont
  refine two_ (i := 2) (j := 4) (Ni := some 12) (Nj := some 14) #[true, true, true, true, false, false, false, false] #[true, true, false, true, true, false, false, false] rfl rfl rfl rfl (two_of HT_.out (by kernel_rfl)) (by decide) (by decide) (fun K hK => ?_) (fun K hK => ?_)
  ·skip
   refine Kd.R_make_step (Kd.int .i64) _ 3 (by rfl) (N := 12) rfl 24 _ _ rfl t386 rfl rfl Tryz.underlying24 (.int .i64 0) 8 info3 rfl (by decide) (by omega) 0 (ok := fun _ => True) (okp := fun _ => True) rfl (fun _ hk => hk) trivial (odt) (Nat.le_trans (Nat.mul_le_mul_right _ (odt : t386.toNat ≤ 35184372088832)) (by omega)) (Below.refl _ _) (Nat.le_refl _) ?_
   intro v388 w11 ho12 hb hg_ hnew_
   clear hg_ hnew_
   (first | rw [← Ny387.out] at ho12 | (simp only [Int.reduceToNat] at ho12; rw [← Ny387.out] at ho12))
   have n0_ := aM (Kd.R_lower ho12 (below_size bq))
   have n1_ := aM (blk_below (qQ BK385) hb)
   have n2_ := aM (below_step bq hb)
   clear BK385
   clear HB
   have HO389 := n0_
   have BK385 := n1_
   have HB := n2_
   clear n0_ n1_ n2_
   clear hb ho12
   refine hK.out _ _ ((blk_cell BK385.out 0).trans rfl) (fun hHeld => ?_)
   clear hK K
   refine nA 12 (h := ?_)
   refine one_ (i := 4) (N := some 14) #[true, true, true, true, true, false, false, false] rfl rfl (one_of HT_.out (by kernel_rfl)) (by decide) (fun K hK => ?_)
   refine goes_ Tryz.func37 (by kernel_rfl) rfl #[.agg #[.slice A0_0 l0_0.length c0_0]] (by rfl) rfl rfl (by (try simp only [List.map_toArray, List.map_cons, List.map_nil]); first | done | rfl | (simp only [List.length_drop, List.length_take]; rfl)) ?_
   with_reducible refine (Y25.calls _ _ l0_0 t390 _ ?side1 ?side2 A5.out).mono ?_
   (case side1 => exact cQ (Kd.C_below HR0_0.out HB.out))
   (case side2 => exact HC0_0.out)
   rintro e w13 ⟨rfl, hb⟩
   refine ⟨_, rfl, ?_⟩
   have n0_ := aM (Kd.R_below (rQ HO389) hb)
   have n1_ := aM (blk_below (qQ BK385) hb)
   have n2_ := aM (below_step bq hb)
   clear HO389
   clear BK385
   clear HB
   have HO389 := n0_
   have BK385 := n1_
   have HB := n2_
   clear n0_ n1_ n2_
   (try clear hb)
   (try clear hb2)
   (try clear hk)
   (try clear hi)
   refine hK.out _ _ ((blk_cell BK385.out 0).trans rfl) (fun hHeld => ?_)
   clear hK K
   refine nA 14 (h := ?_)
   refine pA 6 4 (h := ?_)
   refine one_ (i := 5) (N := some 15) #[true, true, true, true, true, true, true, false] rfl rfl (one_of HT_.out (by kernel_rfl)) (by decide) (fun K hK => ?_)
   refine Kd.R_make_step (Kd.int .i64) _ 3 (by rfl) (N := 15) rfl 24 _ _ rfl t390 rfl rfl Tryz.underlying24 (.int .i64 0) 8 info3 rfl (by decide) (by omega) 0 (ok := fun _ => True) (okp := fun _ => True) rfl (fun _ hk => hk) trivial (odt) (Nat.le_trans (Nat.mul_le_mul_right _ (odt : t390.toNat ≤ 35184372088832)) (by omega)) (Below.refl _ _) (Nat.le_refl _) ?_
   intro v392 w14 ho15 hb hg_ hnew_
   clear hg_ hnew_
   (first | rw [← Ny391.out] at ho15 | (simp only [Int.reduceToNat] at ho15; rw [← Ny391.out] at ho15))
   have n0_ := aM (Kd.R_elder' (rQ HO389) (Kd.R_base ho15) hb)
   have n1_ := aM (Kd.R_lower (Kd.R_new' ho15 (Kd.R_lt (rQ HO389))) (below_size bq))
   have n2_ := aM (blk_below (qQ BK385) hb)
   have n3_ := aM (below_step bq hb)
   clear HO389
   clear BK385
   clear HB
   have HO389 := n0_
   have HO393 := n1_
   have BK385 := n2_
   have HB := n3_
   clear n0_ n1_ n2_ n3_
   clear hb ho15
   refine hK.out _ _ ((blk_cell BK385.out 0).trans rfl) (fun hHeld => ?_)
   clear hK K
   refine nA 15 (h := ?_)
   exact norm_ (by simp only [putAll, Act.put, List.setIfInBounds_toArray, List.set_cons_zero, List.set_cons_succ]) (hCont (v388, v392) _ ⟨hHeld, (by (with_reducible repeat first|apply rA|apply rN|apply rD); exact Kd.R_mono HO389.out (fun _ hk => hk.2)), (by (with_reducible repeat first|apply rA|apply rN|apply rD); exact Kd.R_mono HO393.out (fun _ hk => hk.2)), (qQ BK385), bq⟩)
  ·skip
   refine goes_ Tryz.func37 (by kernel_rfl) rfl #[.agg #[.slice A0_0 l0_0.length c0_0]] (by rfl) rfl rfl (by (try simp only [List.map_toArray, List.map_cons, List.map_nil]); first | done | rfl | (simp only [List.length_drop, List.length_take]; rfl)) ?_
   with_reducible refine (Y25.calls _ _ l0_0 t390 _ ?side1 ?side2 A5.out).mono ?_
   (case side1 => exact cQ (Kd.C_below HR0_0.out HB.out))
   (case side2 => exact HC0_0.out)
   rintro e w11 ⟨rfl, hb⟩
   refine ⟨_, rfl, ?_⟩
   have n0_ := aM (blk_below (qQ BK385) hb)
   have n1_ := aM (below_step bq hb)
   clear BK385
   clear HB
   have BK385 := n0_
   have HB := n1_
   clear n0_ n1_
   (try clear hb)
   (try clear hb2)
   (try clear hk)
   (try clear hi)
   refine hK.out _ _ ((blk_cell BK385.out 0).trans rfl) (fun hHeld => ?_)
   clear hK K
   refine nA 14 (h := ?_)
   refine two_ (i := 2) (j := 5) (Ni := some 12) (Nj := some 15) #[true, true, true, true, true, false, false, false] #[true, true, false, true, true, true, false, false] rfl rfl rfl rfl (two_of HT_.out (by kernel_rfl)) (by decide) (by decide) (fun K hK => ?_) (fun K hK => ?_)
   ·skip
    refine Kd.R_make_step (Kd.int .i64) _ 3 (by rfl) (N := 12) rfl 24 _ _ rfl t386 rfl rfl Tryz.underlying24 (.int .i64 0) 8 info3 rfl (by decide) (by omega) 0 (ok := fun _ => True) (okp := fun _ => True) rfl (fun _ hk => hk) trivial (odt) (Nat.le_trans (Nat.mul_le_mul_right _ (odt : t386.toNat ≤ 35184372088832)) (by omega)) (Below.refl _ _) (Nat.le_refl _) ?_
    intro v388 w12 ho13 hb hg_ hnew_
    clear hg_ hnew_
    (first | rw [← Ny387.out] at ho13 | (simp only [Int.reduceToNat] at ho13; rw [← Ny387.out] at ho13))
    have n0_ := aM (Kd.R_lower ho13 (below_size bq))
    have n1_ := aM (blk_below (qQ BK385) hb)
    have n2_ := aM (below_step bq hb)
    clear BK385
    clear HB
    have HO389 := n0_
    have BK385 := n1_
    have HB := n2_
    clear n0_ n1_ n2_
    clear hb ho13
    refine hK.out _ _ ((blk_cell BK385.out 0).trans rfl) (fun hHeld => ?_)
    clear hK K
    refine nA 12 (h := ?_)
    refine pA 6 4 (h := ?_)
    refine one_ (i := 5) (N := some 15) #[true, true, true, true, true, true, true, false] rfl rfl (one_of HT_.out (by kernel_rfl)) (by decide) (fun K hK => ?_)
    refine Kd.R_make_step (Kd.int .i64) _ 3 (by rfl) (N := 15) rfl 24 _ _ rfl t390 rfl rfl Tryz.underlying24 (.int .i64 0) 8 info3 rfl (by decide) (by omega) 0 (ok := fun _ => True) (okp := fun _ => True) rfl (fun _ hk => hk) trivial (odt) (Nat.le_trans (Nat.mul_le_mul_right _ (odt : t390.toNat ≤ 35184372088832)) (by omega)) (Below.refl _ _) (Nat.le_refl _) ?_
    intro v392 w14 ho15 hb hg_ hnew_
    clear hg_ hnew_
    (first | rw [← Ny391.out] at ho15 | (simp only [Int.reduceToNat] at ho15; rw [← Ny391.out] at ho15))
    have n0_ := aM (Kd.R_elder' (rQ HO389) (Kd.R_base ho15) hb)
    have n1_ := aM (Kd.R_lower (Kd.R_new' ho15 (Kd.R_lt (rQ HO389))) (below_size bq))
    have n2_ := aM (blk_below (qQ BK385) hb)
    have n3_ := aM (below_step bq hb)
    clear HO389
    clear BK385
    clear HB
    have HO389 := n0_
    have HO393 := n1_
    have BK385 := n2_
    have HB := n3_
    clear n0_ n1_ n2_ n3_
    clear hb ho15
    refine hK.out _ _ ((blk_cell BK385.out 0).trans rfl) (fun hHeld => ?_)
    clear hK K
    refine nA 15 (h := ?_)
    exact norm_ (by simp only [putAll, Act.put, List.setIfInBounds_toArray, List.set_cons_zero, List.set_cons_succ]) (hCont (v388, v392) _ ⟨hHeld, (by (with_reducible repeat first|apply rA|apply rN|apply rD); exact Kd.R_mono HO389.out (fun _ hk => hk.2)), (by (with_reducible repeat first|apply rA|apply rN|apply rD); exact Kd.R_mono HO393.out (fun _ hk => hk.2)), (qQ BK385), bq⟩)
   ·skip
    refine Kd.R_make_step (Kd.int .i64) _ 3 (by rfl) (N := 15) rfl 24 _ _ rfl t390 rfl rfl Tryz.underlying24 (.int .i64 0) 8 info3 rfl (by decide) (by omega) 0 (ok := fun _ => True) (okp := fun _ => True) rfl (fun _ hk => hk) trivial (odt) (Nat.le_trans (Nat.mul_le_mul_right _ (odt : t390.toNat ≤ 35184372088832)) (by omega)) (Below.refl _ _) (Nat.le_refl _) ?_
    intro v392 w12 ho13 hb hg_ hnew_
    clear hg_ hnew_
    (first | rw [← Ny391.out] at ho13 | (simp only [Int.reduceToNat] at ho13; rw [← Ny391.out] at ho13))
    have n0_ := aM (Kd.R_lower ho13 (below_size bq))
    have n1_ := aM (blk_below (qQ BK385) hb)
    have n2_ := aM (below_step bq hb)
    clear BK385
    clear HB
    have HO393 := n0_
    have BK385 := n1_
    have HB := n2_
    clear n0_ n1_ n2_
    clear hb ho13
    refine hK.out _ _ ((blk_cell BK385.out 0).trans rfl) (fun hHeld => ?_)
    clear hK K
    refine nA 15 (h := ?_)
    refine one_ (i := 2) (N := some 12) #[true, true, true, true, true, true, false, false] rfl rfl (one_of HT_.out (by kernel_rfl)) (by decide) (fun K hK => ?_)
    refine Kd.R_make_step (Kd.int .i64) _ 3 (by rfl) (N := 12) rfl 24 _ _ rfl t386 rfl rfl Tryz.underlying24 (.int .i64 0) 8 info3 rfl (by decide) (by omega) 0 (ok := fun _ => True) (okp := fun _ => True) rfl (fun _ hk => hk) trivial (odt) (Nat.le_trans (Nat.mul_le_mul_right _ (odt : t386.toNat ≤ 35184372088832)) (by omega)) (Below.refl _ _) (Nat.le_refl _) ?_
    intro v388 w14 ho15 hb hg_ hnew_
    clear hg_ hnew_
    (first | rw [← Ny387.out] at ho15 | (simp only [Int.reduceToNat] at ho15; rw [← Ny387.out] at ho15))
    have n0_ := aM (Kd.R_elder' (rQ HO393) (Kd.R_base ho15) hb)
    have n1_ := aM (Kd.R_lower (Kd.R_new' ho15 (Kd.R_lt (rQ HO393))) (below_size bq))
    have n2_ := aM (blk_below (qQ BK385) hb)
    have n3_ := aM (below_step bq hb)
    clear HO393
    clear BK385
    clear HB
    have HO393 := n0_
    have HO389 := n1_
    have BK385 := n2_
    have HB := n3_
    clear n0_ n1_ n2_ n3_
    clear hb ho15
    refine hK.out _ _ ((blk_cell BK385.out 0).trans rfl) (fun hHeld => ?_)
    clear hK K
    refine nA 12 (h := ?_)
    refine pA 6 4 (h := ?_)
    exact norm_ (by simp only [putAll, Act.put, List.setIfInBounds_toArray, List.set_cons_zero, List.set_cons_succ]) (hCont (v388, v392) _ ⟨hHeld, (by (with_reducible repeat first|apply rA|apply rN|apply rD); exact Kd.R_mono HO389.out (fun _ hk => hk.2)), (by (with_reducible repeat first|apply rA|apply rN|apply rD); exact Kd.R_mono HO393.out (fun _ hk => hk.2)), (qQ BK385), bq⟩)
 rintro ⟨v388, v392⟩ w16 ⟨hS_, h0_, h1_, h2_, h3_⟩
 have n0_ : Aside0 (Kd.R (Kd.int .i64) 3 w16 w.heap.size (fun k_ => some k_ ≠ (v392 : Value).ownBlock) v388 y387) := ⟨h0_⟩
 have n1_ : Aside0 (Kd.R (Kd.int .i64) 3 w16 w.heap.size (fun k_ => some k_ ≠ (v388 : Value).ownBlock) v392 y391) := ⟨h1_⟩
 have n2_ : Aside0 (w16.heap[gb385]? = some (.cells #[.slice A0_0 l0_0.length c0_0] 30 (0, 0))) := ⟨h2_⟩
 have n3_ : Aside0 (Below w.heap.size w w16) := ⟨h3_⟩
 clear BK385
 clear HB
 clear h0_ h1_ h2_ h3_
 have HO389 := n0_
 have HO393 := n1_
 have BK385 := n2_
 have HB := n3_
 clear n0_ n1_ n2_ n3_
 have hHeld : w16.cell? ⟨gb385, 0, none⟩ = some (.slice A0_0 l0_0.length c0_0) := hS_
 refine norm_ (a' := ?_) ?_ ?_
 rotate_left
 ·simp only [putAll, Act.put, List.setIfInBounds_toArray, List.set_cons_zero, List.set_cons_succ]
  rfl
 refine pA 7 5 (h := ?_)
 refine done_ (done_of HT_.out (by kernel_rfl)) ?_
 have hcz17_0 := zc10 BK385
 have hfz17_0 := blk_frozen BK385.out 0
 try go_wp2
 go_loopg [19] k (fun kq v19 w' => ∃ (x4_1 : List Int) (x5_1 : List Int) (x19_1 : Int), v19 = .int .i64 x19_1 ∧ Aside0 (Y12.l0 kq x4_1 x5_1 l0_0 (l0_0.length : Int) x19_1 = some (r1, r2)) ∧ Aside0 (kq ≤ k) ∧ Aside0 (Kd.R (Kd.int .i64) 3 w' w.heap.size (fun k_ => some k_ ≠ (v392 : Value).ownBlock) v388 x4_1) ∧ Aside0 (Kd.R (Kd.int .i64) 3 w' w.heap.size (fun k_ => some k_ ≠ (v388 : Value).ownBlock) v392 x5_1) ∧ Aside0 (w'.heap[gb385]? = some (.cells #[(.slice A0_0 l0_0.length c0_0)] 30 (0, 0))) ∧ Aside0 (Below w.heap.size w w'))
 case atStart => exact ⟨(y387), (y391), (0), eR, H', ⟨Nat.le_refl _⟩, ⟨rQ HO389⟩, ⟨rQ HO393⟩, ⟨qQ BK385⟩, ⟨bq⟩⟩
 case round =>
  clear H'
  try clear c3
  try clear c3b0
  try clear c3b1
  try clear c4
  try clear c4b0
  try clear c4b1
  try clear c6
  try clear c6b0
  try clear c6b1
  try clear c7
  try clear c7b0
  try clear c7b1
  try clear hcz17_0
  try clear hfz17_0
  obtain ⟨x4_1, x5_1, x19_1, rfl, HA, HK1, HO_4, HO_5, BK385, HB⟩ := hrel
  cases gk with
  | zero => exact absurd HA.out (by simp [Y12.l0])
  | succ k1 =>
   have H := HA.out
   clear HA
   simp only [Y12.l0] at H
   by_cases c18 : x19_1 < (l0_0.length : Int)
   ·rw [if_pos c18] at H
    have c18b0 := decide_eq_true c18
    clear c18
    replace H := iD2 H
    obtain ⟨c19b0, c20b0, H⟩ := H
    have H' := aM H
    clear H
    have p394 : 0 ≤ (x19_1 : Int) := odt
    have q394 : x19_1 < (l0_0.length : Int) := odt
    obtain ⟨ad394, A394_0, c394_0, e394, hx394_0, hl394_0, hi394_0⟩ := at_L3 HR0_0.out x19_1 p394 q394
    cases e394
    replace hx394_0 := (HB.out.cell (World.block_lt_of_cell? w _ hx394_0)).trans hx394_0
    have HR394_0 := aM hi394_0
    have HC394_0 := aM hl394_0
    clear hi394_0 hl394_0
    replace p394 := eq_true p394
    replace q394 := eq_true q394
    go_wp2
    go_loopg [26] k1 (fun kq v26 w' => ∃ (x4_2 : List Int) (x5_2 : List Int) (x26_2 : Int), v26 = .int .i64 x26_2 ∧ Aside0 (Y12.l1 kq x4_2 x5_2 x19_1 l0_0 (l0_0.length : Int) x19_1 (rd_L3 l0_0 x19_1) ((rd_L3 l0_0 x19_1).length : Int) x26_2 = some (r1, r2)) ∧ Aside0 (kq ≤ k1) ∧ Aside0 (Kd.R (Kd.int .i64) 3 w' w.heap.size (fun k_ => some k_ ≠ (v392 : Value).ownBlock) v388 x4_2) ∧ Aside0 (Kd.R (Kd.int .i64) 3 w' w.heap.size (fun k_ => some k_ ≠ (v388 : Value).ownBlock) v392 x5_2) ∧ Aside0 (w'.heap[gb385]? = some (.cells #[(.slice (some ad394) l0_0.length c0_0)] 30 (0, 0))) ∧ Aside0 (Below w.heap.size w w'))
    case atStart => exact ⟨(x4_1), (x5_1), (0), eR, H', ⟨Nat.le_refl _⟩, ⟨rQ HO_4⟩, ⟨rQ HO_5⟩, ⟨qQ BK385⟩, ⟨bq⟩⟩
    case round =>
     clear H'
     try clear c3
     try clear c3b0
     try clear c3b1
     try clear c4
     try clear c4b0
     try clear c4b1
     try clear c6
     try clear c6b0
     try clear c6b1
     try clear c7
     try clear c7b0
     try clear c7b1
     try clear c18
     try clear c18b0
     try clear c19b0
     try clear c20b0
     try clear hcz17_0
     try clear hfz17_0
     try clear hx394_0
     try clear p394
     try clear q394
     obtain ⟨x4_2, x5_2, x26_2, rfl, HA, HK2, HO_4, HO_5, BK385, HB⟩ := hrel
     cases gk with
     | zero => exact absurd HA.out (by simp [Y12.l1])
     | succ k2 =>
      have H := HA.out
      clear HA
      simp only [Y12.l1] at H
      by_cases c21 : x26_2 < ((rd_L3 l0_0 x19_1).length : Int)
      ·rw [if_pos c21] at H
       have c21b0 := decide_eq_true c21
       clear c21
       replace H := iD4 H
       obtain ⟨c22b0, c23b0, c24b0, c25b0, H⟩ := H
       obtain ⟨y397, hy397⟩ := nE ((x4_2.set (x19_1 : Int).toNat (wrap64 ((rd x4_2 x19_1) + (rd (rd_L3 l0_0 x19_1) x26_2)))) : List Int)
       try rw [← hy397] at H
       try with_reducible replace H := (Option.bind_some _ _).symm.trans H
       try dsimp only at H
       have Ny397 := aM hy397
       clear hy397
       replace H := iD H
       obtain ⟨c27b0, H⟩ := H
       obtain ⟨y399, hy399⟩ := nE ((x5_2.set (x26_2 : Int).toNat (wrap64 ((rd x5_2 x26_2) + (rd (rd_L3 l0_0 x19_1) x26_2)))) : List Int)
       try rw [← hy399] at H
       try with_reducible replace H := (Option.bind_some _ _).symm.trans H
       try dsimp only at H
       have Ny399 := aM hy399
       clear hy399
       have H' := aM H
       clear H
       have p395 : 0 ≤ (x26_2 : Int) := odt
       have q395 : x26_2 < ((rd_L3 l0_0 x19_1).length : Int) := odt
       obtain ⟨ad395, e395, hx395_0⟩ := Kd.at_int HR394_0.out x26_2 p395 q395
       cases e395
       replace hx395_0 := (HB.out.cell (World.block_lt_of_cell? w _ hx395_0)).trans hx395_0
       replace p395 := eq_true p395
       replace q395 := eq_true q395
       obtain ⟨Ao29, co29, eo29⟩ := Kd.R_slice HO_4.out
       subst eo29
       have p396 : 0 ≤ (x19_1 : Int) := odt
       have q396 : x19_1 < (x4_2.length : Int) := odt
       obtain ⟨ad396, e396, hx396_0⟩ := Kd.at_int (Kd.R_reads' HO_4.out).2.2 x19_1 p396 q396
       cases e396
       replace p396 := eq_true p396
       replace q396 := eq_true q396
       have p26 : 0 ≤ (x19_1 : Int) := odt
       have q26 : (x19_1 : Int) < ((x4_2.length : Int) : Int) := odt
       obtain ⟨go26, co26, eo26, gb26, gl26, cl26, HG26⟩ := Kd.R_form HO_4.out (by omega)
       (first | cases eo26 | (injection eo26 with ea_ en_ ec_; (first | subst ea_ | (injection ea_ with ea_; subst ea_)); subst ec_; clear en_))
       have GB26 := aM gb26
       have GG26 := aM HG26
       clear gb26 gl26 HG26
       (first | simp only [add_plain] at hx396_0 | skip)
       obtain ⟨hx26_0, hf26_0⟩ := Kd.R_celln 0 HO_4.out (x19_1 : Int) p26 q26
       replace p26 := eq_true p26
       replace q26 := eq_true q26
       have HP30 := Kd.R_putg HO_4.out (x19_1 : Int) (wrap64 ((rd x4_2 x19_1) + (rd (rd_L3 l0_0 x19_1) x26_2)))
       go_wp2_with (first | ((with_reducible refine gate_store (t := 3) (p := 37) rfl ?_); refine sE (wr.setCell ⟨go26, (x19_1 : Int).toNat, none⟩ (.int .i64 (wrap64 ((rd x4_2 x19_1) + (rd (rd_L3 l0_0 x19_1) x26_2))))) 3 37 ?_; intro w31 hw; have hg : wr.grownBy w31 (some go26) := (by rw [hw]; exact HP30.2); have hp_ : Kd.R (Kd.int .i64) 3 w31 w.heap.size (fun k_ => some k_ ≠ (v392 : Value).ownBlock) (.slice (some ⟨go26, 0, none⟩) x4_2.length co29) y397 := (by rw [hw, Ny397.out]; exact HP30.1); clear HP30; have _ := aM (hp_); have _ := aM (Kd.R_after (v := (.slice (some ⟨go26, 0, none⟩) x4_2.length co29)) (v1 := (.slice (some ⟨go26, 0, none⟩) x4_2.length co29)) (ok := (fun _ => True)) (by (with_reducible repeat first|apply rA|apply rN|apply rD); exact Kd.R_mono HO_5.out (fun _ hk => ⟨trivial, hk⟩)) hg (.inl rfl)); have _ := aM (blk_grown (g := gb385) (o := .cells #[.slice (some ad394) l0_0.length c0_0] 30 (0, 0)) (qQ BK385) hg (Kd.R_ne HO_4.out BK385.out (by decide))); have _ := aM ((by rw [hw]; exact below_set (HB.out) GB26.out : Below w.heap.size w w31)); clear HO_4 HO_5 BK385 HB; rename_i HO_4 HO_5 BK385 HB; clear hg hw hp_; obtain ⟨Ao32, co32, eo32⟩ := Kd.R_slice HO_5.out; subst eo32; have p398 : 0 ≤ (x26_2 : Int) := odt; have q398 : x26_2 < (x5_2.length : Int) := odt; obtain ⟨ad398, e398, hx398_0⟩ := Kd.at_int (Kd.R_reads' HO_5.out).2.2 x26_2 p398 q398; cases e398; replace p398 := eq_true p398; replace q398 := eq_true q398; have p28 : 0 ≤ (x26_2 : Int) := odt; have q28 : (x26_2 : Int) < ((x5_2.length : Int) : Int) := odt; obtain ⟨go28, co28, eo28, gb28, gl28, cl28, HG28⟩ := Kd.R_form HO_5.out (by omega); (first | cases eo28 | (injection eo28 with ea_ en_ ec_; (first | subst ea_ | (injection ea_ with ea_; subst ea_)); subst ec_; clear en_)); have GB28 := aM gb28; have GG28 := aM HG28; clear gb28 gl28 HG28; (first | simp only [add_plain] at hx398_0 | skip); obtain ⟨hx28_0, hf28_0⟩ := Kd.R_celln 0 HO_5.out (x26_2 : Int) p28 q28; replace p28 := eq_true p28; replace q28 := eq_true q28; have n_ := aM (Kd.R_mono (ok' := (fun k_ => some k_ ≠ (.slice (some ⟨go26, 0, none⟩) x4_2.length co29 : Value).ownBlock)) HO_5.out (fun k_ hk => hk.2)); clear HO_5; have HO_5 := n_; clear n_; obtain ⟨hy33_, hz33_⟩ := Kd.R_celln 0 HO_5.out (x26_2 : Int) (odt) (odt); have HP33 := Kd.R_putg HO_5.out (x26_2 : Int) (wrap64 ((rd x5_2 x26_2) + (rd (rd_L3 l0_0 x19_1) x26_2)))) | ((with_reducible refine gate_store (t := 3) (p := 44) rfl ?_); refine sE (w31.setCell ⟨go28, (x26_2 : Int).toNat, none⟩ (.int .i64 (wrap64 ((rd x5_2 x26_2) + (rd (rd_L3 l0_0 x19_1) x26_2))))) 3 44 ?_; intro w34 hw; have hg : w31.grownBy w34 (some go28) := (by rw [hw]; exact HP33.2); have hp_ : Kd.R (Kd.int .i64) 3 w34 w.heap.size (fun k_ => some k_ ≠ (.slice (some ⟨go26, 0, none⟩) x4_2.length co29 : Value).ownBlock) (.slice (some ⟨go28, 0, none⟩) x5_2.length co32) y399 := (by rw [hw, Ny399.out]; exact HP33.1); clear HP33; have _ := aM (Kd.R_after (v := (.slice (some ⟨go28, 0, none⟩) x5_2.length co32)) (v1 := (.slice (some ⟨go28, 0, none⟩) x5_2.length co32)) (ok := (fun _ => True)) (by (with_reducible repeat first|apply rA|apply rN|apply rD); exact Kd.R_mono HO_4.out (fun _ hk => ⟨trivial, hk⟩)) hg (.inl rfl)); have _ := aM (hp_); have _ := aM (blk_grown (g := gb385) (o := .cells #[.slice (some ad394) l0_0.length c0_0] 30 (0, 0)) (qQ BK385) hg (Kd.R_ne HO_5.out BK385.out (by decide))); have _ := aM ((by rw [hw]; exact below_set (HB.out) GB28.out : Below w.heap.size w w34)); clear HO_4 HO_5 BK385 HB; rename_i HO_4 HO_5 BK385 HB; clear hg hw hp_))
       go_roundg k2
       case measure => have := HK1.out; have := HK2.out; omega
       case rel => exact ⟨(y397), (y399), (wrap64 (x26_2 + 1)), eR, H', ⟨by have := HK1.out; have := HK2.out; omega⟩, ⟨by (with_reducible repeat first|apply rA|apply rN|apply rD); exact Kd.R_mono HO_4.out (fun _ hk => hk.2)⟩, ⟨rQ HO_5⟩, ⟨qQ BK385⟩, ⟨bq⟩⟩
      ·rw [if_neg c21] at H
       have c21b0 := decide_eq_false c21
       clear c21
       have H' := aM H
       clear H
       go_wp2
       go_roundg k2
       case measure => have := HK1.out; have := HK2.out; omega
       case rel => exact ⟨(x4_2), (x5_2), (wrap64 (x19_1 + 1)), eR, H', ⟨by have := HK1.out; have := HK2.out; omega⟩, ⟨rQ HO_4⟩, ⟨rQ HO_5⟩, ⟨qQ BK385⟩, ⟨bq⟩⟩
   ·rw [if_neg c18] at H
    have c18b0 := decide_eq_false c18
    clear c18
    simp only [Option.some.injEq, Prod.mk.injEq] at H
    obtain ⟨rfl, rfl⟩ := H
    go_wp2
    go_ret2
    exact ⟨_, _, eE, rQ HO_4, rQ HO_5, bq⟩
def Y35.l0 : Nat → Int → List Int → Int → Int → Option (Int)
 | 0, _, _, _, _ => none
 | k + 1, x3, x13, x14, x15 => if x15 < x14 then (if 0 ≤ x15 then (if x15 < (x13.length : Int) then (Y35.l0 k (wrap64 (x3 + (rd x13 x15))) x13 x14 (wrap64 (x15 + 1))) else (none)) else (none)) else (some x3)
def Y35.f (k : Nat) (l0_0 : List (List Int)) : Option (Int) := (Y12.f k l0_0).bind fun bt401 => (Y35.l0 k 0 bt401.1 (bt401.1.length : Int) 0)
theorem Y35.calls (k : Nat) (A0_0 : Option Addr) (c0_0 : Nat) (l0_0 : List (List Int)) (r : Int) (w : World) (hr0_0 : Kd.C (Kd.slice 3 (Kd.int .i64)) w A0_0 l0_0.length l0_0) (hc0_0 : l0_0.length ≤ c0_0) (h : Y35.f k l0_0 = some r) :
  Calls Tryz.prog 44 #[.agg #[.slice A0_0 l0_0.length c0_0]] w fun e w' => e = .returned (.int .i64 r) ∧ Below w.heap.size w w' := by
 have hu30 := Tryz.underlying30
 have HR0_0 := aM hr0_0
 have HC0_0 := aM hc0_0
 clear hr0_0 hc0_0
 have HB := aM (Below.refl w.heap.size w)
 unfold Y35.f at h
 have H := h
 clear h
 replace H := bS H
 obtain ⟨⟨t401, t404⟩, A2, H⟩ := H
 try dsimp only at H
 have H' := aM H
 clear H
 go_enter Tryz.func44, Tryz.ntmps44
 go_wp2_with (first | ((with_reducible refine gate_dst (N := 1) rfl ?_); refine bF 1 30 #[.slice A0_0 l0_0.length c0_0] bq ?_; intro gb400 w3 hg hb _ _ _ _; clear HB; rename_i HB BK400 GW400 GE400; clear hb hg; have hcz4_0 := zc10 BK400; have hfz4_0 := blk_frozen BK400.out 0) | ((with_reducible refine gate_callee (f := 42) rfl ?_); refine gL (some 10) Tryz.func42 #[.agg #[.slice A0_0 l0_0.length c0_0]] ?_; (with_reducible refine (Y12.calls k _ _ l0_0 t401 t404 _ (cQ (Kd.C_below HR0_0.out HB.out)) HC0_0.out A2.out).mono ?_); rintro e w5 ⟨v402, v405, rfl, ho0, ho1, hb⟩; refine ⟨_, rfl, ?_⟩; have _ := aM (Kd.R_lower ho0 (below_size bq)); have _ := aM (Kd.R_lower ho1 (below_size bq)); have _ := bK BK400 hb; have _ := bB hb; clear BK400 HB; rename_i HO403 HO406 BK400 HB; (try clear hb); (try clear ho0); (try clear ho1); obtain ⟨Ao6, co6, eo6⟩ := Kd.R_slice HO403.out; subst eo6))
 go_loopg [3, 15] k (fun kq v3 v15 w' => ∃ (x3_1 : Int) (x15_1 : Int), v3 = .int .i64 x3_1 ∧ v15 = .int .i64 x15_1 ∧ Aside0 (Y35.l0 kq x3_1 t401 (t401.length : Int) x15_1 = some r) ∧ Aside0 (kq ≤ k) ∧ Aside0 (Kd.R (Kd.int .i64) 3 w' w.heap.size (fun _ => True) (.slice Ao6 t401.length co6) t401) ∧ Aside0 (w'.heap[gb400]? = some (.cells #[(.slice A0_0 l0_0.length c0_0)] 30 (0, 0))) ∧ Aside0 (Below w.heap.size w w'))
 case atStart => exact ⟨(0), (0), eR, eR, H', ⟨Nat.le_refl _⟩, ⟨by (with_reducible repeat first|apply rA|apply rN|apply rD); exact Kd.R_mono HO403.out (fun _ hk => trivial)⟩, ⟨qQ BK400⟩, ⟨bq⟩⟩
 case round =>
  clear H'
  try clear hcz4_0
  try clear hfz4_0
  obtain ⟨x3_1, x15_1, rfl, rfl, HA, HK1, HO_13, BK400, HB⟩ := hrel
  cases gk with
  | zero => exact absurd HA.out (by simp [Y35.l0])
  | succ k1 =>
   have H := HA.out
   clear HA
   simp only [Y35.l0] at H
   by_cases c7 : x15_1 < (t401.length : Int)
   ·rw [if_pos c7] at H
    have c7b0 := decide_eq_true c7
    clear c7
    replace H := iD2 H
    obtain ⟨c8b0, c9b0, H⟩ := H
    have H' := aM H
    clear H
    have p407 : 0 ≤ (x15_1 : Int) := odt
    have q407 : x15_1 < (t401.length : Int) := odt
    obtain ⟨ad407, e407, hx407_0⟩ := Kd.at_int (Kd.R_reads' HO_13.out).2.2 x15_1 p407 q407
    cases e407
    replace p407 := eq_true p407
    replace q407 := eq_true q407
    go_wp2
    go_roundg k1
    case measure => have := HK1.out; omega
    case rel => exact ⟨(wrap64 (x3_1 + (rd t401 x15_1))), (wrap64 (x15_1 + 1)), eR, eR, H', ⟨by have := HK1.out; omega⟩, ⟨rQ HO_13⟩, ⟨qQ BK400⟩, ⟨bq⟩⟩
   ·rw [if_neg c7] at H
    have c7b0 := decide_eq_false c7
    clear c7
    obtain rfl := Option.some.inj H
    go_wp2
    go_ret
    exact ⟨eE, bq⟩
def Y67.f (a0 : Int) : Option (Bool) := some (a0 != 0)
theorem Y67.calls (a0 : Int) (r : Bool) (w : World) (h : Y67.f a0 = some r) :
  Calls Tryz.prog 55 #[.int .i64 a0] w fun e w' => e = .returned (.bool r) ∧ Drawn0 w w' := by
 have H : (some (a0 != 0)) = some r := h
 clear h
 obtain rfl := Option.some.inj H
 go_enter Tryz.func55, Tryz.ntmps55
 go_wp2
 go_ret
 exact ⟨by first | rfl | (simp; done) | (simp [*]; done), dQ⟩
def Y80.f (l0 : List Int) : Option Int := some (if l0.any (fun x => x != 0) then 0 else -1)
set_option maxHeartbeats 2000000 in
set_option maxRecDepth 100000 in
theorem Y80.finds (A0 : Option Addr) (c0 : Nat) (l0 : List Int) (w : World) (hr0 : Kd.C (Kd.int .i64) w A0 l0.length l0) :
    Calls Tryz.prog 95 #[.slice A0 l0.length c0, .func (.func 55) #[] #[]] w fun e w' => (∃ r : Int, e = .returned (.int .i64 r) ∧ Aside0 (decide (r ≥ 0) = l0.any (fun x => x != 0))) ∧ Drawn0 w w' := by
 have HL := aM hr0.2.1
 have HR0 := aM hr0
 clear hr0
 have hle := HL.out
 go_enter Tryz.func95, Tryz.ntmps95
 go_wp2
 go_loopg [5, 8] l0.length (fun gg _ s8 w' => ∃ i : Nat, i ≤ l0.length ∧ l0.length - i ≤ gg ∧ s8 = .int .i64 i ∧ Aside0 (∀ j, j < i → l0.getD j 0 = 0) ∧ Drawn0 w w')
 case atStart => exact ⟨0, Nat.zero_le _, by omega, rfl, ⟨fun j hj => absurd hj (Nat.not_lt_zero _)⟩, Drawn0.refl _⟩
 case round => (
 obtain ⟨i, hi, hg, rfl, HZ, ⟨m1, rfl⟩⟩ := hrel
 by_cases hlt : i < l0.length
 · {
 obtain ⟨ad, ea, hx⟩ := Kd.at_int HR0.out (i : Int) (by omega) (by omega)
 cases ea
 have hlz : (i : Int) < (l0.length : Int) := by omega
 simp only [Int.toNat_natCast] at hx
 by_cases h0 : rd l0 (i : Int) = 0
 · {
 have hq := (show (Y67.f (rd l0 (i : Int))) = some false by unfold Y67.f; simp [h0])
 have HQ := aM hq
 have H0 := aM h0
 clear hq h0
 go_wp2_with (first | (go_at_call 55; refine (Y67.calls (rd l0 (i : Int)) false _ HQ.out).mono ?_; rintro e w' ⟨rfl, ⟨nd, rfl⟩⟩))
 obtain ⟨k, rfl⟩ : ∃ k, gk = k + 1 := ⟨gk - 1, by omega⟩
 go_roundg k
 case measure => omega
 case rel => exact ⟨i + 1, by omega, by omega, by go_num, ⟨fun j hj => by
  by_cases e : j = i
  · subst e; have := H0.out; simpa [rd] using this
  · exact HZ.out j (by omega)⟩, dQ⟩}
 · {
 have hq := (show (Y67.f (rd l0 (i : Int))) = some true by unfold Y67.f; simp [h0])
 have HQ := aM hq
 have H0 := aM h0
 clear hq h0
 go_wp2_with (first | (go_at_call 55; refine (Y67.calls (rd l0 (i : Int)) true _ HQ.out).mono ?_; rintro e w' ⟨rfl, ⟨nd, rfl⟩⟩))
 go_ret
 refine ⟨⟨_, rfl, ⟨?_⟩⟩, dQ⟩
 have h1 : l0.any (fun x => x != 0) = true := by {
 rw [List.any_eq_true]
 refine ⟨l0[i], List.getElem_mem hlt, ?_⟩
 have := H0.out
 simp [rd, List.getD_eq_getElem?_getD, hlt] at this
 simpa using this}
 rw [h1]; simp}}
 · {
 go_wp2
 go_ret
 refine ⟨⟨_, rfl, ⟨?_⟩⟩, dQ⟩
 have h1 : l0.any (fun x => x != 0) = false := by {
 rw [List.any_eq_false]
 intro x hx
 obtain ⟨j, hj, rfl⟩ := List.getElem_of_mem hx
 have := HZ.out j (by omega)
 simp [List.getD_eq_getElem?_getD, hj] at this
 simp [this]}
 rw [h1]; simp})
def Y60.f (l0 : List Int) : Option Bool := some (l0.any (fun x => x != 0))
set_option maxHeartbeats 2000000 in
set_option maxRecDepth 100000 in
theorem Y60.calls (A0 : Option Addr) (c0 : Nat) (l0 : List Int) (r : Bool) (w : World) (hr0 : Kd.C (Kd.int .i64) w A0 l0.length l0) (hc0 : l0.length ≤ c0) (h : Y60.f l0 = some r) :
    Calls Tryz.prog 54 #[.slice A0 l0.length c0, .func (.func 55) #[] #[]] w fun e w' => e = .returned (.bool r) ∧ Below w.heap.size w w' := by
 have HR0 := aM hr0
 have HH := aM h
 clear hr0 h
 go_enter Tryz.func54, Tryz.ntmps54
 go_wp2_with (first | (go_at_call 95; refine (Y80.finds A0 c0 l0 _ HR0.out).mono ?_; rintro e w' ⟨⟨q, rfl, HQ⟩, ⟨nd, rfl⟩⟩))
 go_ret
 have h1 := HH.out
 unfold Y60.f at h1
 obtain rfl := Option.some.inj h1
 exact ⟨by rw [← HQ.out]; first | rfl | simp, pw_below_drewN (Below.refl _ _) _⟩
def Y52.l0 : Nat → List Int → Int → Int → Int → Option (Int)
 | 0, _, _, _, _ => none
 | k + 1, x0, x1, x7, x8 => if x8 < x7 then (if 0 ≤ x8 then (if x8 < (x0.length : Int) then (if x1 = (rd x0 x8) then (some x8) else (Y52.l0 k x0 x1 x7 (wrap64 (x8 + 1)))) else (none)) else (none)) else (some (-1))
def Y52.f (k : Nat) (l0 : List Int) (a1 : Int) : Option (Int) := Y52.l0 k l0 a1 (l0.length : Int) 0
theorem Y52.calls (k : Nat) (A0 : Option Addr) (c0 : Nat) (l0 : List Int) (a1 : Int) (r : Int) (w : World) (hr0 : Kd.C (Kd.int .i64) w A0 l0.length l0) (hc0 : l0.length ≤ c0) (h : Y52.f k l0 a1 = some r) :
  Calls Tryz.prog 96 #[.slice A0 l0.length c0, .int .i64 a1] w fun e w' => e = .returned (.int .i64 r) ∧ Drawn0 w w' := by
 have HR0 := aM hr0
 have HC0 := aM hc0
 clear hr0 hc0
 have H : (Y52.l0 k l0 a1 (l0.length : Int) 0) = some r := h
 clear h
 have H' := aM H
 clear H
 go_enter Tryz.func96, Tryz.ntmps96
 go_wp2
 go_loopg [8] k (fun kq v8 w' => ∃ (x8_1 : Int), v8 = .int .i64 x8_1 ∧ Aside0 (Y52.l0 kq l0 a1 (l0.length : Int) x8_1 = some r) ∧ Aside0 (kq ≤ k) ∧ Drawn0 w w')
 case atStart => exact ⟨(0), eR, H', ⟨Nat.le_refl _⟩, dQ⟩
 case round =>
  clear H'
  obtain ⟨x8_1, rfl, HA, HK1, ⟨m1, rfl⟩⟩ := hrel
  cases gk with
  | zero => exact absurd HA.out (by simp [Y52.l0])
  | succ k1 =>
   have H := HA.out
   clear HA
   simp only [Y52.l0] at H
   by_cases c3 : x8_1 < (l0.length : Int)
   ·rw [if_pos c3] at H
    have c3b0 := decide_eq_true c3
    clear c3
    replace H := iD2 H
    obtain ⟨c4b0, c5b0, H⟩ := H
    by_cases c6 : a1 = (rd l0 x8_1)
    ·rw [if_pos c6] at H
     have c6b0 : (a1 == (rd l0 x8_1)) = true := beq_iff_eq.mpr c6
     have c6b1 : (a1 != (rd l0 x8_1)) = false := bne_eq_false_iff_eq.mpr c6
     clear c6
     obtain rfl := Option.some.inj H
     have p408 : 0 ≤ (x8_1 : Int) := odt
     have q408 : x8_1 < (l0.length : Int) := odt
     obtain ⟨ad408, e408, hx408_0⟩ := Kd.at_int HR0.out x8_1 p408 q408
     cases e408
     replace p408 := eq_true p408
     replace q408 := eq_true q408
     go_wp2
     go_ret
     exact ⟨by first | rfl | (simp; done) | (simp [*]; done), dQ⟩
    ·rw [if_neg c6] at H
     have c6b0 : (a1 == (rd l0 x8_1)) = false := beq_eq_false_iff_ne.mpr c6
     have c6b1 : (a1 != (rd l0 x8_1)) = true := bne_iff_ne.mpr c6
     have H' := aM H
     clear H
     have p408 : 0 ≤ (x8_1 : Int) := odt
     have q408 : x8_1 < (l0.length : Int) := odt
     obtain ⟨ad408, e408, hx408_0⟩ := Kd.at_int HR0.out x8_1 p408 q408
     cases e408
     replace p408 := eq_true p408
     replace q408 := eq_true q408
     go_wp2
     go_roundg k1
     case measure => have := HK1.out; omega
     case rel => exact ⟨(wrap64 (x8_1 + 1)), eR, H', ⟨by have := HK1.out; omega⟩, dQ⟩
   ·rw [if_neg c3] at H
    have c3b0 := decide_eq_false c3
    clear c3
    obtain rfl := Option.some.inj H
    go_wp2
    go_ret
    exact ⟨by first | rfl | (simp; done) | (simp [*]; done), dQ⟩
def Y53.f (k : Nat) (l0 : List Int) (a1 : Int) : Option (Bool) := (Y52.f k l0 a1).bind fun t409 => (some (decide (t409 ≥ 0)))
theorem Y53.calls (k : Nat) (A0 : Option Addr) (c0 : Nat) (l0 : List Int) (a1 : Int) (r : Bool) (w : World) (hr0 : Kd.C (Kd.int .i64) w A0 l0.length l0) (hc0 : l0.length ≤ c0) (h : Y53.f k l0 a1 = some r) :
  Calls Tryz.prog 56 #[.slice A0 l0.length c0, .int .i64 a1] w fun e w' => e = .returned (.bool r) ∧ Drawn0 w w' := by
 have HR0 := aM hr0
 have HC0 := aM hc0
 clear hr0 hc0
 unfold Y53.f at h
 have H := h
 clear h
 replace H := bS H
 obtain ⟨t409, A3, H⟩ := H
 try dsimp only at H
 obtain rfl := Option.some.inj H
 go_enter Tryz.func56, Tryz.ntmps56
 go_wp2_with (first | ((with_reducible refine gate_callee (f := 96) rfl ?_); refine gL (some 7) Tryz.func96 #[.slice A0 l0.length c0, .int .i64 a1] ?_; (with_reducible refine (Y52.calls k _ _ l0 a1 t409 _ (cQ HR0.out) HC0.out A3.out).mono ?_); rintro e w' ⟨rfl, ⟨nd, rfl⟩⟩; refine ⟨_, rfl, ?_⟩))
 go_ret
 exact ⟨by first | rfl | (simp; done) | (simp [*]; done), dQ⟩
end Go.Proofs.YtcodionjhcmfhaaGreatDoor.Oa
