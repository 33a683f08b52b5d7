-- Written by hook.py (wip/), over the kit's print.py.
import Derived.Test.YtcodionjhcmfhaaGreatDoorOa2
import Derived.Test.YtcodionjhcmfhaaGreatDoorOa4
import Derived.Test.YtcodionjhcmfhaaGreatDoorOa8
import Derived.Test.YtcodionjhcmfhaaGreatDoorOa19
import Derived.Test.YtcodionjhcmfhaaGreatDoorOa21
import Derived.Test.YtcodionjhcmfhaaGreatDoorOa27
import Derived.Test.YtcodionjhcmfhaaGreatDoorOaXSq
namespace Go.Proofs.YtcodionjhcmfhaaGreatDoor.Oa
open Go.RowKit Go.Proofs.YtcodionjhcmfhaaGreatDoorW.PrintWords Go.Proofs.YtcodionjhcmfhaaGreatDoorW.PrintLast Go.Proofs.YtcodionjhcmfhaaGreatDoorW.PrintMore Go.Proofs.YtcodionjhcmfhaaGreatDoor.Sq
attribute [local go_sem] max2_int min2_int max_two min_two max_three min_three max_four min_four
set_option linter.unusedVariables false
set_option linter.unusedSimpArgs false
set_option maxHeartbeats 8000000
set_option maxRecDepth 100000
def Y24.l0 : Nat → List Int → Int → Int → Option (List Int)
 | 0, _, _, _ => none
 | k + 1, x0, x2, x3 => if x2 < x3 then (if 0 ≤ x3 then (if x3 < (x0.length : Int) then (if 0 ≤ x2 then (if x2 < (x0.length : Int) then (Y24.l0 k ((x0.set (x2 : Int).toNat (rd x0 x3)).set (x3 : Int).toNat (rd x0 x2)) (wrap64 (x2 + 1)) (wrap64 (x3 - 1))) else (none)) else (none)) else (none)) else (none)) else (some x0)
def Y24.f (k : Nat) (l0 : List Int) : Option (List Int) := Y24.l0 k l0 0 (wrap64 ((l0.length : Int) - 1))
def Y24.T3 : Bool × List (List Nat × List Nat) := (true, [([], []), ([], []), ([], []), ([], []), ([], []), ([], []), ([4, 5], [4, 5]), ([6], [6]), ([], []), ([], []), ([8, 9], [8, 9]), ([10], [10]), ([0, 1, 0, 1, 4, 5, 6, 7, 11], [0, 1]), ([12, 7, 0, 1, 4, 5, 6, 7, 11], [7, 12]), ([2, 3, 0, 1, 2, 3, 4, 5, 6, 7, 8, 9, 10, 11, 12, 13], [2, 3]), ([14, 11, 13, 0, 1, 2, 3, 4, 5, 6, 7, 8, 9, 10, 11, 12, 13], [11, 14])])
def Y24.B3 : List Nat := [0, 0, 0, 0, 0, 0, 48, 112, 0, 0, 768, 1792, 4083, 8179, 16383, 32767]
theorem Y24.tab3 : rtab .any (opsOf Tryz.f90 3) = Y24.T3 := by kernel_rfl
theorem Y24.bits3 : waitsOk Y24.T3.2 Y24.B3 = true := by kernel_rfl
theorem Y24.calls (k : Nat) (P0_ : Nat → Prop) (u9000_ : Value) (l0 : List Int) (r : List Int) (w0 w : World) (hB : Below w0.heap.size w0 w) (ho0 : Kd.R (Kd.int .i64) 3 w w0.heap.size P0_ u9000_ l0) (h : Y24.f k l0 = some r) :
  Calls Tryz.prog 90 #[u9000_] w fun e w' => e = .returned (.tuple #[]) ∧ Kd.R (Kd.int .i64) 3 w' w0.heap.size (fun k_ => (P0_ k_ ∨ w.heap.size ≤ k_)) u9000_ r ∧ Below w0.heap.size w0 w' ∧ Kept w w' (fun k_ => P0_ k_) := by
 have HO0 := aM (show Kd.R (Kd.int .i64) 3 w w0.heap.size (fun k_ => (P0_ k_ ∨ w.heap.size ≤ k_)) u9000_ l0 from Kd.R_mono ho0 (fun k_ hk => (.inl hk)))
 have HK := aM (Kept.refl w (fun k_ => P0_ k_))
 have HW0 := aM hB.size
 have HB := aM hB
 clear hB
 unfold Y24.f at h
 have H := h
 clear h
 have H' := aM H
 clear H
 obtain ⟨Ao2, co2, eo2⟩ := Kd.R_slice HO0.out
 subst eo2
 go_enter Tryz.func90, Tryz.ntmps90
 go_wp2
 go_loopg [2, 3] k (fun kq v2 v3 w' => ∃ (x0_1 : List Int) (x2_1 : Int) (x3_1 : Int), v2 = .int .i64 x2_1 ∧ v3 = .int .i64 x3_1 ∧ Aside0 (Y24.l0 kq x0_1 x2_1 x3_1 = some r) ∧ Aside0 (kq ≤ k) ∧ Aside0 (Kd.R (Kd.int .i64) 3 w' w0.heap.size (fun k_ => (P0_ k_ ∨ w.heap.size ≤ k_)) (.slice Ao2 l0.length co2) x0_1) ∧ Aside0 (Kept w w' (fun k_ => P0_ k_)) ∧ Aside0 (Below w0.heap.size w0 w'))
 case atStart => exact ⟨(l0), (0), (wrap64 ((l0.length : Int) - 1)), eR, eR, H', ⟨Nat.le_refl _⟩, ⟨rQ HO0⟩, ⟨by repeat (first | (with_reducible first | exact HK.out | apply Kept.alloc | apply Kept.drewN | apply Kept.drew) | exact HK.out)⟩, ⟨bq⟩⟩
 case round =>
  clear H'
  obtain ⟨x0_1, x2_1, x3_1, rfl, rfl, HA, HK1, HO_0, HK, HB⟩ := hrel
  have hl0_1 := (Kd.R_reads' HO_0.out).1
  rw [hl0_1] at HO_0
  (try simp only [hl0_1])
  cases gk with
  | zero => exact absurd HA.out (by simp [Y24.l0])
  | succ k1 =>
   have H := HA.out
   clear HA
   simp only [Y24.l0] at H
   by_cases c3 : x2_1 < x3_1
   ·rw [if_pos c3] at H
    have c3b0 := decide_eq_true c3
    clear c3
    replace H := iD4 H
    obtain ⟨c4b0, c5b0, c6b0, c7b0, H⟩ := H
    obtain ⟨y506, hy506⟩ := nE ((x0_1.set (x2_1 : Int).toNat (rd x0_1 x3_1)) : List Int)
    try rw [← hy506] at H
    try with_reducible replace H := (Option.bind_some _ _).symm.trans H
    try dsimp only at H
    have Ny506 := aM hy506
    clear hy506
    obtain ⟨y507, hy507⟩ := nE ((y506.set (x3_1 : Int).toNat (rd x0_1 x2_1)) : List Int)
    try rw [← hy507] at H
    try with_reducible replace H := (Option.bind_some _ _).symm.trans H
    try dsimp only at H
    have Ny507 := aM hy507
    clear hy507
    have H' := aM H
    clear H
    try go_wp2
    have n0_ := aM (Kd.R_drew HO_0.out)
    have n1_ := aM (Kept.drew HK.out)
    have n2_ := aM (below_drew1 HB.out)
    clear HO_0
    clear HK
    clear HB
    have HO_0 := n0_
    have HK := n1_
    have HB := n2_
    clear n0_ n1_ n2_
    have p504 : 0 ≤ (x3_1 : Int) := odt
    have q504 : x3_1 < (x0_1.length : Int) := odt
    obtain ⟨ad504, e504, hx504_0⟩ := Kd.at_int (Kd.R_reads' HO_0.out).2.2 x3_1 p504 q504
    cases e504
    replace p504 := eq_true p504
    replace q504 := eq_true q504
    have p505 : 0 ≤ (x2_1 : Int) := odt
    have q505 : x2_1 < (x0_1.length : Int) := odt
    obtain ⟨ad505, e505, hx505_0⟩ := Kd.at_int (Kd.R_reads' HO_0.out).2.2 x2_1 p505 q505
    obtain rfl : ad504 = ad505 := (by injection e505)
    replace p505 := eq_true p505
    replace q505 := eq_true q505
    have p8 : 0 ≤ (x2_1 : Int) := odt
    have q8 : (x2_1 : Int) < ((x0_1.length : Int) : Int) := odt
    obtain ⟨go8, co8, eo8, gb8, gl8, cl8, HG8⟩ := Kd.R_form HO_0.out (by omega)
    (first | cases eo8 | (injection eo8 with ea_ en_ ec_; (first | subst ea_ | (injection ea_ with ea_; subst ea_)); subst ec_; clear en_))
    have GB8 := aM gb8
    have GG8 := aM HG8
    clear gb8 gl8 HG8
    have HMgo8 := aM (show (P0_ go8 ∨ w.heap.size ≤ go8) from (HO_0.out.1 _ rfl))
    (first | simp only [add_plain] at hx504_0 | skip)
    (first | simp only [add_plain] at hx505_0 | skip)
    obtain ⟨hx8_0, hf8_0⟩ := Kd.R_celln 0 HO_0.out (x2_1 : Int) p8 q8
    replace p8 := eq_true p8
    replace q8 := eq_true q8
    have HP11 := Kd.R_putn HO_0.out (x2_1 : Int) (rd x0_1 x3_1)
    rw [← Ny506.out] at HP11
    have HQ11 := aM HP11
    clear HP11
    have p9 : 0 ≤ (x3_1 : Int) := odt
    have q9 : (x3_1 : Int) < ((x0_1.length : Int) : Int) := odt
    obtain ⟨hx9_0, hf9_0⟩ := Kd.R_celln 0 HQ11.out (x3_1 : Int) p9 q9
    replace p9 := eq_true p9
    replace q9 := eq_true q9
    have HP12 := Kd.R_putn HQ11.out (x3_1 : Int) (rd x0_1 x2_1)
    rw [← Ny507.out] at HP12
    have HQ12 := aM HP12
    clear HP12
    refine start_ (n := 16) (S := fun w' => w'.cell? ⟨go8, (x3_1).toNat, none⟩ = some (.int .i64 (rd x0_1 x3_1)) ∧ w'.cell? ⟨go8, (x2_1).toNat, none⟩ = some (.int .i64 (rd x0_1 x2_1))) (ds := [13, 15]) #[false, false, false, false, false, false, false, false, false, false, false, false, false, false, false, false] (by kernel_rfl) rfl rfl ⟨hx504_0, hx505_0⟩ (fun hHeld => ?_); refine with_tabW Y24.tab3 Y24.bits3 (fun HT_ HW_ => ?_)
    generalize wr.drew = w10 at HO_0 HK HB GG8 HQ11 HQ12 hf8_0 hf9_0 hx504_0 hx505_0 hx8_0 hx9_0 hHeld ⊢
    refine pA 0 14 (h := ?_)
    refine pA 1 15 (h := ?_)
    refine pA 2 16 (h := ?_)
    refine pA 3 17 (h := ?_)
    refine pA 4 18 (h := ?_)
    refine pA 5 19 (h := ?_)
    refine pA 6 20 (h := ?_)
    refine pA 8 22 (h := ?_)
    refine pA 9 23 (h := ?_)
    refine pA 10 24 (h := ?_)
    refine tA 7 21 hHeld (h := ?_)
    refine tA 11 25 hHeld (h := ?_)
    refine pA 12 26 (h := ?_)
    refine last_ (i := 13) (N := none) #[true, true, true, true, true, true, true, true, true, true, true, true, true, true, false, false] rfl rfl (one_of HT_.out (by kernel_rfl)) (by decide) (fun K hK => ?_)
    refine skip_ (w1 := ?_) (by rfl) rfl ?_ ?_
    rotate_left
    ·go_simp
     rfl
    refine hK.out _ _ ?_
    clear hK K
    refine pA 14 27 (h := ?_)
    refine last_ (i := 15) (N := none) #[true, true, true, true, true, true, true, true, true, true, true, true, true, true, true, true] rfl rfl (one_of HT_.out (by kernel_rfl)) (by decide) (fun K hK => ?_)
    refine skip_ (w1 := ?_) (by rfl) rfl ?_ ?_
    rotate_left
    ·go_simp
     rfl
    refine hK.out _ _ ?_
    clear hK K
    refine done_ (done_of HT_.out (by kernel_rfl)) ?_
    try go_wp2
    (try simp only [← hl0_1])
    go_roundg k1
    case measure => have := HK1.out; omega
    case rel => exact ⟨(y507), (wrap64 (x2_1 + 1)), (wrap64 (x3_1 - 1)), eR, eR, H', ⟨by have := HK1.out; omega⟩, ⟨by (try simp only [hl0_1]); (with_reducible repeat first|apply rA|apply rN|apply rD); exact HQ12.out⟩, ⟨by repeat (first | (with_reducible first | exact HK.out | apply Kept.alloc | apply Kept.drewN | apply Kept.drew | refine Kept.setCell ?_ HMgo8.out _ | refine Kept.setCell ?_ HMgo8.out _) | exact HK.out)⟩, ⟨bq⟩⟩
   ·rw [if_neg c3] at H
    have c3b0 := decide_eq_false c3
    clear c3
    obtain rfl := Option.some.inj H
    go_wp2
    first | go_end0 | ((try simp only [Exit.inBlock, Exit.then]); refine bodyPost_ret (results_none rfl _ _ _) rfl ?_)
    exact ⟨eE, (by first | exact (rQ HO_0) | (simp only [hl0_1]; exact (rQ HO_0))), by exact bq, by repeat (first | (with_reducible first | exact HK.out | apply Kept.alloc | apply Kept.drewN | apply Kept.drew) | exact HK.out)⟩
def Y36.l0 : Nat → List Int → List (List Int) → Option (List Int)
 | 0, _, _ => none
 | k + 1, x3, x509000 => (Y25.f x509000).bind fun t512 => (if t512 > 0 then ((Y1.f k x509000).bind fun bt513 => (if x3.length < 17592186044416 then (Y36.l0 k (x3 ++ [bt513.2]) bt513.1) else (none))) else ((Y24.f k x3).bind fun t520 => (some t520)))
def Y36.f (k : Nat) (l0_0 : List (List Int)) : Option (List Int) := Y36.l0 k (([] : List Int)) l0_0
theorem Y36.calls (k : Nat) (P0_0_ : Nat → Prop) (A0_0 : Option Addr) (c0_0 : Nat) (l0_0 : List (List Int)) (r : List Int) (w : World) (hs0_0 : Kd.V (Kd.slice 3 (Kd.int .i64)) 24 w w.heap.size (fun k_ => P0_0_ k_) (.slice A0_0 l0_0.length c0_0) l0_0) (h : Y36.f k l0_0 = some r) :
  Calls Tryz.prog 48 #[.agg #[.slice A0_0 l0_0.length c0_0]] w fun e w' => ∃ v0_ : Value, e = .returned (v0_) ∧ Kd.R (Kd.int .i64) 3 w' w.heap.size (fun k_ => (w.heap.size ≤ k_)) v0_ r ∧ Below w.heap.size w w' := by
 have hu30 := Tryz.underlying30
 have HO0_0 := aM (show Kd.V (Kd.slice 3 (Kd.int .i64)) 24 w w.heap.size (fun k_ => (P0_0_ k_ ∨ w.heap.size ≤ k_)) (.slice A0_0 l0_0.length c0_0) l0_0 from Kd.V_mono hs0_0 (fun k_ hk => .inl hk))
 have HB := aM (Below.refl w.heap.size w)
 have H : (Y36.l0 k (([] : List Int)) l0_0) = some r := h
 clear h
 obtain ⟨y509, hy509⟩ := nE ((([] : List Int)) : List Int)
 try rw [← hy509] at H
 try with_reducible replace H := (Option.bind_some _ _).symm.trans H
 try dsimp only at H
 have Ny509 := aM hy509
 clear hy509
 have H' := aM H
 clear H
 go_enter Tryz.func48, Tryz.ntmps48
 go_wp2_with (first | ((with_reducible refine gate_dst (N := 1) rfl ?_); refine bE 1 30 #[.slice A0_0 l0_0.length c0_0] ?_; intro gb508 hg w2 hbox hb; have _ := aM (Kd.V_below (Kd.V_elderB (by (with_reducible repeat (first | apply Kd.V_alloc | apply Kd.V_drewN | apply Kd.V_drew)); exact HO0_0.out) gb508 (Nat.le_of_eq hg.symm)) hb); have _ := bB hb; have _ := aM (hbox); have _ := aM ((gS hg)); have _ := aM ((gS hg)); clear HO0_0 HB; rename_i HO0_0 HB BK508 GW508 GE508; clear hb hbox hg) | ((with_reducible refine gate_dst (N := 5) rfl ?_); refine Kd.R_lit (Kd.int .i64) _ 3 ?hg (N := 5) ?hd (xs := ([] : List Int)) (inner := []) (ok := fun _ => True) (okp := fun _ => True) ?hr ?hp (fun _ hk => hk) trivial (Below.refl _ _) (Nat.le_refl _) (by simp) ?_; (case hd => rfl); (case hg => rfl); (case hr => first | (go_simp; done) | (go_simp; rfl)); (case hp => exact (Reps.none _ _)); intro v510 w3 ho4 hb hg_ hnew_; clear hg_ hnew_; (first | rw [← Ny509.out] at ho4 | (simp only [Int.reduceToNat] at ho4; rw [← Ny509.out] at ho4)); have _ := aM (Kd.V_elder' (by (with_reducible repeat (first | apply Kd.V_alloc | apply Kd.V_drewN | apply Kd.V_drew)); exact HO0_0.out) (Kd.R_base ho4) hb); have _ := aM (Kd.R_lower (Kd.R_newM (M := fun k_ => (w.heap.size ≤ k_)) ho4 (below_size bq) (fun k_ h_ => h_)) (below_size bq)); have _ := bK BK508 hb; have _ := bB hb; clear HO0_0 BK508 HB; rename_i HO0_0 HO511 BK508 HB; clear hb ho4))
 go_loopg [3] k (fun kq v3 w' => ∃ (x3_1 : List Int) (x509000_1 : List (List Int)) (u509000 : Value), Aside0 (Y36.l0 kq x3_1 x509000_1 = some r) ∧ Aside0 (kq ≤ k) ∧ Aside0 (Kd.R (Kd.int .i64) 3 w' w.heap.size (fun k_ => (w.heap.size ≤ k_)) v3 x3_1) ∧ Aside0 (Kd.V (Kd.slice 3 (Kd.int .i64)) 24 w' w.heap.size (fun k_ => (P0_0_ k_ ∨ w.heap.size ≤ k_) ∧ some k_ ≠ (v3 : Value).ownBlock ∧ k_ ≠ gb508) u509000 x509000_1) ∧ Aside0 (w'.heap[gb508]? = some (.cells #[u509000] 30 (0, 0))) ∧ Aside0 (Below w.heap.size w w'))
 case atStart => exact ⟨(y509), (l0_0), (.slice A0_0 l0_0.length c0_0), H', ⟨Nat.le_refl _⟩, ⟨by (with_reducible repeat first|apply rA|apply rN|apply rD); exact Kd.R_mono HO511.out (fun _ hk => hk.1)⟩, ⟨by (with_reducible repeat (first | apply Kd.V_alloc | apply Kd.V_drewN | apply Kd.V_drew)); exact Kd.V_mono HO0_0.out (fun _ hk => ⟨hk.1.1, ⟨hk.2, hk.1.2⟩⟩)⟩, ⟨qQ BK508⟩, ⟨bq⟩⟩
 case round =>
  clear H'
  obtain ⟨x3_1, x509000_1, u509000, HA, HK1, HO_3, HO_509000, BK508, HB⟩ := hrel
  cases gk with
  | zero => exact absurd HA.out (by simp [Y36.l0])
  | succ k1 =>
   have H := HA.out
   clear HA
   simp only [Y36.l0] at H
   replace H := bS H
   obtain ⟨t512, A5, H⟩ := H
   try dsimp only at H
   by_cases c6 : t512 > 0
   ·rw [if_pos c6] at H
    have c6b0 := decide_eq_true c6
    clear c6
    replace H := bS H
    obtain ⟨⟨t513, t516⟩, A7, H⟩ := H
    try dsimp only at H
    replace H := iS H
    obtain ⟨c8, H⟩ := H
    have LMc8 := aM c8
    clear c8
    obtain ⟨y517, hy517⟩ := nE ((x3_1 ++ [t516]) : List Int)
    try rw [← hy517] at H
    try with_reducible replace H := (Option.bind_some _ _).symm.trans H
    try dsimp only at H
    have Ny517 := aM hy517
    clear hy517
    have H' := aM H
    clear H
    have hcz9_0 := zc10 BK508
    have hfz9_0 := blk_frozen BK508.out 0
    obtain ⟨Ao10, co10, eo10⟩ := Kd.V_slice HO_509000.out
    subst eo10
    go_wp2_with (first | ((with_reducible refine gate_callee (f := 37) rfl ?_); refine gL (some 7) Tryz.func37 #[.agg #[.slice Ao10 x509000_1.length co10]] ?_; (with_reducible refine (Y25.calls _ _ x509000_1 t512 _ (cQ ((Kd.V_reads' HO_509000.out).2.2)) ((Kd.V_reads' HO_509000.out).2.1) A5.out).mono ?_); rintro e w11 ⟨rfl, hb⟩; refine ⟨_, rfl, ?_⟩; have _ := aM (Kd.R_below (rQ HO_3) hb); have _ := aM (Kd.V_below (by (with_reducible repeat (first | apply Kd.V_alloc | apply Kd.V_drewN | apply Kd.V_drew)); exact HO_509000.out) hb); have _ := bK BK508 hb; have _ := bB hb; clear HO_3 HO_509000 BK508 HB; rename_i HO_3 HO_509000 BK508 HB; (try clear hb); have hcz12_0 := zc10 BK508; have hfz12_0 := blk_frozen BK508.out 0) | ((with_reducible refine gate_callee (f := 89) rfl ?_); refine gL (some 11) Tryz.func89 #[.agg #[.slice Ao10 x509000_1.length co10]] ?_; (with_reducible refine (Y1.calls k1 _ _ x509000_1 t513 t516 _ (cQ ((Kd.V_reads' HO_509000.out).2.2)) ((Kd.V_reads' HO_509000.out).2.1) A7.out).mono ?_); rintro e w13 ⟨v514, rfl, ho0, hb⟩; refine ⟨_, rfl, ?_⟩; have _ := aM (Kd.R_below (rQ HO_3) hb); have _ := aM (Kd.V_elder' (by (with_reducible repeat (first | apply Kd.V_alloc | apply Kd.V_drewN | apply Kd.V_drew)); exact HO_509000.out) (Kd.S_base ho0) hb); have _ := aM (Kd.S_lower (Kd.S_new' (Kd.S_newM (M := fun k_ => (w.heap.size ≤ k_)) ho0 (below_size bq) (fun k_ h_ => h_)) (Kd.R_lt (rQ HO_3))) (below_size bq)); have _ := bK BK508 hb; have _ := bB hb; clear HO_3 HO_509000 BK508 HB; rename_i HO_3 HO_509000 HO515 BK508 HB; (try clear hb); (try clear ho0); obtain ⟨Ao14, co14, eo14⟩ := Kd.S_slice HO515.out; subst eo14; have hcz15_0 := zc10 BK508; have hfz15_0 := blk_frozen BK508.out 0) | ((with_reducible refine gate_builtin (b := .append) (xs := #[.tmp 14, .tmp 16]) rfl ?_); at_builtin; refine Kd.R_append (Kd.int .i64) (w0 := w) w.heap.size rfl (.tmp 14) (.tmp 16) 24 3 (.int .i64 0) 8 rfl Tryz.underlying24 info3 rfl (by decide) (by omega) u3 x3_1 t516 [.int .i64 t516] (fun k_ => (w.heap.size ≤ k_)) (fun _ => False) rfl (by first | (go_simp; done) | (go_simp; rfl)) ?aP (fun _ hk => hk.elim) ?aF ?aO ?aB ?aS ?aL ?_; (case aP => exact rfl); (case aB => exact bq); (case aF => exact (fun k_ hk => (Nat.le_trans (below_size bq) hk))); (case aO => exact (by (with_reducible repeat first|apply rA|apply rN|apply rD); exact Kd.R_mono (Kd.R_far (p := ⟨gb508, 0, none⟩) (Kd.R_types HO_3.out BK508.out (by decide)) (fun _ hk => hk.2) (.slice Ao14 t513.length co14)) (fun _ hk => hk.1))); (case aS => exact (below_size bq)); (case aL => have := LMc8.out; omega); intro v518 w16 ho hb hg hat; rw [← Ny517.out] at ho; have _ := aM (Kd.V_afterv (ok := (fun k_ => (P0_0_ k_ ∨ w.heap.size ≤ k_) ∧ some k_ ≠ (.slice Ao14 t513.length co14 : Value).ownBlock ∧ k_ ≠ gb508)) (by (with_reducible repeat (first | apply Kd.V_alloc | apply Kd.V_drewN | apply Kd.V_drew)); exact Kd.V_mono (Kd.V_far (p := ⟨gb508, 0, none⟩) (Kd.V_mono HO_509000.out (fun k_ hk => (⟨hk, hk.1.2.2⟩ : _ ∧ k_ ≠ gb508))) (fun _ hk => hk.2) (.slice Ao14 t513.length co14)) (fun _ hk => ⟨⟨hk.1.1.1, ⟨hk.1.2, hk.1.1.2.2⟩⟩, hk.1.1.2.1⟩)) hg hat); have _ := aM (blk_grown (g := gb508) (o := .cells #[.slice Ao14 t513.length co14] 30 (0, 0)) (by (with_reducible repeat first|apply qN|apply qD|apply qA); refine blk_put (cs := #[.slice Ao10 x509000_1.length co10]) ?_ 0 _ rfl; (with_reducible repeat first|apply qN|apply qD|apply qA); exact BK508.out) hg (Kd.R_ne HO_3.out BK508.out (by decide))); have _ := aM (Kd.S_after (ok := (fun k_ => (w.heap.size ≤ k_))) (by (with_reducible repeat first|apply sA|apply sN|apply sD); exact Kd.S_mono (Kd.S_far (p := ⟨gb508, 0, none⟩) (Kd.S_types HO515.out BK508.out (by decide)) (fun _ hk => hk.2) (.slice Ao14 t513.length co14)) (fun _ hk => ⟨hk.1.1.1, hk.1.2⟩)) hg hat); have _ := aM (hb); have _ := aM (ho); clear HO_509000 BK508 HO515 HB HO_3; rename_i HO_509000 BK508 HO515 HB HO519; clear ho hb hg hat))
    go_roundg k1
    case measure => have := HK1.out; omega
    case rel => exact ⟨(y517), (t513), (.slice Ao14 t513.length co14), H', ⟨by have := HK1.out; omega⟩, ⟨rQ HO519⟩, ⟨Kd.V_mono (Kd.S_V (ok := fun k_ => w.heap.size ≤ k_ ∧ some k_ ≠ v518.ownBlock ∧ k_ ≠ gb508) (by (with_reducible repeat first|apply sA|apply sN|apply sD); exact Kd.S_mono (Kd.S_types HO515.out BK508.out (by decide)) (fun _ hk => ⟨hk.1.1, ⟨hk.1.2, hk.2⟩⟩))) (fun k_ hk => by first | exact ⟨(.inr (hk.1)), hk.2⟩ | exact (.inr (hk)))⟩, ⟨qQ BK508⟩, ⟨bq⟩⟩
   ·rw [if_neg c6] at H
    have c6b0 := decide_eq_false c6
    clear c6
    replace H := bS H
    obtain ⟨t520, A17, H⟩ := H
    try dsimp only at H
    obtain rfl := Option.some.inj H
    have hcz18_0 := zc10 BK508
    have hfz18_0 := blk_frozen BK508.out 0
    obtain ⟨Ao19, co19, eo19⟩ := Kd.V_slice HO_509000.out
    subst eo19
    go_wp2_with (first | ((with_reducible refine gate_callee (f := 37) rfl ?_); refine gL (some 7) Tryz.func37 #[.agg #[.slice Ao19 x509000_1.length co19]] ?_; (with_reducible refine (Y25.calls _ _ x509000_1 t512 _ (cQ ((Kd.V_reads' HO_509000.out).2.2)) ((Kd.V_reads' HO_509000.out).2.1) A5.out).mono ?_); rintro e w20 ⟨rfl, hb⟩; refine ⟨_, rfl, ?_⟩; have _ := aM (Kd.R_below (rQ HO_3) hb); have _ := aM (Kd.V_below (by (with_reducible repeat (first | apply Kd.V_alloc | apply Kd.V_drewN | apply Kd.V_drew)); exact HO_509000.out) hb); have _ := bK BK508 hb; have _ := bB hb; clear HO_3 HO_509000 BK508 HB; rename_i HO_3 HO_509000 BK508 HB; (try clear hb); obtain ⟨Ao21, co21, eo21⟩ := Kd.R_slice HO_3.out; subst eo21) | ((with_reducible refine gate_callee (f := 90) rfl ?_); refine gL (some 19) Tryz.func90 #[.slice Ao21 x3_1.length co21] ?_; (with_reducible refine (Y24.calls k1 (fun k_ => some k_ = (.slice Ao21 x3_1.length co21 : Value).ownBlock) (.slice Ao21 x3_1.length co21) x3_1 t520 w _ ?side1 ?side2 A17.out).mono ?_); (case side1 => exact bq); (case side2 => exact Kd.R_tight rfl HO_3.out); rintro e w22 ⟨rfl, hy0, hb, hkp⟩; refine ⟨_, rfl, ?_⟩; have _ := aM (Kd.R_reok rfl hy0 (fun k_ e_ => HO_3.out.1 k_ e_)); have _ := aM (Kd.V_mono (ok' := fun k_ => (P0_0_ k_ ∨ w.heap.size ≤ k_) ∧ some k_ ≠ (.slice Ao21 x3_1.length co21 : Value).ownBlock ∧ k_ ≠ gb508) (Kd.V_keptB (HO_509000.out) hkp (fun k_ hk_ hs_ => (hk_.2.1) hs_)) (fun k_ hk_ => ⟨hk_.1.1, hk_.1.2.1, hk_.1.2.2⟩)); have _ := aM (blk_kept (qQ BK508) hkp (fun hs_ => (fun e_ => (Kd.R_ne HO_3.out BK508.out (by decide)) e_) hs_)); have _ := aM (hb); clear HO_3 HO_509000 BK508 HB; rename_i HO_3 HO_509000 BK508 HB; (try clear hb); (try clear hkp); (try clear hy0)))
    go_ret
    exact ⟨_, eE, rQ HO_3, bq⟩
def Y64.f (k : Nat) (l0_0 : List (List Int)) : Option (List Int × Bool) := (Y30.f k l0_0).bind fun t522 => (if t522 = true then ((Y36.f k l0_0).bind fun t523 => (some (t523, true))) else (some (([] : List Int), false)))
theorem Y64.calls (k : Nat) (A0_0 : Option Addr) (c0_0 : Nat) (l0_0 : List (List Int)) (r1 : List Int) (r2 : Bool) (w : World) (hr0_0 : Kd.C (Kd.slice 3 (Kd.int .i64)) w A0_0 l0_0.length l0_0) (hc0_0 : l0_0.length ≤ c0_0) (h : Y64.f k l0_0 = some (r1, r2)) :
  Calls Tryz.prog 19 #[.agg #[.slice A0_0 l0_0.length c0_0]] w fun e w' => ∃ v0_ : Value, e = .returned (.tuple #[v0_, .bool r2]) ∧ Kd.R (Kd.int .i64) 3 w' w.heap.size (fun _ => True) v0_ r1 ∧ Below w.heap.size w w' := by
 have hu30 := Tryz.underlying30
 have HR0_0 := aM hr0_0
 have HC0_0 := aM hc0_0
 clear hr0_0 hc0_0
 have HB := aM (Below.refl w.heap.size w)
 unfold Y64.f at h
 have H := h
 clear h
 replace H := bS H
 obtain ⟨t522, A2, H⟩ := H
 try dsimp only at H
 by_cases c3 : t522 = true
 ·subst c3
  have H1 : ((Y36.f k l0_0).bind fun t523 => (some (t523, true))) = some (r1, r2) := by rw [if_pos rfl] at H; exact H
  clear H
  have H := H1
  clear H1
  replace H := bS H
  obtain ⟨t523, A4, H⟩ := H
  try dsimp only at H
  simp only [Option.some.injEq, Prod.mk.injEq] at H
  obtain ⟨rfl, rfl⟩ := H
  go_enter Tryz.func19, Tryz.ntmps19
  go_wp2_with (first | ((with_reducible refine gate_dst (N := 1) rfl ?_); refine bF 1 30 #[.slice A0_0 l0_0.length c0_0] bq ?_; intro gb521 w5 hg hb _ _ _ _; clear HB; rename_i HB BK521 GW521 GE521; clear hb hg; have hcz6_0 := zc10 BK521; have hfz6_0 := blk_frozen BK521.out 0) | ((with_reducible refine gate_callee (f := 26) rfl ?_); refine gL (some 5) Tryz.func26 #[.agg #[.slice A0_0 l0_0.length c0_0]] ?_; (with_reducible refine (Y30.calls k _ _ l0_0 true _ (cQ (Kd.C_below HR0_0.out HB.out)) HC0_0.out A2.out).mono ?_); rintro e w7 ⟨rfl, hb⟩; refine ⟨_, rfl, ?_⟩; have _ := bK BK521 hb; have _ := bB hb; clear BK521 HB; rename_i BK521 HB; (try clear hb); have hcz8_0 := zc10 BK521; have hfz8_0 := blk_frozen BK521.out 0) | ((with_reducible refine gate_callee (f := 48) rfl ?_); refine gL (some 8) Tryz.func48 #[.agg #[.slice A0_0 l0_0.length c0_0]] ?_; (with_reducible refine (Y36.calls k (fun k_ => k_ < w.heap.size) _ _ l0_0 t523 _ ?side1 A4.out).mono ?_); (case side1 => exact Kd.V_mk HC0_0.out (Kd.F_below (Kd.C_F (Kd.heap_slice 3 (Kd.heap_int .i64)) HR0_0.out) bq)); rintro e w9 ⟨v524, rfl, ho0, hb⟩; refine ⟨_, rfl, ?_⟩; have _ := aM (Kd.R_lower (Kd.R_mono (ok' := fun k_ => True) ho0 (fun _ hk_ => trivial)) (below_size bq)); have _ := bK BK521 hb; have _ := bB hb; clear BK521 HB; rename_i HO525 BK521 HB; (try clear hb); (try clear ho0)))
  go_ret2
  exact ⟨_, eE, rQ HO525, bq⟩
 ·replace c3 := Bool.eq_false_iff.mpr c3
  subst c3
  have H1 : (some (([] : List Int), false)) = some (r1, r2) := by rw [if_neg (show ¬ (false = true) by decide)] at H; exact H
  clear H
  have H := H1
  clear H1
  simp only [Option.some.injEq, Prod.mk.injEq] at H
  obtain ⟨rfl, rfl⟩ := H
  go_enter Tryz.func19, Tryz.ntmps19
  go_wp2_with (first | ((with_reducible refine gate_dst (N := 1) rfl ?_); refine bF 1 30 #[.slice A0_0 l0_0.length c0_0] bq ?_; intro gb521 w10 hg hb _ _ _ _; clear HB; rename_i HB BK521 GW521 GE521; clear hb hg; have hcz11_0 := zc10 BK521; have hfz11_0 := blk_frozen BK521.out 0) | ((with_reducible refine gate_callee (f := 26) rfl ?_); refine gL (some 5) Tryz.func26 #[.agg #[.slice A0_0 l0_0.length c0_0]] ?_; (with_reducible refine (Y30.calls k _ _ l0_0 false _ (cQ (Kd.C_below HR0_0.out HB.out)) HC0_0.out A2.out).mono ?_); rintro e w12 ⟨rfl, hb⟩; refine ⟨_, rfl, ?_⟩; have _ := bK BK521 hb; have _ := bB hb; clear BK521 HB; rename_i BK521 HB; (try clear hb)))
  go_ret2
  exact ⟨_, eE, by first | exact Kd.R_nil _ _ _ _ _ | exact Kd.N_nil _ _ _ _ _ | exact Kd.V_nil _ _ _ _ _ | exact Kd.Q_nil _ _ _ _ _ | exact Kd.S_nil _ _ _ _ _, bq⟩
def Y65.f (k : Nat) (a0_0 : Int) (l0_1 : List Int) : Option (List Int × Bool) := (Y41.f k a0_0 l0_1).bind fun t527 => (if t527 = true then ((Y14.f k a0_0 l0_1).bind fun t528 => ((Y36.f k t528).bind fun t531 => (some (t531, true)))) else (some (([] : List Int), false)))
theorem Y65.calls (k : Nat) (a0_0 : Int) (A0_1 : Option Addr) (c0_1 : Nat) (l0_1 : List Int) (r1 : List Int) (r2 : Bool) (w : World) (hV : TabZ w) (hr0_1 : Kd.C (Kd.int .i64) w A0_1 l0_1.length l0_1) (hc0_1 : l0_1.length ≤ c0_1) (h : Y65.f k a0_0 l0_1 = some (r1, r2)) :
  Calls Tryz.prog 20 #[.agg #[.int .i64 a0_0, .slice A0_1 l0_1.length c0_1]] w fun e w' => ∃ v0_ : Value, e = .returned (.tuple #[v0_, .bool r2]) ∧ Kd.R (Kd.int .i64) 3 w' w.heap.size (fun _ => True) v0_ r1 ∧ Below w.heap.size w w' := by
 have hu26 := Tryz.underlying26
 have HR0_1 := aM hr0_1
 have HC0_1 := aM hc0_1
 clear hr0_1 hc0_1
 have HB := aM (Below.refl w.heap.size w)
 have HVV := aM hV
 clear hV
 unfold Y65.f at h
 have H := h
 clear h
 replace H := bS H
 obtain ⟨t527, A2, H⟩ := H
 try dsimp only at H
 by_cases c3 : t527 = true
 ·subst c3
  have H1 : ((Y14.f k a0_0 l0_1).bind fun t528 => ((Y36.f k t528).bind fun t531 => (some (t531, true)))) = some (r1, r2) := by rw [if_pos rfl] at H; exact H
  clear H
  have H := H1
  clear H1
  replace H := bS H
  obtain ⟨t528, A4, H⟩ := H
  try dsimp only at H
  replace H := bS H
  obtain ⟨t531, A5, H⟩ := H
  try dsimp only at H
  simp only [Option.some.injEq, Prod.mk.injEq] at H
  obtain ⟨rfl, rfl⟩ := H
  go_enter Tryz.func20, Tryz.ntmps20
  go_wp2_with (first | ((with_reducible refine gate_dst (N := 1) rfl ?_); refine bF 1 26 #[.int .i64 a0_0, .slice A0_1 l0_1.length c0_1] bq ?_; intro gb526 w6 hg hb _ _ _ _; clear HB; rename_i HB BK526 GW526 GE526; clear hb hg; have hcz7_0 := zc20 BK526; have hcz7_1 := zc21 BK526; have hfz7_0 := blk_frozen BK526.out 0; have hfz7_1 := blk_frozen BK526.out 1) | ((with_reducible refine gate_callee (f := 33) rfl ?_); refine gL (some 5) Tryz.func33 #[.agg #[.int .i64 a0_0, .slice A0_1 l0_1.length c0_1]] ?_; (with_reducible refine (Y41.calls k a0_0 _ _ l0_1 true _ (HVV.out.below bq) (cQ (Kd.C_below HR0_1.out HB.out)) HC0_1.out A2.out).mono ?_); rintro e w8 ⟨rfl, hb⟩; refine ⟨_, rfl, ?_⟩; have _ := bK BK526 hb; have _ := bB hb; clear BK526 HB; rename_i BK526 HB; (try clear hb); have hcz9_0 := zc20 BK526; have hcz9_1 := zc21 BK526; have hfz9_0 := blk_frozen BK526.out 0; have hfz9_1 := blk_frozen BK526.out 1) | ((with_reducible refine gate_callee (f := 34) rfl ?_); refine gL (some 8) Tryz.func34 #[.agg #[.int .i64 a0_0, .slice A0_1 l0_1.length c0_1]] ?_; (with_reducible refine (Y14.calls k a0_0 _ _ l0_1 t528 _ (cQ (Kd.C_below HR0_1.out HB.out)) HC0_1.out A4.out).mono ?_); rintro e w10 ⟨v529, rfl, ho0, hb⟩; refine ⟨_, rfl, ?_⟩; have _ := aM (Kd.S_lower ho0 (below_size bq)); have _ := bK BK526 hb; have _ := bB hb; clear BK526 HB; rename_i HO530 BK526 HB; (try clear hb); (try clear ho0); obtain ⟨Ao11, co11, eo11⟩ := Kd.S_slice HO530.out; subst eo11) | ((with_reducible refine gate_callee (f := 48) rfl ?_); refine gL (some 9) Tryz.func48 #[.agg #[.slice Ao11 t528.length co11]] ?_; (with_reducible refine (Y36.calls k (fun k_ => (True ∧ k_ ≠ gb526)) _ _ t528 t531 _ ?side1 A5.out).mono ?_); (case side1 => exact Kd.S_V (Kd.S_types (HO530.out) BK526.out (by decide))); rintro e w12 ⟨v532, rfl, ho0, hb⟩; refine ⟨_, rfl, ?_⟩; have _ := aM (Kd.S_elder' (sQ HO530) (Kd.R_base ho0) hb); have _ := aM (Kd.R_lower (Kd.R_mono (ok' := fun k_ => True) ho0 (fun _ hk_ => trivial)) (below_size bq)); have _ := bK BK526 hb; have _ := bB hb; clear HO530 BK526 HB; rename_i HO530 HO533 BK526 HB; (try clear hb); (try clear ho0)))
  go_ret2
  exact ⟨_, eE, rQ HO533, bq⟩
 ·replace c3 := Bool.eq_false_iff.mpr c3
  subst c3
  have H1 : (some (([] : List Int), false)) = some (r1, r2) := by rw [if_neg (show ¬ (false = true) by decide)] at H; exact H
  clear H
  have H := H1
  clear H1
  simp only [Option.some.injEq, Prod.mk.injEq] at H
  obtain ⟨rfl, rfl⟩ := H
  go_enter Tryz.func20, Tryz.ntmps20
  go_wp2_with (first | ((with_reducible refine gate_dst (N := 1) rfl ?_); refine bF 1 26 #[.int .i64 a0_0, .slice A0_1 l0_1.length c0_1] bq ?_; intro gb526 w13 hg hb _ _ _ _; clear HB; rename_i HB BK526 GW526 GE526; clear hb hg; have hcz14_0 := zc20 BK526; have hcz14_1 := zc21 BK526; have hfz14_0 := blk_frozen BK526.out 0; have hfz14_1 := blk_frozen BK526.out 1) | ((with_reducible refine gate_callee (f := 33) rfl ?_); refine gL (some 5) Tryz.func33 #[.agg #[.int .i64 a0_0, .slice A0_1 l0_1.length c0_1]] ?_; (with_reducible refine (Y41.calls k a0_0 _ _ l0_1 false _ (HVV.out.below (by repeat (first | (with_reducible first | exact HB.out | apply bA | apply bN | apply bD) | exact HB.out | (refine Below.setCell ?_ ?_ _; rotate_left; first | exact GW526.out)))) (cQ (Kd.C_below HR0_1.out HB.out)) HC0_1.out A2.out).mono ?_); rintro e w15 ⟨rfl, hb⟩; refine ⟨_, rfl, ?_⟩; have _ := bK BK526 hb; have _ := bB hb; clear BK526 HB; rename_i BK526 HB; (try clear hb)))
  go_ret2
  exact ⟨_, eE, by first | exact Kd.R_nil _ _ _ _ _ | exact Kd.N_nil _ _ _ _ _ | exact Kd.V_nil _ _ _ _ _ | exact Kd.Q_nil _ _ _ _ _ | exact Kd.S_nil _ _ _ _ _, bq⟩
def Y31.l0 : Nat → List Int → Int → Int → Option (Int)
 | 0, _, _, _ => none
 | k + 1, x0, x3, x4 => if x4 < (x0.length : Int) then (if 0 ≤ (wrap64 (x4 - 1)) then (if (wrap64 (x4 - 1)) < (x0.length : Int) then (if 0 ≤ x4 then (if (rd x0 (wrap64 (x4 - 1))) < (rd x0 x4) then (Y31.l0 k x0 (wrap64 (x3 + 1)) (wrap64 (x4 + 1))) else (Y31.l0 k x0 x3 (wrap64 (x4 + 1)))) else (none)) else (none)) else (none)) else (some x3)
def Y31.f (k : Nat) (l0 : List Int) : Option (Int) := Y31.l0 k l0 0 1
theorem Y31.calls (k : Nat) (A0 : Option Addr) (c0 : Nat) (l0 : List Int) (r : Int) (w : World) (hr0 : Kd.C (Kd.int .i64) w A0 l0.length l0) (hc0 : l0.length ≤ c0) (h : Y31.f k l0 = some r) :
  Calls Tryz.prog 62 #[.slice A0 l0.length c0] w fun e w' => e = .returned (.int .i64 r) ∧ Drawn0 w w' := by
 have HR0 := aM hr0
 have HC0 := aM hc0
 clear hr0 hc0
 have H : (Y31.l0 k l0 0 1) = some r := h
 clear h
 have H' := aM H
 clear H
 go_enter Tryz.func62, Tryz.ntmps62
 go_wp2
 repeat (go_quiet (fail); try go_wp2)
 go_loopg [3, 4] k (fun kq v3 v4 w' => ∃ (x3_1 : Int) (x4_1 : Int), v3 = .int .i64 x3_1 ∧ v4 = .int .i64 x4_1 ∧ Aside0 (Y31.l0 kq l0 x3_1 x4_1 = some r) ∧ Aside0 (kq ≤ k) ∧ Drawn0 w w')
 case atStart => exact ⟨(0), (1), eR, eR, H', ⟨Nat.le_refl _⟩, dQ⟩
 case round =>
  clear H'
  obtain ⟨x3_1, x4_1, rfl, rfl, HA, HK1, ⟨m1, rfl⟩⟩ := hrel
  cases gk with
  | zero => exact absurd HA.out (by simp [Y31.l0])
  | succ k1 =>
   have H := HA.out
   clear HA
   simp only [Y31.l0] at H
   by_cases c2 : x4_1 < (l0.length : Int)
   ·rw [if_pos c2] at H
    have c2b0 := decide_eq_true c2
    clear c2
    obtain ⟨ji3, hji3⟩ : ∃ j_ : Int, (wrap64 (x4_1 - 1)) = j_ := ⟨_, rfl⟩
    replace H : (if 0 ≤ (ji3) then (if (ji3) < (l0.length : Int) then (if 0 ≤ x4_1 then (if (rd l0 (ji3)) < (rd l0 x4_1) then (Y31.l0 k1 l0 (wrap64 (x3_1 + 1)) (wrap64 (x4_1 + 1))) else (Y31.l0 k1 l0 x3_1 (wrap64 (x4_1 + 1)))) else (none)) else (none)) else (none)) = some r := by first | (rw [hji3] at H; exact H) | (simp only [hji3] at H ⊢; exact H)
    have hji3w : (IntKind.i64.wrap (x4_1 - 1)) = ji3 := (i64_w _).trans hji3
    replace H := iD3 H
    obtain ⟨c4b0, c5b0, c6b0, H⟩ := H
    by_cases c7 : (rd l0 (ji3)) < (rd l0 x4_1)
    ·rw [if_pos c7] at H
     have c7b0 := decide_eq_true c7
     clear c7
     have H' := aM H
     clear H
     have p534 : 0 ≤ ((ji3) : Int) := odt
     have q534 : (ji3) < (l0.length : Int) := odt
     obtain ⟨ad534, e534, hx534_0⟩ := Kd.at_int HR0.out (ji3) p534 q534
     cases e534
     replace p534 := eq_true p534
     replace q534 := eq_true q534
     have p535 : 0 ≤ (x4_1 : Int) := odt
     have q535 : x4_1 < (l0.length : Int) := odt
     obtain ⟨ad535, e535, hx535_0⟩ := Kd.at_int HR0.out x4_1 p535 q535
     obtain rfl : ad534 = ad535 := (by injection e535)
     replace p535 := eq_true p535
     replace q535 := eq_true q535
     go_wp2
     repeat (go_quiet (fail); try go_wp2)
     go_roundg k1
     case measure => have := HK1.out; omega
     case rel => exact ⟨(wrap64 (x3_1 + 1)), (wrap64 (x4_1 + 1)), eR, eR, H', ⟨by have := HK1.out; omega⟩, dQ⟩
    ·rw [if_neg c7] at H
     have c7b0 := decide_eq_false c7
     clear c7
     have H' := aM H
     clear H
     have p534 : 0 ≤ ((ji3) : Int) := odt
     have q534 : (ji3) < (l0.length : Int) := odt
     obtain ⟨ad534, e534, hx534_0⟩ := Kd.at_int HR0.out (ji3) p534 q534
     cases e534
     replace p534 := eq_true p534
     replace q534 := eq_true q534
     have p535 : 0 ≤ (x4_1 : Int) := odt
     have q535 : x4_1 < (l0.length : Int) := odt
     obtain ⟨ad535, e535, hx535_0⟩ := Kd.at_int HR0.out x4_1 p535 q535
     obtain rfl : ad534 = ad535 := (by injection e535)
     replace p535 := eq_true p535
     replace q535 := eq_true q535
     go_wp2
     repeat (go_quiet (fail); try go_wp2)
     go_roundg k1
     case measure => have := HK1.out; omega
     case rel => exact ⟨(x3_1), (wrap64 (x4_1 + 1)), eR, eR, H', ⟨by have := HK1.out; omega⟩, dQ⟩
   ·rw [if_neg c2] at H
    have c2b0 := decide_eq_false c2
    clear c2
    obtain rfl := Option.some.inj H
    go_wp2
    repeat (go_quiet (fail); try go_wp2)
    go_ret
    exact ⟨by first | rfl | (simp; done) | (simp [*]; done), dQ⟩
def Y29.l0 : Nat → List Int → List Int → Int → Int → Option (Bool)
 | 0, _, _, _, _ => none
 | k + 1, x0, x8, x9, x10 => if x10 < x9 then (if 0 ≤ x10 then (if x10 < (x8.length : Int) then (if x10 = 0 then (if (rd x8 x10) = 0 then (if x10 > 0 then (if x10 ≤ (x0.length : Int) then ((Y31.f k (x0.take (x10 : Int).toNat)).bind fun t538 => ((Y20.f (rd x8 x10) 0 (wrap64 (t538 + 1))).bind fun t539 => (if t539 = true then (Y29.l0 k x0 x8 x9 (wrap64 (x10 + 1))) else (some false)))) else (none)) else (Y29.l0 k x0 x8 x9 (wrap64 (x10 + 1)))) else (some false)) else (if x10 > 0 then (if x10 ≤ (x0.length : Int) then ((Y31.f k (x0.take (x10 : Int).toNat)).bind fun t541 => ((Y20.f (rd x8 x10) 0 (wrap64 (t541 + 1))).bind fun t542 => (if t542 = true then (Y29.l0 k x0 x8 x9 (wrap64 (x10 + 1))) else (some false)))) else (none)) else (Y29.l0 k x0 x8 x9 (wrap64 (x10 + 1))))) else (none)) else (none)) else (some true)
def Y29.f (k : Nat) (l0 : List Int) : Option (Bool) := if (l0.length : Int) > 12 then (some false) else (Y29.l0 k l0 l0 (l0.length : Int) 0)
theorem Y29.calls (k : Nat) (A0 : Option Addr) (c0 : Nat) (l0 : List Int) (r : Bool) (w : World) (hr0 : Kd.C (Kd.int .i64) w A0 l0.length l0) (hc0 : l0.length ≤ c0) (h : Y29.f k l0 = some r) :
  Calls Tryz.prog 31 #[.slice A0 l0.length c0] w fun e w' => e = .returned (.bool r) ∧ Drawn0 w w' := by
 have HR0 := aM hr0
 have HC0 := aM hc0
 clear hr0 hc0
 unfold Y29.f at h
 have H := h
 clear h
 by_cases c2 : (l0.length : Int) > 12
 ·rw [if_pos c2] at H
  have c2b0 := decide_eq_true c2
  have c2b1 : decide (12 < l0.length) = true := decide_eq_true (by omega)
  clear c2
  obtain rfl := Option.some.inj H
  go_enter Tryz.func31, Tryz.ntmps31
  go_wp2
  go_ret
  exact ⟨by first | rfl | (simp; done) | (simp [*]; done), dQ⟩
 ·rw [if_neg c2] at H
  have c2b0 := decide_eq_false c2
  have c2b1 : decide (12 < l0.length) = false := decide_eq_false (by omega)
  clear c2
  have H' := aM H
  clear H
  go_enter Tryz.func31, Tryz.ntmps31
  go_wp2
  go_loopg [10] k (fun kq v10 w' => ∃ (x10_1 : Int), v10 = .int .i64 x10_1 ∧ Aside0 (Y29.l0 kq l0 l0 (l0.length : Int) x10_1 = some r) ∧ Aside0 (kq ≤ k) ∧ Drawn0 w w')
  case atStart => exact ⟨(0), eR, H', ⟨Nat.le_refl _⟩, dQ⟩
  case round =>
   clear H'
   try clear c2
   try clear c2b0
   try clear c2b1
   obtain ⟨x10_1, rfl, HA, HK1, ⟨m1, rfl⟩⟩ := hrel
   cases gk with
   | zero => exact absurd HA.out (by simp [Y29.l0])
   | succ k1 =>
    have H := HA.out
    clear HA
    simp only [Y29.l0] at H
    by_cases c3 : x10_1 < (l0.length : Int)
    ·rw [if_pos c3] at H
     have c3b0 := decide_eq_true c3
     clear c3
     replace H := iD2 H
     obtain ⟨c4b0, c5b0, H⟩ := H
     by_cases c6 : x10_1 = 0
     ·rw [if_pos c6] at H
      have c6b0 : (x10_1 == 0) = true := beq_iff_eq.mpr c6
      have c6b1 : (x10_1 != 0) = false := bne_eq_false_iff_eq.mpr c6
      clear c6
      by_cases c7 : (rd l0 x10_1) = 0
      ·rw [if_pos c7] at H
       have c7b0 : ((rd l0 x10_1) == 0) = true := beq_iff_eq.mpr c7
       have c7b1 : ((rd l0 x10_1) != 0) = false := bne_eq_false_iff_eq.mpr c7
       clear c7
       by_cases c8 : x10_1 > 0
       ·rw [if_pos c8] at H
        have c8b0 := decide_eq_true c8
        clear c8
        have c9b0 := eq_true (odt : 0 ≤ x10_1)
        replace H := iS H
        obtain ⟨c10, H⟩ := H
        have c10b0 := eq_true c10
        have c10b1 := decide_eq_true c10
        clear c10
        replace H := bS H
        obtain ⟨t538, A11, H⟩ := H
        try dsimp only at H
        replace H := bS H
        obtain ⟨t539, A12, H⟩ := H
        try dsimp only at H
        by_cases c13 : t539 = true
        ·subst c13
         have H1 : (Y29.l0 k1 l0 l0 (l0.length : Int) (wrap64 (x10_1 + 1))) = some r := by rw [if_pos rfl] at H; exact H
         clear H
         have H := H1
         clear H1
         have H' := aM H
         clear H
         have p536 : 0 ≤ (x10_1 : Int) := odt
         have q536 : x10_1 < (l0.length : Int) := odt
         obtain ⟨ad536, e536, hx536_0⟩ := Kd.at_int HR0.out x10_1 p536 q536
         cases e536
         replace p536 := eq_true p536
         replace q536 := eq_true q536
         obtain ⟨i014, hi014, _, hsz14, _⟩ := info_parts info3
         obtain ⟨hcut14, hA14, hC14⟩ := print_take_of (P := Tryz.prog) (Value.int .i64) 0 24 3 .i64 Tryz.underlying24 hi014 hsz14 (some ad536) c0 l0 x10_1 (odt) (odt) HC0.out
         have HR537 := aM (Kd.C_of_reads (h1 := fun _ => rfl) (hA14 _ (Kd.reads_of_C HR0.out)))
         have HC537 := aM hC14
         clear hA14 hC14 hi014 hsz14
         go_wp2_with (first | (go_at_call 62; (refine calls_of_args (args' := #[.slice (some ad536) ((l0).take (x10_1 : Int).toNat).length c0]) ?argeq ?_); (case argeq => rw [List.length_take, Nat.min_eq_left (by have h_ : x10_1 ≤ ((l0).length : Int) := odt; omega)]); (with_reducible refine (Y31.calls k1 _ _ (l0.take (x10_1 : Int).toNat) t538 _ ?side1 ?side2 A11.out).mono ?_); (case side1 => exact cQ HR537.out); (case side2 => exact HC537.out); rintro e w' ⟨rfl, ⟨nd, rfl⟩⟩) | (go_at_call 61; (with_reducible refine (Y20.calls (rd l0 x10_1) 0 (wrap64 (t538 + 1)) true _ A12.out).mono ?_); rintro e w' ⟨rfl, ⟨nd, rfl⟩⟩))
         go_roundg k1
         case measure => have := HK1.out; omega
         case rel => exact ⟨(wrap64 (x10_1 + 1)), eR, H', ⟨by have := HK1.out; omega⟩, dQ⟩
        ·replace c13 := Bool.eq_false_iff.mpr c13
         subst c13
         have H1 : (some false) = some r := by rw [if_neg (show ¬ (false = true) by decide)] at H; exact H
         clear H
         have H := H1
         clear H1
         obtain rfl := Option.some.inj H
         have p536 : 0 ≤ (x10_1 : Int) := odt
         have q536 : x10_1 < (l0.length : Int) := odt
         obtain ⟨ad536, e536, hx536_0⟩ := Kd.at_int HR0.out x10_1 p536 q536
         cases e536
         replace p536 := eq_true p536
         replace q536 := eq_true q536
         obtain ⟨i015, hi015, _, hsz15, _⟩ := info_parts info3
         obtain ⟨hcut15, hA15, hC15⟩ := print_take_of (P := Tryz.prog) (Value.int .i64) 0 24 3 .i64 Tryz.underlying24 hi015 hsz15 (some ad536) c0 l0 x10_1 (odt) (odt) HC0.out
         have HR537 := aM (Kd.C_of_reads (h1 := fun _ => rfl) (hA15 _ (Kd.reads_of_C HR0.out)))
         have HC537 := aM hC15
         clear hA15 hC15 hi015 hsz15
         go_wp2_with (first | (go_at_call 62; (refine calls_of_args (args' := #[.slice (some ad536) ((l0).take (x10_1 : Int).toNat).length c0]) ?argeq ?_); (case argeq => rw [List.length_take, Nat.min_eq_left (by have h_ : x10_1 ≤ ((l0).length : Int) := odt; omega)]); (with_reducible refine (Y31.calls k1 _ _ (l0.take (x10_1 : Int).toNat) t538 _ ?side1 ?side2 A11.out).mono ?_); (case side1 => exact cQ HR537.out); (case side2 => exact HC537.out); rintro e w' ⟨rfl, ⟨nd, rfl⟩⟩) | (go_at_call 61; (with_reducible refine (Y20.calls (rd l0 x10_1) 0 (wrap64 (t538 + 1)) false _ A12.out).mono ?_); rintro e w' ⟨rfl, ⟨nd, rfl⟩⟩))
         go_ret
         exact ⟨by first | rfl | (simp; done) | (simp [*]; done), dQ⟩
       ·rw [if_neg c8] at H
        have c8b0 := decide_eq_false c8
        clear c8
        have H' := aM H
        clear H
        have p536 : 0 ≤ (x10_1 : Int) := odt
        have q536 : x10_1 < (l0.length : Int) := odt
        obtain ⟨ad536, e536, hx536_0⟩ := Kd.at_int HR0.out x10_1 p536 q536
        cases e536
        replace p536 := eq_true p536
        replace q536 := eq_true q536
        go_wp2
        go_roundg k1
        case measure => have := HK1.out; omega
        case rel => exact ⟨(wrap64 (x10_1 + 1)), eR, H', ⟨by have := HK1.out; omega⟩, dQ⟩
      ·rw [if_neg c7] at H
       have c7b0 : ((rd l0 x10_1) == 0) = false := beq_eq_false_iff_ne.mpr c7
       have c7b1 : ((rd l0 x10_1) != 0) = true := bne_iff_ne.mpr c7
       obtain rfl := Option.some.inj H
       have p536 : 0 ≤ (x10_1 : Int) := odt
       have q536 : x10_1 < (l0.length : Int) := odt
       obtain ⟨ad536, e536, hx536_0⟩ := Kd.at_int HR0.out x10_1 p536 q536
       cases e536
       replace p536 := eq_true p536
       replace q536 := eq_true q536
       go_wp2
       go_ret
       exact ⟨by first | rfl | (simp; done) | (simp [*]; done), dQ⟩
     ·rw [if_neg c6] at H
      have c6b0 : (x10_1 == 0) = false := beq_eq_false_iff_ne.mpr c6
      have c6b1 : (x10_1 != 0) = true := bne_iff_ne.mpr c6
      by_cases c16 : x10_1 > 0
      ·rw [if_pos c16] at H
       have c16b0 := decide_eq_true c16
       clear c16
       have c17b0 := eq_true (odt : 0 ≤ x10_1)
       replace H := iS H
       obtain ⟨c18, H⟩ := H
       have c18b0 := eq_true c18
       have c18b1 := decide_eq_true c18
       clear c18
       replace H := bS H
       obtain ⟨t541, A19, H⟩ := H
       try dsimp only at H
       replace H := bS H
       obtain ⟨t542, A20, H⟩ := H
       try dsimp only at H
       by_cases c21 : t542 = true
       ·subst c21
        have H1 : (Y29.l0 k1 l0 l0 (l0.length : Int) (wrap64 (x10_1 + 1))) = some r := by rw [if_pos rfl] at H; exact H
        clear H
        have H := H1
        clear H1
        have H' := aM H
        clear H
        have p536 : 0 ≤ (x10_1 : Int) := odt
        have q536 : x10_1 < (l0.length : Int) := odt
        obtain ⟨ad536, e536, hx536_0⟩ := Kd.at_int HR0.out x10_1 p536 q536
        cases e536
        replace p536 := eq_true p536
        replace q536 := eq_true q536
        obtain ⟨i022, hi022, _, hsz22, _⟩ := info_parts info3
        obtain ⟨hcut22, hA22, hC22⟩ := print_take_of (P := Tryz.prog) (Value.int .i64) 0 24 3 .i64 Tryz.underlying24 hi022 hsz22 (some ad536) c0 l0 x10_1 (odt) (odt) HC0.out
        have HR540 := aM (Kd.C_of_reads (h1 := fun _ => rfl) (hA22 _ (Kd.reads_of_C HR0.out)))
        have HC540 := aM hC22
        clear hA22 hC22 hi022 hsz22
        go_wp2_with (first | (go_at_call 62; (refine calls_of_args (args' := #[.slice (some ad536) ((l0).take (x10_1 : Int).toNat).length c0]) ?argeq ?_); (case argeq => rw [List.length_take, Nat.min_eq_left (by have h_ : x10_1 ≤ ((l0).length : Int) := odt; omega)]); (with_reducible refine (Y31.calls k1 _ _ (l0.take (x10_1 : Int).toNat) t541 _ ?side1 ?side2 A19.out).mono ?_); (case side1 => exact cQ HR540.out); (case side2 => exact HC540.out); rintro e w' ⟨rfl, ⟨nd, rfl⟩⟩) | (go_at_call 61; (with_reducible refine (Y20.calls (rd l0 x10_1) 0 (wrap64 (t541 + 1)) true _ A20.out).mono ?_); rintro e w' ⟨rfl, ⟨nd, rfl⟩⟩))
        go_roundg k1
        case measure => have := HK1.out; omega
        case rel => exact ⟨(wrap64 (x10_1 + 1)), eR, H', ⟨by have := HK1.out; omega⟩, dQ⟩
       ·replace c21 := Bool.eq_false_iff.mpr c21
        subst c21
        have H1 : (some false) = some r := by rw [if_neg (show ¬ (false = true) by decide)] at H; exact H
        clear H
        have H := H1
        clear H1
        obtain rfl := Option.some.inj H
        have p536 : 0 ≤ (x10_1 : Int) := odt
        have q536 : x10_1 < (l0.length : Int) := odt
        obtain ⟨ad536, e536, hx536_0⟩ := Kd.at_int HR0.out x10_1 p536 q536
        cases e536
        replace p536 := eq_true p536
        replace q536 := eq_true q536
        obtain ⟨i023, hi023, _, hsz23, _⟩ := info_parts info3
        obtain ⟨hcut23, hA23, hC23⟩ := print_take_of (P := Tryz.prog) (Value.int .i64) 0 24 3 .i64 Tryz.underlying24 hi023 hsz23 (some ad536) c0 l0 x10_1 (odt) (odt) HC0.out
        have HR540 := aM (Kd.C_of_reads (h1 := fun _ => rfl) (hA23 _ (Kd.reads_of_C HR0.out)))
        have HC540 := aM hC23
        clear hA23 hC23 hi023 hsz23
        go_wp2_with (first | (go_at_call 62; (refine calls_of_args (args' := #[.slice (some ad536) ((l0).take (x10_1 : Int).toNat).length c0]) ?argeq ?_); (case argeq => rw [List.length_take, Nat.min_eq_left (by have h_ : x10_1 ≤ ((l0).length : Int) := odt; omega)]); (with_reducible refine (Y31.calls k1 _ _ (l0.take (x10_1 : Int).toNat) t541 _ ?side1 ?side2 A19.out).mono ?_); (case side1 => exact cQ HR540.out); (case side2 => exact HC540.out); rintro e w' ⟨rfl, ⟨nd, rfl⟩⟩) | (go_at_call 61; (with_reducible refine (Y20.calls (rd l0 x10_1) 0 (wrap64 (t541 + 1)) false _ A20.out).mono ?_); rintro e w' ⟨rfl, ⟨nd, rfl⟩⟩))
        go_ret
        exact ⟨by first | rfl | (simp; done) | (simp [*]; done), dQ⟩
      ·rw [if_neg c16] at H
       have c16b0 := decide_eq_false c16
       clear c16
       have H' := aM H
       clear H
       have p536 : 0 ≤ (x10_1 : Int) := odt
       have q536 : x10_1 < (l0.length : Int) := odt
       obtain ⟨ad536, e536, hx536_0⟩ := Kd.at_int HR0.out x10_1 p536 q536
       cases e536
       replace p536 := eq_true p536
       replace q536 := eq_true q536
       go_wp2
       go_roundg k1
       case measure => have := HK1.out; omega
       case rel => exact ⟨(wrap64 (x10_1 + 1)), eR, H', ⟨by have := HK1.out; omega⟩, dQ⟩
    ·rw [if_neg c3] at H
     have c3b0 := decide_eq_false c3
     clear c3
     obtain rfl := Option.some.inj H
     go_wp2
     go_ret
     exact ⟨by first | rfl | (simp; done) | (simp [*]; done), dQ⟩
def Y66.f (k : Nat) (l0 : List Int) : Option (Bool) := (Y29.f k l0).bind fun t543 => (if t543 = true then (some (decide ((l0.length : Int) ≤ 10))) else (some false))
theorem Y66.calls (k : Nat) (A0 : Option Addr) (c0 : Nat) (l0 : List Int) (r : Bool) (w : World) (hr0 : Kd.C (Kd.int .i64) w A0 l0.length l0) (hc0 : l0.length ≤ c0) (h : Y66.f k l0 = some r) :
  Calls Tryz.prog 49 #[.slice A0 l0.length c0] w fun e w' => e = .returned (.bool r) ∧ Drawn0 w w' := by
 have HR0 := aM hr0
 have HC0 := aM hc0
 clear hr0 hc0
 unfold Y66.f at h
 have H := h
 clear h
 replace H := bS H
 obtain ⟨t543, A2, H⟩ := H
 try dsimp only at H
 by_cases c3 : t543 = true
 ·subst c3
  have H1 : (some (decide ((l0.length : Int) ≤ 10))) = some r := by rw [if_pos rfl] at H; exact H
  clear H
  have H := H1
  clear H1
  obtain rfl := Option.some.inj H
  go_enter Tryz.func49, Tryz.ntmps49
  go_wp2_with (first | ((with_reducible refine gate_callee (f := 31) rfl ?_); refine gL (some 4) Tryz.func31 #[.slice A0 l0.length c0] ?_; (with_reducible refine (Y29.calls k _ _ l0 true _ (cQ HR0.out) HC0.out A2.out).mono ?_); rintro e w' ⟨rfl, ⟨nd, rfl⟩⟩; refine ⟨_, rfl, ?_⟩))
  go_ret
  exact ⟨by first | rfl | (simp; done) | (simp [*]; done), dQ⟩
 ·replace c3 := Bool.eq_false_iff.mpr c3
  subst c3
  have H1 : (some false) = some r := by rw [if_neg (show ¬ (false = true) by decide)] at H; exact H
  clear H
  have H := H1
  clear H1
  obtain rfl := Option.some.inj H
  go_enter Tryz.func49, Tryz.ntmps49
  go_wp2_with (first | ((with_reducible refine gate_callee (f := 31) rfl ?_); refine gL (some 4) Tryz.func31 #[.slice A0 l0.length c0] ?_; (with_reducible refine (Y29.calls k _ _ l0 false _ (cQ HR0.out) HC0.out A2.out).mono ?_); rintro e w' ⟨rfl, ⟨nd, rfl⟩⟩; refine ⟨_, rfl, ?_⟩))
  go_ret
  exact ⟨by first | rfl | (simp; done) | (simp [*]; done), dQ⟩
def Y57.f (l0 : List S70) : Option (List S70) := if l0.length < 8796093022208 then some l0 else none
theorem Y57.calls (A0 : Option Addr) (c0 : Nat) (l0 : List S70) (r : List S70) (w : World) (hr0 : Kd.C (k70) w A0 l0.length l0) (hc0 : l0.length ≤ c0) (h : Y57.f l0 = some r) :
    Calls Tryz.prog 120 #[.slice A0 l0.length c0] w fun e w' => ∃ v0_ : Value, e = .returned (v0_) ∧ Kd.R (k70) 70 w' w.heap.size (fun _ => True) v0_ r ∧ Below w.heap.size w w' := by
 have HB := aM (Below.refl w.heap.size w)
 unfold Y57.f at h
 by_cases c2 : l0.length < 8796093022208
 · {
 rw [if_pos c2] at h
 obtain rfl := Option.some.inj h
 clear h
 have LMc2 := aM c2
 clear c2
 cases A0 with
 | none => {
 have hn : l0.length = 0 := by {
 rcases Nat.eq_zero_or_pos l0.length with h0 | h0
 · exact h0
 · {
 obtain ⟨ad, he, _⟩ := hr0.2.2 h0
 cases he}}
 obtain rfl : l0 = [] := List.eq_nil_of_length_eq_zero hn
 clear hn hr0 hc0
 have q1 : ∀ (W : World) (n c n' c' : Nat), (binOp .eql 68 (.slice none n c) (.slice none n' c')).run Tryz.prog W = .ok (.bool true) W := fun W n c n' c' => Go.Lib.run_eql_slice_nil W _ _ none n c n' c' Tryz.underlying68
 go_enter Tryz.func120, Tryz.ntmps120
 go_wp2
 go_ret
 exact ⟨_, rfl, Kd.R_nil _ _ _ _ _, by repeat (first | (with_reducible first | exact HB.out | apply below_alloc | apply pw_below_drewN | apply below_drew1) | exact HB.out)⟩}
 | some ad0 => {
 have HR0 := aM hr0
 have HC0 := aM hc0
 clear hr0 hc0
 obtain ⟨y580, hy580⟩ := nE ((([] : List S70)) : List S70)
 have Ny580 := aM hy580
 clear hy580
 obtain ⟨y583, hy583⟩ := nE ((y580 ++ l0) : List S70)
 have Ny583 := aM hy583
 clear hy583
 have q1 : ∀ (W : World) (n c n' c' : Nat), (binOp .eql 68 (.slice (some ad0) n c) (.slice none n' c')).run Tryz.prog W = .ok (.bool false) W := fun W n c n' c' => Go.Lib.run_eql_slice_nil W _ _ (some ad0) n c n' c' Tryz.underlying68
 have E583 : Aside0 (y583 = l0) := ⟨by rw [Ny583.out, Ny580.out]; rfl⟩
 go_enter Tryz.func120, Tryz.ntmps120
 go_wp2_with (first | ((with_reducible refine gate_dst (N := 5) rfl ?_); refine Kd.R_lit (k70) _ 70 ?hg (N := 5) ?hd (xs := ([] : List S70)) (inner := []) (ok := fun _ => True) (okp := fun _ => True) ?hr ?hp (fun _ hk => hk) trivial (Below.refl _ _) (Nat.le_refl _) (by simp) ?_; (case hd => rfl); (case hg => rfl); (case hr => first | (go_simp; done) | (go_simp; rfl)); (case hp => exact (Reps.none _ _)); intro v581 w3 ho4 hb hg_ hnew_; clear hg_ hnew_; (first | rw [← Ny580.out] at ho4 | (simp only [Int.reduceToNat] at ho4; rw [← Ny580.out] at ho4)); have _ := aM (Kd.R_lower ho4 (below_size (by repeat (first | (with_reducible first | exact HB.out | apply below_alloc | apply pw_below_drewN | apply below_drew1) | exact HB.out)))); have _ := aM (below_step (by repeat (first | (with_reducible first | exact HB.out | apply below_alloc | apply pw_below_drewN | apply below_drew1) | exact HB.out)) hb); clear HB; rename_i HO582 HB; clear hb ho4) | ((with_reducible refine gate_builtin (b := .append) (xs := #[.tmp 5, .tmp 6]) rfl ?_); at_builtin; refine Kd.R_append_rows (k70) (w0 := w) w.heap.size rfl (.tmp 5) (.tmp 6) 68 70 (.agg #[.int .i64 0, .int .i64 0]) 16 rfl Tryz.underlying68 (by kernel_rfl) rfl (by decide) (by omega) v581 y580 l0 _ _ _ (fun _ => True) (fun _ => False) rfl rfl ?aO ?aR (fun _ _ h => h) (fun _ h => h.elim) ?aF ?aB ?aS ?aL ?_; (case aR => repeat (first | exact (Kd.C_below HR0.out HB.out) | (with_reducible refine Kd.C_alloc ?_ _) | (with_reducible refine Kd.C_drewN ?_ _) | (with_reducible refine Kd.C_drew ?_))); (case aB => exact (by repeat (first | (with_reducible first | exact HB.out | apply below_alloc | apply pw_below_drewN | apply below_drew1) | exact HB.out))); (case aF => exact (fun _ _ => trivial)); (case aO => exact (by (with_reducible repeat (first | apply Kd.R_alloc | apply Kd.R_drewN | apply Kd.R_drew)); exact HO582.out)); (case aS => exact (below_size (by repeat (first | (with_reducible first | exact HB.out | apply below_alloc | apply pw_below_drewN | apply below_drew1) | exact HB.out)))); (case aL => have := LMc2.out; have := Ny580.out; simp_all; omega); intro v584 w5 ho hb hg hat; rw [← Ny583.out] at ho; have _ := aM (hb); have _ := aM (ho); clear HB HO582; rename_i HB HO585; clear ho hb hg hat))
 go_ret
 exact ⟨_, rfl, by (with_reducible repeat (first | apply Kd.R_alloc | apply Kd.R_drewN | apply Kd.R_drew)); (have := HO585.out; rw [E583.out] at this; exact this), by repeat (first | (with_reducible first | exact HB.out | apply below_alloc | apply pw_below_drewN | apply below_drew1) | exact HB.out)⟩}}
 · {
 rw [if_neg c2] at h
 exact absurd h (by simp)}
end Go.Proofs.YtcodionjhcmfhaaGreatDoor.Oa
