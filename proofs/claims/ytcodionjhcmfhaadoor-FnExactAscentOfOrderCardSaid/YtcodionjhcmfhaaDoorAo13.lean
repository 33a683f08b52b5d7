-- Written by hook.py, a program of this session (wip/), which runs the kit's print.py with its own parts; Lean checks it.
import Derived.Test.YtcodionjhcmfhaaDoorAo0
import Derived.Test.YtcodionjhcmfhaaDoorAo12
import Derived.Test.YtcodionjhcmfhaaDoorAoXSq
namespace Go.Proofs.YtcodionjhcmfhaaDoor.Ao
open Go.RowKit Go.Proofs.YtcodionjhcmfhaaDoorW.PrintWords Go.Proofs.YtcodionjhcmfhaaDoorW.PrintLast Go.Proofs.YtcodionjhcmfhaaDoorW.PrintMore Go.Proofs.YtcodionjhcmfhaaDoor.Sq
attribute [local go_sem] max2_int min2_int max_two min_two max_three min_three max_four min_four   -- for this text's walks alone
set_option linter.unusedVariables false
set_option linter.unusedSimpArgs false

theorem bits_and_i64_nat (a b : Nat) (ha : a < 4294967296) (hb : b < 4294967296) : Go.bits .and .i64 (a : Int) (b : Int) = ((a &&& b : Nat) : Int) := by
 have hx : a &&& b < 2 ^ 32 := Nat.and_lt_two_pow _ (by omega)
 have h1 : (BitVec.ofInt 64 (a : Int)).toNat = a := by rw [BitVec.ofInt_natCast, BitVec.toNat_ofNat]; exact Nat.mod_eq_of_lt (by omega)
 have h2 : (BitVec.ofInt 64 (b : Int)).toNat = b := by rw [BitVec.ofInt_natCast, BitVec.toNat_ofNat]; exact Nat.mod_eq_of_lt (by omega)
 show IntKind.i64.wrap ((BitVec.ofInt 64 (a : Int) &&& BitVec.ofInt 64 (b : Int)).toNat : Int) = _
 rw [BitVec.toNat_and, h1, h2, Go.Proofs.YtcodionjhcmfhaaDoorW.PrintLast.i64_w]
 unfold wrap64
 omega
def impl_members.mem : Nat → Nat → List Int
  | 0, _ => []
  | q + 1, n => if n = 0 then [] else (Go.Lib.ctz 64 n : Int) :: impl_members.mem q (n &&& (n - 1))
def impl_members.f (a0 : Int) : Option (List Int) := if 0 ≤ a0 ∧ a0 < 1048576 then some (impl_members.mem (a0.toNat + 1) a0.toNat) else none
set_option maxHeartbeats 8000000 in
set_option maxRecDepth 100000 in
open Go.Proofs.YtcodionjhcmfhaaDoor.Live in
theorem impl_members.calls (a0 : Int) (r : List Int) (w : World) (hV : TabZ w) (h : impl_members.f a0 = some r) :
    Calls Tryd.prog 99 #[.int .i64 a0] w fun e w' => ∃ v0_ : Value, e = .returned v0_ ∧ (Kd.int .i64).R 3 w' w.heap.size (fun _ => True) v0_ r ∧ Below w.heap.size w w' := by
 unfold impl_members.f at h
 by_cases c : 0 ≤ a0 ∧ a0 < 1048576
 · {
 rw [if_pos c] at h
 obtain rfl := Option.some.inj h
 obtain ⟨n, rfl⟩ : ∃ x : Nat, a0 = (x : Int) := ⟨a0.toNat, by omega⟩
 rw [Int.toNat_natCast]
 have hn : n < 1048576 := by omega
 have HV := aM hV
 have HN := aM hn
 clear h hV c hn
 go_enter Tryd.func99, Tryd.ntmps99
 go_wp2_with (first | ((with_reducible refine gate_dst (N := 4) rfl ?_); refine Kd.R_lit (Kd.int .i64) _ 3 ?hg (N := 4) ?hd (xs := ([] : List Int)) (inner := []) (ok := fun _ => True) (okp := fun _ => True) ?hr ?hp (fun _ hk => hk) trivial (Below.refl _ _) (Nat.le_refl _) (by simp) ?_; (case hd => rfl); (case hg => rfl); (case hr => first | (go_simp; done) | (go_simp; rfl)); (case hp => exact (Reps.none _ _)); intro v10 w2 ho2 hb hg_ hnew_; clear hg_ hnew_; have H2 := aM (Live.add (o := row (Kd.int .i64) 3 v10 []) (Live.start w) hb ho2); clear hb ho2) | fail)
 go_loopg [0, 3] (n + 1) (fun kq v0 v3 w' => ∃ (q rem : Nat) (out : List Int), v0 = .int .i64 (rem : Int) ∧ Aside0 (rem < q ∧ q ≤ n + 1 ∧ kq = rem + 1 ∧ out.length + q ≤ n + 1) ∧ Aside0 (impl_members.mem (n + 1) n = out ++ impl_members.mem q rem) ∧ Aside0 (Live w w' [row (Kd.int .i64) 3 v3 out]))
 case atStart => exact ⟨n + 1, n, [], rfl, ⟨by omega, by omega, rfl, by simp⟩, ⟨rfl⟩, H2⟩
 case round => (
 clear H2
 obtain ⟨q, rem, out, rfl, HI, HO, H⟩ := hrel
 rename World => wq
 by_cases ci : rem = 0
 · {
 subst ci
 have d1 : (((0 : Nat) : Int) != 0) = false := rfl
 have e0 : ∀ q, impl_members.mem q 0 = [] := fun q => by cases q <;> rfl
 have he := HO.out
 rw [e0, List.append_nil] at he
 have HE := aM he
 clear he e0
 go_wp2_with (fail)
 go_ret
 exact ⟨_, rfl, by rw [HE.out]; exact H.out.get 0 rfl, H.out.below⟩}
 · {
 have hI := HI.out
 have hnn := HN.out
 obtain ⟨q', rfl⟩ : ∃ q', q = q' + 1 := ⟨q - 1, by omega⟩
 have d1 : ((rem : Int) != 0) = true := by rw [bne_iff_ne]; omega
 have d2 : ((rem : Int) == 0) = false := by rw [beq_eq_false_iff_ne]; omega
 have hle : rem &&& (rem - 1) ≤ rem - 1 := Nat.and_le_right
 have hw : IntKind.u64.wrap (rem : Int) = (rem : Int) := by rw [IntKind.wrap_u64]; omega
 have hw2 : IntKind.i64.wrap ((rem : Int) - 1) = ((rem - 1 : Nat) : Int) := by rw [Go.Proofs.YtcodionjhcmfhaaDoorW.PrintLast.i64_w]; unfold wrap64; omega
 have hw3 : wrap64 ((rem : Int) - 1) = ((rem - 1 : Nat) : Int) := by unfold wrap64; omega
 have hba : Go.bits .and .i64 (rem : Int) ((rem - 1 : Nat) : Int) = ((rem &&& (rem - 1) : Nat) : Int) := bits_and_i64_nat _ _ (by omega) (by omega)
 have hT : bits_TrailingZeros.f (rem : Int) = some (Go.Lib.ctz 64 rem : Int) := by {
 show (if 0 < (rem : Int) ∧ (rem : Int) < 1048576 then some (Go.Lib.ctz 64 ((rem : Int)).toNat : Int) else none) = _
 rw [if_pos ⟨by omega, by omega⟩, Int.toNat_natCast]}
 have hnext : impl_members.mem (n + 1) n = (out ++ [(Go.Lib.ctz 64 rem : Int)]) ++ impl_members.mem q' (rem &&& (rem - 1)) := by rw [HO.out, impl_members.mem, if_neg ci, List.append_assoc]; rfl
 have HNX := aM hnext
 have HT := aM hT
 have HI2 : Aside0 ((rem &&& (rem - 1)) < q' ∧ q' ≤ n + 1 ∧ (rem &&& (rem - 1)) + 1 = (rem &&& (rem - 1)) + 1 ∧ (out ++ [(Go.Lib.ctz 64 rem : Int)]).length + q' ≤ n + 1) := ⟨by omega, by omega, rfl, by rw [List.length_append, List.length_singleton]; omega⟩
 have HM : Aside0 ((rem &&& (rem - 1)) + 1 < rem + 1) := ⟨by omega⟩
 have HLEN : Aside0 (out.length < 1048577) := ⟨by omega⟩
 have HKQ := aM hI.2.2.1
 have HVq := aM (HV.out.below H.out.below)
 clear hI hnn hle hT hnext HI HO
 generalize hz : (Go.Lib.ctz 64 rem : Int) = z at HT HNX HI2
 generalize hm : rem &&& (rem - 1) = rm at hba HNX HI2 HM
 clear hz hm
 obtain ⟨A4, c4, rfl, _, _⟩ := H.out.form 0 rfl
 go_wp2_with (fail)
 refine (bits_TrailingZeros.calls (rem : Int) z _ HVq.out HT.out).mono ?_
 rintro e w4 ⟨rfl, hd_⟩
 have H4 := aM (H.out.drawn hd_)
 clear hd_ H
 obtain ⟨ok_, ho_, hok_, _, hback_⟩ := H4.out.lend 0 rfl
 go_wp2_with (first | ((with_reducible refine gate_builtin (b := .append) (xs := #[.tmp 11, .tmp 15]) rfl ?_); at_builtin; refine Kd.R_append (Kd.int .i64) (w0 := w) w.heap.size rfl (.tmp 11) (.tmp 15) 22 3 (.int .i64 0) 8 rfl Tryd.underlying22 (by kernel_rfl) rfl (by decide) (by omega) (.slice A4 out.length c4) out z [.int .i64 z] (fun k_ => ok_ k_ ∨ w4.heap.size ≤ k_) (fun _ => False) rfl rfl rfl (fun _ h => h.elim) (fun _ h => .inr h) (Kd.R_mono ho_ (fun _ h => .inl h)) H4.out.below H4.out.below.size (by have := HLEN.out; omega) ?_; intro v8 w8 hs_ hb_ hg_ hat_; have H8 := aM (hback_ w8 (row (Kd.int .i64) 3 v8 (out ++ [z])) hb_ (Kept.of_grown hg_ (Kept.refl _ _) (fun k_ hk_ => .inl (ho_.1 k_ hk_))) hs_); clear hs_ hb_ hg_ hat_ hback_ ho_) | fail)
 go_roundg (rm + 1)
 case measure => rw [HKQ.out]; exact HM.out
 case rel => exact ⟨q', rm, _, rfl, ⟨⟨HI2.out.1, HI2.out.2.1, rfl, HI2.out.2.2.2⟩⟩, HNX, H8⟩})}
 · rw [if_neg c] at h; exact absurd h (by simp)
mutual
def impl_IsOrder.l0 : Nat → List Int → Int → Int → Int → List Int → Option (Bool)
 | 0, _, _, _, _, _ => none
 | k + 1, x11, x12, x13, x350000, x350001 => if x13 < x12 then (if 0 ≤ x13 then (if x13 < (x11.length : Int) then ((impl_Order_better.f x350000 x350001 x13 x13).bind fun t352 => (if t352 = true then (some false) else ((impl_members.f (rd x11 x13)).bind fun t353 => (impl_IsOrder.l1 k (rd x11 x13) x11 x12 x13 t353 (t353.length : Int) 0 x350000 x350001)))) else (none)) else (none)) else (some true)
def impl_IsOrder.l1 : Nat → Int → List Int → Int → Int → List Int → Int → Int → Int → List Int → Option (Bool)
 | 0, _, _, _, _, _, _, _, _, _ => none
 | k + 1, x4, x11, x12, x13, x23, x24, x25, x350000, x350001 => if x25 < x24 then (if 0 ≤ x25 then (if x25 < (x23.length : Int) then (if 0 ≤ (rd x23 x25) then (if (rd x23 x25) < (x350001.length : Int) then (if (Go.bits .andNot .i64 (rd x350001 (rd x23 x25)) x4) = 0 then (impl_IsOrder.l1 k x4 x11 x12 x13 x23 x24 (wrap64 (x25 + 1)) x350000 x350001) else (some false)) else (none)) else (none)) else (none)) else (none)) else (impl_IsOrder.l0 k x11 x12 (wrap64 (x13 + 1)) x350000 x350001)
end
def impl_IsOrder.f (k : Nat) (a0_0 : Int) (l0_1 : List Int) : Option (Bool) := (impl_IsRelation.f k a0_0 l0_1).bind fun t350 => (if t350 = true then (impl_IsOrder.l0 k l0_1 (l0_1.length : Int) 0 a0_0 l0_1) else (some false))
theorem impl_IsOrder.mono_l : ∀ k, (∀ y0 y1 y2 y3 y4, LeO (impl_IsOrder.l0 k y0 y1 y2 y3 y4) (impl_IsOrder.l0 (k + 1) y0 y1 y2 y3 y4)) ∧ (∀ y0 y1 y2 y3 y4 y5 y6 y7 y8, LeO (impl_IsOrder.l1 k y0 y1 y2 y3 y4 y5 y6 y7 y8) (impl_IsOrder.l1 (k + 1) y0 y1 y2 y3 y4 y5 y6 y7 y8))
 | 0 => ⟨fun _ _ _ _ _ r h => by simp [impl_IsOrder.l0] at h, fun _ _ _ _ _ _ _ _ _ r h => by simp [impl_IsOrder.l1] at h⟩
 | k + 1 => by
  obtain ⟨ih0, ih1⟩ := impl_IsOrder.mono_l k
  refine ⟨?_, ?_⟩
  ·intro y0 y1 y2 y3 y4
   unfold impl_IsOrder.l0
   repeat' first | with_reducible first | exact ih0 _ _ _ _ _ | exact ih1 _ _ _ _ _ _ _ _ _ | exact impl_IsRelation.mono _ _ _ | exact LeO.refl _ | exact LeO.none _ | refine LeO.ite ?_ ?_ | refine LeO.bind ?_ (fun _ => ?_)
  ·intro y0 y1 y2 y3 y4 y5 y6 y7 y8
   unfold impl_IsOrder.l1
   repeat' first | with_reducible first | exact ih0 _ _ _ _ _ | exact ih1 _ _ _ _ _ _ _ _ _ | exact impl_IsRelation.mono _ _ _ | exact LeO.refl _ | exact LeO.none _ | refine LeO.ite ?_ ?_ | refine LeO.bind ?_ (fun _ => ?_)
theorem impl_IsOrder.mono : ∀ a0 a1 k, LeO (impl_IsOrder.f k a0 a1) (impl_IsOrder.f (k + 1) a0 a1) := by
 intro a0 a1 k
 obtain ⟨ih0, ih1⟩ := impl_IsOrder.mono_l k
 unfold impl_IsOrder.f
 repeat' first | with_reducible first | exact ih0 _ _ _ _ _ | exact ih1 _ _ _ _ _ _ _ _ _ | exact impl_IsRelation.mono _ _ _ | exact LeO.refl _ | exact LeO.none _ | refine LeO.ite ?_ ?_ | refine LeO.bind ?_ (fun _ => ?_)
set_option maxHeartbeats 8000000 in
set_option maxRecDepth 100000 in
theorem impl_IsOrder.calls (k : Nat) (a0_0 : Int) (A0_1 : Option Addr) (c0_1 : Nat) (l0_1 : List Int) (r : Bool) (w : World) (hV : TabZ w) (hr0_1 : Kd.C (Kd.int .i64) w A0_1 l0_1.length l0_1) (hc0_1 : l0_1.length ≤ c0_1) (h : impl_IsOrder.f k a0_0 l0_1 = some r) :
  Calls Tryd.prog 68 #[.agg #[.int .i64 a0_0, .slice A0_1 l0_1.length c0_1]] w fun e w' => e = .returned (.bool r) ∧ Below w.heap.size w w' := by
 have hu31 := Tryd.underlying31
 have HR0_1 := aM hr0_1
 have HC0_1 := aM hc0_1
 clear hr0_1 hc0_1
 have HB := aM (Below.refl w.heap.size w)
 have HVV := aM hV
 clear hV
 have H : ((impl_IsRelation.f k a0_0 l0_1).bind fun t350 => (if t350 = true then (impl_IsOrder.l0 k l0_1 (l0_1.length : Int) 0 a0_0 l0_1) else (some false))) = some r := h
 clear h
 replace H := Option.bind_eq_some_iff.mp H
 obtain ⟨t350, A20, H⟩ := H
 replace H : (if t350 = true then (impl_IsOrder.l0 k l0_1 (l0_1.length : Int) 0 a0_0 l0_1) else (some false)) = some r := H
 have A2 := aM A20
 clear A20
 by_cases c3 : t350 = true
 ·subst c3
  have H1 : (impl_IsOrder.l0 k l0_1 (l0_1.length : Int) 0 a0_0 l0_1) = some r := by rw [if_pos rfl] at H; exact H
  clear H
  have H := H1
  clear H1
  have H' := aM H
  clear H
  go_enter Tryd.func68, Tryd.ntmps68
  go_wp2_with (first | ((with_reducible refine gate_dst (N := 1) rfl ?_); refine bE 1 31 #[.int .i64 a0_0, .slice A0_1 l0_1.length c0_1] ?_; intro gb349 hg w4 hbox hb; have _ := aM (below_step bq hb); have _ := aM (hbox); have _ := aM ((gS hg)); have _ := aM ((gS hg)); clear HB; rename_i HB BK349 GW349 GE349; clear hb hbox hg; have hcz5_0 : w4.cell? ⟨gb349, 0, none⟩ = some (.int .i64 a0_0) := (blk_cell BK349.out 0).trans rfl; have hcz5_1 : w4.cell? ⟨gb349, 1, none⟩ = some (.slice A0_1 l0_1.length c0_1) := (blk_cell BK349.out 1).trans rfl; have hfz5_0 := blk_frozen BK349.out 0; have hfz5_1 := blk_frozen BK349.out 1) | ((with_reducible refine gate_callee (f := 60) rfl ?_); refine gL (some 8) Tryd.func60 #[.agg #[.int .i64 a0_0, .slice A0_1 l0_1.length c0_1]] ?_; (with_reducible refine (impl_IsRelation.calls k a0_0 _ _ l0_1 true _ (cQ (Kd.C_below HR0_1.out HB.out)) HC0_1.out A2.out).mono ?_); rintro e w6 ⟨rfl, hb⟩; refine ⟨_, rfl, ?_⟩; have _ := aM (blk_below (g := gb349) (o := .cells #[.int .i64 a0_0, .slice A0_1 l0_1.length c0_1] 31 (0, 0)) (qQ BK349) hb); have _ := aM (below_step bq hb); clear BK349 HB; rename_i BK349 HB; (try clear hb); (try clear hb2); (try clear hk); (try clear hi); have hcz7_0 : w6.cell? ⟨gb349, 0, none⟩ = some (.int .i64 a0_0) := (blk_cell BK349.out 0).trans rfl; have hcz7_1 : w6.cell? ⟨gb349, 1, none⟩ = some (.slice A0_1 l0_1.length c0_1) := (blk_cell BK349.out 1).trans rfl; have hfz7_0 := blk_frozen BK349.out 0; have hfz7_1 := blk_frozen BK349.out 1))
  go_loopg [13] k (fun kq v13 w' => ∃ (x13_1 : Int), v13 = .int .i64 x13_1 ∧ Aside0 (impl_IsOrder.l0 kq l0_1 (l0_1.length : Int) x13_1 a0_0 l0_1 = some r) ∧ Aside0 (kq ≤ k) ∧ Aside0 (w'.heap[gb349]? = some (.cells #[.int .i64 a0_0, (.slice A0_1 l0_1.length c0_1)] 31 (0, 0))) ∧ Aside0 (Below w.heap.size w w'))
  case atStart => exact ⟨(0), (by first | rfl | (simp; done) | (simp [*]; done)), H', ⟨Nat.le_refl _⟩, ⟨by (with_reducible repeat first|apply qN|apply qD|apply qA); exact BK349.out⟩, ⟨by exact bq⟩⟩
  case round =>
   clear H'
   try clear p2
   try clear c3
   try clear c6
   try clear hcz5_0
   try clear hcz5_1
   try clear hcz7_0
   try clear hcz7_1
   try clear hfz5_0
   try clear hfz5_1
   try clear hfz7_0
   try clear hfz7_1
   obtain ⟨x13_1, rfl, HA, HK1, BK349, HB⟩ := hrel
   cases gk with
   | zero => exact absurd HA.out (by simp [impl_IsOrder.l0])
   | succ k1 =>
    have H := HA.out
    clear HA
    simp only [impl_IsOrder.l0] at H
    by_cases c8 : x13_1 < (l0_1.length : Int)
    ·rw [if_pos c8] at H
     have c8b0 : decide (x13_1 < (l0_1.length : Int)) = true := decide_eq_true c8
     clear c8
     by_cases c9 : 0 ≤ x13_1
     ·rw [if_pos c9] at H
      have c9b0 : decide (0 ≤ x13_1) = true := decide_eq_true c9
      clear c9
      by_cases c10 : x13_1 < (l0_1.length : Int)
      ·rw [if_pos c10] at H
       have c10b0 : decide (x13_1 < (l0_1.length : Int)) = true := decide_eq_true c10
       clear c10
       replace H := Option.bind_eq_some_iff.mp H
       obtain ⟨t352, A110, H⟩ := H
       replace H : (if t352 = true then (some false) else ((impl_members.f (rd l0_1 x13_1)).bind fun t353 => (impl_IsOrder.l1 k1 (rd l0_1 x13_1) l0_1 (l0_1.length : Int) x13_1 t353 (t353.length : Int) 0 a0_0 l0_1))) = some r := H
       have A11 := aM A110
       clear A110
       by_cases c12 : t352 = true
       ·subst c12
        have H1 : (some false) = some r := by rw [if_pos rfl] at H; exact H
        clear H
        have H := H1
        clear H1
        obtain rfl := Option.some.inj H
        have p351 : 0 ≤ (x13_1 : Int) := odt
        have q351 : x13_1 < (l0_1.length : Int) := odt
        obtain ⟨ad351, e351, hx351_0⟩ := Kd.at_int HR0_1.out x13_1 p351 q351
        cases e351
        replace hx351_0 := (HB.out.cell (World.block_lt_of_cell? w _ hx351_0)).trans hx351_0
        replace p351 := eq_true p351
        replace q351 := eq_true q351
        have hcz13_0 : wr.cell? ⟨gb349, 0, none⟩ = some (.int .i64 a0_0) := (blk_cell BK349.out 0).trans rfl
        have hcz13_1 : wr.cell? ⟨gb349, 1, none⟩ = some (.slice (some ad351) l0_1.length c0_1) := (blk_cell BK349.out 1).trans rfl
        have hfz13_0 := blk_frozen BK349.out 0
        have hfz13_1 := blk_frozen BK349.out 1
        go_wp2_with (first | ((with_reducible refine gate_callee (f := 87) rfl ?_); refine gL (some 21) Tryd.func87 #[.agg #[.int .i64 a0_0, .slice (some ad351) l0_1.length c0_1], .int .i64 x13_1, .int .i64 x13_1] ?_; (with_reducible refine (impl_Order_better.calls a0_0 _ _ l0_1 x13_1 x13_1 true _ (cQ (Kd.C_below HR0_1.out HB.out)) HC0_1.out A11.out).mono ?_); rintro e w14 ⟨rfl, hb⟩; refine ⟨_, rfl, ?_⟩; have _ := aM (blk_below (g := gb349) (o := .cells #[.int .i64 a0_0, .slice (some ad351) l0_1.length c0_1] 31 (0, 0)) (qQ BK349) hb); have _ := aM (below_step bq hb); clear BK349 HB; rename_i BK349 HB; (try clear hb); (try clear hb2); (try clear hk); (try clear hi)))
        go_ret
        exact ⟨by first | rfl | (simp [errW_none, errW_some] <;> rfl) | (simp [*, errW_none, errW_some] <;> rfl), by exact bq⟩
       ·replace c12 := Bool.eq_false_iff.mpr c12
        subst c12
        have H1 : ((impl_members.f (rd l0_1 x13_1)).bind fun t353 => (impl_IsOrder.l1 k1 (rd l0_1 x13_1) l0_1 (l0_1.length : Int) x13_1 t353 (t353.length : Int) 0 a0_0 l0_1)) = some r := by rw [if_neg (show ¬ (false = true) by decide)] at H; exact H
        clear H
        have H := H1
        clear H1
        replace H := Option.bind_eq_some_iff.mp H
        obtain ⟨t353, A150, H⟩ := H
        replace H : (impl_IsOrder.l1 k1 (rd l0_1 x13_1) l0_1 (l0_1.length : Int) x13_1 t353 (t353.length : Int) 0 a0_0 l0_1) = some r := H
        have A15 := aM A150
        clear A150
        have H' := aM H
        clear H
        have p351 : 0 ≤ (x13_1 : Int) := odt
        have q351 : x13_1 < (l0_1.length : Int) := odt
        obtain ⟨ad351, e351, hx351_0⟩ := Kd.at_int HR0_1.out x13_1 p351 q351
        cases e351
        replace hx351_0 := (HB.out.cell (World.block_lt_of_cell? w _ hx351_0)).trans hx351_0
        replace p351 := eq_true p351
        replace q351 := eq_true q351
        have hcz16_0 : wr.cell? ⟨gb349, 0, none⟩ = some (.int .i64 a0_0) := (blk_cell BK349.out 0).trans rfl
        have hcz16_1 : wr.cell? ⟨gb349, 1, none⟩ = some (.slice (some ad351) l0_1.length c0_1) := (blk_cell BK349.out 1).trans rfl
        have hfz16_0 := blk_frozen BK349.out 0
        have hfz16_1 := blk_frozen BK349.out 1
        go_wp2_with (first | ((with_reducible refine gate_callee (f := 87) rfl ?_); refine gL (some 21) Tryd.func87 #[.agg #[.int .i64 a0_0, .slice (some ad351) l0_1.length c0_1], .int .i64 x13_1, .int .i64 x13_1] ?_; (with_reducible refine (impl_Order_better.calls a0_0 _ _ l0_1 x13_1 x13_1 false _ (cQ (Kd.C_below HR0_1.out HB.out)) HC0_1.out A11.out).mono ?_); rintro e w17 ⟨rfl, hb⟩; refine ⟨_, rfl, ?_⟩; have _ := aM (blk_below (g := gb349) (o := .cells #[.int .i64 a0_0, .slice (some ad351) l0_1.length c0_1] 31 (0, 0)) (qQ BK349) hb); have _ := aM (below_step bq hb); clear BK349 HB; rename_i BK349 HB; (try clear hb); (try clear hb2); (try clear hk); (try clear hi)) | ((with_reducible refine gate_callee (f := 99) rfl ?_); refine gL (some 23) Tryd.func99 #[.int .i64 (rd l0_1 x13_1)] ?_; (with_reducible refine (impl_members.calls (rd l0_1 x13_1) t353 _ (HVV.out.below bq) A15.out).mono ?_); rintro e w18 ⟨v354, rfl, ho0, hb⟩; refine ⟨_, rfl, ?_⟩; have _ := aM (Kd.R_lower ho0 (below_size bq)); have _ := aM (blk_below (g := gb349) (o := .cells #[.int .i64 a0_0, .slice (some ad351) l0_1.length c0_1] 31 (0, 0)) (qQ BK349) hb); have _ := aM (below_step bq hb); clear BK349 HB; rename_i HO355 BK349 HB; (try clear hb); (try clear hb2); (try clear hk); (try clear hi); (try clear ho0); obtain ⟨Ao19, co19, eo19⟩ := Kd.R_slice HO355.out; subst eo19))
        go_loopg [25] k1 (fun kq v25 w' => ∃ (x25_2 : Int), v25 = .int .i64 x25_2 ∧ Aside0 (impl_IsOrder.l1 kq (rd l0_1 x13_1) l0_1 (l0_1.length : Int) x13_1 t353 (t353.length : Int) x25_2 a0_0 l0_1 = some r) ∧ Aside0 (kq ≤ k1) ∧ Aside0 (Kd.R (Kd.int .i64) 3 w' w.heap.size (fun _ => True) (.slice Ao19 t353.length co19) t353) ∧ Aside0 (w'.heap[gb349]? = some (.cells #[.int .i64 a0_0, (.slice (some ad351) l0_1.length c0_1)] 31 (0, 0))) ∧ Aside0 (Below w.heap.size w w'))
        case atStart => exact ⟨(0), (by first | rfl | (simp; done) | (simp [*]; done)), H', ⟨Nat.le_refl _⟩, ⟨by (with_reducible repeat first|apply rA|apply rN|apply rD); exact HO355.out⟩, ⟨by (with_reducible repeat first|apply qN|apply qD|apply qA); exact BK349.out⟩, ⟨by exact bq⟩⟩
        case round =>
         clear H'
         try clear c1
         try clear p2
         try clear c3
         try clear p3
         try clear q3
         try clear hx3
         try clear c6
         try clear c8
         try clear c8b0
         try clear c9
         try clear c9b0
         try clear c10
         try clear c10b0
         try clear c12
         try clear hcz13_0
         try clear hcz13_1
         try clear hcz16_0
         try clear hcz16_1
         try clear hcz5_0
         try clear hcz5_1
         try clear hcz7_0
         try clear hcz7_1
         try clear hfz13_0
         try clear hfz13_1
         try clear hfz16_0
         try clear hfz16_1
         try clear hfz5_0
         try clear hfz5_1
         try clear hfz7_0
         try clear hfz7_1
         try clear hx351_0
         try clear p2
         try clear p351
         try clear q351
         obtain ⟨x25_2, rfl, HA, HK2, HO_23, BK349, HB⟩ := hrel
         cases gk with
         | zero => exact absurd HA.out (by simp [impl_IsOrder.l1])
         | succ k2 =>
          have H := HA.out
          clear HA
          simp only [impl_IsOrder.l1] at H
          by_cases c20 : x25_2 < (t353.length : Int)
          ·rw [if_pos c20] at H
           have c20b0 : decide (x25_2 < (t353.length : Int)) = true := decide_eq_true c20
           clear c20
           by_cases c21 : 0 ≤ x25_2
           ·rw [if_pos c21] at H
            have c21b0 : decide (0 ≤ x25_2) = true := decide_eq_true c21
            clear c21
            by_cases c22 : x25_2 < (t353.length : Int)
            ·rw [if_pos c22] at H
             have c22b0 : decide (x25_2 < (t353.length : Int)) = true := decide_eq_true c22
             clear c22
             by_cases c23 : 0 ≤ (rd t353 x25_2)
             ·rw [if_pos c23] at H
              have c23b0 : decide (0 ≤ (rd t353 x25_2)) = true := decide_eq_true c23
              clear c23
              by_cases c24 : (rd t353 x25_2) < (l0_1.length : Int)
              ·rw [if_pos c24] at H
               have c24b0 : decide ((rd t353 x25_2) < (l0_1.length : Int)) = true := decide_eq_true c24
               clear c24
               by_cases c25 : (Go.bits .andNot .i64 (rd l0_1 (rd t353 x25_2)) (rd l0_1 x13_1)) = 0
               ·rw [if_pos c25] at H
                have c25b0 : ((Go.bits .andNot .i64 (rd l0_1 (rd t353 x25_2)) (rd l0_1 x13_1)) == 0) = true := beq_iff_eq.mpr c25
                have c25b1 : ((Go.bits .andNot .i64 (rd l0_1 (rd t353 x25_2)) (rd l0_1 x13_1)) != 0) = false := bne_eq_false_iff_eq.mpr c25
                clear c25
                have H' := aM H
                clear H
                have p356 : 0 ≤ (x25_2 : Int) := odt
                have q356 : x25_2 < (t353.length : Int) := odt
                obtain ⟨ad356, e356, hx356_0⟩ := Kd.at_int (Kd.R_reads' HO_23.out).2.2 x25_2 p356 q356
                cases e356
                replace p356 := eq_true p356
                replace q356 := eq_true q356
                have hcz26_0 : wr.cell? ⟨gb349, 0, none⟩ = some (.int .i64 a0_0) := (blk_cell BK349.out 0).trans rfl
                have hcz26_1 : wr.cell? ⟨gb349, 1, none⟩ = some (.slice (some ad351) l0_1.length c0_1) := (blk_cell BK349.out 1).trans rfl
                have hfz26_0 := blk_frozen BK349.out 0
                have hfz26_1 := blk_frozen BK349.out 1
                have p357 : 0 ≤ ((rd t353 x25_2) : Int) := odt
                have q357 : (rd t353 x25_2) < (l0_1.length : Int) := odt
                obtain ⟨ad357, e357, hx357_0⟩ := Kd.at_int HR0_1.out (rd t353 x25_2) p357 q357
                obtain rfl : ad351 = ad357 := (by injection e357)
                replace hx357_0 := (HB.out.cell (World.block_lt_of_cell? w _ hx357_0)).trans hx357_0
                replace p357 := eq_true p357
                replace q357 := eq_true q357
                go_wp2
                go_roundg k2
                case measure => have := HK1.out; have := HK2.out; omega
                case rel => exact ⟨(wrap64 (x25_2 + 1)), (by first | rfl | (simp; done) | (simp [*]; done)), H', ⟨by have := HK1.out; have := HK2.out; omega⟩, ⟨by (with_reducible repeat first|apply rA|apply rN|apply rD); exact HO_23.out⟩, ⟨by (with_reducible repeat first|apply qN|apply qD|apply qA); exact BK349.out⟩, ⟨by exact bq⟩⟩
               ·rw [if_neg c25] at H
                have c25b0 : ((Go.bits .andNot .i64 (rd l0_1 (rd t353 x25_2)) (rd l0_1 x13_1)) == 0) = false := beq_eq_false_iff_ne.mpr c25
                have c25b1 : ((Go.bits .andNot .i64 (rd l0_1 (rd t353 x25_2)) (rd l0_1 x13_1)) != 0) = true := bne_iff_ne.mpr c25
                obtain rfl := Option.some.inj H
                have p356 : 0 ≤ (x25_2 : Int) := odt
                have q356 : x25_2 < (t353.length : Int) := odt
                obtain ⟨ad356, e356, hx356_0⟩ := Kd.at_int (Kd.R_reads' HO_23.out).2.2 x25_2 p356 q356
                cases e356
                replace p356 := eq_true p356
                replace q356 := eq_true q356
                have hcz27_0 : wr.cell? ⟨gb349, 0, none⟩ = some (.int .i64 a0_0) := (blk_cell BK349.out 0).trans rfl
                have hcz27_1 : wr.cell? ⟨gb349, 1, none⟩ = some (.slice (some ad351) l0_1.length c0_1) := (blk_cell BK349.out 1).trans rfl
                have hfz27_0 := blk_frozen BK349.out 0
                have hfz27_1 := blk_frozen BK349.out 1
                have p357 : 0 ≤ ((rd t353 x25_2) : Int) := odt
                have q357 : (rd t353 x25_2) < (l0_1.length : Int) := odt
                obtain ⟨ad357, e357, hx357_0⟩ := Kd.at_int HR0_1.out (rd t353 x25_2) p357 q357
                obtain rfl : ad351 = ad357 := (by injection e357)
                replace hx357_0 := (HB.out.cell (World.block_lt_of_cell? w _ hx357_0)).trans hx357_0
                replace p357 := eq_true p357
                replace q357 := eq_true q357
                go_wp2
                go_ret
                exact ⟨by first | rfl | (simp [errW_none, errW_some] <;> rfl) | (simp [*, errW_none, errW_some] <;> rfl), by exact bq⟩
              ·rw [if_neg c24] at H
               exact absurd H (by simp)
             ·rw [if_neg c23] at H
              exact absurd H (by simp)
            ·rw [if_neg c22] at H
             exact absurd H (by simp)
           ·rw [if_neg c21] at H
            exact absurd H (by simp)
          ·rw [if_neg c20] at H
           have c20b0 : decide (x25_2 < (t353.length : Int)) = false := decide_eq_false c20
           clear c20
           have H' := aM H
           clear H
           go_wp2
           go_roundg k2
           case measure => have := HK1.out; have := HK2.out; omega
           case rel => exact ⟨(wrap64 (x13_1 + 1)), (by first | rfl | (simp; done) | (simp [*]; done)), H', ⟨by have := HK1.out; have := HK2.out; omega⟩, ⟨by (with_reducible repeat first|apply qN|apply qD|apply qA); exact BK349.out⟩, ⟨by exact bq⟩⟩
      ·rw [if_neg c10] at H
       exact absurd H (by simp)
     ·rw [if_neg c9] at H
      exact absurd H (by simp)
    ·rw [if_neg c8] at H
     have c8b0 : decide (x13_1 < (l0_1.length : Int)) = false := decide_eq_false c8
     clear c8
     obtain rfl := Option.some.inj H
     go_wp2
     go_ret
     exact ⟨by first | rfl | (simp [errW_none, errW_some] <;> rfl) | (simp [*, errW_none, errW_some] <;> rfl), by exact bq⟩
 ·replace c3 := Bool.eq_false_iff.mpr c3
  subst c3
  have H1 : (some false) = some r := by rw [if_neg (show ¬ (false = true) by decide)] at H; exact H
  clear H
  have H := H1
  clear H1
  obtain rfl := Option.some.inj H
  go_enter Tryd.func68, Tryd.ntmps68
  go_wp2_with (first | ((with_reducible refine gate_dst (N := 1) rfl ?_); refine bE 1 31 #[.int .i64 a0_0, .slice A0_1 l0_1.length c0_1] ?_; intro gb349 hg w28 hbox hb; have _ := aM (below_step bq hb); have _ := aM (hbox); have _ := aM ((gS hg)); have _ := aM ((gS hg)); clear HB; rename_i HB BK349 GW349 GE349; clear hb hbox hg; have hcz29_0 : w28.cell? ⟨gb349, 0, none⟩ = some (.int .i64 a0_0) := (blk_cell BK349.out 0).trans rfl; have hcz29_1 : w28.cell? ⟨gb349, 1, none⟩ = some (.slice A0_1 l0_1.length c0_1) := (blk_cell BK349.out 1).trans rfl; have hfz29_0 := blk_frozen BK349.out 0; have hfz29_1 := blk_frozen BK349.out 1) | ((with_reducible refine gate_callee (f := 60) rfl ?_); refine gL (some 8) Tryd.func60 #[.agg #[.int .i64 a0_0, .slice A0_1 l0_1.length c0_1]] ?_; (with_reducible refine (impl_IsRelation.calls k a0_0 _ _ l0_1 false _ (cQ (Kd.C_below HR0_1.out HB.out)) HC0_1.out A2.out).mono ?_); rintro e w30 ⟨rfl, hb⟩; refine ⟨_, rfl, ?_⟩; have _ := aM (blk_below (g := gb349) (o := .cells #[.int .i64 a0_0, .slice A0_1 l0_1.length c0_1] 31 (0, 0)) (qQ BK349) hb); have _ := aM (below_step bq hb); clear BK349 HB; rename_i BK349 HB; (try clear hb); (try clear hb2); (try clear hk); (try clear hi)))
  go_ret
  exact ⟨by first | rfl | (simp [errW_none, errW_some] <;> rfl) | (simp [*, errW_none, errW_some] <;> rfl), by exact bq⟩

end Go.Proofs.YtcodionjhcmfhaaDoor.Ao
