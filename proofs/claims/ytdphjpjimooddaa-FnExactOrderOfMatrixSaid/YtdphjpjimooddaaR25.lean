-- Written by hook.py, a program of this session (wip/), which runs the kit's print.py with its own parts; Lean checks it.
import Derived.Test.YtdphjpjimooddaaR0
namespace Go.Proofs.Ytdphjpjimooddaa.R
open Go.RowKit Go.Proofs.YtdphjpjimooddaaW.PrintWords Go.Proofs.YtdphjpjimooddaaW.PrintLast Go.Proofs.YtdphjpjimooddaaW.PrintMore
attribute [local go_sem] max2_int min2_int max_two min_two max_three min_three max_four min_four   -- for this text's walks alone
set_option linter.unusedVariables false
set_option linter.unusedSimpArgs false

-- NOT PRINTED: function 98 (impl_relation)

/-! ### impl_orderOf: function 76 -/
def impl_orderOf.rel.relRow (p : Nat → Nat → Bool) (i : Nat) : Nat → Int
  | 0 => 0
  | j + 1 => if p i j = true then Go.bits .or .i64 (impl_orderOf.rel.relRow p i j) (shl .i64 1 (j : Int)) else impl_orderOf.rel.relRow p i j
def impl_orderOf.rel.relL (p : Nat → Nat → Bool) (n i j : Nat) : List Int := (List.range n).map fun (a : Nat) => if a < i then impl_orderOf.rel.relRow p a n else if a = i then impl_orderOf.rel.relRow p i j else 0
open impl_orderOf.rel Go.Proofs.Ytdphjpjimooddaa.Live in
theorem impl_orderOf.rel.relL_len (p : Nat → Nat → Bool) (n i j : Nat) : (relL p n i j).length = n := by simp [relL]
open impl_orderOf.rel Go.Proofs.Ytdphjpjimooddaa.Live in
theorem impl_orderOf.rel.relL_get (p : Nat → Nat → Bool) (n i j : Nat) (h : i < n) : (relL p n i j).getD i 0 = relRow p i j := by simp [relL, List.getD_eq_getElem?_getD, h]
open impl_orderOf.rel Go.Proofs.Ytdphjpjimooddaa.Live in
theorem impl_orderOf.rel.relL_set (p : Nat → Nat → Bool) (n i j : Nat) (x : Int) (h : i < n) (hx : relRow p i (j + 1) = x) : (relL p n i j).set i x = relL p n i (j + 1) := by
  subst hx
  apply List.ext_getElem (by simp [relL])
  intro a h1 h2
  rw [List.getElem_set]
  simp only [relL, List.getElem_map, List.getElem_range]
  by_cases c : i = a
  · subst c; simp
  · rw [if_neg c, if_neg (show ¬ a = i from fun h => c h.symm)]; simp [show ¬ a = i from fun h => c h.symm]
open impl_orderOf.rel Go.Proofs.Ytdphjpjimooddaa.Live in
theorem impl_orderOf.rel.relL_same (p : Nat → Nat → Bool) (n i j : Nat) (hx : p i j ≠ true) : relL p n i j = relL p n i (j + 1) := by
  simp only [relL, relRow, if_neg hx]
open impl_orderOf.rel Go.Proofs.Ytdphjpjimooddaa.Live in
theorem impl_orderOf.rel.relL_next (p : Nat → Nat → Bool) (n i : Nat) : relL p n i n = relL p n (i + 1) 0 := by
  simp only [relL]
  apply List.map_congr_left
  intro a _
  by_cases c : a < i
  · rw [if_pos c, if_pos (by omega)]
  · by_cases c2 : a = i
    · subst c2; simp
    · rw [if_neg c, if_neg c2, if_neg (by omega)]; simp [relRow]
open impl_orderOf.rel Go.Proofs.Ytdphjpjimooddaa.Live in
theorem impl_orderOf.rel.relL_start (p : Nat → Nat → Bool) (n : Nat) : relL p n 0 0 = List.replicate n 0 := by
  apply List.ext_getElem (by simp [relL]); intro a h2 h3; simp [relL, relRow]
open impl_orderOf.rel Go.Proofs.Ytdphjpjimooddaa.Live in
theorem impl_orderOf.rel.relL_end (p : Nat → Nat → Bool) (n : Nat) : relL p n n 0 = (List.range n).map fun a => relRow p a n := by
  simp only [relL]
  apply List.map_congr_left
  intro a ha
  rw [if_pos (List.mem_range.1 ha)]
theorem impl_orderOf.rel.shl_one (j : Nat) (h : j ≤ 60) : shl .i64 1 (j : Int) = wrap64 (2 ^ j) := by
  unfold shl
  rw [Int.toNat_natCast, show IntKind.i64.bits = 64 from rfl, Nat.min_eq_left (by omega), Int.one_mul]; exact Go.Proofs.YtdphjpjimooddaaW.PrintLast.i64_w _
set_option maxHeartbeats 8000000 in
set_option maxRecDepth 100000 in
open impl_orderOf.rel Go.Proofs.Ytdphjpjimooddaa.Live in
theorem impl_orderOf.rel.gen (n : Nat) (g : Nat) (p : Nat → Nat → Bool) (w : World) (hn : n ≤ 60)
    (hcall : ∀ (w1 : World) (i j : Nat), i < n → j < n → Below w.heap.size w w1 → Calls Try.prog 99 #[.int .i64 (i : Int), .int .i64 (j : Int), .pointer (some ⟨g, 0, none⟩)] w1 fun e w2 => e = .returned (.bool (p i j)) ∧ Drawn0 w1 w2) :
    Calls Try.prog 98 #[.int .i64 (n : Int), .func (.func 99) #[] #[.pointer (some ⟨g, 0, none⟩)]] w fun e w' => ∃ v1_ : Value, e = .returned (.agg #[.int .i64 (n : Int), v1_]) ∧ Kd.R (Kd.int .i64) 3 w' w.heap.size (fun _ => True) v1_ ((List.range n).map fun a => relRow p a n) ∧ Below w.heap.size w w' := by
  have HF := Aside0.mk hcall; clear hcall
  have H := Live.start w
  have h1 : ((n : Int) : Int).toNat = n := Int.toNat_natCast _
  go_enter Try.func98, Try.ntmps98
  go_wp2_with (first | ((with_reducible refine gate_dst (N := 10) rfl ?_); refine Kd.R_make (Kd.int .i64) _ 3 rfl (N := 10) rfl 33 _ _ rfl (n : Int) rfl rfl Try.underlying33 (.int .i64 0) 8 info3 rfl (by decide) (by omega) 0 (ok := fun _ => True) (okp := fun _ => True) rfl (fun _ hk => hk) trivial (by omega) (by omega) (Below.refl _ _) (Nat.le_refl _) ?_; intro v_ w1 hs_ hb hg_ hnew_; clear hg_ hnew_; replace H := (H.new #[.int .i64 0, .slice none 0 0] 44).add (o := row _ _ _ _) hb hs_; clear hs_ hb; obtain ⟨Ao, co, rfl, _, _⟩ := H.form 1 rfl))
  replace H := H.new #[.int .i64 (n : Int), .slice Ao (List.replicate ((n : Int) : Int).toNat (0 : Int)).length co] 44
  simp only [h1, List.length_replicate, List.nil_append, List.cons_append] at H
  rw [← relL_start p n] at H
  go_loopg [13] (n + 1) (fun kq v13 w' => ∃ i : Nat, v13 = .int .i64 (i : Int) ∧ Aside0 (i ≤ n ∧ kq = n - i + 1) ∧ Aside0 (Live w w' [var w.heap.size #[.int .i64 0, .slice none 0 0] 44, row (Kd.int .i64) 3 (.slice Ao n co) (relL p n i 0), var w1.heap.size #[.int .i64 (n : Int), .slice Ao n co] 44]))
  case atStart => exact ⟨0, rfl, ⟨Nat.zero_le _, rfl⟩, ⟨H⟩⟩
  case round =>
    clear H
    obtain ⟨i, rfl, HI, H⟩ := hrel
    rename World => wq
    by_cases ci : i < n
    · have c1 : decide ((i : Int) < (n : Int)) = true := decide_eq_true (by omega)
      have c2 : decide (i < n) = true := decide_eq_true ci
      have HI1 : Aside0 (i + 1 ≤ n ∧ n - i = n - (i + 1) + 1) := ⟨by omega⟩
      have HIM : Aside0 (n - i < n - i + 1) := ⟨by omega⟩
      have HIW : Aside0 (Value.int .i64 (wrap64 ((i : Int) + 1)) = .int .i64 ((i + 1 : Nat) : Int)) := ⟨by rw [show wrap64 ((i : Int) + 1) = ((i + 1 : Nat) : Int) from by unfold wrap64; omega]⟩
      go_wp2_with (fail)
      go_loopg [17] (n + 1) (fun kq v17 w' => ∃ j : Nat, v17 = .int .i64 (j : Int) ∧ Aside0 (j ≤ n ∧ kq = n - j + 1) ∧ Aside0 (Live w w' [var w.heap.size #[.int .i64 0, .slice none 0 0] 44, row (Kd.int .i64) 3 (.slice Ao n co) (relL p n i j), var w1.heap.size #[.int .i64 (n : Int), .slice Ao n co] 44]))
      case atStart => exact ⟨0, rfl, ⟨Nat.zero_le _, rfl⟩, H⟩
      case round =>
        clear H
        obtain ⟨j, rfl, HJ, H⟩ := hrel
        by_cases cj : j < n
        · have d1 : decide ((j : Int) < (n : Int)) = true := decide_eq_true (by omega)
          have d2 : decide (j < n) = true := decide_eq_true cj
          have HJ1 : Aside0 (j + 1 ≤ n ∧ n - j = n - (j + 1) + 1) := ⟨by omega⟩
          have HJM : Aside0 (n - j < n - j + 1) := ⟨by omega⟩
          have HJW : Aside0 (Value.int .i64 (wrap64 ((j : Int) + 1)) = .int .i64 ((j + 1 : Nat) : Int)) := ⟨by rw [show wrap64 ((j : Int) + 1) = ((j + 1 : Nat) : Int) from by unfold wrap64; omega]⟩
          have HC := Aside0.mk (HF.out wr i j ci cj H.out.below)
          go_wp2_with (fail)
          refine HC.out.mono ?_
          rintro e w' ⟨rfl, nd, rfl⟩
          replace H := Aside0.mk (H.out.drewN nd)
          generalize wr.drewN nd = wd at H ⊢
          obtain ⟨go1, c', e1, _, _⟩ := H.out.form1 1 rfl (by rw [relL_len]; omega)
          injection e1 with ea en ec
          subst ea; subst ec; clear en
          cases hq : p i j with
          | true =>
            have hbo : wd.cell? ⟨w1.heap.size, 1, none⟩ = some (.slice (some ⟨go1, 0, none⟩) n co) := H.out.cell 2 rfl 1
            obtain ⟨hxc, hfc⟩ := H.out.cellI 1 rfl i (by rw [relL_len]; omega)
            rw [relL_get _ _ _ _ ci] at hxc
            have HN := Aside0.mk (H.out.putI 1 rfl i (Go.bits .or .i64 (relRow p i j) (wrap64 (2 ^ j))))
            rw [relL_set p n i j _ ci (by rw [relRow, if_pos hq, shl_one j (by omega)])] at HN
            go_wp2_with (fail)
            go_region
            go_wp2
            all_goals go_roundg (n - j)
            case measure => have := HJ.out; omega
            case rel => exact ⟨j + 1, rfl, HJ1, ⟨HN.out.drew⟩⟩
          | false =>
            rw [relL_same p n i j (by rw [hq]; simp)] at H
            go_wp2
            go_roundg (n - j)
            case measure => have := HJ.out; omega
            case rel => exact ⟨j + 1, rfl, HJ1, H⟩
        · have d1 : decide ((j : Int) < (n : Int)) = false := decide_eq_false (by omega)
          have d2 : decide (j < n) = false := decide_eq_false cj
          obtain rfl : j = n := by have := HJ.out; omega
          rw [relL_next] at H
          go_wp2
          go_roundg (j - i)
          case measure => have := HI.out; omega
          case rel => exact ⟨i + 1, rfl, HI1, H⟩
    · have c1 : decide ((i : Int) < (n : Int)) = false := decide_eq_false (by omega)
      have c2 : decide (i < n) = false := decide_eq_false ci
      obtain rfl : i = n := by have := HI.out; omega
      rw [relL_end] at H
      have k1 : wq.heap[w1.heap.size]? = some (.cells #[.int .i64 (i : Int), .slice Ao i co] 44 (0, 0)) := H.out.blk 2 rfl
      have k2 : wq.cell? ⟨w1.heap.size, 0, none⟩ = some (.int .i64 (i : Int)) := H.out.cell 2 rfl 0
      have k3 : wq.cell? ⟨w1.heap.size, 1, none⟩ = some (.slice Ao i co) := H.out.cell 2 rfl 1
      have k4 : wq.cell? ⟨w.heap.size, 0, none⟩ = some (.int .i64 0) := H.out.cell 0 rfl 0
      have k5 : wq.cell? ⟨w.heap.size, 1, none⟩ = some (.slice none 0 0) := H.out.cell 0 rfl 1
      have k6 : ∀ j, wq.frozen? ⟨w.heap.size, j, none⟩ = false := H.out.frozen 0 rfl
      have HZ := Aside0.mk ((H.out.setVar 0 rfl 0 (.int .i64 (i : Int))).setVar 0 rfl 1 (.slice Ao i co))
      go_wp2
      refine bodyPost_ret (results_cell_row rfl _ _ w.heap.size 44 #[.int .i64 (i : Int), .slice Ao i co] (0, 0) _ rfl (HZ.out.blk 0 rfl) Try.underlying44 rfl (by kernel_rfl)) rfl ?_
      exact ⟨_, rfl, HZ.out.get 1 rfl, HZ.out.below⟩

def impl_orderOf.before (xs : List S73) (i j : Nat) : Bool := decide ((rd_T73 xs (i : Int)).f1 < (rd_T73 xs (j : Int)).f0)
def impl_orderOf.f (l0 : List S73) : Option (Int × List Int) := if l0.length ≤ 60 then some ((l0.length : Int), (List.range l0.length).map fun a => impl_orderOf.rel.relRow (impl_orderOf.before l0) a l0.length) else none
set_option maxHeartbeats 4000000 in
set_option maxRecDepth 100000 in
theorem impl_orderOf.ask (A : Option Addr) (c : Nat) (xs : List S73) (g : Nat) (i j : Nat) (w : World) (hg : w.cell? ⟨g, 0, none⟩ = some (.slice A xs.length c)) (hr : Kd.C k73 w A xs.length xs) (hi : i < xs.length) (hj : j < xs.length) :
    Calls Try.prog 99 #[.int .i64 (i : Int), .int .i64 (j : Int), .pointer (some ⟨g, 0, none⟩)] w fun e w' => e = .returned (.bool (impl_orderOf.before xs i j)) ∧ Drawn0 w w' := by
  obtain ⟨ad, rfl, hx0, hx1⟩ := at_T73 hr (i : Int) (by omega) (by omega)
  obtain ⟨ad2, e2, hy0, hy1⟩ := at_T73 hr (j : Int) (by omega) (by omega)
  obtain rfl : ad = ad2 := by injection e2
  clear e2 hr
  have h1 : decide ((i : Int) < (xs.length : Int)) = true := decide_eq_true (by omega)
  have h2 : decide ((j : Int) < (xs.length : Int)) = true := decide_eq_true (by omega)
  simp only [Int.toNat_natCast] at hx0 hx1 hy0 hy1
  go_enter Try.func99, Try.ntmps99
  go_wp2
  go_quiet (fail)
  go_wp2
  go_ret
  exact ⟨rfl, ⟨nq, rfl⟩⟩
set_option maxHeartbeats 4000000 in
set_option maxRecDepth 100000 in
open Go.Proofs.Ytdphjpjimooddaa.Live in
theorem impl_orderOf.calls (A0 : Option Addr) (c0 : Nat) (l0 : List S73) (r1 : Int) (r2 : List Int) (w : World) (hr0 : Kd.C k73 w A0 l0.length l0) (hc0 : l0.length ≤ c0) (h : impl_orderOf.f l0 = some (r1, r2)) :
    Calls Try.prog 76 #[.slice A0 l0.length c0] w fun e w' => ∃ v1_ : Value, e = .returned (.agg #[.int .i64 r1, v1_]) ∧ Kd.R (Kd.int .i64) 3 w' w.heap.size (fun _ => True) v1_ r2 ∧ Below w.heap.size w w' := by
  unfold impl_orderOf.f at h
  by_cases hn : l0.length ≤ 60
  · rw [if_pos hn] at h
    obtain ⟨rfl, rfl⟩ := Prod.mk.inj (Option.some.inj h)
    clear h
    have H := ((Live.start w).new #[.slice A0 l0.length c0] 71).new #[.int .i64 0, .slice none 0 0] 44
    rw [size_alloc] at H
    have HH := Aside0.mk H; clear H
    have HC := Aside0.mk hr0; clear hr0
    go_enter Try.func76, Try.ntmps76
    go_wp2_with (fail)
    refine (impl_orderOf.rel.gen l0.length w.heap.size (impl_orderOf.before l0) _ hn ?_).mono ?_
    · intro w1 i j hi hj hb
      have H1 := HH.out.step hb
      exact impl_orderOf.ask A0 c0 l0 w.heap.size i j w1 (H1.cell 0 rfl 0) (Kd.C_below HC.out H1.below) hi hj
    rintro e w1 ⟨v_, rfl, hs_, hb⟩
    have H := HH.out.add (o := row _ _ _ _) hb hs_
    clear hb hs_ HH
    obtain ⟨A, c, rfl, _, _⟩ := H.form 2 rfl
    generalize hL : (List.range l0.length).map (fun a => impl_orderOf.rel.relRow (impl_orderOf.before l0) a l0.length) = L at H ⊢
    have HL := Aside0.mk hL; clear hL
    have k4 : w1.cell? ⟨w.heap.size + 1, 0, none⟩ = some (.int .i64 0) := H.cell 1 rfl 0
    have k5 : w1.cell? ⟨w.heap.size + 1, 1, none⟩ = some (.slice none 0 0) := H.cell 1 rfl 1
    have k6 : ∀ j, w1.frozen? ⟨w.heap.size + 1, j, none⟩ = false := H.frozen 1 rfl
    have HZ := Aside0.mk ((H.setVar 1 rfl 0 (.int .i64 (l0.length : Int))).setVar 1 rfl 1 (.slice A L.length c))
    clear H
    go_wp2
    refine bodyPost_ret (results_cell_row rfl _ _ (w.heap.size + 1) 44 #[.int .i64 (l0.length : Int), .slice A L.length c] (0, 0) _ rfl (HZ.out.blk 1 rfl) Try.underlying44 rfl (by kernel_rfl)) rfl ?_
    exact ⟨_, rfl, by rw [HL.out]; exact HZ.out.get 2 rfl, HZ.out.below⟩
  · rw [if_neg hn] at h; exact absurd h (by simp)

end Go.Proofs.Ytdphjpjimooddaa.R
