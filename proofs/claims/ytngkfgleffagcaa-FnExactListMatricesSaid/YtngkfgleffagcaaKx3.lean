-- Written by hook.py, a program of this session (wip/), which runs the kit's print.py with its own parts; Lean checks it.
import Derived.Test.YtngkfgleffagcaaKx0
import Derived.Test.YtngkfgleffagcaaKx1
import Derived.Test.YtngkfgleffagcaaKx2
namespace Go.Proofs.Ytngkfgleffagcaa.Kx
open Go.RowKit Go.Proofs.YtngkfgleffagcaaW.PrintWords Go.Proofs.YtngkfgleffagcaaW.PrintLast Go.Proofs.YtngkfgleffagcaaW.PrintMore
attribute [local go_sem] max2_int min2_int max_two min_two max_three min_three max_four min_four   -- for this text's walks alone
set_option linter.unusedVariables false
set_option linter.unusedSimpArgs false

/-! ### spec_ListAscents: function 53 -/
def spec_ListAscents.l0 : Nat → List (List Int) → List Int → Bool → Option (List (List Int) × Bool)
  | 0, _, _, _ => none
  | k + 1, out, x, ok => if ok = true then (if out.length < 1000000 then (spec_asNext.f k x).bind fun t => spec_ListAscents.l0 k (out ++ [x]) t.1 t.2 else none) else some (out, true)
def spec_ListAscents.f (k : Nat) (a0 : Int) : Option (List (List Int) × Bool) := if 0 ≤ a0 ∧ a0 ≤ 7 then (spec_asNext.f k (List.replicate a0.toNat 0)).bind fun t => spec_ListAscents.l0 k [List.replicate a0.toNat 0] t.1 t.2 else some ([], false)
theorem spec_ListAscents.mono_l : ∀ k x y z, LeO (spec_ListAscents.l0 k x y z) (spec_ListAscents.l0 (k + 1) x y z)
  | 0 => fun _ _ _ r h => by simp [spec_ListAscents.l0] at h
  | k + 1 => by
    have ih0 := spec_ListAscents.mono_l k
    intro x y z
    unfold spec_ListAscents.l0
    repeat' first | with_reducible first | exact ih0 _ _ _ | exact spec_asNext.mono _ _ | exact LeO.refl _ | exact LeO.none _ | refine LeO.ite ?_ ?_ | refine LeO.bind ?_ (fun _ => ?_)
theorem spec_ListAscents.mono : ∀ a0 k, LeO (spec_ListAscents.f k a0) (spec_ListAscents.f (k + 1) a0) := by
  intro a0 k
  have ih0 := spec_ListAscents.mono_l k
  unfold spec_ListAscents.f
  repeat' first | with_reducible first | exact ih0 _ _ _ | exact spec_asNext.mono _ _ | exact LeO.refl _ | exact LeO.none _ | refine LeO.ite ?_ ?_ | refine LeO.bind ?_ (fun _ => ?_)
set_option maxHeartbeats 8000000 in
set_option maxRecDepth 100000 in
open Go.Proofs.Ytngkfgleffagcaa.Live in
theorem spec_ListAscents.calls (k : Nat) (a0 : Int) (r1 : List (List Int)) (r2 : Bool) (w : World) (h : spec_ListAscents.f k a0 = some (r1, r2)) :
    Calls Try.prog 53 #[.int .i64 a0] w fun e w' => ∃ v0_ : Value, e = .returned (.tuple #[v0_, .bool r2]) ∧ Kd.S (Kd.slice 3 (Kd.int .i64)) 22 w' w.heap.size (fun _ => True) v0_ r1 ∧ Below w.heap.size w w' := by
  by_cases hc : 0 ≤ a0 ∧ a0 ≤ 7
  · unfold spec_ListAscents.f at h
    rw [if_pos hc] at h
    obtain ⟨n, rfl⟩ : ∃ n : Nat, a0 = (n : Int) := ⟨a0.toNat, by omega⟩
    rw [Int.toNat_natCast] at h
    obtain ⟨⟨t1, t2⟩, h1, h2⟩ := Option.bind_eq_some_iff.mp h
    clear h
    have E1 := Aside0.mk h1; have E2 := Aside0.mk (show spec_ListAscents.l0 k [List.replicate n 0] t1 t2 = some (r1, r2) from h2)
    have e1 : spec_l1In.f (n : Int) 0 7 = some true := by unfold spec_l1In.f; simp; omega
    have EI := Aside0.mk e1
    have c3 : decide (0 ≤ (n : Int)) = true := decide_eq_true (by omega)
    have c4 : decide (n ≤ 35184372088832) = true := decide_eq_true (by omega)
    have HN := Aside0.mk (show n ≤ 7 by omega)
    obtain ⟨fst, hf⟩ : ∃ z : List Int, z = List.replicate n 0 := ⟨_, rfl⟩
    have HF := Aside0.mk hf
    rw [← hf] at E1 E2
    clear h1 h2 hc e1 hf
    go_enter Try.func53, Try.ntmps53
    go_wp2_with (fail)
    refine (spec_l1In.calls (n : Int) 0 7 true _ EI.out).mono ?_
    rintro e w1 ⟨rfl, ⟨q1, rfl⟩⟩
    have H1 := Aside0.mk ((Live.start w).drewN q1)
    go_wp2_with (first | ((with_reducible refine gate_dst (N := 12) rfl ?_); refine Kd.R_make (Kd.int .i64) _ 3 rfl (N := 12) rfl 22 _ _ rfl (n : Int) rfl rfl Try.underlying22 (.int .i64 0) 8 (by kernel_rfl) rfl (by decide) (by omega) 0 (ok := fun _ => True) (okp := fun _ => True) rfl (fun _ hk => hk) trivial (by omega) (by have := HN.out; omega) (Below.refl _ _) (Nat.le_refl _) ?_; intro v12 w2 ho2 hb hg_ hnew_; clear hg_ hnew_; rw [Int.toNat_natCast, ← HF.out] at ho2; have H2 := Aside0.mk (Live.add (o := row (Kd.int .i64) 3 v12 fst) H1.out hb ho2); clear hb ho2 H1; obtain ⟨A, c, rfl, _, hC⟩ := H2.out.form 0 rfl; have HC := Aside0.mk hC; clear hC; obtain ⟨ok_, ho_, hok_, _, hback_⟩ := H2.out.lend 0 rfl) | ((with_reducible refine gate_dst (N := 14) rfl ?_); refine Kd.R_lit (Kd.tag (fun _ => 0) (Kd.slice 3 (Kd.int .i64))) w.heap.size 22 ?hg (N := 14) ?hd (xs := [(fst, 0)]) (inner := [.slice A fst.length c]) (ok := fun k_ => ok_ k_ ∨ w2.heap.size ≤ k_) (okp := ok_) ?hr ?hp (fun _ hk => .inl hk) (.inr (Nat.le_refl _)) H2.out.below H2.out.below.size (by simp) ?_; (case hd => rfl); (case hg => rfl); (case hr => first | (go_simp; done) | (go_simp; rfl)); (case hp => exact (Reps.one (show Kd.M (Kd.tag (fun _ => 0) (Kd.slice 3 (Kd.int .i64))) _ _ _ (fst, 0) [.slice A fst.length c] from ⟨_, rfl, Kd.R_mono ho_ (fun _ hk => ⟨hk, rfl⟩)⟩) (Reps.none _ _))); intro v14 w3 ho3 hb hg_ hnew_; clear hnew_; have HC3 := Aside0.mk (Kd.C_below HC.out ⟨hg_.os, hg_.tape, hg_.output, hg_.size, fun k_ hk_ => hg_.block k_ hk_ (by simp)⟩); have H3 := Aside0.mk (hback_ w3 (rows (Kd.slice 3 (Kd.int .i64)) 22 v14 [fst]) hb (Kept.of_grown hg_ (Kept.refl _ _) (fun k_ hk_ => by simp at hk_)) ⟨fun _ => 0, ho3⟩); clear ho3 hb hg_ hback_ ho_ hok_ HC) | fail)
    refine (spec_asNext.calls k A c fst t1 t2 _ HC3.out (by assumption) E1.out).mono ?_
    rintro e w4 ⟨v15, rfl, hs_, hb_⟩
    have H4 := Aside0.mk (show Live w w4 [rows (Kd.slice 3 (Kd.int .i64)) 22 v14 [fst], row (Kd.int .i64) 3 v15 t1] from H3.out.add (o := row (Kd.int .i64) 3 v15 t1) hb_ hs_)
    clear hs_ hb_ H3 H2 HC3
    go_wp2_with (fail)
    go_loopg [5, 6, 7] k (fun kq v5 v6 v7 w' => ∃ (out : List (List Int)) (x : List Int) (ok : Bool), v7 = .bool ok ∧ Aside0 (spec_ListAscents.l0 kq out x ok = some (r1, r2) ∧ kq ≤ k) ∧ Aside0 (Live w w' [rows (Kd.slice 3 (Kd.int .i64)) 22 v5 out, row (Kd.int .i64) 3 v6 x]))
    case atStart => exact ⟨[fst], t1, t2, rfl, ⟨E2.out, Nat.le_refl _⟩, H4⟩
    case round =>
      clear H4 E2 E1
      obtain ⟨out, x, ok, rfl, HE, H⟩ := hrel
      rename World => wq
      cases gk with
      | zero => exact absurd HE.out.1 (by simp [spec_ListAscents.l0])
      | succ k1 =>
        have he := HE.out.1
        simp only [spec_ListAscents.l0] at he
        cases ok with
        | false =>
          rw [if_neg (by simp)] at he
          obtain ⟨rfl, rfl⟩ := Prod.mk.inj (Option.some.inj he)
          go_wp2_with (fail)
          go_ret2
          exact ⟨_, rfl, H.out.get 0 rfl, H.out.below⟩
        | true =>
          rw [if_pos rfl] at he
          by_cases hl : out.length < 1000000
          · rw [if_pos hl] at he
            obtain ⟨⟨y, oy⟩, h1, h2⟩ := Option.bind_eq_some_iff.mp he
            have E1 := Aside0.mk h1; have E2 := Aside0.mk (show spec_ListAscents.l0 k1 (out ++ [x]) y oy = some (r1, r2) from h2); have HL := Aside0.mk hl
            clear h1 h2 hl he
            obtain ⟨Ax, cx, rfl, hcx, _⟩ := H.out.form 1 rfl
            obtain ⟨ok_, okl_, ho_, hp_, hd_, hbd_, hback_⟩ := H.out.lend2 0 1 rfl rfl (by decide)
            go_wp2_with (first | ((with_reducible refine gate_builtin (b := .append) (xs := #[.tmp 21, .tmp 23]) rfl ?_); at_builtin; refine Kd.S_append (Kd.slice 3 (Kd.int .i64)) (w0 := w) w.heap.size rfl (.tmp 21) (.tmp 23) 29 22 (.slice none 0 0) 24 rfl Try.underlying29 (by kernel_rfl) rfl (by decide) (by omega) _ out x [.slice Ax x.length cx] (fun k_ => ok_ k_ ∨ okl_ k_ ∨ wq.heap.size ≤ k_) okl_ rfl rfl ⟨_, rfl, hp_⟩ (fun k_ hk_ => ⟨.inr (.inl hk_), fun he_ => hd_ k_ hk_ ((Kd.S_R ho_).1 k_ he_.symm)⟩) (fun k_ hk_ => .inr (.inr hk_)) (Kd.S_mono ho_ (fun k_ hk_ => ⟨.inl hk_, fun h2_ => hd_ k_ h2_ hk_⟩)) H.out.below H.out.below.size (by have := HL.out; omega) ?_; intro v6 w6 hs_ hb_ hg_ hat_; have HC6 := Aside0.mk (Kd.R_reads' (Kd.R_step hp_ (fun k_ hk_ hlt_ => hg_.block k_ hlt_ (fun e_ => hd_ k_ hk_ ((Kd.S_R ho_).1 k_ e_.symm))))).2.2; have H6 := Aside0.mk (hback_ w6 (rows (Kd.slice 3 (Kd.int .i64)) 22 v6 (out ++ [x])) hb_ (Kept.of_grown hg_ (Kept.refl wq _) (fun k_ hk_ => .inl (.inl ((Kd.S_R ho_).1 k_ hk_)))) hs_); clear hs_ hb_ hg_ hat_ hback_ hbd_ hd_ hp_ ho_) | fail)
            refine (spec_asNext.calls k1 Ax cx x y oy _ HC6.out hcx E1.out).mono ?_
            rintro e w7 ⟨v8, rfl, hs_, hb_⟩
            have H7 := Aside0.mk (show Live w w7 [rows (Kd.slice 3 (Kd.int .i64)) 22 v6 (out ++ [x]), row (Kd.int .i64) 3 v8 y] from (H6.out.add (o := row (Kd.int .i64) 3 v8 y) hb_ hs_).drop 1)
            clear hs_ hb_ H6 H HC6
            go_wp2_with (fail)
            go_roundg k1
            case measure => omega
            case rel => exact ⟨out ++ [x], y, oy, rfl, ⟨E2.out, by have := HE.out.2; omega⟩, H7⟩
          · rw [if_neg hl] at he; exact absurd he (by simp)
  · unfold spec_ListAscents.f at h
    rw [if_neg hc] at h
    obtain ⟨rfl, rfl⟩ := Prod.mk.inj (Option.some.inj h)
    clear h
    have EI := Aside0.mk (show spec_l1In.f a0 0 7 = some false by
      unfold spec_l1In.f
      by_cases c : a0 ≥ 0
      · rw [if_pos c]; simp; omega
      · rw [if_neg c])
    clear hc
    go_enter Try.func53, Try.ntmps53
    go_wp2_with (fail)
    refine (spec_l1In.calls a0 0 7 false _ EI.out).mono ?_
    rintro e w1 ⟨rfl, ⟨q1, rfl⟩⟩
    go_wp2_with (fail)
    go_ret2
    exact ⟨_, rfl, Kd.S_nil _ _ _ _ _, pw_below_drewN (Below.refl _ _) _⟩

/-! ### spec_maTop: function 92 -/
def spec_maTop.l0 : Nat → List (List Int) → Int → Int → Option (Int)
  | 0, _, _, _ => none
  | k + 1, x6, x7, x8 => if x8 < x7 then (if 0 ≤ x8 then (if x8 < (x6.length : Int) then (if 0 ≤ (wrap64 (((rd_L1 x6 x8).length : Int) - 1)) then (if (wrap64 (((rd_L1 x6 x8).length : Int) - 1)) < ((rd_L1 x6 x8).length : Int) then (if (rd (rd_L1 x6 x8) (wrap64 (((rd_L1 x6 x8).length : Int) - 1))) > 0 then (some x8) else (spec_maTop.l0 k x6 x7 (wrap64 (x8 + 1)))) else (none)) else (none)) else (none)) else (none)) else (some (-1))
def spec_maTop.f (k : Nat) (l0_0 : List (List Int)) : Option (Int) := spec_maTop.l0 k l0_0 (l0_0.length : Int) 0
theorem spec_maTop.mono_l : ∀ k, (∀ y0 y1 y2, LeO (spec_maTop.l0 k y0 y1 y2) (spec_maTop.l0 (k + 1) y0 y1 y2))
  | 0 => fun _ _ _ r h => by simp [spec_maTop.l0] at h
  | k + 1 => by
    have ih0 := spec_maTop.mono_l k
    · intro y0 y1 y2
      unfold spec_maTop.l0
      repeat' first | with_reducible first | exact ih0 _ _ _ | exact LeO.refl _ | exact LeO.none _ | refine LeO.ite ?_ ?_ | refine LeO.bind ?_ (fun _ => ?_)
theorem spec_maTop.mono : ∀ a0 k, LeO (spec_maTop.f k a0) (spec_maTop.f (k + 1) a0) := by
  intro a0 k
  have ih0 := spec_maTop.mono_l k
  unfold spec_maTop.f
  repeat' first | with_reducible first | exact ih0 _ _ _ | exact LeO.refl _ | exact LeO.none _ | refine LeO.ite ?_ ?_ | refine LeO.bind ?_ (fun _ => ?_)
set_option maxHeartbeats 8000000 in
set_option maxRecDepth 100000 in
theorem spec_maTop.calls (k : Nat) (A0_0 : Option Addr) (c0_0 : Nat) (l0_0 : List (List Int)) (r : Int) (w : World) (hr0_0 : Kd.C (Kd.slice 3 (Kd.int .i64)) w A0_0 l0_0.length l0_0) (hc0_0 : l0_0.length ≤ c0_0) (h : spec_maTop.f k l0_0 = some r) :
    Calls Try.prog 92 #[.agg #[.slice A0_0 l0_0.length c0_0]] w fun e w' => e = .returned (.int .i64 r) ∧ Below w.heap.size w w' := by
  have hu34 := Try.underlying34
  have HR0_0 := Aside0.mk hr0_0
  have HC0_0 := Aside0.mk hc0_0
  clear hr0_0 hc0_0
  have HB := Aside0.mk (Below.refl w.heap.size w)
  have H : (spec_maTop.l0 k l0_0 (l0_0.length : Int) 0) = some r := h
  clear h
  have H' := Aside0.mk H
  clear H
  go_enter Try.func92, Try.ntmps92
  go_wp2_with (first | ((with_reducible refine gate_dst (N := 1) rfl ?_); refine box_event ?hg (N := 1) ?hd (cs := #[.slice A0_0 l0_0.length c0_0]) (t := 34) ?hr ?_; (case hd => rfl); (case hg => rfl); (case hr => first | (go_simp; done) | (go_simp; rfl)); intro gb130 hg w2 hbox hb; have n0_ := Aside0.mk (below_step (by repeat (first | (with_reducible first | exact HB.out | apply bA | apply bN | apply bD) | exact HB.out)) hb); have n1_ := Aside0.mk (hbox); have n2_ := Aside0.mk ((by rw [hg]; exact (below_size (by repeat (first | (with_reducible first | exact HB.out | apply bA | apply bN | apply bD) | exact HB.out))) : w.heap.size ≤ gb130)); have n3_ := Aside0.mk ((by rw [hg]; exact (below_size (by repeat (first | (with_reducible first | exact HB.out | apply bA | apply bN | apply bD) | exact HB.out))) : w.heap.size ≤ gb130)); clear HB; have HB := n0_; have BK130 := n1_; have GW130 := n2_; have GE130 := n3_; clear n0_ n1_ n2_ n3_; clear hb hbox hg; have hcz3_0 : w2.cell? ⟨gb130, 0, none⟩ = some (.slice A0_0 l0_0.length c0_0) := (blk_cell BK130.out 0).trans rfl; have hfz3_0 := blk_frozen BK130.out 0))
  go_loopg [8] k (fun kq v8 w' => ∃ (x8_1 : Int), v8 = .int .i64 x8_1 ∧ Aside0 (spec_maTop.l0 kq l0_0 (l0_0.length : Int) x8_1 = some r) ∧ Aside0 (kq ≤ k) ∧ Aside0 (w'.heap[gb130]? = some (.cells #[(.slice A0_0 l0_0.length c0_0)] 34 (0, 0))) ∧ Aside0 (Below w.heap.size w w'))
  case atStart => exact ⟨(0), (by first | rfl | (simp; done) | (simp [*]; done)), H', ⟨Nat.le_refl _⟩, ⟨by (with_reducible repeat (first | apply qN | apply qD | apply qA)); exact BK130.out⟩, ⟨by repeat (first | (with_reducible first | exact HB.out | apply bA | apply bN | apply bD | refine below_set ?_ GE130.out) | exact HB.out)⟩⟩
  case round =>
    clear H'
    try clear p2
    try clear hcz3_0
    try clear hfz3_0
    obtain ⟨x8_1, rfl, HA, HK1, BK130, HB⟩ := hrel
    cases gk with
    | zero => exact absurd HA.out (by simp [spec_maTop.l0])
    | succ k1 =>
      have H := HA.out
      clear HA
      simp only [spec_maTop.l0] at H
      by_cases c4 : x8_1 < (l0_0.length : Int)
      · rw [if_pos c4] at H
        have c4b0 : decide (x8_1 < (l0_0.length : Int)) = true := decide_eq_true c4
        clear c4
        by_cases c5 : 0 ≤ x8_1
        · rw [if_pos c5] at H
          have c5b0 : decide (0 ≤ x8_1) = true := decide_eq_true c5
          clear c5
          by_cases c6 : x8_1 < (l0_0.length : Int)
          · rw [if_pos c6] at H
            have c6b0 : decide (x8_1 < (l0_0.length : Int)) = true := decide_eq_true c6
            clear c6
            obtain ⟨ji7, hji7⟩ : ∃ j_ : Int, (wrap64 (((rd_L1 l0_0 x8_1).length : Int) - 1)) = j_ := ⟨_, rfl⟩
            replace H : (if 0 ≤ (ji7) then (if (ji7) < ((rd_L1 l0_0 x8_1).length : Int) then (if (rd (rd_L1 l0_0 x8_1) (ji7)) > 0 then (some x8_1) else (spec_maTop.l0 k1 l0_0 (l0_0.length : Int) (wrap64 (x8_1 + 1)))) else (none)) else (none)) = some r := by first | (rw [hji7] at H; exact H) | (simp only [hji7] at H ⊢; exact H)
            have hji7w : (IntKind.i64.wrap (((rd_L1 l0_0 x8_1).length : Int) - 1)) = ji7 := (i64_w _).trans hji7
            by_cases c8 : 0 ≤ (ji7)
            · rw [if_pos c8] at H
              have c8b0 : decide (0 ≤ (ji7)) = true := decide_eq_true c8
              clear c8
              by_cases c9 : (ji7) < ((rd_L1 l0_0 x8_1).length : Int)
              · rw [if_pos c9] at H
                have c9b0 : decide ((ji7) < ((rd_L1 l0_0 x8_1).length : Int)) = true := decide_eq_true c9
                clear c9
                by_cases c10 : (rd (rd_L1 l0_0 x8_1) (ji7)) > 0
                · rw [if_pos c10] at H
                  have c10b0 : decide (0 < (rd (rd_L1 l0_0 x8_1) (ji7))) = true := decide_eq_true c10
                  clear c10
                  obtain rfl := Option.some.inj H
                  have p131 : 0 ≤ (x8_1 : Int) := of_decide_eq_true (by first | (with_reducible assumption) | assumption)
                  have q131 : x8_1 < (l0_0.length : Int) := of_decide_eq_true (by first | (with_reducible assumption) | assumption)
                  obtain ⟨ad131, A131_0, c131_0, e131, hx131_0, hl131_0, hi131_0⟩ := at_L1 HR0_0.out x8_1 p131 q131
                  cases e131
                  replace hx131_0 := (HB.out.cell (World.block_lt_of_cell? w _ hx131_0)).trans hx131_0
                  have HR131_0 := Aside0.mk hi131_0
                  have HC131_0 := Aside0.mk hl131_0
                  clear hi131_0 hl131_0
                  replace p131 := eq_true p131
                  replace q131 := eq_true q131
                  have p132 : 0 ≤ ((ji7) : Int) := of_decide_eq_true (by first | (with_reducible assumption) | assumption)
                  have q132 : (ji7) < ((rd_L1 l0_0 x8_1).length : Int) := of_decide_eq_true (by first | (with_reducible assumption) | assumption)
                  obtain ⟨ad132, e132, hx132_0⟩ := Kd.at_int HR131_0.out (ji7) p132 q132
                  cases e132
                  replace hx132_0 := (HB.out.cell (World.block_lt_of_cell? w _ hx132_0)).trans hx132_0
                  replace p132 := eq_true p132
                  replace q132 := eq_true q132
                  go_wp2
                  go_ret
                  exact ⟨by first | rfl | (simp [errW_none, errW_some] <;> rfl) | (simp only [← hji7]; first | rfl | (simp [errW_none, errW_some] <;> rfl)) | (simp [*, errW_none, errW_some] <;> rfl), by repeat (first | (with_reducible first | exact HB.out | apply bA | apply bN | apply bD | refine below_set ?_ GE130.out) | exact HB.out)⟩
                · rw [if_neg c10] at H
                  have c10b0 : decide (0 < (rd (rd_L1 l0_0 x8_1) (ji7))) = false := decide_eq_false c10
                  clear c10
                  have H' := Aside0.mk H
                  clear H
                  have p131 : 0 ≤ (x8_1 : Int) := of_decide_eq_true (by first | (with_reducible assumption) | assumption)
                  have q131 : x8_1 < (l0_0.length : Int) := of_decide_eq_true (by first | (with_reducible assumption) | assumption)
                  obtain ⟨ad131, A131_0, c131_0, e131, hx131_0, hl131_0, hi131_0⟩ := at_L1 HR0_0.out x8_1 p131 q131
                  cases e131
                  replace hx131_0 := (HB.out.cell (World.block_lt_of_cell? w _ hx131_0)).trans hx131_0
                  have HR131_0 := Aside0.mk hi131_0
                  have HC131_0 := Aside0.mk hl131_0
                  clear hi131_0 hl131_0
                  replace p131 := eq_true p131
                  replace q131 := eq_true q131
                  have p132 : 0 ≤ ((ji7) : Int) := of_decide_eq_true (by first | (with_reducible assumption) | assumption)
                  have q132 : (ji7) < ((rd_L1 l0_0 x8_1).length : Int) := of_decide_eq_true (by first | (with_reducible assumption) | assumption)
                  obtain ⟨ad132, e132, hx132_0⟩ := Kd.at_int HR131_0.out (ji7) p132 q132
                  cases e132
                  replace hx132_0 := (HB.out.cell (World.block_lt_of_cell? w _ hx132_0)).trans hx132_0
                  replace p132 := eq_true p132
                  replace q132 := eq_true q132
                  go_wp2
                  go_roundg k1
                  case measure => have := HK1.out; omega
                  case rel => exact ⟨(wrap64 (x8_1 + 1)), (by first | rfl | (simp; done) | (simp [*]; done)), H', ⟨by have := HK1.out; omega⟩, ⟨by (with_reducible repeat (first | apply qN | apply qD | apply qA)); exact BK130.out⟩, ⟨by repeat (first | (with_reducible first | exact HB.out | apply bA | apply bN | apply bD | refine below_set ?_ GE130.out) | exact HB.out)⟩⟩
              · rw [if_neg c9] at H
                exact absurd H (by simp)
            · rw [if_neg c8] at H
              exact absurd H (by simp)
          · rw [if_neg c6] at H
            exact absurd H (by simp)
        · rw [if_neg c5] at H
          exact absurd H (by simp)
      · rw [if_neg c4] at H
        have c4b0 : decide (x8_1 < (l0_0.length : Int)) = false := decide_eq_false c4
        clear c4
        obtain rfl := Option.some.inj H
        go_wp2
        go_ret
        exact ⟨by first | rfl | (simp [errW_none, errW_some] <;> rfl) | (simp [*, errW_none, errW_some] <;> rfl), by repeat (first | (with_reducible first | exact HB.out | apply bA | apply bN | apply bD | refine below_set ?_ GE130.out) | exact HB.out)⟩

end Go.Proofs.Ytngkfgleffagcaa.Kx
