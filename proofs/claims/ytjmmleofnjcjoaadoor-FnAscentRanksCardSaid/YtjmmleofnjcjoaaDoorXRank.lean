/- The ascent sequence with a rank, and the rank of one, by the counter's memo. -/
import Derived.Test.YtjmmleofnjcjoaaDoorXMemo
namespace Go.Proofs.YtjmmleofnjcjoaaDoor.Memo
set_option linter.unusedVariables false
set_option linter.unusedSimpArgs false
open Go.RowKit Go.Proofs.YtjmmleofnjcjoaaDoorW.PrintWords Go.Proofs.YtjmmleofnjcjoaaDoorW.PrintLast Go.Proofs.YtjmmleofnjcjoaaDoorW.PrintMore Go.Maps
attribute [local go_sem] max2_int min2_int max_two min_two max_three min_three max_four min_four
open Go.Proofs.YtjmmleofnjcjoaaDoor.Live
def awith (z r : Int) : Option (List Int × Bool) := if 0 ≤ z ∧ z ≤ 12 then (if 0 ≤ r ∧ r < W z.toNat (-1) 0 then (go z.toNat (-1) 0 r []).map (fun x => (x, true)) else some ([], false)) else some ([], false)
theorem bndW {B n3 n4 k n m : Nat} (hm : m + 1 ≤ n) (hB : 30 ^ n ≤ B) (h3 : n3 + 2 * 30 ^ (m + 1) ≤ 3 * 30 ^ n) (h4 : n4 ≤ n3 + k * 30 ^ m) (hk : k ≤ 29) (hB2 : B = 531441000000000000 := by rfl) : n4 + 30 ^ m ≤ 4611686018427387904 := by
  have h5 : k * 30 ^ m ≤ 29 * 30 ^ m := Nat.mul_le_mul_right _ hk
  rw [Nat.pow_succ] at h3
  omega
theorem bndX {n3 n6 k n m : Nat} (h3 : n3 + 2 * 30 ^ (m + 1) ≤ 3 * 30 ^ n) (h6 : n6 ≤ n3 + (k + 1) * 30 ^ m) (hk : k ≤ 29) : n6 + 2 * 30 ^ m ≤ 3 * 30 ^ n := by
  have h5 : (k + 1) * 30 ^ m ≤ 30 * 30 ^ m := Nat.mul_le_mul_right _ (by omega)
  rw [Nat.pow_succ] at h3
  omega
set_option maxHeartbeats 8000000 in
set_option maxRecDepth 100000 in
theorem AscentWithA_calls (z r : Int) (r1 : List Int) (r2 : Bool) (w : World) (h : awith z r = some (r1, r2)) :
    Calls Tryd.prog 6 #[.int .i64 z, .int .i64 r] w fun e w' => ∃ v0_ : Value, e = .returned (.tuple #[v0_, .bool r2]) ∧ Kd.R (Kd.int .i64) 3 w' w.heap.size (fun _ => True) v0_ r1 ∧ Below w.heap.size w w' := by
  have hmm := @run_makeMap Tryd.prog
  unfold awith at h
  by_cases hz : 0 ≤ z ∧ z ≤ 12
  · rw [if_pos hz] at h
    obtain ⟨n, rfl⟩ : ∃ n : Nat, z = (n : Int) := ⟨z.toNat, by omega⟩
    rw [Int.toNat_natCast] at h
    have HN := Aside0.mk (show n ≤ 12 by omega)
    have PB := Aside0.mk (show ∀ m : Nat, m ≤ 12 → 30 ^ m ≤ 531441000000000000 from fun m hm => Nat.le_trans (Nat.pow_le_pow_right (by omega) hm) (by decide))
    clear hz
    by_cases hr : 0 ≤ r ∧ r < W n (-1) 0
    · rw [if_pos hr] at h
      obtain ⟨ls, hg, h⟩ := Option.map_eq_some_iff.mp h
      obtain ⟨rfl, rfl⟩ := Prod.mk.inj h
      have HG := Aside0.mk hg; have HR := Aside0.mk hr
      clear h hg hr
      have H0 := Aside0.mk (show Live w (w.alloc (.map #[] 0)) [memo w.heap.size 0 (.map [])] from (Live.start w).add (o := memo w.heap.size 0 (.map [])) (ok := fun _ => True) (below_alloc (Below.refl _ _) _) ⟨trivial, Nat.le_refl _, World.ownsMap_made _ _ _ _⟩)
      have e1 : decide (0 ≤ (n : Int) ∧ (n : Int) ≤ 12) = true := decide_eq_true ⟨by omega, by have := HN.out; omega⟩
      have hW := W_le n (-1) 0 (by omega) (by have := HN.out; omega)
      have hp7 : (30 : Int) ^ n ≤ 531441000000000000 := by
        have h1 := PB.out n HN.out
        have h2 : ((30 ^ n : Nat) : Int) ≤ ((531441000000000000 : Nat) : Int) := by exact_mod_cast h1
        simpa using h2
      have e2 : wrap64 (W n (-1) 0 - 1) = W n (-1) 0 - 1 := w64 _ (by omega)
      have e3 : decide (0 ≤ r ∧ r ≤ W n (-1) 0 - 1) = true := decide_eq_true ⟨HR.out.1, by have := HR.out.2; omega⟩
      have HW := Aside0.mk (show r ≤ 531441000000000000 by have := HR.out.2; omega)
      clear hW hp7
      go_enter Tryd.func6, Tryd.ntmps6
      go_wp2_with (fail)
      refine (within_calls (n : Int) 0 12 _).mono ?_
      rintro e w1 ⟨rfl, ⟨q1, rfl⟩⟩
      rw [e1]
      have H1 := Aside0.mk (H0.out.drewN q1)
      clear H0 e1
      go_wp2_with (fail)
      refine (ways_calls n (-1) 0 _ w.heap.size 0 (.map []) (by omega) (by omega) (by omega) (by have := HN.out; omega) (held H1.out 0 rfl) (says_nil _) (by have := PB.out n HN.out; omega)).mono ?_
      rintro e w2 ⟨rfl, n2, D2, ho2, hs2, hn2, hg2⟩
      have H2 := Aside0.mk (turn H1.out 0 rfl hg2 ho2)
      have HS := Aside0.mk hs2
      have HC := Aside0.mk (show n2 ≤ 30 ^ n by omega)
      clear ho2 hs2 hn2 hg2 H1
      go_wp2_with (fail)
      refine (within_calls r 0 (W n (-1) 0 - 1) _).mono ?_
      rintro e w3 ⟨rfl, ⟨q3, rfl⟩⟩
      rw [e3]
      have H3 := Aside0.mk (H2.out.drewN q3)
      clear H2 e3
      go_wp2_with (first | ((with_reducible refine gate_dst (N := 25) rfl ?_); refine Kd.R_lit (Kd.int .i64) _ 3 ?hg (N := 25) ?hd (xs := ([] : List Int)) (inner := []) (ok := fun _ => True) (okp := fun _ => True) ?hr ?hp (fun _ hk => hk) trivial (Below.refl _ _) (Nat.le_refl _) (by simp) ?_; (case hd => rfl); (case hg => rfl); (case hr => first | (go_simp; done) | (go_simp; rfl)); (case hp => exact (Reps.none _ _)); intro v25 w4 ho4 hb hg_ hnew_; clear hg_ hnew_; have H4 := Aside0.mk (Live.add (o := row (Kd.int .i64) 3 v25 []) H3.out hb ho4); clear hb ho4 H3) | fail)
      clear e2
      go_loopg [1, 7, 8, 9] (n + 1) (fun kq v1 v7 v8 v9 w' => ∃ (m : Nat) (l a r : Int) (out : List Int) (n3 : Nat) (D3 : DataW Nat), v1 = .int .i64 r ∧ v8 = .int .i64 l ∧ v9 = .int .i64 a ∧ Aside0 (out.length + m = n ∧ kq = m + 1) ∧ Aside0 (go m l a r out = some ls) ∧ Aside0 (-1 ≤ l ∧ l ≤ 100 ∧ 0 ≤ a ∧ a + m ≤ 13 ∧ 0 ≤ r ∧ r ≤ 531441000000000000) ∧ Aside0 (Says W' D3 ∧ n3 + 2 * 30 ^ m ≤ 3 * 30 ^ n) ∧ Aside0 (Live w w' [memo w.heap.size n3 D3, row (Kd.int .i64) 3 v7 out]))
      case atStart => exact ⟨n, -1, 0, r, [], n2, D2, rfl, rfl, rfl, ⟨by simp, rfl⟩, HG, ⟨by have := HN.out; have := HR.out; have := HW.out; omega⟩, ⟨HS.out, by have := HC.out; omega⟩, H4⟩
      case round =>
        clear H4 HS HC HG HR HW
        obtain ⟨m, l, a, r1, out, n3, D3, rfl, rfl, rfl, HI, HG, HA, HS, H⟩ := hrel
        rename World => wq
        obtain ⟨A, c, rfl, _, _⟩ := H.out.form 1 rfl
        cases m with
        | zero =>
          have el : out.length = n := by have := HI.out; omega
          have c1 : decide ((out.length : Int) < (n : Int)) = false := decide_eq_false (by omega)
          have c2 : decide (out.length < n) = false := decide_eq_false (by omega)
          obtain rfl : out = ls := Option.some.inj HG.out
          go_wp2_with (fail)
          go_ret2
          exact ⟨_, rfl, H.out.get 1 rfl, H.out.below⟩
        | succ m =>
          have c1 : decide ((out.length : Int) < (n : Int)) = true := decide_eq_true (by have := HI.out; omega)
          have c2 : decide (out.length < n) = true := decide_eq_true (by have := HI.out; omega)
          obtain ⟨⟨pk, pr⟩, hp, hg⟩ := Option.bind_eq_some_iff.mp (show (pick m l a 30 0 r1).bind (fun p => go m (p.1 : Int) (nxt l a (p.1 : Int)) p.2 (out ++ [(p.1 : Int)])) = some ls from HG.out)
          have HP := Aside0.mk hp; have HG2 := Aside0.mk hg
          clear HG hp hg
          go_wp2_with (fail)
          go_loopg [1, 10] 30 (fun kq v1 v10 w' => ∃ (q k : Nat) (r2 : Int) (n4 : Nat) (D4 : DataW Nat), v1 = .int .i64 r2 ∧ v10 = .int .i64 (k : Int) ∧ Aside0 (pick m l a q k r2 = some (pk, pr) ∧ kq = q ∧ k + q = 30) ∧ Aside0 (0 ≤ r2 ∧ r2 ≤ 531441000000000000) ∧ Aside0 (Says W' D4 ∧ n4 ≤ n3 + k * 30 ^ m) ∧ Aside0 (Live w w' [memo w.heap.size n4 D4, row (Kd.int .i64) 3 (.slice A out.length c) out]))
          case atStart => exact ⟨30, 0, r1, n3, D3, rfl, rfl, ⟨HP.out, rfl, rfl⟩, ⟨HA.out.2.2.2.2⟩, ⟨HS.out.1, by omega⟩, H⟩
          case round =>
            clear H HP
            obtain ⟨q, k, r2, n4, D4, rfl, rfl, HP, HR2, HS4, H⟩ := hrel
            rename World => wi
            cases q with
            | zero => exact absurd HP.out.1 (by simp [pick])
            | succ q =>
              have e1 : wrap64 (wrap64 ((n : Int) - (out.length : Int)) - 1) = (m : Int) := by have := HI.out; have := HN.out; rw [w64 ((n : Int) - _) (by omega), w64 _ (by omega)]; omega
              have hp := HP.out.1
              unfold pick at hp
              have hx := nxt_le l a (k : Int)
              have ha := HA.out
              have hk30 := HP.out.2.2
              have hW := W_le m (k : Int) (nxt l a (k : Int)) (by omega) (by omega)
              have HX := Aside0.mk hx; have HW := Aside0.mk hW.1; have HK := Aside0.mk hk30; have HQ := Aside0.mk HP.out.2.1
              clear hx ha hk30 hW HP
              go_wp2_with (fail)
              refine (next_calls l a (k : Int) _ (by have := HA.out; omega) (by have := HA.out; omega)).mono ?_
              rintro e w5 ⟨rfl, ⟨q5, rfl⟩⟩
              have H5 := Aside0.mk (H.out.drewN q5)
              clear H
              go_wp2_with (fail)
              refine (ways_calls m (k : Int) (nxt l a (k : Int)) _ w.heap.size n4 D4 (by omega) (by have := HK.out; omega) (by have := HX.out; have := HA.out; omega) (by have := HX.out; have := HA.out; omega) (held H5.out 0 rfl) HS4.out.1 (by exact bndW (by have := HI.out; omega) (PB.out n HN.out) HS.out.2 HS4.out.2 (by have := HK.out; omega))).mono ?_
              rintro e w6 ⟨rfl, n6, D6, ho6, hs6, hn6, hg6⟩
              have H6 := Aside0.mk (turn H5.out 0 rfl hg6 ho6)
              have HS6 := Aside0.mk (show Says W' D6 ∧ n6 ≤ n3 + (k + 1) * 30 ^ m by exact ⟨hs6, by rw [Nat.add_mul]; have := HS4.out.2; omega⟩)
              clear ho6 hs6 hn6 hg6 H5 HS4
              by_cases hlt : r2 < W m (k : Int) (nxt l a (k : Int))
              · rw [if_pos hlt] at hp
                obtain ⟨rfl, rfl⟩ := Prod.mk.inj (Option.some.inj hp)
                clear hp
                have d1 : decide (r2 < W m (k : Int) (nxt l a (k : Int))) = true := decide_eq_true hlt
                clear hlt
                go_wp2_with (fail)
                refine (next_calls l a (k : Int) _ (by have := HA.out; omega) (by have := HA.out; omega)).mono ?_
                rintro e w7 ⟨rfl, ⟨q7, rfl⟩⟩
                have H7 := Aside0.mk (H6.out.drewN q7)
                clear H6
                obtain ⟨ok_, ho_, hok_, _, hback_⟩ := H7.out.lend 1 rfl
                go_wp2_with (first | ((with_reducible refine gate_builtin (b := .append) (xs := #[.tmp 54, .tmp 56]) rfl ?_); at_builtin; refine Kd.R_append (Kd.int .i64) (w0 := w) w.heap.size rfl (.tmp 54) (.tmp 56) 26 3 (.int .i64 0) 8 rfl Tryd.underlying26 (by kernel_rfl) rfl (by decide) (by omega) (.slice A out.length c) out (k : Int) [.int .i64 (k : Int)] (fun k_ => ok_ k_ ∨ (w6.drewN q7).heap.size ≤ k_) (fun _ => False) rfl rfl rfl (fun _ h => h.elim) (fun _ h => .inr h) (Kd.R_mono ho_ (fun _ h => .inl h)) H7.out.below H7.out.below.size (by have := HI.out; have := HN.out; omega) ?_; intro v8 w8 hs_ hb_ hg_ hat_; have H8 := Aside0.mk (hback_ w8 (row (Kd.int .i64) 3 v8 (out ++ [(k : Int)])) hb_ (Kept.of_grown hg_ (Kept.refl _ _) (fun k_ hk_ => .inl (ho_.1 k_ hk_))) hs_); clear hs_ hb_ hg_ hat_ hback_ ho_) | fail)
                have H9 := Aside0.mk (show Live w w8 [memo w.heap.size n6 D6, row (Kd.int .i64) 3 v8 (out ++ [(k : Int)])] from H8.out)
                have hb9 : n6 + 2 * 30 ^ m ≤ 3 * 30 ^ n := bndX HS.out.2 HS6.out.2 (by have := HK.out; omega)
                have HS9 := Aside0.mk (And.intro HS6.out.1 hb9)
                clear H8 hb9
                go_roundg (m + 1)
                case measure => have := HI.out; omega
                case rel => exact ⟨m, (k : Int), nxt l a (k : Int), r2, out ++ [(k : Int)], n6, D6, rfl, rfl, rfl, ⟨by rw [List.length_append, List.length_singleton]; have := HI.out; omega, rfl⟩, HG2, ⟨by have := HK.out; have := HX.out; have := HA.out; have := HR2.out; omega⟩, HS9, H9⟩
              · rw [if_neg hlt] at hp
                have d1 : decide (r2 < W m (k : Int) (nxt l a (k : Int))) = false := decide_eq_false hlt
                have e2 : wrap64 (r2 - W m (k : Int) (nxt l a (k : Int))) = r2 - W m (k : Int) (nxt l a (k : Int)) := w64 _ (by have := HR2.out; have := HW.out; omega)
                have HP := Aside0.mk hp
                have HLT := Aside0.mk hlt
                clear hlt hp
                go_wp2_with (fail)
                go_roundg q
                case measure => have := HQ.out; omega
                case rel => exact ⟨q, k + 1, r2 - W m (k : Int) (nxt l a (k : Int)), n6, D6, by first | rfl | rw [e2], congrArg (Value.int .i64) (by rw [w64 _ (by have := HK.out; omega)]; omega), ⟨HP.out, rfl, by have := HK.out; omega⟩, ⟨by have := HLT.out; omega, by have := HW.out; have := HR2.out; omega⟩, HS6, H6⟩
    · rw [if_neg hr] at h
      obtain ⟨rfl, rfl⟩ := Prod.mk.inj (Option.some.inj h)
      clear h
      have HR := Aside0.mk hr
      clear hr
      have H0 := Aside0.mk (show Live w (w.alloc (.map #[] 0)) [memo w.heap.size 0 (.map [])] from (Live.start w).add (o := memo w.heap.size 0 (.map [])) (ok := fun _ => True) (below_alloc (Below.refl _ _) _) ⟨trivial, Nat.le_refl _, World.ownsMap_made _ _ _ _⟩)
      have e1 : decide (0 ≤ (n : Int) ∧ (n : Int) ≤ 12) = true := decide_eq_true ⟨by omega, by have := HN.out; omega⟩
      have hW := W_le n (-1) 0 (by omega) (by have := HN.out; omega)
      have hp7 : (30 : Int) ^ n ≤ 531441000000000000 := by
        have h1 := PB.out n HN.out
        have h2 : ((30 ^ n : Nat) : Int) ≤ ((531441000000000000 : Nat) : Int) := by exact_mod_cast h1
        simpa using h2
      have e2 : wrap64 (W n (-1) 0 - 1) = W n (-1) 0 - 1 := w64 _ (by omega)
      have e3 : decide (0 ≤ r ∧ r ≤ W n (-1) 0 - 1) = false := decide_eq_false (fun h => HR.out ⟨h.1, by omega⟩)
      clear hW hp7
      go_enter Tryd.func6, Tryd.ntmps6
      go_wp2_with (fail)
      refine (within_calls (n : Int) 0 12 _).mono ?_
      rintro e w1 ⟨rfl, ⟨q1, rfl⟩⟩
      rw [e1]
      have H1 := Aside0.mk (H0.out.drewN q1)
      clear H0 e1
      go_wp2_with (fail)
      refine (ways_calls n (-1) 0 _ w.heap.size 0 (.map []) (by omega) (by omega) (by omega) (by have := HN.out; omega) (held H1.out 0 rfl) (says_nil _) (by have := PB.out n HN.out; omega)).mono ?_
      rintro e w2 ⟨rfl, n2, D2, ho2, hs2, hn2, hg2⟩
      have H2 := Aside0.mk (turn H1.out 0 rfl hg2 ho2)
      have HS := Aside0.mk hs2
      have HC := Aside0.mk (show n2 ≤ 30 ^ n by omega)
      clear ho2 hs2 hn2 hg2 H1
      go_wp2_with (fail)
      refine (within_calls r 0 (W n (-1) 0 - 1) _).mono ?_
      rintro e w3 ⟨rfl, ⟨q3, rfl⟩⟩
      rw [e3]
      have H3 := Aside0.mk (H2.out.drewN q3)
      clear H2 e3
      go_wp2_with (fail)
      go_ret2
      exact ⟨_, rfl, Kd.R_nil _ _ _ _ _, H3.out.below⟩
  · rw [if_neg hz] at h
    obtain ⟨rfl, rfl⟩ := Prod.mk.inj (Option.some.inj h)
    clear h
    have e1 : decide (0 ≤ z ∧ z ≤ 12) = false := decide_eq_false hz
    clear hz
    have H0 := Aside0.mk (show Live w (w.alloc (.map #[] 0)) [memo w.heap.size 0 (.map [])] from (Live.start w).add (o := memo w.heap.size 0 (.map [])) (ok := fun _ => True) (below_alloc (Below.refl _ _) _) ⟨trivial, Nat.le_refl _, World.ownsMap_made _ _ _ _⟩)
    go_enter Tryd.func6, Tryd.ntmps6
    go_wp2_with (fail)
    refine (within_calls z 0 12 _).mono ?_
    rintro e w1 ⟨rfl, ⟨q1, rfl⟩⟩
    rw [e1]
    have H1 := Aside0.mk (H0.out.drewN q1)
    clear H0 e1
    go_wp2_with (fail)
    go_ret2
    exact ⟨_, rfl, Kd.R_nil _ _ _ _ _, H1.out.below⟩
/-- The rank so far, the last number, the ascents. -/
def stR (l : List Int) : Nat → Int × Int × Int
  | 0 => (0, -1, 0)
  | i + 1 => ((stR l i).1 + psum (fun k : Nat => W (l.length - i - 1) (k : Int) (nxt (stR l i).2.1 (stR l i).2.2 (k : Int))) (l.getD i 0).toNat, l.getD i 0, nxt (stR l i).2.1 (stR l i).2.2 (l.getD i 0))
def okR (l : List Int) : Prop := l.length ≤ 12 ∧ ∀ i, i < l.length → 0 ≤ l.getD i 0 ∧ l.getD i 0 ≤ 13
instance (l : List Int) : Decidable (okR l) := inferInstanceAs (Decidable (_ ∧ _))
def rankF (l : List Int) : Option Int := if okR l then some (stR l l.length).1 else none
theorem pow30 {m : Nat} (h : m ≤ 12) : (30 : Int) ^ m ≤ 531441000000000000 := by
  have h1 : 30 ^ m ≤ 531441000000000000 := Nat.le_trans (Nat.pow_le_pow_right (by omega) h) (by decide)
  have h2 : ((30 ^ m : Nat) : Int) ≤ ((531441000000000000 : Nat) : Int) := by exact_mod_cast h1
  simpa using h2
theorem stR_bd {l : List Int} (h : okR l) : ∀ i, i ≤ l.length → -1 ≤ (stR l i).2.1 ∧ (stR l i).2.1 ≤ 13 ∧ 0 ≤ (stR l i).2.2 ∧ (stR l i).2.2 ≤ (i : Int) ∧ 0 ≤ (stR l i).1 ∧ (stR l i).1 + 30 ^ (l.length - i) ≤ 30 ^ l.length
  | 0, _ => ⟨by show (-1 : Int) ≤ -1; decide, by show (-1 : Int) ≤ 13; decide, by show (0 : Int) ≤ 0; decide, by show (0 : Int) ≤ 0; decide, by show (0 : Int) ≤ 0; decide, by show (0 : Int) + _ ≤ _; rw [Nat.sub_zero]; omega⟩
  | i + 1, hi => by
    obtain ⟨h1, h2, h3, h4, h5, h6⟩ := stR_bd h i (by omega)
    have hx := h.2 i (by omega)
    have hl := h.1
    have hn := nxt_le (stR l i).2.1 (stR l i).2.2 (l.getD i 0)
    have hp := psum_le (fun k : Nat => W (l.length - i - 1) (k : Int) (nxt (stR l i).2.1 (stR l i).2.2 (k : Int))) (30 ^ (l.length - i - 1)) (l.getD i 0).toNat (fun k _ => W_le _ _ _ (by have := nxt_le (stR l i).2.1 (stR l i).2.2 (k : Int); omega) (by have := nxt_le (stR l i).2.1 (stR l i).2.2 (k : Int); omega))
    have hq : (((l.getD i 0).toNat : Nat) : Int) * 30 ^ (l.length - i - 1) ≤ 13 * 30 ^ (l.length - i - 1) := Int.mul_le_mul_of_nonneg_right (by omega) (Int.pow_nonneg (by omega))
    have e : l.length - i = (l.length - i - 1) + 1 := by omega
    have hz : (0 : Int) ≤ 30 ^ (l.length - i - 1) := Int.pow_nonneg (by omega)
    rw [e, Int.pow_succ] at h6
    refine ⟨by show -1 ≤ l.getD i 0; omega, by show l.getD i 0 ≤ 13; omega, by show 0 ≤ nxt _ _ _; omega, by show nxt _ _ _ ≤ _; omega, by show 0 ≤ _ + _; omega, ?_⟩
    show (stR l i).1 + _ + 30 ^ (l.length - (i + 1)) ≤ _
    rw [show l.length - (i + 1) = l.length - i - 1 from by omega]
    omega
set_option maxHeartbeats 8000000 in
set_option maxRecDepth 100000 in
theorem rankAscent_calls (A0 : Option Addr) (c0 : Nat) (l : List Int) (r : Int) (w : World) (hr0 : Kd.C (Kd.int .i64) w A0 l.length l) (hc0 : l.length ≤ c0) (h : rankF l = some r) :
    Calls Tryd.prog 28 #[.slice A0 l.length c0] w fun e w' => e = .returned (.int .i64 r) ∧ Below w.heap.size w w' := by
  have hmm := @run_makeMap Tryd.prog
  unfold rankF at h
  by_cases hok : okR l
  case neg => rw [if_neg hok] at h; exact absurd h (by simp)
  rw [if_pos hok] at h
  obtain rfl := Option.some.inj h
  clear h
  have HOK := Aside0.mk hok
  have HC := Aside0.mk hr0
  have HC0 := Aside0.mk hc0
  clear hok hr0 hc0
  have P12 := Aside0.mk (show 0 + 30 ^ l.length ≤ 531441000000000000 from Nat.le_trans (by rw [Nat.zero_add]; exact Nat.pow_le_pow_right (by omega) HOK.out.1) (by decide))
  have H0 := Aside0.mk (show Live w (w.alloc (.map #[] 0)) [memo w.heap.size 0 (.map [])] from (Live.start w).add (o := memo w.heap.size 0 (.map [])) (ok := fun _ => True) (below_alloc (Below.refl _ _) _) ⟨trivial, Nat.le_refl _, World.ownsMap_made _ _ _ _⟩)
  go_enter Tryd.func28, Tryd.ntmps28
  go_wp2_with (fail)
  go_loopg [4, 5, 6, 13] (l.length + 1) (fun kq v4 v5 v6 v13 w' => ∃ (i : Nat) (n1 : Nat) (D1 : DataW Nat), v4 = .int .i64 (stR l i).1 ∧ v5 = .int .i64 (stR l i).2.1 ∧ v6 = .int .i64 (stR l i).2.2 ∧ v13 = .int .i64 (i : Int) ∧ Aside0 (i ≤ l.length ∧ kq = l.length - i + 1) ∧ Aside0 (Says W' D1 ∧ n1 + 30 ^ (l.length - i) ≤ 531441000000000000) ∧ Aside0 (Live w w' [memo w.heap.size n1 D1]))
  case atStart => exact ⟨0, 0, .map [], rfl, rfl, rfl, rfl, ⟨Nat.zero_le _, rfl⟩, ⟨says_nil _, P12.out⟩, H0⟩
  case round =>
    clear H0
    obtain ⟨i, n1, D1, rfl, rfl, rfl, rfl, HI, HS, H⟩ := hrel
    rename World => wq
    have HB := Aside0.mk (stR_bd HOK.out i HI.out.1)
    obtain ⟨R0, hR0⟩ : ∃ R0, R0 = (stR l i).1 := ⟨_, rfl⟩
    obtain ⟨la, hla⟩ : ∃ la, la = (stR l i).2.1 := ⟨_, rfl⟩
    obtain ⟨up, hup⟩ : ∃ up, up = (stR l i).2.2 := ⟨_, rfl⟩
    have HE := Aside0.mk (And.intro hR0 (And.intro hla hup))
    rw [← hR0, ← hla, ← hup] at HB
    rw [← hR0, ← hla, ← hup]
    clear hR0 hla hup
    by_cases ci : i < l.length
    · have c1 : decide ((i : Int) < (l.length : Int)) = true := decide_eq_true (by omega)
      have c2 : decide (i < l.length) = true := decide_eq_true ci
      obtain ⟨ad, rfl, x0⟩ := C_num (Kd.C_below HC.out H.out.below) i ci
      have z0 : (0 : Int) ≤ (i : Int) := by omega
      have z1 : (i : Int) < (l.length : Int) := by omega
      have hx := HOK.out.2 i ci
      obtain ⟨T, hT⟩ : ∃ T : Nat, l.getD i 0 = (T : Int) := ⟨(l.getD i 0).toNat, by omega⟩
      have HT := Aside0.mk hT
      have HX := Aside0.mk (show T ≤ 13 by omega)
      rw [hT] at x0
      obtain ⟨m, hm⟩ : ∃ m : Nat, l.length - i = m + 1 := ⟨l.length - i - 1, by omega⟩
      have e1m : wrap64 (wrap64 ((l.length : Int) - (i : Int)) - 1) = (m : Int) := by have := HOK.out.1; rw [w64 ((l.length : Int) - _) (by omega), w64 _ (by omega)]; omega
      have HM := Aside0.mk hm
      have hnx := nxt_le la up (T : Int)
      have HN := Aside0.mk hnx
      obtain ⟨F, hF⟩ : ∃ F : Nat → Int, F = fun k : Nat => W m (k : Int) (nxt la up (k : Int)) := ⟨_, rfl⟩
      have HF := Aside0.mk hF
      clear hx hT hm hnx hF
      go_wp2_with (fail)
      go_loopg [4, 19] (T + 1) (fun kq v4 v19 w' => ∃ (k : Nat) (n4 : Nat) (D4 : DataW Nat), v4 = .int .i64 (R0 + psum F k) ∧ v19 = .int .i64 (k : Int) ∧ Aside0 (k ≤ T ∧ kq = T - k + 1) ∧ Aside0 (Says W' D4 ∧ n4 ≤ n1 + k * 30 ^ m) ∧ Aside0 (Live w w' [memo w.heap.size n4 D4]))
      case atStart => exact ⟨0, n1, D1, by rw [show psum F 0 = 0 from rfl, Int.add_zero], rfl, ⟨Nat.zero_le _, rfl⟩, ⟨HS.out.1, by omega⟩, H⟩
      case round =>
        clear H
        obtain ⟨k, n4, D4, rfl, rfl, HK, HS4, H⟩ := hrel
        rename World => wi
        by_cases ck : k < T
        · have d1 : decide ((k : Int) < (T : Int)) = true := decide_eq_true (by omega)
          have d2 : decide (k < T) = true := decide_eq_true ck
          have HY := Aside0.mk (nxt_le la up (k : Int))
          have hfit : n4 + 30 ^ m ≤ 4611686018427387904 := by
            have h1 := HS.out.2
            rw [HM.out, Nat.pow_succ] at h1
            have h2 := HS4.out.2
            have h3 : k * 30 ^ m ≤ 13 * 30 ^ m := Nat.mul_le_mul_right _ (by have := HX.out; omega)
            omega
          have HFIT := Aside0.mk hfit
          have CK := Aside0.mk ck
          clear hfit ck
          go_wp2_with (fail)
          refine (next_calls la up (k : Int) _ HB.out.2.2.1 (by have := HB.out; have := HOK.out.1; omega)).mono ?_
          rintro e w5 ⟨rfl, ⟨q5, rfl⟩⟩
          have H5 := Aside0.mk (H.out.drewN q5)
          clear H
          go_wp2_with (fail)
          refine (ways_calls m (k : Int) (nxt la up (k : Int)) _ w.heap.size n4 D4 (by omega) (by have := HK.out; have := HX.out; omega) (by have := HY.out; have := HB.out; omega) (by have := HY.out; have := HB.out; have := HOK.out.1; have := HM.out; omega) (held H5.out 0 rfl) HS4.out.1 HFIT.out).mono ?_
          rintro e w6 ⟨rfl, n6, D6, ho6, hs6, hn6, hg6⟩
          have H6 := Aside0.mk (turn H5.out 0 rfl hg6 ho6)
          have HS6 := Aside0.mk (show Says W' D6 ∧ n6 ≤ n1 + (k + 1) * 30 ^ m by exact ⟨hs6, by rw [Nat.add_mul]; have := HS4.out.2; omega⟩)
          clear ho6 hs6 hn6 hg6 H5 HS4
          have eB : wrap64 (R0 + psum F k + W m (k : Int) (nxt la up (k : Int))) = R0 + psum F (k + 1) := by
            have h1 : psum F (k + 1) = psum F k + F k := rfl
            have h0 : F k = W m (k : Int) (nxt la up (k : Int)) := by rw [HF.out]
            have hle := psum_le F (30 ^ m) (k + 1) (fun j _ => by rw [HF.out]; exact W_le m _ _ (by have := nxt_le la up (j : Int); have := HB.out; omega) (by have := nxt_le la up (j : Int); have := HB.out; have := HOK.out.1; have := HM.out; omega))
            have h2 : ((k + 1 : Nat) : Int) * 30 ^ m ≤ 13 * 30 ^ m := Int.mul_le_mul_of_nonneg_right (by have := HX.out; have := CK.out; omega) (Int.pow_nonneg (by omega))
            have h3 := pow30 (show m ≤ 12 by have := HOK.out.1; have := HM.out; omega)
            have h4 := pow30 HOK.out.1
            have h5 : (0 : Int) ≤ 30 ^ (l.length - i) := Int.pow_nonneg (by omega)
            have h6 := HB.out
            rw [← h0, Int.add_assoc, ← h1]
            exact w64 _ (by omega)
          have EB := Aside0.mk eB
          clear eB
          go_wp2_with (fail)
          go_roundg (T - k)
          case measure => have := HK.out; omega
          case rel => exact ⟨k + 1, n6, D6, by rw [EB.out], congrArg (Value.int .i64) (by rw [w64 _ (by have := HK.out; have := HX.out; omega)]; omega), ⟨by have := CK.out; omega, by have := CK.out; omega⟩, HS6, H6⟩
        · have d1 : decide ((k : Int) < (T : Int)) = false := decide_eq_false (by omega)
          have d2 : decide (k < T) = false := decide_eq_false ck
          obtain rfl : k = T := by have := HK.out; omega
          clear ck
          go_wp2_with (fail)
          refine (next_calls la up (k : Int) _ HB.out.2.2.1 (by have := HB.out; have := HOK.out.1; omega)).mono ?_
          rintro e w5 ⟨rfl, ⟨q5, rfl⟩⟩
          have H5 := Aside0.mk (H.out.drewN q5)
          clear H
          go_wp2_with (fail)
          have hs : stR l (i + 1) = (R0 + psum F k, (k : Int), nxt la up (k : Int)) := by
            obtain ⟨h1, h2, h3⟩ := HE.out
            show (_, _, _) = _
            rw [HT.out, Int.toNat_natCast, ← h1, ← h2, ← h3, HF.out, show l.length - i - 1 = m from by have := HM.out; omega]
          go_roundg (l.length - i)
          case measure => have := HI.out; omega
          case rel => exact ⟨i + 1, n4, D4, by rw [hs], by rw [hs], by rw [hs], congrArg (Value.int .i64) (by rw [w64 _ (by have := HOK.out.1; omega)]; omega), ⟨by omega, by omega⟩, ⟨HS4.out.1, by
            have h1 := HS.out.2
            rw [HM.out, Nat.pow_succ] at h1
            have h2 := HS4.out.2
            have h3 : k * 30 ^ m ≤ 13 * 30 ^ m := Nat.mul_le_mul_right _ HX.out
            rw [show l.length - (i + 1) = m from by have := HM.out; omega]
            omega⟩, H5⟩
    · have c1 : decide ((i : Int) < (l.length : Int)) = false := decide_eq_false (by omega)
      have c2 : decide (i < l.length) = false := decide_eq_false ci
      obtain rfl : i = l.length := by have := HI.out; omega
      go_wp2_with (fail)
      go_ret
      exact ⟨by rw [← HE.out.1]; rfl, H.out.below⟩
end Go.Proofs.YtjmmleofnjcjoaaDoor.Memo
