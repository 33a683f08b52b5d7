/- The number of ascent sequences, by the counter's memo. -/
import Derived.Test.YtjmmleofnjcjoaaDoorXMemo
namespace Go.Proofs.YtjmmleofnjcjoaaDoor.Memo
set_option linter.unusedVariables false
set_option linter.unusedSimpArgs false
open Go.RowKit Go.Proofs.YtjmmleofnjcjoaaDoorW.PrintWords Go.Proofs.YtjmmleofnjcjoaaDoorW.PrintLast Go.Proofs.YtjmmleofnjcjoaaDoorW.PrintMore Go.Maps
attribute [local go_sem] max2_int min2_int max_two min_two max_three min_three max_four min_four
open Go.Proofs.YtjmmleofnjcjoaaDoor.Live
def countA (z : Int) : Option (Int × Bool) := if 0 ≤ z ∧ z ≤ 12 then some (W z.toNat (-1) 0, true) else some (0, false)
set_option maxHeartbeats 8000000 in
set_option maxRecDepth 100000 in
theorem CountAscents_calls (z : Int) (r1 : Int) (r2 : Bool) (w : World) (h : countA z = some (r1, r2)) :
    Calls Tryd.prog 9 #[.int .i64 z] w fun e w' => e = .returned (.tuple #[.int .i64 r1, .bool r2]) ∧ Below w.heap.size w w' := by
  by_cases hc : 0 ≤ z ∧ z ≤ 12
  · unfold countA at h
    rw [if_pos hc] at h
    obtain ⟨n, rfl⟩ : ∃ n : Nat, z = (n : Int) := ⟨z.toNat, by omega⟩
    rw [Int.toNat_natCast] at h
    obtain ⟨rfl, rfl⟩ := Prod.mk.inj (Option.some.inj h)
    clear h
    have HN := Aside0.mk (show n ≤ 12 by omega)
    have P7 := Aside0.mk (show 0 + 30 ^ n ≤ 4611686018427387904 from Nat.le_trans (by rw [Nat.zero_add]; exact Nat.pow_le_pow_right (by omega) HN.out) (by decide))
    have e1 : decide (0 ≤ (n : Int) ∧ (n : Int) ≤ 12) = true := decide_eq_true hc
    clear hc
    have hmm := @run_makeMap Tryd.prog
    go_enter Tryd.func9, Tryd.ntmps9
    go_wp2_with (fail)
    refine (within_calls (n : Int) 0 12 _).mono ?_
    rintro e w1 ⟨rfl, ⟨q1, rfl⟩⟩
    rw [e1]
    have H1 := Aside0.mk ((Live.start w).drewN q1)
    clear e1
    have h2 := Live.add (o := memo w.heap.size 0 (.map [])) (ok := fun _ => True) H1.out (below_alloc (Below.refl _ _) (.map #[] 0)) ⟨trivial, Nat.le_refl _, World.ownsMap_made _ _ _ _⟩
    have H2 := Aside0.mk h2
    clear h2 H1
    go_wp2_with (fail)
    refine (ways_calls n (-1) 0 _ w.heap.size 0 (.map []) (by omega) (by omega) (by omega) (by have := HN.out; omega) (held H2.out 0 rfl) (says_nil _) P7.out).mono ?_
    rintro e w3 ⟨rfl, n3, D3, ho3, hs3, hn3, hg3⟩
    have H3 := Aside0.mk (Live.below (turn H2.out 0 rfl hg3 ho3))
    clear ho3 hs3 hn3 hg3 H2
    go_wp2_with (fail)
    go_ret2
    exact ⟨rfl, H3.out⟩
  · unfold countA at h
    rw [if_neg hc] at h
    obtain ⟨rfl, rfl⟩ := Prod.mk.inj (Option.some.inj h)
    clear h
    have e1 : decide (0 ≤ z ∧ z ≤ 12) = false := decide_eq_false hc
    clear hc
    go_enter Tryd.func9, Tryd.ntmps9
    go_wp2_with (fail)
    refine (within_calls z 0 12 _).mono ?_
    rintro e w1 ⟨rfl, ⟨q1, rfl⟩⟩
    rw [e1]
    go_wp2_with (fail)
    go_ret2
    exact ⟨rfl, pw_below_drewN (Below.refl _ _) _⟩
end Go.Proofs.YtjmmleofnjcjoaaDoor.Memo
