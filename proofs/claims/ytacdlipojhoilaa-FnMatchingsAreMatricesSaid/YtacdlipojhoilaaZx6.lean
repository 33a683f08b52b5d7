-- Written by hook.py, a program of this session (wip/), which runs the kit's print.py with its own parts; Lean checks it.
import Derived.Test.YtacdlipojhoilaaZx0
import Derived.Test.YtacdlipojhoilaaZx5
import Derived.Test.YtacdlipojhoilaaZxXSq
namespace Go.Proofs.Ytacdlipojhoilaa.Zx
open Go.RowKit Go.Proofs.YtacdlipojhoilaaW.PrintWords Go.Proofs.YtacdlipojhoilaaW.PrintLast Go.Proofs.YtacdlipojhoilaaW.PrintMore Go.Proofs.Ytacdlipojhoilaa.Sq
attribute [local go_sem] max2_int min2_int max_two min_two max_three min_three max_four min_four   -- for this text's walks alone
set_option linter.unusedVariables false
set_option linter.unusedSimpArgs false

def slices_IndexFunc_int_int.f (l0 : List Int) : Option Int := some (if l0.any (fun x => x != 0) then 0 else -1)
set_option maxHeartbeats 2000000 in
set_option maxRecDepth 100000 in
theorem slices_IndexFunc_int_int.finds (A0 : Option Addr) (c0 : Nat) (l0 : List Int) (w : World) (hr0 : Kd.C (Kd.int .i64) w A0 l0.length l0) :
    Calls Try.prog 135 #[.slice A0 l0.length c0, .func (.func 91) #[] #[]] w fun e w' => (∃ r : Int, e = .returned (.int .i64 r) ∧ Aside0 (decide (r ≥ 0) = l0.any (fun x => x != 0))) ∧ Drawn0 w w' := by
 have HL := aM hr0.2.1
 have HR0 := aM hr0
 clear hr0
 have hle := HL.out
 go_enter Try.func135, Try.ntmps135
 go_wp2
 go_loopg [5, 8] l0.length (fun gg _ s8 w' => ∃ i : Nat, i ≤ l0.length ∧ l0.length - i ≤ gg ∧ s8 = .int .i64 i ∧ Aside0 (∀ j, j < i → l0.getD j 0 = 0) ∧ Drawn0 w w')
 case atStart => exact ⟨0, Nat.zero_le _, by omega, rfl, ⟨fun j hj => absurd hj (Nat.not_lt_zero _)⟩, Drawn0.refl _⟩
 case round => (
 obtain ⟨i, hi, hg, rfl, HZ, ⟨m1, rfl⟩⟩ := hrel
 by_cases hlt : i < l0.length
 · {
 obtain ⟨ad, ea, hx⟩ := Kd.at_int HR0.out (i : Int) (by omega) (by omega)
 cases ea
 have hlz : (i : Int) < (l0.length : Int) := by omega
 simp only [Int.toNat_natCast] at hx
 by_cases h0 : rd l0 (i : Int) = 0
 · {
 have hq := (show (impl_IsMatrix_1.f (rd l0 (i : Int))) = some false by unfold impl_IsMatrix_1.f; simp [h0])
 have HQ := aM hq
 have H0 := aM h0
 clear hq h0
 go_wp2_with (first | (go_at_call 91; refine (impl_IsMatrix_1.calls (rd l0 (i : Int)) false _ HQ.out).mono ?_; rintro e w' ⟨rfl, ⟨nd, rfl⟩⟩))
 obtain ⟨k, rfl⟩ : ∃ k, gk = k + 1 := ⟨gk - 1, by omega⟩
 go_roundg k
 case measure => omega
 case rel => exact ⟨i + 1, by omega, by omega, by go_num, ⟨fun j hj => by
  by_cases e : j = i
  · subst e; have := H0.out; simpa [rd] using this
  · exact HZ.out j (by omega)⟩, by repeat (first | exact Drawn0.refl _ | apply Drawn0.step)⟩}
 · {
 have hq := (show (impl_IsMatrix_1.f (rd l0 (i : Int))) = some true by unfold impl_IsMatrix_1.f; simp [h0])
 have HQ := aM hq
 have H0 := aM h0
 clear hq h0
 go_wp2_with (first | (go_at_call 91; refine (impl_IsMatrix_1.calls (rd l0 (i : Int)) true _ HQ.out).mono ?_; rintro e w' ⟨rfl, ⟨nd, rfl⟩⟩))
 go_ret
 refine ⟨⟨_, rfl, ⟨?_⟩⟩, by repeat (first | exact Drawn0.refl _ | apply Drawn0.step)⟩
 have h1 : l0.any (fun x => x != 0) = true := by {
 rw [List.any_eq_true]
 refine ⟨l0[i], List.getElem_mem hlt, ?_⟩
 have := H0.out
 simp [rd, List.getD_eq_getElem?_getD, hlt] at this
 simpa using this}
 rw [h1]; simp}}
 · {
 go_wp2
 go_ret
 refine ⟨⟨_, rfl, ⟨?_⟩⟩, by repeat (first | exact Drawn0.refl _ | apply Drawn0.step)⟩
 have h1 : l0.any (fun x => x != 0) = false := by {
 rw [List.any_eq_false]
 intro x hx
 obtain ⟨j, hj, rfl⟩ := List.getElem_of_mem hx
 have := HZ.out j (by omega)
 simp [List.getD_eq_getElem?_getD, hj] at this
 simp [this]}
 rw [h1]; simp})
def slices_ContainsFunc_int_int.f (l0 : List Int) : Option Bool := some (l0.any (fun x => x != 0))
set_option maxHeartbeats 2000000 in
set_option maxRecDepth 100000 in
theorem slices_ContainsFunc_int_int.calls (A0 : Option Addr) (c0 : Nat) (l0 : List Int) (r : Bool) (w : World) (hr0 : Kd.C (Kd.int .i64) w A0 l0.length l0) (hc0 : l0.length ≤ c0) (h : slices_ContainsFunc_int_int.f l0 = some r) :
    Calls Try.prog 90 #[.slice A0 l0.length c0, .func (.func 91) #[] #[]] w fun e w' => e = .returned (.bool r) ∧ Below w.heap.size w w' := by
 have HR0 := aM hr0
 have HH := aM h
 clear hr0 h
 go_enter Try.func90, Try.ntmps90
 go_wp2_with (first | (go_at_call 135; refine (slices_IndexFunc_int_int.finds A0 c0 l0 _ HR0.out).mono ?_; rintro e w' ⟨⟨q, rfl, HQ⟩, ⟨nd, rfl⟩⟩))
 go_ret
 have h1 := HH.out
 unfold slices_ContainsFunc_int_int.f at h1
 obtain rfl := Option.some.inj h1
 exact ⟨by rw [← HQ.out]; first | rfl | simp, pw_below_drewN (Below.refl _ _) _⟩
end Go.Proofs.Ytacdlipojhoilaa.Zx
