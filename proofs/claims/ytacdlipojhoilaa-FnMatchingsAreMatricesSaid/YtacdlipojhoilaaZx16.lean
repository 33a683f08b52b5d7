-- Written by hook.py, a program of this session (wip/), which runs the kit's print.py with its own parts; Lean checks it.
import Derived.Test.YtacdlipojhoilaaZx0
import Derived.Test.YtacdlipojhoilaaZx15
import Derived.Test.YtacdlipojhoilaaZxXSq
namespace Go.Proofs.Ytacdlipojhoilaa.Zx
open Go.RowKit Go.Proofs.YtacdlipojhoilaaW.PrintWords Go.Proofs.YtacdlipojhoilaaW.PrintLast Go.Proofs.YtacdlipojhoilaaW.PrintMore Go.Proofs.Ytacdlipojhoilaa.Sq
attribute [local go_sem] max2_int min2_int max_two min_two max_three min_three max_four min_four   -- for this text's walks alone
set_option linter.unusedVariables false
set_option linter.unusedSimpArgs false

def spec_DrawMatchingOfMatrix.f (k : Nat) (l0 : List Int) : Option (List (List Int)) := (spec_l1Cur_matrix.f k l0 0 0 9).bind fun b => some b.1
theorem spec_DrawMatchingOfMatrix.mono : ∀ a0 k, LeO (spec_DrawMatchingOfMatrix.f k a0) (spec_DrawMatchingOfMatrix.f (k + 1) a0) := fun a0 k => LeO.bind (spec_l1Cur_matrix.mono _ _ _ _ _) (fun _ => LeO.refl _)
set_option maxHeartbeats 8000000 in
set_option maxRecDepth 100000 in
theorem spec_DrawMatchingOfMatrix.calls (k : Nat) (A0 : Option Addr) (c0 : Nat) (l0 : List Int) (r : List (List Int)) (w : World) (hr0 : Kd.C (Kd.int .u8) w A0 l0.length l0) (hc0 : l0.length ≤ c0) (h : spec_DrawMatchingOfMatrix.f k l0 = some r) :
    Calls Try.prog 40 #[.slice A0 l0.length c0] w fun e w' => ∃ v0_ : Value, e = .returned (.agg #[v0_]) ∧ Kd.Q (Kd.slice 3 (Kd.int .i64)) 24 w' w.heap.size (fun _ => True) v0_ r ∧ Below w.heap.size w w' := by
 obtain ⟨⟨r1, r2, r3⟩, e1, e2⟩ := Option.bind_eq_some_iff.mp h
 obtain rfl := Option.some.inj e2
 clear h e2
 have HC := aM hr0
 have E1 := aM e1
 clear hr0 e1
 have sz1 : (w.alloc (.cells #[.slice none 0 0] 36)).heap.size = w.heap.size + 1 := Live.size_alloc _ _
 go_enter Try.func40, Try.ntmps40
 go_wp2_with (fail)
 refine (spec_l1Cur_matrix.calls k (w.heap.size + 1) l0 0 0 9 r1 r2 r3 w _ ⟨A0, c0, ?c1, ?c2, ?c3⟩ ?c4 E1.out).mono ?_
 case c1 => rw [← sz1]; exact blk_new _ _
 case c2 => exact Nat.le_succ _
 case c3 => exact HC.out
 case c4 => exact below_alloc (below_alloc (Below.refl _ _) _) _
 rintro e w' ⟨v0, rfl, hr, hi, hb, hk⟩
 obtain ⟨Ao, co, rfl, _⟩ := Kd.Q_slice hr
 have HR := aM hr
 have HB := aM hb
 have HK := aM (hk.blk (blk_alloc (blk_new w (.cells #[.slice none 0 0] 36)) _) (by omega) (by simp))
 have HZ := aM hk.1
 clear hr hi hb hk
 have k1 : w'.cell? ⟨w.heap.size, 0, none⟩ = some (.slice none 0 0) := blk_cell HK.out 0
 have k2 : w'.frozen? ⟨w.heap.size, 0, none⟩ = false := blk_frozen HK.out 0
 go_wp2_with (fail)
 refine bodyPost_ret (results_cell_row rfl _ _ w.heap.size 36 #[.slice Ao r1.length co] (0, 0) _ rfl (blk_put (cs := #[.slice none 0 0]) HK.out 0 _ rfl) Try.underlying36 rfl (by kernel_rfl)) rfl ?_
 have hz : w.heap.size + 2 ≤ w'.heap.size := by {
 have := HZ.out
 rw [Live.size_alloc, sz1] at this; exact this}
 refine ⟨_, rfl, ?_, below_set HB.out (Nat.le_refl _)⟩
 refine Kd.Q_lower (Kd.Q_mono (Kd.Q_far (p := ⟨w.heap.size, 0, none⟩) (Kd.Q_mono (Kd.Q_bound HR.out) (fun k_ hk_ => hk_)) (fun k_ hk_ => ?_) _) (fun _ _ => trivial)) ?_
 · {
 have := hk_.2.1
 rw [Live.size_alloc, sz1] at this
 show k_ ≠ w.heap.size
 omega}
 · rw [Live.size_alloc, sz1]; omega
def impl_ofLists.f (a0 : Int) : Option (List (List (List Int))) := if 0 ≤ a0 ∧ a0 ≤ 1000 then some (List.replicate a0.toNat (List.replicate a0.toNat [])) else none
set_option maxHeartbeats 8000000 in
set_option maxRecDepth 100000 in
open Go.Proofs.Ytacdlipojhoilaa.Live in
theorem impl_ofLists.calls (a0 : Int) (r : List (List (List Int))) (w : World) (h : impl_ofLists.f a0 = some r) :
    Calls Try.prog 130 #[.int .i64 a0] w fun e w' => ∃ v0_ : Value, e = .returned (v0_) ∧ Kd.S (sl 24 (Kd.slice 3 (Kd.int .i64))) 34 w' w.heap.size (fun _ => True) v0_ r ∧ Below w.heap.size w w' := by
 unfold impl_ofLists.f at h
 by_cases hk : 0 ≤ a0 ∧ a0 ≤ 1000
 case neg => rw [if_neg hk] at h; exact absurd h (by simp)
 rw [if_pos hk] at h
 obtain rfl := Option.some.inj h
 clear h
 obtain ⟨d, rfl⟩ : ∃ d : Nat, a0 = (d : Int) := ⟨a0.toNat, by omega⟩
 have hd : d ≤ 1000 := by omega
 clear hk
 rw [Int.toNat_natCast]
 have HB := aM (Below.refl w.heap.size w)
 go_enter Try.func130, Try.ntmps130
 go_wp2_with (first | ((with_reducible refine gate_dst (N := 4) rfl ?_); refine Kd.R_lit (Kd.tag (fun _ => 0) (sl 24 (Kd.slice 3 (Kd.int .i64)))) _ 34 ?hg (N := 4) ?hd (xs := ([] : List (List (List Int) × Nat))) (inner := []) (ok := fun _ => True) (okp := fun _ => True) ?hr ?hp (fun _ hk => hk) trivial (Below.refl _ _) (Nat.le_refl _) (by simp) ?_; (case hd => rfl); (case hg => rfl); (case hr => first | (go_simp; done) | (go_simp; rfl)); (case hp => exact (Reps.none _ _)); intro v194 w2 ho3 hb hg_ hnew_; clear hg_ hnew_; have HO195 := aM (Live.add (o := rows (sl 24 (Kd.slice 3 (Kd.int .i64))) 34 v194 []) (Live.start w) hb (show (rows (sl 24 (Kd.slice 3 (Kd.int .i64))) 34 v194 []).P _ _ (fun _ => True) from ⟨fun _ => 0, ho3⟩)); clear HB hb ho3))
 go_loopg [3, 6] (d + 1) (fun kq v3 v6 w' => ∃ i : Nat, v6 = .int .i64 (i : Int) ∧ Aside0 (i ≤ d ∧ kq = d - i + 1) ∧ Aside0 (Live w w' [rows (sl 24 (Kd.slice 3 (Kd.int .i64))) 34 v3 (List.replicate i (List.replicate d []))]))
 case atStart => exact ⟨0, rfl, ⟨Nat.zero_le _, rfl⟩, HO195⟩
 case round => (
 clear HO195
 obtain ⟨i, rfl, HI, H⟩ := hrel
 by_cases ci : i < d
 · {
 have c1 : decide ((i : Int) < (d : Int)) = true := decide_eq_true (by omega)
 have c2 : decide (i < d) = true := decide_eq_true ci
 have c3 : decide (0 ≤ (d : Int)) = true := decide_eq_true (by omega)
 have c4 : decide (d ≤ 11728124029610) = true := decide_eq_true (by omega)
 go_wp2_with (first | ((with_reducible refine gate_dst (N := 10) rfl ?_); refine Kd.S_make (Kd.slice 3 (Kd.int .i64)) _ 24 rfl (N := 10) rfl 34 _ _ rfl (d : Int) rfl rfl Try.underlying34 (.slice none 0 0) 24 (by kernel_rfl) rfl (by decide) (by omega) [] (ok := fun _ => True) (okp := fun _ => True) ⟨_, rfl, Kd.R_nil _ _ _ _ _⟩ (fun _ hk => hk) trivial (by omega) (by omega) (Below.refl _ _) (Nat.le_refl _) ?_; intro v197 w8 ho9 hb hg_ hnew_; clear hg_ hnew_; rw [Int.toNat_natCast] at ho9; have H2 := aM (Live.add (o := rows (Kd.slice 3 (Kd.int .i64)) 24 v197 (List.replicate d [])) H.out hb ho9); clear ho9 hb; obtain ⟨A4, c4_, rfl, _, _⟩ := H2.out.forms 1 rfl; rw [List.length_replicate] at H2 ⊢) | ((with_reducible refine gate_builtin (b := .append) (xs := #[.tmp 8, .tmp 11]) rfl ?_); at_builtin; obtain ⟨ok_, okl_, ho_, hp_, hd_, hbd_, hback_⟩ := H2.out.lend2 0 1 rfl rfl (by decide); refine Kd.S_append (sl 24 (Kd.slice 3 (Kd.int .i64))) (w0 := w) w.heap.size rfl (.tmp 8) (.tmp 11) 110 34 (.slice none 0 0) 24 rfl Try.underlying110 (by kernel_rfl) rfl (by decide) (by omega) u3 (List.replicate i (List.replicate d [])) (List.replicate d []) [.slice A4 d c4_] (fun k_ => ok_ k_ ∨ okl_ k_ ∨ w8.heap.size ≤ k_) okl_ rfl rfl ⟨_, rfl, hp_⟩ (fun k_ hk_ => ⟨.inr (.inl hk_), fun he_ => hd_ k_ hk_ ((Kd.S_R ho_).1 k_ he_.symm)⟩) (fun k_ hk_ => .inr (.inr hk_)) (Kd.S_mono ho_ (fun k_ hk_ => ⟨.inl hk_, fun h2_ => hd_ k_ h2_ hk_⟩)) H2.out.below H2.out.below.size (by rw [List.length_replicate]; omega) ?_; intro v200 w10 hs_ hb_ hg_ hat_; have H3 := aM (hback_ w10 (rows (sl 24 (Kd.slice 3 (Kd.int .i64))) 34 v200 (List.replicate i (List.replicate d []) ++ [List.replicate d []])) hb_ (Kept.of_grown hg_ (Kept.refl w8 _) (fun k_ hk_ => .inl (.inl ((Kd.S_R ho_).1 k_ hk_)))) hs_); clear hs_ hb_ hg_ hat_ hback_ hbd_ hd_ hp_ ho_))
 go_roundg (d - i)
 case measure => have := HI.out; omega
 case rel => (
 have H4 := aM (H3.out.keep 1)
 exact ⟨i + 1, by first | rfl | simp, ⟨by omega, by omega⟩, ⟨by rw [List.replicate_succ']; exact H4.out⟩⟩)}
 · {
 have c1 : decide ((i : Int) < (d : Int)) = false := decide_eq_false (by omega)
 have c2 : decide (i < d) = false := decide_eq_false ci
 obtain rfl : i = d := by have := HI.out; omega
 go_wp2
 go_ret
 exact ⟨_, rfl, H.out.get 0 rfl, H.out.below⟩})
end Go.Proofs.Ytacdlipojhoilaa.Zx
