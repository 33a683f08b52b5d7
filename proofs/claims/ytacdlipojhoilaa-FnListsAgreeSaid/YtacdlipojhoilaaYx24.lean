-- Written by hook.py, a program of this session (wip/), which runs the kit's print.py with its own parts; Lean checks it.
import Derived.Test.YtacdlipojhoilaaYx0
import Derived.Test.YtacdlipojhoilaaYx1
import Derived.Test.YtacdlipojhoilaaYx4
import Derived.Test.YtacdlipojhoilaaYx6
import Derived.Test.YtacdlipojhoilaaYx9
import Derived.Test.YtacdlipojhoilaaYx10
import Derived.Test.YtacdlipojhoilaaYx12
import Derived.Test.YtacdlipojhoilaaYx20
import Derived.Test.YtacdlipojhoilaaYx21
import Derived.Test.YtacdlipojhoilaaYx23
import Derived.Test.YtacdlipojhoilaaYxXSq
namespace Go.Proofs.Ytacdlipojhoilaa.Yx
open Go.RowKit Go.Proofs.YtacdlipojhoilaaW.PrintWords Go.Proofs.YtacdlipojhoilaaW.PrintLast Go.Proofs.YtacdlipojhoilaaW.PrintMore Go.Proofs.Ytacdlipojhoilaa.Sq
attribute [local go_sem] max2_int min2_int max_two min_two max_three min_three max_four min_four   -- for this text's walks alone
set_option linter.unusedVariables false
set_option linter.unusedSimpArgs false

def impl_FlattenMatrix.flatRow (r : List Int) : List Int := r.map fun n => if 1 < n then 1 else n
def impl_FlattenMatrix.flatR (i : Nat) (r : List Int) : List Int := impl_FlattenMatrix.flatRow (r.take i) ++ r.drop i
def impl_FlattenMatrix.flatN (i : Nat) (o : List (List Int)) : List (List Int) := (o.take i).map impl_FlattenMatrix.flatRow ++ o.drop i
def impl_FlattenMatrix.f (k : Nat) (l0 : List (List Int)) : Option (List (List Int) × Bool) := (impl_IsMatrix.f k l0).bind fun t => if t = true then (impl_Matrix_own.f k l0).bind fun o => (if o.length ≤ 1048576 ∧ (∀ r ∈ o, r.length ≤ 1048576) then some (o.map impl_FlattenMatrix.flatRow, true) else none) else some (([] : List (List Int)), false)
set_option maxHeartbeats 8000000 in
set_option maxRecDepth 100000 in
theorem impl_FlattenMatrix.calls (k : Nat) (A0 : Option Addr) (c0 : Nat) (l0 : List (List Int)) (r1 : List (List Int)) (r2 : Bool) (w : World) (hr0 : Kd.C (Kd.slice 3 (Kd.int .i64)) w A0 l0.length l0) (hc0 : l0.length ≤ c0) (h : impl_FlattenMatrix.f k l0 = some (r1, r2)) :
    Calls Try.prog 69 #[.agg #[.slice A0 l0.length c0]] w fun e w' => ∃ v0_ : Value, e = .returned (.tuple #[.agg #[v0_], .bool r2]) ∧ Kd.S (Kd.slice 3 (Kd.int .i64)) 24 w' w.heap.size (fun _ => True) v0_ r1 ∧ Below w.heap.size w w' := by
 have HC0 := aM hr0; have HL0 := aM hc0; clear hr0 hc0
 have HB := aM (Below.refl w.heap.size w)
 obtain ⟨t, e1, H⟩ := Option.bind_eq_some_iff.mp (show (impl_IsMatrix.f k l0).bind (fun t => if t = true then (impl_Matrix_own.f k l0).bind fun o => (if o.length ≤ 1048576 ∧ (∀ r ∈ o, r.length ≤ 1048576) then some (o.map impl_FlattenMatrix.flatRow, true) else none) else some (([] : List (List Int)), false)) = some (r1, r2) from h)
 clear h
 have E1 := aM e1; clear e1
 have sz1 : (w.alloc (.cells #[.slice A0 l0.length c0] 36)).heap.size = w.heap.size + 1 := by rw [World.alloc]; exact Array.size_push _
 cases t with
 | false => {
 obtain ⟨rfl, rfl⟩ := Prod.mk.inj (Option.some.inj H)
 clear H
 go_enter Try.func69, Try.ntmps69
 go_wp2_with (fail)
 refine (impl_IsMatrix.calls k A0 c0 l0 false _ ?s1 HL0.out E1.out).mono ?_
 case s1 => exact Kd.C_below HC0.out (by repeat (first | exact HB.out | apply below_alloc | apply pw_below_drewN | apply below_drew1))
 rintro e w1 ⟨rfl, hb⟩
 have _ := aM (below_step (by repeat (first | exact HB.out | apply below_alloc | apply pw_below_drewN | apply below_drew1)) hb)
 have BR := aM (Mem.X.below (Mem.X.new (w.alloc (.cells #[.slice A0 l0.length c0] 36)) #[.slice none 0 0] 36) hb)
 clear HB hb; rename_i HB
 rw [sz1] at BR
 have c2 : w1.cell? ⟨w.heap.size + 1, 0, none⟩ = some (.slice none 0 0) := (BR.out.cell 0).trans rfl
 have f2 : w1.frozen? ⟨w.heap.size + 1, 0, none⟩ = false := blk_frozen BR.out.blk 0
 go_wp2_with (fail)
 refine bodyPost_ret (results_ct rfl _ _ (w.heap.size + 1) 36 #[.slice none 0 0] (0, 0) _ rfl (blk_put (cs := #[.slice none 0 0]) BR.out.blk 0 _ rfl) Try.underlying36 rfl (by kernel_rfl)) rfl ?_
 exact ⟨_, rfl, Kd.S_nil _ _ _ _ _, below_set HB.out (by simp)⟩}
 | true => {
 obtain ⟨o, e2, H⟩ := Option.bind_eq_some_iff.mp (show (impl_Matrix_own.f k l0).bind (fun o => (if o.length ≤ 1048576 ∧ (∀ r ∈ o, r.length ≤ 1048576) then some (o.map impl_FlattenMatrix.flatRow, true) else none)) = some (r1, r2) from H)
 by_cases hsm : o.length ≤ 1048576 ∧ (∀ r ∈ o, r.length ≤ 1048576)
 case neg => rw [if_neg hsm] at H; exact absurd H (by simp)
 rw [if_pos hsm] at H
 have SM := aM hsm; clear hsm
 obtain ⟨rfl, rfl⟩ := Prod.mk.inj (Option.some.inj H)
 clear H
 have E2 := aM e2; clear e2
 go_enter Try.func69, Try.ntmps69
 go_wp2_with (fail)
 refine (impl_IsMatrix.calls k A0 c0 l0 true _ ?s1 HL0.out E1.out).mono ?_
 case s1 => exact Kd.C_below HC0.out (by repeat (first | exact HB.out | apply below_alloc | apply pw_below_drewN | apply below_drew1))
 rintro e w1 ⟨rfl, hb⟩
 have _ := aM (below_step (by repeat (first | exact HB.out | apply below_alloc | apply pw_below_drewN | apply below_drew1)) hb)
 have BA := aM (Mem.X.below (Mem.X.alloc (Mem.X.new w #[.slice A0 l0.length c0] 36) (.cells #[.slice none 0 0] 36)) hb)
 have BR := aM (Mem.X.below (Mem.X.new (w.alloc (.cells #[.slice A0 l0.length c0] 36)) #[.slice none 0 0] 36) hb)
 clear HB hb; rename_i HB
 rw [sz1] at BR
 have c1 : w1.cell? ⟨w.heap.size, 0, none⟩ = some (.slice A0 l0.length c0) := (BA.out.cell 0).trans rfl
 go_wp2_with (fail)
 refine (impl_Matrix_own.calls k A0 c0 l0 o _ ?s1 HL0.out E2.out).mono ?_
 case s1 => exact Kd.C_below HC0.out HB.out
 rintro e w2 ⟨v_, rfl, hs_, hb⟩
 obtain ⟨lo, hi, oa_, ob_, hm_⟩ := Mem.S.made' (w.heap.size + 2) hs_ HB.out hb BR.out.lt
 clear hs_
 obtain ⟨Ao, co, rfl, _, _⟩ := hm_.reads
 have _ := aM (below_step HB.out hb)
 have _ := aM (Mem.X.below BA.out hb)
 have _ := aM (Mem.X.below BR.out hb)
 have HS := aM hm_
 clear HB BA BR hb c1 hm_; rename_i HB BA BR
 have OA := aM oa_; have OB := aM ob_; clear oa_ ob_
 go_wp2_with (fail)
 have _ := aM (below_alloc HB.out (.cells #[.slice Ao o.length co] 36))
 have _ := aM (Mem.X.alloc BA.out (.cells #[.slice Ao o.length co] 36))
 have _ := aM (Mem.X.alloc BR.out (.cells #[.slice Ao o.length co] 36))
 have _ := aM (Mem.S.alloc HS.out (.cells #[.slice Ao o.length co] 36))
 have BO := aM (Mem.X.new w2 #[.slice Ao o.length co] 36)
 have OC := aM HS.out.size
 clear HB BA BR HS H; rename_i HB BA BR HS
 go_loopg [18] (o.length + 1) (fun kq v18 w' => ∃ i : Nat, v18 = .int .i64 (i : Int) ∧ Aside0 (i ≤ o.length ∧ kq = o.length - i + 1) ∧ Aside0 (Mem.S (Kd.slice 3 (Kd.int .i64)) 24 w w' lo hi (.slice Ao o.length co) (impl_FlattenMatrix.flatN i o)) ∧ Aside0 (Mem.X w' w.heap.size #[.slice A0 l0.length c0] 36) ∧ Aside0 (Mem.X w' (w.heap.size + 1) #[.slice none 0 0] 36) ∧ Aside0 (Mem.X w' w2.heap.size #[.slice Ao o.length co] 36) ∧ Aside0 (Below w.heap.size w w'))
 case atStart => exact ⟨0, rfl, ⟨Nat.zero_le _, rfl⟩, ⟨by simpa [impl_FlattenMatrix.flatN] using HS.out⟩, BA, BR, BO, HB⟩
 case round => (
 clear HB BA BR HS BO
 obtain ⟨i, rfl, HI, HS, BA, BR, BO, HB⟩ := hrel
 rename World => wq
 by_cases ci : i < o.length
 · {
 have c1 : decide ((i : Int) < (o.length : Int)) = true := decide_eq_true (by omega)
 have c2 : decide (i < o.length) = true := decide_eq_true ci
 have e1 : (impl_FlattenMatrix.flatN i o).length = o.length := Mem.part_len _ _ _
 obtain ⟨go1, co1, eo1, gb1, gl1, cl1, HG1⟩ := Kd.S_form HS.out.rows (by omega)
 injection eo1 with ea en ec
 subst ea
 subst ec
 clear en gb1 gl1 HG1
 obtain ⟨oki, ce, hcl, hM, hcc, hfr, hoki, hH⟩ := Kd.S_elem HS.out.rows [] (i : Int) (by omega) (by omega)
 obtain ⟨ve, rfl, hR⟩ := hM
 have hx := hcc 0 ve rfl
 simp only [show (Kd.slice 3 (Kd.int .i64)).sz = 1 from rfl, Nat.mul_one, Nat.add_zero, Int.toNat_natCast] at hx
 rw [Int.toNat_natCast, show (impl_FlattenMatrix.flatN i o).getD i [] = o.getD i [] from Mem.part_get _ _ _ _ ci] at hR
 obtain ⟨r, hr⟩ : ∃ r, r = o.getD i [] := ⟨_, rfl⟩
 rw [← hr] at hR
 obtain ⟨Ai, ci_, rfl⟩ := Kd.R_slice hR
 have HR := aM (show (Kd.int .i64).R 3 wq w.heap.size oki (.slice Ai r.length ci_) r from hR)
 have HH := aM hH
 have HO := aM hoki
 have HQ := aM hr
 clear hcl hcc hfr hoki hH hR hr
 go_wp2_with (fail)
 go_loopg [24] (r.length + 1) (fun kq v24 w' => ∃ j : Nat, v24 = .int .i64 (j : Int) ∧ Aside0 (j ≤ r.length ∧ kq = r.length - j + 1) ∧ Aside0 ((Kd.int .i64).R 3 w' w.heap.size oki (.slice Ai r.length ci_) (impl_FlattenMatrix.flatR j r)) ∧ Aside0 (Kept wq w' oki) ∧ Aside0 (Below w.heap.size w w'))
 case atStart => exact ⟨0, rfl, ⟨Nat.zero_le _, rfl⟩, ⟨by simpa [impl_FlattenMatrix.flatR, impl_FlattenMatrix.flatRow] using HR.out⟩, ⟨Kept.refl _ _⟩, HB⟩
 case round => (
 clear HB HR
 obtain ⟨j, rfl, HJ, HR, HK, HB⟩ := hrel
 by_cases cj : j < r.length
 · {
 have d1 : decide ((j : Int) < (r.length : Int)) = true := decide_eq_true (by omega)
 have d2 : decide (j < r.length) = true := decide_eq_true cj
 have e2 : (impl_FlattenMatrix.flatR j r).length = r.length := Mem.part_len _ _ _
 obtain ⟨go2, co2, eo2, gb2, gl2, cl2, HG2⟩ := Kd.R_form HR.out (by omega)
 injection eo2 with ea en ec
 subst ea
 subst ec
 clear en gl2 HG2
 have GB := aM gb2; clear gb2
 obtain ⟨hx2, hf2⟩ := Kd.R_celln 0 HR.out (j : Int) (by omega) (by omega)
 have hv : rdOf 0 (impl_FlattenMatrix.flatR j r) (j : Int) = r.getD j 0 := by {
 show (impl_FlattenMatrix.flatR j r).getD (j : Int).toNat 0 = _
 rw [Int.toNat_natCast]; exact Mem.part_get _ _ _ _ cj}
 rw [hv] at hx2
 rw [Int.toNat_natCast] at hx2 hf2
 obtain ⟨n, hn⟩ : ∃ n, n = r.getD j 0 := ⟨_, rfl⟩
 rw [← hn] at hx2
 have hP : ∀ x : Int, (if 1 < n then 1 else n) = x → (Kd.int .i64).R 3 (wr.setCell ⟨go2, j, none⟩ (.int .i64 x)) w.heap.size oki (.slice (some ⟨go2, 0, none⟩) r.length ci_) (impl_FlattenMatrix.flatR (j + 1) r) ∧ wr.grownBy (wr.setCell ⟨go2, j, none⟩ (.int .i64 x)) (some go2) := by {
 rintro x rfl
 have HP := Kd.R_putg HR.out (j : Int) (if 1 < n then 1 else n)
 rw [Int.toNat_natCast] at HP
 rw [show impl_FlattenMatrix.flatR (j + 1) r = _ from (Mem.part_set (fun n => if 1 < n then 1 else n) j r 0 cj).symm, ← hn]
 exact HP}
 have hn2 : n = r[j] := by rw [hn, List.getD_eq_getElem?_getD, List.getElem?_eq_getElem cj]; rfl
 have HP1 : Aside0 (1 < r[j] → _) := ⟨fun h_ => hP 1 (by rw [hn2, if_pos h_])⟩
 have HP2 : Aside0 (r[j] ≤ 1 → _) := ⟨fun h_ => hP r[j] (by rw [hn2, if_neg (by omega)])⟩
 have hrl : r.length ≤ 1048576 := SM.out.2 r (by rw [HQ.out, List.getD_eq_getElem?_getD, List.getElem?_eq_getElem ci]; exact List.getElem_mem ci)
 have HW : Aside0 (Value.int .i64 (wrap64 ((j : Int) + 1)) = .int .i64 ((j + 1 : Nat) : Int)) := ⟨by rw [show wrap64 ((j : Int) + 1) = ((j + 1 : Nat) : Int) from by unfold wrap64; omega]⟩
 have HJ1 : Aside0 (j + 1 ≤ r.length ∧ r.length - j = r.length - (j + 1) + 1) := ⟨by omega⟩
 have HM : Aside0 (r.length - j < r.length - j + 1) := ⟨by omega⟩
 have HJ2 := HJ.out.2
 clear hP hrl e1 e2 sz1
 go_wp2_with (fail)
 all_goals (go_roundg (r.length - j))
 all_goals (try (case measure => first | exact HM.out | (rw [HJ.out.2]; exact HM.out)))
 · exact ⟨j + 1, HW.out, HJ1, ⟨(HP1.out (by assumption)).1⟩, ⟨Kept.of_grown (HP1.out (by assumption)).2 HK.out (fun k_ e_ => .inl (HR.out.1 k_ e_))⟩, ⟨below_set HB.out GB.out⟩⟩
 · exact ⟨j + 1, HW.out, HJ1, ⟨(HP2.out (by assumption)).1⟩, ⟨Kept.of_grown (HP2.out (by assumption)).2 HK.out (fun k_ e_ => .inl (HR.out.1 k_ e_))⟩, ⟨below_set HB.out GB.out⟩⟩}
 · {
 have d1 : decide ((j : Int) < (r.length : Int)) = false := decide_eq_false (by omega)
 have d2 : decide (j < r.length) = false := decide_eq_false cj
 go_wp2
 go_roundg (o.length - i)
 case measure => have := HI.out; omega
 case rel => (
 have ej : impl_FlattenMatrix.flatR j r = impl_FlattenMatrix.flatRow r := by {
 have : j = r.length := by have := HJ.out; omega
 rw [this]; simp [impl_FlattenMatrix.flatR]}
 refine ⟨i + 1, ?_, ⟨by omega, by omega⟩, ⟨Mem.S.write HS.out (hk := HK.out.mono (fun k_ hk_ => (HO.out k_ hk_).1)) ?_⟩, ⟨Mem.X.kept BA.out (HK.out.mono (fun k_ hk_ => (HO.out k_ hk_).1)) (by have := OA.out; omega)⟩, ⟨Mem.X.kept BR.out (HK.out.mono (fun k_ hk_ => (HO.out k_ hk_).1)) (by have := OA.out; omega)⟩, ⟨Mem.X.kept BO.out (HK.out.mono (fun k_ hk_ => (HO.out k_ hk_).1)) (by have := OC.out; omega)⟩, HB⟩
 · {
 have := SM.out.1
 rw [show wrap64 ((i : Int) + 1) = ((i + 1 : Nat) : Int) from by unfold wrap64; omega]}
 · {
 have := Kd.H_back (Kd.H_kept HH.out HK.out (fun _ _ hn => hn)) (Kd.M_row (Kd.R_reok rfl HR.out (fun k_ hk_ => HR.out.1 k_ hk_))) (fun _ hk_ => hk_)
 rw [ej, HQ.out, Int.toNat_natCast] at this
 rw [show impl_FlattenMatrix.flatN (i + 1) o = _ from (Mem.part_set impl_FlattenMatrix.flatRow i o [] ci).symm]
 exact this})})}
 · {
 have c1 : decide ((i : Int) < (o.length : Int)) = false := decide_eq_false (by omega)
 have c2 : decide (i < o.length) = false := decide_eq_false ci
 have cO : wq.cell? ⟨w2.heap.size, 0, none⟩ = some (.slice Ao o.length co) := (BO.out.cell 0).trans rfl
 have cR : wq.cell? ⟨w.heap.size + 1, 0, none⟩ = some (.slice none 0 0) := (BR.out.cell 0).trans rfl
 have fR : wq.frozen? ⟨w.heap.size + 1, 0, none⟩ = false := blk_frozen BR.out.blk 0
 go_wp2_with (fail)
 refine bodyPost_ret (results_ct rfl _ _ (w.heap.size + 1) 36 #[.slice Ao o.length co] (0, 0) _ rfl (blk_put (cs := #[.slice none 0 0]) BR.out.blk 0 _ rfl) Try.underlying36 rfl (by kernel_rfl)) rfl ?_
 have ei : impl_FlattenMatrix.flatN i o = o.map impl_FlattenMatrix.flatRow := by {
 have : i = o.length := by have := HI.out; omega
 rw [this]; simp [impl_FlattenMatrix.flatN]}
 refine ⟨_, rfl, ?_, below_set HB.out (by simp)⟩
 rw [← ei]
 exact Kd.S_mono (Kd.S_far (p := ⟨w.heap.size + 1, 0, none⟩) HS.out.rows (fun k_ hk_ => by have := OA.out; show k_ ≠ w.heap.size + 1; omega) _) (fun _ _ => trivial)})}
def laws_FnListsAgree.Round (k : Nat) (ts ls : List (List Int)) (ms : List S36) (cnt : Nat → Nat) (i : Nat) : Prop :=
  (0 < i → laws_pLess.f k (ls.getD (i - 1) []) (ls.getD i []) = some true) ∧ ∃ (M M2 F : List (List Int)) (b : Bool),
    impl_MatrixOfMatching.f k (ts.getD i []) = some (M, true) ∧ impl_MatrixOfAscent.f k (ls.getD i []) = some (M2, true) ∧ laws_pSameMatrix.f k M (rd_T36 ms (i : Int)).f0 = some true ∧ laws_pSameMatrix.f k M2 M = some true ∧
    impl_FlattenMatrix.f k M = some (F, true) ∧ laws_pSameMatrix.f k F M = some b ∧ cnt (i + 1) = if b = true then cnt i + 1 else cnt i
def laws_FnListsAgree.Good (k : Nat) (l0 l1 : List Int) : Prop :=
  laws_big.f l0 l1 = some true ∨ (laws_big.f l0 l1 = some false ∧ ∃ (n : Int) (ts ts2 ls : List (List Int)) (ms : List S36) (ok : Bool),
    spec_DrawListTidy.f l0 = some n ∧ impl_ListTidy.f k n = some (ts, ok) ∧ spec_ListTidy.f k n = some (ts2, ok) ∧ impl_ListMatrices.f k n = some (ms, ok) ∧ impl_ListAscents.f n = some (ls, ok) ∧ laws_pSameLists.f k ts ts2 = some true ∧
    (ok = true → ∃ cnt : Nat → Nat, impl_CountAscents.f n = some ((ts.length : Int), true) ∧ impl_CountFlat.f n = some ((cnt ts.length : Int), true) ∧ ms.length = ts.length ∧ ls.length = ts.length ∧ ts.length ≤ 100000 ∧ cnt 0 = 0 ∧ (∀ i, i ≤ ts.length → cnt i ≤ 100000) ∧ ∀ i, i < ts.length → laws_FnListsAgree.Round k ts ls ms cnt i))
open Go.Proofs.Ytacdlipojhoilaa.Live in
set_option maxHeartbeats 8000000 in
set_option maxRecDepth 100000 in
theorem laws_FnListsAgree.calls (k : Nat) (A0 : Option Addr) (c0 : Nat) (l0 : List Int) (A1 : Option Addr) (c1 : Nat) (l1 : List Int) (w : World) (hr0 : Kd.C (Kd.int .u8) w A0 l0.length l0) (hc0 : l0.length ≤ c0) (hr1 : Kd.C (Kd.int .u8) w A1 l1.length l1) (hc1 : l1.length ≤ c1) (h : laws_FnListsAgree.Good k l0 l1) :
    Calls Try.prog 10 #[.slice A0 l0.length c0, .slice A1 l1.length c1] w fun e w' => e = .returned (.bool true) ∧ Below w.heap.size w w' := by
 have HC0 := aM hr0
 have HC1 := aM hr1
 have HL0 := aM hc0
 have HL1 := aM hc1
 clear hr0 hr1 hc0 hc1
 rcases h with hb | ⟨hb, n, ts, ts2, ls, ms, ok, e1, e2, e3, e4, e5, e6, hrest⟩
 · {
 have HB := aM hb
 clear hb
 go_enter Try.func10, Try.ntmps10
 go_wp2_with (fail)
 refine (laws_big.calls A0 c0 l0 A1 c1 l1 true _ HC0.out HL0.out HC1.out HL1.out HB.out).mono ?_
 rintro e w1 ⟨rfl, ⟨q, rfl⟩⟩
 go_wp2_with (fail)
 go_ret
 exact ⟨rfl, pw_below_drewN (Below.refl _ _) _⟩}
 have HB := aM hb
 have E1 := aM e1
 have E2 := aM e2
 have E3 := aM e3
 have E4 := aM e4
 have E5 := aM e5
 have E6 := aM e6
 have HR := aM hrest
 clear hb e1 e2 e3 e4 e5 e6 hrest
 go_enter Try.func10, Try.ntmps10
 go_wp2_with (fail)
 refine (laws_big.calls A0 c0 l0 A1 c1 l1 false _ HC0.out HL0.out HC1.out HL1.out HB.out).mono ?_
 rintro e w1 ⟨rfl, ⟨q, rfl⟩⟩
 have H1 := aM ((Live.start w).drewN q)
 have HD := aM (Kd.C_drewN HC0.out q)
 go_wp2_with (fail)
 refine (spec_DrawListTidy.calls A0 c0 l0 n _ HD.out HL0.out E1.out).mono ?_
 rintro e w2 ⟨rfl, hb⟩
 have H2 := aM (H1.out.step hb)
 clear hb H1 HD
 go_wp2_with (fail)
 refine (impl_ListTidy.calls k n ts ok _ E2.out).mono ?_
 rintro e w3 ⟨v1, rfl, hs, hb⟩
 have H3 := aM (Live.add (o := rows (Kd.slice 3 (Kd.int .i64)) 24 v1 ts) H2.out hb hs)
 clear hs hb H2
 obtain ⟨At, ct, rfl, _, _⟩ := H3.out.forms 0 rfl
 go_wp2_with (fail)
 refine (spec_ListTidy.calls k n ts2 ok _ E3.out).mono ?_
 rintro e w4 ⟨v2, rfl, hs, hb⟩
 have H4 := aM (Live.add (o := rows (Kd.slice 3 (Kd.int .i64)) 24 v2 ts2) H3.out hb hs)
 clear hs hb H3
 obtain ⟨As, cs, rfl, _, _⟩ := H4.out.forms 1 rfl
 go_wp2_with (fail)
 refine (impl_ListMatrices.calls k n ms ok _ E4.out).mono ?_
 rintro e w5 ⟨v3, rfl, hs, hb⟩
 have H5 := aM (Live.add (o := row k36 36 v3 ms) H4.out hb hs)
 clear hs hb H4
 obtain ⟨Am, cm, rfl, _, _⟩ := H5.out.form 2 rfl
 go_wp2_with (fail)
 refine (impl_ListAscents.calls n ls ok _ E5.out).mono ?_
 rintro e w6 ⟨v4, rfl, hs, hb⟩
 have H6 := aM (Live.add (o := rows (Kd.slice 3 (Kd.int .i64)) 24 v4 ls) H5.out hb hs)
 clear hs hb H5
 obtain ⟨Al, cl, rfl, _, _⟩ := H6.out.forms 3 rfl
 cases ok with
 | false => {
 go_wp2_with (fail)
 refine (laws_pSameLists.calls k At ct ts As cs ts2 true _ (H6.out.nows 0 rfl).2.2 (H6.out.nows 0 rfl).2.1 (H6.out.nows 1 rfl).2.2 (H6.out.nows 1 rfl).2.1 E6.out).mono ?_
 rintro e w7 ⟨rfl, ⟨q2, rfl⟩⟩
 go_wp2_with (fail)
 go_ret
 exact ⟨rfl, (H6.out.drewN q2).below⟩}
 | true => {
 obtain ⟨cnt, e7, e8, e9, e10, e11, e12, e13, e14⟩ := HR.out rfl
 have E7 := aM e7
 have E8 := aM e8
 have E11 := aM e11
 have E12 := aM e12
 have E13 := aM e13
 have E14 := aM e14
 have E9 := aM e9
 have E10 := aM e10
 clear HR e7 e8 e11 e12 e13 e14 e9 e10
 go_wp2_with (fail)
 refine (laws_pSameLists.calls k At ct ts As cs ts2 true _ (H6.out.nows 0 rfl).2.2 (H6.out.nows 0 rfl).2.1 (H6.out.nows 1 rfl).2.2 (H6.out.nows 1 rfl).2.1 E6.out).mono ?_
 rintro e w7 ⟨rfl, ⟨q2, rfl⟩⟩
 have H7 := aM (H6.out.drewN q2)
 clear H6
 go_wp2_with (fail)
 refine (impl_CountAscents.calls n _ true _ E7.out).mono ?_
 rintro e w8 ⟨rfl, hb⟩
 have H8 := aM (H7.out.step hb)
 clear hb H7
 go_wp2_with (fail)
 refine (impl_CountFlat.calls n _ true _ E8.out).mono ?_
 rintro e w9 ⟨rfl, hb⟩
 have h9 := H8.out.step hb
 rw [E9.out, E10.out] at h9
 have H9 := aM h9
 clear hb H8 h9
 rw [E9.out, E10.out]
 go_wp2_with (fail)
 have e00 : Value.int .i64 0 = .int .i64 (cnt 0 : Int) := by rw [E12.out]; rfl
 go_loopg [18, 109] (ts.length + 1) (fun kq v18 v109 w' => ∃ i : Nat, v18 = .int .i64 (cnt i : Int) ∧ v109 = .int .i64 (i : Int) ∧ Aside0 (i ≤ ts.length ∧ kq = ts.length - i + 1) ∧ Aside0 (Live w w' [rows (Kd.slice 3 (Kd.int .i64)) 24 (.slice At ts.length ct) ts, rows (Kd.slice 3 (Kd.int .i64)) 24 (.slice As ts2.length cs) ts2, row k36 36 (.slice Am ts.length cm) ms, rows (Kd.slice 3 (Kd.int .i64)) 24 (.slice Al ts.length cl) ls]))
 case atStart => exact ⟨0, e00, rfl, ⟨Nat.zero_le _, rfl⟩, H9⟩
 case round => (
 clear H9 e00
 obtain ⟨i, rfl, rfl, HI, H0⟩ := hrel
 by_cases ci : i < ts.length
 · {
 obtain ⟨hless, M, M2, F, b, m1, m2, m3, m4, m5, m6, m7⟩ := E14.out i ci
 have M1 := aM m1
 have M2' := aM m2
 have M3 := aM m3
 have M4 := aM m4
 have M5 := aM m5
 have M6 := aM m6
 have M7 := aM m7
 have HLS := aM hless
 have LI := aM (show i < ls.length by rw [E10.out]; exact ci)
 have MI := aM (show i < ms.length by rw [E9.out]; exact ci)
 have HCI := aM (E13.out i (by omega))
 clear m1 m2 m3 m4 m5 m6 m7 hless
 have d1 : decide ((i : Int) < (ts.length : Int)) = true := decide_eq_true (by omega)
 have d2 : decide (0 ≤ (i : Int)) = true := decide_eq_true (by omega)
 have d3 : decide (i < ts.length) = true := decide_eq_true ci
 obtain ⟨ad, A2, c2, hA, hx, hl2, hi2⟩ := C_row (H0.out.nows 0 rfl).2.2 i ci
 have HC2 := aM hl2
 have HI2 := aM hi2
 obtain ⟨ae, A3, c3, hA3, hx3, hl3, hi3⟩ := C_row (H0.out.nows 3 rfl).2.2 i LI.out
 have HC3 := aM hl3
 have HI3 := aM hi3
 clear hl2 hi2 hl3 hi3
 subst hA hA3
 obtain ⟨p, hp⟩ : ∃ p, p = ts.getD i [] := ⟨_, rfl⟩
 obtain ⟨x, hx0⟩ : ∃ x, x = ls.getD i [] := ⟨_, rfl⟩
 rw [← hp] at hx HC2 HI2 M1
 rw [← hx0] at hx3 HC3 HI3 M2' HLS
 have HXE := aM hx0
 clear hp hx0
 go_wp2_with (fail)
 go_cut [128] (fun s128 wx => s128 = .bool false ∧ Aside0 (Live w wx [rows (Kd.slice 3 (Kd.int .i64)) 24 (.slice (some ad) ts.length ct) ts, rows (Kd.slice 3 (Kd.int .i64)) 24 (.slice As ts2.length cs) ts2, row k36 36 (.slice Am ts.length cm) ms, rows (Kd.slice 3 (Kd.int .i64)) 24 (.slice (some ae) ts.length cl) ls]) ∧ Aside0 (Kd.C (Kd.int .i64) wx A2 p.length p))
 case first => (
 by_cases cp : 0 < i
 · {
 have p1 : decide (0 < (i : Int)) = true := decide_eq_true (by omega)
 have p2 : decide (0 < i) = true := decide_eq_true cp
 have p3 : decide ((i : Int) > 0) = true := decide_eq_true (by omega)
 have p4 : wrap64 ((i : Int) - 1) = ((i - 1 : Nat) : Int) := by {
 have := HI.out.1; have := E11.out
 unfold wrap64; omega}
 have p5 : IntKind.i64.wrap ((i : Int) - 1) = ((i - 1 : Nat) : Int) := (i64_w _).trans p4
 have p6 : decide (0 ≤ ((i - 1 : Nat) : Int)) = true := decide_eq_true (by omega)
 have p7 : decide (((i - 1 : Nat) : Int) < (ts.length : Int)) = true := decide_eq_true (by omega)
 have p8 : decide (i - 1 < ts.length) = true := decide_eq_true (by omega)
 have p9 : (0 : Int) ≤ ((i - 1 : Nat) : Int) := by omega
 have p10 : ((i - 1 : Nat) : Int) < (ts.length : Int) := by omega
 have p11 : (0 : Int) ≤ (i : Int) := by omega
 have p12 : (i : Int) < (ts.length : Int) := by omega
 obtain ⟨af, A4, c4, hA4, hx4, hl4, hi4⟩ := C_row (H0.out.nows 3 rfl).2.2 (i - 1) (by have := LI.out; omega)
 have HC4 := aM hl4
 have HI4 := aM hi4
 clear hl4 hi4
 obtain rfl := Option.some.inj hA4
 clear hA4
 have HP := aM (HLS.out cp)
 go_region_held3 (fun w' => w'.cell? (ae.add i) = some (.slice A3 x.length c3) ∧ w'.cell? (ae.add (i - 1)) = some (.slice A4 (ls.getD (i - 1) []).length c4) ∧ Live w w' [rows (Kd.slice 3 (Kd.int .i64)) 24 (.slice (some ad) ts.length ct) ts, rows (Kd.slice 3 (Kd.int .i64)) 24 (.slice As ts2.length cs) ts2, row k36 36 (.slice Am ts.length cm) ms, rows (Kd.slice 3 (Kd.int .i64)) 24 (.slice (some ae) ts.length cl) ls]) (refine ⟨?_, ?_, ?_⟩ <;> first | assumption | exact hx3 | exact hx4 | exact hx3.trans rfl | exact hx4.trans rfl | ((repeat (first | assumption | exact H0.out | apply Live.alloc | apply Live.drew | apply Live.drewN)); done)) (first | (go_at_call 68; refine (laws_pLess.calls k A4 c4 _ A3 c3 _ true _ ?c1 HC4.out ?c2 HC3.out HP.out).mono ?_; (case c1 => (repeat (first | assumption | exact HI3.out | exact HI4.out | apply Kd.C_drewN | apply Kd.C_drew))); (case c2 => (repeat (first | assumption | exact HI3.out | exact HI4.out | apply Kd.C_drewN | apply Kd.C_drew))); rintro e w2 ⟨rfl, ⟨q3, rfl⟩⟩))
 all_goals (go_wp2_with fail; go_meet)
 all_goals exact ⟨rfl, ⟨by ((repeat (first | assumption | exact H0.out | apply Live.alloc | apply Live.drew | apply Live.drewN)); done)⟩, ⟨by ((repeat (first | assumption | exact HI2.out | apply Kd.C_drewN | apply Kd.C_drew)); done)⟩⟩}
 · {
 obtain rfl : i = 0 := by omega
 refine start_ (n := 15) (S := fun w' => Live w w' [rows (Kd.slice 3 (Kd.int .i64)) 24 (.slice (some ad) ts.length ct) ts, rows (Kd.slice 3 (Kd.int .i64)) 24 (.slice As ts2.length cs) ts2, row k36 36 (.slice Am ts.length cm) ms, rows (Kd.slice 3 (Kd.int .i64)) 24 (.slice (some ae) ts.length cl) ls]) (ds := []) #[false, false, false, false, false, false, false, false, false, false, false, false, false, false, false] (by kernel_rfl) rfl rfl H0.out.drew (fun hHeld => ?_)
 refine Sq.pA 0 114 (h := ?_)
 refine Sq.pA 1 115 (h := ?_)
 refine Sq.pA 2 116 (h := ?_)
 refine Sq.pA 3 117 (hy := Or.inr ⟨by rfl, rfl⟩) (h := ?_)
 refine Sq.pA 4 118 (hy := Or.inr ⟨by rfl, rfl⟩) (h := ?_)
 refine Sq.pA 5 119 (hy := Or.inr ⟨by rfl, rfl⟩) (h := ?_)
 refine Sq.pA 6 120 (hy := Or.inr ⟨by rfl, rfl⟩) (h := ?_)
 refine Sq.pA 7 121 (hy := Or.inr ⟨by rfl, rfl⟩) (h := ?_)
 refine Sq.pA 8 122 (hy := Or.inr ⟨by rfl, rfl⟩) (h := ?_)
 refine Sq.pA 9 123 (hy := Or.inr ⟨by rfl, rfl⟩) (h := ?_)
 refine Sq.pA 10 124 (hy := Or.inr ⟨by rfl, rfl⟩) (h := ?_)
 refine Sq.pA 11 125 (hy := Or.inr ⟨by rfl, rfl⟩) (h := ?_)
 refine Sq.pA 12 126 (hy := Or.inr ⟨by rfl, rfl⟩) (h := ?_)
 refine Sq.pA 13 127 (hy := Or.inr ⟨by rfl, rfl⟩) (h := ?_)
 refine Sq.pA 14 128 (h := ?_)
 refine done_ (by kernel_rfl) ?_
 go_wp2_with fail
 go_meet
 exact ⟨rfl, ⟨hHeld⟩, ⟨Kd.C_drew HI2.out⟩⟩})
 case rest => (
 rename_i aK
 obtain ⟨rfl, H1, HQ⟩ := hcut
 refine aK _ _ ?_
 clear H0 hx3 hx HI2 HI3 HC3
 go_wp2_with (fail)
 refine (impl_MatrixOfMatching.calls k A2 c2 p M true _ HQ.out HC2.out M1.out).mono ?_
 rintro e w1 ⟨v, rfl, hs, hb⟩
 have HM := aM (Live.add (o := rows (Kd.slice 3 (Kd.int .i64)) 24 v M) H1.out hb hs)
 clear hs hb H1 HQ
 obtain ⟨AM, cM, rfl, _, _⟩ := HM.out.forms 4 rfl
 have H2 := aM (HM.out.new #[.slice AM M.length cM] 36)
 clear HM
 obtain ⟨af, A5, c5, hA5, hx5, hl5, hi5⟩ := C_row (H2.out.nows 3 rfl).2.2 i LI.out
 rw [← HXE.out] at hx5 hl5 hi5
 have HC5 := aM hl5
 have HI5 := aM hi5
 obtain rfl := Option.some.inj hA5
 clear hl5 hi5 hA5
 go_wp2_with (fail)
 refine (impl_MatrixOfAscent.calls k A5 c5 x M2 true _ HI5.out HC5.out M2'.out).mono ?_
 rintro e w2 ⟨v, rfl, hs, hb⟩
 have HN := aM (Live.add (o := rows (Kd.slice 3 (Kd.int .i64)) 24 v M2) H2.out hb hs)
 clear hs hb H2 hx5 HC5 HI5
 obtain ⟨AN, cN, rfl, _, _⟩ := HN.out.forms 6 rfl
 have h4 := HN.out.new #[.slice AN M2.length cN] 36
 clear HN
 obtain ⟨am, A6, c6, hA6, hx6, hl6, hi6⟩ := at_T36 (xs := ms) (n := ms.length) (h4.now 2 rfl).2.2 (i : Int) (by omega) (by have := MI.out; omega)
 subst hA6
 rw [Int.toNat_natCast] at hx6
 have H4 := aM (show Live w _ [rows (Kd.slice 3 (Kd.int .i64)) 24 (.slice (some ad) ts.length ct) ts, rows (Kd.slice 3 (Kd.int .i64)) 24 (.slice As ts2.length cs) ts2, row k36 36 (.slice (some am) ts.length cm) ms, rows (Kd.slice 3 (Kd.int .i64)) 24 (.slice (some ae) ts.length cl) ls, rows (Kd.slice 3 (Kd.int .i64)) 24 (.slice AM M.length cM) M, var w1.heap.size #[.slice AM M.length cM] 36, rows (Kd.slice 3 (Kd.int .i64)) 24 (.slice AN M2.length cN) M2, var w2.heap.size #[.slice AN M2.length cN] 36] from h4)
 have HC6 := aM hl6
 have HI6 := aM hi6
 obtain ⟨N, hN⟩ : ∃ N, N = (rd_T36 ms (i : Int)).f0 := ⟨_, rfl⟩
 rw [← hN] at hx6 HC6 HI6 M3
 clear hl6 hi6 h4 hN
 go_wp2_with (fail)
 have p11 : (0 : Int) ≤ (i : Int) := by omega
 have p12 : (i : Int) < (ts.length : Int) := by omega
 generalize World.alloc w2 (Obj.cells #[.slice AN M2.length cN] 36) = W0 at H4 hx6 HI6 ⊢
 go_cut [162] (fun s162 wx => s162 = .bool false ∧ Aside0 (Live w wx [rows (Kd.slice 3 (Kd.int .i64)) 24 (.slice (some ad) ts.length ct) ts, rows (Kd.slice 3 (Kd.int .i64)) 24 (.slice As ts2.length cs) ts2, row k36 36 (.slice (some am) ts.length cm) ms, rows (Kd.slice 3 (Kd.int .i64)) 24 (.slice (some ae) ts.length cl) ls, rows (Kd.slice 3 (Kd.int .i64)) 24 (.slice AM M.length cM) M, var w1.heap.size #[.slice AM M.length cM] 36, rows (Kd.slice 3 (Kd.int .i64)) 24 (.slice AN M2.length cN) M2, var w2.heap.size #[.slice AN M2.length cN] 36]))
 case first => (
 go_region_held3 (fun w' => w'.cell? ⟨w1.heap.size, 0, none⟩ = some (.slice AM M.length cM) ∧ w'.cell? ⟨w2.heap.size, 0, none⟩ = some (.slice AN M2.length cN) ∧ w'.cell? (am.add i) = some (.slice A6 N.length c6) ∧ Live w w' [rows (Kd.slice 3 (Kd.int .i64)) 24 (.slice (some ad) ts.length ct) ts, rows (Kd.slice 3 (Kd.int .i64)) 24 (.slice As ts2.length cs) ts2, row k36 36 (.slice (some am) ts.length cm) ms, rows (Kd.slice 3 (Kd.int .i64)) 24 (.slice (some ae) ts.length cl) ls, rows (Kd.slice 3 (Kd.int .i64)) 24 (.slice AM M.length cM) M, var w1.heap.size #[.slice AM M.length cM] 36, rows (Kd.slice 3 (Kd.int .i64)) 24 (.slice AN M2.length cN) M2, var w2.heap.size #[.slice AN M2.length cN] 36]) (first | (refine ⟨?ha, ?hb, ?hc, ?hd⟩; (case ha => exact Live.cell (w0 := w) (L := [rows (Kd.slice 3 (Kd.int .i64)) 24 (.slice (some ad) ts.length ct) ts, rows (Kd.slice 3 (Kd.int .i64)) 24 (.slice As ts2.length cs) ts2, row k36 36 (.slice (some am) ts.length cm) ms, rows (Kd.slice 3 (Kd.int .i64)) 24 (.slice (some ae) ts.length cl) ls, rows (Kd.slice 3 (Kd.int .i64)) 24 (.slice AM M.length cM) M, var w1.heap.size #[.slice AM M.length cM] 36, rows (Kd.slice 3 (Kd.int .i64)) 24 (.slice AN M2.length cN) M2, var w2.heap.size #[.slice AN M2.length cN] 36]) (by ((repeat (first | assumption | exact H4.out | apply Live.alloc | apply Live.drew | apply Live.drewN)); done)) 5 rfl 0); (case hb => exact Live.cell (w0 := w) (L := [rows (Kd.slice 3 (Kd.int .i64)) 24 (.slice (some ad) ts.length ct) ts, rows (Kd.slice 3 (Kd.int .i64)) 24 (.slice As ts2.length cs) ts2, row k36 36 (.slice (some am) ts.length cm) ms, rows (Kd.slice 3 (Kd.int .i64)) 24 (.slice (some ae) ts.length cl) ls, rows (Kd.slice 3 (Kd.int .i64)) 24 (.slice AM M.length cM) M, var w1.heap.size #[.slice AM M.length cM] 36, rows (Kd.slice 3 (Kd.int .i64)) 24 (.slice AN M2.length cN) M2, var w2.heap.size #[.slice AN M2.length cN] 36]) (by ((repeat (first | assumption | exact H4.out | apply Live.alloc | apply Live.drew | apply Live.drewN)); done)) 7 rfl 0); (case hc => first | exact hX2 | exact hX | exact hx6); (case hd => ((repeat (first | assumption | exact H4.out | apply Live.alloc | apply Live.drew | apply Live.drewN)); done)))) (first | (go_at_call 26; (with_reducible refine (laws_pSameMatrix.calls k AM cM M A6 c6 N true _ ?c1 ?c2 ?c3 HC6.out M3.out).mono ?_); (case c1 => exact (Live.nows (w0 := w) (L := [rows (Kd.slice 3 (Kd.int .i64)) 24 (.slice (some ad) ts.length ct) ts, rows (Kd.slice 3 (Kd.int .i64)) 24 (.slice As ts2.length cs) ts2, row k36 36 (.slice (some am) ts.length cm) ms, rows (Kd.slice 3 (Kd.int .i64)) 24 (.slice (some ae) ts.length cl) ls, rows (Kd.slice 3 (Kd.int .i64)) 24 (.slice AM M.length cM) M, var w1.heap.size #[.slice AM M.length cM] 36, rows (Kd.slice 3 (Kd.int .i64)) 24 (.slice AN M2.length cN) M2, var w2.heap.size #[.slice AN M2.length cN] 36]) (by ((repeat (first | assumption | exact H4.out | apply Live.alloc | apply Live.drew | apply Live.drewN)); done)) 4 rfl).2.2); (case c2 => exact (Live.nows (w0 := w) (L := [rows (Kd.slice 3 (Kd.int .i64)) 24 (.slice (some ad) ts.length ct) ts, rows (Kd.slice 3 (Kd.int .i64)) 24 (.slice As ts2.length cs) ts2, row k36 36 (.slice (some am) ts.length cm) ms, rows (Kd.slice 3 (Kd.int .i64)) 24 (.slice (some ae) ts.length cl) ls, rows (Kd.slice 3 (Kd.int .i64)) 24 (.slice AM M.length cM) M, var w1.heap.size #[.slice AM M.length cM] 36, rows (Kd.slice 3 (Kd.int .i64)) 24 (.slice AN M2.length cN) M2, var w2.heap.size #[.slice AN M2.length cN] 36]) (by ((repeat (first | assumption | exact H4.out | apply Live.alloc | apply Live.drew | apply Live.drewN)); done)) 4 rfl).2.1); (case c3 => ((repeat (first | assumption | exact HI6.out | apply Kd.C_drewN | apply Kd.C_drew)); done)); rintro e w5 ⟨rfl, hb⟩; have hX := pw_cell_below hb hx6; refine step_k (w0 := w) (L := [rows (Kd.slice 3 (Kd.int .i64)) 24 (.slice (some ad) ts.length ct) ts, rows (Kd.slice 3 (Kd.int .i64)) 24 (.slice As ts2.length cs) ts2, row k36 36 (.slice (some am) ts.length cm) ms, rows (Kd.slice 3 (Kd.int .i64)) 24 (.slice (some ae) ts.length cl) ls, rows (Kd.slice 3 (Kd.int .i64)) 24 (.slice AM M.length cM) M, var w1.heap.size #[.slice AM M.length cM] 36, rows (Kd.slice 3 (Kd.int .i64)) 24 (.slice AN M2.length cN) M2, var w2.heap.size #[.slice AN M2.length cN] 36]) ?c5 hb (fun HS => ?_); (case c5 => ((repeat (first | assumption | exact H4.out | apply Live.alloc | apply Live.drew | apply Live.drewN)); done))) | (go_at_call 26; (with_reducible refine (laws_pSameMatrix.calls k AN cN M2 AM cM M true _ ?c1 ?c2 ?c3 ?c4 M4.out).mono ?_); (case c1 => exact (Live.nows (w0 := w) (L := [rows (Kd.slice 3 (Kd.int .i64)) 24 (.slice (some ad) ts.length ct) ts, rows (Kd.slice 3 (Kd.int .i64)) 24 (.slice As ts2.length cs) ts2, row k36 36 (.slice (some am) ts.length cm) ms, rows (Kd.slice 3 (Kd.int .i64)) 24 (.slice (some ae) ts.length cl) ls, rows (Kd.slice 3 (Kd.int .i64)) 24 (.slice AM M.length cM) M, var w1.heap.size #[.slice AM M.length cM] 36, rows (Kd.slice 3 (Kd.int .i64)) 24 (.slice AN M2.length cN) M2, var w2.heap.size #[.slice AN M2.length cN] 36]) (by ((repeat (first | assumption | exact H4.out | apply Live.alloc | apply Live.drew | apply Live.drewN)); done)) 6 rfl).2.2); (case c2 => exact (Live.nows (w0 := w) (L := [rows (Kd.slice 3 (Kd.int .i64)) 24 (.slice (some ad) ts.length ct) ts, rows (Kd.slice 3 (Kd.int .i64)) 24 (.slice As ts2.length cs) ts2, row k36 36 (.slice (some am) ts.length cm) ms, rows (Kd.slice 3 (Kd.int .i64)) 24 (.slice (some ae) ts.length cl) ls, rows (Kd.slice 3 (Kd.int .i64)) 24 (.slice AM M.length cM) M, var w1.heap.size #[.slice AM M.length cM] 36, rows (Kd.slice 3 (Kd.int .i64)) 24 (.slice AN M2.length cN) M2, var w2.heap.size #[.slice AN M2.length cN] 36]) (by ((repeat (first | assumption | exact H4.out | apply Live.alloc | apply Live.drew | apply Live.drewN)); done)) 6 rfl).2.1); (case c3 => exact (Live.nows (w0 := w) (L := [rows (Kd.slice 3 (Kd.int .i64)) 24 (.slice (some ad) ts.length ct) ts, rows (Kd.slice 3 (Kd.int .i64)) 24 (.slice As ts2.length cs) ts2, row k36 36 (.slice (some am) ts.length cm) ms, rows (Kd.slice 3 (Kd.int .i64)) 24 (.slice (some ae) ts.length cl) ls, rows (Kd.slice 3 (Kd.int .i64)) 24 (.slice AM M.length cM) M, var w1.heap.size #[.slice AM M.length cM] 36, rows (Kd.slice 3 (Kd.int .i64)) 24 (.slice AN M2.length cN) M2, var w2.heap.size #[.slice AN M2.length cN] 36]) (by ((repeat (first | assumption | exact H4.out | apply Live.alloc | apply Live.drew | apply Live.drewN)); done)) 4 rfl).2.2); (case c4 => exact (Live.nows (w0 := w) (L := [rows (Kd.slice 3 (Kd.int .i64)) 24 (.slice (some ad) ts.length ct) ts, rows (Kd.slice 3 (Kd.int .i64)) 24 (.slice As ts2.length cs) ts2, row k36 36 (.slice (some am) ts.length cm) ms, rows (Kd.slice 3 (Kd.int .i64)) 24 (.slice (some ae) ts.length cl) ls, rows (Kd.slice 3 (Kd.int .i64)) 24 (.slice AM M.length cM) M, var w1.heap.size #[.slice AM M.length cM] 36, rows (Kd.slice 3 (Kd.int .i64)) 24 (.slice AN M2.length cN) M2, var w2.heap.size #[.slice AN M2.length cN] 36]) (by ((repeat (first | assumption | exact H4.out | apply Live.alloc | apply Live.drew | apply Live.drewN)); done)) 4 rfl).2.1); rintro e w5 ⟨rfl, hb⟩; have hX2 := pw_cell_below hb hX; refine step_k (w0 := w) (L := [rows (Kd.slice 3 (Kd.int .i64)) 24 (.slice (some ad) ts.length ct) ts, rows (Kd.slice 3 (Kd.int .i64)) 24 (.slice As ts2.length cs) ts2, row k36 36 (.slice (some am) ts.length cm) ms, rows (Kd.slice 3 (Kd.int .i64)) 24 (.slice (some ae) ts.length cl) ls, rows (Kd.slice 3 (Kd.int .i64)) 24 (.slice AM M.length cM) M, var w1.heap.size #[.slice AM M.length cM] 36, rows (Kd.slice 3 (Kd.int .i64)) 24 (.slice AN M2.length cN) M2, var w2.heap.size #[.slice AN M2.length cN] 36]) ?c5 hb (fun HS => ?_); (case c5 => ((repeat (first | assumption | exact H4.out | apply Live.alloc | apply Live.drew | apply Live.drewN)); done))))
 all_goals (go_wp2_with fail; go_meet)
 all_goals exact ⟨rfl, ⟨by assumption⟩⟩)
 case rest => (
 rename_i aK
 obtain ⟨rfl, H5⟩ := hcut
 refine aK _ _ ?_
 clear H4 hx6 HC6 HI6
 have k1 := H5.out.cell 5 rfl 0
 go_wp2_with (fail)
 refine (impl_FlattenMatrix.calls k AM cM M F true _ (H5.out.nows 4 rfl).2.2 (H5.out.nows 4 rfl).2.1 M5.out).mono ?_
 rintro e w3 ⟨v, rfl, hs, hb⟩
 have HF := aM (Live.add (o := rows (Kd.slice 3 (Kd.int .i64)) 24 v F) H5.out hb hs)
 clear hs hb H5 k1
 obtain ⟨AF, cF, rfl, _, _⟩ := HF.out.forms 8 rfl
 have H6 := aM (HF.out.new #[.slice AF F.length cF] 36)
 clear HF
 have k1 := H6.out.cell 5 rfl 0
 have k2 := H6.out.cell 9 rfl 0
 cases b with
 | true => {
 rw [if_pos rfl] at M7
 go_wp2_with (fail)
 refine (laws_pSameMatrix.calls k AF cF F AM cM M true _ (H6.out.nows 8 rfl).2.2 (H6.out.nows 8 rfl).2.1 (H6.out.nows 4 rfl).2.2 (H6.out.nows 4 rfl).2.1 M6.out).mono ?_
 rintro e w5 ⟨rfl, hb⟩
 have H7 := aM ((H6.out.step hb).keep 4)
 clear hb k1 k2 H6
 go_wp2_with (fail)
 go_roundg (ts.length - i)
 case measure => have := HI.out; omega
 case rel => exact ⟨i + 1, by first | (rw [M7.out]; exact up1 (by have := HCI.out; omega)), by first | rfl | exact up1 (by have := HCI.out; have := E11.out; omega), ⟨by omega, by omega⟩, H7⟩}
 | false => {
 rw [if_neg (by simp)] at M7
 go_wp2_with (fail)
 refine (laws_pSameMatrix.calls k AF cF F AM cM M false _ (H6.out.nows 8 rfl).2.2 (H6.out.nows 8 rfl).2.1 (H6.out.nows 4 rfl).2.2 (H6.out.nows 4 rfl).2.1 M6.out).mono ?_
 rintro e w5 ⟨rfl, hb⟩
 have H7 := aM ((H6.out.step hb).keep 4)
 clear hb k1 k2 H6
 go_wp2_with (fail)
 go_roundg (ts.length - i)
 case measure => have := HI.out; omega
 case rel => exact ⟨i + 1, by rw [M7.out], by first | rfl | exact up1 (by have := HCI.out; have := E11.out; omega), ⟨by omega, by omega⟩, H7⟩}))}
 · {
 obtain rfl : i = ts.length := by have := HI.out.1; omega
 have d1 : decide ((ts.length : Int) < (ts.length : Int)) = false := decide_eq_false (by omega)
 have d2 : ((cnt ts.length : Int) == (cnt ts.length : Int)) = true := beq_self_eq_true _
 have d3 : decide ((cnt ts.length : Int) = (cnt ts.length : Int)) = true := decide_eq_true rfl
 go_wp2_with (fail)
 go_ret
 exact ⟨rfl, H0.out.below⟩})}
def laws_FnListsAgree.Pure : Prop := ∀ (l0 : List Int) (l1 : List Int), l0.length ≤ maxLen → l0.length * 1 ≤ 140737488351232 → (∀ x ∈ l0, (Lit.int .u8 x).wf = true) → l1.length ≤ maxLen → l1.length * 1 ≤ 140737488351232 → (∀ x ∈ l1, (Lit.int .u8 x).wf = true) → ∃ k, laws_FnListsAgree.Good k l0 l1
theorem laws_FnListsAgree.walk (P : laws_FnListsAgree.Pure) (a0 : Option Addr) (len0 cap0 : Nat) (z0 : List Int) (a1 : Option Addr) (len1 cap1 : Nat) (z1 : List Int) (w : World) (w0 : (a0 = none ∧ len0 = 0 ∧ cap0 = 0 ∧ z0 = []) ∨ ∃ x, a0 = some x ∧ len0 ≤ cap0 ∧ cap0 ≤ maxLen ∧ z0.length = cap0 ∧ (∀ i, i < z0.length → w.cell? (x.add i) = some (.int .u8 (z0.getD i 0))) ∧ ∀ n ∈ z0, (Lit.int .u8 n).wf = true) (y0 : len0 * 1 ≤ 140737488351232) (w1 : (a1 = none ∧ len1 = 0 ∧ cap1 = 0 ∧ z1 = []) ∨ ∃ x, a1 = some x ∧ len1 ≤ cap1 ∧ cap1 ≤ maxLen ∧ z1.length = cap1 ∧ (∀ i, i < z1.length → w.cell? (x.add i) = some (.int .u8 (z1.getD i 0))) ∧ ∀ n ∈ z1, (Lit.int .u8 n).wf = true) (y1 : len1 * 1 ≤ 140737488351232) :
  Calls Try.prog 10 #[.slice a0 len0 cap0, .slice a1 len1 cap1] w fun e w' => e = .returned (.bool true) ∧ Below w.heap.size w w' := by
 obtain ⟨l0, rfl, hr0, hm0, hw0, hc0⟩ := ReadsInt.ofRowC w0
 obtain ⟨l1, rfl, hr1, hm1, hw1, hc1⟩ := ReadsInt.ofRowC w1
 obtain ⟨k, h⟩ := P l0 l1 hm0 y0 hw0 hm1 y1 hw1
 refine (laws_FnListsAgree.calls k _ _ l0 _ _ l1 w (Kd.C_of_reads (d := (0 : Int)) (h1 := fun _ => rfl) hr0) hc0 (Kd.C_of_reads (d := (0 : Int)) (h1 := fun _ => rfl) hr1) hc1 h).mono ?_
 rintro e w' ⟨rfl, hd⟩
 exact ⟨rfl, hd⟩

end Go.Proofs.Ytacdlipojhoilaa.Yx
