-- Written by hook.py, a program of this session (wip/), which runs the kit's print.py with its own parts; Lean checks it.
import Derived.Test.YtcodionjhcmfhaaGreatDoorAx0
import Derived.Test.YtcodionjhcmfhaaGreatDoorAx1
import Derived.Test.YtcodionjhcmfhaaGreatDoorAx4
import Derived.Test.YtcodionjhcmfhaaGreatDoorAx5
import Derived.Test.YtcodionjhcmfhaaGreatDoorAx7
import Derived.Test.YtcodionjhcmfhaaGreatDoorAx16
import Derived.Test.YtcodionjhcmfhaaGreatDoorAx21
import Derived.Test.YtcodionjhcmfhaaGreatDoorAx22
import Derived.Test.YtcodionjhcmfhaaGreatDoorAx25
import Derived.Test.YtcodionjhcmfhaaGreatDoorAx26
import Derived.Test.YtcodionjhcmfhaaGreatDoorAxXSq
namespace Go.Proofs.YtcodionjhcmfhaaGreatDoor.Ax
open Go.RowKit Go.Proofs.YtcodionjhcmfhaaGreatDoorW.PrintWords Go.Proofs.YtcodionjhcmfhaaGreatDoorW.PrintLast Go.Proofs.YtcodionjhcmfhaaGreatDoorW.PrintMore Go.Proofs.YtcodionjhcmfhaaGreatDoor.Sq
attribute [local go_sem] max2_int min2_int max_two min_two max_three min_three max_four min_four   -- for this text's walks alone
set_option linter.unusedVariables false
set_option linter.unusedSimpArgs false

def impl_FlattenMatrix.flatRow (r : List Int) : List Int := r.map fun n => if 1 < n then 1 else n
def impl_FlattenMatrix.flatR (i : Nat) (r : List Int) : List Int := impl_FlattenMatrix.flatRow (r.take i) ++ r.drop i
def impl_FlattenMatrix.flatN (i : Nat) (o : List (List Int)) : List (List Int) := (o.take i).map impl_FlattenMatrix.flatRow ++ o.drop i
def impl_FlattenMatrix.f (k : Nat) (l0 : List (List Int)) : Option (List (List Int) × Bool) := (impl_IsMatrix.f k l0).bind fun t => if t = true then (impl_Matrix_own.f k l0).bind fun o => (if o.length ≤ 1048576 ∧ (∀ r ∈ o, r.length ≤ 1048576) then some (o.map impl_FlattenMatrix.flatRow, true) else none) else some (([] : List (List Int)), false)
set_option maxHeartbeats 8000000 in
set_option maxRecDepth 100000 in
theorem impl_FlattenMatrix.calls (k : Nat) (A0 : Option Addr) (c0 : Nat) (l0 : List (List Int)) (r1 : List (List Int)) (r2 : Bool) (w : World) (hr0 : Kd.C (Kd.slice 3 (Kd.int .i64)) w A0 l0.length l0) (hc0 : l0.length ≤ c0) (h : impl_FlattenMatrix.f k l0 = some (r1, r2)) :
    Calls Tryz.prog 30 #[.agg #[.slice A0 l0.length c0]] w fun e w' => ∃ v0_ : Value, e = .returned (.tuple #[.agg #[v0_], .bool r2]) ∧ Kd.S (Kd.slice 3 (Kd.int .i64)) 24 w' w.heap.size (fun _ => True) v0_ r1 ∧ Below w.heap.size w w' := by
 have HC0 := aM hr0; have HL0 := aM hc0; clear hr0 hc0
 have HB := aM (Below.refl w.heap.size w)
 obtain ⟨t, e1, H⟩ := Option.bind_eq_some_iff.mp (show (impl_IsMatrix.f k l0).bind (fun t => if t = true then (impl_Matrix_own.f k l0).bind fun o => (if o.length ≤ 1048576 ∧ (∀ r ∈ o, r.length ≤ 1048576) then some (o.map impl_FlattenMatrix.flatRow, true) else none) else some (([] : List (List Int)), false)) = some (r1, r2) from h)
 clear h
 have E1 := aM e1; clear e1
 have sz1 : (w.alloc (.cells #[.slice A0 l0.length c0] 30)).heap.size = w.heap.size + 1 := by rw [World.alloc]; exact Array.size_push _
 cases t with
 | false => {
 obtain ⟨rfl, rfl⟩ := Prod.mk.inj (Option.some.inj H)
 clear H
 go_enter Tryz.func30, Tryz.ntmps30
 go_wp2_with (fail)
 refine (impl_IsMatrix.calls k A0 c0 l0 false _ ?s1 HL0.out E1.out).mono ?_
 case s1 => exact Kd.C_below HC0.out (by repeat (first | exact HB.out | apply below_alloc | apply pw_below_drewN | apply below_drew1))
 rintro e w1 ⟨rfl, hb⟩
 have _ := aM (below_step (by repeat (first | exact HB.out | apply below_alloc | apply pw_below_drewN | apply below_drew1)) hb)
 have BR := aM (Mem.X.below (Mem.X.new (w.alloc (.cells #[.slice A0 l0.length c0] 30)) #[.slice none 0 0] 30) hb)
 clear HB hb; rename_i HB
 rw [sz1] at BR
 have c2 : w1.cell? ⟨w.heap.size + 1, 0, none⟩ = some (.slice none 0 0) := (BR.out.cell 0).trans rfl
 have f2 : w1.frozen? ⟨w.heap.size + 1, 0, none⟩ = false := blk_frozen BR.out.blk 0
 go_wp2_with (fail)
 refine bodyPost_ret (results_ct rfl _ _ (w.heap.size + 1) 30 #[.slice none 0 0] (0, 0) _ rfl (blk_put (cs := #[.slice none 0 0]) BR.out.blk 0 _ rfl) Tryz.underlying30 rfl (by kernel_rfl)) rfl ?_
 exact ⟨_, rfl, Kd.S_nil _ _ _ _ _, below_set HB.out (by simp)⟩}
 | true => {
 obtain ⟨o, e2, H⟩ := Option.bind_eq_some_iff.mp (show (impl_Matrix_own.f k l0).bind (fun o => (if o.length ≤ 1048576 ∧ (∀ r ∈ o, r.length ≤ 1048576) then some (o.map impl_FlattenMatrix.flatRow, true) else none)) = some (r1, r2) from H)
 by_cases hsm : o.length ≤ 1048576 ∧ (∀ r ∈ o, r.length ≤ 1048576)
 case neg => rw [if_neg hsm] at H; exact absurd H (by simp)
 rw [if_pos hsm] at H
 have SM := aM hsm; clear hsm
 obtain ⟨rfl, rfl⟩ := Prod.mk.inj (Option.some.inj H)
 clear H
 have E2 := aM e2; clear e2
 go_enter Tryz.func30, Tryz.ntmps30
 go_wp2_with (fail)
 refine (impl_IsMatrix.calls k A0 c0 l0 true _ ?s1 HL0.out E1.out).mono ?_
 case s1 => exact Kd.C_below HC0.out (by repeat (first | exact HB.out | apply below_alloc | apply pw_below_drewN | apply below_drew1))
 rintro e w1 ⟨rfl, hb⟩
 have _ := aM (below_step (by repeat (first | exact HB.out | apply below_alloc | apply pw_below_drewN | apply below_drew1)) hb)
 have BA := aM (Mem.X.below (Mem.X.alloc (Mem.X.new w #[.slice A0 l0.length c0] 30) (.cells #[.slice none 0 0] 30)) hb)
 have BR := aM (Mem.X.below (Mem.X.new (w.alloc (.cells #[.slice A0 l0.length c0] 30)) #[.slice none 0 0] 30) hb)
 clear HB hb; rename_i HB
 rw [sz1] at BR
 have c1 : w1.cell? ⟨w.heap.size, 0, none⟩ = some (.slice A0 l0.length c0) := (BA.out.cell 0).trans rfl
 go_wp2_with (fail)
 refine (impl_Matrix_own.calls k A0 c0 l0 o _ ?s1 HL0.out E2.out).mono ?_
 case s1 => exact Kd.C_below HC0.out HB.out
 rintro e w2 ⟨v_, rfl, hs_, hb⟩
 obtain ⟨lo, hi, oa_, ob_, hm_⟩ := Mem.S.made' (w.heap.size + 2) hs_ HB.out hb BR.out.lt
 clear hs_
 obtain ⟨Ao, co, rfl, _, _⟩ := hm_.reads
 have _ := aM (below_step HB.out hb)
 have _ := aM (Mem.X.below BA.out hb)
 have _ := aM (Mem.X.below BR.out hb)
 have HS := aM hm_
 clear HB BA BR hb c1 hm_; rename_i HB BA BR
 have OA := aM oa_; have OB := aM ob_; clear oa_ ob_
 go_wp2_with (fail)
 have _ := aM (below_alloc HB.out (.cells #[.slice Ao o.length co] 30))
 have _ := aM (Mem.X.alloc BA.out (.cells #[.slice Ao o.length co] 30))
 have _ := aM (Mem.X.alloc BR.out (.cells #[.slice Ao o.length co] 30))
 have _ := aM (Mem.S.alloc HS.out (.cells #[.slice Ao o.length co] 30))
 have BO := aM (Mem.X.new w2 #[.slice Ao o.length co] 30)
 have OC := aM HS.out.size
 clear HB BA BR HS H; rename_i HB BA BR HS
 go_loopg [18] (o.length + 1) (fun kq v18 w' => ∃ i : Nat, v18 = .int .i64 (i : Int) ∧ Aside0 (i ≤ o.length ∧ kq = o.length - i + 1) ∧ Aside0 (Mem.S (Kd.slice 3 (Kd.int .i64)) 24 w w' lo hi (.slice Ao o.length co) (impl_FlattenMatrix.flatN i o)) ∧ Aside0 (Mem.X w' w.heap.size #[.slice A0 l0.length c0] 30) ∧ Aside0 (Mem.X w' (w.heap.size + 1) #[.slice none 0 0] 30) ∧ Aside0 (Mem.X w' w2.heap.size #[.slice Ao o.length co] 30) ∧ Aside0 (Below w.heap.size w w'))
 case atStart => exact ⟨0, rfl, ⟨Nat.zero_le _, rfl⟩, ⟨by simpa [impl_FlattenMatrix.flatN] using HS.out⟩, BA, BR, BO, HB⟩
 case round => (
 clear HB BA BR HS BO
 obtain ⟨i, rfl, HI, HS, BA, BR, BO, HB⟩ := hrel
 rename World => wq
 by_cases ci : i < o.length
 · {
 have c1 : decide ((i : Int) < (o.length : Int)) = true := decide_eq_true (by omega)
 have c2 : decide (i < o.length) = true := decide_eq_true ci
 have e1 : (impl_FlattenMatrix.flatN i o).length = o.length := Mem.part_len _ _ _
 obtain ⟨go1, co1, eo1, gb1, gl1, cl1, HG1⟩ := Kd.S_form HS.out.rows (by omega)
 injection eo1 with ea en ec
 subst ea
 subst ec
 clear en gb1 gl1 HG1
 obtain ⟨oki, ce, hcl, hM, hcc, hfr, hoki, hH⟩ := Kd.S_elem HS.out.rows [] (i : Int) (by omega) (by omega)
 obtain ⟨ve, rfl, hR⟩ := hM
 have hx := hcc 0 ve rfl
 simp only [show (Kd.slice 3 (Kd.int .i64)).sz = 1 from rfl, Nat.mul_one, Nat.add_zero, Int.toNat_natCast] at hx
 rw [Int.toNat_natCast, show (impl_FlattenMatrix.flatN i o).getD i [] = o.getD i [] from Mem.part_get _ _ _ _ ci] at hR
 obtain ⟨r, hr⟩ : ∃ r, r = o.getD i [] := ⟨_, rfl⟩
 rw [← hr] at hR
 obtain ⟨Ai, ci_, rfl⟩ := Kd.R_slice hR
 have HR := aM (show (Kd.int .i64).R 3 wq w.heap.size oki (.slice Ai r.length ci_) r from hR)
 have HH := aM hH
 have HO := aM hoki
 have HQ := aM hr
 clear hcl hcc hfr hoki hH hR hr
 go_wp2_with (fail)
 go_loopg [24] (r.length + 1) (fun kq v24 w' => ∃ j : Nat, v24 = .int .i64 (j : Int) ∧ Aside0 (j ≤ r.length ∧ kq = r.length - j + 1) ∧ Aside0 ((Kd.int .i64).R 3 w' w.heap.size oki (.slice Ai r.length ci_) (impl_FlattenMatrix.flatR j r)) ∧ Aside0 (Kept wq w' oki) ∧ Aside0 (Below w.heap.size w w'))
 case atStart => exact ⟨0, rfl, ⟨Nat.zero_le _, rfl⟩, ⟨by simpa [impl_FlattenMatrix.flatR, impl_FlattenMatrix.flatRow] using HR.out⟩, ⟨Kept.refl _ _⟩, HB⟩
 case round => (
 clear HB HR
 obtain ⟨j, rfl, HJ, HR, HK, HB⟩ := hrel
 by_cases cj : j < r.length
 · {
 have d1 : decide ((j : Int) < (r.length : Int)) = true := decide_eq_true (by omega)
 have d2 : decide (j < r.length) = true := decide_eq_true cj
 have e2 : (impl_FlattenMatrix.flatR j r).length = r.length := Mem.part_len _ _ _
 obtain ⟨go2, co2, eo2, gb2, gl2, cl2, HG2⟩ := Kd.R_form HR.out (by omega)
 injection eo2 with ea en ec
 subst ea
 subst ec
 clear en gl2 HG2
 have GB := aM gb2; clear gb2
 obtain ⟨hx2, hf2⟩ := Kd.R_celln 0 HR.out (j : Int) (by omega) (by omega)
 have hv : rdOf 0 (impl_FlattenMatrix.flatR j r) (j : Int) = r.getD j 0 := by {
 show (impl_FlattenMatrix.flatR j r).getD (j : Int).toNat 0 = _
 rw [Int.toNat_natCast]; exact Mem.part_get _ _ _ _ cj}
 rw [hv] at hx2
 rw [Int.toNat_natCast] at hx2 hf2
 obtain ⟨n, hn⟩ : ∃ n, n = r.getD j 0 := ⟨_, rfl⟩
 rw [← hn] at hx2
 have hP : ∀ x : Int, (if 1 < n then 1 else n) = x → (Kd.int .i64).R 3 (wr.setCell ⟨go2, j, none⟩ (.int .i64 x)) w.heap.size oki (.slice (some ⟨go2, 0, none⟩) r.length ci_) (impl_FlattenMatrix.flatR (j + 1) r) ∧ wr.grownBy (wr.setCell ⟨go2, j, none⟩ (.int .i64 x)) (some go2) := by {
 rintro x rfl
 have HP := Kd.R_putg HR.out (j : Int) (if 1 < n then 1 else n)
 rw [Int.toNat_natCast] at HP
 rw [show impl_FlattenMatrix.flatR (j + 1) r = _ from (Mem.part_set (fun n => if 1 < n then 1 else n) j r 0 cj).symm, ← hn]
 exact HP}
 have hn2 : n = r[j] := by rw [hn, List.getD_eq_getElem?_getD, List.getElem?_eq_getElem cj]; rfl
 have HP1 : Aside0 (1 < r[j] → _) := ⟨fun h_ => hP 1 (by rw [hn2, if_pos h_])⟩
 have HP2 : Aside0 (r[j] ≤ 1 → _) := ⟨fun h_ => hP r[j] (by rw [hn2, if_neg (by omega)])⟩
 have hrl : r.length ≤ 1048576 := SM.out.2 r (by rw [HQ.out, List.getD_eq_getElem?_getD, List.getElem?_eq_getElem ci]; exact List.getElem_mem ci)
 have HW : Aside0 (Value.int .i64 (wrap64 ((j : Int) + 1)) = .int .i64 ((j + 1 : Nat) : Int)) := ⟨by rw [show wrap64 ((j : Int) + 1) = ((j + 1 : Nat) : Int) from by unfold wrap64; omega]⟩
 have HJ1 : Aside0 (j + 1 ≤ r.length ∧ r.length - j = r.length - (j + 1) + 1) := ⟨by omega⟩
 have HM : Aside0 (r.length - j < r.length - j + 1) := ⟨by omega⟩
 have HJ2 := HJ.out.2
 clear hP hrl e1 e2 sz1
 go_wp2_with (fail)
 all_goals (go_roundg (r.length - j))
 all_goals (try (case measure => first | exact HM.out | (rw [HJ.out.2]; exact HM.out)))
 · exact ⟨j + 1, HW.out, HJ1, ⟨(HP1.out (by assumption)).1⟩, ⟨Kept.of_grown (HP1.out (by assumption)).2 HK.out (fun k_ e_ => .inl (HR.out.1 k_ e_))⟩, ⟨below_set HB.out GB.out⟩⟩
 · exact ⟨j + 1, HW.out, HJ1, ⟨(HP2.out (by assumption)).1⟩, ⟨Kept.of_grown (HP2.out (by assumption)).2 HK.out (fun k_ e_ => .inl (HR.out.1 k_ e_))⟩, ⟨below_set HB.out GB.out⟩⟩}
 · {
 have d1 : decide ((j : Int) < (r.length : Int)) = false := decide_eq_false (by omega)
 have d2 : decide (j < r.length) = false := decide_eq_false cj
 go_wp2
 go_roundg (o.length - i)
 case measure => have := HI.out; omega
 case rel => (
 have ej : impl_FlattenMatrix.flatR j r = impl_FlattenMatrix.flatRow r := by {
 have : j = r.length := by have := HJ.out; omega
 rw [this]; simp [impl_FlattenMatrix.flatR]}
 refine ⟨i + 1, ?_, ⟨by omega, by omega⟩, ⟨Mem.S.write HS.out (hk := HK.out.mono (fun k_ hk_ => (HO.out k_ hk_).1)) ?_⟩, ⟨Mem.X.kept BA.out (HK.out.mono (fun k_ hk_ => (HO.out k_ hk_).1)) (by have := OA.out; omega)⟩, ⟨Mem.X.kept BR.out (HK.out.mono (fun k_ hk_ => (HO.out k_ hk_).1)) (by have := OA.out; omega)⟩, ⟨Mem.X.kept BO.out (HK.out.mono (fun k_ hk_ => (HO.out k_ hk_).1)) (by have := OC.out; omega)⟩, HB⟩
 · {
 have := SM.out.1
 rw [show wrap64 ((i : Int) + 1) = ((i + 1 : Nat) : Int) from by unfold wrap64; omega]}
 · {
 have := Kd.H_back (Kd.H_kept HH.out HK.out (fun _ _ hn => hn)) (Kd.M_row (Kd.R_reok rfl HR.out (fun k_ hk_ => HR.out.1 k_ hk_))) (fun _ hk_ => hk_)
 rw [ej, HQ.out, Int.toNat_natCast] at this
 rw [show impl_FlattenMatrix.flatN (i + 1) o = _ from (Mem.part_set impl_FlattenMatrix.flatRow i o [] ci).symm]
 exact this})})}
 · {
 have c1 : decide ((i : Int) < (o.length : Int)) = false := decide_eq_false (by omega)
 have c2 : decide (i < o.length) = false := decide_eq_false ci
 have cO : wq.cell? ⟨w2.heap.size, 0, none⟩ = some (.slice Ao o.length co) := (BO.out.cell 0).trans rfl
 have cR : wq.cell? ⟨w.heap.size + 1, 0, none⟩ = some (.slice none 0 0) := (BR.out.cell 0).trans rfl
 have fR : wq.frozen? ⟨w.heap.size + 1, 0, none⟩ = false := blk_frozen BR.out.blk 0
 go_wp2_with (fail)
 refine bodyPost_ret (results_ct rfl _ _ (w.heap.size + 1) 30 #[.slice Ao o.length co] (0, 0) _ rfl (blk_put (cs := #[.slice none 0 0]) BR.out.blk 0 _ rfl) Tryz.underlying30 rfl (by kernel_rfl)) rfl ?_
 have ei : impl_FlattenMatrix.flatN i o = o.map impl_FlattenMatrix.flatRow := by {
 have : i = o.length := by have := HI.out; omega
 rw [this]; simp [impl_FlattenMatrix.flatN]}
 refine ⟨_, rfl, ?_, below_set HB.out (by simp)⟩
 rw [← ei]
 exact Kd.S_mono (Kd.S_far (p := ⟨w.heap.size + 1, 0, none⟩) HS.out.rows (fun k_ hk_ => by have := OA.out; show k_ ≠ w.heap.size + 1; omega) _) (fun _ _ => trivial)})}
def laws_FnMatricesAreAscents.Good (k : Nat) (l0 l1 : List Int) : Prop :=
  laws_big.f l0 l1 = some true ∨ (laws_big.f l0 l1 = some false ∧ ∃ (m : List (List Int)) (l l2 : List Int) (ok : Bool),
    spec_DrawAscentOfMatrix.f k l0 = some m ∧ impl_AscentOfMatrix.f k m = some (l, ok) ∧ spec_AscentOfMatrix.f k m = some (l2, ok) ∧ laws_pSame.f k l l2 = some true ∧ impl_IsMatrix.f k m = some ok ∧
    (ok = true → ∃ (bk rd fl ag : List (List Int)) (tx : ByteArray), impl_MatrixOfAscent.f k l = some (bk, true) ∧ impl_MatrixText.f k m = some (tx, true) ∧ impl_ParseMatrix.f k tx = some (rd, true) ∧ impl_FlattenMatrix.f k m = some (fl, true) ∧ impl_FlattenMatrix.f k fl = some (ag, true) ∧
      impl_IsAscent.f k l = some true ∧ laws_pSameMatrix.f k bk m = some true ∧ laws_pSameMatrix.f k rd m = some true ∧ laws_pSameMatrix.f k ag fl = some true ∧ impl_IsMatrix.f k fl = some true ∧
      (m.length ≤ 1000 ∧ fl.length = m.length) ∧ ∀ i, i < m.length → (m.getD i []).length ≤ 1000 ∧ (fl.getD i []).length = (m.getD i []).length ∧ ∀ j, j < (m.getD i []).length → decide ((m.getD i []).getD j 0 > 0) = ((fl.getD i []).getD j 0 == 1)))
open Go.Proofs.YtcodionjhcmfhaaGreatDoor.Live in
set_option maxHeartbeats 8000000 in
set_option maxRecDepth 100000 in
theorem laws_FnMatricesAreAscents.calls (k : Nat) (A0 : Option Addr) (c0 : Nat) (l0 : List Int) (A1 : Option Addr) (c1 : Nat) (l1 : List Int) (w : World) (hV : VarsP w) (hr0 : Kd.C (Kd.int .u8) w A0 l0.length l0) (hc0 : l0.length ≤ c0) (hr1 : Kd.C (Kd.int .u8) w A1 l1.length l1) (hc1 : l1.length ≤ c1) (h : laws_FnMatricesAreAscents.Good k l0 l1) :
    Calls Tryz.prog 5 #[.slice A0 l0.length c0, .slice A1 l1.length c1] w fun e w' => e = .returned (.bool true) ∧ Below w.heap.size w w' := by
 have HC0 := aM hr0
 have HC1 := aM hr1
 have HL0 := aM hc0
 have HL1 := aM hc1
 clear hr0 hr1 hc0 hc1
 have HV := aM hV
 clear hV
 rcases h with hb | ⟨hb, m, l, l2, ok, e1, e2, e3, e4, e5, e6⟩
 · {
 have HB := aM hb
 clear hb
 go_enter Tryz.func5, Tryz.ntmps5
 go_wp2_with (fail)
 refine (laws_big.calls A0 c0 l0 A1 c1 l1 true _ HC0.out HL0.out HC1.out HL1.out HB.out).mono ?_
 rintro e w1 ⟨rfl, ⟨q, rfl⟩⟩
 go_wp2_with (fail)
 go_ret
 exact ⟨rfl, pw_below_drewN (Below.refl _ _) _⟩}
 have HB := aM hb
 have E1 := aM e1
 have E2 := aM e2
 have E3 := aM e3
 have E4 := aM e4
 have E5 := aM e5
 have E6 := aM e6
 clear hb e1 e2 e3 e4 e5 e6
 go_enter Tryz.func5, Tryz.ntmps5
 go_wp2_with (fail)
 refine (laws_big.calls A0 c0 l0 A1 c1 l1 false _ (HC0.out) (HL0.out) (HC1.out) (HL1.out) HB.out).mono ?_
 rintro e w1 ⟨rfl, hd_⟩
 have H1 := aM ((Live.start w).drawn hd_)
 clear hd_
 go_wp2_with (fail)
 refine (spec_DrawAscentOfMatrix.calls k A0 c0 l0 m _ (Kd.C_below HC0.out H1.out.below) (HL0.out) E1.out).mono ?_
 rintro e w2 ⟨u0, rfl, hs0, hb⟩
 have H2 := aM (Live.add (o := lent (Kd.slice 3 (Kd.int .i64)) 24 u0 m) H1.out hb hs0)
 clear hs0 hb
 obtain ⟨A_m, c_m, rfl, _, _⟩ := H2.out.formq 0 rfl
 clear H1
 have H3 := aM (H2.out.new #[.slice A_m m.length c_m] 30)
 clear H2
 have k_m := cellV H3.out 1 rfl 0 rfl
 go_wp2_with (fail)
 refine (impl_AscentOfMatrix.calls k A_m c_m m l ok _ ((H3.out.nowq 0 rfl).2.2) ((H3.out.nowq 0 rfl).2.1) E2.out).mono ?_
 rintro e w3 ⟨u0, rfl, hs0, hb⟩
 clear k_m
 have H4 := aM (Live.add (o := row (Kd.int .i64) 3 u0 l) H3.out hb hs0)
 clear hs0 hb
 obtain ⟨A_l, c_l, rfl, _, _⟩ := H4.out.form 2 rfl
 clear H3
 have k_m := cellV H4.out 1 rfl 0 rfl
 go_wp2_with (fail)
 have bb : (ok != ok) = false := by simp
 refine (spec_AscentOfMatrix.calls k A_m c_m m l2 ok _ ((H4.out.nowq 0 rfl).2.2) ((H4.out.nowq 0 rfl).2.1) E3.out).mono ?_
 rintro e w4 ⟨u0, rfl, hs0, hb⟩
 clear k_m
 have H5 := aM (Live.add (o := row (Kd.int .i64) 3 u0 l2) H4.out hb hs0)
 clear hs0 hb
 obtain ⟨A_l2, c_l2, rfl, _, _⟩ := H5.out.form 3 rfl
 clear H4
 go_wp2_with (fail)
 refine (laws_pSame.calls k A_l c_l l A_l2 c_l2 l2 true _ ((H5.out.now 2 rfl).2.2) ((H5.out.now 2 rfl).2.1) ((H5.out.now 3 rfl).2.2) ((H5.out.now 3 rfl).2.1) E4.out).mono ?_
 rintro e w5 ⟨rfl, hd_⟩
 have H6 := aM (H5.out.drawn hd_)
 clear hd_
 clear H5
 have k_m := cellV H6.out 1 rfl 0 rfl
 go_wp2_with (fail)
 refine (impl_IsMatrix.calls k A_m c_m m ok _ ((H6.out.nowq 0 rfl).2.2) ((H6.out.nowq 0 rfl).2.1) E5.out).mono ?_
 rintro e w6 ⟨rfl, hb⟩
 clear k_m
 have H7 := aM (H6.out.step hb)
 clear hb
 clear H6
 cases ok with
 | false => {
 go_wp2_with (fail)
 go_ret
 exact ⟨rfl, H7.out.below⟩}
 | true => {
 obtain ⟨bk, rd, fl, ag, tx, g1, g2, g3, g4, g5, g6, g7, g8, g9, g10, g11, g12⟩ := E6.out rfl
 have G1 := aM g1
 have G2 := aM g2
 have G3 := aM g3
 have G4 := aM g4
 have G5 := aM g5
 have G6 := aM g6
 have G7 := aM g7
 have G8 := aM g8
 have G9 := aM g9
 have G10 := aM g10
 have G11 := aM g11
 have G12 := aM g12
 clear g1 g2 g3 g4 g5 g6 g7 g8 g9 g10 g11 g12
 go_wp2_with (fail)
 clear bb
 refine (impl_MatrixOfAscent.calls k A_l c_l l bk true _ ((H7.out.now 2 rfl).2.2) ((H7.out.now 2 rfl).2.1) G1.out).mono ?_
 rintro e w7 ⟨u0, rfl, hs0, hb⟩
 have H8 := aM (Live.add (o := rows (Kd.slice 3 (Kd.int .i64)) 24 u0 bk) H7.out hb hs0)
 clear hs0 hb
 obtain ⟨A_bk, c_bk, rfl, _, _⟩ := H8.out.forms 4 rfl
 clear H7
 have H9 := aM (H8.out.new #[.slice A_bk bk.length c_bk] 30)
 clear H8
 have k_m := cellV H9.out 1 rfl 0 rfl
 go_wp2_with (fail)
 refine (impl_MatrixText.calls k A_m c_m m tx true _ ((H9.out.nowq 0 rfl).2.2) ((H9.out.nowq 0 rfl).2.1) G2.out).mono ?_
 rintro e w8 ⟨rfl, hb⟩
 clear k_m
 have H10 := aM (H9.out.step hb)
 clear hb
 clear H9
 go_wp2_with (fail)
 refine (impl_ParseMatrix.calls k tx rd true _ (HV.out.below H10.out.below) G3.out).mono ?_
 rintro e w9 ⟨u0, rfl, hs0, hb⟩
 have H11 := aM (Live.add (o := rows (Kd.slice 3 (Kd.int .i64)) 24 u0 rd) H10.out hb hs0)
 clear hs0 hb
 obtain ⟨A_rd, c_rd, rfl, _, _⟩ := H11.out.forms 6 rfl
 clear H10
 have H12 := aM (H11.out.new #[.slice A_rd rd.length c_rd] 30)
 clear H11
 have k_m := cellV H12.out 1 rfl 0 rfl
 go_wp2_with (fail)
 refine (impl_FlattenMatrix.calls k A_m c_m m fl true _ ((H12.out.nowq 0 rfl).2.2) ((H12.out.nowq 0 rfl).2.1) G4.out).mono ?_
 rintro e w10 ⟨u0, rfl, hs0, hb⟩
 clear k_m
 have H13 := aM (Live.add (o := rows (Kd.slice 3 (Kd.int .i64)) 24 u0 fl) H12.out hb hs0)
 clear hs0 hb
 obtain ⟨A_fl, c_fl, rfl, _, _⟩ := H13.out.forms 8 rfl
 clear H12
 have H14 := aM (H13.out.new #[.slice A_fl fl.length c_fl] 30)
 clear H13
 have k_fl := cellV H14.out 9 rfl 0 rfl
 go_wp2_with (fail)
 refine (impl_FlattenMatrix.calls k A_fl c_fl fl ag true _ ((H14.out.nows 8 rfl).2.2) ((H14.out.nows 8 rfl).2.1) G5.out).mono ?_
 rintro e w11 ⟨u0, rfl, hs0, hb⟩
 clear k_fl
 have H15 := aM (Live.add (o := rows (Kd.slice 3 (Kd.int .i64)) 24 u0 ag) H14.out hb hs0)
 clear hs0 hb
 obtain ⟨A_ag, c_ag, rfl, _, _⟩ := H15.out.forms 10 rfl
 clear H14
 have H16 := aM (H15.out.new #[.slice A_ag ag.length c_ag] 30)
 clear H15
 go_wp2_with (fail)
 refine (impl_IsAscent.calls k A_l c_l l true _ ((H16.out.now 2 rfl).2.2) ((H16.out.now 2 rfl).2.1) G6.out).mono ?_
 rintro e w12 ⟨rfl, hd_⟩
 have H17 := aM (H16.out.drawn hd_)
 clear hd_
 clear H16
 have k_bk := cellV H17.out 5 rfl 0 rfl
 have k_m := cellV H17.out 1 rfl 0 rfl
 go_wp2_with (fail)
 refine (laws_pSameMatrix.calls k A_bk c_bk bk A_m c_m m true _ ((H17.out.nows 4 rfl).2.2) ((H17.out.nows 4 rfl).2.1) ((H17.out.nowq 0 rfl).2.2) ((H17.out.nowq 0 rfl).2.1) G7.out).mono ?_
 rintro e w13 ⟨rfl, hb⟩
 clear k_bk k_m
 have H18 := aM (H17.out.step hb)
 clear hb
 clear H17
 have k_rd := cellV H18.out 7 rfl 0 rfl
 have k_m := cellV H18.out 1 rfl 0 rfl
 go_wp2_with (fail)
 refine (laws_pSameMatrix.calls k A_rd c_rd rd A_m c_m m true _ ((H18.out.nows 6 rfl).2.2) ((H18.out.nows 6 rfl).2.1) ((H18.out.nowq 0 rfl).2.2) ((H18.out.nowq 0 rfl).2.1) G8.out).mono ?_
 rintro e w14 ⟨rfl, hb⟩
 clear k_rd k_m
 have H19 := aM (H18.out.step hb)
 clear hb
 clear H18
 have k_ag := cellV H19.out 11 rfl 0 rfl
 have k_fl := cellV H19.out 9 rfl 0 rfl
 go_wp2_with (fail)
 refine (laws_pSameMatrix.calls k A_ag c_ag ag A_fl c_fl fl true _ ((H19.out.nows 10 rfl).2.2) ((H19.out.nows 10 rfl).2.1) ((H19.out.nows 8 rfl).2.2) ((H19.out.nows 8 rfl).2.1) G9.out).mono ?_
 rintro e w15 ⟨rfl, hb⟩
 clear k_ag k_fl
 have H20 := aM (H19.out.step hb)
 clear hb
 clear H19
 have k_fl := cellV H20.out 9 rfl 0 rfl
 go_wp2_with (fail)
 refine (impl_IsMatrix.calls k A_fl c_fl fl true _ ((H20.out.nows 8 rfl).2.2) ((H20.out.nows 8 rfl).2.1) G10.out).mono ?_
 rintro e w16 ⟨rfl, hb⟩
 clear k_fl
 have H21 := aM (H20.out.step hb)
 clear hb
 clear H20
 have k_m := cellV H21.out 1 rfl 0 rfl
 go_wp2_with (fail)
 clear k_m
 go_loopg [130] (m.length + 1) (fun kq v130 w' => ∃ i : Nat, v130 = .int .i64 (i : Int) ∧ Aside0 (i ≤ m.length ∧ kq = m.length - i + 1) ∧ Aside0 (Live w w' [lent (Kd.slice 3 (Kd.int .i64)) 24 (.slice A_m m.length c_m) m, var w2.heap.size #[.slice A_m m.length c_m] 30, row (Kd.int .i64) 3 (.slice A_l l.length c_l) l, row (Kd.int .i64) 3 (.slice A_l2 l2.length c_l2) l2, rows (Kd.slice 3 (Kd.int .i64)) 24 (.slice A_bk bk.length c_bk) bk, var w7.heap.size #[.slice A_bk bk.length c_bk] 30, rows (Kd.slice 3 (Kd.int .i64)) 24 (.slice A_rd rd.length c_rd) rd, var w9.heap.size #[.slice A_rd rd.length c_rd] 30, rows (Kd.slice 3 (Kd.int .i64)) 24 (.slice A_fl fl.length c_fl) fl, var w10.heap.size #[.slice A_fl fl.length c_fl] 30, rows (Kd.slice 3 (Kd.int .i64)) 24 (.slice A_ag ag.length c_ag) ag, var w11.heap.size #[.slice A_ag ag.length c_ag] 30]))
 case atStart => exact ⟨0, rfl, ⟨Nat.zero_le _, rfl⟩, H21⟩
 case round => (
 clear H21
 obtain ⟨i, rfl, HI, H0⟩ := hrel
 rename World => wq
 by_cases ci : i < m.length
 · {
 have hn := G11.out
 obtain ⟨h1, h2, h3⟩ := G12.out i ci
 obtain ⟨ad, A1, c1_, e_a, x_r, l_r, i_r⟩ := C_row ((H0.out.nowq 0 rfl).2.2) i ci
 obtain ⟨q, hq⟩ : ∃ q, q = m.getD i [] := ⟨_, rfl⟩
 rw [← hq] at x_r l_r i_r h1 h2 h3
 obtain ⟨f, hf⟩ : ∃ f, f = fl.getD i [] := ⟨_, rfl⟩
 rw [← hf] at h2 h3
 have z0 : (0 : Int) ≤ (i : Int) := by omega
 have t0 : (i : Int) < (m.length : Int) := by omega
 have d0 : decide ((i : Int) < (m.length : Int)) = true := decide_eq_true t0
 have FI := aM (show i < fl.length by omega)
 have K1 := aM h1
 have K2 := aM h2
 have K3 := aM h3
 have KF := aM hf
 have KQ := aM hq
 have HR := aM i_r
 have HLR := aM l_r
 clear h1 h2 h3 hf hq i_r l_r
 clear hn
 subst e_a
 go_wp2_with (fail)
 clear x_r z0 t0 d0
 go_loopg [137] (q.length + 1) (fun kq v137 w' => ∃ j : Nat, v137 = .int .i64 (j : Int) ∧ Aside0 (j ≤ q.length ∧ kq = q.length - j + 1) ∧ Aside0 (Live w w' [lent (Kd.slice 3 (Kd.int .i64)) 24 (.slice (some ad) m.length c_m) m, var w2.heap.size #[.slice (some ad) m.length c_m] 30, row (Kd.int .i64) 3 (.slice A_l l.length c_l) l, row (Kd.int .i64) 3 (.slice A_l2 l2.length c_l2) l2, rows (Kd.slice 3 (Kd.int .i64)) 24 (.slice A_bk bk.length c_bk) bk, var w7.heap.size #[.slice A_bk bk.length c_bk] 30, rows (Kd.slice 3 (Kd.int .i64)) 24 (.slice A_rd rd.length c_rd) rd, var w9.heap.size #[.slice A_rd rd.length c_rd] 30, rows (Kd.slice 3 (Kd.int .i64)) 24 (.slice A_fl fl.length c_fl) fl, var w10.heap.size #[.slice A_fl fl.length c_fl] 30, rows (Kd.slice 3 (Kd.int .i64)) 24 (.slice A_ag ag.length c_ag) ag, var w11.heap.size #[.slice A_ag ag.length c_ag] 30]) ∧ Aside0 (Kd.C (Kd.int .i64) w' A1 q.length q))
 case atStart => exact ⟨0, rfl, ⟨Nat.zero_le _, rfl⟩, H0, HR⟩
 case round => (
 clear H0 HR
 obtain ⟨j, rfl, HJ, H9, HR⟩ := hrel
 rename World => ws
 by_cases cj : j < q.length
 · {
 have cf : j < f.length := by rw [K2.out]; exact cj
 have hb := K1.out
 obtain ⟨ar, e_r, x_m⟩ := C_num HR.out j cj
 obtain ⟨af, A2, c2_, e_f, y_r, l_f, i_f⟩ := C_row ((H9.out.nows 8 rfl).2.2) i FI.out
 rw [← KF.out] at y_r l_f i_f
 obtain ⟨ag_, e_g, y_m⟩ := C_num i_f j cf
 have hv := K3.out j cj
 obtain ⟨va, hva⟩ : ∃ va, va = q.getD j 0 := ⟨_, rfl⟩
 obtain ⟨vb, hvb⟩ : ∃ vb, vb = f.getD j 0 := ⟨_, rfl⟩
 rw [← hva] at x_m hv
 rw [← hvb] at y_m hv
 have HVA := aM hva; have HVB := aM hvb; have HIF := aM i_f; clear hva hvb i_f
 subst e_r e_f e_g
 have hv0 : decide (0 < va) = (vb == 1) := hv
 have u0 : (!(decide (0 < va) == (vb == 1))) = false := by rw [hv0]; simp
 clear hv0
 clear hv
 have z0 : (0 : Int) ≤ (j : Int) := by omega
 have t0 : (j : Int) < (q.length : Int) := by first | omega | (have := FI.out; omega)
 have z1 : (0 : Int) ≤ (i : Int) := by omega
 have t1 : (i : Int) < (fl.length : Int) := by first | omega | (have := FI.out; omega)
 have z2 : (0 : Int) ≤ (j : Int) := by omega
 have t2 : (j : Int) < (f.length : Int) := by first | omega | (have := FI.out; omega)
 have d0 : decide ((j : Int) < (q.length : Int)) = true := decide_eq_true t0
 have k_fl := cellV H9.out 9 rfl 0 rfl
 go_wp2_with (fail)
 go_roundg (q.length - j)
 case measure => have := HJ.out; omega
 case rel => exact ⟨j + 1, by first | rfl | exact up1 (by have := K1.out; omega), ⟨by omega, by omega⟩, H9, HR⟩}
 · {
 obtain rfl : j = q.length := by have := HJ.out.1; omega
 have d1 : decide ((q.length : Int) < (q.length : Int)) = false := decide_eq_false (by omega)
 go_wp2_with (fail)
 go_roundg (m.length - i)
 case measure => have := HI.out; omega
 case rel => exact ⟨i + 1, by first | rfl | exact up1 (by have := G11.out; omega), ⟨by omega, by omega⟩, H9⟩})}
 · {
 obtain rfl : i = m.length := by have := HI.out.1; omega
 have d1 : decide ((m.length : Int) < (m.length : Int)) = false := decide_eq_false (by omega)
 go_wp2_with (fail)
 go_ret
 exact ⟨rfl, H0.out.below⟩})}
def laws_FnMatricesAreAscents.Pure : Prop := ∀ (l0 : List Int) (l1 : List Int), l0.length ≤ maxLen → l0.length * 1 ≤ 140737488351232 → (∀ x ∈ l0, (Lit.int .u8 x).wf = true) → l1.length ≤ maxLen → l1.length * 1 ≤ 140737488351232 → (∀ x ∈ l1, (Lit.int .u8 x).wf = true) → ∃ k, laws_FnMatricesAreAscents.Good k l0 l1
theorem laws_FnMatricesAreAscents.walk (P : laws_FnMatricesAreAscents.Pure) (a0 : Option Addr) (len0 cap0 : Nat) (z0 : List Int) (a1 : Option Addr) (len1 cap1 : Nat) (z1 : List Int) (w : World) (hV : VarsP w) (w0 : (a0 = none ∧ len0 = 0 ∧ cap0 = 0 ∧ z0 = []) ∨ ∃ x, a0 = some x ∧ len0 ≤ cap0 ∧ cap0 ≤ maxLen ∧ z0.length = cap0 ∧ (∀ i, i < z0.length → w.cell? (x.add i) = some (.int .u8 (z0.getD i 0))) ∧ ∀ n ∈ z0, (Lit.int .u8 n).wf = true) (y0 : len0 * 1 ≤ 140737488351232) (w1 : (a1 = none ∧ len1 = 0 ∧ cap1 = 0 ∧ z1 = []) ∨ ∃ x, a1 = some x ∧ len1 ≤ cap1 ∧ cap1 ≤ maxLen ∧ z1.length = cap1 ∧ (∀ i, i < z1.length → w.cell? (x.add i) = some (.int .u8 (z1.getD i 0))) ∧ ∀ n ∈ z1, (Lit.int .u8 n).wf = true) (y1 : len1 * 1 ≤ 140737488351232) :
  Calls Tryz.prog 5 #[.slice a0 len0 cap0, .slice a1 len1 cap1] w fun e w' => e = .returned (.bool true) ∧ Below w.heap.size w w' := by
 obtain ⟨l0, rfl, hr0, hm0, hw0, hc0⟩ := ReadsInt.ofRowC w0
 obtain ⟨l1, rfl, hr1, hm1, hw1, hc1⟩ := ReadsInt.ofRowC w1
 obtain ⟨k, h⟩ := P l0 l1 hm0 y0 hw0 hm1 y1 hw1
 refine (laws_FnMatricesAreAscents.calls k _ _ l0 _ _ l1 w hV (Kd.C_of_reads (d := (0 : Int)) (h1 := fun _ => rfl) hr0) hc0 (Kd.C_of_reads (d := (0 : Int)) (h1 := fun _ => rfl) hr1) hc1 h).mono ?_
 rintro e w' ⟨rfl, hd⟩
 exact ⟨rfl, hd⟩

end Go.Proofs.YtcodionjhcmfhaaGreatDoor.Ax
