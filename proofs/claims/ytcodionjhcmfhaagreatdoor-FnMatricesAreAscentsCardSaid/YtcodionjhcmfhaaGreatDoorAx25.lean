-- Written by hook.py, a program of this session (wip/), which runs the kit's print.py with its own parts; Lean checks it.
import Derived.Test.YtcodionjhcmfhaaGreatDoorAx0
import Derived.Test.YtcodionjhcmfhaaGreatDoorAx4
import Derived.Test.YtcodionjhcmfhaaGreatDoorAx22
import Derived.Test.YtcodionjhcmfhaaGreatDoorAx24
import Derived.Test.YtcodionjhcmfhaaGreatDoorAxXSq
namespace Go.Proofs.YtcodionjhcmfhaaGreatDoor.Ax
open Go.RowKit Go.Proofs.YtcodionjhcmfhaaGreatDoorW.PrintWords Go.Proofs.YtcodionjhcmfhaaGreatDoorW.PrintLast Go.Proofs.YtcodionjhcmfhaaGreatDoorW.PrintMore Go.Proofs.YtcodionjhcmfhaaGreatDoor.Sq
attribute [local go_sem] max2_int min2_int max_two min_two max_three min_three max_four min_four   -- for this text's walks alone
set_option linter.unusedVariables false
set_option linter.unusedSimpArgs false

def impl_MatrixOfAscent.f (k : Nat) (l0 : List Int) : Option ((List (List Int)) × Bool) := (impl_IsAscent.f k l0).bind fun t477 => (if t477 = true then ((impl_matrixOf.f k l0).bind fun t478 => (some (t478, true))) else (some (([] : List (List Int)), false)))
set_option maxHeartbeats 8000000 in
set_option maxRecDepth 100000 in
theorem impl_MatrixOfAscent.calls (k : Nat) (A0 : Option Addr) (c0 : Nat) (l0 : List Int) (r1 : List (List Int)) (r2 : Bool) (w : World) (hr0 : Kd.C (Kd.int .i64) w A0 l0.length l0) (hc0 : l0.length ≤ c0) (h : impl_MatrixOfAscent.f k l0 = some (r1, r2)) :
  Calls Tryz.prog 27 #[.slice A0 l0.length c0] w fun e w' => ∃ v0_ : Value, e = .returned (.tuple #[.agg #[v0_], .bool r2]) ∧ Kd.S (Kd.slice 3 (Kd.int .i64)) 24 w' w.heap.size (fun _ => True) v0_ r1 ∧ Below w.heap.size w w' := by
 have hu30 := Tryz.underlying30
 have HR0 := aM hr0
 have HC0 := aM hc0
 clear hr0 hc0
 have HB := aM (Below.refl w.heap.size w)
 have H : ((impl_IsAscent.f k l0).bind fun t477 => (if t477 = true then ((impl_matrixOf.f k l0).bind fun t478 => (some (t478, true))) else (some (([] : List (List Int)), false)))) = some (r1, r2) := h
 clear h
 replace H := bS H
 obtain ⟨t477, A2, H⟩ := H
 try dsimp only at H
 by_cases c3 : t477 = true
 ·subst c3
  have H1 : ((impl_matrixOf.f k l0).bind fun t478 => (some (t478, true))) = some (r1, r2) := by rw [if_pos rfl] at H; exact H
  clear H
  have H := H1
  clear H1
  replace H := bS H
  obtain ⟨t478, A4, H⟩ := H
  try dsimp only at H
  simp only [Option.some.injEq, Prod.mk.injEq] at H
  obtain ⟨rfl, rfl⟩ := H
  go_enter Tryz.func27, Tryz.ntmps27
  go_wp2_with (first | ((with_reducible refine gate_dst (N := 2) rfl ?_); refine bE 2 30 #[.slice none 0 0] ?_; intro gb476 hg w5 hbox hb; have _ := aM (below_step bq hb); have _ := aM (hbox); have _ := aM ((gS hg)); have _ := aM ((gS hg)); clear HB; rename_i HB BK476 GW476 GE476; clear hb hbox hg) | ((with_reducible refine gate_callee (f := 31) rfl ?_); refine gL (some 5) Tryz.func31 #[.slice A0 l0.length c0] ?_; (with_reducible refine (impl_IsAscent.calls k _ _ l0 true _ (cQ (Kd.C_below HR0.out HB.out)) HC0.out A2.out).mono ?_); rintro e w' ⟨rfl, ⟨nd, rfl⟩⟩; refine ⟨_, rfl, ?_⟩; (try (rw [drewN_self w5]; generalize hq_ : World.drewN w5 _ = w5; have _ : Aside0 (w5.heap[gb476]? = some (.cells #[.slice none 0 0] 30 (0, 0))) := ⟨by rw [← hq_]; exact (qQ BK476)⟩; have _ : Aside0 (Below w.heap.size w w5) := ⟨by rw [← hq_]; exact bq⟩; clear BK476 HB hq_; rename_i BK476 HB))) | ((with_reducible refine gate_callee (f := 57) rfl ?_); refine gL (some 9) Tryz.func57 #[.slice A0 l0.length c0] ?_; (with_reducible refine (impl_matrixOf.calls k _ _ l0 t478 _ (cQ (Kd.C_below HR0.out HB.out)) HC0.out A4.out).mono ?_); rintro e w6 ⟨v479, rfl, ho0, hb⟩; refine ⟨_, rfl, ?_⟩; have _ := aM (Kd.S_lower ho0 (below_size bq)); have _ := aM (blk_below (qQ BK476) hb); have _ := aM (below_step bq hb); clear BK476 HB; rename_i HO480 BK476 HB; (try clear hb); (try clear hb2); (try clear hk); (try clear hi); (try clear ho0); obtain ⟨Ao7, co7, eo7⟩ := Kd.S_slice HO480.out; subst eo7; have hcz8_0 := c10 BK476; have hfz8_0 := blk_frozen BK476.out 0))
  refine bodyPost_ret (results_ct rfl _ _ gb476 30 #[.slice Ao7 t478.length co7] (0, 0) _ rfl (by (with_reducible repeat first|apply qN|apply qD|apply qA); refine blk_put (cs := #[.slice none 0 0]) ?_ 0 _ rfl; (with_reducible repeat first|apply qN|apply qD|apply qA); exact BK476.out) Tryz.underlying30 rfl (by kernel_rfl)) rfl ?_
  exact ⟨_, eE, by (with_reducible repeat first|apply sA|apply sN|apply sD); exact Kd.S_mono (Kd.S_far (p := ⟨gb476, 0, none⟩) (Kd.S_types HO480.out BK476.out (by decide)) (fun _ hk => hk.2) (.slice Ao7 t478.length co7)) (fun _ hk => trivial), bq⟩
 ·replace c3 := Bool.eq_false_iff.mpr c3
  subst c3
  have H1 : (some (([] : List (List Int)), false)) = some (r1, r2) := by rw [if_neg (show ¬ (false = true) by decide)] at H; exact H
  clear H
  have H := H1
  clear H1
  simp only [Option.some.injEq, Prod.mk.injEq] at H
  obtain ⟨rfl, rfl⟩ := H
  go_enter Tryz.func27, Tryz.ntmps27
  go_wp2_with (first | ((with_reducible refine gate_dst (N := 2) rfl ?_); refine bE 2 30 #[.slice none 0 0] ?_; intro gb476 hg w9 hbox hb; have _ := aM (below_step bq hb); have _ := aM (hbox); have _ := aM ((gS hg)); have _ := aM ((gS hg)); clear HB; rename_i HB BK476 GW476 GE476; clear hb hbox hg) | ((with_reducible refine gate_callee (f := 31) rfl ?_); refine gL (some 5) Tryz.func31 #[.slice A0 l0.length c0] ?_; (with_reducible refine (impl_IsAscent.calls k _ _ l0 false _ (cQ (Kd.C_below HR0.out HB.out)) HC0.out A2.out).mono ?_); rintro e w' ⟨rfl, ⟨nd, rfl⟩⟩; refine ⟨_, rfl, ?_⟩; (try (rw [drewN_self w9]; generalize hq_ : World.drewN w9 _ = w9; have _ : Aside0 (w9.heap[gb476]? = some (.cells #[.slice none 0 0] 30 (0, 0))) := ⟨by rw [← hq_]; exact (qQ BK476)⟩; have _ : Aside0 (Below w.heap.size w w9) := ⟨by rw [← hq_]; exact bq⟩; clear BK476 HB hq_; rename_i BK476 HB)); have hcz10_0 := c10 BK476; have hfz10_0 := blk_frozen BK476.out 0))
  refine bodyPost_ret (results_ct rfl _ _ gb476 30 #[.slice none 0 0] (0, 0) _ rfl (by (with_reducible repeat first|apply qN|apply qD|apply qA); refine blk_put (cs := #[.slice none 0 0]) ?_ 0 _ rfl; (with_reducible repeat first|apply qN|apply qD|apply qA); exact BK476.out) Tryz.underlying30 rfl (by kernel_rfl)) rfl ?_
  exact ⟨_, eE, by first | exact Kd.S_nil _ _ _ _ _ | exact Kd.N_nil _ _ _ _ _ | exact Kd.V_nil _ _ _ _ _ | exact Kd.Q_nil _ _ _ _ _ | exact Kd.R_nil _ _ _ _ _, bq⟩

def strings_Join.v (l0 : List ByteArray) (a1 : ByteArray) : List UInt8 := Go.Lib.join (l0.map (·.data.toList)) a1.data.toList
def strings_Join.f (l0 : List ByteArray) (a1 : ByteArray) : Option ByteArray := if l0.length ≤ 140737488355328 ∧ (strings_Join.v l0 a1).length ≤ 140737488355328 then some ⟨(strings_Join.v l0 a1).toArray⟩ else none
theorem strings_Join.calls (A0 : Option Addr) (c0 : Nat) (l0 : List ByteArray) (a1 : ByteArray) (r : ByteArray) (w : World) (hr0 : Kd.string.C w A0 l0.length l0) (hc0 : l0.length ≤ c0) (h : strings_Join.f l0 a1 = some r) :
    Calls Tryz.prog 93 #[.slice A0 l0.length c0, .string a1] w fun e w' => e = .returned (.string r) ∧ Below w.heap.size w w' := by
 unfold strings_Join.f at h
 by_cases c : l0.length ≤ 140737488355328 ∧ (strings_Join.v l0 a1).length ≤ 140737488355328
 · {
 rw [if_pos c] at h
 obtain rfl := Option.some.inj h
 cases l0 with
 | nil => {
 refine (Go.Proofs.YtcodionjhcmfhaaGreatDoor.XShelf.strings_Join_none A0 c0 a1 w).mono ?_
 rintro e w' ⟨rfl, rfl⟩
 exact ⟨rfl, Below.refl _ _⟩}
 | cons x xs => {
 obtain ⟨ad, _, e, _⟩ := Kd.C_get hr0 ByteArray.empty 0 (by omega) (by simp only [List.length_cons]; omega)
 subst e
 have hcell : ∀ i : Nat, i < (x :: xs).length → w.cell? (ad.add i) = some (.string ((x :: xs).getD i ByteArray.empty)) := by {
 intro i hi
 obtain ⟨ad2, c2, e2, _, hK, hc2⟩ := Kd.C_get hr0 ByteArray.empty (i : Int) (by omega) (by omega)
 obtain rfl : ad = ad2 := Option.some.inj e2
 rw [Int.toNat_natCast] at hK hc2
 have hk : c2 = [.string ((x :: xs).getD i ByteArray.empty)] := hK
 have hq := hc2 0 _ (by rw [hk]; rfl)
 rwa [show Kd.string.sz = 1 from rfl, Nat.mul_one, Nat.add_zero] at hq}
 have h0 := hcell 0 (by simp)
 have hsp : ad.spot = none := by {
 have h1 : w.cell? ad = some (.string ((x :: xs).getD 0 ByteArray.empty)) := h0
 unfold World.cell? at h1
 split at h1
 · {
 cases hs : ad.spot with
 | none => rfl
 | some _ => rw [hs] at h1; simp at h1}
 · simp at h1}
 obtain ⟨bk, o, sp⟩ := ad
 simp only at hsp
 subst hsp
 have hb := World.block_lt_of_cell? w _ h0
 refine (Go.Proofs.YtcodionjhcmfhaaGreatDoor.XShelf.strings_Join bk o c0 (x :: xs) a1 w ?_ hb c.1 hc0 c.2)
 intro j y hj
 have hjl : j < (x :: xs).length := (List.getElem?_eq_some_iff.1 hj).1
 have h2 := hcell j hjl
 rw [List.getD_eq_getElem?_getD, hj] at h2
 have e3 : (Addr.mk bk o none).add j = ⟨bk, o + j, none⟩ := by {
 unfold Addr.add
 by_cases cj : j = 0
 · subst cj; rfl
 · rw [if_neg cj]}
 rw [e3] at h2
 exact h2}}
 · {
 rw [if_neg c] at h
 exact absurd h (by simp)}
def strconv_Itoa.f (a0 : Int) : Option ByteArray := if 0 ≤ a0 ∧ a0 < 100 then some ⟨(Go.Lib.decDigits a0.toNat).toArray⟩ else none
theorem strconv_Itoa.calls (a0 : Int) (r : ByteArray) (w : World) (h : strconv_Itoa.f a0 = some r) :
    Calls Tryz.prog 121 #[.int .i64 a0] w fun e w' => e = .returned (.string r) ∧ Drawn0 w w' := by
 unfold strconv_Itoa.f at h
 by_cases c : 0 ≤ a0 ∧ a0 < 100
 · {
 rw [if_pos c] at h
 obtain rfl := Option.some.inj h
 obtain ⟨n, rfl⟩ : ∃ n : Nat, a0 = (n : Int) := ⟨a0.toNat, by omega⟩
 refine (Go.Proofs.YtcodionjhcmfhaaGreatDoor.XShelf.strconv_Itoa_small n (by omega) w).mono ?_
 rintro e w' ⟨rfl, rfl⟩
 exact ⟨by rw [Int.toNat_natCast], Drawn0.refl _⟩}
 · {
 rw [if_neg c] at h
 exact absurd h (by simp)}
def impl_ascentText.l0 : Nat → List ByteArray → List Int → Int → Int → Option (ByteArray)
 | 0, _, _, _, _ => none
 | k + 1, x3, x7, x8, x9 => if x9 < x8 then (if 0 ≤ x9 then (if x9 < (x7.length : Int) then ((strconv_Itoa.f (rd x7 x9)).bind fun t485 => (if x3.length < 8796093022208 then (impl_ascentText.l0 k (x3 ++ [t485]) x7 x8 (wrap64 (x9 + 1))) else (none))) else (none)) else (none)) else ((strings_Join.f x3 (⟨#[44]⟩ : ByteArray)).bind fun t489 => (some t489))
def impl_ascentText.f (k : Nat) (l0 : List Int) : Option (ByteArray) := impl_ascentText.l0 k (([] : List ByteArray)) l0 (l0.length : Int) 0
set_option maxHeartbeats 8000000 in
set_option maxRecDepth 100000 in
theorem impl_ascentText.calls (k : Nat) (A0 : Option Addr) (c0 : Nat) (l0 : List Int) (r : ByteArray) (w : World) (hr0 : Kd.C (Kd.int .i64) w A0 l0.length l0) (hc0 : l0.length ≤ c0) (h : impl_ascentText.f k l0 = some r) :
  Calls Tryz.prog 92 #[.slice A0 l0.length c0] w fun e w' => e = .returned (.string r) ∧ Below w.heap.size w w' := by
 have HR0 := aM hr0
 have HC0 := aM hc0
 clear hr0 hc0
 have HB := aM (Below.refl w.heap.size w)
 have H : (impl_ascentText.l0 k (([] : List ByteArray)) l0 (l0.length : Int) 0) = some r := h
 clear h
 obtain ⟨y481, hy481⟩ : ∃ y_ : List ByteArray, y_ = (([] : List ByteArray)) := ⟨_, rfl⟩
 replace H : (impl_ascentText.l0 k y481 l0 (l0.length : Int) 0) = some r := by first | (rw [hy481]; with_reducible exact H) | (have H2_ := (Option.bind_some _ _).symm.trans H; rw [hy481]; with_reducible exact H2_) | (have H2_ := (Option.bind_some _ _).symm.trans H; with_reducible exact H2_) | with_reducible exact H | (rw [hy481]; exact H) | exact H
 have Ny481 := aM hy481
 clear hy481
 have H' := aM H
 clear H
 go_enter Tryz.func92, Tryz.ntmps92
 go_wp2_with (first | ((with_reducible refine gate_dst (N := 6) rfl ?_); refine Kd.R_lit Kd.string _ 9 ?hg (N := 6) ?hd (xs := ([] : List ByteArray)) (inner := []) (ok := fun _ => True) (okp := fun _ => True) ?hr ?hp (fun _ hk => hk) trivial (Below.refl _ _) (Nat.le_refl _) (by simp) ?_; (case hd => rfl); (case hg => rfl); (case hr => first | (go_simp; done) | (go_simp; rfl)); (case hp => exact (Reps.none _ _)); intro v482 w2 ho3 hb hg_ hnew_; clear hg_ hnew_; (first | rw [← Ny481.out] at ho3 | (simp only [Int.reduceToNat] at ho3; rw [← Ny481.out] at ho3)); have _ := aM (Kd.R_lower ho3 (below_size bq)); have _ := aM (below_step bq hb); clear HB; rename_i HO483 HB; clear hb ho3))
 go_loopg [3, 9] k (fun kq v3 v9 w' => ∃ (x3_1 : List ByteArray) (x9_1 : Int), v9 = .int .i64 x9_1 ∧ Aside0 (impl_ascentText.l0 kq x3_1 l0 (l0.length : Int) x9_1 = some r) ∧ Aside0 (kq ≤ k) ∧ Aside0 (Kd.R Kd.string 9 w' w.heap.size (fun _ => True) v3 x3_1) ∧ Aside0 (Below w.heap.size w w'))
 case atStart => exact ⟨(y481), (0), eR, H', ⟨Nat.le_refl _⟩, ⟨rQ HO483⟩, ⟨bq⟩⟩
 case round =>
  clear H'
  try clear p2
  obtain ⟨x3_1, x9_1, rfl, HA, HK1, HO_3, HB⟩ := hrel
  cases gk with
  | zero => exact absurd HA.out (by simp [impl_ascentText.l0])
  | succ k1 =>
   have H := HA.out
   clear HA
   simp only [impl_ascentText.l0] at H
   by_cases c4 : x9_1 < (l0.length : Int)
   ·rw [if_pos c4] at H
    have c4b0 := decide_eq_true c4
    clear c4
    replace H := iD2 H
    obtain ⟨c5b0, c6b0, H⟩ := H
    replace H := bS H
    obtain ⟨t485, A7, H⟩ := H
    try dsimp only at H
    replace H := iS H
    obtain ⟨c8, H⟩ := H
    have LMc8 := aM c8
    clear c8
    obtain ⟨y486, hy486⟩ : ∃ y_ : List ByteArray, y_ = (x3_1 ++ [t485]) := ⟨_, rfl⟩
    replace H : (impl_ascentText.l0 k1 y486 l0 (l0.length : Int) (wrap64 (x9_1 + 1))) = some r := by first | (rw [hy486]; with_reducible exact H) | (have H2_ := (Option.bind_some _ _).symm.trans H; rw [hy486]; with_reducible exact H2_) | (have H2_ := (Option.bind_some _ _).symm.trans H; with_reducible exact H2_) | with_reducible exact H | (rw [hy486]; exact H) | exact H
    have Ny486 := aM hy486
    clear hy486
    have H' := aM H
    clear H
    have p484 : 0 ≤ (x9_1 : Int) := odt
    have q484 : x9_1 < (l0.length : Int) := odt
    obtain ⟨ad484, e484, hx484_0⟩ := Kd.at_int HR0.out x9_1 p484 q484
    cases e484
    replace hx484_0 := (HB.out.cell (World.block_lt_of_cell? w _ hx484_0)).trans hx484_0
    replace p484 := eq_true p484
    replace q484 := eq_true q484
    go_wp2_with (first | ((with_reducible refine gate_callee (f := 121) rfl ?_); refine gL (some 15) Tryz.func121 #[.int .i64 (rd l0 x9_1)] ?_; (with_reducible refine (strconv_Itoa.calls (rd l0 x9_1) t485 _ A7.out).mono ?_); rintro e w' ⟨rfl, ⟨nd, rfl⟩⟩; refine ⟨_, rfl, ?_⟩) | ((with_reducible refine gate_builtin (b := .append) (xs := #[.tmp 13, .tmp 16]) rfl ?_); at_builtin; refine Kd.R_append Kd.string (w0 := w) w.heap.size rfl (.tmp 13) (.tmp 16) 82 9 (.string ⟨#[]⟩) 16 rfl Tryz.underlying82 info9 rfl (by decide) (by omega) u3 x3_1 t485 [.string t485] (fun _ => True) (fun _ => False) rfl rfl ?aP (fun _ hk => hk.elim) ?aF ?aO ?aB ?aS ?aL ?_; (case aP => exact rfl); (case aB => exact bq); (case aF => exact (fun _ _ => trivial)); (case aO => exact (rQ HO_3)); (case aS => exact (below_size bq)); (case aL => have := LMc8.out; omega); intro v487 w9 ho hb hg hat; rw [← Ny486.out] at ho; have _ := aM (hb); have _ := aM (ho); clear HB HO_3; rename_i HB HO488; clear ho hb hg hat))
    go_roundg k1
    case measure => have := HK1.out; omega
    case rel => exact ⟨(y486), (wrap64 (x9_1 + 1)), eR, H', ⟨by have := HK1.out; omega⟩, ⟨rQ HO488⟩, ⟨bq⟩⟩
   ·rw [if_neg c4] at H
    have c4b0 := decide_eq_false c4
    clear c4
    replace H := bS H
    obtain ⟨t489, A10, H⟩ := H
    try dsimp only at H
    obtain rfl := Option.some.inj H
    obtain ⟨Ao11, co11, eo11⟩ := Kd.R_slice HO_3.out
    subst eo11
    go_wp2_with (first | ((with_reducible refine gate_callee (f := 93) rfl ?_); refine gL (some 20) Tryz.func93 #[.slice Ao11 x3_1.length co11, .string (⟨#[44]⟩ : ByteArray)] ?_; (with_reducible refine (strings_Join.calls _ _ x3_1 (⟨#[44]⟩ : ByteArray) t489 _ (cQ ((Kd.R_reads' HO_3.out).2.2)) ((Kd.R_reads' HO_3.out).2.1) A10.out).mono ?_); rintro e w12 ⟨rfl, hb⟩; refine ⟨_, rfl, ?_⟩; have _ := aM (Kd.R_below (rQ HO_3) hb); have _ := aM (below_step bq hb); clear HO_3 HB; rename_i HO_3 HB; (try clear hb); (try clear hb2); (try clear hk); (try clear hi)))
    go_ret
    exact ⟨eE, bq⟩

def impl_matrixText.l0 : Nat → List ByteArray → List (List Int) → Int → Int → Option (ByteArray)
 | 0, _, _, _, _ => none
 | k + 1, x3, x8, x9, x10 => if x10 < x9 then (if 0 ≤ x10 then (if x10 < (x8.length : Int) then ((impl_ascentText.f k (rd_L2 x8 x10)).bind fun t495 => (if x3.length < 8796093022208 then (impl_matrixText.l0 k (x3 ++ [t495]) x8 x9 (wrap64 (x10 + 1))) else (none))) else (none)) else (none)) else ((strings_Join.f x3 (⟨#[47]⟩ : ByteArray)).bind fun t499 => (some t499))
def impl_matrixText.f (k : Nat) (l0_0 : List (List Int)) : Option (ByteArray) := impl_matrixText.l0 k (([] : List ByteArray)) l0_0 (l0_0.length : Int) 0
set_option maxHeartbeats 8000000 in
set_option maxRecDepth 100000 in
theorem impl_matrixText.calls (k : Nat) (A0_0 : Option Addr) (c0_0 : Nat) (l0_0 : List (List Int)) (r : ByteArray) (w : World) (hr0_0 : Kd.C (Kd.slice 3 (Kd.int .i64)) w A0_0 l0_0.length l0_0) (hc0_0 : l0_0.length ≤ c0_0) (h : impl_matrixText.f k l0_0 = some r) :
  Calls Tryz.prog 51 #[.agg #[.slice A0_0 l0_0.length c0_0]] w fun e w' => e = .returned (.string r) ∧ Below w.heap.size w w' := by
 have hu30 := Tryz.underlying30
 have HR0_0 := aM hr0_0
 have HC0_0 := aM hc0_0
 clear hr0_0 hc0_0
 have HB := aM (Below.refl w.heap.size w)
 have H : (impl_matrixText.l0 k (([] : List ByteArray)) l0_0 (l0_0.length : Int) 0) = some r := h
 clear h
 obtain ⟨y491, hy491⟩ : ∃ y_ : List ByteArray, y_ = (([] : List ByteArray)) := ⟨_, rfl⟩
 replace H : (impl_matrixText.l0 k y491 l0_0 (l0_0.length : Int) 0) = some r := by first | (rw [hy491]; with_reducible exact H) | (have H2_ := (Option.bind_some _ _).symm.trans H; rw [hy491]; with_reducible exact H2_) | (have H2_ := (Option.bind_some _ _).symm.trans H; with_reducible exact H2_) | with_reducible exact H | (rw [hy491]; exact H) | exact H
 have Ny491 := aM hy491
 clear hy491
 have H' := aM H
 clear H
 go_enter Tryz.func51, Tryz.ntmps51
 go_wp2_with (first | ((with_reducible refine gate_dst (N := 1) rfl ?_); refine bE 1 30 #[.slice A0_0 l0_0.length c0_0] ?_; intro gb490 hg w2 hbox hb; have _ := aM (below_step bq hb); have _ := aM (hbox); have _ := aM ((gS hg)); have _ := aM ((gS hg)); clear HB; rename_i HB BK490 GW490 GE490; clear hb hbox hg) | ((with_reducible refine gate_dst (N := 6) rfl ?_); refine Kd.R_lit Kd.string _ 9 ?hg (N := 6) ?hd (xs := ([] : List ByteArray)) (inner := []) (ok := fun _ => True) (okp := fun _ => True) ?hr ?hp (fun _ hk => hk) trivial (Below.refl _ _) (Nat.le_refl _) (by simp) ?_; (case hd => rfl); (case hg => rfl); (case hr => first | (go_simp; done) | (go_simp; rfl)); (case hp => exact (Reps.none _ _)); intro v492 w3 ho4 hb hg_ hnew_; clear hg_ hnew_; (first | rw [← Ny491.out] at ho4 | (simp only [Int.reduceToNat] at ho4; rw [← Ny491.out] at ho4)); have _ := aM (Kd.R_lower ho4 (below_size bq)); have _ := aM (blk_below (qQ BK490) hb); have _ := aM (below_step bq hb); clear BK490 HB; rename_i HO493 BK490 HB; clear hb ho4; have hcz5_0 := c10 BK490; have hfz5_0 := blk_frozen BK490.out 0))
 go_loopg [3, 10] k (fun kq v3 v10 w' => ∃ (x3_1 : List ByteArray) (x10_1 : Int), v10 = .int .i64 x10_1 ∧ Aside0 (impl_matrixText.l0 kq x3_1 l0_0 (l0_0.length : Int) x10_1 = some r) ∧ Aside0 (kq ≤ k) ∧ Aside0 (Kd.R Kd.string 9 w' w.heap.size (fun _ => True) v3 x3_1) ∧ Aside0 (w'.heap[gb490]? = some (.cells #[(.slice A0_0 l0_0.length c0_0)] 30 (0, 0))) ∧ Aside0 (Below w.heap.size w w'))
 case atStart => exact ⟨(y491), (0), eR, H', ⟨Nat.le_refl _⟩, ⟨rQ HO493⟩, ⟨qQ BK490⟩, ⟨bq⟩⟩
 case round =>
  clear H'
  try clear p2
  try clear c5
  try clear hcz5_0
  try clear hfz5_0
  obtain ⟨x3_1, x10_1, rfl, HA, HK1, HO_3, BK490, HB⟩ := hrel
  cases gk with
  | zero => exact absurd HA.out (by simp [impl_matrixText.l0])
  | succ k1 =>
   have H := HA.out
   clear HA
   simp only [impl_matrixText.l0] at H
   by_cases c6 : x10_1 < (l0_0.length : Int)
   ·rw [if_pos c6] at H
    have c6b0 := decide_eq_true c6
    clear c6
    replace H := iD2 H
    obtain ⟨c7b0, c8b0, H⟩ := H
    replace H := bS H
    obtain ⟨t495, A9, H⟩ := H
    try dsimp only at H
    replace H := iS H
    obtain ⟨c10, H⟩ := H
    have LMc10 := aM c10
    clear c10
    obtain ⟨y496, hy496⟩ : ∃ y_ : List ByteArray, y_ = (x3_1 ++ [t495]) := ⟨_, rfl⟩
    replace H : (impl_matrixText.l0 k1 y496 l0_0 (l0_0.length : Int) (wrap64 (x10_1 + 1))) = some r := by first | (rw [hy496]; with_reducible exact H) | (have H2_ := (Option.bind_some _ _).symm.trans H; rw [hy496]; with_reducible exact H2_) | (have H2_ := (Option.bind_some _ _).symm.trans H; with_reducible exact H2_) | with_reducible exact H | (rw [hy496]; exact H) | exact H
    have Ny496 := aM hy496
    clear hy496
    have H' := aM H
    clear H
    have p494 : 0 ≤ (x10_1 : Int) := odt
    have q494 : x10_1 < (l0_0.length : Int) := odt
    obtain ⟨ad494, A494_0, c494_0, e494, hx494_0, hl494_0, hi494_0⟩ := at_L2 HR0_0.out x10_1 p494 q494
    cases e494
    replace hx494_0 := (HB.out.cell (World.block_lt_of_cell? w _ hx494_0)).trans hx494_0
    have HR494_0 := aM hi494_0
    have HC494_0 := aM hl494_0
    clear hi494_0 hl494_0
    replace p494 := eq_true p494
    replace q494 := eq_true q494
    go_wp2_with (first | ((with_reducible refine gate_callee (f := 92) rfl ?_); refine gL (some 16) Tryz.func92 #[.slice A494_0 (rd_L2 l0_0 x10_1).length c494_0] ?_; (with_reducible refine (impl_ascentText.calls k1 _ _ (rd_L2 l0_0 x10_1) t495 _ (cQ (Kd.C_below HR494_0.out HB.out)) HC494_0.out A9.out).mono ?_); rintro e w11 ⟨rfl, hb⟩; refine ⟨_, rfl, ?_⟩; have _ := aM (Kd.R_below (rQ HO_3) hb); have _ := aM (blk_below (qQ BK490) hb); have _ := aM (below_step bq hb); clear HO_3 BK490 HB; rename_i HO_3 BK490 HB; (try clear hb); (try clear hb2); (try clear hk); (try clear hi)) | ((with_reducible refine gate_builtin (b := .append) (xs := #[.tmp 14, .tmp 17]) rfl ?_); at_builtin; refine Kd.R_append Kd.string (w0 := w) w.heap.size rfl (.tmp 14) (.tmp 17) 82 9 (.string ⟨#[]⟩) 16 rfl Tryz.underlying82 info9 rfl (by decide) (by omega) u3 x3_1 t495 [.string t495] (fun _ => True) (fun _ => False) rfl rfl ?aP (fun _ hk => hk.elim) ?aF ?aO ?aB ?aS ?aL ?_; (case aP => exact rfl); (case aB => exact bq); (case aF => exact (fun _ _ => trivial)); (case aO => exact (rQ HO_3)); (case aS => exact (below_size bq)); (case aL => have := LMc10.out; omega); intro v497 w12 ho hb hg hat; rw [← Ny496.out] at ho; have _ := aM (blk_grown (g := gb490) (o := .cells #[.slice (some ad494) l0_0.length c0_0] 30 (0, 0)) (qQ BK490) hg (Kd.R_ne HO_3.out BK490.out (by decide))); have _ := aM (hb); have _ := aM (ho); clear BK490 HB HO_3; rename_i BK490 HB HO498; clear ho hb hg hat))
    go_roundg k1
    case measure => have := HK1.out; omega
    case rel => exact ⟨(y496), (wrap64 (x10_1 + 1)), eR, H', ⟨by have := HK1.out; omega⟩, ⟨rQ HO498⟩, ⟨qQ BK490⟩, ⟨bq⟩⟩
   ·rw [if_neg c6] at H
    have c6b0 := decide_eq_false c6
    clear c6
    replace H := bS H
    obtain ⟨t499, A13, H⟩ := H
    try dsimp only at H
    obtain rfl := Option.some.inj H
    obtain ⟨Ao14, co14, eo14⟩ := Kd.R_slice HO_3.out
    subst eo14
    go_wp2_with (first | ((with_reducible refine gate_callee (f := 93) rfl ?_); refine gL (some 21) Tryz.func93 #[.slice Ao14 x3_1.length co14, .string (⟨#[47]⟩ : ByteArray)] ?_; (with_reducible refine (strings_Join.calls _ _ x3_1 (⟨#[47]⟩ : ByteArray) t499 _ (cQ ((Kd.R_reads' HO_3.out).2.2)) ((Kd.R_reads' HO_3.out).2.1) A13.out).mono ?_); rintro e w15 ⟨rfl, hb⟩; refine ⟨_, rfl, ?_⟩; have _ := aM (Kd.R_below (rQ HO_3) hb); have _ := aM (blk_below (qQ BK490) hb); have _ := aM (below_step bq hb); clear HO_3 BK490 HB; rename_i HO_3 BK490 HB; (try clear hb); (try clear hb2); (try clear hk); (try clear hi)))
    go_ret
    exact ⟨eE, bq⟩

def impl_MatrixText.f (k : Nat) (l0_0 : List (List Int)) : Option (ByteArray × Bool) := (impl_IsMatrix.f k l0_0).bind fun t501 => (if t501 = true then ((impl_matrixText.f k l0_0).bind fun t502 => (some (t502, true))) else (some ((⟨#[]⟩ : ByteArray), false)))
set_option maxHeartbeats 8000000 in
set_option maxRecDepth 100000 in
theorem impl_MatrixText.calls (k : Nat) (A0_0 : Option Addr) (c0_0 : Nat) (l0_0 : List (List Int)) (r1 : ByteArray) (r2 : Bool) (w : World) (hr0_0 : Kd.C (Kd.slice 3 (Kd.int .i64)) w A0_0 l0_0.length l0_0) (hc0_0 : l0_0.length ≤ c0_0) (h : impl_MatrixText.f k l0_0 = some (r1, r2)) :
  Calls Tryz.prog 28 #[.agg #[.slice A0_0 l0_0.length c0_0]] w fun e w' => e = .returned (.tuple #[.string r1, .bool r2]) ∧ Below w.heap.size w w' := by
 have hu30 := Tryz.underlying30
 have HR0_0 := aM hr0_0
 have HC0_0 := aM hc0_0
 clear hr0_0 hc0_0
 have HB := aM (Below.refl w.heap.size w)
 have H : ((impl_IsMatrix.f k l0_0).bind fun t501 => (if t501 = true then ((impl_matrixText.f k l0_0).bind fun t502 => (some (t502, true))) else (some ((⟨#[]⟩ : ByteArray), false)))) = some (r1, r2) := h
 clear h
 replace H := bS H
 obtain ⟨t501, A2, H⟩ := H
 try dsimp only at H
 by_cases c3 : t501 = true
 ·subst c3
  have H1 : ((impl_matrixText.f k l0_0).bind fun t502 => (some (t502, true))) = some (r1, r2) := by rw [if_pos rfl] at H; exact H
  clear H
  have H := H1
  clear H1
  replace H := bS H
  obtain ⟨t502, A4, H⟩ := H
  try dsimp only at H
  simp only [Option.some.injEq, Prod.mk.injEq] at H
  obtain ⟨rfl, rfl⟩ := H
  go_enter Tryz.func28, Tryz.ntmps28
  go_wp2_with (first | ((with_reducible refine gate_dst (N := 1) rfl ?_); refine bE 1 30 #[.slice A0_0 l0_0.length c0_0] ?_; intro gb500 hg w5 hbox hb; have _ := aM (below_step bq hb); have _ := aM (hbox); have _ := aM ((gS hg)); have _ := aM ((gS hg)); clear HB; rename_i HB BK500 GW500 GE500; clear hb hbox hg; have hcz6_0 := c10 BK500; have hfz6_0 := blk_frozen BK500.out 0) | ((with_reducible refine gate_callee (f := 26) rfl ?_); refine gL (some 5) Tryz.func26 #[.agg #[.slice A0_0 l0_0.length c0_0]] ?_; (with_reducible refine (impl_IsMatrix.calls k _ _ l0_0 true _ (cQ (Kd.C_below HR0_0.out HB.out)) HC0_0.out A2.out).mono ?_); rintro e w7 ⟨rfl, hb⟩; refine ⟨_, rfl, ?_⟩; have _ := aM (blk_below (qQ BK500) hb); have _ := aM (below_step bq hb); clear BK500 HB; rename_i BK500 HB; (try clear hb); (try clear hb2); (try clear hk); (try clear hi); have hcz8_0 := c10 BK500; have hfz8_0 := blk_frozen BK500.out 0) | ((with_reducible refine gate_callee (f := 51) rfl ?_); refine gL (some 8) Tryz.func51 #[.agg #[.slice A0_0 l0_0.length c0_0]] ?_; (with_reducible refine (impl_matrixText.calls k _ _ l0_0 t502 _ (cQ (Kd.C_below HR0_0.out HB.out)) HC0_0.out A4.out).mono ?_); rintro e w9 ⟨rfl, hb⟩; refine ⟨_, rfl, ?_⟩; have _ := aM (blk_below (qQ BK500) hb); have _ := aM (below_step bq hb); clear BK500 HB; rename_i BK500 HB; (try clear hb); (try clear hb2); (try clear hk); (try clear hi)))
  go_ret2
  exact ⟨eE, bq⟩
 ·replace c3 := Bool.eq_false_iff.mpr c3
  subst c3
  have H1 : (some ((⟨#[]⟩ : ByteArray), false)) = some (r1, r2) := by rw [if_neg (show ¬ (false = true) by decide)] at H; exact H
  clear H
  have H := H1
  clear H1
  simp only [Option.some.injEq, Prod.mk.injEq] at H
  obtain ⟨rfl, rfl⟩ := H
  go_enter Tryz.func28, Tryz.ntmps28
  go_wp2_with (first | ((with_reducible refine gate_dst (N := 1) rfl ?_); refine bE 1 30 #[.slice A0_0 l0_0.length c0_0] ?_; intro gb500 hg w10 hbox hb; have _ := aM (below_step bq hb); have _ := aM (hbox); have _ := aM ((gS hg)); have _ := aM ((gS hg)); clear HB; rename_i HB BK500 GW500 GE500; clear hb hbox hg; have hcz11_0 := c10 BK500; have hfz11_0 := blk_frozen BK500.out 0) | ((with_reducible refine gate_callee (f := 26) rfl ?_); refine gL (some 5) Tryz.func26 #[.agg #[.slice A0_0 l0_0.length c0_0]] ?_; (with_reducible refine (impl_IsMatrix.calls k _ _ l0_0 false _ (cQ (Kd.C_below HR0_0.out HB.out)) HC0_0.out A2.out).mono ?_); rintro e w12 ⟨rfl, hb⟩; refine ⟨_, rfl, ?_⟩; have _ := aM (blk_below (qQ BK500) hb); have _ := aM (below_step bq hb); clear BK500 HB; rename_i BK500 HB; (try clear hb); (try clear hb2); (try clear hk); (try clear hi)))
  go_ret2
  exact ⟨eE, bq⟩

def VarsP (w : World) : Prop := (∃ m, w.cell? ⟨0, 0, none⟩ = some (.int .i64 m)) ∧ (∃ v, w.cell? ⟨1, 0, none⟩ = some v ∧ (v = .nilIface ∨ ∃ te pe, v = .iface te pe)) ∧ (∃ v, w.cell? ⟨2, 0, none⟩ = some v ∧ (v = .nilIface ∨ ∃ te pe, v = .iface te pe))
theorem VarsP.below {w w' : World} (h : VarsP w) (hb : Below w.heap.size w w') : VarsP w' := by
 obtain ⟨⟨m, h0⟩, ⟨v1, h1, k1⟩, ⟨v2, h2, k2⟩⟩ := h
 exact ⟨⟨m, (hb.cell (World.block_lt_of_cell? w _ h0)).trans h0⟩, ⟨v1, (hb.cell (World.block_lt_of_cell? w _ h1)).trans h1, k1⟩, ⟨v2, (hb.cell (World.block_lt_of_cell? w _ h2)).trans h2, k2⟩⟩
def strings_Split.v (a0 a1 : ByteArray) : List ByteArray := Go.Lib.splitB a1 0 (Go.Lib.countB a0 a1) a0
def strings_Split.f (a0 a1 : ByteArray) : Option (List ByteArray) := if a0.size ≤ 1048576 ∧ 1 ≤ a1.size then some (strings_Split.v a0 a1) else none
theorem splitB_small (sep : ByteArray) : ∀ (k : Nat) (s : ByteArray), ∀ x ∈ Go.Lib.splitB sep 0 k s, x.size ≤ s.size
  | 0, s, x, h => by
    rw [Go.Lib.splitB_zero] at h
    obtain rfl := List.mem_singleton.1 h
    exact Nat.le_refl _
  | k + 1, s, x, h => by
    unfold Go.Lib.splitB at h
    split at h
    · obtain rfl := List.mem_singleton.1 h
      exact Nat.le_refl _
    · rcases List.mem_cons.1 h with rfl | h
      · rw [ByteArray.size_extract]; omega
      · have := splitB_small sep k _ x h
        rw [ByteArray.size_extract] at this
        omega
theorem strings_Split.calls (a0 a1 : ByteArray) (r : List ByteArray) (w : World) (hV : VarsP w) (h : strings_Split.f a0 a1 = some r) :
    Calls Tryz.prog 58 #[.string a0, .string a1] w fun e w' => ∃ v0_ : Value, e = .returned v0_ ∧ Kd.string.R 9 w' w.heap.size (fun _ => True) v0_ r ∧ Below w.heap.size w w' := by
 unfold strings_Split.f at h
 by_cases c : a0.size ≤ 1048576 ∧ 1 ≤ a1.size
 · {
 rw [if_pos c] at h
 obtain rfl := Option.some.inj h
 obtain ⟨m, hm⟩ := hV.1
 have hl : (strings_Split.v a0 a1).length = Go.Lib.countB a0 a1 + 1 := Go.Lib.splitB_all a1 c.2 0 _ a0 rfl
 have hle := Go.Lib.countB_le a1 c.2 a0.size a0 (Nat.le_refl _)
 refine (Go.Proofs.YtcodionjhcmfhaaGreatDoor.XShelfP.strings_Split a0 a1 m w (by omega) hm c.2).mono ?_
 rintro e w' ⟨rfl, rfl⟩
 refine ⟨_, rfl, ?_, below_alloc (Below.refl _ _) _⟩
 have hs : ((strings_Split.v a0 a1).map Value.string).toArray.size = (Go.Lib.countB a0 a1 + 1) * 1 := by rw [List.size_toArray, List.length_map, hl, Nat.mul_one]
 have ho := World.ownsRow_lit (base := w.heap.size) (e := 9) (size := 1) w ((strings_Split.v a0 a1).map Value.string).toArray (Go.Lib.countB a0 a1 + 1) (Nat.le_refl _) (by unfold maxLen; omega) hs
 refine Kd.R_of_own (enc := Value.string) (xs := strings_Split.v a0 a1) ?_ (fun _ _ => trivial)
 rw [hl]
 exact ho}
 · {
 rw [if_neg c] at h
 exact absurd h (by simp)}
end Go.Proofs.YtcodionjhcmfhaaGreatDoor.Ax
