-- Written by hook.py, a program of this session (wip/), which runs the kit's print.py with its own parts; Lean checks it.
import Derived.Test.YtcodionjhcmfhaaGreatDoorAx0
import Derived.Test.YtcodionjhcmfhaaGreatDoorAx4
import Derived.Test.YtcodionjhcmfhaaGreatDoorAx25
import Derived.Test.YtcodionjhcmfhaaGreatDoorAxXSq
namespace Go.Proofs.YtcodionjhcmfhaaGreatDoor.Ax
open Go.RowKit Go.Proofs.YtcodionjhcmfhaaGreatDoorW.PrintWords Go.Proofs.YtcodionjhcmfhaaGreatDoorW.PrintLast Go.Proofs.YtcodionjhcmfhaaGreatDoorW.PrintMore Go.Proofs.YtcodionjhcmfhaaGreatDoor.Sq
attribute [local go_sem] max2_int min2_int max_two min_two max_three min_three max_four min_four   -- for this text's walks alone
set_option linter.unusedVariables false
set_option linter.unusedSimpArgs false

def numV (x : ByteArray) : Option Int := match Go.Lib.atoiAll x.data.toList with
  | .ok v => some v
  | _ => none
def numsW (ws : List ByteArray) : List Int := ws.map fun x => (numV x).getD 0
def numsOk (ws : List ByteArray) : Bool := ws.all fun x => (numV x).isSome
def impl_numbersOf.g (ws : List ByteArray) : List Int × Bool := if 12 < ws.length then ([], false) else if numsOk ws = true then (numsW ws, true) else ([], false)
def impl_numbersOf.f (a0 : ByteArray) : Option (List Int × Bool) := (strings_Split.f a0 ⟨#[44]⟩).bind fun ws => some (impl_numbersOf.g ws)
open Go.Proofs.YtcodionjhcmfhaaGreatDoor.Live in
theorem cellS {w0 w : World} {L : List Ob} {e g n c : Nat} {m : List ByteArray} (H : Live w0 w L) (i : Nat) (hi : L[i]? = some (row Kd.string e (.slice (some ⟨g, 0, none⟩) n c) m)) (j : Nat) (hj : j < m.length) :
    w.cell? ⟨g, j, none⟩ = some (.string (m.getD j ByteArray.empty)) := by
 have h := H.get i hi
 obtain ⟨rfl, _⟩ := Kd.R_reads' h
 have := Kd.R_celln (enc := Value.string) ByteArray.empty h (j : Int) (by omega) (by omega)
 simp only [Int.toNat_natCast] at this
 rw [this.1]; simp [rdOf]
set_option maxHeartbeats 8000000 in
set_option maxRecDepth 100000 in
open Go.Proofs.YtcodionjhcmfhaaGreatDoor.Live in
theorem impl_numbersOf.calls (a0 : ByteArray) (r1 : List Int) (r2 : Bool) (w : World) (hV : VarsP w) (h : impl_numbersOf.f a0 = some (r1, r2)) :
    Calls Tryz.prog 59 #[.string a0] w fun e w' => ∃ v0_ : Value, e = .returned (.tuple #[v0_, .bool r2]) ∧ (Kd.int .i64).R 3 w' w.heap.size (fun _ => True) v0_ r1 ∧ Below w.heap.size w w' := by
 unfold impl_numbersOf.f at h
 obtain ⟨ws, hws, h⟩ := Option.bind_eq_some_iff.mp h
 have hg : impl_numbersOf.g ws = (r1, r2) := Option.some.inj h
 have hsm : ∀ x ∈ ws, x.size ≤ 1048576 := by {
 have h2 := hws
 unfold strings_Split.f at h2
 split at h2
 · {
 rename_i c
 obtain rfl := Option.some.inj h2
 intro x hx
 exact Nat.le_trans (splitB_small _ _ _ x hx) c.1}
 · exact absurd h2 (by simp)}
 have HSM := aM hsm
 have HV := aM hV
 have HWS := aM hws
 have HGG := aM hg
 clear h hg hsm hV hws
 go_enter Tryz.func59, Tryz.ntmps59
 go_wp2_with (first | ((with_reducible refine gate_dst (N := 10) rfl ?_); refine Kd.R_lit (Kd.int .i64) _ 3 ?hg (N := 10) ?hd (xs := ([] : List Int)) (inner := []) (ok := fun _ => True) (okp := fun _ => True) ?hr ?hp (fun _ hk => hk) trivial (Below.refl _ _) (Nat.le_refl _) (by simp) ?_; (case hd => rfl); (case hg => rfl); (case hr => first | (go_simp; done) | (go_simp; rfl)); (case hp => exact (Reps.none _ _)); intro v10 w2 ho2 hb hg_ hnew_; clear hg_ hnew_; have H2 := aM (Live.add (o := row (Kd.int .i64) 3 v10 []) (Live.start w) hb ho2); clear hb ho2) | fail)
 refine (strings_Split.calls a0 ⟨#[44]⟩ ws _ (HV.out.below H2.out.below) HWS.out).mono ?_
 rintro e w3 ⟨v, rfl, hs_, hb_⟩
 have H3 := aM (Live.add (o := row Kd.string 9 v ws) H2.out hb_ hs_)
 clear hs_ hb_ H2
 obtain ⟨A, c, rfl, _, _⟩ := H3.out.form 1 rfl
 by_cases hl : 12 < ws.length
 · {
 have hg := HGG.out
 unfold impl_numbersOf.g at hg
 rw [if_pos hl] at hg
 obtain ⟨rfl, rfl⟩ := Prod.mk.inj hg
 have c1 : decide ((12 : Int) < (ws.length : Int)) = true := decide_eq_true (by omega)
 have c2 : decide (12 < ws.length) = true := decide_eq_true hl
 clear hg
 go_wp2_with (fail)
 go_ret2
 exact ⟨_, rfl, Kd.R_nil _ _ _ _ _, H3.out.below⟩}
 · {
 have c1 : decide ((12 : Int) < (ws.length : Int)) = false := decide_eq_false (by omega)
 have c2 : decide (12 < ws.length) = false := decide_eq_false hl
 have HL := aM hl
 clear hl
 go_wp2_with (fail)
 go_loopg [4, 18] (ws.length + 1) (fun kq v4 v18 w' => ∃ i : Nat, v18 = .int .i64 (i : Int) ∧ Aside0 (i ≤ ws.length ∧ kq = ws.length - i + 1) ∧ Aside0 (numsOk (ws.take i) = true) ∧ Aside0 (Live w w' [row (Kd.int .i64) 3 v4 (numsW (ws.take i)), row Kd.string 9 (.slice A ws.length c) ws]))
 case atStart => exact ⟨0, rfl, ⟨Nat.zero_le _, rfl⟩, ⟨rfl⟩, H3⟩
 case round => (
 clear H3
 obtain ⟨i, rfl, HI, HO, H⟩ := hrel
 rename World => wq
 by_cases ci : i < ws.length
 · {
 have d1 : decide ((i : Int) < (ws.length : Int)) = true := decide_eq_true (by omega)
 have d2 : decide (i < ws.length) = true := decide_eq_true ci
 obtain ⟨g, c', e1, _, _⟩ := H.out.form1 1 rfl (by omega)
 injection e1 with ea en ec
 subst ea
 subst ec
 clear en
 have hcell := cellS H.out 1 rfl i ci
 obtain ⟨x, hx⟩ : ∃ x, x = ws.getD i ByteArray.empty := ⟨_, rfl⟩
 rw [← hx] at hcell
 have hxm : x = ws[i] := by rw [hx, List.getD_eq_getElem?_getD, List.getElem?_eq_getElem ci]; rfl
 have hxs : x.size ≤ 1048576 := HSM.out x (by rw [hxm]; exact List.getElem_mem _)
 have HXM := aM hxm
 have HXS := aM hxs
 have HVq := aM (HV.out.below H.out.below)
 clear hx hxm hxs
 cases ha : Go.Lib.atoiAll x.data.toList with
 | ok v => {
 have HAT := aM ha
 clear ha
 go_wp2_with (fail)
 refine (Go.Proofs.YtcodionjhcmfhaaGreatDoor.XShelfP.strconv_Atoi_ok x (by have := HXS.out; omega) v HAT.out _).mono ?_
 rintro e w4 ⟨rfl, hw⟩
 have hb4 : Below wq.heap.size wq w4 := by {
 rcases hw with rfl | ⟨t, rfl⟩
 · exact Below.refl _ _
 · exact bytes_below (Below.refl _ _) (Nat.le_refl _) _ _}
 have H4 := aM (H.out.step hb4)
 clear hw hb4 H hcell
 have hv : numV x = some v := by unfold numV; rw [HAT.out]
 have hn : numsW (ws.take (i + 1)) = numsW (ws.take i) ++ [v] := by {
 unfold numsW
 rw [List.take_succ_eq_append_getElem ci, List.map_append, ← HXM.out, List.map_cons, List.map_nil, hv]
 rfl}
 have ho2 : numsOk (ws.take (i + 1)) = true := by {
 have h1 := HO.out
 unfold numsOk at h1 ⊢
 rw [List.take_succ_eq_append_getElem ci, List.all_append, h1, ← HXM.out, List.all_cons, hv]
 rfl}
 have hlen : (numsW (ws.take i)).length ≤ 12 := by {
 unfold numsW
 rw [List.length_map, List.length_take]
 have := HL.out
 omega}
 have HN := aM hn
 have HO2 := aM ho2
 have HLEN := aM hlen
 clear hv hn ho2 hlen
 obtain ⟨A4, c4, rfl, _, _⟩ := H4.out.form 0 rfl
 obtain ⟨ok_, ho_, hok_, _, hback_⟩ := H4.out.lend 0 rfl
 go_wp2_with (first | ((with_reducible refine gate_builtin (b := .append) (xs := #[.tmp 29, .tmp 31]) rfl ?_); at_builtin; refine Kd.R_append (Kd.int .i64) (w0 := w) w.heap.size rfl (.tmp 29) (.tmp 31) 24 3 (.int .i64 0) 8 rfl Tryz.underlying24 (by kernel_rfl) rfl (by decide) (by omega) (.slice A4 (numsW (ws.take i)).length c4) (numsW (ws.take i)) v [.int .i64 v] (fun k_ => ok_ k_ ∨ w4.heap.size ≤ k_) (fun _ => False) rfl rfl rfl (fun _ h => h.elim) (fun _ h => .inr h) (Kd.R_mono ho_ (fun _ h => .inl h)) H4.out.below H4.out.below.size (by have := HLEN.out; omega) ?_; intro v8 w8 hs_ hb_ hg_ hat_; have H8 := aM (hback_ w8 (row (Kd.int .i64) 3 v8 (numsW (ws.take i) ++ [v])) hb_ (Kept.of_grown hg_ (Kept.refl _ _) (fun k_ hk_ => .inl (ho_.1 k_ hk_))) hs_); clear hs_ hb_ hg_ hat_ hback_ ho_) | fail)
 have H9 := aM (show Live w w8 [row (Kd.int .i64) 3 v8 (numsW (ws.take (i + 1))), row Kd.string 9 (.slice (some ⟨g, 0, none⟩) ws.length c) ws] by rw [HN.out]; exact H8.out)
 clear H8 H4
 go_roundg (ws.length - i)
 case measure => have := HI.out; omega
 case rel => exact ⟨i + 1, by first | rfl | exact up1 (by have := HL.out; omega), ⟨by omega, by omega⟩, HO2, H9⟩}
 | «syntax» => {
 have HAT := aM ha
 clear ha
 have hno : numsOk ws = false := by {
 have h1 : (numV x).isSome = false := by unfold numV; rw [HAT.out]; rfl
 unfold numsOk
 rw [List.all_eq_false]
 exact ⟨x, by rw [HXM.out]; exact List.getElem_mem _, by rw [h1]; simp⟩}
 have hg := HGG.out
 unfold impl_numbersOf.g at hg
 rw [if_neg HL.out, hno, if_neg (by simp)] at hg
 obtain ⟨rfl, rfl⟩ := Prod.mk.inj hg
 clear hg hno
 go_wp2_with (fail)
 obtain ⟨ev, hv, hev⟩ := HVq.out.2.1
 refine (Go.Proofs.YtcodionjhcmfhaaGreatDoor.XShelfP.strconv_Atoi_syntax x (by have := HXS.out; omega) HAT.out ev _ hv hev).mono ?_
 rintro e w4 ⟨N, rfl, _, _, hb4⟩
 have H4 := aM (H.out.step hb4)
 clear H hcell
 go_wp2_with (fail)
 go_ret2
 exact ⟨_, rfl, Kd.R_nil _ _ _ _ _, H4.out.below⟩}
 | range => {
 have HAT := aM ha
 clear ha
 have hno : numsOk ws = false := by {
 have h1 : (numV x).isSome = false := by unfold numV; rw [HAT.out]; rfl
 unfold numsOk
 rw [List.all_eq_false]
 exact ⟨x, by rw [HXM.out]; exact List.getElem_mem _, by rw [h1]; simp⟩}
 have hg := HGG.out
 unfold impl_numbersOf.g at hg
 rw [if_neg HL.out, hno, if_neg (by simp)] at hg
 obtain ⟨rfl, rfl⟩ := Prod.mk.inj hg
 clear hg hno
 go_wp2_with (fail)
 obtain ⟨ev, hv, hev⟩ := HVq.out.2.2
 refine (Go.Proofs.YtcodionjhcmfhaaGreatDoor.XShelfP.strconv_Atoi_range x (by have := HXS.out; omega) HAT.out ev _ hv hev).mono ?_
 rintro e w4 ⟨N, rfl, _, _, hb4⟩
 have H4 := aM (H.out.step hb4)
 clear H hcell
 go_wp2_with (fail)
 go_ret2
 exact ⟨_, rfl, Kd.R_nil _ _ _ _ _, H4.out.below⟩}}
 · {
 have d1 : decide ((i : Int) < (ws.length : Int)) = false := decide_eq_false (by omega)
 have d2 : decide (i < ws.length) = false := decide_eq_false ci
 obtain rfl : i = ws.length := by have := HI.out; omega
 have hg := HGG.out
 unfold impl_numbersOf.g at hg
 rw [List.take_length] at HO H
 rw [if_neg HL.out, if_pos HO.out] at hg
 obtain ⟨rfl, rfl⟩ := Prod.mk.inj hg
 clear hg
 go_wp2_with (fail)
 go_ret2
 exact ⟨_, rfl, H.out.get 0 rfl, H.out.below⟩})}
def impl_ParseMatrix.l0 : Nat → ByteArray → List ByteArray → Int → Int → List (List Int) → Option ((List (List Int)) × Bool)
 | 0, _, _, _, _, _ => none
 | k + 1, x0, x20, x21, x22, x505000 => if x22 < x21 then (if 0 ≤ x22 then (if x22 < (x20.length : Int) then ((impl_numbersOf.f (rdOf ByteArray.empty x20 x22)).bind fun bt509 => (if bt509.2 = true then (if x505000.length < 5864062014805 then (impl_ParseMatrix.l0 k x0 x20 x21 (wrap64 (x22 + 1)) (x505000 ++ [bt509.1])) else (none)) else (some (([] : List (List Int)), false)))) else (none)) else (none)) else ((impl_IsMatrix.f k x505000).bind fun t516 => (if t516 = true then ((impl_matrixText.f k x505000).bind fun t517 => (if t517.toList = x0.toList then (some (x505000, true)) else (some (([] : List (List Int)), false)))) else (some (([] : List (List Int)), false))))
def impl_ParseMatrix.f (k : Nat) (a0 : ByteArray) : Option ((List (List Int)) × Bool) := if a0.toList = ([] : List UInt8) then (some (([] : List (List Int)), true)) else ((strings_Split.f a0 (⟨#[47]⟩ : ByteArray)).bind fun t505 => (if (t505.length : Int) > 12 then (some (([] : List (List Int)), false)) else (impl_ParseMatrix.l0 k a0 t505 (t505.length : Int) 0 ([] : List (List Int)))))
set_option maxHeartbeats 8000000 in
set_option maxRecDepth 100000 in
theorem impl_ParseMatrix.calls (k : Nat) (a0 : ByteArray) (r1 : List (List Int)) (r2 : Bool) (w : World) (hV : VarsP w) (h : impl_ParseMatrix.f k a0 = some (r1, r2)) :
  Calls Tryz.prog 29 #[.string a0] w fun e w' => ∃ v0_ : Value, e = .returned (.tuple #[.agg #[v0_], .bool r2]) ∧ Kd.S (Kd.slice 3 (Kd.int .i64)) 24 w' w.heap.size (fun _ => True) v0_ r1 ∧ Below w.heap.size w w' := by
 have hu30 := Tryz.underlying30
 have HB := aM (Below.refl w.heap.size w)
 have HVV := aM hV
 clear hV
 have H : (if a0.toList = ([] : List UInt8) then (some (([] : List (List Int)), true)) else ((strings_Split.f a0 (⟨#[47]⟩ : ByteArray)).bind fun t505 => (if (t505.length : Int) > 12 then (some (([] : List (List Int)), false)) else (impl_ParseMatrix.l0 k a0 t505 (t505.length : Int) 0 ([] : List (List Int)))))) = some (r1, r2) := h
 clear h
 by_cases c2 : a0.toList = ([] : List UInt8)
 ·rw [if_pos c2] at H
  have c2b0 : (a0.toList == ([] : List UInt8)) = true := beq_iff_eq.mpr c2
  have c2b1 : (a0.toList != ([] : List UInt8)) = false := bne_eq_false_iff_eq.mpr c2
  clear c2
  simp only [Option.some.injEq, Prod.mk.injEq] at H
  obtain ⟨rfl, rfl⟩ := H
  go_enter Tryz.func29, Tryz.ntmps29
  go_wp2_with (first | ((with_reducible refine gate_dst (N := 2) rfl ?_); refine bE 2 30 #[.slice none 0 0] ?_; intro gb503 hg w3 hbox hb; have _ := aM (below_step bq hb); have _ := aM (hbox); have _ := aM ((gS hg)); have _ := aM ((gS hg)); clear HB; rename_i HB BK503 GW503 GE503; clear hb hbox hg) | ((with_reducible refine gate_dst (N := 4) rfl ?_); refine bE 4 30 #[.slice none 0 0] ?_; intro gb504 hg w4 hbox hb; have _ := aM (blk_below (qQ BK503) hb); have _ := aM (below_step bq hb); have _ := aM (hbox); have _ := aM ((gS hg)); have _ := aM ((gS hg)); have _ := aM ((by rw [hg]; exact Nat.ne_of_lt (blk_lt (g := gb503) (o := .cells #[.slice none 0 0] 30 (0, 0)) (qQ BK503)) : gb503 ≠ gb504)); have _ := aM ((by rw [hg]; exact Nat.ne_of_gt (blk_lt (g := gb503) (o := .cells #[.slice none 0 0] 30 (0, 0)) (qQ BK503)) : gb504 ≠ gb503)); clear BK503 HB; rename_i BK503 HB BK504 GW504 GE504 NB503_504 NB504_503; clear hb hbox hg; have hnb5 := NB504_503.out; have hnc5 := NB503_504.out; have hcz6_0 := c10 BK504; have hfz6_0 := blk_frozen BK504.out 0; have hcz7_0 := c10 BK503; have hfz7_0 := blk_frozen BK503.out 0))
  refine bodyPost_ret (results_ct rfl _ _ gb503 30 #[.slice none 0 0] (0, 0) _ rfl (by (with_reducible repeat first|apply qN|apply qD|apply qA); refine blk_put (cs := #[.slice none 0 0]) ?_ 0 _ rfl; (with_reducible repeat first|apply qN|apply qD|apply qA); refine blk_far ?_ NB503_504.out _; (with_reducible repeat first|apply qN|apply qD|apply qA); exact BK503.out) Tryz.underlying30 rfl (by kernel_rfl)) rfl ?_
  exact ⟨_, eE, by first | exact Kd.S_nil _ _ _ _ _ | exact Kd.N_nil _ _ _ _ _ | exact Kd.V_nil _ _ _ _ _ | exact Kd.Q_nil _ _ _ _ _ | exact Kd.R_nil _ _ _ _ _, bq⟩
 ·rw [if_neg c2] at H
  have c2b0 : (a0.toList == ([] : List UInt8)) = false := beq_eq_false_iff_ne.mpr c2
  have c2b1 : (a0.toList != ([] : List UInt8)) = true := bne_iff_ne.mpr c2
  replace H := bS H
  obtain ⟨t505, A8, H⟩ := H
  try dsimp only at H
  by_cases c9 : (t505.length : Int) > 12
  ·rw [if_pos c9] at H
   have c9b0 := decide_eq_true c9
   have c9b1 : decide (12 < t505.length) = true := decide_eq_true (by omega)
   clear c9
   simp only [Option.some.injEq, Prod.mk.injEq] at H
   obtain ⟨rfl, rfl⟩ := H
   go_enter Tryz.func29, Tryz.ntmps29
   go_wp2_with (first | ((with_reducible refine gate_dst (N := 2) rfl ?_); refine bE 2 30 #[.slice none 0 0] ?_; intro gb503 hg w10 hbox hb; have _ := aM (below_step bq hb); have _ := aM (hbox); have _ := aM ((gS hg)); have _ := aM ((gS hg)); clear HB; rename_i HB BK503 GW503 GE503; clear hb hbox hg) | ((with_reducible refine gate_dst (N := 4) rfl ?_); refine bE 4 30 #[.slice none 0 0] ?_; intro gb504 hg w11 hbox hb; have _ := aM (blk_below (qQ BK503) hb); have _ := aM (below_step bq hb); have _ := aM (hbox); have _ := aM ((gS hg)); have _ := aM ((gS hg)); have _ := aM ((by rw [hg]; exact Nat.ne_of_lt (blk_lt (g := gb503) (o := .cells #[.slice none 0 0] 30 (0, 0)) (qQ BK503)) : gb503 ≠ gb504)); have _ := aM ((by rw [hg]; exact Nat.ne_of_gt (blk_lt (g := gb503) (o := .cells #[.slice none 0 0] 30 (0, 0)) (qQ BK503)) : gb504 ≠ gb503)); clear BK503 HB; rename_i BK503 HB BK504 GW504 GE504 NB503_504 NB504_503; clear hb hbox hg; have hnb12 := NB504_503.out; have hnc12 := NB503_504.out; have hcz13_0 := c10 BK504; have hfz13_0 := blk_frozen BK504.out 0) | ((with_reducible refine gate_callee (f := 58) rfl ?_); refine gL (some 15) Tryz.func58 #[.string a0, .string (⟨#[47]⟩ : ByteArray)] ?_; (with_reducible refine (strings_Split.calls a0 (⟨#[47]⟩ : ByteArray) t505 _ (HVV.out.below bq) A8.out).mono ?_); rintro e w14 ⟨v506, rfl, ho0, hb⟩; refine ⟨_, rfl, ?_⟩; have _ := aM (Kd.R_lower ho0 (below_size bq)); have _ := aM (blk_below (g := gb503) (o := .cells #[.slice none 0 0] 30 (0, 0)) (by (with_reducible repeat first|apply qN|apply qD|apply qA); refine blk_far ?_ NB503_504.out _; (with_reducible repeat first|apply qN|apply qD|apply qA); exact BK503.out) hb); have _ := aM (blk_below (g := gb504) (o := .cells #[.slice none 0 0] 30 (0, 0)) (by (with_reducible repeat first|apply qN|apply qD|apply qA); refine blk_put (cs := #[.slice none 0 0]) ?_ 0 _ rfl; (with_reducible repeat first|apply qN|apply qD|apply qA); exact BK504.out) hb); have _ := aM (below_step bq hb); clear BK503 BK504 HB; rename_i HO507 BK503 BK504 HB; (try clear hb); (try clear hb2); (try clear hk); (try clear hi); (try clear ho0); obtain ⟨Ao15, co15, eo15⟩ := Kd.R_slice HO507.out; subst eo15; have hcz16_0 := c10 BK504; have hfz16_0 := blk_frozen BK504.out 0; have hcz17_0 := c10 BK503; have hfz17_0 := blk_frozen BK503.out 0))
   refine bodyPost_ret (results_ct rfl _ _ gb503 30 #[.slice none 0 0] (0, 0) _ rfl (by (with_reducible repeat first|apply qN|apply qD|apply qA); refine blk_put (cs := #[.slice none 0 0]) ?_ 0 _ rfl; (with_reducible repeat first|apply qN|apply qD|apply qA); exact BK503.out) Tryz.underlying30 rfl (by kernel_rfl)) rfl ?_
   exact ⟨_, eE, by first | exact Kd.S_nil _ _ _ _ _ | exact Kd.N_nil _ _ _ _ _ | exact Kd.V_nil _ _ _ _ _ | exact Kd.Q_nil _ _ _ _ _ | exact Kd.R_nil _ _ _ _ _, bq⟩
  ·rw [if_neg c9] at H
   have c9b0 := decide_eq_false c9
   have c9b1 : decide (12 < t505.length) = false := decide_eq_false (by omega)
   clear c9
   have H' := aM H
   clear H
   go_enter Tryz.func29, Tryz.ntmps29
   go_wp2_with (first | ((with_reducible refine gate_dst (N := 2) rfl ?_); refine bE 2 30 #[.slice none 0 0] ?_; intro gb503 hg w18 hbox hb; have _ := aM (below_step bq hb); have _ := aM (hbox); have _ := aM ((gS hg)); have _ := aM ((gS hg)); clear HB; rename_i HB BK503 GW503 GE503; clear hb hbox hg) | ((with_reducible refine gate_dst (N := 4) rfl ?_); refine bE 4 30 #[.slice none 0 0] ?_; intro gb504 hg w19 hbox hb; have _ := aM (blk_below (qQ BK503) hb); have _ := aM (below_step bq hb); have _ := aM (hbox); have _ := aM ((gS hg)); have _ := aM ((gS hg)); have _ := aM ((by rw [hg]; exact Nat.ne_of_lt (blk_lt (g := gb503) (o := .cells #[.slice none 0 0] 30 (0, 0)) (qQ BK503)) : gb503 ≠ gb504)); have _ := aM ((by rw [hg]; exact Nat.ne_of_gt (blk_lt (g := gb503) (o := .cells #[.slice none 0 0] 30 (0, 0)) (qQ BK503)) : gb504 ≠ gb503)); clear BK503 HB; rename_i BK503 HB BK504 GW504 GE504 NB503_504 NB504_503; clear hb hbox hg; have hnb20 := NB504_503.out; have hnc20 := NB503_504.out; have hcz21_0 := c10 BK504; have hfz21_0 := blk_frozen BK504.out 0) | ((with_reducible refine gate_callee (f := 58) rfl ?_); refine gL (some 15) Tryz.func58 #[.string a0, .string (⟨#[47]⟩ : ByteArray)] ?_; (with_reducible refine (strings_Split.calls a0 (⟨#[47]⟩ : ByteArray) t505 _ (HVV.out.below bq) A8.out).mono ?_); rintro e w22 ⟨v506, rfl, ho0, hb⟩; refine ⟨_, rfl, ?_⟩; have _ := aM (Kd.R_lower ho0 (below_size bq)); have _ := aM (blk_below (g := gb503) (o := .cells #[.slice none 0 0] 30 (0, 0)) (by (with_reducible repeat first|apply qN|apply qD|apply qA); refine blk_far ?_ NB503_504.out _; (with_reducible repeat first|apply qN|apply qD|apply qA); exact BK503.out) hb); have _ := aM (blk_below (g := gb504) (o := .cells #[.slice none 0 0] 30 (0, 0)) (by (with_reducible repeat first|apply qN|apply qD|apply qA); refine blk_put (cs := #[.slice none 0 0]) ?_ 0 _ rfl; (with_reducible repeat first|apply qN|apply qD|apply qA); exact BK504.out) hb); have _ := aM (below_step bq hb); clear BK503 BK504 HB; rename_i HO507 BK503 BK504 HB; (try clear hb); (try clear hb2); (try clear hk); (try clear hi); (try clear ho0); obtain ⟨Ao23, co23, eo23⟩ := Kd.R_slice HO507.out; subst eo23))
   go_loopg [22] k (fun kq v22 w' => ∃ (x22_1 : Int) (x505000_1 : List (List Int)) (u505000 : Value), v22 = .int .i64 x22_1 ∧ Aside0 (impl_ParseMatrix.l0 kq a0 t505 (t505.length : Int) x22_1 x505000_1 = some (r1, r2)) ∧ Aside0 (kq ≤ k) ∧ Aside0 (Kd.R Kd.string 9 w' w.heap.size (fun _ => True) (.slice Ao23 t505.length co23) t505) ∧ Aside0 (Kd.S (Kd.slice 3 (Kd.int .i64)) 24 w' w.heap.size (fun _ => True) u505000 x505000_1) ∧ Aside0 (w'.heap[gb503]? = some (.cells #[(.slice none 0 0)] 30 (0, 0))) ∧ Aside0 (w'.heap[gb504]? = some (.cells #[u505000] 30 (0, 0))) ∧ Aside0 (Below w.heap.size w w'))
   case atStart => exact ⟨(0), (([] : List (List Int))), (.slice none 0 0), eR, H', ⟨Nat.le_refl _⟩, ⟨rQ HO507⟩, ⟨by first | exact Kd.S_nil _ _ _ _ _ | exact Kd.N_nil _ _ _ _ _ | exact Kd.V_nil _ _ _ _ _ | exact Kd.Q_nil _ _ _ _ _ | exact Kd.R_nil _ _ _ _ _⟩, ⟨qQ BK503⟩, ⟨qQ BK504⟩, ⟨bq⟩⟩
   case round =>
    clear H'
    try clear c1
    try clear c2
    try clear c2b0
    try clear c2b1
    try clear p2
    try clear c5
    try clear c9
    try clear c9b0
    try clear c9b1
    try clear c12
    try clear c20
    try clear hcz13_0
    try clear hcz16_0
    try clear hcz17_0
    try clear hcz21_0
    try clear hcz6_0
    try clear hcz7_0
    try clear hfz13_0
    try clear hfz16_0
    try clear hfz17_0
    try clear hfz21_0
    try clear hfz6_0
    try clear hfz7_0
    obtain ⟨x22_1, x505000_1, u505000, rfl, HA, HK1, HO_20, HO_505000, BK503, BK504, HB⟩ := hrel
    cases gk with
    | zero => exact absurd HA.out (by simp [impl_ParseMatrix.l0])
    | succ k1 =>
     have H := HA.out
     clear HA
     simp only [impl_ParseMatrix.l0] at H
     by_cases c24 : x22_1 < (t505.length : Int)
     ·rw [if_pos c24] at H
      have c24b0 := decide_eq_true c24
      clear c24
      replace H := iD2 H
      obtain ⟨c25b0, c26b0, H⟩ := H
      replace H := bS H
      obtain ⟨⟨t509, t510⟩, A27, H⟩ := H
      try dsimp only at H
      by_cases c28 : t510 = true
      ·subst c28
       have H1 : (if x505000_1.length < 5864062014805 then (impl_ParseMatrix.l0 k1 a0 t505 (t505.length : Int) (wrap64 (x22_1 + 1)) (x505000_1 ++ [t509])) else (none)) = some (r1, r2) := by rw [if_pos rfl] at H; exact H
       clear H
       have H := H1
       clear H1
       replace H := iS H
       obtain ⟨c29, H⟩ := H
       have LMc29 := aM c29
       clear c29
       obtain ⟨y513, hy513⟩ : ∃ y_ : List (List Int), y_ = (x505000_1 ++ [t509]) := ⟨_, rfl⟩
       replace H : (impl_ParseMatrix.l0 k1 a0 t505 (t505.length : Int) (wrap64 (x22_1 + 1)) y513) = some (r1, r2) := by first | (rw [hy513]; with_reducible exact H) | (have H2_ := (Option.bind_some _ _).symm.trans H; rw [hy513]; with_reducible exact H2_) | (have H2_ := (Option.bind_some _ _).symm.trans H; with_reducible exact H2_) | with_reducible exact H | (rw [hy513]; exact H) | exact H
       have Ny513 := aM hy513
       clear hy513
       have H' := aM H
       clear H
       have p508 : 0 ≤ (x22_1 : Int) := odt
       have q508 : x22_1 < (t505.length : Int) := odt
       obtain ⟨ad508, e508, hx508_0⟩ := Kd.at_string (Kd.R_reads' HO_20.out).2.2 x22_1 p508 q508
       cases e508
       replace p508 := eq_true p508
       replace q508 := eq_true q508
       go_wp2_with (first | ((with_reducible refine gate_callee (f := 59) rfl ?_); refine gL (some 28) Tryz.func59 #[.string (rdOf ByteArray.empty t505 x22_1)] ?_; (with_reducible refine (impl_numbersOf.calls (rdOf ByteArray.empty t505 x22_1) t509 true _ (HVV.out.below bq) A27.out).mono ?_); rintro e w30 ⟨v511, rfl, ho0, hb⟩; refine ⟨_, rfl, ?_⟩; have _ := aM (Kd.R_below (rQ HO_20) hb); have _ := aM (Kd.S_elder' (sQ HO_505000) (Kd.R_base ho0) hb); have _ := aM (Kd.R_lower ho0 (below_size bq)); have _ := aM (blk_below (qQ BK503) hb); have _ := aM (blk_below (qQ BK504) hb); have _ := aM (below_step bq hb); clear HO_20 HO_505000 BK503 BK504 HB; rename_i HO_20 HO_505000 HO512 BK503 BK504 HB; (try clear hb); (try clear hb2); (try clear hk); (try clear hi); (try clear ho0); have hnb31 := NB504_503.out; have hnc31 := NB503_504.out; have hcz32_0 := c10 BK504; have hfz32_0 := blk_frozen BK504.out 0; obtain ⟨Ao34, co34, eo34⟩ := Kd.R_slice HO512.out; subst eo34) | ((with_reducible refine gate_builtin (b := .append) (xs := #[.tmp 35, .tmp 37]) rfl ?_); at_builtin; refine Kd.S_append (Kd.slice 3 (Kd.int .i64)) (w0 := w) w.heap.size rfl (.tmp 35) (.tmp 37) 28 24 (.slice none 0 0) 24 rfl Tryz.underlying28 info24 rfl (by decide) (by omega) u505000 x505000_1 t509 [.slice Ao34 t509.length co34] (fun _ => True) (fun k_ => some k_ = (.slice Ao34 t509.length co34 : Value).ownBlock) rfl rfl ?aP (fun k_ hk_ => ((Kd.R_mono (ok' := fun k_ => ((fun _ => True)) k_ ∧ some k_ ≠ (u505000 : Value).ownBlock) (Kd.R_apart' (HO512.out) (Kd.S_typed HO_505000.out) (by decide)) (fun k_ hk => ⟨trivial, hk.2⟩))).1 k_ hk_.symm) ?aF ?aO ?aB ?aS ?aL ?_; (case aP => exact Kd.M_row (Kd.R_mono (Kd.R_tight rfl (Kd.R_mono (ok' := fun k_ => ((fun _ => True)) k_ ∧ some k_ ≠ (u505000 : Value).ownBlock) (Kd.R_apart' (HO512.out) (Kd.S_typed HO_505000.out) (by decide)) (fun k_ hk => ⟨trivial, hk.2⟩))) (fun _ h_ => h_))); (case aB => exact bq); (case aF => exact (fun _ _ => trivial)); (case aO => exact (by (with_reducible repeat first|apply sA|apply sN|apply sD); exact Kd.S_mono HO_505000.out (fun k_ hk => ⟨trivial, fun e_ => hk.2 e_⟩))); (case aS => exact (below_size bq)); (case aL => have := LMc29.out; omega); intro v514 w33 ho hb hg hat; rw [← Ny513.out] at ho; have _ := aM (Kd.R_over' (rQ HO_20) (Kd.S_typed (sQ HO_505000)) (by decide) hg); have _ := aM (blk_grown (g := gb503) (o := .cells #[.slice none 0 0] 30 (0, 0)) (qQ BK503) hg (Kd.S_ne HO_505000.out BK503.out (by decide))); have _ := aM (blk_grown (g := gb504) (o := .cells #[u505000] 30 (0, 0)) (qQ BK504) hg (Kd.S_ne HO_505000.out BK504.out (by decide))); have _ := aM (hb); have _ := aM (ho); clear HO_20 BK503 BK504 HB HO_505000 HO512; rename_i HO_20 BK503 BK504 HB HO515; clear ho hb hg hat; obtain ⟨Ao35, co35, eo35⟩ := Kd.S_slice HO515.out; subst eo35; have hcz36_0 := c10 BK504; have hfz36_0 := blk_frozen BK504.out 0))
       go_roundg k1
       case measure => have := HK1.out; omega
       case rel => exact ⟨(wrap64 (x22_1 + 1)), (y513), (.slice Ao35 y513.length co35), eR, H', ⟨by have := HK1.out; omega⟩, ⟨by (with_reducible repeat first|apply rA|apply rN|apply rD); exact Kd.R_mono (Kd.R_far (p := ⟨gb504, 0, none⟩) (Kd.R_types HO_20.out BK504.out (by decide)) (fun _ hk => hk.2) (.slice Ao35 y513.length co35)) (fun _ hk => trivial)⟩, ⟨by (with_reducible repeat first|apply sA|apply sN|apply sD); exact Kd.S_mono (Kd.S_far (p := ⟨gb504, 0, none⟩) (Kd.S_types HO515.out BK504.out (by decide)) (fun _ hk => hk.2) (.slice Ao35 y513.length co35)) (fun _ hk => trivial)⟩, ⟨by (with_reducible repeat first|apply qN|apply qD|apply qA); refine blk_far ?_ NB503_504.out _; (with_reducible repeat first|apply qN|apply qD|apply qA); exact BK503.out⟩, ⟨by (with_reducible repeat first|apply qN|apply qD|apply qA); refine blk_put (cs := #[u505000]) ?_ 0 _ rfl; (with_reducible repeat first|apply qN|apply qD|apply qA); exact BK504.out⟩, ⟨bq⟩⟩
      ·replace c28 := Bool.eq_false_iff.mpr c28
       subst c28
       have H1 : (some (([] : List (List Int)), false)) = some (r1, r2) := by rw [if_neg (show ¬ (false = true) by decide)] at H; exact H
       clear H
       have H := H1
       clear H1
       simp only [Option.some.injEq, Prod.mk.injEq] at H
       obtain ⟨rfl, rfl⟩ := H
       have p508 : 0 ≤ (x22_1 : Int) := odt
       have q508 : x22_1 < (t505.length : Int) := odt
       obtain ⟨ad508, e508, hx508_0⟩ := Kd.at_string (Kd.R_reads' HO_20.out).2.2 x22_1 p508 q508
       cases e508
       replace p508 := eq_true p508
       replace q508 := eq_true q508
       go_wp2_with (first | ((with_reducible refine gate_callee (f := 59) rfl ?_); refine gL (some 28) Tryz.func59 #[.string (rdOf ByteArray.empty t505 x22_1)] ?_; (with_reducible refine (impl_numbersOf.calls (rdOf ByteArray.empty t505 x22_1) t509 false _ (HVV.out.below bq) A27.out).mono ?_); rintro e w37 ⟨v511, rfl, ho0, hb⟩; refine ⟨_, rfl, ?_⟩; have _ := aM (Kd.R_below (rQ HO_20) hb); have _ := aM (Kd.S_elder' (sQ HO_505000) (Kd.R_base ho0) hb); have _ := aM (Kd.R_lower ho0 (below_size bq)); have _ := aM (blk_below (qQ BK503) hb); have _ := aM (blk_below (qQ BK504) hb); have _ := aM (below_step bq hb); clear HO_20 HO_505000 BK503 BK504 HB; rename_i HO_20 HO_505000 HO512 BK503 BK504 HB; (try clear hb); (try clear hb2); (try clear hk); (try clear hi); (try clear ho0); have hnb38 := NB503_504.out; have hnc38 := NB504_503.out; have hcz39_0 := c10 BK503; have hfz39_0 := blk_frozen BK503.out 0))
       refine bodyPost_ret (results_ct rfl _ _ gb503 30 #[.slice none 0 0] (0, 0) _ rfl (by (with_reducible repeat first|apply qN|apply qD|apply qA); refine blk_put (cs := #[.slice none 0 0]) ?_ 0 _ rfl; (with_reducible repeat first|apply qN|apply qD|apply qA); exact BK503.out) Tryz.underlying30 rfl (by kernel_rfl)) rfl ?_
       exact ⟨_, eE, by first | exact Kd.S_nil _ _ _ _ _ | exact Kd.N_nil _ _ _ _ _ | exact Kd.V_nil _ _ _ _ _ | exact Kd.Q_nil _ _ _ _ _ | exact Kd.R_nil _ _ _ _ _, bq⟩
     ·rw [if_neg c24] at H
      have c24b0 := decide_eq_false c24
      clear c24
      replace H := bS H
      obtain ⟨t516, A40, H⟩ := H
      try dsimp only at H
      by_cases c41 : t516 = true
      ·subst c41
       have H1 : ((impl_matrixText.f k1 x505000_1).bind fun t517 => (if t517.toList = a0.toList then (some (x505000_1, true)) else (some (([] : List (List Int)), false)))) = some (r1, r2) := by rw [if_pos rfl] at H; exact H
       clear H
       have H := H1
       clear H1
       replace H := bS H
       obtain ⟨t517, A42, H⟩ := H
       try dsimp only at H
       by_cases c43 : t517.toList = a0.toList
       ·rw [if_pos c43] at H
        have c43b0 : (t517.toList == a0.toList) = true := beq_iff_eq.mpr c43
        have c43b1 : (t517.toList != a0.toList) = false := bne_eq_false_iff_eq.mpr c43
        clear c43
        simp only [Option.some.injEq, Prod.mk.injEq] at H
        obtain ⟨rfl, rfl⟩ := H
        have hnb44 := NB504_503.out
        have hnc44 := NB503_504.out
        have hcz45_0 := c10 BK504
        have hfz45_0 := blk_frozen BK504.out 0
        obtain ⟨Ao46, co46, eo46⟩ := Kd.S_slice HO_505000.out
        subst eo46
        go_wp2_with (first | ((with_reducible refine gate_callee (f := 26) rfl ?_); refine gL (some 42) Tryz.func26 #[.agg #[.slice Ao46 x505000_1.length co46]] ?_; (with_reducible refine (impl_IsMatrix.calls k1 _ _ x505000_1 true _ (cQ ((Kd.S_reads' HO_505000.out).2.2)) ((Kd.S_reads' HO_505000.out).2.1) A40.out).mono ?_); rintro e w47 ⟨rfl, hb⟩; refine ⟨_, rfl, ?_⟩; have _ := aM (Kd.R_below (rQ HO_20) hb); have _ := aM (Kd.S_below (sQ HO_505000) hb); have _ := aM (blk_below (qQ BK503) hb); have _ := aM (blk_below (qQ BK504) hb); have _ := aM (below_step bq hb); clear HO_20 HO_505000 BK503 BK504 HB; rename_i HO_20 HO_505000 BK503 BK504 HB; (try clear hb); (try clear hb2); (try clear hk); (try clear hi); have hcz48_0 := c10 BK504; have hfz48_0 := blk_frozen BK504.out 0) | (go_at_call 51; (with_reducible refine (impl_matrixText.calls k1 _ _ x505000_1 t517 _ (cQ ((Kd.S_reads' HO_505000.out).2.2)) ((Kd.S_reads' HO_505000.out).2.1) A42.out).mono ?_); rintro e w49 ⟨rfl, hb⟩; have _ := aM (Kd.R_below (rQ HO_20) hb); have _ := aM (Kd.S_below (sQ HO_505000) hb); have _ := aM (blk_below (qQ BK503) hb); have _ := aM (blk_below (qQ BK504) hb); have _ := aM (below_step bq hb); clear HO_20 HO_505000 BK503 BK504 HB; rename_i HO_20 HO_505000 BK503 BK504 HB; (try clear hb); (try clear hb2); (try clear hk); (try clear hi); have hcz50_0 := c10 BK504; have hfz50_0 := blk_frozen BK504.out 0; have hcz51_0 := c10 BK503; have hfz51_0 := blk_frozen BK503.out 0))
        refine bodyPost_ret (results_ct rfl _ _ gb503 30 #[.slice Ao46 x505000_1.length co46] (0, 0) _ rfl (by (with_reducible repeat first|apply qN|apply qD|apply qA); refine blk_put (cs := #[.slice none 0 0]) ?_ 0 _ rfl; (with_reducible repeat first|apply qN|apply qD|apply qA); exact BK503.out) Tryz.underlying30 rfl (by kernel_rfl)) rfl ?_
        exact ⟨_, eE, by (with_reducible repeat first|apply sA|apply sN|apply sD); exact Kd.S_mono (Kd.S_far (p := ⟨gb503, 0, none⟩) (Kd.S_types HO_505000.out BK503.out (by decide)) (fun _ hk => hk.2) (.slice Ao46 x505000_1.length co46)) (fun _ hk => trivial), bq⟩
       ·rw [if_neg c43] at H
        have c43b0 : (t517.toList == a0.toList) = false := beq_eq_false_iff_ne.mpr c43
        have c43b1 : (t517.toList != a0.toList) = true := bne_iff_ne.mpr c43
        simp only [Option.some.injEq, Prod.mk.injEq] at H
        obtain ⟨rfl, rfl⟩ := H
        have hnb52 := NB504_503.out
        have hnc52 := NB503_504.out
        have hcz53_0 := c10 BK504
        have hfz53_0 := blk_frozen BK504.out 0
        obtain ⟨Ao54, co54, eo54⟩ := Kd.S_slice HO_505000.out
        subst eo54
        go_wp2_with (first | ((with_reducible refine gate_callee (f := 26) rfl ?_); refine gL (some 42) Tryz.func26 #[.agg #[.slice Ao54 x505000_1.length co54]] ?_; (with_reducible refine (impl_IsMatrix.calls k1 _ _ x505000_1 true _ (cQ ((Kd.S_reads' HO_505000.out).2.2)) ((Kd.S_reads' HO_505000.out).2.1) A40.out).mono ?_); rintro e w55 ⟨rfl, hb⟩; refine ⟨_, rfl, ?_⟩; have _ := aM (Kd.R_below (rQ HO_20) hb); have _ := aM (Kd.S_below (sQ HO_505000) hb); have _ := aM (blk_below (qQ BK503) hb); have _ := aM (blk_below (qQ BK504) hb); have _ := aM (below_step bq hb); clear HO_20 HO_505000 BK503 BK504 HB; rename_i HO_20 HO_505000 BK503 BK504 HB; (try clear hb); (try clear hb2); (try clear hk); (try clear hi); have hcz56_0 := c10 BK504; have hfz56_0 := blk_frozen BK504.out 0) | (go_at_call 51; (with_reducible refine (impl_matrixText.calls k1 _ _ x505000_1 t517 _ (cQ ((Kd.S_reads' HO_505000.out).2.2)) ((Kd.S_reads' HO_505000.out).2.1) A42.out).mono ?_); rintro e w57 ⟨rfl, hb⟩; have _ := aM (Kd.R_below (rQ HO_20) hb); have _ := aM (Kd.S_below (sQ HO_505000) hb); have _ := aM (blk_below (qQ BK503) hb); have _ := aM (blk_below (qQ BK504) hb); have _ := aM (below_step bq hb); clear HO_20 HO_505000 BK503 BK504 HB; rename_i HO_20 HO_505000 BK503 BK504 HB; (try clear hb); (try clear hb2); (try clear hk); (try clear hi); have hcz58_0 := c10 BK503; have hfz58_0 := blk_frozen BK503.out 0))
        refine bodyPost_ret (results_ct rfl _ _ gb503 30 #[.slice none 0 0] (0, 0) _ rfl (by (with_reducible repeat first|apply qN|apply qD|apply qA); refine blk_put (cs := #[.slice none 0 0]) ?_ 0 _ rfl; (with_reducible repeat first|apply qN|apply qD|apply qA); exact BK503.out) Tryz.underlying30 rfl (by kernel_rfl)) rfl ?_
        exact ⟨_, eE, by first | exact Kd.S_nil _ _ _ _ _ | exact Kd.N_nil _ _ _ _ _ | exact Kd.V_nil _ _ _ _ _ | exact Kd.Q_nil _ _ _ _ _ | exact Kd.R_nil _ _ _ _ _, bq⟩
      ·replace c41 := Bool.eq_false_iff.mpr c41
       subst c41
       have H1 : (some (([] : List (List Int)), false)) = some (r1, r2) := by rw [if_neg (show ¬ (false = true) by decide)] at H; exact H
       clear H
       have H := H1
       clear H1
       simp only [Option.some.injEq, Prod.mk.injEq] at H
       obtain ⟨rfl, rfl⟩ := H
       have hnb59 := NB504_503.out
       have hnc59 := NB503_504.out
       have hcz60_0 := c10 BK504
       have hfz60_0 := blk_frozen BK504.out 0
       obtain ⟨Ao61, co61, eo61⟩ := Kd.S_slice HO_505000.out
       subst eo61
       go_wp2_with (first | ((with_reducible refine gate_callee (f := 26) rfl ?_); refine gL (some 42) Tryz.func26 #[.agg #[.slice Ao61 x505000_1.length co61]] ?_; (with_reducible refine (impl_IsMatrix.calls k1 _ _ x505000_1 false _ (cQ ((Kd.S_reads' HO_505000.out).2.2)) ((Kd.S_reads' HO_505000.out).2.1) A40.out).mono ?_); rintro e w62 ⟨rfl, hb⟩; refine ⟨_, rfl, ?_⟩; have _ := aM (Kd.R_below (rQ HO_20) hb); have _ := aM (Kd.S_below (sQ HO_505000) hb); have _ := aM (blk_below (qQ BK503) hb); have _ := aM (blk_below (qQ BK504) hb); have _ := aM (below_step bq hb); clear HO_20 HO_505000 BK503 BK504 HB; rename_i HO_20 HO_505000 BK503 BK504 HB; (try clear hb); (try clear hb2); (try clear hk); (try clear hi); have hcz63_0 := c10 BK503; have hfz63_0 := blk_frozen BK503.out 0))
       refine bodyPost_ret (results_ct rfl _ _ gb503 30 #[.slice none 0 0] (0, 0) _ rfl (by (with_reducible repeat first|apply qN|apply qD|apply qA); refine blk_put (cs := #[.slice none 0 0]) ?_ 0 _ rfl; (with_reducible repeat first|apply qN|apply qD|apply qA); exact BK503.out) Tryz.underlying30 rfl (by kernel_rfl)) rfl ?_
       exact ⟨_, eE, by first | exact Kd.S_nil _ _ _ _ _ | exact Kd.N_nil _ _ _ _ _ | exact Kd.V_nil _ _ _ _ _ | exact Kd.Q_nil _ _ _ _ _ | exact Kd.R_nil _ _ _ _ _, bq⟩

end Go.Proofs.YtcodionjhcmfhaaGreatDoor.Ax
