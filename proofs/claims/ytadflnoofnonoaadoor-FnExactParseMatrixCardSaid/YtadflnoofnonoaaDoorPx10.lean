-- Written by hook.py, a program of this session (wip/), which runs the kit's print.py with its own parts; Lean checks it.
import Derived.Test.YtadflnoofnonoaaDoorPx0
import Derived.Test.YtadflnoofnonoaaDoorPx8
import Derived.Test.YtadflnoofnonoaaDoorPx9
namespace Go.Proofs.YtadflnoofnonoaaDoor.Px
open Go.RowKit Go.Proofs.YtadflnoofnonoaaDoorW.PrintWords Go.Proofs.YtadflnoofnonoaaDoorW.PrintLast Go.Proofs.YtadflnoofnonoaaDoorW.PrintMore
attribute [local go_sem] max2_int min2_int max_two min_two max_three min_three max_four min_four   -- for this text's walks alone
set_option linter.unusedVariables false
set_option linter.unusedSimpArgs false

/-! ### impl_numbersOf: function 40 -/
def numV (x : ByteArray) : Option Int := match Go.Lib.atoiAll x.data.toList with
  | .ok v => some v
  | _ => none
def numsW (ws : List ByteArray) : List Int := ws.map fun x => (numV x).getD 0
def numsOk (ws : List ByteArray) : Bool := ws.all fun x => (numV x).isSome
def impl_numbersOf.g (ws : List ByteArray) : List Int × Bool := if 12 < ws.length then ([], false) else if numsOk ws = true then (numsW ws, true) else ([], false)
def impl_numbersOf.f (a0 : ByteArray) : Option (List Int × Bool) := (strings_Split.f a0 ⟨#[44]⟩).bind fun ws => some (impl_numbersOf.g ws)
open Go.Proofs.YtadflnoofnonoaaDoor.Live in
theorem cellS {w0 w : World} {L : List Ob} {e g n c : Nat} {m : List ByteArray} (H : Live w0 w L) (i : Nat) (hi : L[i]? = some (row Kd.string e (.slice (some ⟨g, 0, none⟩) n c) m)) (j : Nat) (hj : j < m.length) :
    w.cell? ⟨g, j, none⟩ = some (.string (m.getD j ByteArray.empty)) := by
  have h := H.get i hi
  obtain ⟨rfl, _⟩ := Kd.R_reads' h
  have := Kd.R_celln (enc := Value.string) ByteArray.empty h (j : Int) (by omega) (by omega)
  simp only [Int.toNat_natCast] at this
  rw [this.1]; simp [rdOf]
set_option maxHeartbeats 8000000 in
set_option maxRecDepth 100000 in
open Go.Proofs.YtadflnoofnonoaaDoor.Live in
theorem impl_numbersOf.calls (a0 : ByteArray) (r1 : List Int) (r2 : Bool) (w : World) (hV : VarsP w) (h : impl_numbersOf.f a0 = some (r1, r2)) :
    Calls Tryd.prog 40 #[.string a0] w fun e w' => ∃ v0_ : Value, e = .returned (.tuple #[v0_, .bool r2]) ∧ (Kd.int .i64).R 3 w' w.heap.size (fun _ => True) v0_ r1 ∧ Below w.heap.size w w' := by
  unfold impl_numbersOf.f at h
  obtain ⟨ws, hws, h⟩ := Option.bind_eq_some_iff.mp h
  have hg : impl_numbersOf.g ws = (r1, r2) := Option.some.inj h
  have hsm : ∀ x ∈ ws, x.size ≤ 1048576 := by
    have h2 := hws
    unfold strings_Split.f at h2
    split at h2
    · rename_i c
      obtain rfl := Option.some.inj h2
      intro x hx
      exact Nat.le_trans (splitB_small _ _ _ x hx) c.1
    · exact absurd h2 (by simp)
  have HSM := Aside0.mk hsm
  have HV := Aside0.mk hV
  have HWS := Aside0.mk hws
  have HGG := Aside0.mk hg
  clear h hg hsm hV hws
  go_enter Tryd.func40, Tryd.ntmps40
  go_wp2_with (first | ((with_reducible refine gate_dst (N := 10) rfl ?_); refine Kd.R_lit (Kd.int .i64) _ 3 ?hg (N := 10) ?hd (xs := ([] : List Int)) (inner := []) (ok := fun _ => True) (okp := fun _ => True) ?hr ?hp (fun _ hk => hk) trivial (Below.refl _ _) (Nat.le_refl _) (by simp) ?_; (case hd => rfl); (case hg => rfl); (case hr => first | (go_simp; done) | (go_simp; rfl)); (case hp => exact (Reps.none _ _)); intro v10 w2 ho2 hb hg_ hnew_; clear hg_ hnew_; have H2 := Aside0.mk (Live.add (o := row (Kd.int .i64) 3 v10 []) (Live.start w) hb ho2); clear hb ho2) | fail)
  refine (strings_Split.calls a0 ⟨#[44]⟩ ws _ (HV.out.below H2.out.below) HWS.out).mono ?_
  rintro e w3 ⟨v, rfl, hs_, hb_⟩
  have H3 := Aside0.mk (Live.add (o := row Kd.string 9 v ws) H2.out hb_ hs_)
  clear hs_ hb_ H2
  obtain ⟨A, c, rfl, _, _⟩ := H3.out.form 1 rfl
  by_cases hl : 12 < ws.length
  · have hg := HGG.out
    unfold impl_numbersOf.g at hg
    rw [if_pos hl] at hg
    obtain ⟨rfl, rfl⟩ := Prod.mk.inj hg
    have c1 : decide ((12 : Int) < (ws.length : Int)) = true := decide_eq_true (by omega)
    have c2 : decide (12 < ws.length) = true := decide_eq_true hl
    clear hg
    go_wp2_with (fail)
    go_ret2
    exact ⟨_, rfl, Kd.R_nil _ _ _ _ _, H3.out.below⟩
  · have c1 : decide ((12 : Int) < (ws.length : Int)) = false := decide_eq_false (by omega)
    have c2 : decide (12 < ws.length) = false := decide_eq_false hl
    have HL := Aside0.mk hl
    clear hl
    go_wp2_with (fail)
    go_loopg [4, 18] (ws.length + 1) (fun kq v4 v18 w' => ∃ i : Nat, v18 = .int .i64 (i : Int) ∧ Aside0 (i ≤ ws.length ∧ kq = ws.length - i + 1) ∧ Aside0 (numsOk (ws.take i) = true) ∧ Aside0 (Live w w' [row (Kd.int .i64) 3 v4 (numsW (ws.take i)), row Kd.string 9 (.slice A ws.length c) ws]))
    case atStart => exact ⟨0, rfl, ⟨Nat.zero_le _, rfl⟩, ⟨rfl⟩, H3⟩
    case round =>
      clear H3
      obtain ⟨i, rfl, HI, HO, H⟩ := hrel
      rename World => wq
      by_cases ci : i < ws.length
      · have d1 : decide ((i : Int) < (ws.length : Int)) = true := decide_eq_true (by omega)
        have d2 : decide (i < ws.length) = true := decide_eq_true ci
        obtain ⟨g, c', e1, _, _⟩ := H.out.form1 1 rfl (by omega)
        injection e1 with ea en ec
        subst ea
        subst ec
        clear en
        have hcell := cellS H.out 1 rfl i ci
        obtain ⟨x, hx⟩ : ∃ x, x = ws.getD i ByteArray.empty := ⟨_, rfl⟩
        rw [← hx] at hcell
        have hxm : x = ws[i] := by rw [hx, List.getD_eq_getElem?_getD, List.getElem?_eq_getElem ci]; rfl
        have hxs : x.size ≤ 1048576 := HSM.out x (by rw [hxm]; exact List.getElem_mem _)
        have HXM := Aside0.mk hxm
        have HXS := Aside0.mk hxs
        have HVq := Aside0.mk (HV.out.below H.out.below)
        clear hx hxm hxs
        cases ha : Go.Lib.atoiAll x.data.toList with
        | ok v =>
          have HAT := Aside0.mk ha
          clear ha
          go_wp2_with (fail)
          refine (Go.Proofs.YtadflnoofnonoaaDoor.XShelfP.strconv_Atoi_ok x (by have := HXS.out; omega) v HAT.out _).mono ?_
          rintro e w4 ⟨rfl, hw⟩
          have hb4 : Below wq.heap.size wq w4 := by
            rcases hw with rfl | ⟨t, rfl⟩
            · exact Below.refl _ _
            · exact bytes_below (Below.refl _ _) (Nat.le_refl _) _ _
          have H4 := Aside0.mk (H.out.step hb4)
          clear hw hb4 H hcell
          have hv : numV x = some v := by unfold numV; rw [HAT.out]
          have hn : numsW (ws.take (i + 1)) = numsW (ws.take i) ++ [v] := by
            unfold numsW
            rw [List.take_succ_eq_append_getElem ci, List.map_append, ← HXM.out, List.map_cons, List.map_nil, hv]
            rfl
          have ho2 : numsOk (ws.take (i + 1)) = true := by
            have h1 := HO.out
            unfold numsOk at h1 ⊢
            rw [List.take_succ_eq_append_getElem ci, List.all_append, h1, ← HXM.out, List.all_cons, hv]
            rfl
          have hlen : (numsW (ws.take i)).length ≤ 12 := by
            unfold numsW
            rw [List.length_map, List.length_take]
            have := HL.out
            omega
          have HN := Aside0.mk hn
          have HO2 := Aside0.mk ho2
          have HLEN := Aside0.mk hlen
          clear hv hn ho2 hlen
          obtain ⟨A4, c4, rfl, _, _⟩ := H4.out.form 0 rfl
          obtain ⟨ok_, ho_, hok_, _, hback_⟩ := H4.out.lend 0 rfl
          go_wp2_with (first | ((with_reducible refine gate_builtin (b := .append) (xs := #[.tmp 29, .tmp 31]) rfl ?_); at_builtin; refine Kd.R_append (Kd.int .i64) (w0 := w) w.heap.size rfl (.tmp 29) (.tmp 31) 36 3 (.int .i64 0) 8 rfl Tryd.underlying36 (by kernel_rfl) rfl (by decide) (by omega) (.slice A4 (numsW (ws.take i)).length c4) (numsW (ws.take i)) v [.int .i64 v] (fun k_ => ok_ k_ ∨ w4.heap.size ≤ k_) (fun _ => False) rfl rfl rfl (fun _ h => h.elim) (fun _ h => .inr h) (Kd.R_mono ho_ (fun _ h => .inl h)) H4.out.below H4.out.below.size (by have := HLEN.out; omega) ?_; intro v8 w8 hs_ hb_ hg_ hat_; have H8 := Aside0.mk (hback_ w8 (row (Kd.int .i64) 3 v8 (numsW (ws.take i) ++ [v])) hb_ (Kept.of_grown hg_ (Kept.refl _ _) (fun k_ hk_ => .inl (ho_.1 k_ hk_))) hs_); clear hs_ hb_ hg_ hat_ hback_ ho_) | fail)
          have H9 := Aside0.mk (show Live w w8 [row (Kd.int .i64) 3 v8 (numsW (ws.take (i + 1))), row Kd.string 9 (.slice (some ⟨g, 0, none⟩) ws.length c) ws] by rw [HN.out]; exact H8.out)
          clear H8 H4
          go_roundg (ws.length - i)
          case measure => have := HI.out; omega
          case rel => exact ⟨i + 1, by first | rfl | exact up1 (by have := HL.out; omega), ⟨by omega, by omega⟩, HO2, H9⟩
        | «syntax» =>
          have HAT := Aside0.mk ha
          clear ha
          have hno : numsOk ws = false := by
            have h1 : (numV x).isSome = false := by unfold numV; rw [HAT.out]; rfl
            unfold numsOk
            rw [List.all_eq_false]
            exact ⟨x, by rw [HXM.out]; exact List.getElem_mem _, by rw [h1]; simp⟩
          have hg := HGG.out
          unfold impl_numbersOf.g at hg
          rw [if_neg HL.out, hno, if_neg (by simp)] at hg
          obtain ⟨rfl, rfl⟩ := Prod.mk.inj hg
          clear hg hno
          go_wp2_with (fail)
          obtain ⟨ev, hv, hev⟩ := HVq.out.2.1
          refine (Go.Proofs.YtadflnoofnonoaaDoor.XShelfP.strconv_Atoi_syntax x (by have := HXS.out; omega) HAT.out ev _ hv hev).mono ?_
          rintro e w4 ⟨N, rfl, _, _, hb4⟩
          have H4 := Aside0.mk (H.out.step hb4)
          clear H hcell
          go_wp2_with (fail)
          go_ret2
          exact ⟨_, rfl, Kd.R_nil _ _ _ _ _, H4.out.below⟩
        | range =>
          have HAT := Aside0.mk ha
          clear ha
          have hno : numsOk ws = false := by
            have h1 : (numV x).isSome = false := by unfold numV; rw [HAT.out]; rfl
            unfold numsOk
            rw [List.all_eq_false]
            exact ⟨x, by rw [HXM.out]; exact List.getElem_mem _, by rw [h1]; simp⟩
          have hg := HGG.out
          unfold impl_numbersOf.g at hg
          rw [if_neg HL.out, hno, if_neg (by simp)] at hg
          obtain ⟨rfl, rfl⟩ := Prod.mk.inj hg
          clear hg hno
          go_wp2_with (fail)
          obtain ⟨ev, hv, hev⟩ := HVq.out.2.2
          refine (Go.Proofs.YtadflnoofnonoaaDoor.XShelfP.strconv_Atoi_range x (by have := HXS.out; omega) HAT.out ev _ hv hev).mono ?_
          rintro e w4 ⟨N, rfl, _, _, hb4⟩
          have H4 := Aside0.mk (H.out.step hb4)
          clear H hcell
          go_wp2_with (fail)
          go_ret2
          exact ⟨_, rfl, Kd.R_nil _ _ _ _ _, H4.out.below⟩
      · have d1 : decide ((i : Int) < (ws.length : Int)) = false := decide_eq_false (by omega)
        have d2 : decide (i < ws.length) = false := decide_eq_false ci
        obtain rfl : i = ws.length := by have := HI.out; omega
        have hg := HGG.out
        unfold impl_numbersOf.g at hg
        rw [List.take_length] at HO H
        rw [if_neg HL.out, if_pos HO.out] at hg
        obtain ⟨rfl, rfl⟩ := Prod.mk.inj hg
        clear hg
        go_wp2_with (fail)
        go_ret2
        exact ⟨_, rfl, H.out.get 0 rfl, H.out.below⟩

/-! ### impl_ParseMatrix: function 14 -/
def impl_ParseMatrix.l0 : Nat → ByteArray → List ByteArray → Int → Int → List (List Int) → Option ((List (List Int)) × Bool)
  | 0, _, _, _, _, _ => none
  | k + 1, x0, x20, x21, x22, x224000 => if x22 < x21 then (if 0 ≤ x22 then (if x22 < (x20.length : Int) then ((impl_numbersOf.f (rdOf ByteArray.empty x20 x22)).bind fun bt228 => (if bt228.2 = true then (if x224000.length < 5864062014805 then (impl_ParseMatrix.l0 k x0 x20 x21 (wrap64 (x22 + 1)) (x224000 ++ [bt228.1])) else (none)) else (some (([] : List (List Int)), false)))) else (none)) else (none)) else ((impl_IsMatrix.f k x224000).bind fun t235 => (if t235 = true then ((impl_matrixText.f k x224000).bind fun t236 => (if t236.toList = x0.toList then (some (x224000, true)) else (some (([] : List (List Int)), false)))) else (some (([] : List (List Int)), false))))
def impl_ParseMatrix.f (k : Nat) (a0 : ByteArray) : Option ((List (List Int)) × Bool) := if a0.toList = ([] : List UInt8) then (some (([] : List (List Int)), true)) else ((strings_Split.f a0 (⟨#[47]⟩ : ByteArray)).bind fun t224 => (if (t224.length : Int) > 12 then (some (([] : List (List Int)), false)) else (impl_ParseMatrix.l0 k a0 t224 (t224.length : Int) 0 ([] : List (List Int)))))
theorem impl_ParseMatrix.mono_l : ∀ k, (∀ y0 y1 y2 y3 y4, LeO (impl_ParseMatrix.l0 k y0 y1 y2 y3 y4) (impl_ParseMatrix.l0 (k + 1) y0 y1 y2 y3 y4))
  | 0 => fun _ _ _ _ _ r h => by simp [impl_ParseMatrix.l0] at h
  | k + 1 => by
    have ih0 := impl_ParseMatrix.mono_l k
    · intro y0 y1 y2 y3 y4
      unfold impl_ParseMatrix.l0
      repeat' first | with_reducible first | exact ih0 _ _ _ _ _ | exact impl_IsMatrix.mono _ _ | exact impl_matrixText.mono _ _ | exact LeO.refl _ | exact LeO.none _ | refine LeO.ite ?_ ?_ | refine LeO.bind ?_ (fun _ => ?_)
theorem impl_ParseMatrix.mono : ∀ a0 k, LeO (impl_ParseMatrix.f k a0) (impl_ParseMatrix.f (k + 1) a0) := by
  intro a0 k
  have ih0 := impl_ParseMatrix.mono_l k
  unfold impl_ParseMatrix.f
  repeat' first | with_reducible first | exact ih0 _ _ _ _ _ | exact impl_IsMatrix.mono _ _ | exact impl_matrixText.mono _ _ | exact LeO.refl _ | exact LeO.none _ | refine LeO.ite ?_ ?_ | refine LeO.bind ?_ (fun _ => ?_)
set_option maxHeartbeats 8000000 in
set_option maxRecDepth 100000 in
theorem impl_ParseMatrix.calls (k : Nat) (a0 : ByteArray) (r1 : List (List Int)) (r2 : Bool) (w : World) (hV : VarsP w) (h : impl_ParseMatrix.f k a0 = some (r1, r2)) :
    Calls Tryd.prog 14 #[.string a0] w fun e w' => ∃ v0_ : Value, e = .returned (.tuple #[.agg #[v0_], .bool r2]) ∧ Kd.S (Kd.slice 3 (Kd.int .i64)) 36 w' w.heap.size (fun _ => True) v0_ r1 ∧ Below w.heap.size w w' := by
  have hu28 := Tryd.underlying28
  have HB := Aside0.mk (Below.refl w.heap.size w)
  have HVV := Aside0.mk hV
  clear hV
  have H : (if a0.toList = ([] : List UInt8) then (some (([] : List (List Int)), true)) else ((strings_Split.f a0 (⟨#[47]⟩ : ByteArray)).bind fun t224 => (if (t224.length : Int) > 12 then (some (([] : List (List Int)), false)) else (impl_ParseMatrix.l0 k a0 t224 (t224.length : Int) 0 ([] : List (List Int)))))) = some (r1, r2) := h
  clear h
  by_cases c2 : a0.toList = ([] : List UInt8)
  · rw [if_pos c2] at H
    have c2b0 : (a0.toList == ([] : List UInt8)) = true := beq_iff_eq.mpr c2
    have c2b1 : (a0.toList != ([] : List UInt8)) = false := bne_eq_false_iff_eq.mpr c2
    clear c2
    simp only [Option.some.injEq, Prod.mk.injEq] at H
    obtain ⟨rfl, rfl⟩ := H
    go_enter Tryd.func14, Tryd.ntmps14
    go_wp2_with (first | ((with_reducible refine gate_dst (N := 2) rfl ?_); refine box_event ?hg (N := 2) ?hd (cs := #[.slice none 0 0]) (t := 28) ?hr ?_; (case hd => rfl); (case hg => rfl); (case hr => first | (go_simp; done) | (go_simp; rfl)); intro gb222 hg w3 hbox hb; have n0_ := Aside0.mk (below_step (by repeat (first | (with_reducible first | exact HB.out | apply bA | apply bN | apply bD) | exact HB.out)) hb); have n1_ := Aside0.mk (hbox); have n2_ := Aside0.mk ((by rw [hg]; exact (below_size (by repeat (first | (with_reducible first | exact HB.out | apply bA | apply bN | apply bD) | exact HB.out))) : w.heap.size ≤ gb222)); have n3_ := Aside0.mk ((by rw [hg]; exact (below_size (by repeat (first | (with_reducible first | exact HB.out | apply bA | apply bN | apply bD) | exact HB.out))) : w.heap.size ≤ gb222)); clear HB; have HB := n0_; have BK222 := n1_; have GW222 := n2_; have GE222 := n3_; clear n0_ n1_ n2_ n3_; clear hb hbox hg) | ((with_reducible refine gate_dst (N := 4) rfl ?_); refine box_event ?hg (N := 4) ?hd (cs := #[.slice none 0 0]) (t := 28) ?hr ?_; (case hd => rfl); (case hg => rfl); (case hr => first | (go_simp; done) | (go_simp; rfl)); intro gb223 hg w4 hbox hb; have n0_ := Aside0.mk (blk_below (g := gb222) (o := .cells #[.slice none 0 0] 28 (0, 0)) (by (with_reducible repeat (first | apply qN | apply qD | apply qA)); exact BK222.out) hb); have n1_ := Aside0.mk (below_step (by repeat (first | (with_reducible first | exact HB.out | apply bA | apply bN | apply bD | refine below_set ?_ GE222.out) | exact HB.out)) hb); have n2_ := Aside0.mk (hbox); have n3_ := Aside0.mk ((by rw [hg]; exact (below_size (by repeat (first | (with_reducible first | exact HB.out | apply bA | apply bN | apply bD | refine below_set ?_ GE222.out) | exact HB.out))) : w.heap.size ≤ gb223)); have n4_ := Aside0.mk ((by rw [hg]; exact (below_size (by repeat (first | (with_reducible first | exact HB.out | apply bA | apply bN | apply bD | refine below_set ?_ GE222.out) | exact HB.out))) : w.heap.size ≤ gb223)); have n5_ := Aside0.mk ((by rw [hg]; exact Nat.ne_of_lt (blk_lt (g := gb222) (o := .cells #[.slice none 0 0] 28 (0, 0)) (by (with_reducible repeat (first | apply qN | apply qD | apply qA)); exact BK222.out)) : gb222 ≠ gb223)); have n6_ := Aside0.mk ((by rw [hg]; exact Nat.ne_of_gt (blk_lt (g := gb222) (o := .cells #[.slice none 0 0] 28 (0, 0)) (by (with_reducible repeat (first | apply qN | apply qD | apply qA)); exact BK222.out)) : gb223 ≠ gb222)); clear BK222; clear HB; have BK222 := n0_; have HB := n1_; have BK223 := n2_; have GW223 := n3_; have GE223 := n4_; have NB222_223 := n5_; have NB223_222 := n6_; clear n0_ n1_ n2_ n3_ n4_ n5_ n6_; clear hb hbox hg; have hnb5 := NB223_222.out; have hnc5 := NB222_223.out; have hcz6_0 : w4.cell? ⟨gb223, 0, none⟩ = some (.slice none 0 0) := (blk_cell BK223.out 0).trans rfl; have hfz6_0 := blk_frozen BK223.out 0; have hcz7_0 : w4.cell? ⟨gb222, 0, none⟩ = some (.slice none 0 0) := (blk_cell BK222.out 0).trans rfl; have hfz7_0 := blk_frozen BK222.out 0))
    refine bodyPost_ret (results_ct rfl _ _ gb222 28 #[.slice none 0 0] (0, 0) _ rfl (by (with_reducible repeat (first | apply qN | apply qD | apply qA)); refine blk_put (cs := #[.slice none 0 0]) ?_ 0 _ rfl; (with_reducible repeat (first | apply qN | apply qD | apply qA)); refine blk_far ?_ NB222_223.out _; (with_reducible repeat (first | apply qN | apply qD | apply qA)); exact BK222.out) Tryd.underlying28 rfl (by kernel_rfl)) rfl ?_
    exact ⟨_, by first | rfl | (simp [errW_none, errW_some] <;> rfl) | (simp [*, errW_none, errW_some] <;> rfl), by first | exact Kd.S_nil _ _ _ _ _ | exact Kd.N_nil _ _ _ _ _ | exact Kd.V_nil _ _ _ _ _ | exact Kd.Q_nil _ _ _ _ _ | exact Kd.R_nil _ _ _ _ _, by repeat (first | (with_reducible first | exact HB.out | apply bA | apply bN | apply bD | refine below_set ?_ GE222.out | refine below_set ?_ GE223.out) | exact HB.out)⟩
  · rw [if_neg c2] at H
    have c2b0 : (a0.toList == ([] : List UInt8)) = false := beq_eq_false_iff_ne.mpr c2
    have c2b1 : (a0.toList != ([] : List UInt8)) = true := bne_iff_ne.mpr c2
    replace H := Option.bind_eq_some_iff.mp H
    obtain ⟨t224, A80, H⟩ := H
    replace H : (if (t224.length : Int) > 12 then (some (([] : List (List Int)), false)) else (impl_ParseMatrix.l0 k a0 t224 (t224.length : Int) 0 ([] : List (List Int)))) = some (r1, r2) := H
    have A8 := Aside0.mk A80
    clear A80
    by_cases c9 : (t224.length : Int) > 12
    · rw [if_pos c9] at H
      have c9b0 : decide (12 < (t224.length : Int)) = true := decide_eq_true c9
      have c9b1 : decide (12 < t224.length) = true := decide_eq_true (by omega)
      clear c9
      simp only [Option.some.injEq, Prod.mk.injEq] at H
      obtain ⟨rfl, rfl⟩ := H
      go_enter Tryd.func14, Tryd.ntmps14
      go_wp2_with (first | ((with_reducible refine gate_dst (N := 2) rfl ?_); refine box_event ?hg (N := 2) ?hd (cs := #[.slice none 0 0]) (t := 28) ?hr ?_; (case hd => rfl); (case hg => rfl); (case hr => first | (go_simp; done) | (go_simp; rfl)); intro gb222 hg w10 hbox hb; have n0_ := Aside0.mk (below_step (by repeat (first | (with_reducible first | exact HB.out | apply bA | apply bN | apply bD) | exact HB.out)) hb); have n1_ := Aside0.mk (hbox); have n2_ := Aside0.mk ((by rw [hg]; exact (below_size (by repeat (first | (with_reducible first | exact HB.out | apply bA | apply bN | apply bD) | exact HB.out))) : w.heap.size ≤ gb222)); have n3_ := Aside0.mk ((by rw [hg]; exact (below_size (by repeat (first | (with_reducible first | exact HB.out | apply bA | apply bN | apply bD) | exact HB.out))) : w.heap.size ≤ gb222)); clear HB; have HB := n0_; have BK222 := n1_; have GW222 := n2_; have GE222 := n3_; clear n0_ n1_ n2_ n3_; clear hb hbox hg) | ((with_reducible refine gate_dst (N := 4) rfl ?_); refine box_event ?hg (N := 4) ?hd (cs := #[.slice none 0 0]) (t := 28) ?hr ?_; (case hd => rfl); (case hg => rfl); (case hr => first | (go_simp; done) | (go_simp; rfl)); intro gb223 hg w11 hbox hb; have n0_ := Aside0.mk (blk_below (g := gb222) (o := .cells #[.slice none 0 0] 28 (0, 0)) (by (with_reducible repeat (first | apply qN | apply qD | apply qA)); exact BK222.out) hb); have n1_ := Aside0.mk (below_step (by repeat (first | (with_reducible first | exact HB.out | apply bA | apply bN | apply bD | refine below_set ?_ GE222.out) | exact HB.out)) hb); have n2_ := Aside0.mk (hbox); have n3_ := Aside0.mk ((by rw [hg]; exact (below_size (by repeat (first | (with_reducible first | exact HB.out | apply bA | apply bN | apply bD | refine below_set ?_ GE222.out) | exact HB.out))) : w.heap.size ≤ gb223)); have n4_ := Aside0.mk ((by rw [hg]; exact (below_size (by repeat (first | (with_reducible first | exact HB.out | apply bA | apply bN | apply bD | refine below_set ?_ GE222.out) | exact HB.out))) : w.heap.size ≤ gb223)); have n5_ := Aside0.mk ((by rw [hg]; exact Nat.ne_of_lt (blk_lt (g := gb222) (o := .cells #[.slice none 0 0] 28 (0, 0)) (by (with_reducible repeat (first | apply qN | apply qD | apply qA)); exact BK222.out)) : gb222 ≠ gb223)); have n6_ := Aside0.mk ((by rw [hg]; exact Nat.ne_of_gt (blk_lt (g := gb222) (o := .cells #[.slice none 0 0] 28 (0, 0)) (by (with_reducible repeat (first | apply qN | apply qD | apply qA)); exact BK222.out)) : gb223 ≠ gb222)); clear BK222; clear HB; have BK222 := n0_; have HB := n1_; have BK223 := n2_; have GW223 := n3_; have GE223 := n4_; have NB222_223 := n5_; have NB223_222 := n6_; clear n0_ n1_ n2_ n3_ n4_ n5_ n6_; clear hb hbox hg; have hnb12 := NB223_222.out; have hnc12 := NB222_223.out; have hcz13_0 : w11.cell? ⟨gb223, 0, none⟩ = some (.slice none 0 0) := (blk_cell BK223.out 0).trans rfl; have hfz13_0 := blk_frozen BK223.out 0) | ((with_reducible refine gate_callee (f := 39) rfl ?_); refine goesL_ (some 15) rfl rfl Tryd.func39 (by kernel_rfl) rfl #[.string a0, .string (⟨#[47]⟩ : ByteArray)] rfl (by (try simp only [List.map_toArray, List.map_cons, List.map_nil]); first | done | rfl | (simp only [List.length_drop, List.length_take]; rfl)) ?_; (with_reducible refine (strings_Split.calls a0 (⟨#[47]⟩ : ByteArray) t224 _ (HVV.out.below (by repeat (first | (with_reducible first | exact HB.out | apply bA | apply bN | apply bD | refine below_set ?_ GE222.out | refine below_set ?_ GE223.out) | exact HB.out))) A8.out).mono ?_); rintro e w14 ⟨v225, rfl, ho0, hb⟩; refine ⟨_, rfl, ?_⟩; have n0_ := Aside0.mk (Kd.R_lower ho0 (below_size (by repeat (first | (with_reducible first | exact HB.out | apply bA | apply bN | apply bD | refine below_set ?_ GE222.out | refine below_set ?_ GE223.out) | exact HB.out)))); have n1_ := Aside0.mk (blk_below (g := gb222) (o := .cells #[.slice none 0 0] 28 (0, 0)) (by (with_reducible repeat (first | apply qN | apply qD | apply qA)); refine blk_far ?_ NB222_223.out _; (with_reducible repeat (first | apply qN | apply qD | apply qA)); exact BK222.out) hb); have n2_ := Aside0.mk (blk_below (g := gb223) (o := .cells #[.slice none 0 0] 28 (0, 0)) (by (with_reducible repeat (first | apply qN | apply qD | apply qA)); refine blk_put (cs := #[.slice none 0 0]) ?_ 0 _ rfl; (with_reducible repeat (first | apply qN | apply qD | apply qA)); exact BK223.out) hb); have n3_ := Aside0.mk (below_step (by repeat (first | (with_reducible first | exact HB.out | apply bA | apply bN | apply bD | refine below_set ?_ GE222.out | refine below_set ?_ GE223.out) | exact HB.out)) hb); clear BK222; clear BK223; clear HB; have HO226 := n0_; have BK222 := n1_; have BK223 := n2_; have HB := n3_; clear n0_ n1_ n2_ n3_; (try clear hb); (try clear hb2); (try clear hk); (try clear hi); (try clear ho0); obtain ⟨Ao15, co15, eo15⟩ := Kd.R_slice HO226.out; subst eo15; have hcz16_0 : w14.cell? ⟨gb223, 0, none⟩ = some (.slice none 0 0) := (blk_cell BK223.out 0).trans rfl; have hfz16_0 := blk_frozen BK223.out 0; have hcz17_0 : w14.cell? ⟨gb222, 0, none⟩ = some (.slice none 0 0) := (blk_cell BK222.out 0).trans rfl; have hfz17_0 := blk_frozen BK222.out 0))
      refine bodyPost_ret (results_ct rfl _ _ gb222 28 #[.slice none 0 0] (0, 0) _ rfl (by (with_reducible repeat (first | apply qN | apply qD | apply qA)); refine blk_put (cs := #[.slice none 0 0]) ?_ 0 _ rfl; (with_reducible repeat (first | apply qN | apply qD | apply qA)); exact BK222.out) Tryd.underlying28 rfl (by kernel_rfl)) rfl ?_
      exact ⟨_, by first | rfl | (simp [errW_none, errW_some] <;> rfl) | (simp [*, errW_none, errW_some] <;> rfl), by first | exact Kd.S_nil _ _ _ _ _ | exact Kd.N_nil _ _ _ _ _ | exact Kd.V_nil _ _ _ _ _ | exact Kd.Q_nil _ _ _ _ _ | exact Kd.R_nil _ _ _ _ _, by repeat (first | (with_reducible first | exact HB.out | apply bA | apply bN | apply bD | refine below_set ?_ GE222.out | refine below_set ?_ GE223.out) | exact HB.out)⟩
    · rw [if_neg c9] at H
      have c9b0 : decide (12 < (t224.length : Int)) = false := decide_eq_false c9
      have c9b1 : decide (12 < t224.length) = false := decide_eq_false (by omega)
      clear c9
      have H' := Aside0.mk H
      clear H
      go_enter Tryd.func14, Tryd.ntmps14
      go_wp2_with (first | ((with_reducible refine gate_dst (N := 2) rfl ?_); refine box_event ?hg (N := 2) ?hd (cs := #[.slice none 0 0]) (t := 28) ?hr ?_; (case hd => rfl); (case hg => rfl); (case hr => first | (go_simp; done) | (go_simp; rfl)); intro gb222 hg w18 hbox hb; have n0_ := Aside0.mk (below_step (by repeat (first | (with_reducible first | exact HB.out | apply bA | apply bN | apply bD) | exact HB.out)) hb); have n1_ := Aside0.mk (hbox); have n2_ := Aside0.mk ((by rw [hg]; exact (below_size (by repeat (first | (with_reducible first | exact HB.out | apply bA | apply bN | apply bD) | exact HB.out))) : w.heap.size ≤ gb222)); have n3_ := Aside0.mk ((by rw [hg]; exact (below_size (by repeat (first | (with_reducible first | exact HB.out | apply bA | apply bN | apply bD) | exact HB.out))) : w.heap.size ≤ gb222)); clear HB; have HB := n0_; have BK222 := n1_; have GW222 := n2_; have GE222 := n3_; clear n0_ n1_ n2_ n3_; clear hb hbox hg) | ((with_reducible refine gate_dst (N := 4) rfl ?_); refine box_event ?hg (N := 4) ?hd (cs := #[.slice none 0 0]) (t := 28) ?hr ?_; (case hd => rfl); (case hg => rfl); (case hr => first | (go_simp; done) | (go_simp; rfl)); intro gb223 hg w19 hbox hb; have n0_ := Aside0.mk (blk_below (g := gb222) (o := .cells #[.slice none 0 0] 28 (0, 0)) (by (with_reducible repeat (first | apply qN | apply qD | apply qA)); exact BK222.out) hb); have n1_ := Aside0.mk (below_step (by repeat (first | (with_reducible first | exact HB.out | apply bA | apply bN | apply bD | refine below_set ?_ GE222.out) | exact HB.out)) hb); have n2_ := Aside0.mk (hbox); have n3_ := Aside0.mk ((by rw [hg]; exact (below_size (by repeat (first | (with_reducible first | exact HB.out | apply bA | apply bN | apply bD | refine below_set ?_ GE222.out) | exact HB.out))) : w.heap.size ≤ gb223)); have n4_ := Aside0.mk ((by rw [hg]; exact (below_size (by repeat (first | (with_reducible first | exact HB.out | apply bA | apply bN | apply bD | refine below_set ?_ GE222.out) | exact HB.out))) : w.heap.size ≤ gb223)); have n5_ := Aside0.mk ((by rw [hg]; exact Nat.ne_of_lt (blk_lt (g := gb222) (o := .cells #[.slice none 0 0] 28 (0, 0)) (by (with_reducible repeat (first | apply qN | apply qD | apply qA)); exact BK222.out)) : gb222 ≠ gb223)); have n6_ := Aside0.mk ((by rw [hg]; exact Nat.ne_of_gt (blk_lt (g := gb222) (o := .cells #[.slice none 0 0] 28 (0, 0)) (by (with_reducible repeat (first | apply qN | apply qD | apply qA)); exact BK222.out)) : gb223 ≠ gb222)); clear BK222; clear HB; have BK222 := n0_; have HB := n1_; have BK223 := n2_; have GW223 := n3_; have GE223 := n4_; have NB222_223 := n5_; have NB223_222 := n6_; clear n0_ n1_ n2_ n3_ n4_ n5_ n6_; clear hb hbox hg; have hnb20 := NB223_222.out; have hnc20 := NB222_223.out; have hcz21_0 : w19.cell? ⟨gb223, 0, none⟩ = some (.slice none 0 0) := (blk_cell BK223.out 0).trans rfl; have hfz21_0 := blk_frozen BK223.out 0) | ((with_reducible refine gate_callee (f := 39) rfl ?_); refine goesL_ (some 15) rfl rfl Tryd.func39 (by kernel_rfl) rfl #[.string a0, .string (⟨#[47]⟩ : ByteArray)] rfl (by (try simp only [List.map_toArray, List.map_cons, List.map_nil]); first | done | rfl | (simp only [List.length_drop, List.length_take]; rfl)) ?_; (with_reducible refine (strings_Split.calls a0 (⟨#[47]⟩ : ByteArray) t224 _ (HVV.out.below (by repeat (first | (with_reducible first | exact HB.out | apply bA | apply bN | apply bD | refine below_set ?_ GE222.out | refine below_set ?_ GE223.out) | exact HB.out))) A8.out).mono ?_); rintro e w22 ⟨v225, rfl, ho0, hb⟩; refine ⟨_, rfl, ?_⟩; have n0_ := Aside0.mk (Kd.R_lower ho0 (below_size (by repeat (first | (with_reducible first | exact HB.out | apply bA | apply bN | apply bD | refine below_set ?_ GE222.out | refine below_set ?_ GE223.out) | exact HB.out)))); have n1_ := Aside0.mk (blk_below (g := gb222) (o := .cells #[.slice none 0 0] 28 (0, 0)) (by (with_reducible repeat (first | apply qN | apply qD | apply qA)); refine blk_far ?_ NB222_223.out _; (with_reducible repeat (first | apply qN | apply qD | apply qA)); exact BK222.out) hb); have n2_ := Aside0.mk (blk_below (g := gb223) (o := .cells #[.slice none 0 0] 28 (0, 0)) (by (with_reducible repeat (first | apply qN | apply qD | apply qA)); refine blk_put (cs := #[.slice none 0 0]) ?_ 0 _ rfl; (with_reducible repeat (first | apply qN | apply qD | apply qA)); exact BK223.out) hb); have n3_ := Aside0.mk (below_step (by repeat (first | (with_reducible first | exact HB.out | apply bA | apply bN | apply bD | refine below_set ?_ GE222.out | refine below_set ?_ GE223.out) | exact HB.out)) hb); clear BK222; clear BK223; clear HB; have HO226 := n0_; have BK222 := n1_; have BK223 := n2_; have HB := n3_; clear n0_ n1_ n2_ n3_; (try clear hb); (try clear hb2); (try clear hk); (try clear hi); (try clear ho0); obtain ⟨Ao23, co23, eo23⟩ := Kd.R_slice HO226.out; subst eo23))
      go_loopg [22] k (fun kq v22 w' => ∃ (x22_1 : Int) (x224000_1 : List (List Int)) (u224000 : Value), v22 = .int .i64 x22_1 ∧ Aside0 (impl_ParseMatrix.l0 kq a0 t224 (t224.length : Int) x22_1 x224000_1 = some (r1, r2)) ∧ Aside0 (kq ≤ k) ∧ Aside0 (Kd.R Kd.string 9 w' w.heap.size (fun _ => True) (.slice Ao23 t224.length co23) t224) ∧ Aside0 (Kd.S (Kd.slice 3 (Kd.int .i64)) 36 w' w.heap.size (fun _ => True) u224000 x224000_1) ∧ Aside0 (w'.heap[gb222]? = some (.cells #[(.slice none 0 0)] 28 (0, 0))) ∧ Aside0 (w'.heap[gb223]? = some (.cells #[u224000] 28 (0, 0))) ∧ Aside0 (Below w.heap.size w w'))
      case atStart => exact ⟨(0), (([] : List (List Int))), (.slice none 0 0), (by first | rfl | (simp; done) | (simp [*]; done)), H', ⟨Nat.le_refl _⟩, ⟨by (with_reducible repeat (first | apply Kd.R_alloc | apply Kd.R_drewN | apply Kd.R_drew)); exact HO226.out⟩, ⟨by first | exact Kd.S_nil _ _ _ _ _ | exact Kd.N_nil _ _ _ _ _ | exact Kd.V_nil _ _ _ _ _ | exact Kd.Q_nil _ _ _ _ _ | exact Kd.R_nil _ _ _ _ _⟩, ⟨by (with_reducible repeat (first | apply qN | apply qD | apply qA)); exact BK222.out⟩, ⟨by (with_reducible repeat (first | apply qN | apply qD | apply qA)); exact BK223.out⟩, ⟨by repeat (first | (with_reducible first | exact HB.out | apply bA | apply bN | apply bD | refine below_set ?_ GE222.out | refine below_set ?_ GE223.out) | exact HB.out)⟩⟩
      case round =>
        clear H'
        try clear c1
        try clear c2
        try clear c2b0
        try clear c2b1
        try clear p2
        try clear c3
        try clear c5
        try clear c9
        try clear c9b0
        try clear c9b1
        try clear c12
        try clear c14
        try clear c20
        try clear hcz13_0
        try clear hcz16_0
        try clear hcz17_0
        try clear hcz21_0
        try clear hcz6_0
        try clear hcz7_0
        try clear hfz13_0
        try clear hfz16_0
        try clear hfz17_0
        try clear hfz21_0
        try clear hfz6_0
        try clear hfz7_0
        obtain ⟨x22_1, x224000_1, u224000, rfl, HA, HK1, HO_20, HO_224000, BK222, BK223, HB⟩ := hrel
        cases gk with
        | zero => exact absurd HA.out (by simp [impl_ParseMatrix.l0])
        | succ k1 =>
          have H := HA.out
          clear HA
          simp only [impl_ParseMatrix.l0] at H
          by_cases c24 : x22_1 < (t224.length : Int)
          · rw [if_pos c24] at H
            have c24b0 : decide (x22_1 < (t224.length : Int)) = true := decide_eq_true c24
            clear c24
            by_cases c25 : 0 ≤ x22_1
            · rw [if_pos c25] at H
              have c25b0 : decide (0 ≤ x22_1) = true := decide_eq_true c25
              clear c25
              by_cases c26 : x22_1 < (t224.length : Int)
              · rw [if_pos c26] at H
                have c26b0 : decide (x22_1 < (t224.length : Int)) = true := decide_eq_true c26
                clear c26
                replace H := Option.bind_eq_some_iff.mp H
                obtain ⟨⟨t228, t229⟩, A270, H⟩ := H
                replace H : (if t229 = true then (if x224000_1.length < 5864062014805 then (impl_ParseMatrix.l0 k1 a0 t224 (t224.length : Int) (wrap64 (x22_1 + 1)) (x224000_1 ++ [t228])) else (none)) else (some (([] : List (List Int)), false))) = some (r1, r2) := H
                have A27 := Aside0.mk A270
                clear A270
                by_cases c28 : t229 = true
                · subst c28
                  have H1 : (if x224000_1.length < 5864062014805 then (impl_ParseMatrix.l0 k1 a0 t224 (t224.length : Int) (wrap64 (x22_1 + 1)) (x224000_1 ++ [t228])) else (none)) = some (r1, r2) := by rw [if_pos rfl] at H; exact H
                  clear H
                  have H := H1
                  clear H1
                  by_cases c29 : x224000_1.length < 5864062014805
                  · rw [if_pos c29] at H
                    have LMc29 := Aside0.mk c29
                    clear c29
                    obtain ⟨y232, hy232⟩ : ∃ y_ : List (List Int), y_ = (x224000_1 ++ [t228]) := ⟨_, rfl⟩
                    replace H : (impl_ParseMatrix.l0 k1 a0 t224 (t224.length : Int) (wrap64 (x22_1 + 1)) y232) = some (r1, r2) := by first | (rw [hy232]; with_reducible exact H) | (have H2_ := (Option.bind_some _ _).symm.trans H; rw [hy232]; with_reducible exact H2_) | (have H2_ := (Option.bind_some _ _).symm.trans H; with_reducible exact H2_) | with_reducible exact H | (rw [hy232]; exact H) | exact H
                    have Ny232 := Aside0.mk hy232
                    clear hy232
                    have H' := Aside0.mk H
                    clear H
                    have p227 : 0 ≤ (x22_1 : Int) := of_decide_eq_true (by first | (with_reducible assumption) | assumption)
                    have q227 : x22_1 < (t224.length : Int) := of_decide_eq_true (by first | (with_reducible assumption) | assumption)
                    obtain ⟨ad227, e227, hx227_0⟩ := Kd.at_string (Kd.R_reads' HO_20.out).2.2 x22_1 p227 q227
                    cases e227
                    replace p227 := eq_true p227
                    replace q227 := eq_true q227
                    go_wp2_with (first | ((with_reducible refine gate_callee (f := 40) rfl ?_); refine goesL_ (some 28) rfl rfl Tryd.func40 (by kernel_rfl) rfl #[.string (rdOf ByteArray.empty t224 x22_1)] rfl (by (try simp only [List.map_toArray, List.map_cons, List.map_nil]); first | done | rfl | (simp only [List.length_drop, List.length_take]; rfl)) ?_; (with_reducible refine (impl_numbersOf.calls (rdOf ByteArray.empty t224 x22_1) t228 true _ (HVV.out.below (by repeat (first | (with_reducible first | exact HB.out | apply bA | apply bN | apply bD | refine below_set ?_ GE222.out | refine below_set ?_ GE223.out) | exact HB.out))) A27.out).mono ?_); rintro e w30 ⟨v230, rfl, ho0, hb⟩; refine ⟨_, rfl, ?_⟩; have n0_ := Aside0.mk (Kd.R_below (by (with_reducible repeat (first | apply Kd.R_alloc | apply Kd.R_drewN | apply Kd.R_drew)); exact HO_20.out) hb); have n1_ := Aside0.mk (Kd.S_elder' (by (with_reducible repeat (first | apply Kd.S_alloc | apply Kd.S_drewN | apply Kd.S_drew)); exact HO_224000.out) (Kd.R_base ho0) hb); have n2_ := Aside0.mk (Kd.R_lower ho0 (below_size (by repeat (first | (with_reducible first | exact HB.out | apply bA | apply bN | apply bD | refine below_set ?_ GE222.out | refine below_set ?_ GE223.out) | exact HB.out)))); have n3_ := Aside0.mk (blk_below (g := gb222) (o := .cells #[.slice none 0 0] 28 (0, 0)) (by (with_reducible repeat (first | apply qN | apply qD | apply qA)); exact BK222.out) hb); have n4_ := Aside0.mk (blk_below (g := gb223) (o := .cells #[u224000] 28 (0, 0)) (by (with_reducible repeat (first | apply qN | apply qD | apply qA)); exact BK223.out) hb); have n5_ := Aside0.mk (below_step (by repeat (first | (with_reducible first | exact HB.out | apply bA | apply bN | apply bD | refine below_set ?_ GE222.out | refine below_set ?_ GE223.out) | exact HB.out)) hb); clear HO_20; clear HO_224000; clear BK222; clear BK223; clear HB; have HO_20 := n0_; have HO_224000 := n1_; have HO231 := n2_; have BK222 := n3_; have BK223 := n4_; have HB := n5_; clear n0_ n1_ n2_ n3_ n4_ n5_; (try clear hb); (try clear hb2); (try clear hk); (try clear hi); (try clear ho0); have hnb31 := NB223_222.out; have hnc31 := NB222_223.out; have hcz32_0 : w30.cell? ⟨gb223, 0, none⟩ = some (u224000) := (blk_cell BK223.out 0).trans rfl; have hfz32_0 := blk_frozen BK223.out 0; obtain ⟨Ao34, co34, eo34⟩ := Kd.R_slice HO231.out; subst eo34) | ((with_reducible refine gate_builtin (b := .append) (xs := #[.tmp 35, .tmp 37]) rfl ?_); at_builtin; refine Kd.S_append (Kd.slice 3 (Kd.int .i64)) (w0 := w) w.heap.size rfl (.tmp 35) (.tmp 37) 22 36 (.slice none 0 0) 24 rfl Tryd.underlying22 info36 rfl (by decide) (by omega) u224000 x224000_1 t228 [.slice Ao34 t228.length co34] (fun _ => True) (fun k_ => some k_ = (.slice Ao34 t228.length co34 : Value).ownBlock) rfl rfl ?aP (fun k_ hk_ => ((Kd.R_mono (ok' := fun k_ => ((fun _ => True)) k_ ∧ some k_ ≠ (u224000 : Value).ownBlock) (Kd.R_apart' (HO231.out) (Kd.S_typed HO_224000.out) (by decide)) (fun k_ hk => ⟨trivial, hk.2⟩))).1 k_ hk_.symm) ?aF ?aO ?aB ?aS ?aL ?_; (case aP => exact Kd.M_row (Kd.R_mono (Kd.R_tight rfl (Kd.R_mono (ok' := fun k_ => ((fun _ => True)) k_ ∧ some k_ ≠ (u224000 : Value).ownBlock) (Kd.R_apart' (HO231.out) (Kd.S_typed HO_224000.out) (by decide)) (fun k_ hk => ⟨trivial, hk.2⟩))) (fun _ h_ => h_))); (case aB => exact (by repeat (first | (with_reducible first | exact HB.out | apply bA | apply bN | apply bD | refine below_set ?_ GE222.out | refine below_set ?_ GE223.out) | exact HB.out))); (case aF => exact (fun _ _ => trivial)); (case aO => exact (by (with_reducible repeat (first | apply Kd.S_alloc | apply Kd.S_drewN | apply Kd.S_drew)); exact Kd.S_mono HO_224000.out (fun k_ hk => ⟨trivial, fun e_ => hk.2 e_⟩))); (case aS => exact (below_size (by repeat (first | (with_reducible first | exact HB.out | apply bA | apply bN | apply bD | refine below_set ?_ GE222.out | refine below_set ?_ GE223.out) | exact HB.out)))); (case aL => have := LMc29.out; omega); intro v233 w33 ho hb hg hat; rw [← Ny232.out] at ho; have n0_ := Aside0.mk (Kd.R_over' (by (with_reducible repeat (first | apply Kd.R_alloc | apply Kd.R_drewN | apply Kd.R_drew)); exact HO_20.out) (Kd.S_typed (by (with_reducible repeat (first | apply Kd.S_alloc | apply Kd.S_drewN | apply Kd.S_drew)); exact HO_224000.out)) (by decide) hg); have n1_ := Aside0.mk (blk_grown (g := gb222) (o := .cells #[.slice none 0 0] 28 (0, 0)) (by (with_reducible repeat (first | apply qN | apply qD | apply qA)); exact BK222.out) hg (Kd.S_ne HO_224000.out BK222.out (by decide))); have n2_ := Aside0.mk (blk_grown (g := gb223) (o := .cells #[u224000] 28 (0, 0)) (by (with_reducible repeat (first | apply qN | apply qD | apply qA)); exact BK223.out) hg (Kd.S_ne HO_224000.out BK223.out (by decide))); have n3_ := Aside0.mk (hb); have n4_ := Aside0.mk (ho); clear HO_20; clear BK222; clear BK223; clear HB; clear HO_224000; clear HO231; have HO_20 := n0_; have BK222 := n1_; have BK223 := n2_; have HB := n3_; have HO234 := n4_; clear n0_ n1_ n2_ n3_ n4_; clear ho hb hg hat; obtain ⟨Ao35, co35, eo35⟩ := Kd.S_slice HO234.out; subst eo35; have hcz36_0 : w33.cell? ⟨gb223, 0, none⟩ = some (u224000) := (blk_cell BK223.out 0).trans rfl; have hfz36_0 := blk_frozen BK223.out 0))
                    go_roundg k1
                    case measure => have := HK1.out; omega
                    case rel => exact ⟨(wrap64 (x22_1 + 1)), (y232), (.slice Ao35 y232.length co35), (by first | rfl | (simp; done) | (simp [*]; done)), H', ⟨by have := HK1.out; omega⟩, ⟨by (with_reducible repeat (first | apply Kd.R_alloc | apply Kd.R_drewN | apply Kd.R_drew)); exact Kd.R_mono (Kd.R_far (p := ⟨gb223, 0, none⟩) (Kd.R_types HO_20.out BK223.out (by decide)) (fun _ hk => hk.2) (.slice Ao35 y232.length co35)) (fun _ hk => trivial)⟩, ⟨by (with_reducible repeat (first | apply Kd.S_alloc | apply Kd.S_drewN | apply Kd.S_drew)); exact Kd.S_mono (Kd.S_far (p := ⟨gb223, 0, none⟩) (Kd.S_types HO234.out BK223.out (by decide)) (fun _ hk => hk.2) (.slice Ao35 y232.length co35)) (fun _ hk => trivial)⟩, ⟨by (with_reducible repeat (first | apply qN | apply qD | apply qA)); refine blk_far ?_ NB222_223.out _; (with_reducible repeat (first | apply qN | apply qD | apply qA)); exact BK222.out⟩, ⟨by (with_reducible repeat (first | apply qN | apply qD | apply qA)); refine blk_put (cs := #[u224000]) ?_ 0 _ rfl; (with_reducible repeat (first | apply qN | apply qD | apply qA)); exact BK223.out⟩, ⟨by repeat (first | (with_reducible first | exact HB.out | apply bA | apply bN | apply bD | refine below_set ?_ GE222.out | refine below_set ?_ GE223.out) | exact HB.out)⟩⟩
                  · rw [if_neg c29] at H
                    exact absurd H (by simp)
                · replace c28 := Bool.eq_false_iff.mpr c28
                  subst c28
                  have H1 : (some (([] : List (List Int)), false)) = some (r1, r2) := by rw [if_neg (show ¬ (false = true) by decide)] at H; exact H
                  clear H
                  have H := H1
                  clear H1
                  simp only [Option.some.injEq, Prod.mk.injEq] at H
                  obtain ⟨rfl, rfl⟩ := H
                  have p227 : 0 ≤ (x22_1 : Int) := of_decide_eq_true (by first | (with_reducible assumption) | assumption)
                  have q227 : x22_1 < (t224.length : Int) := of_decide_eq_true (by first | (with_reducible assumption) | assumption)
                  obtain ⟨ad227, e227, hx227_0⟩ := Kd.at_string (Kd.R_reads' HO_20.out).2.2 x22_1 p227 q227
                  cases e227
                  replace p227 := eq_true p227
                  replace q227 := eq_true q227
                  go_wp2_with (first | ((with_reducible refine gate_callee (f := 40) rfl ?_); refine goesL_ (some 28) rfl rfl Tryd.func40 (by kernel_rfl) rfl #[.string (rdOf ByteArray.empty t224 x22_1)] rfl (by (try simp only [List.map_toArray, List.map_cons, List.map_nil]); first | done | rfl | (simp only [List.length_drop, List.length_take]; rfl)) ?_; (with_reducible refine (impl_numbersOf.calls (rdOf ByteArray.empty t224 x22_1) t228 false _ (HVV.out.below (by repeat (first | (with_reducible first | exact HB.out | apply bA | apply bN | apply bD | refine below_set ?_ GE222.out | refine below_set ?_ GE223.out) | exact HB.out))) A27.out).mono ?_); rintro e w37 ⟨v230, rfl, ho0, hb⟩; refine ⟨_, rfl, ?_⟩; have n0_ := Aside0.mk (Kd.R_below (by (with_reducible repeat (first | apply Kd.R_alloc | apply Kd.R_drewN | apply Kd.R_drew)); exact HO_20.out) hb); have n1_ := Aside0.mk (Kd.S_elder' (by (with_reducible repeat (first | apply Kd.S_alloc | apply Kd.S_drewN | apply Kd.S_drew)); exact HO_224000.out) (Kd.R_base ho0) hb); have n2_ := Aside0.mk (Kd.R_lower ho0 (below_size (by repeat (first | (with_reducible first | exact HB.out | apply bA | apply bN | apply bD | refine below_set ?_ GE222.out | refine below_set ?_ GE223.out) | exact HB.out)))); have n3_ := Aside0.mk (blk_below (g := gb222) (o := .cells #[.slice none 0 0] 28 (0, 0)) (by (with_reducible repeat (first | apply qN | apply qD | apply qA)); exact BK222.out) hb); have n4_ := Aside0.mk (blk_below (g := gb223) (o := .cells #[u224000] 28 (0, 0)) (by (with_reducible repeat (first | apply qN | apply qD | apply qA)); exact BK223.out) hb); have n5_ := Aside0.mk (below_step (by repeat (first | (with_reducible first | exact HB.out | apply bA | apply bN | apply bD | refine below_set ?_ GE222.out | refine below_set ?_ GE223.out) | exact HB.out)) hb); clear HO_20; clear HO_224000; clear BK222; clear BK223; clear HB; have HO_20 := n0_; have HO_224000 := n1_; have HO231 := n2_; have BK222 := n3_; have BK223 := n4_; have HB := n5_; clear n0_ n1_ n2_ n3_ n4_ n5_; (try clear hb); (try clear hb2); (try clear hk); (try clear hi); (try clear ho0); have hnb38 := NB222_223.out; have hnc38 := NB223_222.out; have hcz39_0 : w37.cell? ⟨gb222, 0, none⟩ = some (.slice none 0 0) := (blk_cell BK222.out 0).trans rfl; have hfz39_0 := blk_frozen BK222.out 0))
                  refine bodyPost_ret (results_ct rfl _ _ gb222 28 #[.slice none 0 0] (0, 0) _ rfl (by (with_reducible repeat (first | apply qN | apply qD | apply qA)); refine blk_put (cs := #[.slice none 0 0]) ?_ 0 _ rfl; (with_reducible repeat (first | apply qN | apply qD | apply qA)); exact BK222.out) Tryd.underlying28 rfl (by kernel_rfl)) rfl ?_
                  exact ⟨_, by first | rfl | (simp [errW_none, errW_some] <;> rfl) | (simp [*, errW_none, errW_some] <;> rfl), by first | exact Kd.S_nil _ _ _ _ _ | exact Kd.N_nil _ _ _ _ _ | exact Kd.V_nil _ _ _ _ _ | exact Kd.Q_nil _ _ _ _ _ | exact Kd.R_nil _ _ _ _ _, by repeat (first | (with_reducible first | exact HB.out | apply bA | apply bN | apply bD | refine below_set ?_ GE222.out | refine below_set ?_ GE223.out) | exact HB.out)⟩
              · rw [if_neg c26] at H
                exact absurd H (by simp)
            · rw [if_neg c25] at H
              exact absurd H (by simp)
          · rw [if_neg c24] at H
            have c24b0 : decide (x22_1 < (t224.length : Int)) = false := decide_eq_false c24
            clear c24
            replace H := Option.bind_eq_some_iff.mp H
            obtain ⟨t235, A400, H⟩ := H
            replace H : (if t235 = true then ((impl_matrixText.f k1 x224000_1).bind fun t236 => (if t236.toList = a0.toList then (some (x224000_1, true)) else (some (([] : List (List Int)), false)))) else (some (([] : List (List Int)), false))) = some (r1, r2) := H
            have A40 := Aside0.mk A400
            clear A400
            by_cases c41 : t235 = true
            · subst c41
              have H1 : ((impl_matrixText.f k1 x224000_1).bind fun t236 => (if t236.toList = a0.toList then (some (x224000_1, true)) else (some (([] : List (List Int)), false)))) = some (r1, r2) := by rw [if_pos rfl] at H; exact H
              clear H
              have H := H1
              clear H1
              replace H := Option.bind_eq_some_iff.mp H
              obtain ⟨t236, A420, H⟩ := H
              replace H : (if t236.toList = a0.toList then (some (x224000_1, true)) else (some (([] : List (List Int)), false))) = some (r1, r2) := H
              have A42 := Aside0.mk A420
              clear A420
              by_cases c43 : t236.toList = a0.toList
              · rw [if_pos c43] at H
                have c43b0 : (t236.toList == a0.toList) = true := beq_iff_eq.mpr c43
                have c43b1 : (t236.toList != a0.toList) = false := bne_eq_false_iff_eq.mpr c43
                clear c43
                simp only [Option.some.injEq, Prod.mk.injEq] at H
                obtain ⟨rfl, rfl⟩ := H
                have hnb44 := NB223_222.out
                have hnc44 := NB222_223.out
                have hcz45_0 : wr.cell? ⟨gb223, 0, none⟩ = some (u224000) := (blk_cell BK223.out 0).trans rfl
                have hfz45_0 := blk_frozen BK223.out 0
                obtain ⟨Ao46, co46, eo46⟩ := Kd.S_slice HO_224000.out
                subst eo46
                go_wp2_with (first | ((with_reducible refine gate_callee (f := 34) rfl ?_); refine goesL_ (some 42) rfl rfl Tryd.func34 (by kernel_rfl) rfl #[.agg #[.slice Ao46 x224000_1.length co46]] rfl (by (try simp only [List.map_toArray, List.map_cons, List.map_nil]); first | done | rfl | (simp only [List.length_drop, List.length_take]; rfl)) ?_; (with_reducible refine (impl_IsMatrix.calls k1 _ _ x224000_1 true _ ?side1 ?side2 A40.out).mono ?_); (case side1 => repeat (first | exact (Kd.S_reads' HO_224000.out).2.2 | (with_reducible refine Kd.C_alloc ?_ _) | (with_reducible refine Kd.C_drewN ?_ _) | (with_reducible refine Kd.C_drew ?_))); (case side2 => exact (Kd.S_reads' HO_224000.out).2.1); rintro e w47 ⟨rfl, hb⟩; refine ⟨_, rfl, ?_⟩; have n0_ := Aside0.mk (Kd.R_below (by (with_reducible repeat (first | apply Kd.R_alloc | apply Kd.R_drewN | apply Kd.R_drew)); exact HO_20.out) hb); have n1_ := Aside0.mk (Kd.S_below (by (with_reducible repeat (first | apply Kd.S_alloc | apply Kd.S_drewN | apply Kd.S_drew)); exact HO_224000.out) hb); have n2_ := Aside0.mk (blk_below (g := gb222) (o := .cells #[.slice none 0 0] 28 (0, 0)) (by (with_reducible repeat (first | apply qN | apply qD | apply qA)); exact BK222.out) hb); have n3_ := Aside0.mk (blk_below (g := gb223) (o := .cells #[.slice Ao46 x224000_1.length co46] 28 (0, 0)) (by (with_reducible repeat (first | apply qN | apply qD | apply qA)); exact BK223.out) hb); have n4_ := Aside0.mk (below_step (by repeat (first | (with_reducible first | exact HB.out | apply bA | apply bN | apply bD | refine below_set ?_ GE222.out | refine below_set ?_ GE223.out) | exact HB.out)) hb); clear HO_20; clear HO_224000; clear BK222; clear BK223; clear HB; have HO_20 := n0_; have HO_224000 := n1_; have BK222 := n2_; have BK223 := n3_; have HB := n4_; clear n0_ n1_ n2_ n3_ n4_; (try clear hb); (try clear hb2); (try clear hk); (try clear hi); have hcz48_0 : w47.cell? ⟨gb223, 0, none⟩ = some (.slice Ao46 x224000_1.length co46) := (blk_cell BK223.out 0).trans rfl; have hfz48_0 := blk_frozen BK223.out 0) | (go_at_call 35; (with_reducible refine (impl_matrixText.calls k1 _ _ x224000_1 t236 _ ?side1 ?side2 A42.out).mono ?_); (case side1 => repeat (first | exact (Kd.S_reads' HO_224000.out).2.2 | (with_reducible refine Kd.C_alloc ?_ _) | (with_reducible refine Kd.C_drewN ?_ _) | (with_reducible refine Kd.C_drew ?_))); (case side2 => exact (Kd.S_reads' HO_224000.out).2.1); rintro e w49 ⟨rfl, hb⟩; have n0_ := Aside0.mk (Kd.R_below (by (with_reducible repeat (first | apply Kd.R_alloc | apply Kd.R_drewN | apply Kd.R_drew)); exact HO_20.out) hb); have n1_ := Aside0.mk (Kd.S_below (by (with_reducible repeat (first | apply Kd.S_alloc | apply Kd.S_drewN | apply Kd.S_drew)); exact HO_224000.out) hb); have n2_ := Aside0.mk (blk_below (g := gb222) (o := .cells #[.slice none 0 0] 28 (0, 0)) (by (with_reducible repeat (first | apply qN | apply qD | apply qA)); exact BK222.out) hb); have n3_ := Aside0.mk (blk_below (g := gb223) (o := .cells #[.slice Ao46 x224000_1.length co46] 28 (0, 0)) (by (with_reducible repeat (first | apply qN | apply qD | apply qA)); exact BK223.out) hb); have n4_ := Aside0.mk (below_step (by repeat (first | (with_reducible first | exact HB.out | apply bA | apply bN | apply bD | refine below_set ?_ GE222.out | refine below_set ?_ GE223.out) | exact HB.out)) hb); clear HO_20; clear HO_224000; clear BK222; clear BK223; clear HB; have HO_20 := n0_; have HO_224000 := n1_; have BK222 := n2_; have BK223 := n3_; have HB := n4_; clear n0_ n1_ n2_ n3_ n4_; (try clear hb); (try clear hb2); (try clear hk); (try clear hi); have hcz50_0 : w49.cell? ⟨gb223, 0, none⟩ = some (.slice Ao46 x224000_1.length co46) := (blk_cell BK223.out 0).trans rfl; have hfz50_0 := blk_frozen BK223.out 0; have hcz51_0 : w49.cell? ⟨gb222, 0, none⟩ = some (.slice none 0 0) := (blk_cell BK222.out 0).trans rfl; have hfz51_0 := blk_frozen BK222.out 0))
                refine bodyPost_ret (results_ct rfl _ _ gb222 28 #[.slice Ao46 x224000_1.length co46] (0, 0) _ rfl (by (with_reducible repeat (first | apply qN | apply qD | apply qA)); refine blk_put (cs := #[.slice none 0 0]) ?_ 0 _ rfl; (with_reducible repeat (first | apply qN | apply qD | apply qA)); exact BK222.out) Tryd.underlying28 rfl (by kernel_rfl)) rfl ?_
                exact ⟨_, by first | rfl | (simp [errW_none, errW_some] <;> rfl) | (simp [*, errW_none, errW_some] <;> rfl), by (with_reducible repeat (first | apply Kd.S_alloc | apply Kd.S_drewN | apply Kd.S_drew)); exact Kd.S_mono (Kd.S_far (p := ⟨gb222, 0, none⟩) (Kd.S_types HO_224000.out BK222.out (by decide)) (fun _ hk => hk.2) (.slice Ao46 x224000_1.length co46)) (fun _ hk => trivial), by repeat (first | (with_reducible first | exact HB.out | apply bA | apply bN | apply bD | refine below_set ?_ GE222.out | refine below_set ?_ GE223.out) | exact HB.out)⟩
              · rw [if_neg c43] at H
                have c43b0 : (t236.toList == a0.toList) = false := beq_eq_false_iff_ne.mpr c43
                have c43b1 : (t236.toList != a0.toList) = true := bne_iff_ne.mpr c43
                simp only [Option.some.injEq, Prod.mk.injEq] at H
                obtain ⟨rfl, rfl⟩ := H
                have hnb52 := NB223_222.out
                have hnc52 := NB222_223.out
                have hcz53_0 : wr.cell? ⟨gb223, 0, none⟩ = some (u224000) := (blk_cell BK223.out 0).trans rfl
                have hfz53_0 := blk_frozen BK223.out 0
                obtain ⟨Ao54, co54, eo54⟩ := Kd.S_slice HO_224000.out
                subst eo54
                go_wp2_with (first | ((with_reducible refine gate_callee (f := 34) rfl ?_); refine goesL_ (some 42) rfl rfl Tryd.func34 (by kernel_rfl) rfl #[.agg #[.slice Ao54 x224000_1.length co54]] rfl (by (try simp only [List.map_toArray, List.map_cons, List.map_nil]); first | done | rfl | (simp only [List.length_drop, List.length_take]; rfl)) ?_; (with_reducible refine (impl_IsMatrix.calls k1 _ _ x224000_1 true _ ?side1 ?side2 A40.out).mono ?_); (case side1 => repeat (first | exact (Kd.S_reads' HO_224000.out).2.2 | (with_reducible refine Kd.C_alloc ?_ _) | (with_reducible refine Kd.C_drewN ?_ _) | (with_reducible refine Kd.C_drew ?_))); (case side2 => exact (Kd.S_reads' HO_224000.out).2.1); rintro e w55 ⟨rfl, hb⟩; refine ⟨_, rfl, ?_⟩; have n0_ := Aside0.mk (Kd.R_below (by (with_reducible repeat (first | apply Kd.R_alloc | apply Kd.R_drewN | apply Kd.R_drew)); exact HO_20.out) hb); have n1_ := Aside0.mk (Kd.S_below (by (with_reducible repeat (first | apply Kd.S_alloc | apply Kd.S_drewN | apply Kd.S_drew)); exact HO_224000.out) hb); have n2_ := Aside0.mk (blk_below (g := gb222) (o := .cells #[.slice none 0 0] 28 (0, 0)) (by (with_reducible repeat (first | apply qN | apply qD | apply qA)); exact BK222.out) hb); have n3_ := Aside0.mk (blk_below (g := gb223) (o := .cells #[.slice Ao54 x224000_1.length co54] 28 (0, 0)) (by (with_reducible repeat (first | apply qN | apply qD | apply qA)); exact BK223.out) hb); have n4_ := Aside0.mk (below_step (by repeat (first | (with_reducible first | exact HB.out | apply bA | apply bN | apply bD | refine below_set ?_ GE222.out | refine below_set ?_ GE223.out) | exact HB.out)) hb); clear HO_20; clear HO_224000; clear BK222; clear BK223; clear HB; have HO_20 := n0_; have HO_224000 := n1_; have BK222 := n2_; have BK223 := n3_; have HB := n4_; clear n0_ n1_ n2_ n3_ n4_; (try clear hb); (try clear hb2); (try clear hk); (try clear hi); have hcz56_0 : w55.cell? ⟨gb223, 0, none⟩ = some (.slice Ao54 x224000_1.length co54) := (blk_cell BK223.out 0).trans rfl; have hfz56_0 := blk_frozen BK223.out 0) | (go_at_call 35; (with_reducible refine (impl_matrixText.calls k1 _ _ x224000_1 t236 _ ?side1 ?side2 A42.out).mono ?_); (case side1 => repeat (first | exact (Kd.S_reads' HO_224000.out).2.2 | (with_reducible refine Kd.C_alloc ?_ _) | (with_reducible refine Kd.C_drewN ?_ _) | (with_reducible refine Kd.C_drew ?_))); (case side2 => exact (Kd.S_reads' HO_224000.out).2.1); rintro e w57 ⟨rfl, hb⟩; have n0_ := Aside0.mk (Kd.R_below (by (with_reducible repeat (first | apply Kd.R_alloc | apply Kd.R_drewN | apply Kd.R_drew)); exact HO_20.out) hb); have n1_ := Aside0.mk (Kd.S_below (by (with_reducible repeat (first | apply Kd.S_alloc | apply Kd.S_drewN | apply Kd.S_drew)); exact HO_224000.out) hb); have n2_ := Aside0.mk (blk_below (g := gb222) (o := .cells #[.slice none 0 0] 28 (0, 0)) (by (with_reducible repeat (first | apply qN | apply qD | apply qA)); exact BK222.out) hb); have n3_ := Aside0.mk (blk_below (g := gb223) (o := .cells #[.slice Ao54 x224000_1.length co54] 28 (0, 0)) (by (with_reducible repeat (first | apply qN | apply qD | apply qA)); exact BK223.out) hb); have n4_ := Aside0.mk (below_step (by repeat (first | (with_reducible first | exact HB.out | apply bA | apply bN | apply bD | refine below_set ?_ GE222.out | refine below_set ?_ GE223.out) | exact HB.out)) hb); clear HO_20; clear HO_224000; clear BK222; clear BK223; clear HB; have HO_20 := n0_; have HO_224000 := n1_; have BK222 := n2_; have BK223 := n3_; have HB := n4_; clear n0_ n1_ n2_ n3_ n4_; (try clear hb); (try clear hb2); (try clear hk); (try clear hi); have hcz58_0 : w57.cell? ⟨gb222, 0, none⟩ = some (.slice none 0 0) := (blk_cell BK222.out 0).trans rfl; have hfz58_0 := blk_frozen BK222.out 0))
                refine bodyPost_ret (results_ct rfl _ _ gb222 28 #[.slice none 0 0] (0, 0) _ rfl (by (with_reducible repeat (first | apply qN | apply qD | apply qA)); refine blk_put (cs := #[.slice none 0 0]) ?_ 0 _ rfl; (with_reducible repeat (first | apply qN | apply qD | apply qA)); exact BK222.out) Tryd.underlying28 rfl (by kernel_rfl)) rfl ?_
                exact ⟨_, by first | rfl | (simp [errW_none, errW_some] <;> rfl) | (simp [*, errW_none, errW_some] <;> rfl), by first | exact Kd.S_nil _ _ _ _ _ | exact Kd.N_nil _ _ _ _ _ | exact Kd.V_nil _ _ _ _ _ | exact Kd.Q_nil _ _ _ _ _ | exact Kd.R_nil _ _ _ _ _, by repeat (first | (with_reducible first | exact HB.out | apply bA | apply bN | apply bD | refine below_set ?_ GE222.out | refine below_set ?_ GE223.out) | exact HB.out)⟩
            · replace c41 := Bool.eq_false_iff.mpr c41
              subst c41
              have H1 : (some (([] : List (List Int)), false)) = some (r1, r2) := by rw [if_neg (show ¬ (false = true) by decide)] at H; exact H
              clear H
              have H := H1
              clear H1
              simp only [Option.some.injEq, Prod.mk.injEq] at H
              obtain ⟨rfl, rfl⟩ := H
              have hnb59 := NB223_222.out
              have hnc59 := NB222_223.out
              have hcz60_0 : wr.cell? ⟨gb223, 0, none⟩ = some (u224000) := (blk_cell BK223.out 0).trans rfl
              have hfz60_0 := blk_frozen BK223.out 0
              obtain ⟨Ao61, co61, eo61⟩ := Kd.S_slice HO_224000.out
              subst eo61
              go_wp2_with (first | ((with_reducible refine gate_callee (f := 34) rfl ?_); refine goesL_ (some 42) rfl rfl Tryd.func34 (by kernel_rfl) rfl #[.agg #[.slice Ao61 x224000_1.length co61]] rfl (by (try simp only [List.map_toArray, List.map_cons, List.map_nil]); first | done | rfl | (simp only [List.length_drop, List.length_take]; rfl)) ?_; (with_reducible refine (impl_IsMatrix.calls k1 _ _ x224000_1 false _ ?side1 ?side2 A40.out).mono ?_); (case side1 => repeat (first | exact (Kd.S_reads' HO_224000.out).2.2 | (with_reducible refine Kd.C_alloc ?_ _) | (with_reducible refine Kd.C_drewN ?_ _) | (with_reducible refine Kd.C_drew ?_))); (case side2 => exact (Kd.S_reads' HO_224000.out).2.1); rintro e w62 ⟨rfl, hb⟩; refine ⟨_, rfl, ?_⟩; have n0_ := Aside0.mk (Kd.R_below (by (with_reducible repeat (first | apply Kd.R_alloc | apply Kd.R_drewN | apply Kd.R_drew)); exact HO_20.out) hb); have n1_ := Aside0.mk (Kd.S_below (by (with_reducible repeat (first | apply Kd.S_alloc | apply Kd.S_drewN | apply Kd.S_drew)); exact HO_224000.out) hb); have n2_ := Aside0.mk (blk_below (g := gb222) (o := .cells #[.slice none 0 0] 28 (0, 0)) (by (with_reducible repeat (first | apply qN | apply qD | apply qA)); exact BK222.out) hb); have n3_ := Aside0.mk (blk_below (g := gb223) (o := .cells #[.slice Ao61 x224000_1.length co61] 28 (0, 0)) (by (with_reducible repeat (first | apply qN | apply qD | apply qA)); exact BK223.out) hb); have n4_ := Aside0.mk (below_step (by repeat (first | (with_reducible first | exact HB.out | apply bA | apply bN | apply bD | refine below_set ?_ GE222.out | refine below_set ?_ GE223.out) | exact HB.out)) hb); clear HO_20; clear HO_224000; clear BK222; clear BK223; clear HB; have HO_20 := n0_; have HO_224000 := n1_; have BK222 := n2_; have BK223 := n3_; have HB := n4_; clear n0_ n1_ n2_ n3_ n4_; (try clear hb); (try clear hb2); (try clear hk); (try clear hi); have hcz63_0 : w62.cell? ⟨gb222, 0, none⟩ = some (.slice none 0 0) := (blk_cell BK222.out 0).trans rfl; have hfz63_0 := blk_frozen BK222.out 0))
              refine bodyPost_ret (results_ct rfl _ _ gb222 28 #[.slice none 0 0] (0, 0) _ rfl (by (with_reducible repeat (first | apply qN | apply qD | apply qA)); refine blk_put (cs := #[.slice none 0 0]) ?_ 0 _ rfl; (with_reducible repeat (first | apply qN | apply qD | apply qA)); exact BK222.out) Tryd.underlying28 rfl (by kernel_rfl)) rfl ?_
              exact ⟨_, by first | rfl | (simp [errW_none, errW_some] <;> rfl) | (simp [*, errW_none, errW_some] <;> rfl), by first | exact Kd.S_nil _ _ _ _ _ | exact Kd.N_nil _ _ _ _ _ | exact Kd.V_nil _ _ _ _ _ | exact Kd.Q_nil _ _ _ _ _ | exact Kd.R_nil _ _ _ _ _, by repeat (first | (with_reducible first | exact HB.out | apply bA | apply bN | apply bD | refine below_set ?_ GE222.out | refine below_set ?_ GE223.out) | exact HB.out)⟩

end Go.Proofs.YtadflnoofnonoaaDoor.Px
