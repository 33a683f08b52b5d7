-- Written by hook.py (wip/), over the kit's print.py.
import Derived.Test.YtcodionjhcmfhaaGreatDoorOa2
import Derived.Test.YtcodionjhcmfhaaGreatDoorOa11
import Derived.Test.YtcodionjhcmfhaaGreatDoorOaXSq
namespace Go.Proofs.YtcodionjhcmfhaaGreatDoor.Oa
open Go.RowKit Go.Proofs.YtcodionjhcmfhaaGreatDoorW.PrintWords Go.Proofs.YtcodionjhcmfhaaGreatDoorW.PrintLast Go.Proofs.YtcodionjhcmfhaaGreatDoorW.PrintMore Go.Proofs.YtcodionjhcmfhaaGreatDoor.Sq
attribute [local go_sem] max2_int min2_int max_two min_two max_three min_three max_four min_four
set_option linter.unusedVariables false
set_option linter.unusedSimpArgs false
def Y26.l0 : Nat → List (List Int) → Int → Int → List (List Int) → Option ((List (List Int)))
 | 0, _, _, _, _ => none
 | k + 1, x8, x9, x10, x270000 => if x10 < x9 then (if 0 ≤ x10 then (if x10 < (x8.length : Int) then ((Y56.f (rd_L3 x8 x10)).bind fun t271 => (if x270000.length < 5864062014805 then (Y26.l0 k x8 x9 (wrap64 (x10 + 1)) (x270000 ++ [t271])) else (none))) else (none)) else (none)) else (some x270000)
def Y26.f (k : Nat) (l0_0 : List (List Int)) : Option ((List (List Int))) := Y26.l0 k l0_0 (l0_0.length : Int) 0 ([] : List (List Int))
def Y26.T5 : Bool × List (List Nat × List Nat) := (true, [([], []), ([0], [0]), ([], []), ([2], [2]), ([3], [3]), ([1, 4, 3], [1, 4]), ([0, 1, 2, 3, 4, 5], []), ([6, 5, 5, 0, 1, 2, 3, 4, 5], [5, 6])])
def Y26.B5 : List Nat := [0, 1, 0, 4, 12, 31, 63, 127]
theorem Y26.tab5 : rtab .any (opsOf Tryz.f126 5) = Y26.T5 := by kernel_rfl
theorem Y26.bits5 : waitsOk Y26.T5.2 Y26.B5 = true := by kernel_rfl
set_option maxHeartbeats 8000000 in
set_option maxRecDepth 100000 in
theorem Y26.calls (k : Nat) (A0_0 : Option Addr) (c0_0 : Nat) (l0_0 : List (List Int)) (r : List (List Int)) (w : World) (hr0_0 : Kd.C (Kd.slice 3 (Kd.int .i64)) w A0_0 l0_0.length l0_0) (hc0_0 : l0_0.length ≤ c0_0) (h : Y26.f k l0_0 = some r) :
  Calls Tryz.prog 126 #[.agg #[.slice A0_0 l0_0.length c0_0]] w fun e w' => ∃ v0_ : Value, e = .returned (.agg #[v0_]) ∧ Kd.S (Kd.slice 3 (Kd.int .i64)) 24 w' w.heap.size (fun _ => True) v0_ r ∧ Below w.heap.size w w' := by
 have hu30 := Tryz.underlying30
 have HR0_0 := aM hr0_0
 have HC0_0 := aM hc0_0
 clear hr0_0 hc0_0
 have HB := aM (Below.refl w.heap.size w)
 unfold Y26.f at h
 have H := h
 clear h
 have H' := aM H
 clear H
 go_enter Tryz.func126, Tryz.ntmps126
 go_wp2_with (first | ((with_reducible refine gate_dst (N := 1) rfl ?_); refine bF 1 30 #[.slice A0_0 l0_0.length c0_0] bq ?_; intro gb267 w2 hg hb _ _ _ _; clear HB; rename_i HB BK267 GW267 GE267; clear hb hg) | ((with_reducible refine gate_dst (N := 2) rfl ?_); refine bE 2 30 #[.slice none 0 0] ?_; intro gb268 hg w3 hbox hb; have _ := bK BK267 hb; have _ := bB hb; have _ := aM (hbox); have _ := aM ((gS hg)); have _ := aM ((gS hg)); have _ := aM (nL hg BK267); have _ := aM (nG hg BK267); clear BK267 HB; rename_i BK267 HB BK268 GW268 GE268 NB267_268 NB268_267; clear hb hbox hg) | ((with_reducible refine gate_dst (N := 3) rfl ?_); refine bE 3 30 #[.slice none 0 0] ?_; intro gb269 hg w4 hbox hb; have _ := bK BK267 hb; have _ := bK BK268 hb; have _ := bB hb; have _ := aM (hbox); have _ := aM ((gS hg)); have _ := aM ((gS hg)); have _ := aM (nL hg BK267); have _ := aM (nG hg BK267); have _ := aM (nL hg BK268); have _ := aM (nG hg BK268); clear BK267 BK268 HB; rename_i BK267 BK268 HB BK269 GW269 GE269 NB267_269 NB269_267 NB268_269 NB269_268; clear hb hbox hg; have hnb5 := NB269_267.out; have hnc5 := NB267_269.out; have hnb6 := NB269_268.out; have hnc6 := NB268_269.out; have hcz7_0 := zc10 BK269; have hfz7_0 := blk_frozen BK269.out 0; have hnb8 := NB267_268.out; have hnc8 := NB268_267.out; have hcz9_0 := zc10 BK267; have hfz9_0 := blk_frozen BK267.out 0))
 go_loopg [10] k (fun kq v10 w' => ∃ (x10_1 : Int) (x270000_1 : List (List Int)) (u270000 : Value), v10 = .int .i64 x10_1 ∧ Aside0 (Y26.l0 kq l0_0 (l0_0.length : Int) x10_1 x270000_1 = some r) ∧ Aside0 (kq ≤ k) ∧ Aside0 (Kd.S (Kd.slice 3 (Kd.int .i64)) 24 w' w.heap.size (fun _ => True) u270000 x270000_1) ∧ Aside0 (w'.heap[gb267]? = some (.cells #[(.slice A0_0 l0_0.length c0_0)] 30 (0, 0))) ∧ Aside0 (w'.heap[gb268]? = some (.cells #[(.slice none 0 0)] 30 (0, 0))) ∧ Aside0 (w'.heap[gb269]? = some (.cells #[u270000] 30 (0, 0))) ∧ Aside0 (Below w.heap.size w w'))
 case atStart => exact ⟨(0), (([] : List (List Int))), (.slice none 0 0), eR, H', ⟨Nat.le_refl _⟩, ⟨by first | exact Kd.S_nil _ _ _ _ _ | exact Kd.N_nil _ _ _ _ _ | exact Kd.V_nil _ _ _ _ _ | exact Kd.Q_nil _ _ _ _ _ | exact Kd.R_nil _ _ _ _ _⟩, ⟨by (with_reducible repeat first|apply qN|apply qD|apply qA); refine blk_far ?_ NB267_269.out _; (with_reducible repeat first|apply qN|apply qD|apply qA); exact BK267.out⟩, ⟨by (with_reducible repeat first|apply qN|apply qD|apply qA); refine blk_far ?_ NB268_269.out _; (with_reducible repeat first|apply qN|apply qD|apply qA); exact BK268.out⟩, ⟨by (with_reducible repeat first|apply qN|apply qD|apply qA); refine blk_put (cs := #[.slice none 0 0]) ?_ 0 _ rfl; (with_reducible repeat first|apply qN|apply qD|apply qA); exact BK269.out⟩, ⟨bq⟩⟩
 case round =>
  clear H'
  try clear hcz7_0
  try clear hcz9_0
  try clear hfz7_0
  try clear hfz9_0
  obtain ⟨x10_1, x270000_1, u270000, rfl, HA, HK1, HO_270000, BK267, BK268, BK269, HB⟩ := hrel
  cases gk with
  | zero => exact absurd HA.out (by simp [Y26.l0])
  | succ k1 =>
   have H := HA.out
   clear HA
   simp only [Y26.l0] at H
   by_cases c10 : x10_1 < (l0_0.length : Int)
   ·rw [if_pos c10] at H
    have c10b0 := decide_eq_true c10
    clear c10
    replace H := iD2 H
    obtain ⟨c11b0, c12b0, H⟩ := H
    replace H := bS H
    obtain ⟨t271, A13, H⟩ := H
    try dsimp only at H
    replace H := iS H
    obtain ⟨c14, H⟩ := H
    have LMc14 := aM c14
    clear c14
    obtain ⟨y274, hy274⟩ := nE ((x270000_1 ++ [t271]) : List (List Int))
    try rw [← hy274] at H
    try with_reducible replace H := (Option.bind_some _ _).symm.trans H
    try dsimp only at H
    have Ny274 := aM hy274
    clear hy274
    have H' := aM H
    clear H
    have p270 : 0 ≤ (x10_1 : Int) := odt
    have q270 : x10_1 < (l0_0.length : Int) := odt
    obtain ⟨ad270, A270_0, c270_0, e270, hx270_0, hl270_0, hi270_0⟩ := at_L3 HR0_0.out x10_1 p270 q270
    cases e270
    replace hx270_0 := (HB.out.cell (World.block_lt_of_cell? w _ hx270_0)).trans hx270_0
    have HR270_0 := aM hi270_0
    have HC270_0 := aM hl270_0
    clear hi270_0 hl270_0
    replace p270 := eq_true p270
    replace q270 := eq_true q270
    try go_wp2
    have n0_ := aM (Kd.S_drew HO_270000.out)
    have n1_ := aM (blk_drew BK267.out)
    have n2_ := aM (blk_drew BK268.out)
    have n3_ := aM (blk_drew BK269.out)
    have n4_ := aM (below_drew1 HB.out)
    clear HO_270000
    clear BK267
    clear BK268
    clear BK269
    clear HB
    have HO_270000 := n0_
    have BK267 := n1_
    have BK268 := n2_
    have BK269 := n3_
    have HB := n4_
    clear n0_ n1_ n2_ n3_ n4_
    refine start_ (n := 8) (S := fun w' => w'.cell? ⟨gb269, 0, none⟩ = some (u270000)) (ds := [7]) #[false, false, false, false, false, false, false, false] (by kernel_rfl) rfl rfl ((blk_cell BK269.out 0).trans rfl) (fun hHeld => ?_); refine with_tabW Y26.tab5 Y26.bits5 (fun HT_ HW_ => ?_)
    generalize wr.drew = w15 at HO_270000 BK267 BK268 BK269 HB hHeld ⊢
    refine pA 0 14 (h := ?_)
    refine pA 2 16 (h := ?_)
    refine tA 1 15 hHeld (h := ?_)
    refine one_ (i := 3) (N := some 17) #[true, true, true, true, false, false, false, false] rfl rfl (one_of HT_.out (by kernel_rfl)) (by decide) (fun K hK => ?_)
    refine goes_ Tryz.func127 (by kernel_rfl) rfl #[.slice A270_0 (rd_L3 l0_0 x10_1).length c270_0] (by rfl) rfl rfl (by (try simp only [List.map_toArray, List.map_cons, List.map_nil]); first | done | rfl | (simp only [List.length_drop, List.length_take]; rfl)) ?_
    with_reducible refine (Y56.calls _ _ (rd_L3 l0_0 x10_1) t271 _ ?side1 ?side2 A13.out).mono ?_
    (case side1 => exact cQ (Kd.C_below HR270_0.out HB.out))
    (case side2 => exact HC270_0.out)
    rintro e w16 ⟨v272, rfl, ho0, hb⟩
    refine ⟨_, rfl, ?_⟩
    have n0_ := aM (Kd.S_elder' (sQ HO_270000) (Kd.R_base ho0) hb)
    have n1_ := aM (Kd.R_lower ho0 (below_size bq))
    have n2_ := aM (blk_below (qQ BK267) hb)
    have n3_ := aM (blk_below (qQ BK268) hb)
    have n4_ := aM (blk_below (qQ BK269) hb)
    have n5_ := aM (below_step bq hb)
    clear HO_270000
    clear BK267
    clear BK268
    clear BK269
    clear HB
    have HO_270000 := n0_
    have HO273 := n1_
    have BK267 := n2_
    have BK268 := n3_
    have BK269 := n4_
    have HB := n5_
    clear n0_ n1_ n2_ n3_ n4_ n5_
    (try clear hb)
    (try clear hb2)
    (try clear hk)
    (try clear hi)
    (try clear ho0)
    obtain ⟨Ao18, co18, eo18⟩ := Kd.R_slice HO273.out
    (first | subst eo18 | (injection eo18 with f1_ f2_ f3_; have f4_ := f1_.symm; have f5_ := f3_.symm; clear f1_ f2_ f3_; subst f4_; subst f5_))
    refine hK.out _ _ ((blk_cell BK269.out 0).trans rfl) (fun hHeld => ?_)
    clear hK K
    refine nA 17 (h := ?_)
    refine one_ (i := 4) (N := some 18) #[true, true, true, true, true, false, false, false] rfl rfl (one_of HT_.out (by kernel_rfl)) (by decide) (fun K hK => ?_)
    refine value_ (w1 := ?_) (v := ?_) (by rfl) rfl ?_ ?_
    rotate_left 2
    ·go_simp
     constructor
     ·rfl
     ·rfl
    refine hK.out _ _ ((blk_cell (blk_alloc BK269.out _) 0).trans rfl) (fun hHeld => ?_)
    clear hK K
    refine nA 18 (h := ?_)
    refine one_ (i := 5) (N := some 19) #[true, true, true, true, true, true, false, false] rfl rfl (one_of HT_.out (by kernel_rfl)) (by decide) (fun K hK => ?_)
    refine Kd.S_append_step (Kd.slice 3 (Kd.int .i64)) (w0 := w) w.heap.size (by rfl) (.tmp 15) (.tmp 18) 28 24 (.slice none 0 0) 24 rfl Tryz.underlying28 info24 rfl (by decide) (by omega) u270000 x270000_1 t271 [.slice Ao18 t271.length co18] (fun _ => True) (fun k_ => some k_ = (.slice Ao18 t271.length co18 : Value).ownBlock) rfl rfl ?aP (fun k_ hk_ => ((Kd.R_mono (ok' := fun k_ => ((fun _ => True)) k_ ∧ some k_ ≠ (u270000 : Value).ownBlock) (Kd.R_apart' (HO273.out) (Kd.S_typed HO_270000.out) (by decide)) (fun k_ hk => ⟨trivial, hk.2⟩))).1 k_ hk_.symm) ?aF ?aO ?aB ?aS ?aL ?_
    (case aP => exact Kd.M_row (Kd.R_mono (Kd.R_tight rfl (Kd.R_mono (ok' := fun k_ => ((fun _ => True)) k_ ∧ some k_ ≠ (u270000 : Value).ownBlock) (Kd.R_apart' (HO273.out) (Kd.S_typed HO_270000.out) (by decide)) (fun k_ hk => ⟨trivial, hk.2⟩))) (fun _ h_ => h_)))
    (case aB => exact bq)
    (case aF => exact (fun _ _ => trivial))
    (case aO => exact (by (with_reducible repeat first|apply sA|apply sN|apply sD); exact Kd.S_mono HO_270000.out (fun k_ hk => ⟨trivial, fun e_ => hk.2 e_⟩)))
    (case aS => exact (below_size bq))
    (case aL => have := LMc14.out; omega)
    intro v275 w17 ho hb hg hat
    rw [← Ny274.out] at ho
    have n0_ := aM (blk_grown (g := gb267) (o := .cells #[.slice (some ad270) l0_0.length c0_0] 30 (0, 0)) (qQ BK267) hg (Kd.S_ne HO_270000.out BK267.out (by decide)))
    have n1_ := aM (blk_grown (g := gb268) (o := .cells #[.slice none 0 0] 30 (0, 0)) (qQ BK268) hg (Kd.S_ne HO_270000.out BK268.out (by decide)))
    have n2_ := aM (blk_grown (g := gb269) (o := .cells #[u270000] 30 (0, 0)) (qQ BK269) hg (Kd.S_ne HO_270000.out BK269.out (by decide)))
    have n3_ := aM (hb)
    have n4_ := aM (ho)
    clear BK267
    clear BK268
    clear BK269
    clear HB
    clear HO_270000
    clear HO273
    have BK267 := n0_
    have BK268 := n1_
    have BK269 := n2_
    have HB := n3_
    have HO276 := n4_
    clear n0_ n1_ n2_ n3_ n4_
    clear ho hb hg hat
    obtain ⟨Ao19, co19, eo19⟩ := Kd.S_slice HO276.out
    (first | subst eo19 | (injection eo19 with f1_ f2_ f3_; have f4_ := f1_.symm; have f5_ := f3_.symm; clear f1_ f2_ f3_; subst f4_; subst f5_))
    refine hK.out _ _ ((blk_cell BK269.out 0).trans rfl) (fun hHeld => ?_)
    clear hK K
    refine nA 19 (h := ?_)
    refine pA 6 20 (h := ?_)
    refine last_ (i := 7) (N := none) #[true, true, true, true, true, true, true, true] rfl rfl (one_of HT_.out (by kernel_rfl)) (by decide) (fun K hK => ?_)
    have hs20 := zc10 BK269
    have hfs20 := blk_frozen BK269.out 0
    have hns20_0 := NB267_269.out
    have hns20_1 := NB268_269.out
    have hms20_0 := NB269_267.out
    have hms20_1 := NB269_268.out
    refine skip_ (w1 := ?_) (by rfl) rfl ?_ ?_
    rotate_left
    ·go_simp
     rfl
    refine hK.out _ _ ?_
    clear hK K
    refine done_ (done_of HT_.out (by kernel_rfl)) ?_
    try go_wp2
    go_roundg k1
    case measure => have := HK1.out; omega
    case rel => exact ⟨(wrap64 (x10_1 + 1)), (y274), (.slice Ao19 y274.length co19), eR, H', ⟨by have := HK1.out; omega⟩, ⟨by (with_reducible repeat first|apply sA|apply sN|apply sD); exact Kd.S_mono (Kd.S_far (p := ⟨gb269, 0, none⟩) (Kd.S_types HO276.out BK269.out (by decide)) (fun _ hk => hk.2) (.slice Ao19 y274.length co19)) (fun _ hk => trivial)⟩, ⟨by (with_reducible repeat first|apply qN|apply qD|apply qA); refine blk_far ?_ NB267_269.out _; (with_reducible repeat first|apply qN|apply qD|apply qA); exact BK267.out⟩, ⟨by (with_reducible repeat first|apply qN|apply qD|apply qA); refine blk_far ?_ NB268_269.out _; (with_reducible repeat first|apply qN|apply qD|apply qA); exact BK268.out⟩, ⟨by (with_reducible repeat first|apply qN|apply qD|apply qA); refine blk_put (cs := #[u270000]) ?_ 0 _ rfl; (with_reducible repeat first|apply qN|apply qD|apply qA); exact BK269.out⟩, ⟨bq⟩⟩
   ·rw [if_neg c10] at H
    have c10b0 := decide_eq_false c10
    clear c10
    obtain rfl := Option.some.inj H
    have hnb21 := NB269_267.out
    have hnc21 := NB267_269.out
    have hnb22 := NB269_268.out
    have hnc22 := NB268_269.out
    have hcz23_0 := zc10 BK269
    have hfz23_0 := blk_frozen BK269.out 0
    obtain ⟨Ao24, co24, eo24⟩ := Kd.S_slice HO_270000.out
    subst eo24
    have hnb25 := NB268_267.out
    have hnc25 := NB267_268.out
    have hcz26_0 := zc10 BK268
    have hfz26_0 := blk_frozen BK268.out 0
    go_wp2
    refine bodyPost_ret (results_cell_row rfl _ _ gb268 30 #[.slice Ao24 x270000_1.length co24] (0, 0) _ rfl (by (with_reducible repeat first|apply qN|apply qD|apply qA); refine blk_put (cs := #[.slice none 0 0]) ?_ 0 _ rfl; (with_reducible repeat first|apply qN|apply qD|apply qA); exact BK268.out) Tryz.underlying30 rfl (by kernel_rfl)) rfl ?_
    exact ⟨_, eE, by (with_reducible repeat first|apply sA|apply sN|apply sD); exact Kd.S_mono (Kd.S_far (p := ⟨gb268, 0, none⟩) (Kd.S_types HO_270000.out BK268.out (by decide)) (fun _ hk => hk.2) (.slice Ao24 x270000_1.length co24)) (fun _ hk => trivial), bq⟩
def Y32.f (l0 : List Int) (a1 : Int) : Option (List Int) := if 0 ≤ a1 then (if a1 ≤ (l0.length : Int) then ((Y56.f (l0.take (a1 : Int).toNat)).bind fun t278 => ((some (([0] : List Int) : List Int)).bind fun y281 => (if t278.length + y281.length < 17592186044416 then ((some (t278 ++ y281 : List Int)).bind fun y284 => (if y284.length + (l0.drop (a1 : Int).toNat).length < 17592186044416 then (some (y284 ++ (l0.drop (a1 : Int).toNat))) else (none))) else (none)))) else (none)) else (none)
def Y32.T1 : Bool × List (List Nat × List Nat) := (true, [([], []), ([], []), ([0, 1], [0, 1]), ([2], [2]), ([], []), ([3, 4, 3], [3, 4]), ([], []), ([], []), ([6, 7], [6, 7]), ([5, 8, 5], [5, 8]), ([9, 9, 0, 1, 2, 3, 4, 5, 6, 7, 8, 9], [9])])
def Y32.B1 : List Nat := [0, 0, 3, 7, 0, 31, 0, 0, 192, 511, 1023]
theorem Y32.tab1 : rtab .any (opsOf Tryz.f143 1) = Y32.T1 := by kernel_rfl
theorem Y32.bits1 : waitsOk Y32.T1.2 Y32.B1 = true := by kernel_rfl
set_option maxHeartbeats 8000000 in
set_option maxRecDepth 100000 in
theorem Y32.calls (A0 : Option Addr) (c0 : Nat) (l0 : List Int) (a1 : Int) (r : List Int) (w : World) (hr0 : Kd.C (Kd.int .i64) w A0 l0.length l0) (hc0 : l0.length ≤ c0) (h : Y32.f l0 a1 = some r) :
  Calls Tryz.prog 143 #[.slice A0 l0.length c0, .int .i64 a1] w fun e w' => ∃ v0_ : Value, e = .returned (v0_) ∧ Kd.R (Kd.int .i64) 3 w' w.heap.size (fun _ => True) v0_ r ∧ Below w.heap.size w w' := by
 have HR0 := aM hr0
 have HC0 := aM hc0
 clear hr0 hc0
 have HB := aM (Below.refl w.heap.size w)
 unfold Y32.f at h
 have H := h
 clear h
 replace H := iS H
 obtain ⟨c3, H⟩ := H
 have c3b0 := eq_true c3
 have c3b1 := decide_eq_true c3
 clear c3
 replace H := iS H
 obtain ⟨c4, H⟩ := H
 have c4b0 := eq_true c4
 have c4b1 := decide_eq_true c4
 clear c4
 replace H := bS H
 obtain ⟨t278, A5, H⟩ := H
 try dsimp only at H
 obtain ⟨y281, hy281⟩ := nE ((([0] : List Int)) : List Int)
 try rw [← hy281] at H
 try with_reducible replace H := (Option.bind_some _ _).symm.trans H
 try dsimp only at H
 have Ny281 := aM hy281
 clear hy281
 replace H := iS H
 obtain ⟨c6, H⟩ := H
 have LMc6 := aM c6
 clear c6
 obtain ⟨y284, hy284⟩ := nE ((t278 ++ y281) : List Int)
 try rw [← hy284] at H
 try with_reducible replace H := (Option.bind_some _ _).symm.trans H
 try dsimp only at H
 have Ny284 := aM hy284
 clear hy284
 have c7b0 := eq_true (odt : 0 ≤ a1)
 have c8b0 := eq_true (odt : a1 ≤ (l0.length : Int))
 replace H := iS H
 obtain ⟨c9, H⟩ := H
 have LMc9 := aM c9
 clear c9
 obtain ⟨y288, hy288⟩ := nE ((y284 ++ (l0.drop (a1 : Int).toNat)) : List Int)
 try rw [← hy288] at H
 try with_reducible replace H := (Option.bind_some _ _).symm.trans H
 try dsimp only at H
 have Ny288 := aM hy288
 clear hy288
 obtain rfl := Option.some.inj H
 go_enter Tryz.func143, Tryz.ntmps143
 try go_wp2
 have n0_ := aM (below_drew1 HB.out)
 clear HB
 have HB := n0_
 clear n0_
 obtain ⟨i011, hi011, _, hsz11, _⟩ := info_parts info3
 obtain ⟨hcut11, hA11, hC11⟩ := print_take_of (P := Tryz.prog) (Value.int .i64) 0 24 3 .i64 Tryz.underlying24 hi011 hsz11 A0 c0 l0 a1 (odt) (odt) HC0.out
 have HR277 := aM (Kd.C_of_reads (h1 := fun _ => rfl) (hA11 _ (Kd.reads_of_C HR0.out)))
 have HC277 := aM hC11
 clear hA11 hC11 hi011 hsz11
 obtain ⟨i012, hi012, _, hsz12, _⟩ := info_parts info3
 obtain ⟨A12, hcut12, hA12, hC12⟩ := print_drop_of (P := Tryz.prog) (Value.int .i64) 0 24 3 .i64 Tryz.underlying24 hi012 hsz12 A0 c0 l0 a1 (odt) (odt) HC0.out
 have HR287 := aM (Kd.C_of_reads (h1 := fun _ => rfl) (hA12 _ (Kd.reads_of_C HR0.out)))
 have HC287 := aM hC12
 clear hA12 hC12 hi012 hsz12
 refine start_ (n := 11) (S := fun w' => True) (ds := []) #[false, false, false, false, false, false, false, false, false, false, false] (by kernel_rfl) rfl rfl trivial (fun hHeld => ?_); refine with_tabW Y32.tab1 Y32.bits1 (fun HT_ HW_ => ?_)
 generalize w.drew = w10 at HB HR277 HR287 hHeld ⊢
 refine pA 0 5 (h := ?_)
 refine pA 1 6 (h := ?_)
 refine pA 2 7 (h := ?_)
 refine pA 6 11 (h := ?_)
 refine pA 7 12 (h := ?_)
 refine pA 8 13 (h := ?_)
 refine join_ (σ := Value × Value) 3 #[true, true, true, true, true, false, true, true, true, false, false] (fun s_ => [(8, s_.1), (9, s_.2)]) (fun s_ w' => (Kd.R (Kd.int .i64) 3 w' w.heap.size (fun k_ => some k_ ≠ (s_.2 : Value).ownBlock) s_.1 t278) ∧ (Kd.R (Kd.int .i64) 3 w' w.heap.size (fun k_ => some k_ ≠ (s_.1 : Value).ownBlock) s_.2 y281) ∧ (Below w.heap.size w w')) ?_ ?_
 rotate_left
 ·intro hCont
  refine two_ (i := 3) (j := 4) (Ni := some 8) (Nj := some 9) #[true, true, true, true, false, false, true, true, true, false, false] #[true, true, true, false, true, false, true, true, true, false, false] rfl rfl rfl rfl (two_of HT_.out (by kernel_rfl)) (by decide) (by decide) (fun K hK => ?_) (fun K hK => ?_)
  ·skip
   refine goes_ Tryz.func127 (by kernel_rfl) rfl #[.slice A0 (l0.take (a1 : Int).toNat).length c0] (by rfl) rfl rfl (by (try simp only [List.map_toArray, List.map_cons, List.map_nil]); first | done | (rw [show (l0.take (a1 : Int).toNat).length = a1.toNat from (by rw [List.length_take]; have h_ : (a1 : Int) ≤ (l0.length : Int) := odt; omega)] <;> rfl) | rfl | (simp only [List.length_drop, List.length_take]; rfl)) ?_
   with_reducible refine (Y56.calls _ _ (l0.take (a1 : Int).toNat) t278 _ ?side1 ?side2 A5.out).mono ?_
   (case side1 => exact cQ (Kd.C_below HR277.out HB.out))
   (case side2 => exact HC277.out)
   rintro e w13 ⟨v279, rfl, ho0, hb⟩
   refine ⟨_, rfl, ?_⟩
   have n0_ := aM (Kd.R_lower ho0 (below_size bq))
   have n1_ := aM (below_step bq hb)
   clear HB
   have HO280 := n0_
   have HB := n1_
   clear n0_ n1_
   (try clear hb)
   (try clear hb2)
   (try clear hk)
   (try clear hi)
   (try clear ho0)
   refine hK.out _ _ trivial (fun hHeld => ?_)
   clear hK K
   refine nA 8 (h := ?_)
   refine one_ (i := 4) (N := some 9) #[true, true, true, true, true, false, true, true, true, false, false] rfl rfl (one_of HT_.out (by kernel_rfl)) (by decide) (fun K hK => ?_)
   refine Kd.R_lit_step (Kd.int .i64) _ 3 ?hg (N := 9) ?hd (xs := ([0] : List Int)) (inner := [.int .i64 0]) (ok := fun _ => True) (okp := fun _ => True) ?hr ?hp (fun _ hk => hk) trivial (Below.refl _ _) (Nat.le_refl _) (by simp) ?_; (case hd => rfl); (case hg => rfl); (case hr => first | (go_simp; done) | (go_simp; rfl)); (case hp => exact (Reps.one (show Kd.M (Kd.int .i64) _ _ _ 0 [.int .i64 0] from rfl) (Reps.none _ _)))
   intro v282 w14 ho15 hb hg_ hnew_
   clear hg_ hnew_
   (first | rw [← Ny281.out] at ho15 | (simp only [Int.reduceToNat] at ho15; rw [← Ny281.out] at ho15))
   have n0_ := aM (Kd.R_elder' (rQ HO280) (Kd.R_base ho15) hb)
   have n1_ := aM (Kd.R_lower (Kd.R_new' ho15 (Kd.R_lt (rQ HO280))) (below_size bq))
   have n2_ := aM (below_step bq hb)
   clear HO280
   clear HB
   have HO280 := n0_
   have HO283 := n1_
   have HB := n2_
   clear n0_ n1_ n2_
   clear hb ho15
   refine hK.out _ _ trivial (fun hHeld => ?_)
   clear hK K
   refine nA 9 (h := ?_)
   exact norm_ (by simp only [putAll, Act.put, List.setIfInBounds_toArray, List.set_cons_zero, List.set_cons_succ]) (hCont (v279, v282) _ ⟨(by (with_reducible repeat first|apply rA|apply rN|apply rD); exact Kd.R_mono HO280.out (fun _ hk => hk.2)), (by (with_reducible repeat first|apply rA|apply rN|apply rD); exact Kd.R_mono HO283.out (fun _ hk => hk.2)), bq⟩)
  ·skip
   refine Kd.R_lit_step (Kd.int .i64) _ 3 ?hg (N := 9) ?hd (xs := ([0] : List Int)) (inner := [.int .i64 0]) (ok := fun _ => True) (okp := fun _ => True) ?hr ?hp (fun _ hk => hk) trivial (Below.refl _ _) (Nat.le_refl _) (by simp) ?_; (case hd => rfl); (case hg => rfl); (case hr => first | (go_simp; done) | (go_simp; rfl)); (case hp => exact (Reps.one (show Kd.M (Kd.int .i64) _ _ _ 0 [.int .i64 0] from rfl) (Reps.none _ _)))
   intro v282 w13 ho14 hb hg_ hnew_
   clear hg_ hnew_
   (first | rw [← Ny281.out] at ho14 | (simp only [Int.reduceToNat] at ho14; rw [← Ny281.out] at ho14))
   have n0_ := aM (Kd.R_lower ho14 (below_size bq))
   have n1_ := aM (below_step bq hb)
   clear HB
   have HO283 := n0_
   have HB := n1_
   clear n0_ n1_
   clear hb ho14
   refine hK.out _ _ trivial (fun hHeld => ?_)
   clear hK K
   refine nA 9 (h := ?_)
   refine one_ (i := 3) (N := some 8) #[true, true, true, true, true, false, true, true, true, false, false] rfl rfl (one_of HT_.out (by kernel_rfl)) (by decide) (fun K hK => ?_)
   refine goes_ Tryz.func127 (by kernel_rfl) rfl #[.slice A0 (l0.take (a1 : Int).toNat).length c0] (by rfl) rfl rfl (by (try simp only [List.map_toArray, List.map_cons, List.map_nil]); first | done | (rw [show (l0.take (a1 : Int).toNat).length = a1.toNat from (by rw [List.length_take]; have h_ : (a1 : Int) ≤ (l0.length : Int) := odt; omega)] <;> rfl) | rfl | (simp only [List.length_drop, List.length_take]; rfl)) ?_
   with_reducible refine (Y56.calls _ _ (l0.take (a1 : Int).toNat) t278 _ ?side1 ?side2 A5.out).mono ?_
   (case side1 => exact cQ (Kd.C_below HR277.out HB.out))
   (case side2 => exact HC277.out)
   rintro e w15 ⟨v279, rfl, ho0, hb⟩
   refine ⟨_, rfl, ?_⟩
   have n0_ := aM (Kd.R_elder' (rQ HO283) (Kd.R_base ho0) hb)
   have n1_ := aM (Kd.R_lower (Kd.R_new' ho0 (Kd.R_lt (rQ HO283))) (below_size bq))
   have n2_ := aM (below_step bq hb)
   clear HO283
   clear HB
   have HO283 := n0_
   have HO280 := n1_
   have HB := n2_
   clear n0_ n1_ n2_
   (try clear hb)
   (try clear hb2)
   (try clear hk)
   (try clear hi)
   (try clear ho0)
   refine hK.out _ _ trivial (fun hHeld => ?_)
   clear hK K
   refine nA 8 (h := ?_)
   exact norm_ (by simp only [putAll, Act.put, List.setIfInBounds_toArray, List.set_cons_zero, List.set_cons_succ]) (hCont (v279, v282) _ ⟨(by (with_reducible repeat first|apply rA|apply rN|apply rD); exact Kd.R_mono HO280.out (fun _ hk => hk.2)), (by (with_reducible repeat first|apply rA|apply rN|apply rD); exact Kd.R_mono HO283.out (fun _ hk => hk.2)), bq⟩)
 rintro ⟨v279, v282⟩ w16 ⟨h0_, h1_, h2_⟩
 have n0_ : Aside0 (Kd.R (Kd.int .i64) 3 w16 w.heap.size (fun k_ => some k_ ≠ (v282 : Value).ownBlock) v279 t278) := ⟨h0_⟩
 have n1_ : Aside0 (Kd.R (Kd.int .i64) 3 w16 w.heap.size (fun k_ => some k_ ≠ (v279 : Value).ownBlock) v282 y281) := ⟨h1_⟩
 have n2_ : Aside0 (Below w.heap.size w w16) := ⟨h2_⟩
 clear HB
 clear h0_ h1_ h2_
 have HO280 := n0_
 have HO283 := n1_
 have HB := n2_
 clear n0_ n1_ n2_
 have hHeld := trivial
 obtain ⟨Ao18, co18, eo18⟩ := Kd.R_slice HO283.out
 (first | subst eo18 | (injection eo18 with f1_ f2_ f3_; have f4_ := f1_.symm; have f5_ := f3_.symm; clear f1_ f2_ f3_; subst f4_; subst f5_))
 refine norm_ (a' := ?_) ?_ ?_
 rotate_left
 ·simp only [putAll, Act.put, List.setIfInBounds_toArray, List.set_cons_zero, List.set_cons_succ]
  rfl
 refine one_ (i := 5) (N := some 10) #[true, true, true, true, true, true, true, true, true, false, false] rfl rfl (one_of HT_.out (by kernel_rfl)) (by decide) (fun K hK => ?_)
 refine Kd.R_append_rows_step (Kd.int .i64) (w0 := w) w.heap.size (by rfl) (.tmp 8) (.tmp 9) 24 3 (.int .i64 0) 8 rfl Tryz.underlying24 info3 rfl (by decide) (by omega) v279 t278 y281 _ _ _ (fun k_ => some k_ ≠ (.slice Ao18 y281.length co18 : Value).ownBlock) (fun _ => False) rfl rfl ?aO ?aR (fun _ _ h => h) (fun _ h => h.elim) ?aF ?aB ?aS ?aL ?_
 (case aR => repeat (first | exact (Kd.R_reads' HO283.out).2.2 | (with_reducible refine Kd.C_alloc ?_ _) | (with_reducible refine Kd.C_drewN ?_ _) | (with_reducible refine Kd.C_drew ?_)))
 (case aB => exact bq)
 (case aF => exact (fun k_ hk => Kd.fresh' (Kd.R_lt (rQ HO283)) k_ hk))
 (case aO => exact (rQ HO280))
 (case aS => exact (below_size bq))
 (case aL => have := LMc6.out; omega)
 intro v285 w17 ho hb hg hat
 rw [← Ny284.out] at ho
 have n0_ := aM (Kd.R_after (ok := (fun _ => True)) (by (with_reducible repeat first|apply rA|apply rN|apply rD); exact Kd.R_mono HO283.out (fun _ hk => ⟨trivial, hk⟩)) hg hat)
 have n1_ := aM (hb)
 have n2_ := aM (ho)
 clear HO283
 clear HB
 clear HO280
 have HO283 := n0_
 have HB := n1_
 have HO286 := n2_
 clear n0_ n1_ n2_
 clear ho hb hg hat
 refine hK.out _ _ trivial (fun hHeld => ?_)
 clear hK K
 refine nA 10 (h := ?_)
 refine one_ (i := 9) (N := some 14) #[true, true, true, true, true, true, true, true, true, true, false] rfl rfl (one_of HT_.out (by kernel_rfl)) (by decide) (fun K hK => ?_)
 refine Kd.R_append_rows_step (Kd.int .i64) (w0 := w) w.heap.size (by rfl) (.tmp 10) (.tmp 13) 24 3 (.int .i64 0) 8 rfl Tryz.underlying24 info3 rfl (by decide) (by omega) v285 y284 (l0.drop (a1 : Int).toNat) _ _ _ (fun k_ => some k_ ≠ (.slice Ao18 y281.length co18 : Value).ownBlock) (fun _ => False) rfl rfl ?aO ?aR (fun _ _ h => h) (fun _ h => h.elim) ?aF ?aB ?aS ?aL ?_
 (case aR => first | (rw [← show (l0.drop (a1 : Int).toNat).length = (l0.length - a1.toNat) from List.length_drop]; repeat (first | exact (Kd.C_below HR287.out HB.out) | (with_reducible refine Kd.C_alloc ?_ _) | (with_reducible refine Kd.C_drewN ?_ _) | (with_reducible refine Kd.C_drew ?_))) | (repeat (first | exact (Kd.C_below HR287.out HB.out) | (with_reducible refine Kd.C_alloc ?_ _) | (with_reducible refine Kd.C_drewN ?_ _) | (with_reducible refine Kd.C_drew ?_))))
 (case aB => exact bq)
 (case aF => exact (fun k_ hk => Kd.fresh' (Kd.R_lt (rQ HO283)) k_ hk))
 (case aO => exact (rQ HO286))
 (case aS => exact (below_size bq))
 (case aL => have := LMc9.out; have hlx_ := (show (l0.drop (a1 : Int).toNat).length = (l0.length - a1.toNat) from List.length_drop); omega)
 intro v289 w19 ho hb hg hat
 rw [← Ny288.out] at ho
 have n0_ := aM (Kd.R_after (ok := (fun _ => True)) (rQ HO283) hg hat)
 have n1_ := aM (hb)
 have n2_ := aM (ho)
 clear HO283
 clear HB
 clear HO286
 have HO283 := n0_
 have HB := n1_
 have HO290 := n2_
 clear n0_ n1_ n2_
 clear ho hb hg hat
 refine hK.out _ _ trivial (fun hHeld => ?_)
 clear hK K
 refine nA 14 (h := ?_)
 refine pA 10 4 (h := ?_)
 refine done_ (done_of HT_.out (by kernel_rfl)) ?_
 try go_wp2
 go_ret
 exact ⟨_, eE, by (with_reducible repeat first|apply rA|apply rN|apply rD); exact Kd.R_mono HO290.out (fun _ hk => trivial), bq⟩
end Go.Proofs.YtcodionjhcmfhaaGreatDoor.Oa
