-- Written by hook.py (wip/), over the kit's print.py.
import Derived.Test.YtjmmleofnjcjoaaGreatDoorDu2
import Derived.Test.YtjmmleofnjcjoaaGreatDoorDu8
import Derived.Test.YtjmmleofnjcjoaaGreatDoorDuXSq
namespace Go.Proofs.YtjmmleofnjcjoaaGreatDoor.Du
open Go.RowKit Go.Proofs.YtjmmleofnjcjoaaGreatDoorW.PrintWords Go.Proofs.YtjmmleofnjcjoaaGreatDoorW.PrintLast Go.Proofs.YtjmmleofnjcjoaaGreatDoorW.PrintMore Go.Proofs.YtjmmleofnjcjoaaGreatDoor.Sq
attribute [local go_sem] max2_int min2_int max_two min_two max_three min_three max_four min_four
set_option linter.unusedVariables false
set_option linter.unusedSimpArgs false
set_option maxHeartbeats 8000000
set_option maxRecDepth 100000
def Y24.l0 : Nat → Int → Int → List Int → Int → Int → Option (Bool)
 | 0, _, _, _, _, _ => none
 | k + 1, x1, x2, x9, x10, x11 => if x11 < x10 then (if 0 ≤ x11 then (if x11 < (x9.length : Int) then ((Y39.f (rd x9 x11) x1 x2).bind fun t303 => (if t303 = true then (Y24.l0 k x1 x2 x9 x10 (wrap64 (x11 + 1))) else (some false))) else (none)) else (none)) else (some true)
def Y24.f (k : Nat) (l0 : List Int) (a1 : Int) (a2 : Int) : Option (Bool) := Y24.l0 k a1 a2 l0 (l0.length : Int) 0
theorem Y24.calls (k : Nat) (A0 : Option Addr) (c0 : Nat) (l0 : List Int) (a1 : Int) (a2 : Int) (r : Bool) (w : World) (hr0 : Kd.C (Kd.int .i64) w A0 l0.length l0) (hc0 : l0.length ≤ c0) (h : Y24.f k l0 a1 a2 = some r) :
  Calls Tryz.prog 102 #[.slice A0 l0.length c0, .int .i64 a1, .int .i64 a2] w fun e w' => e = .returned (.bool r) ∧ Drawn0 w w' := by
 have HR0 := aM hr0
 have HC0 := aM hc0
 clear hr0 hc0
 have H : (Y24.l0 k a1 a2 l0 (l0.length : Int) 0) = some r := h
 clear h
 have H' := aM H
 clear H
 go_enter Tryz.func102, Tryz.ntmps102
 go_wp2
 go_loopg [11] k (fun kq v11 w' => ∃ (x11_1 : Int), v11 = .int .i64 x11_1 ∧ Aside0 (Y24.l0 kq a1 a2 l0 (l0.length : Int) x11_1 = some r) ∧ Aside0 (kq ≤ k) ∧ Drawn0 w w')
 case atStart => exact ⟨(0), eR, H', ⟨Nat.le_refl _⟩, dQ⟩
 case round =>
  clear H'
  obtain ⟨x11_1, rfl, HA, HK1, ⟨m1, rfl⟩⟩ := hrel
  cases gk with
  | zero => exact absurd HA.out (by simp [Y24.l0])
  | succ k1 =>
   have H := HA.out
   clear HA
   simp only [Y24.l0] at H
   by_cases c4 : x11_1 < (l0.length : Int)
   ·rw [if_pos c4] at H
    have c4b0 := decide_eq_true c4
    clear c4
    replace H := iD2 H
    obtain ⟨c5b0, c6b0, H⟩ := H
    replace H := bS H
    obtain ⟨t303, A7, H⟩ := H
    try dsimp only at H
    by_cases c8 : t303 = true
    ·subst c8
     have H1 : (Y24.l0 k1 a1 a2 l0 (l0.length : Int) (wrap64 (x11_1 + 1))) = some r := by rw [if_pos rfl] at H; exact H
     clear H
     have H := H1
     clear H1
     have H' := aM H
     clear H
     have p302 : 0 ≤ (x11_1 : Int) := odt
     have q302 : x11_1 < (l0.length : Int) := odt
     obtain ⟨ad302, e302, hx302_0⟩ := Kd.at_int HR0.out x11_1 p302 q302
     cases e302
     replace p302 := eq_true p302
     replace q302 := eq_true q302
     go_wp2_with (first | ((with_reducible refine gate_callee (f := 101) rfl ?_); refine gL (some 18) Tryz.func101 #[.int .i64 (rd l0 x11_1), .int .i64 a1, .int .i64 a2] ?_; (with_reducible refine (Y39.calls (rd l0 x11_1) a1 a2 true _ A7.out).mono ?_); rintro e w' ⟨rfl, ⟨nd, rfl⟩⟩; refine ⟨_, rfl, ?_⟩))
     go_roundg k1
     case measure => have := HK1.out; omega
     case rel => exact ⟨(wrap64 (x11_1 + 1)), eR, H', ⟨by have := HK1.out; omega⟩, dQ⟩
    ·replace c8 := Bool.eq_false_iff.mpr c8
     subst c8
     have H1 : (some false) = some r := by rw [if_neg (show ¬ (false = true) by decide)] at H; exact H
     clear H
     have H := H1
     clear H1
     obtain rfl := Option.some.inj H
     have p302 : 0 ≤ (x11_1 : Int) := odt
     have q302 : x11_1 < (l0.length : Int) := odt
     obtain ⟨ad302, e302, hx302_0⟩ := Kd.at_int HR0.out x11_1 p302 q302
     cases e302
     replace p302 := eq_true p302
     replace q302 := eq_true q302
     go_wp2_with (first | ((with_reducible refine gate_callee (f := 101) rfl ?_); refine gL (some 18) Tryz.func101 #[.int .i64 (rd l0 x11_1), .int .i64 a1, .int .i64 a2] ?_; (with_reducible refine (Y39.calls (rd l0 x11_1) a1 a2 false _ A7.out).mono ?_); rintro e w' ⟨rfl, ⟨nd, rfl⟩⟩; refine ⟨_, rfl, ?_⟩))
     go_ret
     exact ⟨by first | rfl | (simp; done) | (simp [*]; done), dQ⟩
   ·rw [if_neg c4] at H
    have c4b0 := decide_eq_false c4
    clear c4
    obtain rfl := Option.some.inj H
    go_wp2
    go_ret
    exact ⟨by first | rfl | (simp; done) | (simp [*]; done), dQ⟩
def Y49.f (k : Nat) (a0_0 : Int) (l0_1 : List Int) : Option (Bool) := (Y39.f a0_0 0 10).bind fun t305 => (if t305 = true then (if (l0_1.length : Int) = a0_0 then (if 0 ≤ a0_0 then ((Y24.f k l0_1 0 (wrap64 ((shl .i64 1 a0_0) - 1))).bind fun t306 => (some t306)) else (none)) else (some false)) else (some false))
theorem Y49.calls (k : Nat) (a0_0 : Int) (A0_1 : Option Addr) (c0_1 : Nat) (l0_1 : List Int) (r : Bool) (w : World) (hr0_1 : Kd.C (Kd.int .i64) w A0_1 l0_1.length l0_1) (hc0_1 : l0_1.length ≤ c0_1) (h : Y49.f k a0_0 l0_1 = some r) :
  Calls Tryz.prog 50 #[.agg #[.int .i64 a0_0, .slice A0_1 l0_1.length c0_1]] w fun e w' => e = .returned (.bool r) ∧ Below w.heap.size w w' := by
 have hu26 := Tryz.underlying26
 have HR0_1 := aM hr0_1
 have HC0_1 := aM hc0_1
 clear hr0_1 hc0_1
 have HB := aM (Below.refl w.heap.size w)
 unfold Y49.f at h
 have H := h
 clear h
 replace H := bS H
 obtain ⟨t305, A2, H⟩ := H
 try dsimp only at H
 by_cases c3 : t305 = true
 ·subst c3
  have H1 : (if (l0_1.length : Int) = a0_0 then (if 0 ≤ a0_0 then ((Y24.f k l0_1 0 (wrap64 ((shl .i64 1 a0_0) - 1))).bind fun t306 => (some t306)) else (none)) else (some false)) = some r := by rw [if_pos rfl] at H; exact H
  clear H
  have H := H1
  clear H1
  by_cases c4 : (l0_1.length : Int) = a0_0
  ·rw [if_pos c4] at H
   have c4b0 : ((l0_1.length : Int) == a0_0) = true := beq_iff_eq.mpr c4
   have c4b1 : ((l0_1.length : Int) != a0_0) = false := bne_eq_false_iff_eq.mpr c4
   clear c4
   replace H := iS H
   obtain ⟨c5, H⟩ := H
   have c5b0 := eq_true c5
   have c5b1 := decide_eq_true c5
   clear c5
   obtain ⟨ji6, hji6⟩ : ∃ j_ : Int, (shl .i64 1 a0_0) = j_ := ⟨_, rfl⟩
   replace H : ((Y24.f k l0_1 0 (wrap64 ((ji6) - 1))).bind fun t306 => (some t306)) = some r := by first | (rw [hji6] at H; exact H) | (simp only [hji6] at H ⊢; exact H)
   (try rw [hji6] at A2)
   have hji6_ : (IntKind.i64.wrap (1 * 2 ^ min a0_0.toNat 64)) = ji6 := hji6
   have hji6z : a0_0 ≤ 64 → (IntKind.i64.wrap (1 * 2 ^ a0_0.toNat)) = ji6 := shl_small hji6
   have hji6u : (IntKind.i64.wrap (2 ^ min a0_0.toNat 64)) = ji6 := by have h_ := hji6_; rw [Int.one_mul] at h_; exact h_
   have hji6v : a0_0 ≤ 64 → (IntKind.i64.wrap (2 ^ a0_0.toNat)) = ji6 := fun hle_ => by have h_ := hji6z hle_; rw [Int.one_mul] at h_; exact h_
   have hji6y : (wrap64 (1 * 2 ^ min a0_0.toNat 64)) = ji6 := (i64_w _).symm.trans hji6_
   have hji6x : a0_0 ≤ 64 → (wrap64 (1 * 2 ^ a0_0.toNat)) = ji6 := fun h_ => (i64_w _).symm.trans (hji6z h_)
   replace H := bS H
   obtain ⟨t306, A7, H⟩ := H
   try dsimp only at H
   obtain rfl := Option.some.inj H
   go_enter Tryz.func50, Tryz.ntmps50
   go_wp2_with (first | ((with_reducible refine gate_dst (N := 1) rfl ?_); (try (refine gate_guard (by rfl) ?_; dsimp only)); refine bF 1 26 #[.int .i64 a0_0, .slice A0_1 l0_1.length c0_1] bq ?_; intro gb304 w8 hg hb _ _ _ _; clear HB; rename_i HB BK304 GW304 GE304; clear hb hg; have hcz9_0 := zc20 BK304; have hcz9_1 := zc21 BK304; have hfz9_0 := blk_frozen BK304.out 0; have hfz9_1 := blk_frozen BK304.out 1) | (go_at_call 101; (with_reducible refine (Y39.calls a0_0 0 10 true _ A2.out).mono ?_); rintro e w' ⟨rfl, ⟨nd, rfl⟩⟩; (try first | exact ⟨rfl, _, World.drewN_drewN _ _ _⟩ | exact ⟨rfl, _, Eq.trans (World.drewN_drewN _ _ _) (congrArg (World.drewN _) (Nat.add_assoc _ _ _))⟩)) | (go_at_call 102; (with_reducible refine (Y24.calls k _ _ l0_1 0 (wrap64 ((ji6) - 1)) t306 _ (cQ (Kd.C_below HR0_1.out bq)) HC0_1.out A7.out).mono ?_); rintro e w' ⟨rfl, ⟨nd, rfl⟩⟩; (try first | exact ⟨rfl, _, World.drewN_drewN _ _ _⟩ | exact ⟨rfl, _, Eq.trans (World.drewN_drewN _ _ _) (congrArg (World.drewN _) (Nat.add_assoc _ _ _))⟩)))
   repeat (go_quiet (first | ((with_reducible refine gate_dst (N := 1) rfl ?_); (try (refine gate_guard (by rfl) ?_; dsimp only)); refine bF 1 26 #[.int .i64 a0_0, .slice A0_1 l0_1.length c0_1] bq ?_; intro gb304 w8 hg hb _ _ _ _; clear HB; rename_i HB BK304 GW304 GE304; clear hb hg; have hcz9_0 := zc20 BK304; have hcz9_1 := zc21 BK304; have hfz9_0 := blk_frozen BK304.out 0; have hfz9_1 := blk_frozen BK304.out 1) | (go_at_call 101; (with_reducible refine (Y39.calls a0_0 0 10 true _ A2.out).mono ?_); rintro e w' ⟨rfl, ⟨nd, rfl⟩⟩; (try first | exact ⟨rfl, _, World.drewN_drewN _ _ _⟩ | exact ⟨rfl, _, Eq.trans (World.drewN_drewN _ _ _) (congrArg (World.drewN _) (Nat.add_assoc _ _ _))⟩)) | (go_at_call 102; (with_reducible refine (Y24.calls k _ _ l0_1 0 (wrap64 ((ji6) - 1)) t306 _ (cQ (Kd.C_below HR0_1.out bq)) HC0_1.out A7.out).mono ?_); rintro e w' ⟨rfl, ⟨nd, rfl⟩⟩; (try first | exact ⟨rfl, _, World.drewN_drewN _ _ _⟩ | exact ⟨rfl, _, Eq.trans (World.drewN_drewN _ _ _) (congrArg (World.drewN _) (Nat.add_assoc _ _ _))⟩))); try go_wp2_with (first | ((with_reducible refine gate_dst (N := 1) rfl ?_); (try (refine gate_guard (by rfl) ?_; dsimp only)); refine bF 1 26 #[.int .i64 a0_0, .slice A0_1 l0_1.length c0_1] bq ?_; intro gb304 w8 hg hb _ _ _ _; clear HB; rename_i HB BK304 GW304 GE304; clear hb hg; have hcz9_0 := zc20 BK304; have hcz9_1 := zc21 BK304; have hfz9_0 := blk_frozen BK304.out 0; have hfz9_1 := blk_frozen BK304.out 1) | (go_at_call 101; (with_reducible refine (Y39.calls a0_0 0 10 true _ A2.out).mono ?_); rintro e w' ⟨rfl, ⟨nd, rfl⟩⟩; (try first | exact ⟨rfl, _, World.drewN_drewN _ _ _⟩ | exact ⟨rfl, _, Eq.trans (World.drewN_drewN _ _ _) (congrArg (World.drewN _) (Nat.add_assoc _ _ _))⟩)) | (go_at_call 102; (with_reducible refine (Y24.calls k _ _ l0_1 0 (wrap64 ((ji6) - 1)) t306 _ (cQ (Kd.C_below HR0_1.out bq)) HC0_1.out A7.out).mono ?_); rintro e w' ⟨rfl, ⟨nd, rfl⟩⟩; (try first | exact ⟨rfl, _, World.drewN_drewN _ _ _⟩ | exact ⟨rfl, _, Eq.trans (World.drewN_drewN _ _ _) (congrArg (World.drewN _) (Nat.add_assoc _ _ _))⟩))))
   go_ret
   exact ⟨by first | rfl | (simp [errW_none, errW_some] <;> rfl) | (simp only [← hji6]; first | rfl | (simp [errW_none, errW_some] <;> rfl)) | (simp [*, errW_none, errW_some] <;> rfl), bq⟩
  ·rw [if_neg c4] at H
   have c4b0 : ((l0_1.length : Int) == a0_0) = false := beq_eq_false_iff_ne.mpr c4
   have c4b1 : ((l0_1.length : Int) != a0_0) = true := bne_iff_ne.mpr c4
   obtain rfl := Option.some.inj H
   go_enter Tryz.func50, Tryz.ntmps50
   go_wp2_with (first | ((with_reducible refine gate_dst (N := 1) rfl ?_); (try (refine gate_guard (by rfl) ?_; dsimp only)); refine bF 1 26 #[.int .i64 a0_0, .slice A0_1 l0_1.length c0_1] bq ?_; intro gb304 w10 hg hb _ _ _ _; clear HB; rename_i HB BK304 GW304 GE304; clear hb hg; have hcz11_0 := zc20 BK304; have hcz11_1 := zc21 BK304; have hfz11_0 := blk_frozen BK304.out 0; have hfz11_1 := blk_frozen BK304.out 1) | (go_at_call 101; (with_reducible refine (Y39.calls a0_0 0 10 true _ A2.out).mono ?_); rintro e w' ⟨rfl, ⟨nd, rfl⟩⟩; (try first | exact ⟨rfl, _, World.drewN_drewN _ _ _⟩ | exact ⟨rfl, _, Eq.trans (World.drewN_drewN _ _ _) (congrArg (World.drewN _) (Nat.add_assoc _ _ _))⟩)))
   repeat (go_quiet (first | ((with_reducible refine gate_dst (N := 1) rfl ?_); (try (refine gate_guard (by rfl) ?_; dsimp only)); refine bF 1 26 #[.int .i64 a0_0, .slice A0_1 l0_1.length c0_1] bq ?_; intro gb304 w10 hg hb _ _ _ _; clear HB; rename_i HB BK304 GW304 GE304; clear hb hg; have hcz11_0 := zc20 BK304; have hcz11_1 := zc21 BK304; have hfz11_0 := blk_frozen BK304.out 0; have hfz11_1 := blk_frozen BK304.out 1) | (go_at_call 101; (with_reducible refine (Y39.calls a0_0 0 10 true _ A2.out).mono ?_); rintro e w' ⟨rfl, ⟨nd, rfl⟩⟩; (try first | exact ⟨rfl, _, World.drewN_drewN _ _ _⟩ | exact ⟨rfl, _, Eq.trans (World.drewN_drewN _ _ _) (congrArg (World.drewN _) (Nat.add_assoc _ _ _))⟩))); try go_wp2_with (first | ((with_reducible refine gate_dst (N := 1) rfl ?_); (try (refine gate_guard (by rfl) ?_; dsimp only)); refine bF 1 26 #[.int .i64 a0_0, .slice A0_1 l0_1.length c0_1] bq ?_; intro gb304 w10 hg hb _ _ _ _; clear HB; rename_i HB BK304 GW304 GE304; clear hb hg; have hcz11_0 := zc20 BK304; have hcz11_1 := zc21 BK304; have hfz11_0 := blk_frozen BK304.out 0; have hfz11_1 := blk_frozen BK304.out 1) | (go_at_call 101; (with_reducible refine (Y39.calls a0_0 0 10 true _ A2.out).mono ?_); rintro e w' ⟨rfl, ⟨nd, rfl⟩⟩; (try first | exact ⟨rfl, _, World.drewN_drewN _ _ _⟩ | exact ⟨rfl, _, Eq.trans (World.drewN_drewN _ _ _) (congrArg (World.drewN _) (Nat.add_assoc _ _ _))⟩))))
   go_ret
   exact ⟨eE, bq⟩
 ·replace c3 := Bool.eq_false_iff.mpr c3
  subst c3
  have H1 : (some false) = some r := by rw [if_neg (show ¬ (false = true) by decide)] at H; exact H
  clear H
  have H := H1
  clear H1
  obtain rfl := Option.some.inj H
  go_enter Tryz.func50, Tryz.ntmps50
  go_wp2_with (first | ((with_reducible refine gate_dst (N := 1) rfl ?_); (try (refine gate_guard (by rfl) ?_; dsimp only)); refine bF 1 26 #[.int .i64 a0_0, .slice A0_1 l0_1.length c0_1] bq ?_; intro gb304 w12 hg hb _ _ _ _; clear HB; rename_i HB BK304 GW304 GE304; clear hb hg; have hcz13_0 := zc20 BK304; have hcz13_1 := zc21 BK304; have hfz13_0 := blk_frozen BK304.out 0; have hfz13_1 := blk_frozen BK304.out 1) | (go_at_call 101; (with_reducible refine (Y39.calls a0_0 0 10 false _ A2.out).mono ?_); rintro e w' ⟨rfl, ⟨nd, rfl⟩⟩; (try first | exact ⟨rfl, _, World.drewN_drewN _ _ _⟩ | exact ⟨rfl, _, Eq.trans (World.drewN_drewN _ _ _) (congrArg (World.drewN _) (Nat.add_assoc _ _ _))⟩)))
  repeat (go_quiet (first | ((with_reducible refine gate_dst (N := 1) rfl ?_); (try (refine gate_guard (by rfl) ?_; dsimp only)); refine bF 1 26 #[.int .i64 a0_0, .slice A0_1 l0_1.length c0_1] bq ?_; intro gb304 w12 hg hb _ _ _ _; clear HB; rename_i HB BK304 GW304 GE304; clear hb hg; have hcz13_0 := zc20 BK304; have hcz13_1 := zc21 BK304; have hfz13_0 := blk_frozen BK304.out 0; have hfz13_1 := blk_frozen BK304.out 1) | (go_at_call 101; (with_reducible refine (Y39.calls a0_0 0 10 false _ A2.out).mono ?_); rintro e w' ⟨rfl, ⟨nd, rfl⟩⟩; (try first | exact ⟨rfl, _, World.drewN_drewN _ _ _⟩ | exact ⟨rfl, _, Eq.trans (World.drewN_drewN _ _ _) (congrArg (World.drewN _) (Nat.add_assoc _ _ _))⟩))); try go_wp2_with (first | ((with_reducible refine gate_dst (N := 1) rfl ?_); (try (refine gate_guard (by rfl) ?_; dsimp only)); refine bF 1 26 #[.int .i64 a0_0, .slice A0_1 l0_1.length c0_1] bq ?_; intro gb304 w12 hg hb _ _ _ _; clear HB; rename_i HB BK304 GW304 GE304; clear hb hg; have hcz13_0 := zc20 BK304; have hcz13_1 := zc21 BK304; have hfz13_0 := blk_frozen BK304.out 0; have hfz13_1 := blk_frozen BK304.out 1) | (go_at_call 101; (with_reducible refine (Y39.calls a0_0 0 10 false _ A2.out).mono ?_); rintro e w' ⟨rfl, ⟨nd, rfl⟩⟩; (try first | exact ⟨rfl, _, World.drewN_drewN _ _ _⟩ | exact ⟨rfl, _, Eq.trans (World.drewN_drewN _ _ _) (congrArg (World.drewN _) (Nat.add_assoc _ _ _))⟩))))
  go_ret
  exact ⟨eE, bq⟩
def TabZ (w : World) : Prop := Go.Proofs.TabAt 1 Go.Lib.deBruijn64tab w
theorem TabZ.below {w w' : World} (h : TabZ w) (hb : Below w.heap.size w w') : TabZ w' := fun j hj => (hb.cell (World.block_lt_of_cell? w _ (h j hj))).trans (h j hj)
def bits_TrailingZeros64.f (a0 : Int) : Option Int := if 0 < a0 ∧ a0 < 1048576 then some (Go.Lib.ctz 64 a0.toNat : Int) else none
set_option maxHeartbeats 4000000 in
theorem bits_TrailingZeros64.core (x k idx : Nat) (w : World) (hx0 : ((x : Int) == 0) = false)
    (key : IntKind.u64.wrap (Go.bits BinOp.and IntKind.u64 (x : Int) (IntKind.u64.wrap (-(x : Int))) * 285870213051353865) / 288230376151711744 = (idx : Int))
    (hi : idx < 64) (hk : k < 64) (hcell : w.cell? ⟨1, idx, none⟩ = some (.int .u8 k)) :
    Calls Tryz.prog 212 #[.int .u64 (x : Int)] w fun e w' => e = .returned (.int .i64 (k : Int)) ∧ w' = w := by
 go_enter Tryz.func212, Tryz.ntmps212
 go_wp2_with (simp only [key])
 go_ret
 exact ⟨rfl, rfl⟩
theorem bits_TrailingZeros64.calls (a0 : Int) (r : Int) (w : World) (hV : TabZ w) (h : bits_TrailingZeros64.f a0 = some r) :
    Calls Tryz.prog 212 #[.int .u64 a0] w fun e w' => e = .returned (.int .i64 r) ∧ Drawn0 w w' := by
 unfold bits_TrailingZeros64.f at h
 by_cases c : 0 < a0 ∧ a0 < 1048576
 · {
 rw [if_pos c] at h
 obtain rfl := Option.some.inj h
 obtain ⟨x, rfl⟩ : ∃ x : Nat, a0 = (x : Int) := ⟨a0.toNat, by omega⟩
 rw [Int.toNat_natCast]
 have hx0 : x ≠ 0 := by omega
 obtain ⟨hlow, hk⟩ := Go.Lib.lowest_bit 64 x hx0 (by omega)
 obtain ⟨hi, htab⟩ := Go.Lib.deBruijn64_at _ hk
 have hcell := hV _ hi
 rw [htab] at hcell
 refine (bits_TrailingZeros64.core x _ _ w (by simp; omega) (Go.Proofs.tz64_key x _ (by omega) hx0 hlow) hi hk hcell).mono ?_
 rintro e w' ⟨rfl, rfl⟩
 exact ⟨rfl, Drawn0.refl _⟩}
 · rw [if_neg c] at h; exact absurd h (by simp)
def bits_TrailingZeros.f (a0 : Int) : Option Int := bits_TrailingZeros64.f a0
set_option maxHeartbeats 4000000 in
theorem bits_TrailingZeros.calls (a0 : Int) (r : Int) (w : World) (hV : TabZ w) (h : bits_TrailingZeros.f a0 = some r) :
    Calls Tryz.prog 166 #[.int .u64 a0] w fun e w' => e = .returned (.int .i64 r) ∧ Drawn0 w w' := by
 have h2 : bits_TrailingZeros64.f a0 = some r := h
 have HV := aM hV
 have hw : IntKind.u64.wrap a0 = a0 := by {
 unfold bits_TrailingZeros64.f at h2
 by_cases c : 0 < a0 ∧ a0 < 1048576
 · rw [IntKind.wrap_u64]; omega
 · rw [if_neg c] at h2; exact absurd h2 (by simp)}
 clear h hV
 go_enter Tryz.func166, Tryz.ntmps166
 go_wp2_with (fail)
 refine (bits_TrailingZeros64.calls a0 r _ HV.out h2).mono ?_
 rintro e w' ⟨rfl, hd⟩
 have HD := aM hd
 clear hd
 go_wp2
 go_ret
 exact ⟨rfl, HD.out⟩
theorem bits_and_i64_nat (a b : Nat) (ha : a < 4294967296) (hb : b < 4294967296) : Go.bits .and .i64 (a : Int) (b : Int) = ((a &&& b : Nat) : Int) := by
 have hx : a &&& b < 2 ^ 32 := Nat.and_lt_two_pow _ (by omega)
 have h1 : (BitVec.ofInt 64 (a : Int)).toNat = a := by rw [BitVec.ofInt_natCast, BitVec.toNat_ofNat]; exact Nat.mod_eq_of_lt (by omega)
 have h2 : (BitVec.ofInt 64 (b : Int)).toNat = b := by rw [BitVec.ofInt_natCast, BitVec.toNat_ofNat]; exact Nat.mod_eq_of_lt (by omega)
 show IntKind.i64.wrap ((BitVec.ofInt 64 (a : Int) &&& BitVec.ofInt 64 (b : Int)).toNat : Int) = _
 rw [BitVec.toNat_and, h1, h2, Go.Proofs.YtjmmleofnjcjoaaGreatDoorW.PrintLast.i64_w]
 unfold wrap64
 omega
def Y35.mem : Nat → Nat → List Int
  | 0, _ => []
  | q + 1, n => if n = 0 then [] else (Go.Lib.ctz 64 n : Int) :: Y35.mem q (n &&& (n - 1))
def Y35.f (a0 : Int) : Option (List Int) := if 0 ≤ a0 ∧ a0 < 1048576 then some (Y35.mem (a0.toNat + 1) a0.toNat) else none
open Go.Proofs.YtjmmleofnjcjoaaGreatDoor.Live in
theorem Y35.calls (a0 : Int) (r : List Int) (w : World) (hV : TabZ w) (h : Y35.f a0 = some r) :
    Calls Tryz.prog 80 #[.int .i64 a0] w fun e w' => ∃ v0_ : Value, e = .returned v0_ ∧ (Kd.int .i64).R 3 w' w.heap.size (fun _ => True) v0_ r ∧ Below w.heap.size w w' := by
 unfold Y35.f at h
 by_cases c : 0 ≤ a0 ∧ a0 < 1048576
 · {
 rw [if_pos c] at h
 obtain rfl := Option.some.inj h
 obtain ⟨n, rfl⟩ : ∃ x : Nat, a0 = (x : Int) := ⟨a0.toNat, by omega⟩
 rw [Int.toNat_natCast]
 have hn : n < 1048576 := by omega
 have HV := aM hV
 have HN := aM hn
 clear h hV c hn
 go_enter Tryz.func80, Tryz.ntmps80
 go_wp2_with (first | ((with_reducible refine gate_dst (N := 4) rfl ?_); refine Kd.R_lit (Kd.int .i64) _ 3 ?hg (N := 4) ?hd (xs := ([] : List Int)) (inner := []) (ok := fun _ => True) (okp := fun _ => True) ?hr ?hp (fun _ hk => hk) trivial (Below.refl _ _) (Nat.le_refl _) (by simp) ?_; (case hd => rfl); (case hg => rfl); (case hr => first | (go_simp; done) | (go_simp; rfl)); (case hp => exact (Reps.none _ _)); intro v10 w2 ho2 hb hg_ hnew_; clear hg_ hnew_; have H2 := aM (Live.add (o := row (Kd.int .i64) 3 v10 []) (Live.start w) hb ho2); clear hb ho2) | fail)
 go_loopg [0, 3] (n + 1) (fun kq v0 v3 w' => ∃ (q rem : Nat) (out : List Int), v0 = .int .i64 (rem : Int) ∧ Aside0 (rem < q ∧ q ≤ n + 1 ∧ kq = rem + 1 ∧ out.length + q ≤ n + 1) ∧ Aside0 (Y35.mem (n + 1) n = out ++ Y35.mem q rem) ∧ Aside0 (Live w w' [row (Kd.int .i64) 3 v3 out]))
 case atStart => exact ⟨n + 1, n, [], rfl, ⟨by omega, by omega, rfl, by simp⟩, ⟨rfl⟩, H2⟩
 case round => (
 clear H2
 obtain ⟨q, rem, out, rfl, HI, HO, H⟩ := hrel
 rename World => wq
 by_cases ci : rem = 0
 · {
 subst ci
 have d1 : (((0 : Nat) : Int) != 0) = false := rfl
 have e0 : ∀ q, Y35.mem q 0 = [] := fun q => by cases q <;> rfl
 have he := HO.out
 rw [e0, List.append_nil] at he
 have HE := aM he
 clear he e0
 go_wp2_with (fail)
 go_ret
 exact ⟨_, rfl, by rw [HE.out]; exact H.out.get 0 rfl, H.out.below⟩}
 · {
 have hI := HI.out
 have hnn := HN.out
 obtain ⟨q', rfl⟩ : ∃ q', q = q' + 1 := ⟨q - 1, by omega⟩
 have d1 : ((rem : Int) != 0) = true := by rw [bne_iff_ne]; omega
 have d2 : ((rem : Int) == 0) = false := by rw [beq_eq_false_iff_ne]; omega
 have hle : rem &&& (rem - 1) ≤ rem - 1 := Nat.and_le_right
 have hw : IntKind.u64.wrap (rem : Int) = (rem : Int) := by rw [IntKind.wrap_u64]; omega
 have hw2 : IntKind.i64.wrap ((rem : Int) - 1) = ((rem - 1 : Nat) : Int) := by rw [Go.Proofs.YtjmmleofnjcjoaaGreatDoorW.PrintLast.i64_w]; unfold wrap64; omega
 have hw3 : wrap64 ((rem : Int) - 1) = ((rem - 1 : Nat) : Int) := by unfold wrap64; omega
 have hba : Go.bits .and .i64 (rem : Int) ((rem - 1 : Nat) : Int) = ((rem &&& (rem - 1) : Nat) : Int) := bits_and_i64_nat _ _ (by omega) (by omega)
 have hT : bits_TrailingZeros.f (rem : Int) = some (Go.Lib.ctz 64 rem : Int) := by {
 show (if 0 < (rem : Int) ∧ (rem : Int) < 1048576 then some (Go.Lib.ctz 64 ((rem : Int)).toNat : Int) else none) = _
 rw [if_pos ⟨by omega, by omega⟩, Int.toNat_natCast]}
 have hnext : Y35.mem (n + 1) n = (out ++ [(Go.Lib.ctz 64 rem : Int)]) ++ Y35.mem q' (rem &&& (rem - 1)) := by rw [HO.out, Y35.mem, if_neg ci, List.append_assoc]; rfl
 have HNX := aM hnext
 have HT := aM hT
 have HI2 : Aside0 ((rem &&& (rem - 1)) < q' ∧ q' ≤ n + 1 ∧ (rem &&& (rem - 1)) + 1 = (rem &&& (rem - 1)) + 1 ∧ (out ++ [(Go.Lib.ctz 64 rem : Int)]).length + q' ≤ n + 1) := ⟨by omega, by omega, rfl, by rw [List.length_append, List.length_singleton]; omega⟩
 have HM : Aside0 ((rem &&& (rem - 1)) + 1 < rem + 1) := ⟨by omega⟩
 have HLEN : Aside0 (out.length < 1048577) := ⟨by omega⟩
 have HKQ := aM hI.2.2.1
 have HVq := aM (HV.out.below H.out.below)
 clear hI hnn hle hT hnext HI HO
 generalize hz : (Go.Lib.ctz 64 rem : Int) = z at HT HNX HI2
 generalize hm : rem &&& (rem - 1) = rm at hba HNX HI2 HM
 clear hz hm
 obtain ⟨A4, c4, rfl, _, _⟩ := H.out.form 0 rfl
 go_wp2_with (fail)
 refine (bits_TrailingZeros.calls (rem : Int) z _ HVq.out HT.out).mono ?_
 rintro e w4 ⟨rfl, hd_⟩
 have H4 := aM (H.out.drawn hd_)
 clear hd_ H
 obtain ⟨ok_, ho_, hok_, _, hback_⟩ := H4.out.lend 0 rfl
 go_wp2_with (first | ((with_reducible refine gate_builtin (b := .append) (xs := #[.tmp 11, .tmp 15]) rfl ?_); at_builtin; refine Kd.R_append (Kd.int .i64) (w0 := w) w.heap.size rfl (.tmp 11) (.tmp 15) 24 3 (.int .i64 0) 8 rfl Tryz.underlying24 (by kernel_rfl) rfl (by decide) (by omega) (.slice A4 out.length c4) out z [.int .i64 z] (fun k_ => ok_ k_ ∨ w4.heap.size ≤ k_) (fun _ => False) rfl rfl rfl (fun _ h => h.elim) (fun _ h => .inr h) (Kd.R_mono ho_ (fun _ h => .inl h)) H4.out.below H4.out.below.size (by have := HLEN.out; omega) ?_; intro v8 w8 hs_ hb_ hg_ hat_; have H8 := aM (hback_ w8 (row (Kd.int .i64) 3 v8 (out ++ [z])) hb_ (Kept.of_grown hg_ (Kept.refl _ _) (fun k_ hk_ => .inl (ho_.1 k_ hk_))) hs_); clear hs_ hb_ hg_ hat_ hback_ ho_) | fail)
 go_roundg (rm + 1)
 case measure => rw [HKQ.out]; exact HM.out
 case rel => exact ⟨q', rm, _, rfl, ⟨⟨HI2.out.1, HI2.out.2.1, rfl, HI2.out.2.2.2⟩⟩, HNX, H8⟩})}
 · rw [if_neg c] at h; exact absurd h (by simp)
def Y9.f (a0_0 : Int) (l0_1 : List Int) (a1 : Int) (a2 : Int) : Option (Bool) := if 0 ≤ a1 then (if a1 < (l0_1.length : Int) then (if 0 ≤ a2 then (some ((Go.bits .and .i64 (shr .i64 (rd l0_1 a1) a2) 1) == 1)) else (none)) else (none)) else (none)
theorem Y9.calls (a0_0 : Int) (A0_1 : Option Addr) (c0_1 : Nat) (l0_1 : List Int) (a1 : Int) (a2 : Int) (r : Bool) (w : World) (hr0_1 : Kd.C (Kd.int .i64) w A0_1 l0_1.length l0_1) (hc0_1 : l0_1.length ≤ c0_1) (h : Y9.f a0_0 l0_1 a1 a2 = some r) :
  Calls Tryz.prog 99 #[.agg #[.int .i64 a0_0, .slice A0_1 l0_1.length c0_1], .int .i64 a1, .int .i64 a2] w fun e w' => e = .returned (.bool r) ∧ Below w.heap.size w w' := by
 have hu26 := Tryz.underlying26
 have HR0_1 := aM hr0_1
 have HC0_1 := aM hc0_1
 clear hr0_1 hc0_1
 have HB := aM (Below.refl w.heap.size w)
 unfold Y9.f at h
 have H := h
 clear h
 replace H := iD2 H
 obtain ⟨c4b0, c5b0, H⟩ := H
 replace H := iS H
 obtain ⟨c6, H⟩ := H
 have c6b0 := eq_true c6
 have c6b1 := decide_eq_true c6
 clear c6
 obtain ⟨ji7, hji7⟩ : ∃ j_ : Int, (shr .i64 (rd l0_1 a1) a2) = j_ := ⟨_, rfl⟩
 replace H : (some ((Go.bits .and .i64 (ji7) 1) == 1)) = some r := by first | (rw [hji7] at H; exact H) | (simp only [hji7] at H ⊢; exact H)
 have hji7_ : ((rd l0_1 a1) / 2 ^ min a2.toNat 64) = ji7 := hji7
 have hji7z : a2 ≤ 64 → ((rd l0_1 a1) / 2 ^ a2.toNat) = ji7 := shr_small hji7
 obtain rfl := Option.some.inj H
 go_enter Tryz.func99, Tryz.ntmps99
 go_wp2_with (first | ((with_reducible refine gate_dst (N := 3) rfl ?_); refine bF 3 26 #[.int .i64 a0_0, .slice A0_1 l0_1.length c0_1] bq ?_; intro gb307 w8 hg hb _ _ _ _; clear HB; rename_i HB BK307 GW307 GE307; clear hb hg; have hcz9_0 := zc20 BK307; have hcz9_1 := zc21 BK307; have hfz9_0 := blk_frozen BK307.out 0; have hfz9_1 := blk_frozen BK307.out 1; have p308 : 0 ≤ (a1 : Int) := odt; have q308 : a1 < (l0_1.length : Int) := odt; obtain ⟨ad308, e308, hx308_0⟩ := Kd.at_int HR0_1.out a1 p308 q308; cases e308; replace hx308_0 := (HB.out.cell (World.block_lt_of_cell? w _ hx308_0)).trans hx308_0; replace p308 := eq_true p308; replace q308 := eq_true q308))
 go_ret
 exact ⟨by first | rfl | (simp [errW_none, errW_some] <;> rfl) | (simp only [← hji7]; first | rfl | (simp [errW_none, errW_some] <;> rfl)) | (simp [*, errW_none, errW_some] <;> rfl), bq⟩
mutual
def Y29.l0 : Nat → List Int → Int → Int → Int → List Int → Option (Bool)
 | 0, _, _, _, _, _ => none
 | k + 1, x11, x12, x13, x310000, x310001 => if x13 < x12 then (if 0 ≤ x13 then (if x13 < (x11.length : Int) then ((Y9.f x310000 x310001 x13 x13).bind fun t312 => (if t312 = true then (some false) else ((Y35.f (rd x11 x13)).bind fun t313 => (Y29.l1 k (rd x11 x13) x11 x12 x13 t313 (t313.length : Int) 0 x310000 x310001)))) else (none)) else (none)) else (some true)
def Y29.l1 : Nat → Int → List Int → Int → Int → List Int → Int → Int → Int → List Int → Option (Bool)
 | 0, _, _, _, _, _, _, _, _, _ => none
 | k + 1, x4, x11, x12, x13, x23, x24, x25, x310000, x310001 => if x25 < x24 then (if 0 ≤ x25 then (if x25 < (x23.length : Int) then (if 0 ≤ (rd x23 x25) then (if (rd x23 x25) < (x310001.length : Int) then (if (Go.bits .andNot .i64 (rd x310001 (rd x23 x25)) x4) = 0 then (Y29.l1 k x4 x11 x12 x13 x23 x24 (wrap64 (x25 + 1)) x310000 x310001) else (some false)) else (none)) else (none)) else (none)) else (none)) else (Y29.l0 k x11 x12 (wrap64 (x13 + 1)) x310000 x310001)
end
def Y29.f (k : Nat) (a0_0 : Int) (l0_1 : List Int) : Option (Bool) := (Y49.f k a0_0 l0_1).bind fun t310 => (if t310 = true then (Y29.l0 k l0_1 (l0_1.length : Int) 0 a0_0 l0_1) else (some false))
set_option maxHeartbeats 8000000 in
set_option maxRecDepth 100000 in
theorem Y29.calls (k : Nat) (a0_0 : Int) (A0_1 : Option Addr) (c0_1 : Nat) (l0_1 : List Int) (r : Bool) (w : World) (hV : TabZ w) (hr0_1 : Kd.C (Kd.int .i64) w A0_1 l0_1.length l0_1) (hc0_1 : l0_1.length ≤ c0_1) (h : Y29.f k a0_0 l0_1 = some r) :
  Calls Tryz.prog 31 #[.agg #[.int .i64 a0_0, .slice A0_1 l0_1.length c0_1]] w fun e w' => e = .returned (.bool r) ∧ Below w.heap.size w w' := by
 have hu26 := Tryz.underlying26
 have HR0_1 := aM hr0_1
 have HC0_1 := aM hc0_1
 clear hr0_1 hc0_1
 have HB := aM (Below.refl w.heap.size w)
 have HVV := aM hV
 clear hV
 unfold Y29.f at h
 have H := h
 clear h
 replace H := bS H
 obtain ⟨t310, A2, H⟩ := H
 try dsimp only at H
 by_cases c3 : t310 = true
 ·subst c3
  have H1 : (Y29.l0 k l0_1 (l0_1.length : Int) 0 a0_0 l0_1) = some r := by rw [if_pos rfl] at H; exact H
  clear H
  have H := H1
  clear H1
  have H' := aM H
  clear H
  go_enter Tryz.func31, Tryz.ntmps31
  go_wp2_with (first | ((with_reducible refine gate_dst (N := 1) rfl ?_); refine bF 1 26 #[.int .i64 a0_0, .slice A0_1 l0_1.length c0_1] bq ?_; intro gb309 w4 hg hb _ _ _ _; clear HB; rename_i HB BK309 GW309 GE309; clear hb hg; have hcz5_0 := zc20 BK309; have hcz5_1 := zc21 BK309; have hfz5_0 := blk_frozen BK309.out 0; have hfz5_1 := blk_frozen BK309.out 1) | ((with_reducible refine gate_callee (f := 50) rfl ?_); refine gL (some 8) Tryz.func50 #[.agg #[.int .i64 a0_0, .slice A0_1 l0_1.length c0_1]] ?_; (with_reducible refine (Y49.calls k a0_0 _ _ l0_1 true _ (cQ (Kd.C_below HR0_1.out HB.out)) HC0_1.out A2.out).mono ?_); rintro e w6 ⟨rfl, hb⟩; refine ⟨_, rfl, ?_⟩; have _ := bK BK309 hb; have _ := bB hb; clear BK309 HB; rename_i BK309 HB; (try clear hb); have hcz7_0 := zc20 BK309; have hcz7_1 := zc21 BK309; have hfz7_0 := blk_frozen BK309.out 0; have hfz7_1 := blk_frozen BK309.out 1))
  go_loopg [13] k (fun kq v13 w' => ∃ (x13_1 : Int), v13 = .int .i64 x13_1 ∧ Aside0 (Y29.l0 kq l0_1 (l0_1.length : Int) x13_1 a0_0 l0_1 = some r) ∧ Aside0 (kq ≤ k) ∧ Aside0 (w'.heap[gb309]? = some (.cells #[.int .i64 a0_0, (.slice A0_1 l0_1.length c0_1)] 26 (0, 0))) ∧ Aside0 (Below w.heap.size w w'))
  case atStart => exact ⟨(0), eR, H', ⟨Nat.le_refl _⟩, ⟨qQ BK309⟩, ⟨bq⟩⟩
  case round =>
   clear H'
   try clear c3
   try clear hcz5_0
   try clear hcz5_1
   try clear hcz7_0
   try clear hcz7_1
   try clear hfz5_0
   try clear hfz5_1
   try clear hfz7_0
   try clear hfz7_1
   obtain ⟨x13_1, rfl, HA, HK1, BK309, HB⟩ := hrel
   cases gk with
   | zero => exact absurd HA.out (by simp [Y29.l0])
   | succ k1 =>
    have H := HA.out
    clear HA
    simp only [Y29.l0] at H
    by_cases c8 : x13_1 < (l0_1.length : Int)
    ·rw [if_pos c8] at H
     have c8b0 := decide_eq_true c8
     clear c8
     replace H := iD2 H
     obtain ⟨c9b0, c10b0, H⟩ := H
     replace H := bS H
     obtain ⟨t312, A11, H⟩ := H
     try dsimp only at H
     by_cases c12 : t312 = true
     ·subst c12
      have H1 : (some false) = some r := by rw [if_pos rfl] at H; exact H
      clear H
      have H := H1
      clear H1
      obtain rfl := Option.some.inj H
      have p311 : 0 ≤ (x13_1 : Int) := odt
      have q311 : x13_1 < (l0_1.length : Int) := odt
      obtain ⟨ad311, e311, hx311_0⟩ := Kd.at_int HR0_1.out x13_1 p311 q311
      cases e311
      replace hx311_0 := (HB.out.cell (World.block_lt_of_cell? w _ hx311_0)).trans hx311_0
      replace p311 := eq_true p311
      replace q311 := eq_true q311
      have hcz13_0 := zc20 BK309
      have hcz13_1 := zc21 BK309
      have hfz13_0 := blk_frozen BK309.out 0
      have hfz13_1 := blk_frozen BK309.out 1
      go_wp2_with (first | ((with_reducible refine gate_callee (f := 99) rfl ?_); refine gL (some 21) Tryz.func99 #[.agg #[.int .i64 a0_0, .slice (some ad311) l0_1.length c0_1], .int .i64 x13_1, .int .i64 x13_1] ?_; (with_reducible refine (Y9.calls a0_0 _ _ l0_1 x13_1 x13_1 true _ (cQ (Kd.C_below HR0_1.out HB.out)) HC0_1.out A11.out).mono ?_); rintro e w14 ⟨rfl, hb⟩; refine ⟨_, rfl, ?_⟩; have _ := bK BK309 hb; have _ := bB hb; clear BK309 HB; rename_i BK309 HB; (try clear hb)))
      go_ret
      exact ⟨eE, bq⟩
     ·replace c12 := Bool.eq_false_iff.mpr c12
      subst c12
      have H1 : ((Y35.f (rd l0_1 x13_1)).bind fun t313 => (Y29.l1 k1 (rd l0_1 x13_1) l0_1 (l0_1.length : Int) x13_1 t313 (t313.length : Int) 0 a0_0 l0_1)) = some r := by rw [if_neg (show ¬ (false = true) by decide)] at H; exact H
      clear H
      have H := H1
      clear H1
      replace H := bS H
      obtain ⟨t313, A15, H⟩ := H
      try dsimp only at H
      have H' := aM H
      clear H
      have p311 : 0 ≤ (x13_1 : Int) := odt
      have q311 : x13_1 < (l0_1.length : Int) := odt
      obtain ⟨ad311, e311, hx311_0⟩ := Kd.at_int HR0_1.out x13_1 p311 q311
      cases e311
      replace hx311_0 := (HB.out.cell (World.block_lt_of_cell? w _ hx311_0)).trans hx311_0
      replace p311 := eq_true p311
      replace q311 := eq_true q311
      have hcz16_0 := zc20 BK309
      have hcz16_1 := zc21 BK309
      have hfz16_0 := blk_frozen BK309.out 0
      have hfz16_1 := blk_frozen BK309.out 1
      go_wp2_with (first | ((with_reducible refine gate_callee (f := 99) rfl ?_); refine gL (some 21) Tryz.func99 #[.agg #[.int .i64 a0_0, .slice (some ad311) l0_1.length c0_1], .int .i64 x13_1, .int .i64 x13_1] ?_; (with_reducible refine (Y9.calls a0_0 _ _ l0_1 x13_1 x13_1 false _ (cQ (Kd.C_below HR0_1.out HB.out)) HC0_1.out A11.out).mono ?_); rintro e w17 ⟨rfl, hb⟩; refine ⟨_, rfl, ?_⟩; have _ := bK BK309 hb; have _ := bB hb; clear BK309 HB; rename_i BK309 HB; (try clear hb)) | ((with_reducible refine gate_callee (f := 80) rfl ?_); refine gL (some 23) Tryz.func80 #[.int .i64 (rd l0_1 x13_1)] ?_; (with_reducible refine (Y35.calls (rd l0_1 x13_1) t313 _ (HVV.out.below bq) A15.out).mono ?_); rintro e w18 ⟨v314, rfl, ho0, hb⟩; refine ⟨_, rfl, ?_⟩; have _ := aM (Kd.R_lower ho0 (below_size bq)); have _ := bK BK309 hb; have _ := bB hb; clear BK309 HB; rename_i HO315 BK309 HB; (try clear hb); (try clear ho0); obtain ⟨Ao19, co19, eo19⟩ := Kd.R_slice HO315.out; subst eo19))
      go_loopg [25] k1 (fun kq v25 w' => ∃ (x25_2 : Int), v25 = .int .i64 x25_2 ∧ Aside0 (Y29.l1 kq (rd l0_1 x13_1) l0_1 (l0_1.length : Int) x13_1 t313 (t313.length : Int) x25_2 a0_0 l0_1 = some r) ∧ Aside0 (kq ≤ k1) ∧ Aside0 (Kd.R (Kd.int .i64) 3 w' w.heap.size (fun _ => True) (.slice Ao19 t313.length co19) t313) ∧ Aside0 (w'.heap[gb309]? = some (.cells #[.int .i64 a0_0, (.slice (some ad311) l0_1.length c0_1)] 26 (0, 0))) ∧ Aside0 (Below w.heap.size w w'))
      case atStart => exact ⟨(0), eR, H', ⟨Nat.le_refl _⟩, ⟨rQ HO315⟩, ⟨qQ BK309⟩, ⟨bq⟩⟩
      case round =>
       clear H'
       try clear c3
       try clear c8
       try clear c8b0
       try clear c9b0
       try clear c10b0
       try clear c12
       try clear hcz13_0
       try clear hcz13_1
       try clear hcz16_0
       try clear hcz16_1
       try clear hcz5_0
       try clear hcz5_1
       try clear hcz7_0
       try clear hcz7_1
       try clear hfz13_0
       try clear hfz13_1
       try clear hfz16_0
       try clear hfz16_1
       try clear hfz5_0
       try clear hfz5_1
       try clear hfz7_0
       try clear hfz7_1
       try clear hx311_0
       try clear p311
       try clear q311
       obtain ⟨x25_2, rfl, HA, HK2, HO_23, BK309, HB⟩ := hrel
       cases gk with
       | zero => exact absurd HA.out (by simp [Y29.l1])
       | succ k2 =>
        have H := HA.out
        clear HA
        simp only [Y29.l1] at H
        by_cases c20 : x25_2 < (t313.length : Int)
        ·rw [if_pos c20] at H
         have c20b0 := decide_eq_true c20
         clear c20
         replace H := iD4 H
         obtain ⟨c21b0, c22b0, c23b0, c24b0, H⟩ := H
         by_cases c25 : (Go.bits .andNot .i64 (rd l0_1 (rd t313 x25_2)) (rd l0_1 x13_1)) = 0
         ·rw [if_pos c25] at H
          have c25b0 : ((Go.bits .andNot .i64 (rd l0_1 (rd t313 x25_2)) (rd l0_1 x13_1)) == 0) = true := beq_iff_eq.mpr c25
          have c25b1 : ((Go.bits .andNot .i64 (rd l0_1 (rd t313 x25_2)) (rd l0_1 x13_1)) != 0) = false := bne_eq_false_iff_eq.mpr c25
          clear c25
          have H' := aM H
          clear H
          have p316 : 0 ≤ (x25_2 : Int) := odt
          have q316 : x25_2 < (t313.length : Int) := odt
          obtain ⟨ad316, e316, hx316_0⟩ := Kd.at_int (Kd.R_reads' HO_23.out).2.2 x25_2 p316 q316
          cases e316
          replace p316 := eq_true p316
          replace q316 := eq_true q316
          have hcz26_0 := zc20 BK309
          have hcz26_1 := zc21 BK309
          have hfz26_0 := blk_frozen BK309.out 0
          have hfz26_1 := blk_frozen BK309.out 1
          have p317 : 0 ≤ ((rd t313 x25_2) : Int) := odt
          have q317 : (rd t313 x25_2) < (l0_1.length : Int) := odt
          obtain ⟨ad317, e317, hx317_0⟩ := Kd.at_int HR0_1.out (rd t313 x25_2) p317 q317
          obtain rfl : ad311 = ad317 := (by injection e317)
          replace hx317_0 := (HB.out.cell (World.block_lt_of_cell? w _ hx317_0)).trans hx317_0
          replace p317 := eq_true p317
          replace q317 := eq_true q317
          go_wp2
          go_roundg k2
          case measure => have := HK1.out; have := HK2.out; omega
          case rel => exact ⟨(wrap64 (x25_2 + 1)), eR, H', ⟨by have := HK1.out; have := HK2.out; omega⟩, ⟨rQ HO_23⟩, ⟨qQ BK309⟩, ⟨bq⟩⟩
         ·rw [if_neg c25] at H
          have c25b0 : ((Go.bits .andNot .i64 (rd l0_1 (rd t313 x25_2)) (rd l0_1 x13_1)) == 0) = false := beq_eq_false_iff_ne.mpr c25
          have c25b1 : ((Go.bits .andNot .i64 (rd l0_1 (rd t313 x25_2)) (rd l0_1 x13_1)) != 0) = true := bne_iff_ne.mpr c25
          obtain rfl := Option.some.inj H
          have p316 : 0 ≤ (x25_2 : Int) := odt
          have q316 : x25_2 < (t313.length : Int) := odt
          obtain ⟨ad316, e316, hx316_0⟩ := Kd.at_int (Kd.R_reads' HO_23.out).2.2 x25_2 p316 q316
          cases e316
          replace p316 := eq_true p316
          replace q316 := eq_true q316
          have hcz27_0 := zc20 BK309
          have hcz27_1 := zc21 BK309
          have hfz27_0 := blk_frozen BK309.out 0
          have hfz27_1 := blk_frozen BK309.out 1
          have p317 : 0 ≤ ((rd t313 x25_2) : Int) := odt
          have q317 : (rd t313 x25_2) < (l0_1.length : Int) := odt
          obtain ⟨ad317, e317, hx317_0⟩ := Kd.at_int HR0_1.out (rd t313 x25_2) p317 q317
          obtain rfl : ad311 = ad317 := (by injection e317)
          replace hx317_0 := (HB.out.cell (World.block_lt_of_cell? w _ hx317_0)).trans hx317_0
          replace p317 := eq_true p317
          replace q317 := eq_true q317
          go_wp2
          go_ret
          exact ⟨eE, bq⟩
        ·rw [if_neg c20] at H
         have c20b0 := decide_eq_false c20
         clear c20
         have H' := aM H
         clear H
         go_wp2
         go_roundg k2
         case measure => have := HK1.out; have := HK2.out; omega
         case rel => exact ⟨(wrap64 (x13_1 + 1)), eR, H', ⟨by have := HK1.out; have := HK2.out; omega⟩, ⟨qQ BK309⟩, ⟨bq⟩⟩
    ·rw [if_neg c8] at H
     have c8b0 := decide_eq_false c8
     clear c8
     obtain rfl := Option.some.inj H
     go_wp2
     go_ret
     exact ⟨eE, bq⟩
 ·replace c3 := Bool.eq_false_iff.mpr c3
  subst c3
  have H1 : (some false) = some r := by rw [if_neg (show ¬ (false = true) by decide)] at H; exact H
  clear H
  have H := H1
  clear H1
  obtain rfl := Option.some.inj H
  go_enter Tryz.func31, Tryz.ntmps31
  go_wp2_with (first | ((with_reducible refine gate_dst (N := 1) rfl ?_); refine bF 1 26 #[.int .i64 a0_0, .slice A0_1 l0_1.length c0_1] bq ?_; intro gb309 w28 hg hb _ _ _ _; clear HB; rename_i HB BK309 GW309 GE309; clear hb hg; have hcz29_0 := zc20 BK309; have hcz29_1 := zc21 BK309; have hfz29_0 := blk_frozen BK309.out 0; have hfz29_1 := blk_frozen BK309.out 1) | ((with_reducible refine gate_callee (f := 50) rfl ?_); refine gL (some 8) Tryz.func50 #[.agg #[.int .i64 a0_0, .slice A0_1 l0_1.length c0_1]] ?_; (with_reducible refine (Y49.calls k a0_0 _ _ l0_1 false _ (cQ (Kd.C_below HR0_1.out HB.out)) HC0_1.out A2.out).mono ?_); rintro e w30 ⟨rfl, hb⟩; refine ⟨_, rfl, ?_⟩; have _ := bK BK309 hb; have _ := bB hb; clear BK309 HB; rename_i BK309 HB; (try clear hb)))
  go_ret
  exact ⟨eE, bq⟩
end Go.Proofs.YtjmmleofnjcjoaaGreatDoor.Du
