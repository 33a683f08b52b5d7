/- The closure that counts flat matrices: a memo in a variable that it captures, itself in another. -/
import Derived.Test.YtacdlipojhoilaaYxXMemo
import Derived.Deep.RegionHeld3
import Derived.Deep.DeepCutAuto
import Derived.Laws.EntriesVeiled
namespace Go.Proofs.Ytacdlipojhoilaa.Memo
set_option linter.unusedVariables false
set_option linter.unusedSimpArgs false
open Go.RowKit Go.Proofs.YtacdlipojhoilaaW.PrintWords Go.Proofs.YtacdlipojhoilaaW.PrintLast Go.Proofs.YtacdlipojhoilaaW.PrintMore Go.Maps
attribute [local go_sem] max2_int min2_int max_two min_two max_three min_three max_four min_four
open Go.Proofs.Ytacdlipojhoilaa.Live
def fl (P : Prop) [Decidable P] (x : Int) : Int := if P then 0 else x
def Fl : Nat → Int → Int → Int
  | 0 => fun _ _ => 1
  | m + 1 => fun l a => psum (fun k => fl ((k : Int) = l) (Fl m (k : Int) (nxt l a k))) (top l a + 1).toNat
def Fl' (m l a : Int) : Int := Fl m.toNat l a
theorem fl_le {P : Prop} [Decidable P] {x B : Int} (h : 0 ≤ x ∧ x ≤ B) : 0 ≤ fl P x ∧ fl P x ≤ B := by
 unfold fl; split <;> omega
theorem Fl_le : ∀ (m : Nat) (l a : Int), 0 ≤ a → a + m ≤ 24 → 0 ≤ Fl m l a ∧ Fl m l a ≤ 30 ^ m
  | 0, l, a, _, _ => by simp [Fl]
  | m + 1, l, a, ha, hm => by
    have ht := top_le l a ha
    have h1 := psum_le (fun k => fl ((k : Int) = l) (Fl m (k : Int) (nxt l a k))) (30 ^ m) (top l a + 1).toNat (fun k hk => fl_le (Fl_le m _ _ (by have := nxt_le l a k; omega) (by have := nxt_le l a k; omega)))
    refine ⟨h1.1, Int.le_trans h1.2 ?_⟩
    have h2 : (((top l a + 1).toNat : Nat) : Int) ≤ 30 := by omega
    rw [Int.pow_succ, Int.mul_comm]
    exact Int.mul_le_mul_of_nonneg_left h2 (Int.pow_nonneg (by omega))
def clo (g1 g2 : Nat) : Value := .func (.func 122) #[] #[.pointer (some ⟨g1, 0, none⟩), .pointer (some ⟨g2, 0, none⟩)]
theorem grown_drew {w w1 w2 : World} {b : Option Nat} {q : Nat} (h : w.grownBy w1 b) (h2 : (w1.drewN q).grownBy w2 b) : w.grownBy w2 b := by
 have h3 : w.grownBy (w1.drewN q) b := ⟨h.os, h.tape, h.output, h.size, h.block⟩
 exact h3.trans h2
theorem not_map {w : World} {g b n t : Nat} {cs : Array Value} {D : DataW Nat} (h : w.heap[g]? = some (.cells cs t (0, 0))) (ho : w.ownsMap Try.prog 104 (plainElem Try.prog 3) b n D) : g ≠ b := by
 rintro rfl
 obtain ⟨es, clock, hb, r⟩ := ho
 rw [h] at hb
 cases hb
set_option maxHeartbeats 8000000 in
set_option maxRecDepth 100000 in
theorem flat_calls : ∀ (m : Nat) (l a : Int) (w : World) (g1 g2 b n : Nat) (D : DataW Nat), -1 ≤ l → l ≤ 100 → 0 ≤ a → a + m ≤ 24 → w.heap[g1]? = some (.cells #[.map (some b)] 101 (0, 0)) → w.heap[g2]? = some (.cells #[clo g1 g2] 102 (0, 0)) → w.ownsMap Try.prog 104 (plainElem Try.prog 3) b n D → Says Fl' D → n + 30 ^ m ≤ 4611686018427387904 →
    Calls Try.prog 122 #[.int .i64 (m : Int), .int .i64 l, .int .i64 a, .pointer (some ⟨g1, 0, none⟩), .pointer (some ⟨g2, 0, none⟩)] w fun e w' => e = .returned (.int .i64 (Fl m l a)) ∧ ∃ n' D', w'.ownsMap Try.prog 104 (plainElem Try.prog 3) b n' D' ∧ Says Fl' D' ∧ n' ≤ n + 30 ^ m ∧ w.grownBy w' (some b)
  | 0, l, a, w, g1, g2, b, n, D, hl, hl2, ha, hm, hx1, hx2, ho, hs, hn => by
    go_enter Try.func122, Try.ntmps122
    go_wp2
    go_ret
    exact ⟨rfl, n, D, ho, hs, by omega, World.grownBy.refl _ _⟩
  | m + 1, l, a, w, g1, g2, b, n, D, hl, hl2, ha, hm, hx1, hx2, ho, hs, hn => by
    obtain ⟨M, hM⟩ : ∃ M : Int, M = ((m + 1 : Nat) : Int) := ⟨_, rfl⟩
    rw [← hM]
    have c0 : decide (M = 0) = false := decide_eq_false (by omega)
    have c0b : (M == 0) = false := by rw [beq_eq_false_iff_ne]; omega
    obtain ⟨kl, hk⟩ := key_ok M l a (lit_ok _ (by omega) (by omega)) (lit_ok _ (by omega) (by omega)) (lit_ok _ (by omega) (by omega))
    have HM := Aside0.mk hM; clear hM
    have HC := Aside0.mk hm; clear hm
    have HN1 := Aside0.mk (not_map hx1 ho)
    have HN2' := Aside0.mk (not_map hx2 ho)
    have HX1 := Aside0.mk hx1
    have HX2 := Aside0.mk hx2
    have q1 : w.cell? ⟨g1, 0, none⟩ = some (.map (some b)) := (blk_cell hx1 0).trans rfl
    have q1a : ∀ o, (w.alloc o).cell? ⟨g1, 0, none⟩ = some (.map (some b)) := fun o => (blk_cell (blk_alloc hx1 o) 0).trans rfl
    clear hx1 hx2
    go_enter Try.func122, Try.ntmps122
    have hc := ho.alloc (.cells #[.int .i64 M, .int .i64 l, .int .i64 a] 104)
    have hgk : w.heap.size ≠ b := Nat.ne_of_gt ho.lt
    have ht := top_le l a ha
    obtain ⟨T, hT⟩ : ∃ T : Nat, top l a + 1 = (T : Int) := ⟨(top l a + 1).toNat, by omega⟩
    have hT30 : T ≤ 29 := by have := HC.out; omega
    have eW : Fl (m + 1) l a = psum (fun k => fl ((k : Int) = l) (Fl m (k : Int) (nxt l a k))) T := by
      show psum _ (top l a + 1).toNat = _
      rw [hT, Int.toNat_natCast]
    have fW : Fl' M l a = Fl (m + 1) l a := by unfold Fl'; rw [HM.out, Int.toNat_natCast]
    have HT := Aside0.mk hT; have HT3 := Aside0.mk hT30; have EW := Aside0.mk eW; have FW := Aside0.mk fW; have HG := Aside0.mk hgk; have H0 := Aside0.mk ho
    have HHT := Aside0.mk ht
    clear hT hT30 eW fW hgk ho ht
    go_wp2_with (first | (at_lookup; refine wpList_lookup_own_ok_int _ rfl _ _ 101 rfl 104 3 .i64 law u59 u3 (zero3 _) b n D rfl hc _ _ rfl hk ?_; intro c hat hwc) | fail)
    · rename_i hh
      have hyes : has D kl = true := by simpa using hh
      have hcc : c = Fl (m + 1) l a := (says_get hs (by exact hk) hyes hat).trans FW.out
      clear hh
      go_ret
      exact ⟨by rw [hcc]; rfl, n, D, hc, hs, Nat.le_add_right _ _, World.grownBy_alloc _ _ _⟩
    · refine (most_calls b l a _ ha (by have := HC.out; omega)).mono ?_
      rintro e w1 ⟨rfl, ⟨q, rfl⟩⟩
      have hc1 := Aside0.mk (show World.ownsMap (((w.alloc (.cells #[.int .i64 M, .int .i64 l, .int .i64 a] 104))).drewN q) Try.prog 104 (plainElem Try.prog 3) b n D from hc)
      have hb1 := Aside0.mk (show (((w.alloc (.cells #[.int .i64 M, .int .i64 l, .int .i64 a] 104))).drewN q).heap[w.heap.size]? = some (.cells #[.int .i64 M, .int .i64 l, .int .i64 a] 104 (0, 0)) from blk_new w _)
      have hg1 := Aside0.mk (show w.grownBy ((w.alloc (.cells #[.int .i64 M, .int .i64 l, .int .i64 a] 104)).drewN q) (some b) from ⟨rfl, rfl, rfl, (World.grownBy_alloc w _ none).size, (World.grownBy_alloc w _ _).block⟩)
      clear hc q1 q1a
      have HS := Aside0.mk hs; clear hs
      have HN := Aside0.mk hn; clear hn
      have eT : wrap64 (top l a + 1) = (T : Int) := by rw [HT.out]; exact w64 _ (by have := HT3.out; omega)
      obtain ⟨F, hF⟩ : ∃ F : Nat → Int, F = fun k : Nat => fl ((k : Int) = l) (Fl m (k : Int) (nxt l a k)) := ⟨_, rfl⟩
      have HF := Aside0.mk hF
      rw [← hF] at EW
      clear hF
      have HP := Aside0.mk (show 1 ≤ 30 ^ m from Nat.one_le_pow _ _ (by omega))
      have HN2 := Aside0.mk (show n + 30 * 30 ^ m ≤ 4611686018427387904 by have := HN.out; rwa [Nat.pow_succ, Nat.mul_comm] at this)
      have HA := Aside0.mk ha
      have HL := Aside0.mk (And.intro hl hl2)
      have e1m : wrap64 (M - 1) = (m : Int) := by rw [HM.out, w64 _ (by have := HC.out; omega)]; omega
      go_wp2_with (fail)
      rw [eT]
      go_loopg [12, 33] (T + 1) (fun kq v12 v33 w' => ∃ i : Nat, v12 = .int .i64 (psum F i) ∧ v33 = .int .i64 (i : Int) ∧ Aside0 (i ≤ T ∧ kq = T - i + 1) ∧ ∃ (n1 : Nat) (D1 : DataW Nat), Aside0 (w'.ownsMap Try.prog 104 (plainElem Try.prog 3) b n1 D1) ∧ Aside0 (Says Fl' D1 ∧ n1 ≤ n + i * 30 ^ m) ∧ Aside0 (w.grownBy w' (some b)) ∧ Aside0 (w'.heap[w.heap.size]? = some (.cells #[.int .i64 M, .int .i64 l, .int .i64 a] 104 (0, 0))))
      case atStart => exact ⟨0, rfl, rfl, ⟨Nat.zero_le _, rfl⟩, n, D, hc1, ⟨HS.out, by omega⟩, hg1, hb1⟩
      case round =>
        clear hc1 hb1 hg1 eT
        obtain ⟨i, rfl, rfl, HI, n1, D1, HO, HSN, HGR, HB⟩ := hrel
        have K1 := Aside0.mk ((HGR.out.block g1 (blk_lt HX1.out) (by intro h; exact HN1.out (Option.some.inj h))).trans HX1.out)
        have K2 := Aside0.mk ((HGR.out.block g2 (blk_lt HX2.out) (by intro h; exact HN2'.out (Option.some.inj h))).trans HX2.out)
        rename World => wq
        have hle := psum_le F (30 ^ m) (i + 1) (fun k hk => by rw [HF.out]; exact fl_le (Fl_le m _ _ (by have := nxt_le l a k; have := HA.out; omega) (by have := nxt_le l a k; have := HC.out; omega)))
        have HLE := Aside0.mk hle
        clear hle
        by_cases ci : i < T
        · have c1 : decide ((i : Int) < (T : Int)) = true := decide_eq_true (by omega)
          have c2 : decide (i < T) = true := decide_eq_true ci
          have hnx := nxt_le l a (i : Int)
          have HX := Aside0.mk hnx
          clear hnx
          by_cases cl : (i : Int) = l
          · have d1 : ((i : Int) == l) = true := by rw [cl]; simp
            have d2 : decide ((i : Int) = l) = true := decide_eq_true cl
            have e0 : F i = 0 := by rw [HF.out]; exact if_pos cl
            have e1 : psum F (i + 1) = psum F i := by show psum F i + F i = _; rw [e0]; omega
            have E1 := Aside0.mk e1
            have CL := Aside0.mk cl
            clear e0 e1 cl
            go_wp2_with (fail)
            go_roundg (T - i)
            case measure => have := HI.out; omega
            case rel => exact ⟨i + 1, by rw [E1.out], congrArg (Value.int .i64) (by rw [w64 _ (by have := HT3.out; omega)]; omega), ⟨by omega, by omega⟩, n1, D1, HO, ⟨HSN.out.1, Nat.le_trans HSN.out.2 (by rw [Nat.add_mul]; omega)⟩, HGR, HB⟩
          · have d1 : ((i : Int) == l) = false := by rw [beq_eq_false_iff_ne]; exact cl
            have d2 : decide ((i : Int) = l) = false := decide_eq_false cl
            have CL := Aside0.mk cl
            clear cl
            go_wp2_with (fail)
            have hmul : i * 30 ^ m ≤ 28 * 30 ^ m := Nat.mul_le_mul_right _ (by have := HT3.out; omega)
            have HMUL := Aside0.mk hmul
            have e1n : IntKind.i64.wrap (M - 1) = (m : Int) := (i64_w _).trans e1m
            clear hmul
            go_region_held3 (fun w' => w'.cell? ⟨g2, 0, none⟩ = some (.func (.func 122) #[] #[.pointer (some ⟨g1, 0, none⟩), .pointer (some ⟨g2, 0, none⟩)])) (first | exact (blk_cell K2.out 0).trans rfl | exact (blk_cell K3.out 0).trans rfl) (first | (go_at_call 124; refine (next_calls l a (i : Int) _ HA.out ?n1).mono ?_; (case n1 => have := HC.out; omega); rintro e w2 ⟨rfl, ⟨q2, rfl⟩⟩) | (go_at_call 122; refine (flat_calls m (i : Int) (nxt l a (i : Int)) _ g1 g2 b n1 D1 ?f1 ?f2 ?f3 ?f4 ?f5 ?f6 ?f7 HSN.out.1 ?f8).mono ?_; (case f1 => omega); (case f2 => have := HT3.out; omega); (case f3 => have := HX.out; have := HA.out; omega); (case f4 => have := HX.out; have := HC.out; omega); (case f5 => exact K1.out); (case f6 => exact K2.out); (case f7 => exact HO.out); (case f8 => have := HMUL.out; have := HSN.out.2; have := HN2.out; omega); rintro e w3 ⟨rfl, n2, D2, ho3, hs3, hn3, hg3⟩; have K3 := Aside0.mk ((hg3.block g2 (blk_lt K2.out) (fun h => HN2'.out (Option.some.inj h))).trans K2.out); have KB := Aside0.mk ((hg3.block w.heap.size (blk_lt HB.out) (fun h => HG.out (Option.some.inj h))).trans HB.out); have HGR3 := Aside0.mk (grown_drew HGR.out hg3); have HO3 := Aside0.mk ho3; have HS3 := Aside0.mk (And.intro hs3 hn3); clear ho3 hs3 hn3 hg3))
            have eS : psum F (i + 1) = psum F i + Fl m (i : Int) (nxt l a (i : Int)) := by
              show psum F i + F i = _
              rw [HF.out]
              show psum _ i + fl ((i : Int) = l) _ = _
              rw [fl, if_neg CL.out]
            have eB : wrap64 (psum F i + Fl m (i : Int) (nxt l a (i : Int))) = psum F (i + 1) := by
              rw [← eS]
              refine w64 _ ⟨by have := HLE.out; omega, ?_⟩
              have h2 : ((i + 1 : Nat) : Int) * 30 ^ m ≤ 29 * 30 ^ m := Int.mul_le_mul_of_nonneg_right (by have := HT3.out; omega) (Int.pow_nonneg (by omega))
              have h3 : ((30 ^ m : Nat) : Int) = 30 ^ m := by simp
              have := HN2.out
              have := HLE.out
              omega
            have EB := Aside0.mk eB
            have EB2 := Aside0.mk ((i64_w _).trans eB)
            have HS4 := Aside0.mk (And.intro HS3.out.1 (show n2 ≤ n + (i + 1) * 30 ^ m by rw [Nat.add_mul]; have := HSN.out.2; have := HS3.out.2; omega))
            clear eS eB
            go_wp2_with (fail)
            go_roundg (T - i)
            case measure => have := HI.out; omega
            case rel => exact ⟨i + 1, by first | rw [EB.out] | rw [EB2.out], congrArg (Value.int .i64) (by rw [w64 _ (by have := HT3.out; omega)]; omega), ⟨by omega, by omega⟩, n2, D2, HO3, HS4, HGR3, KB⟩
        · have c1 : decide ((i : Int) < (T : Int)) = false := decide_eq_false (by omega)
          have c2 : decide (i < T) = false := decide_eq_false ci
          obtain rfl : i = T := by have := HI.out; omega
          have x0 : World.cell? _ ⟨w.heap.size, 0, none⟩ = some (.int .i64 M) := (blk_cell HB.out 0).trans rfl
          have x1 : World.cell? _ ⟨w.heap.size, 1, none⟩ = some (.int .i64 l) := (blk_cell HB.out 1).trans rfl
          have x2 : World.cell? _ ⟨w.heap.size, 2, none⟩ = some (.int .i64 a) := (blk_cell HB.out 2).trans rfl
          have x3 : World.cell? _ ⟨g1, 0, none⟩ = some (.map (some b)) := (blk_cell K1.out 0).trans rfl
          have hb := HB.out
          have hlt : n1 < maxLen := Nat.lt_of_lt_of_le (m := 4611686018427387905) (by have := HSN.out.2; have := HN2.out; have hmul : i * 30 ^ m ≤ 29 * 30 ^ m := Nat.mul_le_mul_right _ HT3.out; omega) (by decide)
          have HLT := Aside0.mk hlt
          clear hlt
          have hfin : psum F i = Fl' M l a := by rw [FW.out, EW.out]
          have hwf : (Lit.int .i64 (psum F i)).wf = true := by
            rw [EW.out.symm]
            have := Fl_le (m + 1) l a HA.out (by have := HC.out; omega)
            have h3 : ((30 ^ m : Nat) : Int) = 30 ^ m := by simp
            rw [Int.pow_succ] at this
            have := HN2.out
            have e := wrap64_wf (Fl (m + 1) l a)
            rwa [w64 _ (by omega)] at e
          have HWF := Aside0.mk hwf
          have HFIN := Aside0.mk hfin
          clear hwf hfin
          go_wp2_with (first | (at_mapUpdate; refine wpList_mapUpdate_own _ rfl _ _ _ 101 rfl 104 3 law u59 (plainElem Try.prog 3) b n1 D1 rfl HO.out HLT.out _ _ kl rfl rfl hk _ [] (plainElem_int u3 HWF.out) ?_; intro w4 hown4 hg4) | fail)
          go_ret
          have := HSN.out.2
          have hmul : i * 30 ^ m ≤ 29 * 30 ^ m := Nat.mul_le_mul_right _ HT3.out
          have := HP.out
          rw [HFIN.out] at hown4
          refine ⟨by rw [← EW.out]; rfl, n1 + 1, _, hown4, says_put HSN.out.1 HO.out.isMap hk, ?_, HGR.out.trans hg4⟩
          rw [Nat.pow_succ]
          omega
def flatC (z : Int) : Option (Int × Bool) := if 0 ≤ z ∧ z ≤ 12 then some (Fl z.toNat (-1) 0, true) else some (0, false)
set_option maxHeartbeats 8000000 in
set_option maxRecDepth 100000 in
theorem CountFlat_calls (z : Int) (r1 : Int) (r2 : Bool) (w : World) (h : flatC z = some (r1, r2)) :
    Calls Try.prog 67 #[.int .i64 z] w fun e w' => e = .returned (.tuple #[.int .i64 r1, .bool r2]) ∧ Below w.heap.size w w' := by
 by_cases hc : 0 ≤ z ∧ z ≤ 12
 · {
 unfold flatC at h
 rw [if_pos hc] at h
 obtain ⟨n, rfl⟩ : ∃ n : Nat, z = (n : Int) := ⟨z.toNat, by omega⟩
 rw [Int.toNat_natCast] at h
 obtain ⟨rfl, rfl⟩ := Prod.mk.inj (Option.some.inj h)
 clear h
 have HN := Aside0.mk (show n ≤ 12 by omega)
 have P7 := Aside0.mk (show 0 + 30 ^ n ≤ 4611686018427387904 from Nat.le_trans (by rw [Nat.zero_add]; exact Nat.pow_le_pow_right (by omega) HN.out) (by decide))
 have e1 : decide (0 ≤ (n : Int) ∧ (n : Int) ≤ 12) = true := decide_eq_true hc
 clear hc
 have hmm := @run_makeMap Try.prog
 have hmf : ∀ (fn : Fn) (first cap : Array Value) (w : World), (Instr.makeFunc fn first cap).run Try.prog w = .ok (.func fn first cap) w := fun _ _ _ _ => rfl
 go_enter Try.func67, Try.ntmps67
 go_wp2_with (fail)
 refine (within_calls (n : Int) 0 12 _).mono ?_
 rintro e w1 ⟨rfl, ⟨q1, rfl⟩⟩
 rw [e1]
 have H1 := Aside0.mk ((Live.start w).drewN q1)
 clear e1
 have e1 : ((w.drewN q1).alloc (.map #[] 0)).heap.size = w.heap.size + 1 := size_alloc _ _
 have e2 : (((w.drewN q1).alloc (.map #[] 0)).alloc (.cells #[.map (some w.heap.size)] 101)).heap.size = w.heap.size + 1 + 1 := (size_alloc _ _).trans (congrArg (· + 1) e1)
 have h2 := Live.add (o := memo w.heap.size 0 (.map [])) (ok := fun _ => True) H1.out (below_alloc (Below.refl _ _) (.map #[] 0)) ⟨trivial, Nat.le_refl _, World.ownsMap_made _ _ _ _⟩
 have h3 := h2.new #[.map (some w.heap.size)] 101
 rw [e1] at h3
 have h4 := h3.new #[clo (w.heap.size + 1) (w.heap.size + 1 + 1)] 102
 rw [e2] at h4
 have H4 := Aside0.mk h4
 clear h2 h3 h4 e1 e2 H1
 go_wp2_with (fail)
 refine (flat_calls n (-1) 0 _ (w.heap.size + 1) (w.heap.size + 1 + 1) w.heap.size 0 (.map []) (by omega) (by omega) (by omega) (by have := HN.out; omega) (H4.out.blk 1 rfl) (H4.out.blk 2 rfl) (held H4.out 0 rfl) (says_nil _) P7.out).mono ?_
 rintro e w3 ⟨rfl, n3, D3, ho3, hs3, hn3, hg3⟩
 have H5 := Aside0.mk (Live.below (turn H4.out 0 rfl hg3 ho3))
 clear ho3 hs3 hn3 hg3 H4
 go_wp2_with (fail)
 go_ret2
 exact ⟨rfl, H5.out⟩}
 · {
 unfold flatC at h
 rw [if_neg hc] at h
 obtain ⟨rfl, rfl⟩ := Prod.mk.inj (Option.some.inj h)
 clear h
 have e1 : decide (0 ≤ z ∧ z ≤ 12) = false := decide_eq_false hc
 clear hc
 go_enter Try.func67, Try.ntmps67
 go_wp2_with (fail)
 refine (within_calls z 0 12 _).mono ?_
 rintro e w1 ⟨rfl, ⟨q1, rfl⟩⟩
 rw [e1]
 go_wp2_with (fail)
 go_ret2
 exact ⟨rfl, pw_below_drewN (Below.refl _ _) _⟩}
end Go.Proofs.Ytacdlipojhoilaa.Memo
