/- A counter's memo: a map keyed by three numbers, and the function that fills it. -/
import Derived.Test.YtjmmleofnjcjoaaDoorProg
import Derived.OwnWalk
import Derived.Tactics
import Derived.WalkKit
import Derived.KernelRfl
import Derived.RowKit3
import Derived.Deep.LoopGhost
import Derived.Deep.QuietTactic
import Derived.BigQuiet
import Derived.WideLaws
import Derived.Laws.BitsLemmas
import Derived.Test.YtjmmleofnjcjoaaDoorXCube
import Derived.Test.YtjmmleofnjcjoaaDoorWWords
import Derived.Test.YtjmmleofnjcjoaaDoorWLast
import Derived.Test.YtjmmleofnjcjoaaDoorWApart
import Derived.Maps.OwnSet
import Derived.Maps.Own
import Derived.Maps.OwnOps
import Derived.Maps.Views
import Derived.Maps.AppendAt
import Derived.DeepKeys4
namespace Go.Proofs.YtjmmleofnjcjoaaDoor.Memo
set_option linter.unusedVariables false
set_option linter.unusedSimpArgs false
open Go.RowKit Go.Proofs.YtjmmleofnjcjoaaDoorW.PrintWords Go.Proofs.YtjmmleofnjcjoaaDoorW.PrintLast Go.Proofs.YtjmmleofnjcjoaaDoorW.PrintMore Go.Maps
attribute [local go_sem] max2_int min2_int max_two min_two max_three min_three max_four min_four
theorem u61 : Tryd.prog.underlying 53 = some (.array 3 3) := by kernel_rfl
theorem u59 : Tryd.prog.underlying 48 = some (.map 53 3) := by kernel_rfl
theorem u3 : Tryd.prog.underlying 3 = some (.int .i64) := by kernel_rfl
theorem c61 : Tryd.prog.cellsOf 53 = 3 := by kernel_rfl
theorem c3 : Tryd.prog.cellsOf 3 = 1 := by kernel_rfl
theorem kt61 : Tryd.prog.keyType 53 = true := by kernel_rfl
theorem h61 : Nat.blt 53 Tryd.prog.types.size = true := by kernel_rfl
set_option maxRecDepth 100000 in
theorem law : Keyed Tryd.prog 53 := Keyed.of_law (deep_law_laid (m := 2) (by kernel_rfl) (by omega) (Nat.le_of_ble_eq_true h61) (by kernel_rfl) (by kernel_rfl))
def kv (a b c : Int) : Value := .agg #[.int .i64 a, .int .i64 b, .int .i64 c]
set_option maxRecDepth 100000 in
theorem key_ok (a b c : Int) (ha : (Lit.int .i64 a).wf = true) (hb : (Lit.int .i64 b).wf = true) (hc : (Lit.int .i64 c).wf = true) : ∃ kl, keyOf Tryd.prog 53 (kv a b c) = some kl := by
  have one : ∀ (x : Int) d, (Lit.int .i64 x).wf = true → Tryd.prog.keyLits (d+1) 3 [.int .i64 x] = some [.int .i64 x] := by
    intro x d hx
    unfold Program.keyLits
    rw [u3]
    simp [hx]
  have all : Tryd.prog.keyLits (Tryd.prog.types.size + 1) 53 [.int .i64 a, .int .i64 b, .int .i64 c] = some [.int .i64 a, .int .i64 b, .int .i64 c] := by
    obtain ⟨m, hm⟩ : ∃ m, Tryd.prog.types.size = m + 1 := ⟨Tryd.prog.types.size - 1, by have := Nat.le_of_ble_eq_true h61; omega⟩
    rw [hm]
    rw [Program.keyLits.eq_def]
    simp only [u61, c61, c3]
    have e : (List.range 3) = [0,1,2] := by decide
    simp [e, one a m ha, one b m hb, one c m hc]
  have fm : (kv a b c).formed Tryd.prog 53 = true := by
    simp [kv, Value.formed, c61]
  refine ⟨.string (keyBytes [.int .i64 a, .int .i64 b, .int .i64 c]), ?_⟩
  unfold keyOf
  rw [u61]
  simp only [kt61, fm, Bool.and_self, if_true]
  have : (kv a b c).cells.toList = [.int .i64 a, .int .i64 b, .int .i64 c] := by simp [kv, Value.cells]
  rw [this, all]
  rfl


/-- what the memo says: each key that it has bears W of it -/
def Says (W : Int → Int → Int → Int) (D : DataW Nat) : Prop :=
  ∀ (v : Value) (kl : Lit), keyOf Tryd.prog 53 v = some kl → has D kl = true →
    ∃ m l a, v = kv m l a ∧ D.atKey kl (.lit (.int .i64 0)) = .lit (.int .i64 (W m l a))

theorem says_nil (W) : Says W (.map []) := by
  intro v kl _ h
  simp [has] at h

theorem kv_inj {a b c a' b' c' : Int} (h : kv a b c = kv a' b' c') : a = a' ∧ b = b' ∧ c = c' := by
  simpa [kv] using h

theorem says_put {W : Int → Int → Int → Int} {D : DataW Nat} (h : Says W D) (hm : IsMap D) {m l a : Int} {kl : Lit} (hk : keyOf Tryd.prog 53 (kv m l a) = some kl) : Says W (D.put kl (.lit (.int .i64 (W m l a)))) := by
  intro v kl' hk' hh
  by_cases e : kl' = kl
  · subst e
    exact ⟨m, l, a, law.inj hk' hk, atKey_put_same hm (law.key hk) _ _⟩
  · rw [has_put_other e] at hh
    obtain ⟨m', l', a', hv, hat⟩ := h v kl' hk' hh
    exact ⟨m', l', a', hv, by rw [atKey_put_other e]; exact hat⟩

theorem says_get {W : Int → Int → Int → Int} {D : DataW Nat} (h : Says W D) {m l a : Int} {kl : Lit} (hk : keyOf Tryd.prog 53 (kv m l a) = some kl) (hh : has D kl = true) {c : Int} (hc : D.atKey kl (.lit (.int .i64 0)) = .lit (.int .i64 c)) : c = W m l a := by
  obtain ⟨m', l', a', hv, hat⟩ := h _ kl hk hh
  obtain ⟨rfl, rfl, rfl⟩ := kv_inj hv
  rw [hat] at hc
  simpa using hc.symm
set_option linter.unusedVariables false
set_option linter.unusedSimpArgs false
theorem zero3 (w : World) : (zeroValue 3).run Tryd.prog w = .ok (.int .i64 0) w := by kernel_rfl
theorem w64 (n : Int) (h : -9223372036854775808 ≤ n ∧ n ≤ 9223372036854775807) : wrap64 n = n := by unfold wrap64; omega
def psum (f : Nat → Int) : Nat → Int
  | 0 => 0
  | k + 1 => psum f k + f k
def top (l a : Int) : Int := if l < 0 then 0 else a + 1
def nxt (l a k : Int) : Int := if 0 ≤ l ∧ l < k then a + 1 else a
def W : Nat → Int → Int → Int
  | 0 => fun _ _ => 1
  | m + 1 => fun l a => psum (fun k => W m (k : Int) (nxt l a k)) (top l a + 1).toNat
def W' (m l a : Int) : Int := W m.toNat l a
theorem psum_le (f : Nat → Int) (B : Int) : ∀ n : Nat, (∀ k, k < n → 0 ≤ f k ∧ f k ≤ B) → 0 ≤ psum f n ∧ psum f n ≤ n * B
  | 0, _ => by simp [psum]
  | n + 1, h => by
    have h1 := psum_le f B n (fun k hk => h k (by omega))
    have h2 := h n (by omega)
    simp only [psum]
    refine ⟨by omega, ?_⟩
    have : ((n + 1 : Nat) : Int) * B = n * B + B := by rw [Int.natCast_add, Int.add_mul]; simp
    omega
theorem nxt_le (l a k : Int) : a ≤ nxt l a k ∧ nxt l a k ≤ a + 1 := by unfold nxt; split <;> omega
theorem top_le (l a : Int) (ha : 0 ≤ a) : 0 ≤ top l a ∧ top l a ≤ a + 1 := by unfold top; split <;> omega
theorem W_le : ∀ (m : Nat) (l a : Int), 0 ≤ a → a + m ≤ 24 → 0 ≤ W m l a ∧ W m l a ≤ 30 ^ m
  | 0, l, a, _, _ => by simp [W]
  | m + 1, l, a, ha, hm => by
    have ht := top_le l a ha
    have h1 := psum_le (fun k => W m (k : Int) (nxt l a k)) (30 ^ m) (top l a + 1).toNat (fun k hk => W_le m _ _ (by have := nxt_le l a k; omega) (by have := nxt_le l a k; omega))
    refine ⟨h1.1, Int.le_trans h1.2 ?_⟩
    have h2 : (((top l a + 1).toNat : Nat) : Int) ≤ 30 := by omega
    rw [Int.pow_succ, Int.mul_comm]
    exact Int.mul_le_mul_of_nonneg_left h2 (Int.pow_nonneg (by omega))
set_option maxHeartbeats 8000000 in
set_option maxRecDepth 100000 in
theorem most_calls (b : Nat) (l a : Int) (w : World) (ha : 0 ≤ a) (ha2 : a ≤ 24) : Calls Tryd.prog 33 #[.map (some b), .int .i64 l, .int .i64 a] w fun e w' => e = .returned (.int .i64 (top l a)) ∧ Drawn0 w w' := by
  by_cases c : l < 0
  · have c1 : decide (l < 0) = true := decide_eq_true c
    have e : top l a = 0 := if_pos c
    rw [e]
    go_enter Tryd.func33, Tryd.ntmps33
    go_wp2
    go_ret
    exact ⟨by first | rfl | (rw [w64 (a + 1) (by omega)]) | (simp; done) | (simp [*]; done), by repeat (first | exact Drawn0.refl _ | apply Drawn0.step)⟩
  · have c1 : decide (l < 0) = false := decide_eq_false c
    have e : top l a = a + 1 := if_neg c
    rw [e]
    go_enter Tryd.func33, Tryd.ntmps33
    go_wp2
    go_ret
    exact ⟨by first | rfl | (rw [w64 (a + 1) (by omega)]) | (simp; done) | (simp [*]; done), by repeat (first | exact Drawn0.refl _ | apply Drawn0.step)⟩
set_option maxHeartbeats 8000000 in
set_option maxRecDepth 100000 in
theorem next_calls (l a k : Int) (w : World) (ha : 0 ≤ a) (ha2 : a ≤ 24) : Calls Tryd.prog 25 #[.int .i64 l, .int .i64 a, .int .i64 k] w fun e w' => e = .returned (.int .i64 (nxt l a k)) ∧ Drawn0 w w' := by
  by_cases c : 0 ≤ l
  · have c1 : decide (0 ≤ l) = true := decide_eq_true c
    by_cases d : l < k
    · have d1 : decide (l < k) = true := decide_eq_true d
      have e : nxt l a k = a + 1 := if_pos ⟨c, d⟩
      rw [e]
      go_enter Tryd.func25, Tryd.ntmps25
      go_wp2
      go_ret
      exact ⟨by first | rfl | (rw [w64 (a + 1) (by omega)]) | (simp; done) | (simp [*]; done), by repeat (first | exact Drawn0.refl _ | apply Drawn0.step)⟩
    · have d1 : decide (l < k) = false := decide_eq_false d
      have e : nxt l a k = a := if_neg (fun h => d h.2)
      rw [e]
      go_enter Tryd.func25, Tryd.ntmps25
      go_wp2
      go_ret
      exact ⟨by first | rfl | (rw [w64 (a + 1) (by omega)]) | (simp; done) | (simp [*]; done), by repeat (first | exact Drawn0.refl _ | apply Drawn0.step)⟩
  · have c1 : decide (0 ≤ l) = false := decide_eq_false c
    have e : nxt l a k = a := if_neg (fun h => c h.1)
    rw [e]
    go_enter Tryd.func25, Tryd.ntmps25
    go_wp2
    go_ret
    exact ⟨by first | rfl | (rw [w64 (a + 1) (by omega)]) | (simp; done) | (simp [*]; done), by repeat (first | exact Drawn0.refl _ | apply Drawn0.step)⟩
theorem lit_ok (a : Int) (h : -1000 ≤ a) (h2 : a ≤ 1000) : (Lit.int .i64 a).wf = true := by
  have e := wrap64_wf a
  rwa [w64 a (by omega)] at e
set_option maxHeartbeats 8000000 in
set_option maxRecDepth 100000 in
theorem ways_calls : ∀ (m : Nat) (l a : Int) (w : World) (b n : Nat) (D : DataW Nat), -1 ≤ l → l ≤ 100 → 0 ≤ a → a + m ≤ 24 → w.ownsMap Tryd.prog 53 (plainElem Tryd.prog 3) b n D → Says W' D → n + 30 ^ m ≤ 4611686018427387904 →
    Calls Tryd.prog 24 #[.map (some b), .int .i64 (m : Int), .int .i64 l, .int .i64 a] w fun e w' => e = .returned (.int .i64 (W m l a)) ∧ ∃ n' D', w'.ownsMap Tryd.prog 53 (plainElem Tryd.prog 3) b n' D' ∧ Says W' D' ∧ n' ≤ n + 30 ^ m ∧ w.grownBy w' (some b)
  | 0, l, a, w, b, n, D, hl, hl2, ha, hm, ho, hs, hn => by
    go_enter Tryd.func24, Tryd.ntmps24
    go_wp2
    go_ret
    exact ⟨rfl, n, D, ho, hs, by omega, World.grownBy.refl _ _⟩
  | m + 1, l, a, w, b, n, D, hl, hl2, ha, hm, ho, hs, hn => by
    obtain ⟨M, hM⟩ : ∃ M : Int, M = ((m + 1 : Nat) : Int) := ⟨_, rfl⟩
    rw [← hM]
    have c0 : decide (M = 0) = false := decide_eq_false (by omega)
    have c0b : (M == 0) = false := by rw [beq_eq_false_iff_ne]; omega
    obtain ⟨kl, hk⟩ := key_ok M l a (lit_ok _ (by omega) (by omega)) (lit_ok _ (by omega) (by omega)) (lit_ok _ (by omega) (by omega))
    have HM := Aside0.mk hM; clear hM
    have HC := Aside0.mk hm; clear hm
    go_enter Tryd.func24, Tryd.ntmps24
    have hc := ho.alloc (.cells #[.int .i64 M, .int .i64 l, .int .i64 a] 53)
    have hgk : w.heap.size ≠ b := Nat.ne_of_gt ho.lt
    have ht := top_le l a ha
    obtain ⟨T, hT⟩ : ∃ T : Nat, top l a + 1 = (T : Int) := ⟨(top l a + 1).toNat, by omega⟩
    have hT30 : T ≤ 29 := by have := HC.out; omega
    have eW : W (m + 1) l a = psum (fun k => W m (k : Int) (nxt l a k)) T := by
      show psum _ (top l a + 1).toNat = _
      rw [hT, Int.toNat_natCast]
    have fW : W' M l a = W (m + 1) l a := by unfold W'; rw [HM.out, Int.toNat_natCast]
    have HT := Aside0.mk hT; have HT3 := Aside0.mk hT30; have EW := Aside0.mk eW; have FW := Aside0.mk fW; have HG := Aside0.mk hgk; have H0 := Aside0.mk ho
    have HHT := Aside0.mk ht
    clear hT hT30 eW fW hgk ho ht
    go_wp2_with (first | (at_lookup; refine wpList_lookup_own_ok_int _ rfl _ _ 48 rfl 53 3 .i64 law u59 u3 (zero3 _) b n D rfl hc _ _ rfl hk ?_; intro c hat hwc) | fail)
    · rename_i hh
      have hyes : has D kl = true := by simpa using hh
      have hcc : c = W (m + 1) l a := (says_get hs (by exact hk) hyes hat).trans FW.out
      clear hh
      go_ret
      exact ⟨by rw [hcc]; rfl, n, D, hc, hs, Nat.le_add_right _ _, World.grownBy_alloc _ _ _⟩
    · refine (most_calls b l a _ ha (by have := HC.out; omega)).mono ?_
      rintro e w1 ⟨rfl, ⟨q, rfl⟩⟩
      have hc1 := Aside0.mk (show World.ownsMap (((w.alloc (.cells #[.int .i64 M, .int .i64 l, .int .i64 a] 53))).drewN q) Tryd.prog 53 (plainElem Tryd.prog 3) b n D from hc)
      have hb1 := Aside0.mk (show (((w.alloc (.cells #[.int .i64 M, .int .i64 l, .int .i64 a] 53))).drewN q).heap[w.heap.size]? = some (.cells #[.int .i64 M, .int .i64 l, .int .i64 a] 53 (0, 0)) from blk_new w _)
      have hg1 := Aside0.mk (show w.grownBy ((w.alloc (.cells #[.int .i64 M, .int .i64 l, .int .i64 a] 53)).drewN q) (some b) from ⟨rfl, rfl, rfl, (World.grownBy_alloc w _ none).size, (World.grownBy_alloc w _ _).block⟩)
      clear hc
      have HS := Aside0.mk hs; clear hs
      have HN := Aside0.mk hn; clear hn
      have eT : wrap64 (top l a + 1) = (T : Int) := by rw [HT.out]; exact w64 _ (by have := HT3.out; omega)
      obtain ⟨F, hF⟩ : ∃ F : Nat → Int, F = fun k : Nat => W m (k : Int) (nxt l a k) := ⟨_, rfl⟩
      have HF := Aside0.mk hF
      rw [← hF] at EW
      clear hF
      have HP := Aside0.mk (show 1 ≤ 30 ^ m from Nat.one_le_pow _ _ (by omega))
      have HN2 := Aside0.mk (show n + 30 * 30 ^ m ≤ 4611686018427387904 by have := HN.out; rwa [Nat.pow_succ, Nat.mul_comm] at this)
      have HA := Aside0.mk ha
      have HL := Aside0.mk (And.intro hl hl2)
      have e1m : wrap64 (M - 1) = (m : Int) := by rw [HM.out, w64 _ (by have := HC.out; omega)]; omega
      go_wp2_with (fail)
      rw [eT]
      go_loopg [12, 33] (T + 1) (fun kq v12 v33 w' => ∃ i : Nat, v12 = .int .i64 (psum F i) ∧ v33 = .int .i64 (i : Int) ∧ Aside0 (i ≤ T ∧ kq = T - i + 1) ∧ ∃ (n1 : Nat) (D1 : DataW Nat), Aside0 (w'.ownsMap Tryd.prog 53 (plainElem Tryd.prog 3) b n1 D1) ∧ Aside0 (Says W' D1 ∧ n1 ≤ n + i * 30 ^ m) ∧ Aside0 (w.grownBy w' (some b)) ∧ Aside0 (w'.heap[w.heap.size]? = some (.cells #[.int .i64 M, .int .i64 l, .int .i64 a] 53 (0, 0))))
      case atStart => exact ⟨0, rfl, rfl, ⟨Nat.zero_le _, rfl⟩, n, D, hc1, ⟨HS.out, by omega⟩, hg1, hb1⟩
      case round =>
        clear hc1 hb1 hg1 eT
        obtain ⟨i, rfl, rfl, HI, n1, D1, HO, HSN, HGR, HB⟩ := hrel
        by_cases ci : i < T
        · have c1 : decide ((i : Int) < (T : Int)) = true := decide_eq_true (by omega)
          have c2 : decide (i < T) = true := decide_eq_true ci
          have hnx := nxt_le l a (i : Int)
          have HX := Aside0.mk hnx
          clear hnx
          go_wp2_with (fail)
          refine (next_calls l a (i : Int) _ HA.out (by have := HC.out; omega)).mono ?_
          rintro e w2 ⟨rfl, ⟨q2, rfl⟩⟩
          have ho2 := Aside0.mk (show World.ownsMap (World.drewN _ q2) Tryd.prog 53 (plainElem Tryd.prog 3) b n1 D1 from HO.out)
          have hb2 := Aside0.mk (show (World.drewN _ q2).heap[w.heap.size]? = some (.cells #[.int .i64 M, .int .i64 l, .int .i64 a] 53 (0, 0)) from HB.out)
          have hg2 := Aside0.mk (show w.grownBy (World.drewN _ q2) (some b) from ⟨HGR.out.os, HGR.out.tape, HGR.out.output, HGR.out.size, HGR.out.block⟩)
          clear HO HB HGR
          go_wp2_with (fail)
          have hmul : i * 30 ^ m ≤ 28 * 30 ^ m := Nat.mul_le_mul_right _ (by have := HT3.out; omega)
          refine (ways_calls m (i : Int) (nxt l a (i : Int)) _ b n1 D1 (by omega) (by have := HT3.out; omega) (by have := HX.out; have := HA.out; omega) (by have := HX.out; have := HC.out; omega) ho2.out HSN.out.1 (by have := HSN.out.2; have := HN2.out; omega)).mono ?_
          clear hmul
          rintro e w3 ⟨rfl, n2, D2, ho3, hs3, hn3, hg3⟩
          have hb3 := Aside0.mk ((hg3.block w.heap.size (blk_lt hb2.out) (by intro h; exact HG.out (Option.some.inj h))).trans hb2.out)
          have hg4 := Aside0.mk (hg2.out.trans hg3)
          have ho3 := Aside0.mk ho3
          have hs3 := Aside0.mk (And.intro hs3 (show n2 ≤ n + (i + 1) * 30 ^ m by rw [Nat.add_mul]; have := HSN.out.2; omega))
          clear hg3 hb2 hg2 ho2 hn3 HSN
          have eS : F i = W m (i : Int) (nxt l a (i : Int)) := by rw [HF.out]
          have eB : wrap64 (psum F i + W m (i : Int) (nxt l a (i : Int))) = psum F (i + 1) := by
            rw [← eS]
            have hle := psum_le F (30 ^ m) (i + 1) (fun k hk => by rw [HF.out]; exact W_le m _ _ (by have := nxt_le l a k; have := HA.out; omega) (by have := nxt_le l a k; have := HC.out; omega))
            have h1 : psum F (i + 1) = psum F i + F i := rfl
            rw [← h1]
            refine w64 _ ⟨by omega, ?_⟩
            have h2 : ((i + 1 : Nat) : Int) * 30 ^ m ≤ 29 * 30 ^ m := Int.mul_le_mul_of_nonneg_right (by have := HT3.out; omega) (Int.pow_nonneg (by omega))
            have h3 : ((30 ^ m : Nat) : Int) = 30 ^ m := by simp
            have := HN2.out
            omega
          have EB := Aside0.mk eB
          clear eS eB
          go_wp2_with (fail)
          go_roundg (T - i)
          case measure => have := HI.out; omega
          case rel => exact ⟨i + 1, by rw [EB.out], congrArg (Value.int .i64) (by rw [w64 _ (by have := HT3.out; omega)]; omega), ⟨by omega, by omega⟩, n2, D2, ho3, hs3, hg4, hb3⟩
        · have c1 : decide ((i : Int) < (T : Int)) = false := decide_eq_false (by omega)
          have c2 : decide (i < T) = false := decide_eq_false ci
          obtain rfl : i = T := by have := HI.out; omega
          have x0 : World.cell? _ ⟨w.heap.size, 0, none⟩ = some (.int .i64 M) := (blk_cell HB.out 0).trans rfl
          have x1 : World.cell? _ ⟨w.heap.size, 1, none⟩ = some (.int .i64 l) := (blk_cell HB.out 1).trans rfl
          have x2 : World.cell? _ ⟨w.heap.size, 2, none⟩ = some (.int .i64 a) := (blk_cell HB.out 2).trans rfl
          have hb := HB.out
          have hlt : n1 < maxLen := Nat.lt_of_lt_of_le (m := 4611686018427387905) (by have := HSN.out.2; have := HN2.out; have hmul : i * 30 ^ m ≤ 29 * 30 ^ m := Nat.mul_le_mul_right _ HT3.out; omega) (by decide)
          have HLT := Aside0.mk hlt
          clear hlt
          have hfin : psum F i = W' M l a := by rw [FW.out, EW.out]
          have hwf : (Lit.int .i64 (psum F i)).wf = true := by
            rw [EW.out.symm]
            have := W_le (m + 1) l a HA.out (by have := HC.out; omega)
            have h3 : ((30 ^ m : Nat) : Int) = 30 ^ m := by simp
            rw [Int.pow_succ] at this
            have := HN2.out
            have e := wrap64_wf (W (m + 1) l a)
            rwa [w64 _ (by omega)] at e
          have HWF := Aside0.mk hwf
          have HFIN := Aside0.mk hfin
          clear hwf hfin
          go_wp2_with (first | (at_mapUpdate; refine wpList_mapUpdate_own _ rfl _ _ _ 48 rfl 53 3 law u59 (plainElem Tryd.prog 3) b n1 D1 rfl HO.out HLT.out _ _ kl rfl rfl hk _ [] (plainElem_int u3 HWF.out) ?_; intro w4 hown4 hg4) | fail)
          go_ret
          have := HSN.out.2
          have hmul : i * 30 ^ m ≤ 29 * 30 ^ m := Nat.mul_le_mul_right _ HT3.out
          have := HP.out
          rw [HFIN.out] at hown4
          refine ⟨by rw [← EW.out]; rfl, n1 + 1, _, hown4, says_put HSN.out.1 HO.out.isMap hk, ?_, HGR.out.trans hg4⟩
          rw [Nat.pow_succ]
          omega
open Go.Proofs.YtjmmleofnjcjoaaDoor.Live
theorem bnd (B n3 n6 k L : Nat) (h1 : n6 ≤ n3 + B * (k + 1)) (h2 : n3 ≤ B * (1 + 31 * L)) (h3 : k ≤ 29) : n6 ≤ B * (1 + 31 * (L + 1)) := by
  have a1 : B * (k + 1) ≤ B * 30 := Nat.mul_le_mul_left _ (by omega)
  have e : B * (1 + 31 * (L + 1)) = B * (1 + 31 * L) + B * 31 := by rw [← Nat.mul_add]; exact congrArg _ (by omega)
  have a2 : B * 30 ≤ B * 31 := Nat.mul_le_mul_left _ (by omega)
  omega
def pick (m : Nat) (l a : Int) : Nat → Nat → Int → Option (Nat × Int)
  | 0, _, _ => none
  | q + 1, k, r => if r < W m (k : Int) (nxt l a (k : Int)) then some (k, r) else pick m l a q (k + 1) (r - W m (k : Int) (nxt l a (k : Int)))
def go : Nat → Int → Int → Int → List Int → Option (List Int)
  | 0, _, _, _, out => some out
  | m + 1, l, a, r, out => (pick m l a 30 0 r).bind fun p => go m (p.1 : Int) (nxt l a (p.1 : Int)) p.2 (out ++ [(p.1 : Int)])
def withRank (n : Nat) (r : Int) : Option (List Int) := if 0 ≤ r ∧ r < W n (-1) 0 then go n (-1) 0 r [] else none
/-- The memo as a thing held. -/
def memo (b n : Nat) (D : DataW Nat) : Ob where
  P := fun w base ok => ok b ∧ base ≤ b ∧ w.ownsMap Tryd.prog 53 (plainElem Tryd.prog 3) b n D
  st := fun h hm => ⟨h.1, h.2.1, by
    obtain ⟨es, clock, hb, r⟩ := h.2.2
    exact ⟨es, clock, (hm _ h.1 h.2.2.lt).trans hb, r⟩⟩
  mono := fun h hk => ⟨hk _ h.1, h.2⟩
  bound := fun h => ⟨⟨h.1, h.2.1, h.2.2.lt⟩, h.2⟩
  lower := fun hb h => ⟨h.1, Nat.le_trans hb h.2.1, h.2.2⟩
theorem turn {w0 w w' : World} {L : List Ob} {b n n' : Nat} {D D' : DataW Nat} (H : Live w0 w L) (i : Nat) (hi : L[i]? = some (memo b n D)) (hg : w.grownBy w' (some b)) (ho : w'.ownsMap Tryd.prog 53 (plainElem Tryd.prog 3) b n' D') : Live w0 w' (L.set i (memo b n' D')) := by
  obtain ⟨ok, hp, hok, _, hback⟩ := H.lend i hi
  have hB := H.below
  refine hback _ _ ⟨hg.os.trans hB.os, hg.tape.trans hB.tape, hg.output.trans hB.output, Nat.le_trans hB.size hg.size, fun k hk => (hg.block k (Nat.lt_of_lt_of_le hk hB.size) (fun e => ?_)).trans (hB.block k hk)⟩ ⟨hg.size, fun k hk hn => hg.block k hk (fun e => ?_)⟩ ⟨.inl hp.1, hp.2.1, ho⟩
  · have := Option.some.inj e
    have := hp.2.1
    omega
  · have := Option.some.inj e
    subst this
    exact hn hp.1
theorem held {w0 w : World} {L : List Ob} {b n : Nat} {D : DataW Nat} (H : Live w0 w L) (i : Nat) (hi : L[i]? = some (memo b n D)) : w.ownsMap Tryd.prog 53 (plainElem Tryd.prog 3) b n D := (H.get i hi).2.2
set_option maxHeartbeats 8000000 in
set_option maxRecDepth 100000 in
theorem within_calls (x lo hi : Int) (w : World) : Calls Tryd.prog 23 #[.int .i64 x, .int .i64 lo, .int .i64 hi] w fun e w' => e = .returned (.bool (decide (lo ≤ x ∧ x ≤ hi))) ∧ Drawn0 w w' := by
  by_cases c : lo ≤ x
  · have c1 : decide (lo ≤ x) = true := decide_eq_true c
    have e : decide (lo ≤ x ∧ x ≤ hi) = decide (x ≤ hi) := by simp [c]
    rw [e]
    go_enter Tryd.func23, Tryd.ntmps23
    go_wp2
    go_ret
    exact ⟨by first | rfl | (simp; done) | (simp [*]; done), by repeat (first | exact Drawn0.refl _ | apply Drawn0.step)⟩
  · have c1 : decide (lo ≤ x) = false := decide_eq_false c
    have e : decide (lo ≤ x ∧ x ≤ hi) = false := decide_eq_false (fun h => c h.1)
    rw [e]
    go_enter Tryd.func23, Tryd.ntmps23
    go_wp2
    go_ret
    exact ⟨by first | rfl | (simp; done) | (simp [*]; done), by repeat (first | exact Drawn0.refl _ | apply Drawn0.step)⟩
set_option maxHeartbeats 8000000 in
set_option maxRecDepth 100000 in
theorem AscentWith_calls (n : Nat) (r : Int) (ls : List Int) (w : World) (hn : n ≤ 7) (h : withRank n r = some ls) :
    Calls Tryd.prog 6 #[.int .i64 (n : Int), .int .i64 r] w fun e w' => ∃ v, e = .returned (.tuple #[v, .bool true]) ∧ Kd.R (Kd.int .i64) 3 w' w.heap.size (fun _ => True) v ls ∧ Below w.heap.size w w' := by
  have hr : 0 ≤ r ∧ r < W n (-1) 0 := by
    apply Classical.byContradiction; intro hc
    unfold withRank at h; rw [if_neg hc] at h; exact absurd h (by simp)
  have hg : go n (-1) 0 r [] = some ls := by unfold withRank at h; rwa [if_pos hr] at h
  clear h
  have HG := Aside0.mk hg; have HR := Aside0.mk hr; have HN := Aside0.mk hn
  clear hg hr hn
  have hmm := @run_makeMap Tryd.prog
  have H0 := Aside0.mk (show Live w (w.alloc (.map #[] 0)) [memo w.heap.size 0 (.map [])] from (Live.start w).add (o := memo w.heap.size 0 (.map [])) (ok := fun _ => True) (below_alloc (Below.refl _ _) _) ⟨trivial, Nat.le_refl _, World.ownsMap_made _ _ _ _⟩)
  have e1 : decide (0 ≤ (n : Int) ∧ (n : Int) ≤ 12) = true := decide_eq_true ⟨by omega, by have := HN.out; omega⟩
  have hW := W_le n (-1) 0 (by omega) (by have := HN.out; omega)
  have hp7 : (30 : Int) ^ n ≤ 30 ^ 7 := by
    have h1 := Nat.pow_le_pow_right (n := 30) (by omega) HN.out
    have h2 : ((30 ^ n : Nat) : Int) ≤ ((30 ^ 7 : Nat) : Int) := by exact_mod_cast h1
    simpa using h2
  have e2 : wrap64 (W n (-1) 0 - 1) = W n (-1) 0 - 1 := w64 _ (by omega)
  have e3 : decide (0 ≤ r ∧ r ≤ W n (-1) 0 - 1) = true := decide_eq_true ⟨HR.out.1, by have := HR.out.2; omega⟩
  have HW := Aside0.mk (show r ≤ 30 ^ 7 by have := HR.out.2; omega)
  have P7 := Aside0.mk (show ∀ m : Nat, m ≤ 7 → 30 ^ m ≤ 21870000000 from fun m hm => Nat.le_trans (Nat.pow_le_pow_right (by omega) hm) (by decide))
  clear hW hp7
  go_enter Tryd.func6, Tryd.ntmps6
  go_wp2_with (fail)
  refine (within_calls (n : Int) 0 12 _).mono ?_
  rintro e w1 ⟨rfl, ⟨q1, rfl⟩⟩
  rw [e1]
  have H1 := Aside0.mk (H0.out.drewN q1)
  clear H0 e1
  go_wp2_with (fail)
  refine (ways_calls n (-1) 0 _ w.heap.size 0 (.map []) (by omega) (by omega) (by omega) (by have := HN.out; omega) (held H1.out 0 rfl) (says_nil _) (by have := P7.out n HN.out; omega)).mono ?_
  rintro e w2 ⟨rfl, n2, D2, ho2, hs2, hn2, hg2⟩
  have H2 := Aside0.mk (turn H1.out 0 rfl hg2 ho2)
  have HS := Aside0.mk hs2
  have HC := Aside0.mk (show n2 ≤ 21870000000 by have := P7.out n HN.out; omega)
  clear ho2 hs2 hn2 hg2 H1
  go_wp2_with (fail)
  refine (within_calls r 0 (W n (-1) 0 - 1) _).mono ?_
  rintro e w3 ⟨rfl, ⟨q3, rfl⟩⟩
  rw [e3]
  have H3 := Aside0.mk (H2.out.drewN q3)
  clear H2 e3
  go_wp2_with (first | ((with_reducible refine gate_dst (N := 25) rfl ?_); refine Kd.R_lit (Kd.int .i64) _ 3 ?hg (N := 25) ?hd (xs := ([] : List Int)) (inner := []) (ok := fun _ => True) (okp := fun _ => True) ?hr ?hp (fun _ hk => hk) trivial (Below.refl _ _) (Nat.le_refl _) (by simp) ?_; (case hd => rfl); (case hg => rfl); (case hr => first | (go_simp; done) | (go_simp; rfl)); (case hp => exact (Reps.none _ _)); intro v25 w4 ho4 hb hg_ hnew_; clear hg_ hnew_; have H4 := Aside0.mk (Live.add (o := row (Kd.int .i64) 3 v25 []) H3.out hb ho4); clear hb ho4 H3) | fail)
  clear e2
  go_loopg [1, 7, 8, 9] (n + 1) (fun kq v1 v7 v8 v9 w' => ∃ (m : Nat) (l a r : Int) (out : List Int) (n3 : Nat) (D3 : DataW Nat), v1 = .int .i64 r ∧ v8 = .int .i64 l ∧ v9 = .int .i64 a ∧ Aside0 (out.length + m = n ∧ kq = m + 1) ∧ Aside0 (go m l a r out = some ls) ∧ Aside0 (-1 ≤ l ∧ l ≤ 100 ∧ 0 ≤ a ∧ a + m ≤ 8 ∧ 0 ≤ r ∧ r ≤ 30 ^ 7) ∧ Aside0 (Says W' D3 ∧ n3 ≤ 21870000000 * (1 + 31 * out.length)) ∧ Aside0 (Live w w' [memo w.heap.size n3 D3, row (Kd.int .i64) 3 v7 out]))
  case atStart => exact ⟨n, -1, 0, r, [], n2, D2, rfl, rfl, rfl, ⟨by simp, rfl⟩, HG, ⟨by have := HN.out; have := HR.out; have := HW.out; omega⟩, ⟨HS.out, by have := HC.out; simp; omega⟩, H4⟩
  case round =>
    clear H4 HS HC HG HR HW
    obtain ⟨m, l, a, r1, out, n3, D3, rfl, rfl, rfl, HI, HG, HA, HS, H⟩ := hrel
    rename World => wq
    obtain ⟨A, c, rfl, _, _⟩ := H.out.form 1 rfl
    cases m with
    | zero =>
      have el : out.length = n := by have := HI.out; omega
      have c1 : decide ((out.length : Int) < (n : Int)) = false := decide_eq_false (by omega)
      have c2 : decide (out.length < n) = false := decide_eq_false (by omega)
      obtain rfl : out = ls := Option.some.inj HG.out
      go_wp2_with (fail)
      go_ret2
      exact ⟨_, rfl, H.out.get 1 rfl, H.out.below⟩
    | succ m =>
      have c1 : decide ((out.length : Int) < (n : Int)) = true := decide_eq_true (by have := HI.out; omega)
      have c2 : decide (out.length < n) = true := decide_eq_true (by have := HI.out; omega)
      obtain ⟨⟨pk, pr⟩, hp, hg⟩ := Option.bind_eq_some_iff.mp (show (pick m l a 30 0 r1).bind (fun p => go m (p.1 : Int) (nxt l a (p.1 : Int)) p.2 (out ++ [(p.1 : Int)])) = some ls from HG.out)
      have HP := Aside0.mk hp; have HG2 := Aside0.mk hg
      clear HG hp hg
      go_wp2_with (fail)
      go_loopg [1, 10] 30 (fun kq v1 v10 w' => ∃ (q k : Nat) (r2 : Int) (n4 : Nat) (D4 : DataW Nat), v1 = .int .i64 r2 ∧ v10 = .int .i64 (k : Int) ∧ Aside0 (pick m l a q k r2 = some (pk, pr) ∧ kq = q ∧ k + q = 30) ∧ Aside0 (0 ≤ r2 ∧ r2 ≤ 30 ^ 7) ∧ Aside0 (Says W' D4 ∧ n4 ≤ n3 + 21870000000 * k) ∧ Aside0 (Live w w' [memo w.heap.size n4 D4, row (Kd.int .i64) 3 (.slice A out.length c) out]))
      case atStart => exact ⟨30, 0, r1, n3, D3, rfl, rfl, ⟨HP.out, rfl, rfl⟩, ⟨HA.out.2.2.2.2⟩, ⟨HS.out.1, by omega⟩, H⟩
      case round =>
        clear H HP
        obtain ⟨q, k, r2, n4, D4, rfl, rfl, HP, HR2, HS4, H⟩ := hrel
        rename World => wi
        cases q with
        | zero => exact absurd HP.out.1 (by simp [pick])
        | succ q =>
          have e1 : wrap64 (wrap64 ((n : Int) - (out.length : Int)) - 1) = (m : Int) := by have := HI.out; have := HN.out; rw [w64 ((n : Int) - _) (by omega), w64 _ (by omega)]; omega
          have hp := HP.out.1
          unfold pick at hp
          have hx := nxt_le l a (k : Int)
          have ha := HA.out
          have hk30 := HP.out.2.2
          have hW := W_le m (k : Int) (nxt l a (k : Int)) (by omega) (by omega)
          have HX := Aside0.mk hx; have HW := Aside0.mk hW.1; have HK := Aside0.mk hk30; have HQ := Aside0.mk HP.out.2.1
          clear hx ha hk30 hW HP
          go_wp2_with (fail)
          refine (next_calls l a (k : Int) _ (by have := HA.out; omega) (by have := HA.out; omega)).mono ?_
          rintro e w5 ⟨rfl, ⟨q5, rfl⟩⟩
          have H5 := Aside0.mk (H.out.drewN q5)
          clear H
          go_wp2_with (fail)
          refine (ways_calls m (k : Int) (nxt l a (k : Int)) _ w.heap.size n4 D4 (by omega) (by have := HK.out; omega) (by have := HX.out; have := HA.out; omega) (by have := HX.out; have := HA.out; omega) (held H5.out 0 rfl) HS4.out.1 (by have := P7.out m (by have := HI.out; have := HN.out; omega); have := HS4.out.2; have := HS.out.2; have := HK.out; have := HI.out; have := HN.out; omega)).mono ?_
          rintro e w6 ⟨rfl, n6, D6, ho6, hs6, hn6, hg6⟩
          have H6 := Aside0.mk (turn H5.out 0 rfl hg6 ho6)
          have HS6 := Aside0.mk (show Says W' D6 ∧ n6 ≤ n3 + 21870000000 * (k + 1) by exact ⟨hs6, by have := P7.out m (by have := HI.out; have := HN.out; omega); have := HS4.out.2; omega⟩)
          clear ho6 hs6 hn6 hg6 H5 HS4
          by_cases hlt : r2 < W m (k : Int) (nxt l a (k : Int))
          · rw [if_pos hlt] at hp
            obtain ⟨rfl, rfl⟩ := Prod.mk.inj (Option.some.inj hp)
            clear hp
            have d1 : decide (r2 < W m (k : Int) (nxt l a (k : Int))) = true := decide_eq_true hlt
            clear hlt
            go_wp2_with (fail)
            refine (next_calls l a (k : Int) _ (by have := HA.out; omega) (by have := HA.out; omega)).mono ?_
            rintro e w7 ⟨rfl, ⟨q7, rfl⟩⟩
            have H7 := Aside0.mk (H6.out.drewN q7)
            clear H6
            obtain ⟨ok_, ho_, hok_, _, hback_⟩ := H7.out.lend 1 rfl
            go_wp2_with (first | ((with_reducible refine gate_builtin (b := .append) (xs := #[.tmp 54, .tmp 56]) rfl ?_); at_builtin; refine Kd.R_append (Kd.int .i64) (w0 := w) w.heap.size rfl (.tmp 54) (.tmp 56) 26 3 (.int .i64 0) 8 rfl Tryd.underlying26 (by kernel_rfl) rfl (by decide) (by omega) (.slice A out.length c) out (k : Int) [.int .i64 (k : Int)] (fun k_ => ok_ k_ ∨ (w6.drewN q7).heap.size ≤ k_) (fun _ => False) rfl rfl rfl (fun _ h => h.elim) (fun _ h => .inr h) (Kd.R_mono ho_ (fun _ h => .inl h)) H7.out.below H7.out.below.size (by have := HI.out; have := HN.out; omega) ?_; intro v8 w8 hs_ hb_ hg_ hat_; have H8 := Aside0.mk (hback_ w8 (row (Kd.int .i64) 3 v8 (out ++ [(k : Int)])) hb_ (Kept.of_grown hg_ (Kept.refl _ _) (fun k_ hk_ => .inl (ho_.1 k_ hk_))) hs_); clear hs_ hb_ hg_ hat_ hback_ ho_) | fail)
            have H9 := Aside0.mk (show Live w w8 [memo w.heap.size n6 D6, row (Kd.int .i64) 3 v8 (out ++ [(k : Int)])] from H8.out)
            have hb9 : n6 ≤ 21870000000 * (1 + 31 * (out ++ [(k : Int)]).length) := by rw [List.length_append, List.length_singleton]; exact bnd _ _ _ _ _ HS6.out.2 HS.out.2 (by have := HK.out; omega)
            have HS9 := Aside0.mk (And.intro HS6.out.1 hb9)
            clear H8 hb9
            go_roundg (m + 1)
            case measure => have := HI.out; omega
            case rel => exact ⟨m, (k : Int), nxt l a (k : Int), r2, out ++ [(k : Int)], n6, D6, rfl, rfl, rfl, ⟨by rw [List.length_append, List.length_singleton]; have := HI.out; omega, rfl⟩, HG2, ⟨by have := HK.out; have := HX.out; have := HA.out; have := HR2.out; omega⟩, HS9, H9⟩
          · rw [if_neg hlt] at hp
            have d1 : decide (r2 < W m (k : Int) (nxt l a (k : Int))) = false := decide_eq_false hlt
            have e2 : wrap64 (r2 - W m (k : Int) (nxt l a (k : Int))) = r2 - W m (k : Int) (nxt l a (k : Int)) := w64 _ (by have := HR2.out; have := HW.out; omega)
            have HP := Aside0.mk hp
            have HLT := Aside0.mk hlt
            clear hlt hp
            go_wp2_with (fail)
            go_roundg q
            case measure => have := HQ.out; omega
            case rel => exact ⟨q, k + 1, r2 - W m (k : Int) (nxt l a (k : Int)), n6, D6, by first | rfl | rw [e2], congrArg (Value.int .i64) (by rw [w64 _ (by have := HK.out; omega)]; omega), ⟨HP.out, rfl, by have := HK.out; omega⟩, ⟨by have := HLT.out; omega, by have := HW.out; have := HR2.out; omega⟩, HS6, H6⟩
def col (n : Nat) : Nat → Option (List (List Int))
  | 0 => some []
  | k + 1 => (col n k).bind fun xs => (withRank n (k : Int)).bind fun l => some (xs ++ [l])
def lists (n : Int) : Option (List (List Int) × Bool) := if 0 ≤ n ∧ n ≤ 7 then (col n.toNat (W n.toNat (-1) 0).toNat).map (fun x => (x, true)) else some ([], false)
theorem col_len (n : Nat) : ∀ k xs, col n k = some xs → xs.length = k
  | 0, xs, h => by simp [col] at h; simp [← h]
  | k + 1, xs, h => by
    obtain ⟨ys, h1, h⟩ := Option.bind_eq_some_iff.mp h
    obtain ⟨l, h2, h⟩ := Option.bind_eq_some_iff.mp h
    obtain rfl := Option.some.inj h
    rw [List.length_append, col_len n k ys h1]; rfl
theorem col_part (n : Nat) : ∀ (t i : Nat) xs, col n t = some xs → i ≤ t → ∃ ys, col n i = some ys
  | 0, i, xs, h, hi => ⟨xs, by obtain rfl : i = 0 := by omega
                               exact h⟩
  | t + 1, i, xs, h, hi => by
    by_cases c : i = t + 1
    · subst c; exact ⟨xs, h⟩
    · obtain ⟨ys, h1, h⟩ := Option.bind_eq_some_iff.mp h
      exact col_part n t i ys h1 (by omega)
theorem col_step {n t i : Nat} {xs ys : List (List Int)} (h : col n t = some xs) (hi : i < t) (hy : col n i = some ys) : ∃ l, withRank n (i : Int) = some l ∧ col n (i + 1) = some (ys ++ [l]) := by
  obtain ⟨zs, hz⟩ := col_part n t (i + 1) xs h hi
  obtain ⟨ys', h1, h2⟩ := Option.bind_eq_some_iff.mp hz
  obtain ⟨l, h3, h4⟩ := Option.bind_eq_some_iff.mp h2
  rw [hy] at h1
  obtain rfl := Option.some.inj h1
  exact ⟨l, h3, hz.trans h4.symm⟩
end Go.Proofs.YtjmmleofnjcjoaaDoor.Memo
