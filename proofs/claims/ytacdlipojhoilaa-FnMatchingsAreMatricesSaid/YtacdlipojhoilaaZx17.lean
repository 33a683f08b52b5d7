-- Written by hook.py, a program of this session (wip/), which runs the kit's print.py with its own parts; Lean checks it.
import Derived.Test.YtacdlipojhoilaaZx0
import Derived.Test.YtacdlipojhoilaaZx5
import Derived.Test.YtacdlipojhoilaaZx16
import Derived.Test.YtacdlipojhoilaaZxXSq
namespace Go.Proofs.Ytacdlipojhoilaa.Zx
open Go.RowKit Go.Proofs.YtacdlipojhoilaaW.PrintWords Go.Proofs.YtacdlipojhoilaaW.PrintLast Go.Proofs.YtacdlipojhoilaaW.PrintMore Go.Proofs.Ytacdlipojhoilaa.Sq
attribute [local go_sem] max2_int min2_int max_two min_two max_three min_three max_four min_four   -- for this text's walks alone
set_option linter.unusedVariables false
set_option linter.unusedSimpArgs false

def impl_Matrix_matching.at3 (q : List (List (List Int))) (a b : Nat) : List Int := (q.getD a []).getD b []
def impl_Matrix_matching.ins (q : List (List (List Int))) (a b p : Nat) : List (List (List Int)) := q.set a ((q.getD a []).set b (impl_Matrix_matching.at3 q a b ++ [(p : Int)]))
def impl_Matrix_matching.o3 (q : List (List (List Int))) (a b p : Nat) : Nat → List (List (List Int))
  | 0 => q
  | t + 1 => impl_Matrix_matching.ins (impl_Matrix_matching.o3 q a b p t) a b (p + t)
def impl_Matrix_matching.cell (m : List (List Int)) (i j : Nat) : Nat := ((m.getD i []).getD j 0).toNat
def impl_Matrix_matching.o2 (m : List (List Int)) (k : Nat) (q : List (List (List Int))) (p : Nat) : Nat → List (List (List Int)) × Nat
  | 0 => (q, p)
  | j + 1 => (impl_Matrix_matching.o3 (impl_Matrix_matching.o2 m k q p j).1 k (k + j) (impl_Matrix_matching.o2 m k q p j).2 (impl_Matrix_matching.cell m k (k + j)), (impl_Matrix_matching.o2 m k q p j).2 + impl_Matrix_matching.cell m k (k + j))
def impl_Matrix_matching.c2 (m : List (List Int)) (k : Nat) (q : List (List (List Int))) (p : Nat) : Nat → List (List (List Int)) × Nat
  | 0 => (q, p)
  | i + 1 => (impl_Matrix_matching.o3 (impl_Matrix_matching.c2 m k q p i).1 i k (impl_Matrix_matching.c2 m k q p i).2 (impl_Matrix_matching.cell m i k), (impl_Matrix_matching.c2 m k q p i).2 + impl_Matrix_matching.cell m i k)
def impl_Matrix_matching.m1 (m : List (List Int)) : Nat → List (List (List Int)) × List (List (List Int)) × Nat
  | 0 => (List.replicate m.length (List.replicate m.length []), List.replicate m.length (List.replicate m.length []), 0)
  | k + 1 => ((impl_Matrix_matching.o2 m k (impl_Matrix_matching.m1 m k).1 (impl_Matrix_matching.m1 m k).2.2 (m.length - k)).1, (impl_Matrix_matching.c2 m k (impl_Matrix_matching.m1 m k).2.1 (impl_Matrix_matching.o2 m k (impl_Matrix_matching.m1 m k).1 (impl_Matrix_matching.m1 m k).2.2 (m.length - k)).2 (k + 1)).1, (impl_Matrix_matching.c2 m k (impl_Matrix_matching.m1 m k).2.1 (impl_Matrix_matching.o2 m k (impl_Matrix_matching.m1 m k).1 (impl_Matrix_matching.m1 m k).2.2 (m.length - k)).2 (k + 1)).2)
def impl_Matrix_matching.b3 (us vs : List Int) (out : List Int) : Nat → List Int
  | 0 => out
  | t + 1 => ((impl_Matrix_matching.b3 us vs out t).set (us.getD t 0).toNat (vs.getD t 0)).set (vs.getD t 0).toNat (us.getD t 0)
def impl_Matrix_matching.b2 (o c : List (List (List Int))) (i : Nat) (out : List Int) : Nat → List Int
  | 0 => out
  | j + 1 => impl_Matrix_matching.b3 (impl_Matrix_matching.at3 o i j) (impl_Matrix_matching.at3 c i j) (impl_Matrix_matching.b2 o c i out j) (impl_Matrix_matching.at3 o i j).length
def impl_Matrix_matching.b1 (o c : List (List (List Int))) (d : Nat) (out : List Int) : Nat → List Int
  | 0 => out
  | i + 1 => impl_Matrix_matching.b2 o c i (impl_Matrix_matching.b1 o c d out i) d
def impl_Matrix_matching.Ok (m : List (List Int)) : Prop := m.length ≤ 12 ∧ ∀ i, i < m.length → (m.getD i []).length = m.length ∧ ∀ j, j < m.length → 0 ≤ (m.getD i []).getD j 0 ∧ (m.getD i []).getD j 0 ≤ 12
instance impl_Matrix_matching.instOk (m : List (List Int)) : Decidable (impl_Matrix_matching.Ok m) := inferInstanceAs (Decidable (_ ∧ _))
def impl_Matrix_matching.Fit (o c : List (List (List Int))) (d p : Nat) : Prop := ∀ i, i < d → ∀ j, j < d → ∀ t, t < (impl_Matrix_matching.at3 o i j).length → t < (impl_Matrix_matching.at3 c i j).length ∧ 0 ≤ (impl_Matrix_matching.at3 o i j).getD t 0 ∧ (impl_Matrix_matching.at3 o i j).getD t 0 < (p : Int) ∧ 0 ≤ (impl_Matrix_matching.at3 c i j).getD t 0 ∧ (impl_Matrix_matching.at3 c i j).getD t 0 < (p : Int)
instance impl_Matrix_matching.instFit (o c : List (List (List Int))) (d p : Nat) : Decidable (impl_Matrix_matching.Fit o c d p) := inferInstanceAs (Decidable (∀ i, i < d → _))
def impl_Matrix_matching.f (m : List (List Int)) : Option (List Int) :=
  if impl_Matrix_matching.Ok m ∧ impl_Matrix_matching.Fit (impl_Matrix_matching.m1 m m.length).1 (impl_Matrix_matching.m1 m m.length).2.1 m.length (impl_Matrix_matching.m1 m m.length).2.2 then
    some (impl_Matrix_matching.b1 (impl_Matrix_matching.m1 m m.length).1 (impl_Matrix_matching.m1 m m.length).2.1 m.length (List.replicate (impl_Matrix_matching.m1 m m.length).2.2 0) m.length) else none
def impl_Matrix_matching.Shp (d : Nat) (q : List (List (List Int))) (p : Nat) : Prop := q.length = d ∧ (∀ a, a < d → (q.getD a []).length = d) ∧ ∀ a b, (impl_Matrix_matching.at3 q a b).length ≤ p
theorem impl_Matrix_matching.ins_shp {d : Nat} {q : List (List (List Int))} {p : Nat} (h : impl_Matrix_matching.Shp d q p) (a b : Nat) : impl_Matrix_matching.Shp d (impl_Matrix_matching.ins q a b p) (p + 1) := by
 obtain ⟨h1, h2, h3⟩ := h
 unfold impl_Matrix_matching.ins
 have row : ∀ x, (q.set a ((q.getD a []).set b (impl_Matrix_matching.at3 q a b ++ [(p : Int)]))).getD x [] = if x = a ∧ a < q.length then (q.getD a []).set b (impl_Matrix_matching.at3 q a b ++ [(p : Int)]) else q.getD x [] := fun x => by {
 rw [List.getD_eq_getElem?_getD, List.getElem?_set]
 by_cases c : a = x
 · {
 subst c
 by_cases c2 : a < q.length
 · rw [if_pos rfl, if_pos c2, if_pos ⟨rfl, c2⟩]; rfl
 · rw [if_pos rfl, if_neg c2, if_neg (fun h => c2 h.2), List.getD_eq_getElem?_getD, List.getElem?_eq_none (by omega)]}
 · rw [if_neg c, if_neg (fun h => c h.1.symm), List.getD_eq_getElem?_getD]}
 refine ⟨by rw [List.length_set]; exact h1, fun x hx => ?_, fun x y => ?_⟩
 · {
 rw [row]
 split
 · rename_i c; rw [List.length_set, ← c.1]; exact h2 x hx
 · exact h2 x hx}
 · {
 show (List.getD (List.getD (q.set a ((q.getD a []).set b (impl_Matrix_matching.at3 q a b ++ [(p : Int)]))) x []) y []).length ≤ p + 1
 rw [row]
 split
 · {
 rename_i c
 obtain ⟨rfl, c2⟩ := c
 rw [List.getD_eq_getElem?_getD, List.getElem?_set]
 have h4 := h3 x b
 have h5 := h3 x y
 unfold impl_Matrix_matching.at3 at h4 h5
 split
 · {
 split
 · {
 show ((q.getD x []).getD b [] ++ [(p : Int)]).length ≤ p + 1
 rw [List.length_append, List.length_singleton]; omega}
 · show ([] : List Int).length ≤ p + 1; simp}
 · rw [← List.getD_eq_getElem?_getD]; omega}
 · {
 have := h3 x y
 unfold impl_Matrix_matching.at3 at this
 omega}}
theorem impl_Matrix_matching.o3_shp {d : Nat} {q : List (List (List Int))} {p : Nat} (h : impl_Matrix_matching.Shp d q p) (a b : Nat) : ∀ t, impl_Matrix_matching.Shp d (impl_Matrix_matching.o3 q a b p t) (p + t)
  | 0 => h
  | t + 1 => impl_Matrix_matching.ins_shp (impl_Matrix_matching.o3_shp h a b t) a b
theorem impl_Matrix_matching.Shp.more {d : Nat} {q : List (List (List Int))} {p p' : Nat} (h : impl_Matrix_matching.Shp d q p) (hp : p ≤ p') : impl_Matrix_matching.Shp d q p' := ⟨h.1, h.2.1, fun a b => Nat.le_trans (h.2.2 a b) hp⟩
theorem impl_Matrix_matching.cell_le {m : List (List Int)} (h : impl_Matrix_matching.Ok m) {i j : Nat} (hi : i < m.length) (hj : j < m.length) : impl_Matrix_matching.cell m i j ≤ 12 := by
 have := ((h.2 i hi).2 j hj).2
 unfold impl_Matrix_matching.cell; omega
theorem impl_Matrix_matching.o2_shp {m : List (List Int)} (h : impl_Matrix_matching.Ok m) {k : Nat} (hk : k < m.length) {q : List (List (List Int))} {p : Nat} (hq : impl_Matrix_matching.Shp m.length q p) : ∀ j, k + j ≤ m.length → impl_Matrix_matching.Shp m.length (impl_Matrix_matching.o2 m k q p j).1 (impl_Matrix_matching.o2 m k q p j).2 ∧ p ≤ (impl_Matrix_matching.o2 m k q p j).2 ∧ (impl_Matrix_matching.o2 m k q p j).2 ≤ p + 12 * j
  | 0, _ => ⟨hq, Nat.le_refl _, by show p ≤ p + 12 * 0; omega⟩
  | j + 1, hj => by
    obtain ⟨a, b, c⟩ := impl_Matrix_matching.o2_shp h hk hq j (by omega)
    have e := impl_Matrix_matching.cell_le h hk (show k + j < m.length by omega)
    rw [impl_Matrix_matching.o2]
    exact ⟨impl_Matrix_matching.o3_shp a _ _ _, by simp only []; omega, by simp only []; omega⟩
theorem impl_Matrix_matching.c2_shp {m : List (List Int)} (h : impl_Matrix_matching.Ok m) {k : Nat} (hk : k < m.length) {q : List (List (List Int))} {p : Nat} (hq : impl_Matrix_matching.Shp m.length q p) : ∀ i, i ≤ m.length → impl_Matrix_matching.Shp m.length (impl_Matrix_matching.c2 m k q p i).1 (impl_Matrix_matching.c2 m k q p i).2 ∧ p ≤ (impl_Matrix_matching.c2 m k q p i).2 ∧ (impl_Matrix_matching.c2 m k q p i).2 ≤ p + 12 * i
  | 0, _ => ⟨hq, Nat.le_refl _, by show p ≤ p + 12 * 0; omega⟩
  | i + 1, hi => by
    obtain ⟨a, b, c⟩ := impl_Matrix_matching.c2_shp h hk hq i (by omega)
    have e := impl_Matrix_matching.cell_le h (show i < m.length by omega) hk
    rw [impl_Matrix_matching.c2]
    exact ⟨impl_Matrix_matching.o3_shp a _ _ _, by simp only []; omega, by simp only []; omega⟩
theorem impl_Matrix_matching.m1_shp {m : List (List Int)} (h : impl_Matrix_matching.Ok m) : ∀ k, k ≤ m.length → impl_Matrix_matching.Shp m.length (impl_Matrix_matching.m1 m k).1 (impl_Matrix_matching.m1 m k).2.2 ∧ impl_Matrix_matching.Shp m.length (impl_Matrix_matching.m1 m k).2.1 (impl_Matrix_matching.m1 m k).2.2 ∧ (impl_Matrix_matching.m1 m k).2.2 ≤ 300 * k
  | 0, _ => by
    have e : impl_Matrix_matching.Shp m.length (List.replicate m.length (List.replicate m.length [])) 0 := by
      refine ⟨List.length_replicate, fun a ha => ?_, fun a b => ?_⟩
      · rw [List.getD_eq_getElem?_getD, List.getElem?_replicate, if_pos ha]; exact List.length_replicate
      · unfold impl_Matrix_matching.at3
        rw [List.getD_eq_getElem?_getD, List.getD_eq_getElem?_getD, List.getElem?_replicate]
        split
        · show ((List.replicate m.length ([] : List Int))[b]?.getD []).length ≤ 0
          rw [List.getElem?_replicate]; split <;> simp
        · simp
    exact ⟨e, e, Nat.zero_le _⟩
  | k + 1, hk => by
    obtain ⟨a, b, c⟩ := impl_Matrix_matching.m1_shp h k (by omega)
    have hm := h.1
    obtain ⟨a1, a2, a3⟩ := impl_Matrix_matching.o2_shp h (show k < m.length by omega) a (m.length - k) (by omega)
    obtain ⟨b1, b2, b3⟩ := impl_Matrix_matching.c2_shp h (show k < m.length by omega) (b.more a2) (k + 1) hk
    rw [impl_Matrix_matching.m1]
    exact ⟨a1.more b2, b1, by simp only []; omega⟩
theorem impl_Matrix_matching.b3_len (us vs : List Int) (out : List Int) : ∀ t, (impl_Matrix_matching.b3 us vs out t).length = out.length
  | 0 => rfl
  | t + 1 => by rw [impl_Matrix_matching.b3, List.length_set, List.length_set, impl_Matrix_matching.b3_len us vs out t]
theorem impl_Matrix_matching.b2_len (o c : List (List (List Int))) (i : Nat) (out : List Int) : ∀ t, (impl_Matrix_matching.b2 o c i out t).length = out.length
  | 0 => rfl
  | t + 1 => by rw [impl_Matrix_matching.b2, impl_Matrix_matching.b3_len, impl_Matrix_matching.b2_len o c i out t]
theorem impl_Matrix_matching.b1_len (o c : List (List (List Int))) (d : Nat) (out : List Int) : ∀ t, (impl_Matrix_matching.b1 o c d out t).length = out.length
  | 0 => rfl
  | t + 1 => by rw [impl_Matrix_matching.b1, impl_Matrix_matching.b2_len, impl_Matrix_matching.b1_len o c d out t]
set_option maxHeartbeats 8000000 in
set_option maxRecDepth 100000 in
open Go.Proofs.Ytacdlipojhoilaa.Live in
theorem impl_Matrix_matching.calls (A0 : Option Addr) (c0 : Nat) (l0 : List (List Int)) (r : List Int) (w : World) (hr0 : Kd.C (Kd.slice 3 (Kd.int .i64)) w A0 l0.length l0) (hc0 : l0.length ≤ c0) (h : impl_Matrix_matching.f l0 = some r) :
    Calls Try.prog 80 #[.agg #[.slice A0 l0.length c0]] w fun e w' => ∃ v0_ : Value, e = .returned (v0_) ∧ (Kd.int .i64).R 3 w' w.heap.size (fun _ => True) v0_ r ∧ Below w.heap.size w w' := by
 have HC := aM hr0; have HL := aM hc0; clear hr0 hc0
 unfold impl_Matrix_matching.f at h
 by_cases hk : impl_Matrix_matching.Ok l0 ∧ impl_Matrix_matching.Fit (impl_Matrix_matching.m1 l0 l0.length).1 (impl_Matrix_matching.m1 l0 l0.length).2.1 l0.length (impl_Matrix_matching.m1 l0 l0.length).2.2
 case neg => rw [if_neg hk] at h; exact absurd h (by simp)
 rw [if_pos hk] at h
 obtain rfl := Option.some.inj h
 clear h
 have HOK := aM hk.1; have HFIT := aM hk.2
 have hd12 : l0.length ≤ 12 := hk.1.1
 clear hk
 obtain ⟨d, hd⟩ : ∃ d, d = l0.length := ⟨_, rfl⟩
 have HD := aM hd
 have eOF := aM (show impl_ofLists.f (d : Int) = some (List.replicate d (List.replicate d [])) from by
  unfold impl_ofLists.f
  rw [if_pos ⟨by omega, by omega⟩, Int.toNat_natCast])
 rw [← hd] at HC HL HFIT hd12 ⊢
 clear hd
 have HSZ : Aside0 (∀ W : World, Below w.heap.size w W → Calls Try.prog 89 #[.agg #[.slice A0 d c0]] W fun e w' => e = .returned (.int .i64 (d : Int)) ∧ Below W.heap.size W w') := ⟨by
  have hl := HL.out; have hc := HC.out; have e := HD.out
  clear HL HC HD eOF HFIT hd12
  subst e
  exact fun W hW => impl_Matrix_size.calls A0 c0 l0 _ W (Kd.C_below hc hW) hl rfl⟩
 have H := aM ((Live.start w).new #[.slice A0 d c0] 36)
 go_enter Try.func80, Try.ntmps80
 go_wp2_with (fail)
 go_cut [3, 4] (fun s3 s4 wx => ∃ (Aa : Option Addr) (ca : Nat) (Ab : Option Addr) (cb : Nat), s3 = .slice Aa d ca ∧ s4 = .slice Ab d cb ∧ Aside0 (Live w wx [var w.heap.size #[.slice A0 d c0] 36, rows (sl 24 (Kd.slice 3 (Kd.int .i64))) 34 (.slice Aa d ca) (List.replicate d (List.replicate d [])), rows (sl 24 (Kd.slice 3 (Kd.int .i64))) 34 (.slice Ab d cb) (List.replicate d (List.replicate d []))]))
 case first => (
 go_region_held3 (fun w' => w'.cell? ⟨w.heap.size, 0, none⟩ = some (.slice A0 d c0) ∧ Live w w' [var w.heap.size #[.slice A0 d c0] 36]) (refine ⟨Live.cell (w0 := w) (L := [var w.heap.size #[.slice A0 d c0] 36]) ?_ 0 rfl 0, ?_⟩ <;> ((repeat (first | assumption | exact H.out | apply Live.alloc | apply Live.drew | apply Live.drewN)); done)) (first | (go_at_call 89; refine (HSZ.out _ (Live.below (w0 := w) (L := [var w.heap.size #[.slice A0 d c0] 36]) ?c1)).mono ?_; (case c1 => ((repeat (first | assumption | exact H.out | apply Live.alloc | apply Live.drew | apply Live.drewN)); done)); rintro e w' ⟨rfl, hb⟩; refine step_k (w0 := w) (L := [var w.heap.size #[.slice A0 d c0] 36]) ?c3 hb (fun HS => ?_); (case c3 => ((repeat (first | assumption | exact H.out | apply Live.alloc | apply Live.drew | apply Live.drewN)); done)); (first | (replace H6 := Live.step H6 hb) | skip)) | (go_at_call 130; refine (impl_ofLists.calls _ _ _ eOF.out).mono ?_; rintro e w' ⟨v_, rfl, hs_, hb⟩; refine step_k (w0 := w) (L := [var w.heap.size #[.slice A0 d c0] 36]) ?c3 hb (fun HS => ?_); (case c3 => ((repeat (first | assumption | exact H.out | apply Live.alloc | apply Live.drew | apply Live.drewN)); done)); obtain ⟨Ao, co, rfl, _, _⟩ := Kd.S_reads hs_; rw [List.length_replicate] at *; (first | (have H7 := Live.add (o := rows (sl 24 (Kd.slice 3 (Kd.int .i64))) 34 (.slice Ao d co) (List.replicate d (List.replicate d []))) H6 hb hs_) | (refine add_k (w0 := w) (L := [var w.heap.size #[.slice A0 d c0] 36]) (o := rows (sl 24 (Kd.slice 3 (Kd.int .i64))) 34 (.slice Ao d co) (List.replicate d (List.replicate d []))) ?c2 hb hs_ (fun H6 => ?_); (case c2 => ((repeat (first | assumption | exact H.out | apply Live.alloc | apply Live.drew | apply Live.drewN)); done))))))
 all_goals (go_wp2_with fail; go_meet)
 all_goals exact ⟨_, _, _, _, rfl, rfl, ⟨H7⟩⟩)
 case rest => (
 rename_i aK
 obtain ⟨Aa, ca, Ab, cb, rfl, rfl, HZ⟩ := hcut
 clear H
 have H := HZ; clear HZ
 refine aK _ _ ?_
 have k1 : wc.cell? ⟨w.heap.size, 0, none⟩ = some (.slice A0 d c0) := H.out.cell 0 rfl 0
 go_wp2_with (first | (go_at_call 89; refine (HSZ.out _ H.out.below).mono ?_; rintro e w' ⟨rfl, hb⟩; replace H := aM (H.out.step hb); clear hb))
 go_loopg [5, 25] (d + 1) (fun kq v5 v25 w' => ∃ i : Nat, v25 = .int .i64 (i : Int) ∧ v5 = .int .i64 ((impl_Matrix_matching.m1 l0 i).2.2 : Int) ∧ Aside0 (i ≤ d ∧ kq = d - i + 1) ∧ Aside0 (Live w w' [var w.heap.size #[.slice A0 d c0] 36, rows (sl 24 (Kd.slice 3 (Kd.int .i64))) 34 (.slice Aa d ca) (impl_Matrix_matching.m1 l0 i).1, rows (sl 24 (Kd.slice 3 (Kd.int .i64))) 34 (.slice Ab d cb) (impl_Matrix_matching.m1 l0 i).2.1]))
 case atStart => exact ⟨0, rfl, rfl, ⟨Nat.zero_le _, rfl⟩, by rw [impl_Matrix_matching.m1]; rw [← HD.out]; exact H⟩
 case round => (
 clear H k1
 obtain ⟨i, rfl, rfl, HI, H⟩ := hrel
 have HSH := aM (impl_Matrix_matching.m1_shp HOK.out i (by rw [← HD.out]; exact HI.out.1))
 obtain ⟨Q, hQ⟩ : ∃ Q, Q = (impl_Matrix_matching.m1 l0 i).1 := ⟨_, rfl⟩
 obtain ⟨R, hR⟩ : ∃ R, R = (impl_Matrix_matching.m1 l0 i).2.1 := ⟨_, rfl⟩
 obtain ⟨p, hp⟩ : ∃ p, p = (impl_Matrix_matching.m1 l0 i).2.2 := ⟨_, rfl⟩
 rw [← hQ, ← hR, ← hp] at HSH
 rw [← hQ, ← hR] at H
 rw [← hp]
 rw [← HD.out] at HSH
 have HQ := aM hQ; have HR := aM hR; have HP := aM hp
 clear hQ hR hp
 by_cases ci : i < d
 · {
 have c1 : decide ((i : Int) < (d : Int)) = true := decide_eq_true (by omega)
 have c2 : decide (i < d) = true := decide_eq_true ci
 have HSO := aM (fun j (hj : i + j ≤ d) => impl_Matrix_matching.o2_shp HOK.out (show i < l0.length by rw [← HD.out]; exact ci) (by rw [← HD.out]; exact HSH.out.1) j (by rw [← HD.out]; exact hj))
 rw [← HD.out] at HSO
 go_wp2_with (fail)
 go_loopg [5, 7] (d - i + 1) (fun kq v5 v7 w' => ∃ b : Nat, v7 = .int .i64 (b : Int) ∧ v5 = .int .i64 ((impl_Matrix_matching.o2 l0 i Q p (b - i)).2 : Int) ∧ Aside0 (i ≤ b ∧ b ≤ d ∧ kq = d - b + 1) ∧ Aside0 (Live w w' [var w.heap.size #[.slice A0 d c0] 36, rows (sl 24 (Kd.slice 3 (Kd.int .i64))) 34 (.slice Aa d ca) (impl_Matrix_matching.o2 l0 i Q p (b - i)).1, rows (sl 24 (Kd.slice 3 (Kd.int .i64))) 34 (.slice Ab d cb) R]))
 case atStart => exact ⟨i, rfl, by rw [Nat.sub_self]; rfl, ⟨by omega, by omega, by omega⟩, by rw [Nat.sub_self]; exact H⟩
 case round => (
 clear H
 obtain ⟨b, rfl, rfl, HJ, H⟩ := hrel
 have HS2 := aM (HSO.out (b - i) (by have := HJ.out; omega))
 obtain ⟨Q2, hQ2⟩ : ∃ Q2, Q2 = (impl_Matrix_matching.o2 l0 i Q p (b - i)).1 := ⟨_, rfl⟩
 obtain ⟨p2, hp2⟩ : ∃ p2, p2 = (impl_Matrix_matching.o2 l0 i Q p (b - i)).2 := ⟨_, rfl⟩
 rw [← hQ2, ← hp2] at HS2
 rw [← hQ2] at H
 rw [← hp2]
 have HQ2 := aM hQ2; have HP2 := aM hp2
 clear hQ2 hp2
 by_cases cj : b < d
 · {
 have d1 : decide ((b : Int) < (d : Int)) = true := decide_eq_true (by omega)
 have d2 : decide (b < d) = true := decide_eq_true cj
 have hrl : (l0.getD i []).length = d := by rw [HD.out]; exact (HOK.out.2 i (by rw [← HD.out]; exact ci)).1
 obtain ⟨ad, A1, c1_, rfl, hx1, hl1, hC1⟩ := C_row HC.out i ci
 rw [hrl] at hx1 hl1 hC1
 obtain ⟨ad2, rfl, hx2⟩ := C_num hC1 b cj
 obtain ⟨n, hn⟩ : ∃ n : Nat, (l0.getD i []).getD b 0 = (n : Int) := ⟨impl_Matrix_matching.cell l0 i b, by
  have := ((HOK.out.2 i (by rw [← HD.out]; exact ci)).2 b (by rw [← HD.out]; exact cj)).1
  unfold impl_Matrix_matching.cell; omega⟩
 have hcell : impl_Matrix_matching.cell l0 i b = n := by unfold impl_Matrix_matching.cell; rw [hn]; rfl
 rw [hn] at hx2
 have HN := aM hcell
 have hn12 : n ≤ 12 := by rw [← hcell]; exact impl_Matrix_matching.cell_le HOK.out (by rw [← HD.out]; exact ci) (by rw [← HD.out]; exact cj)
 have X1 := aM hx1; have X2 := aM hx2
 clear hx1 hx2 hC1 hl1 hn hcell hrl
 have k1 : wr.cell? ⟨w.heap.size, 0, none⟩ = some (.slice (some ad) d c0) := H.out.cell 0 rfl 0
 go_wp2_with (first | (go_at_call 89; refine (HSZ.out _ H.out.below).mono ?_; rintro e w' ⟨rfl, hb⟩; replace H := aM (H.out.step hb); clear hb; have k1 : w'.cell? ⟨w.heap.size, 0, none⟩ = some (.slice (some ad) d c0) := H.out.cell 0 rfl 0; have k2 := (H.out.below.cell (World.block_lt_of_cell? w _ X1.out)).trans X1.out; have k3 := (H.out.below.cell (World.block_lt_of_cell? w _ X2.out)).trans X2.out))
 clear k1 k2 k3
 have HS3 := aM (fun t => impl_Matrix_matching.o3_shp HS2.out.1 i b t)
 go_loopg [5, 43] (n + 1) (fun kq v5 v43 w' => ∃ t : Nat, v43 = .int .i64 (t : Int) ∧ v5 = .int .i64 ((p2 + t : Nat) : Int) ∧ Aside0 (t ≤ n ∧ kq = n - t + 1) ∧ Aside0 (Live w w' [var w.heap.size #[.slice (some ad) d c0] 36, rows (sl 24 (Kd.slice 3 (Kd.int .i64))) 34 (.slice Aa d ca) (impl_Matrix_matching.o3 Q2 i b p2 t), rows (sl 24 (Kd.slice 3 (Kd.int .i64))) 34 (.slice Ab d cb) R]))
 case atStart => exact ⟨0, rfl, rfl, ⟨by omega, by omega⟩, H⟩
 case round => (
 clear H
 obtain ⟨t, rfl, rfl, HT, H⟩ := hrel
 by_cases ct : t < n
 · {
 have e1 : decide ((t : Int) < (n : Int)) = true := decide_eq_true (by omega)
 have e2 : decide (t < n) = true := decide_eq_true ct
 have HS4 := aM (HS3.out t)
 obtain ⟨q, hq⟩ : ∃ q, q = impl_Matrix_matching.o3 Q2 i b p2 t := ⟨_, rfl⟩
 rw [← hq] at HS4 H
 have HDD := HD.out
 have hq1 : q.length = d := HS4.out.1
 have hq2 : (q.getD i []).length = d := HS4.out.2.1 i ci
 obtain ⟨s, hs⟩ : ∃ s, s = p2 + t := ⟨_, rfl⟩
 rw [← hs] at HS4 ⊢
 obtain ⟨L_, hL⟩ : ∃ L_, L_ = impl_Matrix_matching.at3 q i b := ⟨_, rfl⟩
 have hLL : L_.length ≤ s := by rw [hL]; exact HS4.out.2.2 i b
 have hp2 : p2 ≤ 3900 := by {
 have a1 := HS2.out.2.2
 have a2 := HSH.out.2.2
 omega}
 obtain ⟨gA, cA, eA, _, _⟩ := H.out.forms1 1 rfl (by rw [hq1]; omega)
 injection eA with ea en ec
 subst ea; subst ec; clear en
 obtain ⟨ga, ca_, v, ha, hb_, hf_, hsz, hga, hgl, hown, hneB, hneA, hback⟩ := H.out.drew.cubeAt 1 rfl i b (by rw [hq1]; omega) (by rw [hq2]; omega)
 rw [hq2] at ha
 rw [show (q.getD i []).getD b [] = L_ from hL.symm] at hown
 have HT1 := aM (show t + 1 ≤ n ∧ n - t = n - (t + 1) + 1 by omega)
 have ES := aM (show wrap64 ((s : Int) + 1) = ((p2 + (t + 1) : Nat) : Int) from by unfold wrap64; omega)
 have HOWN := aM hown; have HBK := aM hback; have HLL := aM (show L_.length ≤ 4000 by omega); have HSB := aM (show s ≤ 4000 by omega); have HBW := aM H.out.drew.below
 have HSE := aM hs; have HQE := aM hq; have HLE := aM hL
 clear hown hback hLL hq1 hq2 hq hL hs HDD
 go_wp2_with (fail)
 refine start_ (n := 17) (S := fun w' => w'.cell? ⟨gA, i, none⟩ = some (.slice (some ⟨ga, 0, none⟩) d ca_) ∧ w'.cell? ⟨ga, b, none⟩ = some v) (ds := [16]) #[false, false, false, false, false, false, false, false, false, false, false, false, false, false, false, false, false] (by kernel_rfl) rfl rfl ⟨ha, hb_⟩ (fun hHeld => ?_)
 refine pA 0 45 (h := ?_)
 refine pA 1 46 (h := ?_)
 refine pA 2 47 (h := ?_)
 refine tA 3 48 hHeld (h := ?_)
 refine pA 4 49 (h := ?_)
 refine pA 5 50 (h := ?_)
 refine pA 6 51 (h := ?_)
 refine pA 7 52 (h := ?_)
 refine tA 8 53 hHeld (h := ?_)
 refine pA 9 54 (h := ?_)
 refine pA 10 55 (h := ?_)
 refine tA 11 56 hHeld (h := ?_)
 refine pA 12 57 (h := ?_)
 refine one_ (i := 13) (N := some 58) #[true, true, true, true, true, true, true, true, true, true, true, true, true, true, false, false, false] rfl rfl (by kernel_rfl) (by decide) (fun K hK => ?_)
 refine value_ (w1 := ?_) (v := ?_) (by rfl) rfl ?_ ?_
 rotate_left 2
 · {
 go_simp
 constructor
 · rfl
 · rfl}
 refine hK.out _ _ ⟨pw_cell_below (below_alloc (Below.refl _ _) _) ha, pw_cell_below (below_alloc (Below.refl _ _) _) hb_⟩ (fun hHeld => ?_)
 clear hK K
 refine nA 58 (h := ?_)
 refine one_ (i := 14) (N := some 59) #[true, true, true, true, true, true, true, true, true, true, true, true, true, true, true, false, false] rfl rfl (by kernel_rfl) (by decide) (fun K hK => ?_)
 refine Kd.R_append_step (Kd.int .i64) (w0 := w) w.heap.size (by rfl) (.tmp 56) (.tmp 58) 24 3 (.int .i64 0) 8 rfl Try.underlying24 (by kernel_rfl) rfl (by decide) (by omega) v L_ ((s : Nat) : Int) [.int .i64 ((s : Nat) : Int)] (fun _ => True) (fun _ => False) rfl rfl rfl (fun _ h => h.elim) (fun _ _ => trivial) (Kd.R_of_own (enc := Value.int .i64) HOWN.out (fun _ _ => trivial)) HBW.out hsz (by have := HLL.out; omega) ?_
 intro v1 w1 ho_ hbb hg_ hat_
 have HF := aM (HBK.out w1 v1 _ (Kd.own_of_R ho_) hg_ hat_)
 have ha1 := cell_grown hg_ ha hneA
 have hb1 := cell_grown hg_ hb_ hneB
 have hf1 : w1.frozen? ⟨ga, b, none⟩ = false := (hg_.frozen_far ⟨ga, b, none⟩ hgl hneB).trans hf_
 obtain ⟨Ao, co, rfl⟩ := Kd.R_slice ho_
 clear ho_ hbb hg_ hat_
 refine hK.out _ _ ⟨ha1, hb1⟩ (fun hHeld => ?_)
 clear hK K
 refine nA 59 (h := ?_)
 refine pA 15 60 (h := ?_)
 refine last_ (i := 16) (N := none) #[true, true, true, true, true, true, true, true, true, true, true, true, true, true, true, true, true] rfl rfl (by kernel_rfl) (by decide) (fun K hK => ?_)
 refine skip_ (w1 := ?_) (by rfl) rfl ?_ ?_
 rotate_left
 · {
 go_simp
 rfl}
 refine hK.out _ _ ?_
 clear hK K
 refine done_ (by kernel_rfl) ?_
 go_wp2
 go_roundg (n - t)
 case measure => have := HT.out; omega
 case rel => (
 have hins : impl_Matrix_matching.o3 Q2 i b p2 (t + 1) = q.set i ((q.getD i []).set b (L_ ++ [(s : Int)])) := by rw [impl_Matrix_matching.o3, ← HQE.out, ← HSE.out, impl_Matrix_matching.ins, ← HLE.out]
 exact ⟨t + 1, by first | rfl | simp, by rw [ES.out], HT1, ⟨by rw [hins]; have HF2 := HF.out; rw [show (L_ ++ [(s : Int)]).length = L_.length + 1 from by simp] at HF2; exact HF2⟩⟩)}
 · {
 have e1 : decide ((t : Int) < (n : Int)) = false := decide_eq_false (by omega)
 have e2 : decide (t < n) = false := decide_eq_false ct
 go_wp2_with (fail)
 go_roundg (d - b)
 case measure => have := HJ.out; omega
 case rel => (
 obtain rfl : t = n := by have := HT.out; omega
 have eb : b + 1 - i = (b - i) + 1 := by have := HJ.out; omega
 have eb2 : i + (b - i) = b := by have := HJ.out; omega
 have E : impl_Matrix_matching.o2 l0 i Q p (b + 1 - i) = (impl_Matrix_matching.o3 Q2 i b p2 t, p2 + t) := by rw [eb, impl_Matrix_matching.o2, eb2, ← HQ2.out, ← HP2.out, HN.out]
 exact ⟨b + 1, by first | rfl | simp, by rw [E], ⟨by omega, by omega, by omega⟩, ⟨by rw [E]; exact H.out⟩⟩)})}
 · {
 have d1 : decide ((b : Int) < (d : Int)) = false := decide_eq_false (by omega)
 have d2 : decide (b < d) = false := decide_eq_false cj
 have ebd : b = d := by have := HJ.out; omega
 subst b
 have k1 : wr.cell? ⟨w.heap.size, 0, none⟩ = some (.slice A0 d c0) := H.out.cell 0 rfl 0
 go_wp2_with (first | (go_at_call 89; refine (HSZ.out _ H.out.below).mono ?_; rintro e w' ⟨rfl, hb⟩; replace H := aM (H.out.step hb); clear hb))
 have HSC := aM (fun a (ha : a ≤ d) => impl_Matrix_matching.c2_shp HOK.out (show i < l0.length by rw [← HD.out]; exact ci) (show impl_Matrix_matching.Shp l0.length R p2 by rw [← HD.out]; exact HSH.out.2.1.more HS2.out.2.1) a (by rw [← HD.out]; exact ha))
 rw [← HD.out] at HSC
 clear k1
 go_loopg [5, 66] (i + 2) (fun kq v5 v66 w' => ∃ a : Nat, v66 = .int .i64 (a : Int) ∧ v5 = .int .i64 ((impl_Matrix_matching.c2 l0 i R p2 a).2 : Int) ∧ Aside0 (a ≤ i + 1 ∧ kq = i + 1 - a + 1) ∧ Aside0 (Live w w' [var w.heap.size #[.slice A0 d c0] 36, rows (sl 24 (Kd.slice 3 (Kd.int .i64))) 34 (.slice Aa d ca) Q2, rows (sl 24 (Kd.slice 3 (Kd.int .i64))) 34 (.slice Ab d cb) (impl_Matrix_matching.c2 l0 i R p2 a).1]))
 case atStart => exact ⟨0, rfl, rfl, ⟨by omega, by omega⟩, H⟩
 case round => (
 clear H
 obtain ⟨a, rfl, rfl, HA, H⟩ := hrel
 have HS5 := aM (HSC.out a (by have := HA.out; omega))
 obtain ⟨Q4, hQ4⟩ : ∃ Q4, Q4 = (impl_Matrix_matching.c2 l0 i R p2 a).1 := ⟨_, rfl⟩
 obtain ⟨p4, hp4⟩ : ∃ p4, p4 = (impl_Matrix_matching.c2 l0 i R p2 a).2 := ⟨_, rfl⟩
 rw [← hQ4, ← hp4] at HS5
 rw [← hQ4] at H
 rw [← hp4]
 have HQ4 := aM hQ4; have HP4 := aM hp4
 clear hQ4 hp4
 by_cases ca_ : a < i + 1
 · {
 have f1 : decide ((a : Int) < (i : Int) + 1) = true := decide_eq_true (by omega)
 have f2 : decide (a < i + 1) = true := decide_eq_true ca_
 have f3 : decide (a < d) = true := decide_eq_true (by omega)
 have f4 : decide ((a : Int) < (d : Int)) = true := decide_eq_true (by omega)
 have had : a < d := by omega
 have hrl : (l0.getD a []).length = d := by rw [HD.out]; exact (HOK.out.2 a (by rw [← HD.out]; exact had)).1
 obtain ⟨ad, A1, c1_, rfl, hx1, hl1, hC1⟩ := C_row HC.out a had
 rw [hrl] at hx1 hl1 hC1
 obtain ⟨ad2, rfl, hx2⟩ := C_num hC1 i ci
 obtain ⟨n, hn⟩ : ∃ n : Nat, (l0.getD a []).getD i 0 = (n : Int) := ⟨impl_Matrix_matching.cell l0 a i, by
  have := ((HOK.out.2 a (by rw [← HD.out]; exact had)).2 i (by rw [← HD.out]; exact ci)).1
  unfold impl_Matrix_matching.cell; omega⟩
 have hcell : impl_Matrix_matching.cell l0 a i = n := by unfold impl_Matrix_matching.cell; rw [hn]; rfl
 rw [hn] at hx2
 have HN := aM hcell
 have hn12 : n ≤ 12 := by rw [← hcell]; exact impl_Matrix_matching.cell_le HOK.out (by rw [← HD.out]; exact had) (by rw [← HD.out]; exact ci)
 have k1 : wr.cell? ⟨w.heap.size, 0, none⟩ = some (.slice (some ad) d c0) := H.out.cell 0 rfl 0
 have k2 := (H.out.below.cell (World.block_lt_of_cell? w _ hx1)).trans hx1
 have k3 := (H.out.below.cell (World.block_lt_of_cell? w _ hx2)).trans hx2
 clear hx1 hx2 hC1 hl1 hn hcell hrl
 go_wp2_with (fail)
 clear k1 k2 k3
 have HS3 := aM (fun t => impl_Matrix_matching.o3_shp HS5.out.1 a i t)
 go_loopg [5, 77] (n + 1) (fun kq v5 v77 w' => ∃ t : Nat, v77 = .int .i64 (t : Int) ∧ v5 = .int .i64 ((p4 + t : Nat) : Int) ∧ Aside0 (t ≤ n ∧ kq = n - t + 1) ∧ Aside0 (Live w w' [var w.heap.size #[.slice (some ad) d c0] 36, rows (sl 24 (Kd.slice 3 (Kd.int .i64))) 34 (.slice Aa d ca) Q2, rows (sl 24 (Kd.slice 3 (Kd.int .i64))) 34 (.slice Ab d cb) (impl_Matrix_matching.o3 Q4 a i p4 t)]))
 case atStart => exact ⟨0, rfl, rfl, ⟨by omega, by omega⟩, H⟩
 case round => (
 clear H
 obtain ⟨t, rfl, rfl, HT, H⟩ := hrel
 by_cases ct : t < n
 · {
 have e1 : decide ((t : Int) < (n : Int)) = true := decide_eq_true (by omega)
 have e2 : decide (t < n) = true := decide_eq_true ct
 have HS4 := aM (HS3.out t)
 obtain ⟨q, hq⟩ : ∃ q, q = impl_Matrix_matching.o3 Q4 a i p4 t := ⟨_, rfl⟩
 rw [← hq] at HS4 H
 have HDD := HD.out
 have hq1 : q.length = d := HS4.out.1
 have hq2 : (q.getD a []).length = d := HS4.out.2.1 a had
 obtain ⟨s, hs⟩ : ∃ s, s = p4 + t := ⟨_, rfl⟩
 rw [← hs] at HS4 ⊢
 obtain ⟨L_, hL⟩ : ∃ L_, L_ = impl_Matrix_matching.at3 q a i := ⟨_, rfl⟩
 have hLL : L_.length ≤ s := by rw [hL]; exact HS4.out.2.2 a i
 have hp2 : p4 ≤ 3950 := by {
 have a1 := HS2.out.2.2
 have a2 := HSH.out.2.2
 have a3 := HS5.out.2.2
 have a4 := HA.out
 omega}
 obtain ⟨gB, cB, eA, _, _⟩ := H.out.forms1 2 rfl (by rw [hq1]; omega)
 injection eA with ea en ec
 subst ea; subst ec; clear en
 obtain ⟨ga, ca_, v, ha, hb_, hf_, hsz, hga, hgl, hown, hneB, hneA, hback⟩ := H.out.drew.cubeAt 2 rfl a i (by rw [hq1]; omega) (by rw [hq2]; omega)
 rw [hq2] at ha
 rw [show (q.getD a []).getD i [] = L_ from hL.symm] at hown
 have HT1 := aM (show t + 1 ≤ n ∧ n - t = n - (t + 1) + 1 by omega)
 have ES := aM (show wrap64 ((s : Int) + 1) = ((p4 + (t + 1) : Nat) : Int) from by unfold wrap64; omega)
 have HOWN := aM hown; have HBK := aM hback; have HLL := aM (show L_.length ≤ 4000 by omega); have HSB := aM (show s ≤ 4000 by omega); have HBW := aM H.out.drew.below
 have HSE := aM hs; have HQE := aM hq; have HLE := aM hL
 clear hown hback hLL hq1 hq2 hq hL hs HDD
 go_wp2_with (fail)
 refine start_ (n := 17) (S := fun w' => w'.cell? ⟨gB, a, none⟩ = some (.slice (some ⟨ga, 0, none⟩) d ca_) ∧ w'.cell? ⟨ga, i, none⟩ = some v) (ds := [16]) #[false, false, false, false, false, false, false, false, false, false, false, false, false, false, false, false, false] (by kernel_rfl) rfl rfl ⟨ha, hb_⟩ (fun hHeld => ?_)
 refine pA 0 79 (h := ?_)
 refine pA 1 80 (h := ?_)
 refine pA 2 81 (h := ?_)
 refine tA 3 82 hHeld (h := ?_)
 refine pA 4 83 (h := ?_)
 refine pA 5 84 (h := ?_)
 refine pA 6 85 (h := ?_)
 refine pA 7 86 (h := ?_)
 refine tA 8 87 hHeld (h := ?_)
 refine pA 9 88 (h := ?_)
 refine pA 10 89 (h := ?_)
 refine tA 11 90 hHeld (h := ?_)
 refine pA 12 91 (h := ?_)
 refine one_ (i := 13) (N := some 92) #[true, true, true, true, true, true, true, true, true, true, true, true, true, true, false, false, false] rfl rfl (by kernel_rfl) (by decide) (fun K hK => ?_)
 refine value_ (w1 := ?_) (v := ?_) (by rfl) rfl ?_ ?_
 rotate_left 2
 · {
 go_simp
 constructor
 · rfl
 · rfl}
 refine hK.out _ _ ⟨pw_cell_below (below_alloc (Below.refl _ _) _) ha, pw_cell_below (below_alloc (Below.refl _ _) _) hb_⟩ (fun hHeld => ?_)
 clear hK K
 refine nA 92 (h := ?_)
 refine one_ (i := 14) (N := some 93) #[true, true, true, true, true, true, true, true, true, true, true, true, true, true, true, false, false] rfl rfl (by kernel_rfl) (by decide) (fun K hK => ?_)
 refine Kd.R_append_step (Kd.int .i64) (w0 := w) w.heap.size (by rfl) (.tmp 90) (.tmp 92) 24 3 (.int .i64 0) 8 rfl Try.underlying24 (by kernel_rfl) rfl (by decide) (by omega) v L_ ((s : Nat) : Int) [.int .i64 ((s : Nat) : Int)] (fun _ => True) (fun _ => False) rfl rfl rfl (fun _ h => h.elim) (fun _ _ => trivial) (Kd.R_of_own (enc := Value.int .i64) HOWN.out (fun _ _ => trivial)) HBW.out hsz (by have := HLL.out; omega) ?_
 intro v1 w1 ho_ hbb hg_ hat_
 have HF := aM (HBK.out w1 v1 _ (Kd.own_of_R ho_) hg_ hat_)
 have ha1 := cell_grown hg_ ha hneA
 have hb1 := cell_grown hg_ hb_ hneB
 have hf1 : w1.frozen? ⟨ga, i, none⟩ = false := (hg_.frozen_far ⟨ga, i, none⟩ hgl hneB).trans hf_
 obtain ⟨Ao, co, rfl⟩ := Kd.R_slice ho_
 clear ho_ hbb hg_ hat_
 refine hK.out _ _ ⟨ha1, hb1⟩ (fun hHeld => ?_)
 clear hK K
 refine nA 93 (h := ?_)
 refine pA 15 94 (h := ?_)
 refine last_ (i := 16) (N := none) #[true, true, true, true, true, true, true, true, true, true, true, true, true, true, true, true, true] rfl rfl (by kernel_rfl) (by decide) (fun K hK => ?_)
 refine skip_ (w1 := ?_) (by rfl) rfl ?_ ?_
 rotate_left
 · {
 go_simp
 rfl}
 refine hK.out _ _ ?_
 clear hK K
 refine done_ (by kernel_rfl) ?_
 go_wp2
 go_roundg (n - t)
 case measure => have := HT.out; omega
 case rel => (
 have hins : impl_Matrix_matching.o3 Q4 a i p4 (t + 1) = q.set a ((q.getD a []).set i (L_ ++ [(s : Int)])) := by rw [impl_Matrix_matching.o3, ← HQE.out, ← HSE.out, impl_Matrix_matching.ins, ← HLE.out]
 exact ⟨t + 1, by first | rfl | simp, by rw [ES.out], HT1, ⟨by rw [hins]; have HF2 := HF.out; rw [show (L_ ++ [(s : Int)]).length = L_.length + 1 from by simp] at HF2; exact HF2⟩⟩)}
 · {
 have e1 : decide ((t : Int) < (n : Int)) = false := decide_eq_false (by omega)
 have e2 : decide (t < n) = false := decide_eq_false ct
 go_wp2_with (fail)
 go_roundg (i + 1 - a)
 case measure => have := HA.out; omega
 case rel => (
 obtain rfl : t = n := by have := HT.out; omega
 have E : impl_Matrix_matching.c2 l0 i R p2 (a + 1) = (impl_Matrix_matching.o3 Q4 a i p4 t, p4 + t) := by rw [impl_Matrix_matching.c2, ← HQ4.out, ← HP4.out, HN.out]
 exact ⟨a + 1, by first | rfl | simp, by rw [E], ⟨by omega, by omega⟩, ⟨by rw [E]; exact H.out⟩⟩)})}
 · {
 have f1 : decide ((a : Int) < (i : Int) + 1) = false := decide_eq_false (by omega)
 have f2 : decide (a < i + 1) = false := decide_eq_false ca_
 go_wp2_with (fail)
 go_roundg (d - i)
 case measure => have := HI.out; omega
 case rel => (
 obtain rfl : a = i + 1 := by have := HA.out; omega
 have E : impl_Matrix_matching.m1 l0 (i + 1) = (Q2, Q4, p4) := by rw [impl_Matrix_matching.m1, ← HQ.out, ← HR.out, ← HP.out, ← HD.out, ← HQ2.out, ← HP2.out, ← HQ4.out, ← HP4.out]
 exact ⟨i + 1, by first | rfl | simp, by rw [E], ⟨by omega, by omega⟩, ⟨by rw [E]; exact H.out⟩⟩)})})}
 · {
 have c1 : decide ((i : Int) < (d : Int)) = false := decide_eq_false (by omega)
 have c2 : decide (i < d) = false := decide_eq_false ci
 have eid : i = d := by have := HI.out; omega
 subst i
 have hp4 : p ≤ 3600 := by have := HSH.out.2.2; omega
 have HFQ := aM (show impl_Matrix_matching.Fit Q R d p by rw [HQ.out, HR.out, HP.out]; exact HFIT.out)
 have HCA := aM (show Kd.C (Kd.slice 24 (Kd.slice 3 (Kd.int .i64))) wr Aa d Q by have h := (H.out.nows 1 rfl).2.2; rw [HSH.out.1.1] at h; exact h)
 have HCB := aM (show Kd.C (Kd.slice 24 (Kd.slice 3 (Kd.int .i64))) wr Ab d R by have h := (H.out.nows 2 rfl).2.2; rw [HSH.out.2.1.1] at h; exact h)
 rename World => wM
 have HBM := aM H.out.below
 have p1 : decide (0 ≤ (p : Int)) = true := decide_eq_true (by omega)
 have p3 : decide (p ≤ 35184372088832) = true := decide_eq_true (by omega)
 go_wp2_with (first | ((with_reducible refine gate_dst (N := 101) rfl ?_); refine Kd.R_make (Kd.int .i64) _ 3 rfl (N := 101) rfl 24 _ _ rfl (p : Int) rfl rfl Try.underlying24 (.int .i64 0) 8 (by kernel_rfl) rfl (by decide) (by omega) 0 (ok := fun _ => True) (okp := fun _ => True) rfl (fun _ hk => hk) trivial (by omega) (by omega) (Below.refl _ _) (Nat.le_refl _) ?_; intro v9 w9 ho9 hb hg_ hnew_; clear hg_ hnew_; rw [Int.toNat_natCast] at ho9; have H9 := aM (Live.add (o := row (Kd.int .i64) 3 v9 (List.replicate p 0)) (Live.start wM) hb ho9); clear ho9 hb; obtain ⟨A9, c9, rfl, _, _⟩ := H9.out.form 0 rfl; rw [List.length_replicate] at H9 ⊢))
 clear H p1 p3
 go_loopg [104] (d + 1) (fun kq v104 w' => ∃ i : Nat, v104 = .int .i64 (i : Int) ∧ Aside0 (i ≤ d ∧ kq = d - i + 1) ∧ Aside0 (Live wM w' [row (Kd.int .i64) 3 (.slice A9 p c9) (impl_Matrix_matching.b1 Q R d (List.replicate p 0) i)]))
 case atStart => exact ⟨0, rfl, ⟨Nat.zero_le _, rfl⟩, H9⟩
 case round => (
 clear H9 HI c1 c2 ci
 obtain ⟨i, rfl, HI, H⟩ := hrel
 rename World => wR
 by_cases ci : i < d
 · {
 have c1 : decide ((i : Int) < (d : Int)) = true := decide_eq_true (by omega)
 have c2 : decide (i < d) = true := decide_eq_true ci
 have HI1 := aM (show i + 1 ≤ d ∧ d - i = d - (i + 1) + 1 by omega)
 obtain ⟨adA, A1, c1_, rfl, hx1, hl1, hC1⟩ := C_row HCA.out i ci
 obtain ⟨adB, B1, d1_, rfl, hy1, hm1, hD1⟩ := C_row HCB.out i ci
 rw [HSH.out.1.2.1 i ci] at hx1 hC1
 rw [HSH.out.2.1.2.1 i ci] at hy1 hD1
 have X1 := aM hx1; have Y1 := aM hy1; have HC1 := aM hC1; have HD1 := aM hD1
 clear hx1 hy1 hC1 hD1 hl1 hm1
 have k1 := (H.out.below.cell (World.block_lt_of_cell? wM _ X1.out)).trans X1.out
 go_wp2_with (fail)
 clear k1
 go_loopg [111] (d + 1) (fun kq v111 w' => ∃ j : Nat, v111 = .int .i64 (j : Int) ∧ Aside0 (j ≤ d ∧ kq = d - j + 1) ∧ Aside0 (Live wM w' [row (Kd.int .i64) 3 (.slice A9 p c9) (impl_Matrix_matching.b2 Q R i (impl_Matrix_matching.b1 Q R d (List.replicate p 0) i) j)]))
 case atStart => exact ⟨0, rfl, ⟨Nat.zero_le _, rfl⟩, H⟩
 case round => (
 clear H
 obtain ⟨j, rfl, HJ, H⟩ := hrel
 rename World => wS
 by_cases cj : j < d
 · {
 have d1 : decide ((j : Int) < (d : Int)) = true := decide_eq_true (by omega)
 have d2 : decide (j < d) = true := decide_eq_true cj
 have HJ1 := aM (show j + 1 ≤ d ∧ d - j = d - (j + 1) + 1 by omega)
 have HF3 := aM (HFQ.out i ci j cj)
 obtain ⟨ad1, A2, c2_, rfl, hx2, hl2, hC2⟩ := C_row HC1.out j cj
 obtain ⟨ae1, B2, d2_, rfl, hy2, hm2, hD2⟩ := C_row HD1.out j cj
 obtain ⟨U, hU⟩ : ∃ U, U = impl_Matrix_matching.at3 Q i j := ⟨_, rfl⟩
 obtain ⟨V, hV⟩ : ∃ V, V = impl_Matrix_matching.at3 R i j := ⟨_, rfl⟩
 rw [show (Q.getD i []).getD j [] = U from hU.symm] at hx2 hC2 hl2
 rw [show (R.getD i []).getD j [] = V from hV.symm] at hy2 hD2 hm2
 rw [← hU, ← hV] at HF3
 have hUL : U.length ≤ 3600 := by rw [hU]; exact Nat.le_trans (HSH.out.1.2.2 i j) hp4
 have HU := aM hU; have HV := aM hV
 have X2 := aM hx2; have Y2 := aM hy2; have HC2 := aM hC2; have HD2 := aM hD2
 clear hx2 hy2 hC2 hD2 hl2 hm2 hU hV
 have k2 := (H.out.below.cell (World.block_lt_of_cell? wM _ X2.out)).trans X2.out
 go_wp2_with (fail)
 clear k2
 go_loopg [118] (U.length + 1) (fun kq v118 w' => ∃ t : Nat, v118 = .int .i64 (t : Int) ∧ Aside0 (t ≤ U.length ∧ kq = U.length - t + 1) ∧ Aside0 (Live wM w' [row (Kd.int .i64) 3 (.slice A9 p c9) (impl_Matrix_matching.b3 U V (impl_Matrix_matching.b2 Q R i (impl_Matrix_matching.b1 Q R d (List.replicate p 0) i) j) t)]))
 case atStart => exact ⟨0, rfl, ⟨Nat.zero_le _, rfl⟩, H⟩
 case round => (
 clear H
 obtain ⟨t, rfl, HT, H⟩ := hrel
 rename World => wT
 by_cases ct : t < U.length
 · {
 have e1 : decide ((t : Int) < (U.length : Int)) = true := decide_eq_true (by omega)
 have e2 : decide (t < U.length) = true := decide_eq_true ct
 obtain ⟨hv, ha0, ha1, hb0, hb1⟩ := HF3.out t ct
 have e3 : decide ((t : Int) < (V.length : Int)) = true := decide_eq_true (by omega)
 have e4 : decide (t < V.length) = true := decide_eq_true hv
 have HT1 := aM (show t + 1 ≤ U.length ∧ U.length - t = U.length - (t + 1) + 1 by omega)
 obtain ⟨ad2, rfl, hx3⟩ := C_num HC2.out t ct
 obtain ⟨ae2, rfl, hy3⟩ := C_num HD2.out t hv
 obtain ⟨a, ha⟩ : ∃ a : Nat, U.getD t 0 = (a : Int) := ⟨(U.getD t 0).toNat, by omega⟩
 obtain ⟨b, hb⟩ : ∃ b : Nat, V.getD t 0 = (b : Int) := ⟨(V.getD t 0).toNat, by omega⟩
 rw [ha] at hx3 ha1
 rw [hb] at hy3 hb1
 have HA := aM ha; have HBE := aM hb
 have g1 : decide ((a : Int) < (p : Int)) = true := decide_eq_true ha1
 have g2 : decide ((b : Int) < (p : Int)) = true := decide_eq_true hb1
 have g3 : decide (a < p) = true := decide_eq_true (by omega)
 have g4 : decide (b < p) = true := decide_eq_true (by omega)
 have g5 : a < p := by omega
 have g6 : b < p := by omega
 obtain ⟨O, hO⟩ : ∃ O, O = impl_Matrix_matching.b3 U V (impl_Matrix_matching.b2 Q R i (impl_Matrix_matching.b1 Q R d (List.replicate p 0) i) j) t := ⟨_, rfl⟩
 have hOl : O.length = p := by rw [hO, impl_Matrix_matching.b3_len, impl_Matrix_matching.b2_len, impl_Matrix_matching.b1_len, List.length_replicate]
 rw [← hO] at H
 have HO := aM hO; clear hO
 obtain ⟨g9, c9', eA, _, _⟩ := H.out.form1 0 rfl (by omega)
 injection eA with ea en ec
 subst ea; subst ec; clear en
 have k1 := (H.out.below.cell (World.block_lt_of_cell? wM _ Y1.out)).trans Y1.out
 have k2 := (H.out.below.cell (World.block_lt_of_cell? wM _ Y2.out)).trans Y2.out
 have k3 := (H.out.below.cell (World.block_lt_of_cell? wM _ hx3)).trans hx3
 have k4 := (H.out.below.cell (World.block_lt_of_cell? wM _ hy3)).trans hy3
 obtain ⟨m1, f1⟩ := H.out.cellI 0 rfl a (by omega)
 have H2 := aM (H.out.putI 0 rfl a (b : Int))
 obtain ⟨m2, f2⟩ := H2.out.cellI 0 rfl b (by rw [List.length_set]; omega)
 have H3 := aM (H2.out.putI 0 rfl b (a : Int))
 have HE := aM (show (O.set a (b : Int)).set b (a : Int) = impl_Matrix_matching.b3 U V (impl_Matrix_matching.b2 Q R i (impl_Matrix_matching.b1 Q R d (List.replicate p 0) i) j) (t + 1) by
  rw [impl_Matrix_matching.b3, ← HO.out, HA.out, HBE.out, Int.toNat_natCast, Int.toNat_natCast])
 clear hx3 hy3 ha0 hb0 ha1 hb1 ha hb hOl
 go_wp2
 go_roundg (U.length - t)
 case measure => have := HT.out; omega
 case rel => exact ⟨t + 1, by first | rfl | simp, HT1, ⟨by rw [← HE.out]; exact H3.out⟩⟩}
 · {
 have e1 : decide ((t : Int) < (U.length : Int)) = false := decide_eq_false (by omega)
 have e2 : decide (t < U.length) = false := decide_eq_false ct
 have etl : t = U.length := by have := HT.out; omega
 subst t
 go_wp2_with (fail)
 go_roundg (d - j)
 case measure => have := HJ.out; omega
 case rel => exact ⟨j + 1, by first | rfl | simp, HJ1, ⟨by rw [impl_Matrix_matching.b2, ← HU.out, ← HV.out]; exact H.out⟩⟩})}
 · {
 have d1 : decide ((j : Int) < (d : Int)) = false := decide_eq_false (by omega)
 have d2 : decide (j < d) = false := decide_eq_false cj
 have ejd : j = d := by have := HJ.out; omega
 subst j
 go_wp2_with (fail)
 go_roundg (d - i)
 case measure => have := HI.out; omega
 case rel => exact ⟨i + 1, by first | rfl | simp, HI1, ⟨by rw [impl_Matrix_matching.b1]; exact H.out⟩⟩})}
 · {
 have c1 : decide ((i : Int) < (d : Int)) = false := decide_eq_false (by omega)
 have c2 : decide (i < d) = false := decide_eq_false ci
 have eid : i = d := by have := HI.out; omega
 subst i
 go_wp2
 go_ret
 exact ⟨_, rfl, by rw [← HQ.out, ← HR.out, ← HP.out]; exact Kd.R_lower (H.out.get 0 rfl) HBM.out.size, below_step HBM.out H.out.below⟩})}))
end Go.Proofs.Ytacdlipojhoilaa.Zx
