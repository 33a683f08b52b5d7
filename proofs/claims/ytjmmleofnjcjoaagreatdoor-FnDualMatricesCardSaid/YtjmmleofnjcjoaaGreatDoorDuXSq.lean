-- Lessened by prune.py, a program of this session (wip/): the words that this claim names; Lean checks it.
/- Steps of a region's walk, their small proofs left to themselves. -/
import Derived.Test.YtjmmleofnjcjoaaGreatDoorDuWMore
import Derived.Test.YtjmmleofnjcjoaaGreatDoorDuWTab
import Derived.Tactics
import Derived.KernelRfl
import Derived.RegionTactic
namespace Go.Proofs.YtjmmleofnjcjoaaGreatDoor.Sq
open Go.RowKit Go.Proofs.YtjmmleofnjcjoaaGreatDoorW.PrintWords Go.Proofs.YtjmmleofnjcjoaaGreatDoorW.PrintLast Go.Proofs.YtjmmleofnjcjoaaGreatDoorW.PrintMore
variable {P : Program} {ops : Array Oper} {Q : Exit → Act → World → Prop} {md : Region.Mode} {S : World → Prop} {ds : List Nat}
theorem pA (i n : Nat) {oi : Oper} {v : Value} {fuel : Nat} {l : Array Bool} {a : Act} {w : World} {a' : Act}
    (hi : ops[i]? = some oi := by exact rfl) (hN : oi.dst = some n := by exact rfl) (hc : anyB md ops l (l.setIfInBounds i true) i = true := by first | exact any_of (Aside0.out (by assumption)) (by kernel_rfl) | kernel_rfl)
    (hQ : ∀ c a w, Q (.panic c) (a.put oi.dst v) w → Q (.panic c) a w := by exact fun _ _ _ h => h) (hy : Yields P ops oi v a := by exact Or.inl ⟨by rfl, by intro w'; go_simp; with_reducible rfl⟩)
    (ha : a.put (some n) v = a' := by simp only [Act.put, List.setIfInBounds_toArray, List.set_cons_zero, List.set_cons_succ, i64_w, i32_w]; rfl)
    (h : wpAnyLast P md ops Q S ds fuel (l.setIfInBounds i true) a' w) : wpAnyLast P md ops Q S ds (fuel + 1) l a w := pure_ _ hi hN hc hQ hy ha h
theorem tA (i n : Nat) {oi : Oper} {v : Value} {fuel : Nat} {l : Array Bool} {a : Act} {w : World} {a' : Act} (hS : S w)
    (hi : ops[i]? = some oi := by exact rfl) (hN : oi.dst = some n := by exact rfl) (hc : takeB md ops ds l (l.setIfInBounds i true) i = true := by first | exact take_ofW (Aside0.out (by assumption)) (Aside0.out (by assumption)) (by kernel_rfl) | kernel_rfl)
    (hQ : ∀ c a w, Q (.panic c) (a.put oi.dst v) w → Q (.panic c) a w := by exact fun _ _ _ h => h) (hy : YieldsIf P ops S oi v a := by exact Or.inl ⟨by rfl, by intro w' hS_; go_simp; with_reducible rfl⟩)
    (ha : a.put (some n) v = a' := by simp only [Act.put, List.setIfInBounds_toArray, List.set_cons_zero, List.set_cons_succ, i64_w, i32_w]; rfl)
    (h : wpAnyLast P md ops Q S ds fuel (l.setIfInBounds i true) a' w) : wpAnyLast P md ops Q S ds (fuel + 1) l a w := take_ _ hi hN hc hQ hy hS ha h
theorem nA (n : Nat) {fuel : Nat} {l : Array Bool} {a a' : Act} {w : World} {v : Value} (ha : a.put (some n) v = a' := by simp only [Act.put, List.setIfInBounds_toArray, List.set_cons_zero, List.set_cons_succ, i64_w, i32_w]; rfl) (h : wpAnyLast P md ops Q S ds fuel l a' w) : wpAnyLast P md ops Q S ds fuel l (a.put (some n) v) w := norm_ ha h
theorem aM {p : Prop} (h : p) : Aside0 p := ⟨h⟩
theorem odt {p : Prop} [Decidable p] (h : decide p = true := by first | (with_reducible assumption) | assumption) : p := of_decide_eq_true h
theorem bq {w W : World} (h : Below w.heap.size w W := by repeat (first | (with_reducible first | exact Aside0.out (by assumption) | apply below_alloc | apply pw_below_drewN | apply below_drew1 | refine below_set ?_ (Aside0.out (by assumption))) | exact Aside0.out (by assumption))) : Below w.heap.size w W := h
theorem gL {rest : List Oper} {oi : Oper} {a : Act} {w : World} (N : Option Tmp) {f : FuncId} {fn : Func} {as : Array Operand} {ts : Array TypeId} (hf : P.funcs[f]? = some fn) (args : Array Value)
    (h : Calls P f args w fun e w' => ∃ v, e = .returned v ∧ wpList P ops Q rest (a.put N v) w')
    (hd : oi.dst = N := by exact rfl) (hg : oi.guard = none := by exact rfl) (hop : oi.op = .call { callee := .value (.func f), args := as, argTypes := ts } := by exact rfl) (hname : (fn.name == "runtime.NumGoroutine") = false := by kernel_rfl) (hb : fn.body.isSome = true := by exact rfl)
    (hargs : as.map a.eval = args := by (try simp only [List.map_toArray, List.map_cons, List.map_nil]); first | done | rfl | (simp only [List.length_drop, List.length_take]; rfl)) : wpList P ops Q (oi :: rest) a w := goesL_ N hd hg hf hname hb args hop hargs h
section
variable {α : Type} {d : Kd α} {e b : Nat} {ok : Nat → Prop} {v : Value} {xs : List α} {w W : World}
theorem sQ (H : Aside0 (Kd.S d e w b ok v xs)) (f : Kd.S d e w b ok v xs → Kd.S d e W b ok v xs := by intro h_; (with_reducible repeat first | apply Kd.S_alloc | apply Kd.S_drewN | apply Kd.S_drew); exact h_) : Kd.S d e W b ok v xs := f H.out
theorem rQ (H : Aside0 (Kd.R d e w b ok v xs)) (f : Kd.R d e w b ok v xs → Kd.R d e W b ok v xs := by intro h_; (with_reducible repeat first | apply Kd.R_alloc | apply Kd.R_drewN | apply Kd.R_drew); exact h_) : Kd.R d e W b ok v xs := f H.out
theorem qQ {g : Nat} {o : Obj} (H : Aside0 (w.heap[g]? = some o)) (f : w.heap[g]? = some o → W.heap[g]? = some o := by intro h_; (with_reducible repeat first | apply blk_drewN | apply blk_drew | apply blk_alloc); exact h_) : W.heap[g]? = some o := f H.out
theorem cQ {A : Option Addr} {n : Nat} (h : d.C w A n xs) (f : d.C w A n xs → d.C W A n xs := by intro h_; repeat (first | (with_reducible exact h_) | (with_reducible refine Kd.C_alloc ?_ _) | (with_reducible refine Kd.C_drewN ?_ _) | (with_reducible refine Kd.C_drew ?_) | exact h_)) : d.C W A n xs := f h
theorem gS {w0 : World} {g : Nat} (hg : g = W.heap.size) (h : w0.heap.size ≤ W.heap.size := by exact (below_size bq)) : w0.heap.size ≤ g := hg ▸ h
end
theorem bE {rest : List Oper} {oi : Oper} {a : Act} {W : World} (N t : Nat) (cs : Array Value)
    (h : ∀ g, g = W.heap.size → ∀ w1, w1.heap[g]? = some (.cells cs t (0, 0)) → Below W.heap.size W w1 → wpList P ops Q rest (a.put oi.dst (.pointer (some ⟨g, 0, none⟩))) w1)
    (hg : oi.guard = none := by rfl) (hd : oi.dst = some N := by rfl) (hr : (execOp a.eval oi).run P W = .ok (.value (.pointer (some ⟨W.heap.size, 0, none⟩))) (W.alloc (.cells cs t (0, 0))) := by first | (go_simp; done) | (go_simp; rfl)) :
    wpList P ops Q (oi :: rest) a W := box_event hg hd hr h
theorem sE {rest : List Oper} {oi : Oper} {a : Act} {W : World} (w1 : World) (t p : Nat) {v : Operand} (h : ∀ w', w' = w1 → wpList P ops Q rest a w') (hg : oi.guard = none := by rfl) (ho : oi.op = .store t (.tmp p) v := by rfl) (hn : oi.dst = none := by rfl)
    (hr : (execOp a.eval oi).run P W = .ok .skip w1 := by first | (go_simp; done) | (go_simp; rfl)) : wpList P ops Q (oi :: rest) a W := store_event hg ho hn hr h
section
variable {α β : Type} {r : α}
theorem iS {c : Prop} [Decidable c] {x : Option α} (h : (if c then x else none) = some r) : c ∧ x = some r := by
 by_cases k : c
 · rw [if_pos k] at h; exact ⟨k, h⟩
 · rw [if_neg k] at h; exact absurd h (by simp)
theorem iD {c : Prop} [Decidable c] {x : Option α} (h : (if c then x else none) = some r) : decide c = true ∧ x = some r := ⟨decide_eq_true (iS h).1, (iS h).2⟩
theorem iD2 {a b : Prop} [Decidable a] [Decidable b] {x : Option α} (h : (if a then (if b then x else none) else none) = some r) : decide a = true ∧ decide b = true ∧ x = some r := ⟨(iD h).1, iD (iD h).2⟩
theorem iD3 {a b c : Prop} [Decidable a] [Decidable b] [Decidable c] {x : Option α} (h : (if a then (if b then (if c then x else none) else none) else none) = some r) : decide a = true ∧ decide b = true ∧ decide c = true ∧ x = some r := ⟨(iD h).1, iD2 (iD h).2⟩
theorem iD4 {a b c d : Prop} [Decidable a] [Decidable b] [Decidable c] [Decidable d] {x : Option α} (h : (if a then (if b then (if c then (if d then x else none) else none) else none) else none) = some r) : decide a = true ∧ decide b = true ∧ decide c = true ∧ decide d = true ∧ x = some r := ⟨(iD h).1, iD3 (iD h).2⟩
theorem bS {g : Option β} {f : β → Option α} (h : g.bind f = some r) : ∃ a, Aside0 (g = some a) ∧ f a = some r := by
 obtain ⟨a, h1, h2⟩ := Option.bind_eq_some_iff.mp h
 exact ⟨a, ⟨h1⟩, h2⟩
theorem zc10 {w : World} {g t : Nat} {x : Value} (H : Aside0 (w.heap[g]? = some (.cells #[x] t (0, 0)))) : w.cell? ⟨g, 0, none⟩ = some x := (blk_cell H.out 0).trans rfl
theorem zc20 {w : World} {g t : Nat} {x y : Value} (H : Aside0 (w.heap[g]? = some (.cells #[x, y] t (0, 0)))) : w.cell? ⟨g, 0, none⟩ = some x := (blk_cell H.out 0).trans rfl
theorem zc21 {w : World} {g t : Nat} {x y : Value} (H : Aside0 (w.heap[g]? = some (.cells #[x, y] t (0, 0)))) : w.cell? ⟨g, 1, none⟩ = some y := (blk_cell H.out 1).trans rfl
theorem nE (x : β) : ∃ y, y = x := ⟨_, rfl⟩
theorem dQ {w w1 : World} (h : Drawn0 w w1 := by repeat (first | exact Drawn0.refl _ | apply Drawn0.step)) : Drawn0 w w1 := h
theorem eR {a b : β} (h : a = b := by first | rfl | (simp; done) | (simp [*]; done)) : a = b := h
theorem eE {a b : β} (h : a = b := by first | rfl | (simp [errW_none, errW_some] <;> rfl) | (simp [*, errW_none, errW_some] <;> rfl)) : a = b := h
end
theorem bB {w W w1 : World} (hb : Below W.heap.size W w1) (h : Below w.heap.size w W := by repeat (first | (with_reducible first | exact Aside0.out (by assumption) | apply below_alloc | apply pw_below_drewN | apply below_drew1 | refine below_set ?_ (Aside0.out (by assumption))) | exact Aside0.out (by assumption))) : Aside0 (Below w.heap.size w w1) := ⟨below_step h hb⟩
theorem bK {w W w1 : World} {g : Nat} {o : Obj} (H : Aside0 (w.heap[g]? = some o)) (hb : Below W.heap.size W w1) (f : w.heap[g]? = some o → W.heap[g]? = some o := by intro h_; (with_reducible repeat first | apply blk_drewN | apply blk_drew | apply blk_alloc); exact h_) : Aside0 (w1.heap[g]? = some o) := ⟨blk_below (f H.out) hb⟩
theorem nL {w W : World} {g g' : Nat} {o : Obj} (hg : g' = W.heap.size) (H : Aside0 (w.heap[g]? = some o)) (f : w.heap[g]? = some o → W.heap[g]? = some o := by intro h_; (with_reducible repeat first | apply blk_drewN | apply blk_drew | apply blk_alloc); exact h_) : g ≠ g' := by rw [hg]; exact Nat.ne_of_lt (blk_lt (f H.out))
theorem nG {w W : World} {g g' : Nat} {o : Obj} (hg : g' = W.heap.size) (H : Aside0 (w.heap[g]? = some o)) (f : w.heap[g]? = some o → W.heap[g]? = some o := by intro h_; (with_reducible repeat first | apply blk_drewN | apply blk_drew | apply blk_alloc); exact h_) : g' ≠ g := (nL hg H f).symm
theorem bF {rest : List Oper} {oi : Oper} {a : Act} {W w0 : World} (N t : Nat) (cs : Array Value) (HB : Below w0.heap.size w0 W)
    (h : ∀ g w1, g = W.heap.size → Below W.heap.size W w1 → Aside0 (Below w0.heap.size w0 w1) → Aside0 (w1.heap[g]? = some (.cells cs t (0, 0))) → Aside0 (w0.heap.size ≤ g) → Aside0 (w0.heap.size ≤ g) → wpList P ops Q rest (a.put oi.dst (.pointer (some ⟨g, 0, none⟩))) w1)
    (hg : oi.guard = none := by rfl) (hd : oi.dst = some N := by rfl) (hr : (execOp a.eval oi).run P W = .ok (.value (.pointer (some ⟨W.heap.size, 0, none⟩))) (W.alloc (.cells cs t (0, 0))) := by first | (go_simp; done) | (go_simp; rfl)) :
    wpList P ops Q (oi :: rest) a W := box_event hg hd hr fun g hg w1 hbox hb => h g w1 hg hb ⟨below_step HB hb⟩ ⟨hbox⟩ ⟨gS hg (below_size HB)⟩ ⟨gS hg (below_size HB)⟩
end Go.Proofs.YtjmmleofnjcjoaaGreatDoor.Sq
