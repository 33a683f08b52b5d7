-- Lessened by prune.py, a program of this session (wip/): the words that this claim names; Lean checks it.
/- What a call has made and holds: things in memory that lie apart from each other, told in one fact. -/
import Derived.Test.YtjmmleofnjcjoaaGreatDoorDuXMem
import Derived.Laws.IdiomCopy
import Derived.Laws.AppendOwn
namespace Go.Proofs.YtjmmleofnjcjoaaGreatDoor.Live
open Go.RowKit Go.Proofs.YtjmmleofnjcjoaaGreatDoorW.PrintWords
set_option linter.unusedVariables false
theorem up1 {j : Nat} (h : j ≤ 4611686018427387904) : Value.int .i64 (wrap64 ((j : Int) + 1)) = .int .i64 ((j + 1 : Nat) : Int) := by
 rw [show wrap64 ((j : Int) + 1) = ((j + 1 : Nat) : Int) from by unfold wrap64; omega]
structure Ob where
  P : World → Nat → (Nat → Prop) → Prop
  st : ∀ {w w1 : World} {b : Nat} {ok : Nat → Prop}, P w b ok → (∀ k, ok k → k < w.heap.size → w1.heap[k]? = w.heap[k]?) → P w1 b ok
  mono : ∀ {w : World} {b : Nat} {ok ok' : Nat → Prop}, P w b ok → (∀ k, ok k → ok' k) → P w b ok'
  bound : ∀ {w : World} {b : Nat} {ok : Nat → Prop}, P w b ok → P w b (fun k => ok k ∧ b ≤ k ∧ k < w.heap.size)
  lower : ∀ {w : World} {b b' : Nat} {ok : Nat → Prop}, b' ≤ b → P w b ok → P w b' ok
def var (g : Nat) (cs : Array Value) (t : Nat) : Ob where
  P := fun w b ok => ok g ∧ b ≤ g ∧ w.heap[g]? = some (.cells cs t (0, 0))
  st := fun h hm => ⟨h.1, h.2.1, (hm g h.1 (blk_lt h.2.2)).trans h.2.2⟩
  mono := fun h hk => ⟨hk _ h.1, h.2⟩
  bound := fun h => ⟨⟨h.1, h.2.1, blk_lt h.2.2⟩, h.2⟩
  lower := fun hb h => ⟨h.1, Nat.le_trans hb h.2.1, h.2.2⟩
def row {α : Type} (d : Kd α) (e : Nat) (v : Value) (m : List α) : Ob where
  P := fun w b ok => d.R e w b ok v m
  st := fun h hm => Kd.R_step h hm
  mono := fun h hk => Kd.R_mono h hk
  bound := fun h => Kd.R_mono (Kd.R_bound h) (fun _ hk => ⟨hk.1, hk.2.1, hk.2.2.1⟩)
  lower := fun hb h => Kd.R_lower h hb
def rows {α : Type} (d : Kd α) (e : Nat) (v : Value) (m : List α) : Ob where
  P := fun w b ok => Kd.S d e w b ok v m
  st := fun h hm => Kd.S_step h hm
  mono := fun h hk => Kd.S_mono h hk
  bound := fun h => Kd.S_mono (Kd.S_bound h) (fun _ hk => ⟨hk.1, hk.2.1, hk.2.2.1⟩)
  lower := fun hb h => Kd.S_lower h hb
theorem size_alloc (w : World) (o : Obj) : (w.alloc o).heap.size = w.heap.size + 1 := by rw [World.alloc]; exact Array.size_push _
structure Live (w0 w : World) (L : List Ob) : Prop where
  below : Below w0.heap.size w0 w
  has : ∃ f : Nat → Nat, ∀ (i : Nat) (o : Ob), L[i]? = some o → o.P w w0.heap.size (fun k => f k = i)
section
variable {w0 w w1 : World} {L : List Ob} {o : Ob} {i : Nat}
theorem Live.start (w : World) : Live w w [] := ⟨Below.refl _ _, fun _ => 0, fun i o h => by simp at h⟩
theorem Live.step (H : Live w0 w L) (hb : Below w.heap.size w w1) : Live w0 w1 L := by
 obtain ⟨f, hf⟩ := H.has
 exact ⟨below_step H.below hb, f, fun i o h => o.st (hf i o h) (fun k _ hk => hb.block k hk)⟩
theorem Live.alloc (H : Live w0 w L) (o : Obj) : Live w0 (w.alloc o) L := H.step (below_alloc (Below.refl _ _) o)
theorem Live.drewN (H : Live w0 w L) (n : Nat) : Live w0 (w.drewN n) L := H.step (pw_below_drewN (Below.refl _ _) n)
theorem Live.drew (H : Live w0 w L) : Live w0 w.drew L := H.step (below_drew1 (Below.refl _ _))
theorem Live.keep (H : Live w0 w L) (n : Nat) : Live w0 w (L.take n) := by
 obtain ⟨f, hf⟩ := H.has
 refine ⟨H.below, f, fun i o h => hf i o ?_⟩
 rw [List.getElem?_take] at h
 split at h
 · exact h
 · simp at h
theorem Live.drop (H : Live w0 w L) (n : Nat) : Live w0 w (L.eraseIdx n) := by
 obtain ⟨f, hf⟩ := H.has
 refine ⟨H.below, fun k => if f k < n then f k else if f k = n then L.length else f k - 1, fun i o h => ?_⟩
 rw [List.getElem?_eraseIdx] at h
 split at h
 · exact o.mono (hf i o h) (fun k hk => by simp only [hk]; rw [if_pos (by assumption)])
 · exact o.mono (hf (i + 1) o h) (fun k hk => by simp only [hk]; rw [if_neg (by omega), if_neg (by omega)]; omega)
theorem Live.add {ok : Nat → Prop} (H : Live w0 w L) (hb : Below w.heap.size w w1) (h : o.P w1 w.heap.size ok) : Live w0 w1 (L ++ [o]) := by
 obtain ⟨f, hf⟩ := H.has
 refine ⟨below_step H.below hb, fun k => if w.heap.size ≤ k then L.length else f k, fun i p hp => ?_⟩
 by_cases c : i < L.length
 · {
 rw [List.getElem?_append_left c] at hp
 exact p.mono (p.st (p.bound (hf i p hp)) (fun k _ hk => hb.block k hk)) (fun k hk => by simp only []; rw [if_neg (by omega)]; exact hk.1)}
 · {
 rw [List.getElem?_append_right (by omega)] at hp
 have e : i - L.length = 0 := by {
 apply Classical.byContradiction; intro hne
 rw [List.getElem?_eq_none (by simp; omega)] at hp; simp at hp}
 rw [e] at hp
 have : o = p := by simpa using hp
 subst this
 exact o.mono (o.lower H.below.size (o.bound h)) (fun k hk => by simp only []; rw [if_pos hk.2.1]; omega)}
theorem Live.new (H : Live w0 w L) (cs : Array Value) (t : Nat) : Live w0 (w.alloc (.cells cs t)) (L ++ [var w.heap.size cs t]) :=
  H.add (ok := fun _ => True) (below_alloc (Below.refl _ _) _) ⟨trivial, Nat.le_refl _, blk_new w _⟩
theorem Live.add2 {ok ok2 : Nat → Prop} {o2 : Ob} (H : Live w0 w L) (hb : Below w.heap.size w w1) (h : o.P w1 w.heap.size ok) (h2 : o2.P w1 w.heap.size ok2) (ha : ∀ k, ok k → ¬ ok2 k) : Live w0 w1 (L ++ [o, o2]) := by
 obtain ⟨f, hf⟩ := H.has
 refine ⟨below_step H.below hb, fun k => open Classical in if w.heap.size ≤ k then (if ok2 k then L.length + 1 else L.length) else f k, fun i p hp => ?_⟩
 by_cases c : i < L.length
 · {
 rw [List.getElem?_append_left c] at hp
 exact p.mono (p.st (p.bound (hf i p hp)) (fun k _ hk => hb.block k hk)) (fun k hk => by simp only []; rw [if_neg (by omega)]; exact hk.1)}
 · {
 rw [List.getElem?_append_right (by omega)] at hp
 by_cases e : i = L.length
 · {
 subst e
 have : o = p := by simpa using hp
 subst this
 exact o.mono (o.lower H.below.size (o.bound h)) (fun k hk => by simp only []; rw [if_pos hk.2.1, if_neg (ha k hk.1)])}
 · {
 by_cases e1 : i = L.length + 1
 · {
 subst e1
 have : o2 = p := by simpa using hp
 subst this
 exact o2.mono (o2.lower H.below.size (o2.bound h2)) (fun k hk => by simp only []; rw [if_pos hk.2.1, if_pos hk.1])}
 · rw [List.getElem?_eq_none (by simp; omega)] at hp; simp at hp}}
theorem Live.lend (H : Live w0 w L) (i : Nat) (hi : L[i]? = some o) :
    ∃ ok : Nat → Prop, o.P w w0.heap.size ok ∧ (∀ k, ok k → w0.heap.size ≤ k ∧ k < w.heap.size) ∧
      (∀ (j : Nat) (p : Ob), L[j]? = some p → j ≠ i → ∃ okj : Nat → Prop, p.P w w0.heap.size okj ∧ (∀ k, okj k → w0.heap.size ≤ k ∧ k < w.heap.size ∧ ¬ ok k)) ∧
      ∀ w1 (o' : Ob), Below w0.heap.size w0 w1 → Kept w w1 ok → o'.P w1 w0.heap.size (fun k => ok k ∨ w.heap.size ≤ k) → Live w0 w1 (L.set i o') := by
 obtain ⟨f, hf⟩ := H.has
 refine ⟨fun k => f k = i ∧ w0.heap.size ≤ k ∧ k < w.heap.size, o.bound (hf i o hi), fun k hk => hk.2, fun j p hp hne => ⟨_, p.bound (hf j p hp), fun k hk => ⟨hk.2.1, hk.2.2, fun h => hne (hk.1.symm.trans h.1)⟩⟩, fun w1 o' hB hk ho' => ?_⟩
 have hil : i < L.length := (List.getElem?_eq_some_iff.1 hi).1
 refine ⟨hB, fun k => if w.heap.size ≤ k then i else f k, fun j p hp => ?_⟩
 · {
 by_cases e : j = i
 · {
 subst e
 rw [List.getElem?_set_self hil] at hp
 have : o' = p := by simpa using hp
 subst this
 exact o'.mono (o'.bound ho') (fun k h => by
  simp only []
  by_cases c : w.heap.size ≤ k
  · rw [if_pos c]
  · rw [if_neg c]; exact (h.1.resolve_right c).1)}
 · {
 rw [List.getElem?_set_ne (by omega)] at hp
 exact p.mono (p.st (p.bound (hf j p hp)) (fun k h h2 => hk.2 k h2 (fun h3 => e (h.1.symm.trans h3.1)))) (fun k h => by simp only []; rw [if_neg (by omega)]; exact h.1)}}
theorem Live.get (H : Live w0 w L) (i : Nat) (hi : L[i]? = some o) : o.P w w0.heap.size (fun _ => True) := by
 obtain ⟨f, hf⟩ := H.has
 exact o.mono (hf i o hi) (fun _ _ => trivial)
theorem Live.blk {g t : Nat} {cs : Array Value} (H : Live w0 w L) (i : Nat) (hi : L[i]? = some (var g cs t)) : w.heap[g]? = some (.cells cs t (0, 0)) := (H.get i hi).2.2
theorem Live.lt {g t : Nat} {cs : Array Value} (H : Live w0 w L) (i : Nat) (hi : L[i]? = some (var g cs t)) : g < w.heap.size := blk_lt (H.blk i hi)
theorem Live.ge {g t : Nat} {cs : Array Value} (H : Live w0 w L) (i : Nat) (hi : L[i]? = some (var g cs t)) : w0.heap.size ≤ g := (H.get i hi).2.1
theorem Live.cell {g t : Nat} {cs : Array Value} (H : Live w0 w L) (i : Nat) (hi : L[i]? = some (var g cs t)) (j : Nat) : w.cell? ⟨g, j, none⟩ = cs[j]? := blk_cell (H.blk i hi) j
theorem Live.frozen {g t : Nat} {cs : Array Value} (H : Live w0 w L) (i : Nat) (hi : L[i]? = some (var g cs t)) (j : Nat) : w.frozen? ⟨g, j, none⟩ = false := blk_frozen (H.blk i hi) j
theorem Live.setVar {g t : Nat} {cs : Array Value} (H : Live w0 w L) (i : Nat) (hi : L[i]? = some (var g cs t)) (j : Nat) (v : Value) : Live w0 (w.setCell ⟨g, j, none⟩ v) (L.set i (var g (cs.setIfInBounds j v) t)) := by
 obtain ⟨ok, ho, hok, _, hback⟩ := H.lend i hi
 exact hback _ _ (below_set H.below ho.2.1) ((Kept.refl w ok).setCell (.inl ho.1) v) ⟨.inl ho.1, ho.2.1, blk_set ho.2.2 j v⟩
theorem Live.form {α : Type} {d : Kd α} {e : Nat} {v : Value} {m : List α} (H : Live w0 w L) (i : Nat) (hi : L[i]? = some (row d e v m)) : ∃ A c, v = .slice A m.length c ∧ m.length ≤ c ∧ d.C w A m.length m := Kd.R_reads (H.get i hi)
theorem Live.form1 {α : Type} {d : Kd α} {e : Nat} {v : Value} {m : List α} (H : Live w0 w L) (i : Nat) (hi : L[i]? = some (row d e v m)) (hp : 0 < m.length) : ∃ g c, v = .slice (some ⟨g, 0, none⟩) m.length c ∧ w0.heap.size ≤ g ∧ g < w.heap.size := by
 obtain ⟨g, c, h, h1, h2, _⟩ := Kd.R_form (H.get i hi) hp
 exact ⟨g, c, h, h1, h2⟩
theorem Live.now {α : Type} {d : Kd α} {e n c : Nat} {A : Option Addr} {m : List α} (H : Live w0 w L) (i : Nat) (hi : L[i]? = some (row d e (.slice A n c) m)) : n = m.length ∧ m.length ≤ c ∧ d.C w A m.length m := by
 obtain ⟨rfl, h⟩ := Kd.R_reads' (H.get i hi)
 exact ⟨rfl, h⟩
theorem Live.cellI {e g n c : Nat} {k : IntKind} {m : List Int} (H : Live w0 w L) (i : Nat) (hi : L[i]? = some (row (Kd.int k) e (.slice (some ⟨g, 0, none⟩) n c) m)) (j : Nat) (hj : j < m.length) :
    w.cell? ⟨g, j, none⟩ = some (.int k (m.getD j 0)) ∧ w.frozen? ⟨g, j, none⟩ = false := by
 have h := H.get i hi
 obtain ⟨rfl, _⟩ := Kd.R_reads' h
 have := Kd.R_celln (enc := Value.int k) 0 h (j : Int) (by omega) (by omega)
 simp only [Int.toNat_natCast] at this
 refine ⟨?_, this.2⟩
 rw [this.1]; simp [rdOf]
theorem Live.putI {e g n c : Nat} {k : IntKind} {m : List Int} (H : Live w0 w L) (i : Nat) (hi : L[i]? = some (row (Kd.int k) e (.slice (some ⟨g, 0, none⟩) n c) m)) (j : Nat) (x : Int) :
    Live w0 (w.setCell ⟨g, j, none⟩ (.int k x)) (L.set i (row (Kd.int k) e (.slice (some ⟨g, 0, none⟩) n c) (m.set j x))) := by
 obtain ⟨ok, ho, hok, _, hback⟩ := H.lend i hi
 have hg : ok g := ho.1 g rfl
 have h := Kd.R_putg (enc := Value.int k) ho (j : Int) x
 rw [Int.toNat_natCast] at h
 exact hback _ _ (below_set H.below (hok g hg).1) ((Kept.refl w ok).setCell (.inl hg) _) (Kd.R_mono h.1 (fun _ hk => .inl hk))
theorem Live.forms {α : Type} {d : Kd α} {e : Nat} {v : Value} {m : List α} (H : Live w0 w L) (i : Nat) (hi : L[i]? = some (rows d e v m)) : ∃ A c, v = .slice A m.length c ∧ m.length ≤ c ∧ d.C w A m.length m := Kd.S_reads (H.get i hi)
theorem Live.nows {α : Type} {d : Kd α} {e n c : Nat} {A : Option Addr} {m : List α} (H : Live w0 w L) (i : Nat) (hi : L[i]? = some (rows d e (.slice A n c) m)) : n = m.length ∧ m.length ≤ c ∧ d.C w A m.length m := by
 obtain ⟨rfl, h⟩ := Kd.S_reads' (H.get i hi)
 exact ⟨rfl, h⟩
def gone : Ob where
  P := fun _ _ _ => True
  st := fun _ _ => trivial
  mono := fun _ _ => trivial
  bound := fun _ => trivial
  lower := fun _ _ => trivial
def hole {α : Type} (d : Kd α) (e : Nat) (v : Value) (m : List α) (j : Nat) (c : List Value) : Ob where
  P := fun w b ok => ∃ f, (Kd.gap f d j c).R e w b ok v m.zipIdx
  st := fun h hm => let ⟨f, h⟩ := h; ⟨f, Kd.R_step h hm⟩
  mono := fun h hk => let ⟨f, h⟩ := h; ⟨f, Kd.R_mono h hk⟩
  bound := fun h => let ⟨f, h⟩ := h; ⟨f, Kd.R_mono (Kd.R_bound h) (fun _ hk => ⟨hk.1, hk.2.1, hk.2.2.1⟩)⟩
  lower := fun hb h => let ⟨f, h⟩ := h; ⟨f, Kd.R_lower h hb⟩
theorem hole_H {α : Type} {d : Kd α} {e b j : Nat} {v : Value} {m : List α} {c : List Value} {ok okj : Nat → Prop} (h : (hole d e v m j c).P w b ok) (hd : ∀ k, ok k → ¬ okj k) : Kd.H d e w b (fun k => ok k ∨ okj k) v m (j : Int) okj c := by
 obtain ⟨f, h⟩ := h
 exact ⟨fun k hk => .inr hk, f, Kd.R_mono h (fun k hk => ⟨.inl hk, hd k hk⟩)⟩
theorem H_hole {α : Type} {d : Kd α} {e b j : Nat} {v : Value} {m : List α} {c : List Value} {ok okj : Nat → Prop} (h : Kd.H d e w b ok v m (j : Int) okj c) : (hole d e v m j c).P w b (fun k => ok k ∧ ¬ okj k) := h.2
theorem Live.take {α : Type} {d : Kd α} {e f g n cap : Nat} {m : List (List α)} (H : Live w0 w L) (i : Nat) (hi : L[i]? = some (rows (Kd.slice f d) e (.slice (some ⟨g, 0, none⟩) n cap) m)) (j : Nat) (hj : j < m.length) :
    ∃ v, w.cell? ⟨g, j, none⟩ = some v ∧ w.frozen? ⟨g, j, none⟩ = false ∧ Live w0 w (L.set i (hole (Kd.slice f d) e (.slice (some ⟨g, 0, none⟩) n cap) m j [v]) ++ [row d f v (m.getD j [])]) := by
 obtain ⟨fo, hf⟩ := H.has
 have hS := hf i _ hi
 have hil : i < L.length := (List.getElem?_eq_some_iff.1 hi).1
 have hn := (Kd.S_reads' hS).1
 obtain ⟨oki, c, hcl, hM, hcc, hfr, hoki, hH⟩ := Kd.S_elem hS [] (j : Int) (by omega) (by omega)
 obtain ⟨v, rfl, hR⟩ := hM
 rw [Int.toNat_natCast] at hR
 have hcell := hcc 0 v rfl
 have hfr0 := hfr 0
 simp only [show (Kd.slice f d).sz = 1 from rfl, Nat.mul_one, Nat.add_zero, Int.toNat_natCast] at hcell hfr0
 refine ⟨v, hcell, hfr0, H.below, fun k => open Classical in if oki k then L.length else fo k, fun q o hq => ?_⟩
 by_cases c1 : q < L.length
 · {
 rw [List.getElem?_append_left (by rw [List.length_set]; exact c1)] at hq
 by_cases c2 : q = i
 · {
 subst c2
 rw [List.getElem?_set_self hil] at hq
 have : hole (Kd.slice f d) e (.slice (some ⟨g, 0, none⟩) n cap) m j [v] = o := by simpa using hq
 subst this
 exact Ob.mono _ (H_hole hH) (fun k hk => by simp only []; rw [if_neg hk.2]; exact hk.1)}
 · {
 rw [List.getElem?_set_ne (by omega)] at hq
 exact o.mono (hf q o hq) (fun k hk => by simp only []; rw [if_neg (fun h => c2 (hk.symm.trans (hoki k h).1))]; exact hk)}}
 · {
 rw [List.getElem?_append_right (by rw [List.length_set]; omega), List.length_set] at hq
 have e : q - L.length = 0 := by {
 apply Classical.byContradiction; intro hne
 rw [List.getElem?_eq_none (by simp; omega)] at hq; simp at hq}
 rw [e] at hq
 have : row d f v (m.getD j []) = o := by simpa using hq
 subst this
 exact Kd.R_mono hR (fun k hk => by simp only []; rw [if_pos hk]; omega)}
theorem Live.close {α : Type} {d : Kd α} {e f g n cap j : Nat} {m : List (List α)} {x : List α} {v : Value} (H : Live w0 w L) (i l : Nat) (hi : L[i]? = some (hole (Kd.slice f d) e (.slice (some ⟨g, 0, none⟩) n cap) m j [v])) (hl : L[l]? = some (row d f v x)) (hne : i ≠ l) :
    Live w0 w ((L.set i (rows (Kd.slice f d) e (.slice (some ⟨g, 0, none⟩) n cap) (m.set j x))).set l gone) := by
 obtain ⟨fo, hf⟩ := H.has
 have hil : i < L.length := (List.getElem?_eq_some_iff.1 hi).1
 have hll : l < L.length := (List.getElem?_eq_some_iff.1 hl).1
 have hH := hole_H (hf i _ hi) (okj := fun k => fo k = l) (fun k h1 h2 => hne (h1.symm.trans h2))
 have hS := Kd.H_back hH (x' := x) (okp := fun k => fo k = l) ⟨v, rfl, hf l _ hl⟩ (fun _ hk => hk)
 rw [Int.toNat_natCast] at hS
 refine ⟨H.below, fun k => if fo k = l then i else fo k, fun q o hq => ?_⟩
 by_cases c1 : q = l
 · {
 subst c1
 rw [List.getElem?_set_self (by rw [List.length_set]; exact hll)] at hq
 have : gone = o := by simpa using hq
 subst this
 trivial}
 · {
 rw [List.getElem?_set_ne (by omega)] at hq
 by_cases c2 : q = i
 · {
 subst c2
 rw [List.getElem?_set_self hil] at hq
 have : rows (Kd.slice f d) e (.slice (some ⟨g, 0, none⟩) n cap) (m.set j x) = o := by simpa using hq
 subst this
 exact Kd.S_mono hS (fun k hk => by
  simp only []
  by_cases c : fo k = l
  · rw [if_pos c]
  · rw [if_neg c]; exact hk.resolve_right c)}
 · {
 rw [List.getElem?_set_ne (by omega)] at hq
 exact o.mono (hf q o hq) (fun k hk => by simp only []; rw [if_neg (fun h => c1 (hk.symm.trans h))]; exact hk)}}
end
end Go.Proofs.YtjmmleofnjcjoaaGreatDoor.Live
