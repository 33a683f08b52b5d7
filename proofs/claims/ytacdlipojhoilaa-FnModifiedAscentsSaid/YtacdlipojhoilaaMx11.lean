-- Written by hook.py, a program of this session (wip/), which runs the kit's print.py with its own parts; Lean checks it.
import Derived.Test.YtacdlipojhoilaaMx0
import Derived.Test.YtacdlipojhoilaaXSq
namespace Go.Proofs.Ytacdlipojhoilaa.Mx
open Go.RowKit Go.Proofs.YtacdlipojhoilaaW.PrintWords Go.Proofs.YtacdlipojhoilaaW.PrintLast Go.Proofs.YtacdlipojhoilaaW.PrintMore Go.Proofs.Ytacdlipojhoilaa.Sq
attribute [local go_sem] max2_int min2_int max_two min_two max_three min_three max_four min_four   -- for this text's walks alone
set_option linter.unusedVariables false
set_option linter.unusedSimpArgs false

/-! ### impl_different: function 164 -/
/-! The library's texts on the way are walked as the kit's worked examples GgCollectAtTheDump, GgSortedAtTheDump and GgSlicesIterAtTheDump walk theirs, turned to rows of whole numbers -/
section
open Go.Maps Go.Sort Go.Shelf
attribute [local go_sem] Oper.semAt_some
def impl_different.apAssign : Code := (Code.region 2 #[{ dst := some 5, op := Op.assign (Operand.tmp 7), type := 3, pos := "iter.go:51", after := #[], guard := none }] false)
def impl_different.apBody : Code := (Code.block 1 (Code.region 3 #[{ dst := some 8, op := Op.load 24 (Operand.tmp 2), type := 24, pos := "iter.go:52", after := #[], guard := none }, { dst := some 9, op := Op.move (Operand.tmp 5), type := 3, pos := "iter.go:52", after := #[], guard := none }, { dst := some 10, op := Op.buildSlice 24 1 #[(0, Operand.tmp 9)], type := 24, pos := "iter.go:52", after := #[{ on := 1, ground := Ground.data }], guard := none }, { dst := some 11, op := Op.call { callee := Callee.builtin Builtin.append, args := #[Operand.tmp 8, Operand.tmp 10], argTypes := #[24, 24] }, type := 24, pos := "iter.go:52", after := #[{ on := 0, ground := Ground.data }, { on := 2, ground := Ground.data }], guard := none }, { dst := none, op := Op.store 24 (Operand.tmp 2) (Operand.tmp 11), type := 0, pos := "iter.go:52", after := #[{ on := 3, ground := Ground.data }, { on := 3, ground := Ground.chain }, { on := 0, ground := Ground.phase }, { on := 1, ground := Ground.phase }, { on := 2, ground := Ground.phase }, { on := 3, ground := Ground.phase }], guard := none }] false))
/-- The loop's record. -/
def impl_different.apRec (fn : FuncId) (sv : Value) (Bs D : Nat) (st : LoopState) (pend : Option Code) : Loop :=
  { state := st, pending := pend, fn, tmps := #[.slice none 0 0, sv, .pointer (some ⟨Bs, 0, none⟩), undef, .slice none 0 0, undef, sv, undef, undef, undef, undef, undef, undef], params := #[7], assign := impl_different.apAssign, body := impl_different.apBody, defers := D }
/-- Between two rounds: the box holds a slice that owns what has come so far. -/
structure impl_different.ApAt (w0 : World) (fn : FuncId) (sv : Value) (Bs l D : Nat) (ss : List Int) (W : World) : Prop where
  box : ∃ v, W.heap[Bs]? = some (.cells #[v] 24 (0, 0)) ∧ W.ownsRow w0.heap.size 3 1 v ss.length (ss.map encZ) ∧ (v = .slice none 0 0 ↔ ss = [])
  L : W.heap[l]? = some (.loop (impl_different.apRec fn sv Bs D .ready none))
  K : W.heap[D]? = some (.deferred (some []))
  below : Below w0.heap.size w0 W
theorem impl_different.gput (W : World) (l : Nat) (o : Obj) : W.grownBy (W.putObj l o) (some l) :=
  ⟨rfl, rfl, rfl, by simp, fun k _ hk => World.putObj_heap_other (fun e => hk (by rw [e]))⟩
theorem impl_different.gset (W : World) (b : Nat) (v : Value) : W.grownBy (W.setCell ⟨b, 0, none⟩ v) (some b) :=
  ⟨rfl, rfl, rfl, (KeepsWalks.setCell W _ v).size, fun k _ hk => Below.heap_setCell _ _ _ k (fun e => hk (by rw [e]))⟩
theorem impl_different.own_ne {W : World} {base : Nat} {e : TypeId} {size : Nat} {v : Value} {k : Nat} {xs : List Value} (h : W.ownsRow base e size v k xs) {j : Nat} {o : Obj} (hj : W.heap[j]? = some o) (hno : ∀ cur, o ≠ .cells cur e (0, 0)) :
    v.ownBlock = none ∨ v.ownBlock ≠ some j := by
 rcases h.2 with ⟨rfl, _⟩ | ⟨g, cap, cur, rfl, _, hgb, _⟩
 · exact .inl rfl
 · {
 refine .inr fun e' => ?_
 have : g = j := by simpa [Value.ownBlock] using e'
 subst this; rw [hgb] at hj; cases hj; exact hno cur rfl}
theorem impl_different.cbox {W : World} {B : Nat} {v : Value} {t : TypeId} (h : W.heap[B]? = some (.cells #[v] t (0, 0))) : W.cell? ⟨B, 0, none⟩ = some v ∧ W.frozen? ⟨B, 0, none⟩ = false := by
 constructor <;> simp [World.cell?, World.frozen?, h]
theorem impl_different.sbox {W : World} {B : Nat} {v : Value} {t : TypeId} (v' : Value) (h : W.heap[B]? = some (.cells #[v] t (0, 0))) : (W.setCell ⟨B, 0, none⟩ v').heap[B]? = some (.cells #[v'] t (0, 0)) := by
 obtain ⟨hlt, hk⟩ := Array.getElem?_eq_some_iff.1 h
 show (W.heap.modify B _)[B]? = _
 rw [Array.getElem?_eq_getElem (by rw [Array.size_modify]; exact hlt), Array.getElem_modify_self, hk]
 rfl
theorem impl_different.own_walk {W : World} {base : Nat} {e : TypeId} {size : Nat} {v : Value} {k : Nat} {xs : List Value} (h : W.ownsRow base e size v k xs) : ∀ (j : Nat) (o : Obj), v.ownBlock = some j → W.heap[j]? = some o → o.isWalk = false := by
 intro j o hj ho
 rcases h.2 with ⟨rfl, _⟩ | ⟨g, cap, cur, rfl, _, hgb, _⟩
 · simp [Value.ownBlock] at hj
 · {
 have : g = j := by simpa [Value.ownBlock] using hj
 subst this; rw [hgb] at ho; cases ho; rfl}
theorem impl_different.inf3 : (Try.prog.info? 3).map (fun i => (i.zero, i.size, i.bytes)) = some (some (.int .i64 0), 1, 8) := by kernel_rfl
set_option maxRecDepth 100000 in
set_option maxHeartbeats 2000000 in
theorem impl_different.apYield (m : Nat) (w0 : World) (fn : FuncId) (sv : Value) (Bs l D : Nat) (hBl : Bs ≠ l) (hDl : D ≠ l) (hDB : D ≠ Bs) (h0B : w0.heap.size ≤ Bs) (h0l : w0.heap.size ≤ l)
    (N : Nat) (hN : N ≤ maxLen) (hNb : N * 8 ≤ 140737488355328) (ss : List Int) (x : Int) (W : World) (h : impl_different.ApAt w0 fn sv Bs l D ss W) (hlen : ss.length < N) :
    YieldAt Fence.wide m Try.prog l #[encZ x] W fun e W' => e = .returned (.bool true) ∧ impl_different.ApAt w0 fn sv Bs l D (ss ++ [x]) W' ∧ KeepsWalks W W' := by
  obtain ⟨i0, hi, hz0, hz1, hz2⟩ := info_parts impl_different.inf3
  obtain ⟨v, hv, hrow, _⟩ := h.box
  refine ⟨fn, #[.slice none 0 0, sv, .pointer (some ⟨Bs, 0, none⟩), undef, .slice none 0 0, undef, sv, encZ x, undef, undef, undef, undef, undef], impl_different.apAssign, impl_different.apBody, by simpa [impl_different.apRec] using run_yield (P := Try.prog) (args := #[encZ x]) h.L rfl, roundIn_of_wpIn (F := Fence.wide) trivial ?_⟩
  have hl : l < W.heap.size := (Array.getElem?_eq_some_iff.1 h.L).1
  have hbr := run_beginRound (P := Try.prog) h.L rfl
  obtain ⟨W2, hW2⟩ : ∃ W2, W.putObj l (.loop { impl_different.apRec fn sv Bs D .ready none with state := .busy }) = W2 := ⟨_, rfl⟩
  rw [hW2] at hbr
  have hg2 : W.grownBy W2 (some l) := by rw [← hW2]; exact impl_different.gput _ _ _
  have hk2 : KeepsWalks W W2 := by rw [← hW2]; exact KeepsWalks.putObj _ h.L rfl
  have hv2 : W2.heap[Bs]? = some (.cells #[v] 24 (0, 0)) := by rw [← hW2]; exact (World.putObj_heap_other hBl).trans hv
  have hK2 : W2.heap[D]? = some (.deferred (some [])) := by rw [← hW2]; exact (World.putObj_heap_other hDl).trans h.K
  have hL2 : W2.heap[l]? = some (.loop { impl_different.apRec fn sv Bs D .ready none with state := .busy }) := by rw [← hW2]; exact World.putObj_heap_same hl
  have hrow2 : W2.ownsRow w0.heap.size 3 1 v ss.length (ss.map encZ) := hrow.kept hg2 (impl_different.own_ne hrow h.L (fun cur e => by cases e))
  have hb2 : Below w0.heap.size w0 W2 := h.below.grown hg2 h.below.size (fun k e => by cases e; exact h0l)
  obtain ⟨hc2, hf2⟩ := impl_different.cbox hv2
  have hBlt : Bs < W2.heap.size := (Array.getElem?_eq_some_iff.1 hv2).1
  have hl2 : l < W2.heap.size := (Array.getElem?_eq_some_iff.1 hL2).1
  have hDlt : D < W2.heap.size := (Array.getElem?_eq_some_iff.1 hK2).1
  have ne_of : ∀ {j : Nat} {o : Obj}, W2.heap[j]? = some o → (∀ cur, o ≠ .cells cur 3 (0, 0)) → some j ≠ v.ownBlock := fun hj hno => by
    rcases impl_different.own_ne hrow2 hj hno with e | e
    · rw [e]; simp
    · exact fun e' => e e'.symm
  clear hW2
  unfold impl_different.apAssign
  gi_wp2_with (rw [Oper.semAt_eq _ _ _ (fun c h => by cases h)]; go_simp; try go_bits)
  unfold impl_different.apBody
  gi_wp2_with (first
    | (gi_at_builtin; refine wpListIn_append_own _ rfl _ _ 24 rfl w0.heap.size 3 i0 (.int .i64 0) 1 8 Try.underlying24 hi hz0 hz1 hz2 rfl (by decide) _ _ _ rfl (hrow2.alloc _) ⟨W2.heap.size, 0, none⟩ 1 1 [encZ x] rfl rfl (cell_one_new _ _ _) (by simp [Value.oneCell', encZ]) (by omega) (by omega) (by have := hb2.size; simp; omega) ?_; intro v' w3 hown' hg3 hnil3
       have hv3 : w3.heap[Bs]? = some (.cells #[v] 24 (0, 0)) := (hg3.block Bs (by simp; omega) (ne_of hv2 (fun cur e => by cases e))).trans ((Below.heap_alloc _ _ Bs hBlt).trans hv2)
       obtain ⟨hc3, hf3⟩ := impl_different.cbox hv3
       obtain ⟨g', cap', cur', rfl, hbase', hgb', hr1, hr2, hr3, hr4⟩ : ∃ g' cap' cur', v' = .slice (some ⟨g', 0, none⟩) (ss.length + 1) cap' ∧ w0.heap.size ≤ g' ∧ w3.heap[g']? = some (.cells cur' 3 (0, 0)) ∧ ss.length + 1 ≤ cap' ∧ cap' ≤ maxLen ∧ cur'.size = cap' * 1 ∧ cur'.toList.take ((ss.length + 1) * 1) = ss.map encZ ++ [encZ x] := by
         rcases hown'.2 with ⟨_, h0⟩ | h'
         · exact absurd h0 (by omega)
         · exact h'
       go_frame)
    | (rw [Oper.semAt_eq _ _ _ (fun c h => by cases h)]; go_simp; try go_bits))
  have hg3' : (W2.alloc (.cells #[encZ x] 3)).grownBy w3 v.ownBlock := hg3
  have hL3 : w3.heap[l]? = some (.loop { impl_different.apRec fn sv Bs D .ready none with state := .busy }) := (hg3'.block l (by simp; omega) (ne_of hL2 (fun cur e => by cases e))).trans ((Below.heap_alloc _ _ l hl2).trans hL2)
  have hK3 : w3.heap[D]? = some (.deferred (some [])) := (hg3'.block D (by simp; omega) (ne_of hK2 (fun cur e => by cases e))).trans ((Below.heap_alloc _ _ D hDlt).trans hK2)
  obtain ⟨w4, hw4⟩ : ∃ w4, w3.setCell ⟨Bs, 0, none⟩ (.slice (some ⟨g', 0, none⟩) (ss.length + 1) cap') = w4 := ⟨_, rfl⟩
  rw [hw4]
  have hg4 : w3.grownBy w4 (some Bs) := by rw [← hw4]; exact impl_different.gset _ _ _
  have hv4 : w4.heap[Bs]? = some (.cells #[.slice (some ⟨g', 0, none⟩) (ss.length + 1) cap'] 24 (0, 0)) := by rw [← hw4]; exact impl_different.sbox _ hv3
  have hL4 : w4.heap[l]? = some (.loop { impl_different.apRec fn sv Bs D .ready none with state := .busy }) := (hg4.block l (Array.getElem?_eq_some_iff.1 hL3).1 (fun e => hBl (by cases e; rfl))).trans hL3
  have hK4 : w4.heap[D]? = some (.deferred (some [])) := (hg4.block D (Array.getElem?_eq_some_iff.1 hK3).1 (fun e => hDB (by cases e; rfl))).trans hK3
  have hrow4 := hown'.kept hg4 (impl_different.own_ne hown' hv3 (fun cur e => by cases e))
  have hl4 : l < w4.heap.size := (Array.getElem?_eq_some_iff.1 hL4).1
  have hb3 : Below w0.heap.size w0 w3 := (hb2.alloc hb2.size _).grown hg3' (by have := hb2.size; simp; omega) (fun k e => (hrow2.lt k e).1)
  have hb4 : Below w0.heap.size w0 w4 := hb3.grown hg4 hb3.size (fun k e => by cases e; exact h0B)
  have hk4 : KeepsWalks W w4 := ((hk2.trans (KeepsWalks.alloc _ _)).trans (KeepsWalks.of_grownBy hg3' (impl_different.own_walk (hrow2.alloc _)))).trans (by rw [← hw4]; exact KeepsWalks.setCell _ _ _)
  clear hw4
  refine ⟨_, _, run_endRound none hL4, rfl, ⟨⟨_, (World.putObj_heap_other hBl).trans hv4, ?_, by simp⟩, World.putObj_heap_same hl4, (World.putObj_heap_other hDl).trans hK4, hb4.grown (impl_different.gput _ _ _) hb4.size (fun k e => by cases e; exact h0l)⟩, hk4.trans (KeepsWalks.putObj _ hL4 rfl)⟩
  have := hrow4.kept (impl_different.gput w4 l (.loop { { impl_different.apRec fn sv Bs D .ready none with state := .busy } with state := if (none : Option Code).isNone then .ready else .done, pending := none })) (impl_different.own_ne hrow4 hL4 (fun cur e => by cases e))
  simpa using this
set_option maxRecDepth 100000 in
set_option maxHeartbeats 2000000 in
/-- slices.Values's closure, for a body that keeps what lay below. -/
theorem impl_different.values1 (n : Nat) (hn : 1 ≤ n) (l Bs : Nat) (w0 : World) (A : Option Addr) (cap : Nat) (zs : List Int) (hreach : zs.length ≤ 100000) (hC : Kd.C (Kd.int .i64) w0 A zs.length zs) (J : List Int → World → Prop) (hJb : ∀ ys w, J ys w → Below w0.heap.size w0 w)
    (hY : ∀ pre x W, J pre W → pre.length < zs.length → YieldAt Fence.wide (n - 1) Try.prog l #[encZ x] W fun e W' => e = .returned (.bool true) ∧ J (pre ++ [x]) W' ∧ KeepsWalks W W')
    (W : World) (hBs : W.cell? ⟨Bs, 0, none⟩ = some (.slice A zs.length cap)) (h0 : J [] W) :
    CallsIn Fence.wide n Try.prog 175 #[.func (.yield l) #[] #[], .pointer (some ⟨Bs, 0, none⟩)] W fun e W' => (∃ v, e = .returned v) ∧ J zs W' := by
 refine callsIn_of_wp Try.func175 rfl (F := Fence.wide) trivial ?_ rfl
 simp only [Try.ntmps175, List.size_toArray, List.length_cons, List.length_nil, Nat.reduceAdd, Nat.reduceSub, Array.replicate_succ, Array.replicate_zero, List.push_toArray, List.append_toArray, List.nil_append, List.cons_append]
 gi_wp2
 gi_loopw [7] (fun i wr => ∃ k : Nat, k ≤ zs.length ∧ i = .int .i64 k ∧ J (zs.take k) wr) (fun i _ => zs.length - (intOf i).toNat)
 case atStart => exact ⟨0, Nat.zero_le _, rfl, h0⟩
 case round => (
 obtain ⟨k, hk, rfl, hJs⟩ := hrel
 by_cases hlt : k < zs.length
 · {
 obtain ⟨ad, rfl, hcx⟩ := Live.C_num hC k hlt
 have hcx' := pw_cell_below (hJb _ _ hJs) hcx
 obtain ⟨x, hx⟩ : ∃ x, x = zs.getD k 0 := ⟨_, rfl⟩
 rw [← hx] at hcx'
 have HX := aM hx
 clear hx hcx
 obtain ⟨fn, tmps, assign, body, hy, hR⟩ := hY _ x wr hJs (by rw [List.length_take]; omega)
 gi_wp2
 refine hR.mono ?_
 rintro e W3 ⟨rfl, hJ3, hk3⟩
 gi_wp2
 go_roundw
 case rel => exact ⟨k + 1, by omega, by simp, by rw [List.take_succ_eq_append_getElem hlt]; have e_ := HX.out; rw [List.getD_eq_getElem?_getD, List.getElem?_eq_getElem hlt] at e_; rw [show zs[k] = x from e_.symm]; exact hJ3⟩
 case measure => simp [intOf]; omega}
 · {
 obtain rfl : k = zs.length := by omega
 rw [List.take_length] at hJs
 gi_wp2
 go_end0
 exact ⟨⟨_, rfl⟩, hJs⟩})
set_option maxRecDepth 100000 in
set_option maxHeartbeats 2000000 in
theorem impl_different.appendSeq (n : Nat) (hn : 2 ≤ n) (B0 : Nat) (A : Option Addr) (cap : Nat) (zs : List Int) (w : World) (hreach : zs.length ≤ 100000) (hC : Kd.C (Kd.int .i64) w A zs.length zs) (hB0 : w.cell? ⟨B0, 0, none⟩ = some (.slice A zs.length cap)) :
    CallsIn Fence.wide n Try.prog 176 #[.slice none 0 0, .func (.func 175) #[] #[.pointer (some ⟨B0, 0, none⟩)]] w fun e w' => ∃ v : Value, e = .returned v ∧ w'.ownsRow w.heap.size 3 1 v zs.length (zs.map encZ) ∧ Below w.heap.size w w' := by
  have h1 : 1 ≤ n := by omega
  refine callsIn_of_wp_marks Try.func176 rfl (F := Fence.wide) trivial ?_ rfl
  simp only [Try.ntmps176, List.size_toArray, List.length_cons, List.length_nil, Nat.reduceAdd, Nat.reduceSub, Array.replicate_succ, Array.replicate_zero, List.push_toArray, List.append_toArray, List.nil_append, List.cons_append]
  gi_wp2
  refine wpIn_rangeFunc ?_
  intro fn hfn
  rw [show Fence.wide.round = none from rfl]
  obtain ⟨sv, hsv⟩ : ∃ sv, Value.func (.func 175) #[] #[.pointer (some ⟨B0, 0, none⟩)] = sv := ⟨_, rfl⟩
  obtain ⟨W0, hW0⟩ : ∃ W0, w.alloc (.cells #[.slice none 0 0] 24) = W0 := ⟨_, rfl⟩
  have hs0 : W0.heap.size = w.heap.size + 1 := by rw [← hW0]; simp
  have hv0 : W0.heap[w.heap.size]? = some (.cells #[.slice none 0 0] 24 (0, 0)) := by rw [← hW0]; exact World.alloc_heap_new w _
  have hb0 : Below w.heap.size w W0 := by rw [← hW0]; exact (Below.refl _ w).alloc (Nat.le_refl _) _
  rw [hW0]
  obtain ⟨W1, hW1⟩ : ∃ W1, (W0.alloc (.deferred (some []))).alloc (.loop (impl_different.apRec fn (.func (.func 175) #[] #[.pointer (some ⟨B0, 0, none⟩)]) w.heap.size W0.heap.size .ready none)) = W1 := ⟨_, rfl⟩
  have hold : ∀ k, k < W0.heap.size → W1.heap[k]? = W0.heap[k]? := fun k hk => by
    rw [← hW1]; exact (Below.heap_alloc _ _ k (by simp; omega)).trans (Below.heap_alloc _ _ k hk)
  have hb1 : Below w.heap.size w W1 := by rw [← hW1]; exact (hb0.alloc hb0.size _).alloc (by have := hb0.size; simp; omega) _
  have hs1 : W1.heap.size = W0.heap.size + 2 := by rw [← hW1]; simp
  have hM : impl_different.ApAt w fn (.func (.func 175) #[] #[.pointer (some ⟨B0, 0, none⟩)]) w.heap.size (W0.heap.size + 1) W0.heap.size [] W1 :=
    ⟨⟨_, (hold w.heap.size (by omega)).trans hv0, ⟨rfl, .inl ⟨rfl, rfl⟩⟩, by simp⟩,
     by rw [← hW1]; have := World.alloc_heap_new (W0.alloc (.deferred (some []))) (.loop (impl_different.apRec fn (.func (.func 175) #[] #[.pointer (some ⟨B0, 0, none⟩)]) w.heap.size W0.heap.size .ready none)); rwa [World.size_alloc] at this,
     by rw [← hW1]; exact (Below.heap_alloc _ _ _ (by simp)).trans (World.alloc_heap_new W0 _), hb1⟩
  have eg : ∀ args w, (callFunc 175 args).run Try.prog w = .ok (.enter 175 args) w := enters_of Try.func175 (by kernel_rfl) rfl
  refine ⟨W0.heap.size + 1, [{ target := .collected W0.heap.size, args := #[] }], W1, { target := .fn (.func 175) #[.pointer (some ⟨B0, 0, none⟩)], args := #[.func (.yield (W0.heap.size + 1)) #[] #[]] }, W1, 175,
    #[.func (.yield (W0.heap.size + 1)) #[] #[]] ++ #[.pointer (some ⟨B0, 0, none⟩)], W1, ?_, ?_, ?_, ?_, fun _ => h1, ?_⟩
  · rw [← hW1]; exact run_enterLoop_outer _ _ _ _ _
  · simp [resolve, go_sem]
  · intro f' hf'; trivial
  · simp [invoke, go_sem, eg]
  · refine (impl_different.values1 (n - 1) (by omega) (W0.heap.size + 1) B0 w A cap zs hreach hC (impl_different.ApAt w fn (.func (.func 175) #[] #[.pointer (some ⟨B0, 0, none⟩)]) w.heap.size (W0.heap.size + 1) W0.heap.size) (fun _ _ h => h.below)
      (fun pre x W hJ hl => impl_different.apYield (n - 1 - 1) w fn _ w.heap.size (W0.heap.size + 1) W0.heap.size (by omega) (by omega) (by omega) (Nat.le_refl _) (by omega) zs.length (by unfold maxLen; omega) (by omega) pre x W hJ hl) W1 (pw_cell_below hb1 hB0) hM).mono ?_
    rintro e W2 ⟨⟨v0, rfl⟩, h2⟩
    obtain ⟨v, hv, hrow, hnil⟩ := h2.box
    have hend := run_endLoop (P := Try.prog) h2.L (by simp [impl_different.apRec])
    obtain ⟨W3, hW3⟩ : ∃ W3, W2.putObj (W0.heap.size + 1) (.loop { impl_different.apRec fn (.func (.func 175) #[] #[.pointer (some ⟨B0, 0, none⟩)]) w.heap.size W0.heap.size .ready none with state := .exhausted }) = W3 := ⟨_, rfl⟩
    rw [hW3] at hend
    have hg3 : W2.grownBy W3 (some (W0.heap.size + 1)) := by rw [← hW3]; exact impl_different.gput _ _ _
    have hv3 : W3.heap[w.heap.size]? = some (.cells #[v] 24 (0, 0)) := by rw [← hW3]; exact (World.putObj_heap_other (by omega)).trans hv
    have hK3 : W3.heap[W0.heap.size]? = some (.deferred (some [])) := by rw [← hW3]; exact (World.putObj_heap_other (by omega)).trans h2.K
    have hrow3 := hrow.kept hg3 (impl_different.own_ne hrow h2.L (fun cur e => by cases e))
    have hb3 : Below w.heap.size w W3 := h2.below.grown hg3 h2.below.size (fun k e => by cases e; omega)
    obtain ⟨hc3, hf3⟩ := impl_different.cbox hv3
    clear hW3
    refine ⟨none, W3, hend, ?_⟩
    gi_wp2
    rw [← hs0]
    refine ⟨by simp, .inl ⟨_, _, rfl, run_takeDeferred hK3, ?_⟩⟩
    exact ⟨_, results_tmp rfl _ _ _, v, rfl, hrow3.kept (impl_different.gput _ _ _) (impl_different.own_ne hrow3 hK3 (fun cur e => by cases e)), hb3.grown (impl_different.gput _ _ _) hb3.size (fun k e => by cases e; omega)⟩
set_option maxRecDepth 100000 in
set_option maxHeartbeats 2000000 in
theorem impl_different.collect (B0 : Nat) (A : Option Addr) (cap : Nat) (zs : List Int) (w : World) (hreach : zs.length ≤ 100000) (hC : Kd.C (Kd.int .i64) w A zs.length zs) (hB0 : w.cell? ⟨B0, 0, none⟩ = some (.slice A zs.length cap)) :
    Calls Try.prog 173 #[.func (.func 175) #[] #[.pointer (some ⟨B0, 0, none⟩)]] w fun e w' => ∃ v : Value, e = .returned v ∧ w'.ownsRow w.heap.size 3 1 v zs.length (zs.map encZ) ∧ Below w.heap.size w w' := by
 have cA := (callsIn_wide (n := 2)).1 (impl_different.appendSeq 2 (Nat.le_refl _) B0 A cap zs w hreach hC hB0)
 clear hC
 go_enter Try.func173, Try.ntmps173
 go_wp2_with (fail)
 refine cA.mono ?_
 rintro e w' ⟨v, rfl, h1, h2⟩
 go_wp2_with (fail)
 go_ret
 exact ⟨v, rfl, h1, h2⟩
set_option maxRecDepth 100000 in
set_option maxHeartbeats 2000000 in
theorem impl_different.sorted (B0 : Nat) (A : Option Addr) (cap : Nat) (zs : List Int) (w : World) (hreach : zs.length ≤ 100000) (hC : Kd.C (Kd.int .i64) w A zs.length zs) (hB0 : w.cell? ⟨B0, 0, none⟩ = some (.slice A zs.length cap)) :
    Calls Try.prog 170 #[.func (.func 175) #[] #[.pointer (some ⟨B0, 0, none⟩)]] w fun e w' => ∃ v : Value, e = .returned v ∧ w'.ownsRow w.heap.size 3 1 v zs.length ((zs.mergeSort fun x y => decide (x ≤ y)).map encZ) ∧ Below w.heap.size w w' := by
 have cA := impl_different.collect B0 A cap zs w hreach hC hB0
 clear hC
 go_enter Try.func170, Try.ntmps170
 go_wp2_with (fail)
 refine cA.mono ?_
 rintro e W ⟨v, rfl, hrow, hb⟩
 rcases hrow.2 with ⟨rfl, hz⟩ | ⟨gb, cp, cur, rfl, hbase, hgb, r1, r2, r3, r4⟩
 · {
 have hss : zs = [] := List.eq_nil_of_length_eq_zero hz
 subst hss
 go_wp2_with (fail)
 refine (Go.Proofs.Ytacdlipojhoilaa.XShelfS.slices_Sort_int_none none 0 W).mono ?_
 rintro e w' ⟨rfl, rfl⟩
 go_wp2_with (fail)
 go_ret
 exact ⟨.slice none 0 0, rfl, by simpa using hrow, hb⟩}
 · {
 have hH : Holds (Value.int .i64) W gb 0 zs.toArray := holds_of_block_i hgb (by simpa using r4)
 have hgl : gb < W.heap.size := (Array.getElem?_eq_some_iff.1 hgb).1
 have cS := Go.Proofs.Ytacdlipojhoilaa.XShelfS.slices_Sort_int gb 0 cp zs W hH hgl (by omega)
 clear hH
 go_wp2_with (fail)
 refine cS.mono ?_
 rintro e w' ⟨rfl, nn, os, rfl⟩
 go_wp2_with (fail)
 go_ret
 exact ⟨_, rfl, ownsRow_sorted_i (by simp) hbase hgb r1 r2 r3, hb.grown (grownBy_sorted_i _) hb.size (fun j hj => by cases hj; exact hbase)⟩}
end
/-- The different numbers of a list, in order. -/
def impl_different.dif (l : List Int) : List Int := Lib.compact (l.mergeSort fun x y => decide (x ≤ y))
def impl_different.f (l0 : List Int) : Option (List Int) := if l0.length ≤ 100000 then some (impl_different.dif l0) else none
open Go.Maps Go.Sort Go.Shelf in
set_option maxRecDepth 100000 in
set_option maxHeartbeats 2000000 in
theorem impl_different.calls (A0 : Option Addr) (c0 : Nat) (l0 : List Int) (r : List Int) (w : World) (hr0 : Kd.C (Kd.int .i64) w A0 l0.length l0) (hc0 : l0.length ≤ c0) (h : impl_different.f l0 = some r) :
    Calls Try.prog 164 #[.slice A0 l0.length c0] w fun e w' => ∃ v0_ : Value, e = .returned v0_ ∧ Kd.R (Kd.int .i64) 3 w' w.heap.size (fun _ => True) v0_ r ∧ Below w.heap.size w w' := by
 unfold impl_different.f at h
 by_cases hl : l0.length ≤ 100000
 case neg => rw [if_neg hl] at h; exact absurd h (by simp)
 rw [if_pos hl] at h
 obtain rfl := Option.some.inj h
 clear h
 have HB := aM (Kd.C_alloc hr0 (.cells #[.slice A0 l0.length c0] 24))
 have cA := impl_different.sorted w.heap.size A0 c0 l0 (w.alloc (.cells #[.slice A0 l0.length c0] 24)) hl HB.out (blk_cell (blk_new w _) 0)
 clear hr0 HB
 go_enter Try.func164, Try.ntmps164
 go_wp2_with (first | (go_at_call 171; go_in) | fail)
 refine cA.mono ?_
 rintro e W ⟨v, rfl, hrow, hb⟩
 have hsz : (w.alloc (.cells #[.slice A0 l0.length c0] 24)).heap.size = w.heap.size + 1 := Live.size_alloc _ _
 have hb2 : Below w.heap.size w W := below_step (below_alloc (Below.refl _ _) _) hb
 rcases hrow.2 with ⟨rfl, hz⟩ | ⟨gb, cp, cur, rfl, hbase, hgb, r1, r2, r3, r4⟩
 · {
 have hss : l0 = [] := List.eq_nil_of_length_eq_zero hz
 subst hss
 go_wp2_with (fail)
 refine (Go.Proofs.Ytacdlipojhoilaa.XShelfS.slices_Compact_int_empty none 0 W).mono ?_
 rintro e w' ⟨rfl, rfl⟩
 go_wp2_with (fail)
 go_ret
 exact ⟨_, rfl, by rw [show impl_different.dif [] = [] from by simp [impl_different.dif, Lib.compact, Lib.compactUpTo]]; exact Kd.R_nil _ _ _ _ _, hb2⟩}
 · {
 obtain ⟨ss, hss⟩ : ∃ ss, ss = l0.mergeSort fun x y => decide (x ≤ y) := ⟨_, rfl⟩
 have hsl : ss.length = l0.length := by rw [hss, List.length_mergeSort]
 rw [← hss] at hrow r4
 have hH : Holds (Value.int .i64) W gb 0 ss.toArray := holds_of_block_i hgb (by rw [hsl]; simpa using r4)
 have cS := Go.Proofs.Ytacdlipojhoilaa.XShelfS.slices_Compact_int gb 0 cp ss W hH (by omega) (by omega)
 rw [hsl] at cS
 have hcl : (Lib.compact ss).length ≤ ss.length := Lib.compact_length_le ss
 have HSS := aM hss
 clear hH hss
 go_wp2_with (fail)
 refine cS.mono ?_
 rintro e w' ⟨rfl, q, rfl⟩
 go_wp2_with (fail)
 go_ret
 have hd : impl_different.dif l0 = Lib.compact ss := by rw [impl_different.dif, HSS.out]
 rw [hd]
 obtain ⟨ts, hts⟩ : ∃ ts, ts = Lib.compact ss ++ List.replicate (l0.length - (Lib.compact ss).length) (0 : Int) := ⟨_, rfl⟩
 have htl : ts.length = ss.length := by rw [hts, List.length_append, List.length_replicate]; omega
 rw [← hts]
 have hown := ownsRow_sorted_i (w := W) (n := q) (os := #[]) (ss := ss) (ts := ts) (cap := cp) htl (Nat.le_trans (by omega : w.heap.size ≤ _) hbase) hgb (by omega) r2 r3
 rw [grow_empty] at hown
 have hgr := grownBy_sorted_i (w := W) (g := gb) (n := q) (os := #[]) ts.toArray
 rw [grow_empty] at hgr
 refine ⟨_, rfl, ?_, hb2.grown hgr hb2.size (fun j hj => by cases hj; omega)⟩
 have hR := Kd.R_of_own (h1 := fun _ => rfl) (enc := Value.int .i64) (ok := fun _ => True) (xs := ts) (by rw [htl]; exact hown) (fun _ _ => trivial)
 have := Kd.R_take (m := (Lib.compact ss).length) hR (by omega)
 rw [hts, List.take_left] at this
 rw [← hts] at this
 exact this}
/-! ### impl_Interval: function 165 -/
def impl_Interval.f (l0 : List S62) : Option (List S62) := if l0.length < 8796093022208 then some l0 else none
set_option maxHeartbeats 8000000 in
set_option maxRecDepth 100000 in
theorem impl_Interval.calls (A0 : Option Addr) (c0 : Nat) (l0 : List S62) (r : List S62) (w : World) (hr0 : Kd.C (k62) w A0 l0.length l0) (hc0 : l0.length ≤ c0) (h : impl_Interval.f l0 = some r) :
    Calls Try.prog 165 #[.slice A0 l0.length c0] w fun e w' => ∃ v0_ : Value, e = .returned (v0_) ∧ Kd.R (k62) 62 w' w.heap.size (fun _ => True) v0_ r ∧ Below w.heap.size w w' := by
 have HB := aM (Below.refl w.heap.size w)
 unfold impl_Interval.f at h
 by_cases c2 : l0.length < 8796093022208
 · {
 rw [if_pos c2] at h
 obtain rfl := Option.some.inj h
 clear h
 have LMc2 := aM c2
 clear c2
 cases A0 with
 | none => {
 have hn : l0.length = 0 := by {
 rcases Nat.eq_zero_or_pos l0.length with h0 | h0
 · exact h0
 · {
 obtain ⟨ad, he, _⟩ := hr0.2.2 h0
 cases he}}
 obtain rfl : l0 = [] := List.eq_nil_of_length_eq_zero hn
 clear hn hr0 hc0
 have q1 : ∀ (W : World) (n c n' c' : Nat), (binOp .eql 58 (.slice none n c) (.slice none n' c')).run Try.prog W = .ok (.bool true) W := fun W n c n' c' => Go.Lib.run_eql_slice_nil W _ _ none n c n' c' Try.underlying58
 go_enter Try.func165, Try.ntmps165
 go_wp2
 go_ret
 exact ⟨_, rfl, Kd.R_nil _ _ _ _ _, by repeat (first | (with_reducible first | exact HB.out | apply below_alloc | apply pw_below_drewN | apply below_drew1) | exact HB.out)⟩}
 | some ad0 => {
 have HR0 := aM hr0
 have HC0 := aM hc0
 clear hr0 hc0
 obtain ⟨y580, hy580⟩ : ∃ y_ : List S62, y_ = (([] : List S62)) := ⟨_, rfl⟩
 have Ny580 := aM hy580
 clear hy580
 obtain ⟨y583, hy583⟩ : ∃ y_ : List S62, y_ = (y580 ++ l0) := ⟨_, rfl⟩
 have Ny583 := aM hy583
 clear hy583
 have q1 : ∀ (W : World) (n c n' c' : Nat), (binOp .eql 58 (.slice (some ad0) n c) (.slice none n' c')).run Try.prog W = .ok (.bool false) W := fun W n c n' c' => Go.Lib.run_eql_slice_nil W _ _ (some ad0) n c n' c' Try.underlying58
 have E583 : Aside0 (y583 = l0) := ⟨by rw [Ny583.out, Ny580.out]; rfl⟩
 go_enter Try.func165, Try.ntmps165
 go_wp2_with (first | ((with_reducible refine gate_dst (N := 5) rfl ?_); refine Kd.R_lit (k62) _ 62 ?hg (N := 5) ?hd (xs := ([] : List S62)) (inner := []) (ok := fun _ => True) (okp := fun _ => True) ?hr ?hp (fun _ hk => hk) trivial (Below.refl _ _) (Nat.le_refl _) (by simp) ?_; (case hd => rfl); (case hg => rfl); (case hr => first | (go_simp; done) | (go_simp; rfl)); (case hp => exact (Reps.none _ _)); intro v581 w3 ho4 hb hg_ hnew_; clear hg_ hnew_; (first | rw [← Ny580.out] at ho4 | (simp only [Int.reduceToNat] at ho4; rw [← Ny580.out] at ho4)); have _ := aM (Kd.R_lower ho4 (below_size (by repeat (first | (with_reducible first | exact HB.out | apply below_alloc | apply pw_below_drewN | apply below_drew1) | exact HB.out)))); have _ := aM (below_step (by repeat (first | (with_reducible first | exact HB.out | apply below_alloc | apply pw_below_drewN | apply below_drew1) | exact HB.out)) hb); clear HB; rename_i HO582 HB; clear hb ho4) | ((with_reducible refine gate_builtin (b := .append) (xs := #[.tmp 5, .tmp 6]) rfl ?_); at_builtin; refine Kd.R_append_rows (k62) (w0 := w) w.heap.size rfl (.tmp 5) (.tmp 6) 58 62 (.agg #[.int .i64 0, .int .i64 0]) 16 rfl Try.underlying58 (by kernel_rfl) rfl (by decide) (by omega) v581 y580 l0 _ _ _ (fun _ => True) (fun _ => False) rfl rfl ?aO ?aR (fun _ _ h => h) (fun _ h => h.elim) ?aF ?aB ?aS ?aL ?_; (case aR => repeat (first | exact (Kd.C_below HR0.out HB.out) | (with_reducible refine Kd.C_alloc ?_ _) | (with_reducible refine Kd.C_drewN ?_ _) | (with_reducible refine Kd.C_drew ?_))); (case aB => exact (by repeat (first | (with_reducible first | exact HB.out | apply below_alloc | apply pw_below_drewN | apply below_drew1) | exact HB.out))); (case aF => exact (fun _ _ => trivial)); (case aO => exact (by (with_reducible repeat (first | apply Kd.R_alloc | apply Kd.R_drewN | apply Kd.R_drew)); exact HO582.out)); (case aS => exact (below_size (by repeat (first | (with_reducible first | exact HB.out | apply below_alloc | apply pw_below_drewN | apply below_drew1) | exact HB.out)))); (case aL => have := LMc2.out; have := Ny580.out; simp_all; omega); intro v584 w5 ho hb hg hat; rw [← Ny583.out] at ho; have _ := aM (hb); have _ := aM (ho); clear HB HO582; rename_i HB HO585; clear ho hb hg hat))
 go_ret
 exact ⟨_, rfl, by (with_reducible repeat (first | apply Kd.R_alloc | apply Kd.R_drewN | apply Kd.R_drew)); (have := HO585.out; rw [E583.out] at this; exact this), by repeat (first | (with_reducible first | exact HB.out | apply below_alloc | apply pw_below_drewN | apply below_drew1) | exact HB.out)⟩}}
 · {
 rw [if_neg c2] at h
 exact absurd h (by simp)}
end Go.Proofs.Ytacdlipojhoilaa.Mx
