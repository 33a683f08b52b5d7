-- Written by hook.py (wip/), over the kit's print.py.
import Derived.Test.YtjmmleofnjcjoaaGreatDoorDu2
import Derived.Test.YtjmmleofnjcjoaaGreatDoorDu10
import Derived.Test.YtjmmleofnjcjoaaGreatDoorDuXSq
namespace Go.Proofs.YtjmmleofnjcjoaaGreatDoor.Du
open Go.RowKit Go.Proofs.YtjmmleofnjcjoaaGreatDoorW.PrintWords Go.Proofs.YtjmmleofnjcjoaaGreatDoorW.PrintLast Go.Proofs.YtjmmleofnjcjoaaGreatDoorW.PrintMore Go.Proofs.YtjmmleofnjcjoaaGreatDoor.Sq
attribute [local go_sem] max2_int min2_int max_two min_two max_three min_three max_four min_four
set_option linter.unusedVariables false
set_option linter.unusedSimpArgs false
section
open Go.Maps Go.Sort Go.Shelf
attribute [local go_sem] Oper.semAt_some
def Y2.apAssign : Code := (Code.region 2 #[{ dst := some 5, op := Op.assign (Operand.tmp 7), type := 3, pos := "iter.go:51", after := #[], guard := none }] false)
def Y2.apBody : Code := (Code.block 1 (Code.region 3 #[{ dst := some 8, op := Op.load 24 (Operand.tmp 2), type := 24, pos := "iter.go:52", after := #[], guard := none }, { dst := some 9, op := Op.move (Operand.tmp 5), type := 3, pos := "iter.go:52", after := #[], guard := none }, { dst := some 10, op := Op.buildSlice 24 1 #[(0, Operand.tmp 9)], type := 24, pos := "iter.go:52", after := #[{ on := 1, ground := Ground.data }], guard := none }, { dst := some 11, op := Op.call { callee := Callee.builtin Builtin.append, args := #[Operand.tmp 8, Operand.tmp 10], argTypes := #[24, 24] }, type := 24, pos := "iter.go:52", after := #[{ on := 0, ground := Ground.data }, { on := 2, ground := Ground.data }], guard := none }, { dst := none, op := Op.store 24 (Operand.tmp 2) (Operand.tmp 11), type := 0, pos := "iter.go:52", after := #[{ on := 3, ground := Ground.data }, { on := 3, ground := Ground.chain }, { on := 0, ground := Ground.phase }, { on := 1, ground := Ground.phase }, { on := 2, ground := Ground.phase }, { on := 3, ground := Ground.phase }], guard := none }] false))
def Y2.apRec (fn : FuncId) (sv : Value) (Bs D : Nat) (st : LoopState) (pend : Option Code) : Loop :=
  { state := st, pending := pend, fn, tmps := #[.slice none 0 0, sv, .pointer (some ⟨Bs, 0, none⟩), undef, .slice none 0 0, undef, sv, undef, undef, undef, undef, undef, undef], params := #[7], assign := Y2.apAssign, body := Y2.apBody, defers := D }
structure Y2.ApAt (w0 : World) (fn : FuncId) (sv : Value) (Bs l D : Nat) (ss : List Int) (W : World) : Prop where
  box : ∃ v, W.heap[Bs]? = some (.cells #[v] 24 (0, 0)) ∧ W.ownsRow w0.heap.size 3 1 v ss.length (ss.map encZ) ∧ (v = .slice none 0 0 ↔ ss = [])
  L : W.heap[l]? = some (.loop (Y2.apRec fn sv Bs D .ready none))
  K : W.heap[D]? = some (.deferred (some []))
  below : Below w0.heap.size w0 W
theorem Y2.gput (W : World) (l : Nat) (o : Obj) : W.grownBy (W.putObj l o) (some l) :=
  ⟨rfl, rfl, rfl, by simp, fun k _ hk => World.putObj_heap_other (fun e => hk (by rw [e]))⟩
theorem Y2.gset (W : World) (b : Nat) (v : Value) : W.grownBy (W.setCell ⟨b, 0, none⟩ v) (some b) :=
  ⟨rfl, rfl, rfl, (KeepsWalks.setCell W _ v).size, fun k _ hk => Below.heap_setCell _ _ _ k (fun e => hk (by rw [e]))⟩
theorem Y2.own_ne {W : World} {base : Nat} {e : TypeId} {size : Nat} {v : Value} {k : Nat} {xs : List Value} (h : W.ownsRow base e size v k xs) {j : Nat} {o : Obj} (hj : W.heap[j]? = some o) (hno : ∀ cur, o ≠ .cells cur e (0, 0)) :
    v.ownBlock = none ∨ v.ownBlock ≠ some j := by
 rcases h.2 with ⟨rfl, _⟩ | ⟨g, cap, cur, rfl, _, hgb, _⟩
 · exact .inl rfl
 · {
 refine .inr fun e' => ?_
 have : g = j := by simpa [Value.ownBlock] using e'
 subst this; rw [hgb] at hj; cases hj; exact hno cur rfl}
theorem Y2.cbox {W : World} {B : Nat} {v : Value} {t : TypeId} (h : W.heap[B]? = some (.cells #[v] t (0, 0))) : W.cell? ⟨B, 0, none⟩ = some v ∧ W.frozen? ⟨B, 0, none⟩ = false := by
 constructor <;> simp [World.cell?, World.frozen?, h]
theorem Y2.sbox {W : World} {B : Nat} {v : Value} {t : TypeId} (v' : Value) (h : W.heap[B]? = some (.cells #[v] t (0, 0))) : (W.setCell ⟨B, 0, none⟩ v').heap[B]? = some (.cells #[v'] t (0, 0)) := by
 obtain ⟨hlt, hk⟩ := Array.getElem?_eq_some_iff.1 h
 show (W.heap.modify B _)[B]? = _
 rw [Array.getElem?_eq_getElem (by rw [Array.size_modify]; exact hlt), Array.getElem_modify_self, hk]
 rfl
theorem Y2.own_walk {W : World} {base : Nat} {e : TypeId} {size : Nat} {v : Value} {k : Nat} {xs : List Value} (h : W.ownsRow base e size v k xs) : ∀ (j : Nat) (o : Obj), v.ownBlock = some j → W.heap[j]? = some o → o.isWalk = false := by
 intro j o hj ho
 rcases h.2 with ⟨rfl, _⟩ | ⟨g, cap, cur, rfl, _, hgb, _⟩
 · simp [Value.ownBlock] at hj
 · {
 have : g = j := by simpa [Value.ownBlock] using hj
 subst this; rw [hgb] at ho; cases ho; rfl}
theorem Y2.inf3 : (Tryz.prog.info? 3).map (fun i => (i.zero, i.size, i.bytes)) = some (some (.int .i64 0), 1, 8) := by kernel_rfl
set_option maxRecDepth 100000 in
set_option maxHeartbeats 2000000 in
theorem Y2.apYield (m : Nat) (w0 : World) (fn : FuncId) (sv : Value) (Bs l D : Nat) (hBl : Bs ≠ l) (hDl : D ≠ l) (hDB : D ≠ Bs) (h0B : w0.heap.size ≤ Bs) (h0l : w0.heap.size ≤ l)
    (N : Nat) (hN : N ≤ maxLen) (hNb : N * 8 ≤ 140737488355328) (ss : List Int) (x : Int) (W : World) (h : Y2.ApAt w0 fn sv Bs l D ss W) (hlen : ss.length < N) :
    YieldAt Fence.wide m Tryz.prog l #[encZ x] W fun e W' => e = .returned (.bool true) ∧ Y2.ApAt w0 fn sv Bs l D (ss ++ [x]) W' ∧ KeepsWalks W W' := by
  obtain ⟨i0, hi, hz0, hz1, hz2⟩ := info_parts Y2.inf3
  obtain ⟨v, hv, hrow, _⟩ := h.box
  refine ⟨fn, #[.slice none 0 0, sv, .pointer (some ⟨Bs, 0, none⟩), undef, .slice none 0 0, undef, sv, encZ x, undef, undef, undef, undef, undef], Y2.apAssign, Y2.apBody, by simpa [Y2.apRec] using run_yield (P := Tryz.prog) (args := #[encZ x]) h.L rfl, roundIn_of_wpIn (F := Fence.wide) trivial ?_⟩
  have hl : l < W.heap.size := (Array.getElem?_eq_some_iff.1 h.L).1
  have hbr := run_beginRound (P := Tryz.prog) h.L rfl
  obtain ⟨W2, hW2⟩ : ∃ W2, W.putObj l (.loop { Y2.apRec fn sv Bs D .ready none with state := .busy }) = W2 := ⟨_, rfl⟩
  rw [hW2] at hbr
  have hg2 : W.grownBy W2 (some l) := by rw [← hW2]; exact Y2.gput _ _ _
  have hk2 : KeepsWalks W W2 := by rw [← hW2]; exact KeepsWalks.putObj _ h.L rfl
  have hv2 : W2.heap[Bs]? = some (.cells #[v] 24 (0, 0)) := by rw [← hW2]; exact (World.putObj_heap_other hBl).trans hv
  have hK2 : W2.heap[D]? = some (.deferred (some [])) := by rw [← hW2]; exact (World.putObj_heap_other hDl).trans h.K
  have hL2 : W2.heap[l]? = some (.loop { Y2.apRec fn sv Bs D .ready none with state := .busy }) := by rw [← hW2]; exact World.putObj_heap_same hl
  have hrow2 : W2.ownsRow w0.heap.size 3 1 v ss.length (ss.map encZ) := hrow.kept hg2 (Y2.own_ne hrow h.L (fun cur e => by cases e))
  have hb2 : Below w0.heap.size w0 W2 := h.below.grown hg2 h.below.size (fun k e => by cases e; exact h0l)
  obtain ⟨hc2, hf2⟩ := Y2.cbox hv2
  have hBlt : Bs < W2.heap.size := (Array.getElem?_eq_some_iff.1 hv2).1
  have hl2 : l < W2.heap.size := (Array.getElem?_eq_some_iff.1 hL2).1
  have hDlt : D < W2.heap.size := (Array.getElem?_eq_some_iff.1 hK2).1
  have ne_of : ∀ {j : Nat} {o : Obj}, W2.heap[j]? = some o → (∀ cur, o ≠ .cells cur 3 (0, 0)) → some j ≠ v.ownBlock := fun hj hno => by
    rcases Y2.own_ne hrow2 hj hno with e | e
    · rw [e]; simp
    · exact fun e' => e e'.symm
  clear hW2
  unfold Y2.apAssign
  gi_wp2_with (rw [Oper.semAt_eq _ _ _ (fun c h => by cases h)]; go_simp; try go_bits)
  unfold Y2.apBody
  gi_wp2_with (first
    | (gi_at_builtin; refine wpListIn_append_own _ rfl _ _ 24 rfl w0.heap.size 3 i0 (.int .i64 0) 1 8 Tryz.underlying24 hi hz0 hz1 hz2 rfl (by decide) _ _ _ rfl (hrow2.alloc _) ⟨W2.heap.size, 0, none⟩ 1 1 [encZ x] rfl rfl (cell_one_new _ _ _) (by simp [Value.oneCell', encZ]) (by omega) (by omega) (by have := hb2.size; simp; omega) ?_; intro v' w3 hown' hg3 hnil3
       have hv3 : w3.heap[Bs]? = some (.cells #[v] 24 (0, 0)) := (hg3.block Bs (by simp; omega) (ne_of hv2 (fun cur e => by cases e))).trans ((Below.heap_alloc _ _ Bs hBlt).trans hv2)
       obtain ⟨hc3, hf3⟩ := Y2.cbox hv3
       obtain ⟨g', cap', cur', rfl, hbase', hgb', hr1, hr2, hr3, hr4⟩ : ∃ g' cap' cur', v' = .slice (some ⟨g', 0, none⟩) (ss.length + 1) cap' ∧ w0.heap.size ≤ g' ∧ w3.heap[g']? = some (.cells cur' 3 (0, 0)) ∧ ss.length + 1 ≤ cap' ∧ cap' ≤ maxLen ∧ cur'.size = cap' * 1 ∧ cur'.toList.take ((ss.length + 1) * 1) = ss.map encZ ++ [encZ x] := by
         rcases hown'.2 with ⟨_, h0⟩ | h'
         · exact absurd h0 (by omega)
         · exact h'
       go_frame)
    | (rw [Oper.semAt_eq _ _ _ (fun c h => by cases h)]; go_simp; try go_bits))
  have hg3' : (W2.alloc (.cells #[encZ x] 3)).grownBy w3 v.ownBlock := hg3
  have hL3 : w3.heap[l]? = some (.loop { Y2.apRec fn sv Bs D .ready none with state := .busy }) := (hg3'.block l (by simp; omega) (ne_of hL2 (fun cur e => by cases e))).trans ((Below.heap_alloc _ _ l hl2).trans hL2)
  have hK3 : w3.heap[D]? = some (.deferred (some [])) := (hg3'.block D (by simp; omega) (ne_of hK2 (fun cur e => by cases e))).trans ((Below.heap_alloc _ _ D hDlt).trans hK2)
  obtain ⟨w4, hw4⟩ : ∃ w4, w3.setCell ⟨Bs, 0, none⟩ (.slice (some ⟨g', 0, none⟩) (ss.length + 1) cap') = w4 := ⟨_, rfl⟩
  rw [hw4]
  have hg4 : w3.grownBy w4 (some Bs) := by rw [← hw4]; exact Y2.gset _ _ _
  have hv4 : w4.heap[Bs]? = some (.cells #[.slice (some ⟨g', 0, none⟩) (ss.length + 1) cap'] 24 (0, 0)) := by rw [← hw4]; exact Y2.sbox _ hv3
  have hL4 : w4.heap[l]? = some (.loop { Y2.apRec fn sv Bs D .ready none with state := .busy }) := (hg4.block l (Array.getElem?_eq_some_iff.1 hL3).1 (fun e => hBl (by cases e; rfl))).trans hL3
  have hK4 : w4.heap[D]? = some (.deferred (some [])) := (hg4.block D (Array.getElem?_eq_some_iff.1 hK3).1 (fun e => hDB (by cases e; rfl))).trans hK3
  have hrow4 := hown'.kept hg4 (Y2.own_ne hown' hv3 (fun cur e => by cases e))
  have hl4 : l < w4.heap.size := (Array.getElem?_eq_some_iff.1 hL4).1
  have hb3 : Below w0.heap.size w0 w3 := (hb2.alloc hb2.size _).grown hg3' (by have := hb2.size; simp; omega) (fun k e => (hrow2.lt k e).1)
  have hb4 : Below w0.heap.size w0 w4 := hb3.grown hg4 hb3.size (fun k e => by cases e; exact h0B)
  have hk4 : KeepsWalks W w4 := ((hk2.trans (KeepsWalks.alloc _ _)).trans (KeepsWalks.of_grownBy hg3' (Y2.own_walk (hrow2.alloc _)))).trans (by rw [← hw4]; exact KeepsWalks.setCell _ _ _)
  clear hw4
  refine ⟨_, _, run_endRound none hL4, rfl, ⟨⟨_, (World.putObj_heap_other hBl).trans hv4, ?_, by simp⟩, World.putObj_heap_same hl4, (World.putObj_heap_other hDl).trans hK4, hb4.grown (Y2.gput _ _ _) hb4.size (fun k e => by cases e; exact h0l)⟩, hk4.trans (KeepsWalks.putObj _ hL4 rfl)⟩
  have := hrow4.kept (Y2.gput w4 l (.loop { { Y2.apRec fn sv Bs D .ready none with state := .busy } with state := if (none : Option Code).isNone then .ready else .done, pending := none })) (Y2.own_ne hrow4 hL4 (fun cur e => by cases e))
  simpa using this
set_option maxRecDepth 100000 in
set_option maxHeartbeats 2000000 in
theorem Y2.values1 (n : Nat) (hn : 1 ≤ n) (l Bs : Nat) (w0 : World) (A : Option Addr) (cap : Nat) (zs : List Int) (hreach : zs.length ≤ 100000) (hC : Kd.C (Kd.int .i64) w0 A zs.length zs) (J : List Int → World → Prop) (hJb : ∀ ys w, J ys w → Below w0.heap.size w0 w)
    (hY : ∀ pre x W, J pre W → pre.length < zs.length → YieldAt Fence.wide (n - 1) Tryz.prog l #[encZ x] W fun e W' => e = .returned (.bool true) ∧ J (pre ++ [x]) W' ∧ KeepsWalks W W')
    (W : World) (hBs : W.cell? ⟨Bs, 0, none⟩ = some (.slice A zs.length cap)) (h0 : J [] W) :
    CallsIn Fence.wide n Tryz.prog 217 #[.func (.yield l) #[] #[], .pointer (some ⟨Bs, 0, none⟩)] W fun e W' => (∃ v, e = .returned v) ∧ J zs W' := by
 refine callsIn_of_wp Tryz.func217 rfl (F := Fence.wide) trivial ?_ rfl
 simp only [Tryz.ntmps217, List.size_toArray, List.length_cons, List.length_nil, Nat.reduceAdd, Nat.reduceSub, Array.replicate_succ, Array.replicate_zero, List.push_toArray, List.append_toArray, List.nil_append, List.cons_append]
 gi_wp2
 gi_loopw [7] (fun i wr => ∃ k : Nat, k ≤ zs.length ∧ i = .int .i64 k ∧ J (zs.take k) wr) (fun i _ => zs.length - (intOf i).toNat)
 case atStart => exact ⟨0, Nat.zero_le _, rfl, h0⟩
 case round => (
 obtain ⟨k, hk, rfl, hJs⟩ := hrel
 by_cases hlt : k < zs.length
 · {
 obtain ⟨ad, rfl, hcx⟩ := Live.C_num hC k hlt
 have hcx' := pw_cell_below (hJb _ _ hJs) hcx
 obtain ⟨x, hx⟩ : ∃ x, x = zs.getD k 0 := ⟨_, rfl⟩
 rw [← hx] at hcx'
 have HX := aM hx
 clear hx hcx
 obtain ⟨fn, tmps, assign, body, hy, hR⟩ := hY _ x wr hJs (by rw [List.length_take]; omega)
 gi_wp2
 refine hR.mono ?_
 rintro e W3 ⟨rfl, hJ3, hk3⟩
 gi_wp2
 go_roundw
 case rel => exact ⟨k + 1, by omega, by simp, by rw [List.take_succ_eq_append_getElem hlt]; have e_ := HX.out; rw [List.getD_eq_getElem?_getD, List.getElem?_eq_getElem hlt] at e_; rw [show zs[k] = x from e_.symm]; exact hJ3⟩
 case measure => simp [intOf]; omega}
 · {
 obtain rfl : k = zs.length := by omega
 rw [List.take_length] at hJs
 gi_wp2
 go_end0
 exact ⟨⟨_, rfl⟩, hJs⟩})
set_option maxRecDepth 100000 in
set_option maxHeartbeats 2000000 in
theorem Y2.appendSeq (n : Nat) (hn : 2 ≤ n) (B0 : Nat) (A : Option Addr) (cap : Nat) (zs : List Int) (w : World) (hreach : zs.length ≤ 100000) (hC : Kd.C (Kd.int .i64) w A zs.length zs) (hB0 : w.cell? ⟨B0, 0, none⟩ = some (.slice A zs.length cap)) :
    CallsIn Fence.wide n Tryz.prog 241 #[.slice none 0 0, .func (.func 217) #[] #[.pointer (some ⟨B0, 0, none⟩)]] w fun e w' => ∃ v : Value, e = .returned v ∧ w'.ownsRow w.heap.size 3 1 v zs.length (zs.map encZ) ∧ Below w.heap.size w w' := by
  have h1 : 1 ≤ n := by omega
  refine callsIn_of_wp_marks Tryz.func241 rfl (F := Fence.wide) trivial ?_ rfl
  simp only [Tryz.ntmps241, List.size_toArray, List.length_cons, List.length_nil, Nat.reduceAdd, Nat.reduceSub, Array.replicate_succ, Array.replicate_zero, List.push_toArray, List.append_toArray, List.nil_append, List.cons_append]
  gi_wp2
  refine wpIn_rangeFunc ?_
  intro fn hfn
  rw [show Fence.wide.round = none from rfl]
  obtain ⟨sv, hsv⟩ : ∃ sv, Value.func (.func 217) #[] #[.pointer (some ⟨B0, 0, none⟩)] = sv := ⟨_, rfl⟩
  obtain ⟨W0, hW0⟩ : ∃ W0, w.alloc (.cells #[.slice none 0 0] 24) = W0 := ⟨_, rfl⟩
  have hs0 : W0.heap.size = w.heap.size + 1 := by rw [← hW0]; simp
  have hv0 : W0.heap[w.heap.size]? = some (.cells #[.slice none 0 0] 24 (0, 0)) := by rw [← hW0]; exact World.alloc_heap_new w _
  have hb0 : Below w.heap.size w W0 := by rw [← hW0]; exact (Below.refl _ w).alloc (Nat.le_refl _) _
  rw [hW0]
  obtain ⟨W1, hW1⟩ : ∃ W1, (W0.alloc (.deferred (some []))).alloc (.loop (Y2.apRec fn (.func (.func 217) #[] #[.pointer (some ⟨B0, 0, none⟩)]) w.heap.size W0.heap.size .ready none)) = W1 := ⟨_, rfl⟩
  have hold : ∀ k, k < W0.heap.size → W1.heap[k]? = W0.heap[k]? := fun k hk => by
    rw [← hW1]; exact (Below.heap_alloc _ _ k (by simp; omega)).trans (Below.heap_alloc _ _ k hk)
  have hb1 : Below w.heap.size w W1 := by rw [← hW1]; exact (hb0.alloc hb0.size _).alloc (by have := hb0.size; simp; omega) _
  have hs1 : W1.heap.size = W0.heap.size + 2 := by rw [← hW1]; simp
  have hM : Y2.ApAt w fn (.func (.func 217) #[] #[.pointer (some ⟨B0, 0, none⟩)]) w.heap.size (W0.heap.size + 1) W0.heap.size [] W1 :=
    ⟨⟨_, (hold w.heap.size (by omega)).trans hv0, ⟨rfl, .inl ⟨rfl, rfl⟩⟩, by simp⟩,
     by rw [← hW1]; have := World.alloc_heap_new (W0.alloc (.deferred (some []))) (.loop (Y2.apRec fn (.func (.func 217) #[] #[.pointer (some ⟨B0, 0, none⟩)]) w.heap.size W0.heap.size .ready none)); rwa [World.size_alloc] at this,
     by rw [← hW1]; exact (Below.heap_alloc _ _ _ (by simp)).trans (World.alloc_heap_new W0 _), hb1⟩
  have eg : ∀ args w, (callFunc 217 args).run Tryz.prog w = .ok (.enter 217 args) w := enters_of Tryz.func217 (by kernel_rfl) rfl
  refine ⟨W0.heap.size + 1, [{ target := .collected W0.heap.size, args := #[] }], W1, { target := .fn (.func 217) #[.pointer (some ⟨B0, 0, none⟩)], args := #[.func (.yield (W0.heap.size + 1)) #[] #[]] }, W1, 217,
    #[.func (.yield (W0.heap.size + 1)) #[] #[]] ++ #[.pointer (some ⟨B0, 0, none⟩)], W1, ?_, ?_, ?_, ?_, fun _ => h1, ?_⟩
  · rw [← hW1]; exact run_enterLoop_outer _ _ _ _ _
  · simp [resolve, go_sem]
  · intro f' hf'; trivial
  · simp [invoke, go_sem, eg]
  · refine (Y2.values1 (n - 1) (by omega) (W0.heap.size + 1) B0 w A cap zs hreach hC (Y2.ApAt w fn (.func (.func 217) #[] #[.pointer (some ⟨B0, 0, none⟩)]) w.heap.size (W0.heap.size + 1) W0.heap.size) (fun _ _ h => h.below)
      (fun pre x W hJ hl => Y2.apYield (n - 1 - 1) w fn _ w.heap.size (W0.heap.size + 1) W0.heap.size (by omega) (by omega) (by omega) (Nat.le_refl _) (by omega) zs.length (by unfold maxLen; omega) (by omega) pre x W hJ hl) W1 (pw_cell_below hb1 hB0) hM).mono ?_
    rintro e W2 ⟨⟨v0, rfl⟩, h2⟩
    obtain ⟨v, hv, hrow, hnil⟩ := h2.box
    have hend := run_endLoop (P := Tryz.prog) h2.L (by simp [Y2.apRec])
    obtain ⟨W3, hW3⟩ : ∃ W3, W2.putObj (W0.heap.size + 1) (.loop { Y2.apRec fn (.func (.func 217) #[] #[.pointer (some ⟨B0, 0, none⟩)]) w.heap.size W0.heap.size .ready none with state := .exhausted }) = W3 := ⟨_, rfl⟩
    rw [hW3] at hend
    have hg3 : W2.grownBy W3 (some (W0.heap.size + 1)) := by rw [← hW3]; exact Y2.gput _ _ _
    have hv3 : W3.heap[w.heap.size]? = some (.cells #[v] 24 (0, 0)) := by rw [← hW3]; exact (World.putObj_heap_other (by omega)).trans hv
    have hK3 : W3.heap[W0.heap.size]? = some (.deferred (some [])) := by rw [← hW3]; exact (World.putObj_heap_other (by omega)).trans h2.K
    have hrow3 := hrow.kept hg3 (Y2.own_ne hrow h2.L (fun cur e => by cases e))
    have hb3 : Below w.heap.size w W3 := h2.below.grown hg3 h2.below.size (fun k e => by cases e; omega)
    obtain ⟨hc3, hf3⟩ := Y2.cbox hv3
    clear hW3
    refine ⟨none, W3, hend, ?_⟩
    gi_wp2
    rw [← hs0]
    refine ⟨by simp, .inl ⟨_, _, rfl, run_takeDeferred hK3, ?_⟩⟩
    exact ⟨_, results_tmp rfl _ _ _, v, rfl, hrow3.kept (Y2.gput _ _ _) (Y2.own_ne hrow3 hK3 (fun cur e => by cases e)), hb3.grown (Y2.gput _ _ _) hb3.size (fun k e => by cases e; omega)⟩
set_option maxRecDepth 100000 in
set_option maxHeartbeats 2000000 in
theorem Y2.collect (B0 : Nat) (A : Option Addr) (cap : Nat) (zs : List Int) (w : World) (hreach : zs.length ≤ 100000) (hC : Kd.C (Kd.int .i64) w A zs.length zs) (hB0 : w.cell? ⟨B0, 0, none⟩ = some (.slice A zs.length cap)) :
    Calls Tryz.prog 216 #[.func (.func 217) #[] #[.pointer (some ⟨B0, 0, none⟩)]] w fun e w' => ∃ v : Value, e = .returned v ∧ w'.ownsRow w.heap.size 3 1 v zs.length (zs.map encZ) ∧ Below w.heap.size w w' := by
 have cA := (callsIn_wide (n := 2)).1 (Y2.appendSeq 2 (Nat.le_refl _) B0 A cap zs w hreach hC hB0)
 clear hC
 go_enter Tryz.func216, Tryz.ntmps216
 go_wp2_with (fail)
 refine cA.mono ?_
 rintro e w' ⟨v, rfl, h1, h2⟩
 go_wp2_with (fail)
 go_ret
 exact ⟨v, rfl, h1, h2⟩
set_option maxRecDepth 100000 in
set_option maxHeartbeats 2000000 in
theorem Y2.sorted (B0 : Nat) (A : Option Addr) (cap : Nat) (zs : List Int) (w : World) (hreach : zs.length ≤ 100000) (hC : Kd.C (Kd.int .i64) w A zs.length zs) (hB0 : w.cell? ⟨B0, 0, none⟩ = some (.slice A zs.length cap)) :
    Calls Tryz.prog 180 #[.func (.func 217) #[] #[.pointer (some ⟨B0, 0, none⟩)]] w fun e w' => ∃ v : Value, e = .returned v ∧ w'.ownsRow w.heap.size 3 1 v zs.length ((zs.mergeSort fun x y => decide (x ≤ y)).map encZ) ∧ Below w.heap.size w w' := by
 have cA := Y2.collect B0 A cap zs w hreach hC hB0
 clear hC
 go_enter Tryz.func180, Tryz.ntmps180
 go_wp2_with (fail)
 refine cA.mono ?_
 rintro e W ⟨v, rfl, hrow, hb⟩
 rcases hrow.2 with ⟨rfl, hz⟩ | ⟨gb, cp, cur, rfl, hbase, hgb, r1, r2, r3, r4⟩
 · {
 have hss : zs = [] := List.eq_nil_of_length_eq_zero hz
 subst hss
 go_wp2_with (fail)
 refine (Go.Proofs.YtjmmleofnjcjoaaGreatDoor.XShelfS.slices_Sort_int_none none 0 W).mono ?_
 rintro e w' ⟨rfl, rfl⟩
 go_wp2_with (fail)
 go_ret
 exact ⟨.slice none 0 0, rfl, by simpa using hrow, hb⟩}
 · {
 have hH : Holds (Value.int .i64) W gb 0 zs.toArray := holds_of_block_i hgb (by simpa using r4)
 have hgl : gb < W.heap.size := (Array.getElem?_eq_some_iff.1 hgb).1
 have cS := Go.Proofs.YtjmmleofnjcjoaaGreatDoor.XShelfS.slices_Sort_int gb 0 cp zs W hH hgl (by omega)
 clear hH
 go_wp2_with (fail)
 refine cS.mono ?_
 rintro e w' ⟨rfl, nn, os, rfl⟩
 go_wp2_with (fail)
 go_ret
 exact ⟨_, rfl, ownsRow_sorted_i (by simp) hbase hgb r1 r2 r3, hb.grown (grownBy_sorted_i _) hb.size (fun j hj => by cases hj; exact hbase)⟩}
end
def Y2.dif (l : List Int) : List Int := Lib.compact (l.mergeSort fun x y => decide (x ≤ y))
def Y2.f (l0 : List Int) : Option (List Int) := if l0.length ≤ 100000 then some (Y2.dif l0) else none
open Go.Maps Go.Sort Go.Shelf in
set_option maxRecDepth 100000 in
set_option maxHeartbeats 2000000 in
theorem Y2.calls (A0 : Option Addr) (c0 : Nat) (l0 : List Int) (r : List Int) (w : World) (hr0 : Kd.C (Kd.int .i64) w A0 l0.length l0) (hc0 : l0.length ≤ c0) (h : Y2.f l0 = some r) :
    Calls Tryz.prog 105 #[.slice A0 l0.length c0] w fun e w' => ∃ v0_ : Value, e = .returned v0_ ∧ Kd.R (Kd.int .i64) 3 w' w.heap.size (fun _ => True) v0_ r ∧ Below w.heap.size w w' := by
 unfold Y2.f at h
 by_cases hl : l0.length ≤ 100000
 case neg => rw [if_neg hl] at h; exact absurd h (by simp)
 rw [if_pos hl] at h
 obtain rfl := Option.some.inj h
 clear h
 have HB := aM (Kd.C_alloc hr0 (.cells #[.slice A0 l0.length c0] 24))
 have cA := Y2.sorted w.heap.size A0 c0 l0 (w.alloc (.cells #[.slice A0 l0.length c0] 24)) hl HB.out (blk_cell (blk_new w _) 0)
 clear hr0 HB
 go_enter Tryz.func105, Tryz.ntmps105
 go_wp2_with (first | (go_at_call 181; go_in) | fail)
 refine cA.mono ?_
 rintro e W ⟨v, rfl, hrow, hb⟩
 have hsz : (w.alloc (.cells #[.slice A0 l0.length c0] 24)).heap.size = w.heap.size + 1 := Live.size_alloc _ _
 have hb2 : Below w.heap.size w W := below_step (below_alloc (Below.refl _ _) _) hb
 rcases hrow.2 with ⟨rfl, hz⟩ | ⟨gb, cp, cur, rfl, hbase, hgb, r1, r2, r3, r4⟩
 · {
 have hss : l0 = [] := List.eq_nil_of_length_eq_zero hz
 subst hss
 go_wp2_with (fail)
 refine (Go.Proofs.YtjmmleofnjcjoaaGreatDoor.XShelfS.slices_Compact_int_empty none 0 W).mono ?_
 rintro e w' ⟨rfl, rfl⟩
 go_wp2_with (fail)
 go_ret
 exact ⟨_, rfl, by rw [show Y2.dif [] = [] from by simp [Y2.dif, Lib.compact, Lib.compactUpTo]]; exact Kd.R_nil _ _ _ _ _, hb2⟩}
 · {
 obtain ⟨ss, hss⟩ : ∃ ss, ss = l0.mergeSort fun x y => decide (x ≤ y) := ⟨_, rfl⟩
 have hsl : ss.length = l0.length := by rw [hss, List.length_mergeSort]
 rw [← hss] at hrow r4
 have hH : Holds (Value.int .i64) W gb 0 ss.toArray := holds_of_block_i hgb (by rw [hsl]; simpa using r4)
 have cS := Go.Proofs.YtjmmleofnjcjoaaGreatDoor.XShelfS.slices_Compact_int gb 0 cp ss W hH (by omega) (by omega)
 rw [hsl] at cS
 have hcl : (Lib.compact ss).length ≤ ss.length := Lib.compact_length_le ss
 have HSS := aM hss
 clear hH hss
 go_wp2_with (fail)
 refine cS.mono ?_
 rintro e w' ⟨rfl, q, rfl⟩
 go_wp2_with (fail)
 go_ret
 have hd : Y2.dif l0 = Lib.compact ss := by rw [Y2.dif, HSS.out]
 rw [hd]
 obtain ⟨ts, hts⟩ : ∃ ts, ts = Lib.compact ss ++ List.replicate (l0.length - (Lib.compact ss).length) (0 : Int) := ⟨_, rfl⟩
 have htl : ts.length = ss.length := by rw [hts, List.length_append, List.length_replicate]; omega
 rw [← hts]
 have hown := ownsRow_sorted_i (w := W) (n := q) (os := #[]) (ss := ss) (ts := ts) (cap := cp) htl (Nat.le_trans (by omega : w.heap.size ≤ _) hbase) hgb (by omega) r2 r3
 rw [grow_empty] at hown
 have hgr := grownBy_sorted_i (w := W) (g := gb) (n := q) (os := #[]) ts.toArray
 rw [grow_empty] at hgr
 refine ⟨_, rfl, ?_, hb2.grown hgr hb2.size (fun j hj => by cases hj; omega)⟩
 have hR := Kd.R_of_own (h1 := fun _ => rfl) (enc := Value.int .i64) (ok := fun _ => True) (xs := ts) (by rw [htl]; exact hown) (fun _ _ => trivial)
 have := Kd.R_take (m := (Lib.compact ss).length) hR (by omega)
 rw [hts, List.take_left] at this
 rw [← hts] at this
 exact this}
-- NOT PRINTED: function 124 (impl_relation)
def Y3.rel.relRow (p : Nat → Nat → Bool) (i : Nat) : Nat → Int
  | 0 => 0
  | j + 1 => if p i j = true then Go.bits .or .i64 (Y3.rel.relRow p i j) (shl .i64 1 (j : Int)) else Y3.rel.relRow p i j
def Y3.rel.relL (p : Nat → Nat → Bool) (n i j : Nat) : List Int := (List.range n).map fun (a : Nat) => if a < i then Y3.rel.relRow p a n else if a = i then Y3.rel.relRow p i j else 0
open Y3.rel Go.Proofs.YtjmmleofnjcjoaaGreatDoor.Live in
theorem Y3.rel.relL_len (p : Nat → Nat → Bool) (n i j : Nat) : (relL p n i j).length = n := by simp [relL]
open Y3.rel Go.Proofs.YtjmmleofnjcjoaaGreatDoor.Live in
theorem Y3.rel.relL_get (p : Nat → Nat → Bool) (n i j : Nat) (h : i < n) : (relL p n i j).getD i 0 = relRow p i j := by simp [relL, List.getD_eq_getElem?_getD, h]
open Y3.rel Go.Proofs.YtjmmleofnjcjoaaGreatDoor.Live in
theorem Y3.rel.relL_set (p : Nat → Nat → Bool) (n i j : Nat) (x : Int) (h : i < n) (hx : relRow p i (j + 1) = x) : (relL p n i j).set i x = relL p n i (j + 1) := by
 subst hx
 apply List.ext_getElem (by simp [relL])
 intro a h1 h2
 rw [List.getElem_set]
 simp only [relL, List.getElem_map, List.getElem_range]
 by_cases c : i = a
 · subst c; simp
 · rw [if_neg c, if_neg (show ¬ a = i from fun h => c h.symm)]; simp [show ¬ a = i from fun h => c h.symm]
open Y3.rel Go.Proofs.YtjmmleofnjcjoaaGreatDoor.Live in
theorem Y3.rel.relL_same (p : Nat → Nat → Bool) (n i j : Nat) (hx : p i j ≠ true) : relL p n i j = relL p n i (j + 1) := by
 simp only [relL, relRow, if_neg hx]
open Y3.rel Go.Proofs.YtjmmleofnjcjoaaGreatDoor.Live in
theorem Y3.rel.relL_next (p : Nat → Nat → Bool) (n i : Nat) : relL p n i n = relL p n (i + 1) 0 := by
 simp only [relL]
 apply List.map_congr_left
 intro a _
 by_cases c : a < i
 · rw [if_pos c, if_pos (by omega)]
 · {
 by_cases c2 : a = i
 · subst c2; simp
 · rw [if_neg c, if_neg c2, if_neg (by omega)]; simp [relRow]}
open Y3.rel Go.Proofs.YtjmmleofnjcjoaaGreatDoor.Live in
theorem Y3.rel.relL_start (p : Nat → Nat → Bool) (n : Nat) : relL p n 0 0 = List.replicate n 0 := by
 apply List.ext_getElem (by simp [relL]); intro a h2 h3; simp [relL, relRow]
open Y3.rel Go.Proofs.YtjmmleofnjcjoaaGreatDoor.Live in
theorem Y3.rel.relL_end (p : Nat → Nat → Bool) (n : Nat) : relL p n n 0 = (List.range n).map fun a => relRow p a n := by
 simp only [relL]
 apply List.map_congr_left
 intro a ha
 rw [if_pos (List.mem_range.1 ha)]
theorem Y3.rel.shl_one (j : Nat) (h : j ≤ 60) : shl .i64 1 (j : Int) = wrap64 (2 ^ j) := by
 unfold shl
 rw [Int.toNat_natCast, show IntKind.i64.bits = 64 from rfl, Nat.min_eq_left (by omega), Int.one_mul]; exact Go.Proofs.YtjmmleofnjcjoaaGreatDoorW.PrintLast.i64_w _
set_option maxHeartbeats 8000000 in
set_option maxRecDepth 100000 in
open Y3.rel Go.Proofs.YtjmmleofnjcjoaaGreatDoor.Live in
theorem Y3.rel.gen (n : Nat) (g : Nat) (p : Nat → Nat → Bool) (w : World) (hn : n ≤ 60)
    (hcall : ∀ (w1 : World) (i j : Nat), i < n → j < n → Below w.heap.size w w1 → Calls Tryz.prog 172 #[.int .i64 (i : Int), .int .i64 (j : Int), .pointer (some ⟨g, 0, none⟩)] w1 fun e w2 => e = .returned (.bool (p i j)) ∧ Below w1.heap.size w1 w2) :
    Calls Tryz.prog 124 #[.int .i64 (n : Int), .func (.func 172) #[] #[.pointer (some ⟨g, 0, none⟩)]] w fun e w' => ∃ v1_ : Value, e = .returned (.agg #[.int .i64 (n : Int), v1_]) ∧ Kd.R (Kd.int .i64) 3 w' w.heap.size (fun _ => True) v1_ ((List.range n).map fun a => relRow p a n) ∧ Below w.heap.size w w' := by
 have HF := aM hcall; clear hcall
 have H := Live.start w
 have h1 : ((n : Int) : Int).toNat = n := Int.toNat_natCast _
 go_enter Tryz.func124, Tryz.ntmps124
 go_wp2_with (first | ((with_reducible refine gate_dst (N := 10) rfl ?_); refine Kd.R_make (Kd.int .i64) _ 3 rfl (N := 10) rfl 24 _ _ rfl (n : Int) rfl rfl Tryz.underlying24 (.int .i64 0) 8 info3 rfl (by decide) (by omega) 0 (ok := fun _ => True) (okp := fun _ => True) rfl (fun _ hk => hk) trivial (by omega) (by omega) (Below.refl _ _) (Nat.le_refl _) ?_; intro v_ w1 hs_ hb hg_ hnew_; clear hg_ hnew_; replace H := (H.new #[.int .i64 0, .slice none 0 0] 26).add (o := row _ _ _ _) hb hs_; clear hs_ hb; obtain ⟨Ao, co, rfl, _, _⟩ := H.form 1 rfl))
 replace H := H.new #[.int .i64 (n : Int), .slice Ao (List.replicate ((n : Int) : Int).toNat (0 : Int)).length co] 26
 simp only [h1, List.length_replicate, List.nil_append, List.cons_append] at H
 rw [← relL_start p n] at H
 go_loopg [13] (n + 1) (fun kq v13 w' => ∃ i : Nat, v13 = .int .i64 (i : Int) ∧ Aside0 (i ≤ n ∧ kq = n - i + 1) ∧ Aside0 (Live w w' [var w.heap.size #[.int .i64 0, .slice none 0 0] 26, row (Kd.int .i64) 3 (.slice Ao n co) (relL p n i 0), var w1.heap.size #[.int .i64 (n : Int), .slice Ao n co] 26]))
 case atStart => exact ⟨0, rfl, ⟨Nat.zero_le _, rfl⟩, ⟨H⟩⟩
 case round => (
 clear H
 obtain ⟨i, rfl, HI, H⟩ := hrel
 rename World => wq
 by_cases ci : i < n
 · {
 have c1 : decide ((i : Int) < (n : Int)) = true := decide_eq_true (by omega)
 have c2 : decide (i < n) = true := decide_eq_true ci
 have HI1 : Aside0 (i + 1 ≤ n ∧ n - i = n - (i + 1) + 1) := ⟨by omega⟩
 have HIM : Aside0 (n - i < n - i + 1) := ⟨by omega⟩
 have HIW : Aside0 (Value.int .i64 (wrap64 ((i : Int) + 1)) = .int .i64 ((i + 1 : Nat) : Int)) := ⟨by rw [show wrap64 ((i : Int) + 1) = ((i + 1 : Nat) : Int) from by unfold wrap64; omega]⟩
 go_wp2_with (fail)
 go_loopg [17] (n + 1) (fun kq v17 w' => ∃ j : Nat, v17 = .int .i64 (j : Int) ∧ Aside0 (j ≤ n ∧ kq = n - j + 1) ∧ Aside0 (Live w w' [var w.heap.size #[.int .i64 0, .slice none 0 0] 26, row (Kd.int .i64) 3 (.slice Ao n co) (relL p n i j), var w1.heap.size #[.int .i64 (n : Int), .slice Ao n co] 26]))
 case atStart => exact ⟨0, rfl, ⟨Nat.zero_le _, rfl⟩, H⟩
 case round => (
 clear H
 obtain ⟨j, rfl, HJ, H⟩ := hrel
 by_cases cj : j < n
 · {
 have d1 : decide ((j : Int) < (n : Int)) = true := decide_eq_true (by omega)
 have d2 : decide (j < n) = true := decide_eq_true cj
 have HJ1 : Aside0 (j + 1 ≤ n ∧ n - j = n - (j + 1) + 1) := ⟨by omega⟩
 have HJM : Aside0 (n - j < n - j + 1) := ⟨by omega⟩
 have HJW : Aside0 (Value.int .i64 (wrap64 ((j : Int) + 1)) = .int .i64 ((j + 1 : Nat) : Int)) := ⟨by rw [show wrap64 ((j : Int) + 1) = ((j + 1 : Nat) : Int) from by unfold wrap64; omega]⟩
 have HC := aM (HF.out wr i j ci cj H.out.below)
 go_wp2_with (fail)
 refine HC.out.mono ?_
 rintro e wd ⟨rfl, hbd⟩
 replace H := aM (H.out.step hbd)
 clear hbd
 obtain ⟨go1, c', e1, _, _⟩ := H.out.form1 1 rfl (by rw [relL_len]; omega)
 injection e1 with ea en ec
 subst ea; subst ec; clear en
 cases hq : p i j with
 | true => {
 have hbo : wd.cell? ⟨w1.heap.size, 1, none⟩ = some (.slice (some ⟨go1, 0, none⟩) n co) := H.out.cell 2 rfl 1
 obtain ⟨hxc, hfc⟩ := H.out.cellI 1 rfl i (by rw [relL_len]; omega)
 rw [relL_get _ _ _ _ ci] at hxc
 have HN := aM (H.out.putI 1 rfl i (Go.bits .or .i64 (relRow p i j) (wrap64 (2 ^ j))))
 rw [relL_set p n i j _ ci (by rw [relRow, if_pos hq, shl_one j (by omega)])] at HN
 go_wp2_with (fail)
 go_region
 go_wp2
 all_goals go_roundg (n - j)
 case measure => have := HJ.out; omega
 case rel => exact ⟨j + 1, rfl, HJ1, ⟨HN.out.drew⟩⟩}
 | false => {
 rw [relL_same p n i j (by rw [hq]; simp)] at H
 go_wp2
 go_roundg (n - j)
 case measure => have := HJ.out; omega
 case rel => exact ⟨j + 1, rfl, HJ1, H⟩}}
 · {
 have d1 : decide ((j : Int) < (n : Int)) = false := decide_eq_false (by omega)
 have d2 : decide (j < n) = false := decide_eq_false cj
 obtain rfl : j = n := by have := HJ.out; omega
 rw [relL_next] at H
 go_wp2
 go_roundg (j - i)
 case measure => have := HI.out; omega
 case rel => exact ⟨i + 1, rfl, HI1, H⟩})}
 · {
 have c1 : decide ((i : Int) < (n : Int)) = false := decide_eq_false (by omega)
 have c2 : decide (i < n) = false := decide_eq_false ci
 obtain rfl : i = n := by have := HI.out; omega
 rw [relL_end] at H
 have k1 : wq.heap[w1.heap.size]? = some (.cells #[.int .i64 (i : Int), .slice Ao i co] 26 (0, 0)) := H.out.blk 2 rfl
 have k2 : wq.cell? ⟨w1.heap.size, 0, none⟩ = some (.int .i64 (i : Int)) := H.out.cell 2 rfl 0
 have k3 : wq.cell? ⟨w1.heap.size, 1, none⟩ = some (.slice Ao i co) := H.out.cell 2 rfl 1
 have k4 : wq.cell? ⟨w.heap.size, 0, none⟩ = some (.int .i64 0) := H.out.cell 0 rfl 0
 have k5 : wq.cell? ⟨w.heap.size, 1, none⟩ = some (.slice none 0 0) := H.out.cell 0 rfl 1
 have k6 : ∀ j, wq.frozen? ⟨w.heap.size, j, none⟩ = false := H.out.frozen 0 rfl
 have HZ := aM ((H.out.setVar 0 rfl 0 (.int .i64 (i : Int))).setVar 0 rfl 1 (.slice Ao i co))
 go_wp2
 refine bodyPost_ret (results_cell_row rfl _ _ w.heap.size 26 #[.int .i64 (i : Int), .slice Ao i co] (0, 0) _ rfl (HZ.out.blk 0 rfl) Tryz.underlying26 rfl (by kernel_rfl)) rfl ?_
 exact ⟨_, rfl, HZ.out.get 1 rfl, HZ.out.below⟩})
def Y3.before (xs : List Int) (i j : Nat) : Bool := (Go.bits .and .i64 (shr .i64 (rd xs (j : Int)) (i : Int)) 1) == 1
def Y3.f (a0_0 : Int) (l0_1 : List Int) : Option (Int × List Int) := if 0 ≤ a0_0 ∧ a0_0 ≤ 60 ∧ (l0_1.length : Int) = a0_0 then some (a0_0, (List.range l0_1.length).map fun a => Y3.rel.relRow (Y3.before l0_1) a l0_1.length) else none
set_option maxHeartbeats 4000000 in
set_option maxRecDepth 100000 in
theorem Y3.ask (A : Option Addr) (c : Nat) (xs : List Int) (g : Nat) (n0 : Int) (i j : Nat) (w : World) (hg0 : w.cell? ⟨g, 0, none⟩ = some (.int .i64 n0)) (hg1 : w.cell? ⟨g, 1, none⟩ = some (.slice A xs.length c)) (hr : Kd.C (Kd.int .i64) w A xs.length xs) (hc : xs.length ≤ c) (hi : i < xs.length) (hj : j < xs.length) :
    Calls Tryz.prog 172 #[.int .i64 (i : Int), .int .i64 (j : Int), .pointer (some ⟨g, 0, none⟩)] w fun e w' => e = .returned (.bool (Y3.before xs i j)) ∧ Below w.heap.size w w' := by
 have hf : Y9.f n0 xs (j : Int) (i : Int) = some (Y3.before xs i j) := by {
 unfold Y9.f Y3.before
 rw [if_pos (by omega), if_pos (by omega), if_pos (by omega)]}
 have HR := aM hr
 have HC := aM hc
 have HF := aM hf
 clear hr hc hf hi hj
 have hu31 := Tryz.underlying26
 generalize Y3.before xs i j = b at HF ⊢
 go_enter Tryz.func172, Tryz.ntmps172
 go_wp2_with (fail)
 refine (Y9.calls n0 A c xs (j : Int) (i : Int) b _ HR.out HC.out HF.out).mono ?_
 rintro e w1 ⟨rfl, hb_⟩
 have HB := aM hb_
 clear hb_
 go_wp2
 go_ret
 exact ⟨rfl, HB.out⟩
set_option maxHeartbeats 4000000 in
set_option maxRecDepth 100000 in
open Go.Proofs.YtjmmleofnjcjoaaGreatDoor.Live in
theorem Y3.calls (a0_0 : Int) (A0_1 : Option Addr) (c0_1 : Nat) (l0_1 : List Int) (r1 : Int) (r2 : List Int) (w : World) (hr0_1 : Kd.C (Kd.int .i64) w A0_1 l0_1.length l0_1) (hc0_1 : l0_1.length ≤ c0_1) (h : Y3.f a0_0 l0_1 = some (r1, r2)) :
    Calls Tryz.prog 85 #[.agg #[.int .i64 a0_0, .slice A0_1 l0_1.length c0_1]] w fun e w' => ∃ v1_ : Value, e = .returned (.agg #[.int .i64 r1, v1_]) ∧ Kd.R (Kd.int .i64) 3 w' w.heap.size (fun _ => True) v1_ r2 ∧ Below w.heap.size w w' := by
 unfold Y3.f at h
 by_cases hn : 0 ≤ a0_0 ∧ a0_0 ≤ 60 ∧ (l0_1.length : Int) = a0_0
 · {
 rw [if_pos hn] at h
 obtain ⟨rfl, rfl⟩ := Prod.mk.inj (Option.some.inj h)
 clear h
 obtain ⟨_, hn1, rfl⟩ := hn
 have hn2 : l0_1.length ≤ 60 := by omega
 clear hn1
 have H := ((Live.start w).new #[.int .i64 (l0_1.length : Int), .slice A0_1 l0_1.length c0_1] 26).new #[.int .i64 0, .slice none 0 0] 26
 rw [size_alloc] at H
 have HH := aM H; clear H
 have HC := aM hr0_1; clear hr0_1
 have HC1 := aM hc0_1; clear hc0_1
 have k1 : (World.alloc (World.alloc w (.cells #[.int .i64 (l0_1.length : Int), .slice A0_1 l0_1.length c0_1] 26)) (.cells #[.int .i64 0, .slice none 0 0] 26)).cell? ⟨w.heap.size, 0, none⟩ = some (.int .i64 (l0_1.length : Int)) := HH.out.cell 0 rfl 0
 go_enter Tryz.func85, Tryz.ntmps85
 go_wp2_with (fail)
 refine (Y3.rel.gen l0_1.length w.heap.size (Y3.before l0_1) _ hn2 ?_).mono ?_
 · {
 intro w1 i j hi hj hb
 have H1 := HH.out.step hb
 exact Y3.ask A0_1 c0_1 l0_1 w.heap.size (l0_1.length : Int) i j w1 (H1.cell 0 rfl 0) (H1.cell 0 rfl 1) (Kd.C_below HC.out H1.below) HC1.out hi hj}
 rintro e w1 ⟨v_, rfl, hs_, hb⟩
 have H := HH.out.add (o := row _ _ _ _) hb hs_
 clear hb hs_ HH k1
 obtain ⟨A, c, rfl, _, _⟩ := H.form 2 rfl
 generalize hL : (List.range l0_1.length).map (fun a => Y3.rel.relRow (Y3.before l0_1) a l0_1.length) = L at H ⊢
 have HL := aM hL; clear hL
 have k4 : w1.cell? ⟨w.heap.size + 1, 0, none⟩ = some (.int .i64 0) := H.cell 1 rfl 0
 have k5 : w1.cell? ⟨w.heap.size + 1, 1, none⟩ = some (.slice none 0 0) := H.cell 1 rfl 1
 have k6 : ∀ j, w1.frozen? ⟨w.heap.size + 1, j, none⟩ = false := H.frozen 1 rfl
 have HZ := aM ((H.setVar 1 rfl 0 (.int .i64 (l0_1.length : Int))).setVar 1 rfl 1 (.slice A L.length c))
 clear H
 go_wp2
 refine bodyPost_ret (results_cell_row rfl _ _ (w.heap.size + 1) 26 #[.int .i64 (l0_1.length : Int), .slice A L.length c] (0, 0) _ rfl (HZ.out.blk 1 rfl) Tryz.underlying26 rfl (by kernel_rfl)) rfl ?_
 exact ⟨_, rfl, by rw [HL.out]; exact HZ.out.get 2 rfl, HZ.out.below⟩}
 · rw [if_neg hn] at h; exact absurd h (by simp)
end Go.Proofs.YtjmmleofnjcjoaaGreatDoor.Du
