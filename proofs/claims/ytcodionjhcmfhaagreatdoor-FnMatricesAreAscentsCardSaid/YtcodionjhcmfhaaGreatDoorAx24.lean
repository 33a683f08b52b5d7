-- Written by hook.py, a program of this session (wip/), which runs the kit's print.py with its own parts; Lean checks it.
import Derived.Test.YtcodionjhcmfhaaGreatDoorAx0
import Derived.Test.YtcodionjhcmfhaaGreatDoorAx1
import Derived.Test.YtcodionjhcmfhaaGreatDoorAx5
import Derived.Test.YtcodionjhcmfhaaGreatDoorAx23
import Derived.Test.YtcodionjhcmfhaaGreatDoorAxXSq
namespace Go.Proofs.YtcodionjhcmfhaaGreatDoor.Ax
open Go.RowKit Go.Proofs.YtcodionjhcmfhaaGreatDoorW.PrintWords Go.Proofs.YtcodionjhcmfhaaGreatDoorW.PrintLast Go.Proofs.YtcodionjhcmfhaaGreatDoorW.PrintMore Go.Proofs.YtcodionjhcmfhaaGreatDoor.Sq
attribute [local go_sem] max2_int min2_int max_two min_two max_three min_three max_four min_four   -- for this text's walks alone
set_option linter.unusedVariables false
set_option linter.unusedSimpArgs false

def impl_Matrix_grown.fix (x d : Nat) (r : List Int) : List Int := (r.set x (r.getD d 0)).set d 0
def impl_Matrix_grown.wide1 (m : List (List Int)) (x i : Nat) : List (List Int) := (m.take i).map (fun r => r.insertIdx x 0) ++ m.drop i
def impl_Matrix_grown.wide2 (m : List (List Int)) (x : Nat) : List (List Int) := (impl_Matrix_grown.wide1 m x m.length).insertIdx x (List.replicate (m.length + 1) 0)
def impl_Matrix_grown.wide3 (m : List (List Int)) (x i : Nat) : List (List Int) := ((impl_Matrix_grown.wide2 m x).take i).map (impl_Matrix_grown.fix x m.length) ++ (impl_Matrix_grown.wide2 m x).drop i
def impl_Matrix_grown.last (m q : List (List Int)) (x : Nat) : List (List Int) := q.set x ((q.getD x []).set m.length 1)
def impl_Matrix_grown.wide (m : List (List Int)) (x : Nat) : List (List Int) := impl_Matrix_grown.last m (if x < m.length then impl_Matrix_grown.wide3 m x x else impl_Matrix_grown.wide2 m x) x
def impl_Matrix_grown.inc (m : List (List Int)) (x : Nat) : List (List Int) := m.set x ((m.getD x []).set (m.length - 1) (wrap64 ((m.getD x []).getD (m.length - 1) 0 + 1)))
def impl_Matrix_grown.Ok (m : List (List Int)) (x : Int) : Prop := m.length ≤ 100 ∧ (∀ r ∈ m, r.length = m.length) ∧ 0 ≤ x ∧ x ≤ (m.length : Int)
instance impl_Matrix_grown.instOk (m : List (List Int)) (x : Int) : Decidable (impl_Matrix_grown.Ok m x) := inferInstanceAs (Decidable (_ ∧ _))
def impl_Matrix_grown.go (m : List (List Int)) (x : Int) : Option (List (List Int)) :=
  if 0 < m.length then (impl_Matrix_top.f m).bind fun t => if x ≤ t then (if x < (m.length : Int) then some (impl_Matrix_grown.inc m x.toNat) else none) else some (impl_Matrix_grown.wide m x.toNat)
  else some (impl_Matrix_grown.wide m x.toNat)
def impl_Matrix_grown.f (k : Nat) (m : List (List Int)) (x : Int) : Option (List (List Int)) :=
  (impl_Matrix_own.f k m).bind fun o => if o = m ∧ impl_Matrix_grown.Ok m x then impl_Matrix_grown.go m x else none
theorem impl_Matrix_grown.wide1_full (m : List (List Int)) (x : Nat) : impl_Matrix_grown.wide1 m x m.length = m.map (fun r => r.insertIdx x 0) := by simp [impl_Matrix_grown.wide1]
theorem impl_Matrix_grown.wide2_len (m : List (List Int)) (x : Nat) (hx : x ≤ m.length) : (impl_Matrix_grown.wide2 m x).length = m.length + 1 := by
 rw [impl_Matrix_grown.wide2, impl_Matrix_grown.wide1_full, List.length_insertIdx, List.length_map, if_pos hx]
theorem impl_Matrix_grown.wide2_row (m : List (List Int)) (x : Nat) (hm : ∀ r ∈ m, r.length = m.length) (hx : x ≤ m.length) (j : Nat) (hj : j < m.length + 1) : ((impl_Matrix_grown.wide2 m x).getD j []).length = m.length + 1 := by
 have each : ∀ i, i < m.length → ((m.map (fun r => r.insertIdx x 0)).getD i []).length = m.length + 1 := fun i hi => by {
 have h1 := hm m[i] (List.getElem_mem hi)
 rw [List.getD_eq_getElem?_getD, List.getElem?_map, List.getElem?_eq_getElem hi]
 show (m[i].insertIdx x 0).length = _
 rw [List.length_insertIdx, if_pos (by omega), h1]}
 rw [impl_Matrix_grown.wide2, impl_Matrix_grown.wide1_full, List.getD_eq_getElem?_getD, Live.getElem?_ins _ _ _ _ (by rw [List.length_map]; exact hx)]
 by_cases c : j < x
 · rw [if_pos c, ← List.getD_eq_getElem?_getD]; exact each j (by omega)
 · {
 rw [if_neg c]
 by_cases c2 : j = x
 · rw [if_pos c2]; simp
 · rw [if_neg c2, ← List.getD_eq_getElem?_getD]; exact each (j - 1) (by omega)}
set_option maxHeartbeats 8000000 in
set_option maxRecDepth 100000 in
open Go.Proofs.YtcodionjhcmfhaaGreatDoor.Live in
theorem impl_Matrix_grown.calls (k : Nat) (A0 : Option Addr) (c0 : Nat) (l0 : List (List Int)) (a1 : Int) (r : List (List Int)) (w : World) (hr0 : Kd.C (Kd.slice 3 (Kd.int .i64)) w A0 l0.length l0) (hc0 : l0.length ≤ c0) (h : impl_Matrix_grown.f k l0 a1 = some r) :
    Calls Tryz.prog 97 #[.agg #[.slice A0 l0.length c0], .int .i64 a1] w fun e w' => ∃ v0_ : Value, e = .returned (.agg #[v0_]) ∧ Kd.S (Kd.slice 3 (Kd.int .i64)) 24 w' w.heap.size (fun _ => True) v0_ r ∧ Below w.heap.size w w' := by
 have HC := aM hr0; have HL := aM hc0; clear hr0 hc0
 obtain ⟨o, e1, h⟩ := Option.bind_eq_some_iff.mp h
 by_cases hk : o = l0 ∧ impl_Matrix_grown.Ok l0 a1
 case neg => rw [if_neg hk] at h; exact absurd h (by simp)
 rw [if_pos hk] at h
 obtain ⟨rfl, hok⟩ := hk
 have E1 := aM e1; clear e1
 have HOK := aM hok
 obtain ⟨x, rfl⟩ : ∃ x : Nat, a1 = (x : Int) := ⟨a1.toNat, by have := hok.2.2.1; omega⟩
 have hxd : x ≤ o.length := by have := hok.2.2.2; omega
 have hd100 : o.length ≤ 100 := hok.1
 clear hok
 have HG := aM h; clear h
 have H := aM (((Live.start w).new #[.slice A0 o.length c0] 30).new #[.slice none 0 0] 30)
 rw [size_alloc] at H
 go_enter Tryz.func97, Tryz.ntmps97
 go_wp2_with (fail)
 go_cut [5, 6] (fun s5 s6 wx => ∃ (g6 : Nat) (Ao : Option Addr) (co : Nat), s5 = .int .i64 (o.length : Int) ∧ s6 = .pointer (some ⟨g6, 0, none⟩) ∧ Aside0 (Live w wx [var w.heap.size #[.slice A0 o.length c0] 30, var (w.heap.size + 1) #[.slice none 0 0] 30, var g6 #[.slice Ao o.length co] 30, rows (Kd.slice 3 (Kd.int .i64)) 24 (.slice Ao o.length co) o]))
 case first => (
 go_region_held3 (fun w' => w'.cell? ⟨w.heap.size, 0, none⟩ = some (.slice A0 o.length c0) ∧ Live w w' [var w.heap.size #[.slice A0 o.length c0] 30, var (w.heap.size + 1) #[.slice none 0 0] 30]) (first | (refine ⟨Live.cell (w0 := w) (L := [var w.heap.size #[.slice A0 o.length c0] 30, var (w.heap.size + 1) #[.slice none 0 0] 30]) ?_ 0 rfl 0, ?_⟩ <;> ((repeat (first | assumption | exact H.out | apply Live.alloc | apply Live.drew | apply Live.drewN)); done)) | (have H8 := Live.keep (Live.setVar H7 2 rfl 0 (.slice Ao o.length co)) 2; exact ⟨H8.cell 0 rfl 0, H8⟩)) (first | (go_at_call 37; refine (impl_Matrix_size.calls _ _ _ _ _ ?c1 HL.out rfl).mono ?_; (case c1 => exact Kd.C_below HC.out (Live.below (w0 := w) (L := [var w.heap.size #[.slice A0 o.length c0] 30, var (w.heap.size + 1) #[.slice none 0 0] 30]) (by (repeat (first | assumption | exact H.out | apply Live.alloc | apply Live.drew | apply Live.drewN))))); rintro e w' ⟨rfl, hb⟩; refine step_k (w0 := w) (L := [var w.heap.size #[.slice A0 o.length c0] 30, var (w.heap.size + 1) #[.slice none 0 0] 30]) ?c3 hb (fun HS => ?_); (case c3 => ((repeat (first | assumption | exact H.out | apply Live.alloc | apply Live.drew | apply Live.drewN)); done)); (first | (replace H6 := Live.step H6 hb) | (refine step_new_k (w0 := w) (L := [var w.heap.size #[.slice A0 o.length c0] 30, var (w.heap.size + 1) #[.slice none 0 0] 30]) ?c2 hb (fun H6 => ?_); (case c2 => ((repeat (first | assumption | exact H.out | apply Live.alloc | apply Live.drew | apply Live.drewN)); done))) | (refine step_newd_k (w0 := w) (L := [var w.heap.size #[.slice A0 o.length c0] 30, var (w.heap.size + 1) #[.slice none 0 0] 30]) ?c2 hb (fun H6 => ?_); (case c2 => ((repeat (first | assumption | exact H.out | apply Live.alloc | apply Live.drew | apply Live.drewN)); done))) | skip); (try simp only [size_alloc] at H6); (try (have k6 : _ = some (Value.slice none 0 0) := Live.cell H6 2 rfl 0; have f6 := Live.frozen H6 2 rfl 0))) | (go_at_call 60; refine (impl_Matrix_own.calls k _ _ _ _ _ ?c1 HL.out E1.out).mono ?_; (case c1 => exact Kd.C_below HC.out (Live.below (w0 := w) (L := [var w.heap.size #[.slice A0 o.length c0] 30, var (w.heap.size + 1) #[.slice none 0 0] 30]) (by (repeat (first | assumption | exact H.out | apply Live.alloc | apply Live.drew | apply Live.drewN))))); rintro e w' ⟨v_, rfl, hs_, hb⟩; refine step_k (w0 := w) (L := [var w.heap.size #[.slice A0 o.length c0] 30, var (w.heap.size + 1) #[.slice none 0 0] 30]) ?c3 hb (fun HS => ?_); (case c3 => ((repeat (first | assumption | exact H.out | apply Live.alloc | apply Live.drew | apply Live.drewN)); done)); obtain ⟨Ao, co, rfl, _, _⟩ := Kd.S_reads hs_; (first | (have H7 := Live.add (o := rows (Kd.slice 3 (Kd.int .i64)) 24 (.slice Ao o.length co) o) H6 hb hs_) | (refine add_new_k (w0 := w) (L := [var w.heap.size #[.slice A0 o.length c0] 30, var (w.heap.size + 1) #[.slice none 0 0] 30]) (o := rows (Kd.slice 3 (Kd.int .i64)) 24 (.slice Ao o.length co) o) ?c2 hb hs_ (fun H7 => ?_); (case c2 => ((repeat (first | assumption | exact H.out | apply Live.alloc | apply Live.drew | apply Live.drewN)); done))) | (refine add_newd_k (w0 := w) (L := [var w.heap.size #[.slice A0 o.length c0] 30, var (w.heap.size + 1) #[.slice none 0 0] 30]) (o := rows (Kd.slice 3 (Kd.int .i64)) 24 (.slice Ao o.length co) o) ?c2 hb hs_ (fun H7 => ?_); (case c2 => ((repeat (first | assumption | exact H.out | apply Live.alloc | apply Live.drew | apply Live.drewN)); done))) | (refine add_k (w0 := w) (L := [var w.heap.size #[.slice A0 o.length c0] 30, var (w.heap.size + 1) #[.slice none 0 0] 30]) (o := rows (Kd.slice 3 (Kd.int .i64)) 24 (.slice Ao o.length co) o) ?c2 hb hs_ (fun HO => ?_); (case c2 => ((repeat (first | assumption | exact H.out | apply Live.alloc | apply Live.drew | apply Live.drewN)); done)))); (try (have k6 : _ = some (Value.slice none 0 0) := Live.cell H7 2 rfl 0; have f6 := Live.frozen H7 2 rfl 0))))
 all_goals (go_wp2_with fail; go_meet)
 all_goals (first | exact ⟨_, Ao, co, rfl, rfl, ⟨Live.swap (L := [var w.heap.size #[.slice A0 o.length c0] 30, var (w.heap.size + 1) #[.slice none 0 0] 30]) (HO.new _ _)⟩⟩ | exact ⟨_, Ao, co, rfl, rfl, ⟨Live.setVar H7 2 rfl 0 (.slice Ao o.length co)⟩⟩))
 case rest => (
 rename_i aK
 obtain ⟨g6, Ao, co, rfl, rfl, HZ⟩ := hcut
 clear H
 have H := HZ; clear HZ
 unfold impl_Matrix_grown.go at HG
 have k2 : wc.cell? ⟨w.heap.size, 0, none⟩ = some (.slice A0 o.length c0) := H.out.cell 0 rfl 0
 refine aK _ _ ?_
 go_step
 go_cut [5] (fun s5 wx => s5 = .int .i64 (o.length : Int) ∧ Aside0 (Live w wx [var w.heap.size #[.slice A0 o.length c0] 30, var (w.heap.size + 1) #[.slice none 0 0] 30, var g6 #[.slice Ao o.length co] 30, rows (Kd.slice 3 (Kd.int .i64)) 24 (.slice Ao o.length co) o]) ∧ Aside0 (impl_Matrix_grown.wide o x = r))
 case first => (
 have hg := HG.out; clear HG
 by_cases hd : 0 < o.length
 · {
 rw [if_pos hd] at hg
 obtain ⟨t, e2, hg⟩ := Option.bind_eq_some_iff.mp hg
 have E2 := aM e2; clear e2
 have d1 : decide ((0 : Int) < (o.length : Int)) = true := decide_eq_true (by omega)
 have d2 : decide (0 < o.length) = true := decide_eq_true hd
 by_cases hx : (x : Int) ≤ t
 · {
 rw [if_pos hx] at hg
 by_cases hxl : (x : Int) < (o.length : Int)
 case neg => rw [if_neg hxl] at hg; exact absurd hg (by simp)
 rw [if_pos hxl, Int.toNat_natCast] at hg
 obtain rfl := Option.some.inj hg
 clear hg
 have x1 : decide ((x : Int) ≤ t) = true := decide_eq_true hx
 have x2 : decide ((x : Int) < (o.length : Int)) = true := decide_eq_true hxl
 have x3 : decide (x < o.length) = true := decide_eq_true (by omega)
 obtain ⟨go1, c', e1, _, _⟩ := H.out.forms1 3 rfl hd
 injection e1 with ea en ec
 subst ea; subst ec; clear en
 have hrl0 : (o.getD x []).length = o.length := HOK.out.2.1 _ (by rw [List.getD_eq_getElem?_getD, List.getElem?_eq_getElem (by omega)]; exact List.getElem_mem _)
 obtain ⟨row_, hrow⟩ : ∃ row_, row_ = o.getD x [] := ⟨_, rfl⟩
 obtain ⟨z, hz⟩ : ∃ z, z = row_.getD (o.length - 1) 0 := ⟨_, rfl⟩
 rw [← hrow] at hrl0; have HR := aM hrow; have HZ := aM hz; have HRL := aM hrl0; clear hrow hz hrl0
 have b1 : decide (((o.length : Int) - 1) < (o.length : Int)) = true := decide_eq_true (by omega)
 have b2 : (0 : Int) ≤ (o.length : Int) - 1 := by omega
 have b3 : ((o.length : Int) - 1).toNat = o.length - 1 := by omega
 have b4 : o.length - 1 < o.length := by omega
 go_wp2_with (first | (go_at_call 117; refine (impl_Matrix_top.calls _ _ _ _ _ (Kd.C_below HC.out H.out.below) HL.out E2.out).mono ?_; rintro e w' ⟨rfl, hb⟩; replace H := aM (H.out.step hb); clear hb; have k6 : w'.cell? ⟨g6, 0, none⟩ = some (.slice (some ⟨go1, 0, none⟩) o.length co) := H.out.cell 2 rfl 0; obtain ⟨gx, cx, hcx, hlx, hq, hqf, hput⟩ := H.out.at2 3 rfl x (o.length - 1) (by omega) (by rw [← HR.out, HRL.out]; omega); rw [← HR.out] at hcx hlx hq hput; rw [HRL.out] at hcx hlx; rw [← HZ.out] at hq; have HN := aM (hput.out (wrap64 (z + 1))); clear hput; have k7 : (w'.setCell ⟨gx, o.length - 1, none⟩ (.int .i64 (wrap64 (z + 1)))).cell? ⟨g6, 0, none⟩ = some (.slice (some ⟨go1, 0, none⟩) o.length co) := HN.out.cell 2 rfl 0; have k8 : (w'.setCell ⟨gx, o.length - 1, none⟩ (.int .i64 (wrap64 (z + 1)))).cell? ⟨w.heap.size + 1, 0, none⟩ = some (.slice none 0 0) := HN.out.cell 1 rfl 0; have k9 := HN.out.frozen 1 rfl))
 have HF := aM (HN.out.setVar 1 rfl 0 (.slice (some ⟨go1, 0, none⟩) o.length co))
 refine bodyPost_ret (results_cell_row rfl _ _ (w.heap.size + 1) 30 #[.slice (some ⟨go1, 0, none⟩) o.length co] (0, 0) _ rfl (HF.out.blk 1 rfl) Tryz.underlying30 rfl (by kernel_rfl)) rfl ?_
 refine ⟨_, rfl, ?_, HF.out.below⟩
 unfold impl_Matrix_grown.inc
 rw [← HR.out, ← HZ.out]
 exact HF.out.get 3 rfl}
 · {
 rw [if_neg hx] at hg
 obtain rfl := Option.some.inj hg
 clear hg
 have x1 : decide ((x : Int) ≤ t) = false := decide_eq_false hx
 go_wp2_with (first | (go_at_call 117; refine (impl_Matrix_top.calls _ _ _ _ _ (Kd.C_below HC.out H.out.below) HL.out E2.out).mono ?_; rintro e w' ⟨rfl, hb⟩; replace H := aM (H.out.step hb); clear hb))
 go_meet
 exact ⟨rfl, H, ⟨by rw [Int.toNat_natCast]⟩⟩}}
 · {
 rw [if_neg hd] at hg
 obtain rfl := Option.some.inj hg
 clear hg
 have d1 : decide ((0 : Int) < (o.length : Int)) = false := decide_eq_false (by omega)
 have d2 : decide (0 < o.length) = false := decide_eq_false hd
 go_wp2_with (fail)
 go_meet
 exact ⟨rfl, H, ⟨by rw [Int.toNat_natCast]⟩⟩})
 case rest => (
 rename_i aK2
 obtain ⟨rfl, HZ, HR⟩ := hcut
 clear H k2 HG
 rename World => wd
 have H := HZ; clear HZ
 obtain rfl := HR.out
 clear HR
 refine aK2 _ _ ?_
 have k6 : wd.cell? ⟨g6, 0, none⟩ = some (.slice Ao o.length co) := H.out.cell 2 rfl 0
 go_wp2_with (fail)
 go_loopg [37] (o.length + 1) (fun kq v37 w' => ∃ i : Nat, v37 = .int .i64 (i : Int) ∧ Aside0 (i ≤ o.length ∧ kq = o.length - i + 1) ∧ Aside0 (Live w w' [var w.heap.size #[.slice A0 o.length c0] 30, var (w.heap.size + 1) #[.slice none 0 0] 30, var g6 #[.slice Ao o.length co] 30, rows (Kd.slice 3 (Kd.int .i64)) 24 (.slice Ao o.length co) (impl_Matrix_grown.wide1 o x i)]))
 case atStart => exact ⟨0, rfl, ⟨Nat.zero_le _, rfl⟩, ⟨by simpa [impl_Matrix_grown.wide1] using H.out⟩⟩
 case round => (
 clear H k6
 obtain ⟨i, rfl, HI, H⟩ := hrel
 by_cases ci : i < o.length
 · {
 have c1 : decide ((i : Int) < (o.length : Int)) = true := decide_eq_true (by omega)
 have c2 : decide (i < o.length) = true := decide_eq_true ci
 have hwl : (impl_Matrix_grown.wide1 o x i).length = o.length := Mem.part_len _ _ _
 have hwg : (impl_Matrix_grown.wide1 o x i).getD i [] = o.getD i [] := Mem.part_get _ _ _ _ ci
 obtain ⟨go1, c', e1, _, _⟩ := H.out.forms1 3 rfl (by omega)
 injection e1 with ea en ec
 subst ea; subst ec; clear en
 obtain ⟨vi, hci, hfi, HT⟩ := H.out.take 3 rfl i (by omega)
 rw [hwg] at HT
 obtain ⟨rw_, hrw⟩ : ∃ rw_, rw_ = o.getD i [] := ⟨_, rfl⟩
 have hrl : rw_.length = o.length := by rw [hrw]; exact HOK.out.2.1 _ (by rw [List.getD_eq_getElem?_getD, List.getElem?_eq_getElem ci]; exact List.getElem_mem _)
 rw [← hrw] at HT
 have HT := aM HT
 have HRW := aM hrw; have HRL := aM hrl
 obtain ⟨Ai, ci_, rfl, _, _⟩ := HT.out.form 4 rfl
 have HW : Live w ((wr.alloc (.cells #[.int .i64 0] 3)).drew) _ := (HT.out.alloc (.cells #[.int .i64 0] 3)).drew
 obtain ⟨hown, hbs, hlt, hone, hback⟩ := HW.insI 4 rfl x (by omega) 0
 have HBK := aM hback
 have HINS := aM (slices_Insert_int_int_129.owns w.heap.size x wr.heap.size rw_.length (.slice Ai rw_.length ci_) (rw_.map (Value.int .i64)) (.int .i64 0) _ hown (by omega) (by omega) hbs (blk_new wr _) (fun e => by
  obtain ⟨b, hb⟩ : ∃ b, (Value.slice Ai rw_.length ci_).ownBlock = some b := ⟨_, e⟩
  have h8 := HT.out.ownOp 4 rfl
  have := h8.2.2.1 b hb
  rw [hb] at e; injection e; omega) hone rfl)
 have k6 : wr.cell? ⟨g6, 0, none⟩ = some (.slice (some ⟨go1, 0, none⟩) o.length co) := H.out.cell 2 rfl 0
 have WL : Aside0 (i < (impl_Matrix_grown.wide1 o x i).length) := ⟨by rw [hwl]; exact ci⟩
 have a6 : ∀ ob : Obj, (wr.alloc ob).cell? ⟨g6, 0, none⟩ = some (.slice (some ⟨go1, 0, none⟩) o.length co) := fun ob => (H.out.alloc ob).cell 2 rfl 0
 have a7 : ∀ ob : Obj, (wr.alloc ob).cell? ⟨go1, i, none⟩ = some (.slice Ai rw_.length ci_) := fun ob => (HT.out.alloc ob).holeCell 3 rfl rfl WL.out
 clear hwl hwg hrw hrl hown hbs hlt hone hback HW
 go_wp2_with (fail)
 go_region_law (first | (go_simp; go_at_call 129; refine HINS.out.mono ?_; rintro e w' ⟨v1, rfl, h1, h2, h3⟩; have HN := aM (HBK.out w' v1 h1 h2 h3); clear h1 h2 h3; obtain ⟨A1, c1_, rfl, _, _⟩ := HN.out.form 4 rfl; have m6 : w'.cell? ⟨g6, 0, none⟩ = some (.slice (some ⟨go1, 0, none⟩) o.length co) := HN.out.cell 2 rfl 0; have m7 := HN.out.holeCell 3 rfl rfl WL.out; have m8 := HN.out.holeFrozen 3 rfl i))
 all_goals (have HF := aM (((HN.out.setHole 3 rfl rfl WL.out (.slice A1 (rw_.insertIdx x 0).length c1_) rfl).close 3 4 rfl rfl (by decide)).keep 4))
 all_goals (rw [show (impl_Matrix_grown.wide1 o x i).set i (rw_.insertIdx x 0) = impl_Matrix_grown.wide1 o x (i + 1) from by rw [HRW.out]; exact Mem.part_set (fun r => r.insertIdx x 0) i o [] ci] at HF)
 all_goals go_wp2
 all_goals (go_roundg (o.length - i))
 all_goals (try (case measure => have := HI.out; omega))
 all_goals exact ⟨i + 1, rfl, ⟨by omega, by omega⟩, HF⟩}
 · {
 have c1 : decide ((i : Int) < (o.length : Int)) = false := decide_eq_false (by omega)
 have c2 : decide (i < o.length) = false := decide_eq_false ci
 obtain rfl : i = o.length := by have := HI.out; omega
 have hwl : (impl_Matrix_grown.wide1 o x o.length).length = o.length := Mem.part_len _ _ _
 have HWL := aM hwl; clear hwl
 go_wp2_with (fail)
 refine start_ (n := 10) (S := fun w' => w'.cell? ⟨g6, 0, none⟩ = some (.slice Ao o.length co)) (ds := [9]) #[false, false, false, false, false, false, false, false, false, false] (by kernel_rfl) rfl rfl (H.out.drew.cell 2 rfl 0) (fun hHeld => ?_)
 replace H := aM H.out.drew
 generalize World.drew wr = wx at H hHeld ⊢
 refine pA 0 53 (h := ?_)
 refine tA 1 54 hHeld (h := ?_)
 refine pA 2 55 (h := ?_)
 refine pA 3 56 (h := ?_)
 refine pA 4 57 (h := ?_)
 refine one_ (i := 5) (N := some 58) #[true, true, true, true, true, true, false, false, false, false] rfl rfl (by kernel_rfl) (by decide) (fun K hK => ?_)
 refine Kd.R_make_step (Kd.int .i64) _ 3 (by rfl) (N := 58) rfl 24 _ _ rfl _ rfl rfl Tryz.underlying24 (.int .i64 0) 8 info3 rfl (by decide) (by omega) 0 (ok := fun _ => True) (okp := fun _ => True) rfl (fun _ hk => hk) trivial (by unfold wrap64; omega) (by unfold wrap64; omega) (Below.refl _ _) (Nat.le_refl _) ?_
 intro v58 w2 ho hb hg_ hnew_
 clear hg_ hnew_
 rw [show (wrap64 ((o.length : Int) + 1)).toNat = o.length + 1 from by unfold wrap64; omega] at ho
 obtain ⟨z58, hz58⟩ : ∃ z58, z58 = List.replicate (o.length + 1) (0 : Int) := ⟨_, rfl⟩
 rw [← hz58] at ho
 have HZ58 := aM hz58; clear hz58
 replace H := aM (H.out.add (o := row _ _ _ _) hb ho)
 clear ho hb
 obtain ⟨A58, c58, rfl, _, _⟩ := H.out.form 4 rfl
 refine hK.out _ _ (H.out.cell 2 rfl 0) (fun hHeld => ?_)
 clear hK K
 refine nA 58 (h := ?_)
 refine one_ (i := 6) (N := some 59) #[true, true, true, true, true, true, true, false, false, false] rfl rfl (by kernel_rfl) (by decide) (fun K hK => ?_)
 refine value_ (w1 := ?_) (v := ?_) (by rfl) rfl ?_ ?_
 rotate_left 2
 · {
 go_simp
 constructor
 · rfl
 · rfl}
 obtain ⟨_, _, _, _, hlt0, _⟩ := H.out.insertRow 3 4 rfl rfl (by decide) x (by rw [HWL.out]; exact hxd)
 replace H := aM (H.out.new #[.slice A58 z58.length c58] 24)
 obtain ⟨inner, hown, hone, hbs, hlt, hback⟩ := H.out.insertRow 3 4 rfl rfl (by decide) x (by rw [HWL.out]; exact hxd)
 rw [HWL.out] at hown hback
 have HBK := aM hback
 have HINS := aM (slices_Insert_int_int_130.owns w.heap.size x w2.heap.size o.length (.slice Ao o.length co) inner (.slice A58 z58.length c58) _ hown hxd (by omega) hbs (H.out.blk 5 rfl) (fun e => absurd (hlt0 _ e) (Nat.lt_irrefl _)) hone rfl)
 refine hK.out _ _ (H.out.cell 2 rfl 0) (fun hHeld => ?_)
 clear hK K
 refine nA 59 (h := ?_)
 refine one_ (i := 7) (N := some 60) #[true, true, true, true, true, true, true, true, false, false] rfl rfl (by kernel_rfl) (by decide) (fun K hK => ?_)
 refine goes_ Tryz.func130 (by kernel_rfl) rfl #[.slice Ao o.length co, .int .i64 (x : Int), .slice (some ⟨w2.heap.size, 0, none⟩) 1 1] (by rfl) rfl rfl (by (try simp only [List.map_toArray, List.map_cons, List.map_nil]); first | done | rfl) ?_
 refine HINS.out.mono ?_
 rintro e w3 ⟨v60, rfl, h1, h2, h3⟩
 refine ⟨_, rfl, ?_⟩
 replace H := aM ((HBK.out w3 v60 h1 h2 h3).keep 4)
 clear h1 h2 h3 HBK HINS
 obtain ⟨A60, c60, rfl, _, _⟩ := H.out.forms 3 rfl
 refine hK.out _ _ (H.out.cell 2 rfl 0) (fun hHeld => ?_)
 clear hK K
 refine nA 60 (h := ?_)
 refine pA 8 61 (h := ?_)
 refine last_ (i := 9) (N := none) #[true, true, true, true, true, true, true, true, true, true] rfl rfl (by kernel_rfl) (by decide) (fun K hK => ?_)
 have q6 : w3.cell? ⟨g6, 0, none⟩ = some (.slice Ao o.length co) := H.out.cell 2 rfl 0
 have q7 := H.out.frozen 2 rfl 0
 refine skip_ (w1 := ?_) (by rfl) rfl ?_ ?_
 rotate_left
 · {
 go_simp
 rfl}
 refine hK.out _ _ ?_
 clear hK K
 refine done_ (by kernel_rfl) ?_
 replace H := aM (H.out.setVar 2 rfl 0 (.slice A60 ((impl_Matrix_grown.wide1 o x o.length).insertIdx x z58).length c60))
 rw [show (impl_Matrix_grown.wide1 o x o.length).insertIdx x z58 = impl_Matrix_grown.wide2 o x from by rw [HZ58.out]; rfl] at H ⊢
 have hw2 := impl_Matrix_grown.wide2_len o x hxd
 have hr2 := impl_Matrix_grown.wide2_row o x HOK.out.2.1 hxd
 rw [hw2] at H ⊢
 have HW2 := aM hw2; have HR2 := aM hr2; clear hw2 hr2
 generalize World.setCell w3 _ _ = wy at H ⊢
 have k6 : wy.cell? ⟨g6, 0, none⟩ = some (.slice A60 (o.length + 1) c60) := H.out.cell 2 rfl 0
 obtain ⟨go1, c', e1, _, _⟩ := H.out.forms1 3 rfl (by rw [HW2.out]; omega)
 injection e1 with ea en ec
 subst ea; subst ec; clear en
 by_cases hx : x < o.length
 · {
 have x1 : decide ((x : Int) < (o.length : Int)) = true := decide_eq_true (by omega)
 have x2 : decide (x < o.length) = true := decide_eq_true hx
 have hcut : ∀ W, (Instr.slice 28 (.slice (some ⟨go1, 0, none⟩) (o.length + 1) c60) none (some (.int .i64 (x : Int))) none).run Tryz.prog W = .ok (.slice (some ⟨go1, 0, none⟩) x c60) W := fun W => cut_take (P := Tryz.prog) 28 24 .i64 Tryz.underlying28 info24 (some ⟨go1, 0, none⟩) (o.length + 1) c60 x (by have := (H.out.nows 3 rfl).2.1; rw [HW2.out] at this; omega) W
 go_wp2_with (fail)
 clear hcut k6
 go_loopg [70] (x + 1) (fun kq v70 w' => ∃ i : Nat, v70 = .int .i64 (i : Int) ∧ Aside0 (i ≤ x ∧ kq = x - i + 1) ∧ Aside0 (Live w w' [var w.heap.size #[.slice A0 o.length c0] 30, var (w.heap.size + 1) #[.slice none 0 0] 30, var g6 #[.slice (some ⟨go1, 0, none⟩) (o.length + 1) c60] 30, rows (Kd.slice 3 (Kd.int .i64)) 24 (.slice (some ⟨go1, 0, none⟩) (o.length + 1) c60) (impl_Matrix_grown.wide3 o x i)]))
 case atStart => exact ⟨0, rfl, ⟨Nat.zero_le _, rfl⟩, ⟨by simpa [impl_Matrix_grown.wide3] using H.out⟩⟩
 case round => (
 clear H
 rename World => wz
 obtain ⟨i, rfl, HI, H⟩ := hrel
 have h3l : (impl_Matrix_grown.wide3 o x i).length = o.length + 1 := by rw [← HW2.out]; exact Mem.part_len _ _ _
 by_cases ci : i < x
 · {
 have c1 : decide ((i : Int) < (x : Int)) = true := decide_eq_true (by omega)
 have c2 : decide (i < x) = true := decide_eq_true ci
 have h3g : (impl_Matrix_grown.wide3 o x i).getD i [] = (impl_Matrix_grown.wide2 o x).getD i [] := Mem.part_get _ _ _ _ (by rw [HW2.out]; omega)
 have hrl := HR2.out i (by omega)
 obtain ⟨rr, hrr⟩ : ∃ rr, rr = (impl_Matrix_grown.wide2 o x).getD i [] := ⟨_, rfl⟩
 rw [← hrr] at h3g hrl
 obtain ⟨gr, cr, hcx, hlx, hq, hqf, hs, hput⟩ := H.out.at3 3 rfl i x o.length (by rw [h3l]; omega) (by rw [h3g]; omega) (by rw [h3g]; omega)
 rw [h3g] at hcx hlx hq hs hput
 rw [hrl] at hcx hlx
 obtain ⟨vd, hvd⟩ : ∃ vd, vd = rr.getD o.length 0 := ⟨_, rfl⟩
 obtain ⟨vx, hvx⟩ : ∃ vx, vx = rr.getD x 0 := ⟨_, rfl⟩
 rw [← hvd] at hs; rw [← hvx] at hq
 obtain ⟨hs2, hsf2, hput⟩ := hput.out vd
 have HN := aM (hput 0); clear hput
 obtain ⟨v2, hv2⟩ : ∃ v2, v2 = (rr.set x vd).getD o.length 0 := ⟨_, rfl⟩
 rw [← hv2] at hs2
 rw [show (impl_Matrix_grown.wide3 o x i).set i ((rr.set x vd).set o.length 0) = impl_Matrix_grown.wide3 o x (i + 1) from by rw [hvd, hrr]; exact Mem.part_set (impl_Matrix_grown.fix x o.length) i (impl_Matrix_grown.wide2 o x) [] (by rw [HW2.out]; omega)] at HN
 clear hrr hvd hvx hv2 h3g hrl h3l
 go_wp2
 go_roundg (x - i)
 case measure => have := HI.out; omega
 case rel => exact ⟨i + 1, rfl, ⟨by omega, by omega⟩, HN⟩}
 · {
 have c1 : decide ((i : Int) < (x : Int)) = false := decide_eq_false (by omega)
 have c2 : decide (i < x) = false := decide_eq_false ci
 obtain rfl : i = x := by have := HI.out; omega
 have h3g : (impl_Matrix_grown.wide3 o i i).getD i [] = (impl_Matrix_grown.wide2 o i).getD i [] := Mem.part_get _ _ _ _ (by rw [HW2.out]; omega)
 have QL := aM h3l
 have QR : Aside0 (((impl_Matrix_grown.wide3 o i i).getD i []).length = o.length + 1) := ⟨by rw [h3g]; exact HR2.out i (by omega)⟩
 clear h3g h3l
 obtain ⟨gx, cx, hcx, hlx, hq, hqf, hput⟩ := H.out.at2 3 rfl i o.length (by rw [QL.out]; omega) (by rw [QR.out]; omega)
 rw [QR.out] at hcx hlx
 have HN := aM (hput.out 1); clear hput
 have HE : Aside0 ((impl_Matrix_grown.wide3 o i i).set i (((impl_Matrix_grown.wide3 o i i).getD i []).set o.length 1) = impl_Matrix_grown.wide o i) := ⟨by rw [impl_Matrix_grown.wide, if_pos hx]; rfl⟩
 rw [HE.out] at HN
 obtain ⟨rw2, hrw2⟩ : ∃ rw2, rw2 = (impl_Matrix_grown.wide3 o i i).getD i [] := ⟨_, rfl⟩
 rw [← hrw2] at hq; clear hrw2
 have n6 : (wz.setCell ⟨gx, o.length, none⟩ (.int .i64 1)).cell? ⟨g6, 0, none⟩ = some (.slice (some ⟨go1, 0, none⟩) (o.length + 1) c60) := HN.out.cell 2 rfl 0
 have n7 : (wz.setCell ⟨gx, o.length, none⟩ (.int .i64 1)).cell? ⟨w.heap.size + 1, 0, none⟩ = some (.slice none 0 0) := HN.out.cell 1 rfl 0
 have n8 := HN.out.frozen 1 rfl
 have k6 : wz.cell? ⟨g6, 0, none⟩ = some (.slice (some ⟨go1, 0, none⟩) (o.length + 1) c60) := H.out.cell 2 rfl 0
 go_wp2
 have HF := aM (HN.out.setVar 1 rfl 0 (.slice (some ⟨go1, 0, none⟩) (o.length + 1) c60))
 refine bodyPost_ret (results_cell_row rfl _ _ (w.heap.size + 1) 30 #[.slice (some ⟨go1, 0, none⟩) (o.length + 1) c60] (0, 0) _ rfl (HF.out.blk 1 rfl) Tryz.underlying30 rfl (by kernel_rfl)) rfl ?_
 exact ⟨_, rfl, HF.out.get 3 rfl, HF.out.below⟩})}
 · {
 have x1 : decide ((x : Int) < (o.length : Int)) = false := decide_eq_false (by omega)
 have x2 : decide (x < o.length) = false := decide_eq_false hx
 have QR : Aside0 (((impl_Matrix_grown.wide2 o x).getD x []).length = o.length + 1) := ⟨HR2.out x (by omega)⟩
 obtain ⟨gx, cx, hcx, hlx, hq, hqf, hput⟩ := H.out.at2 3 rfl x o.length (by rw [HW2.out]; omega) (by rw [QR.out]; omega)
 rw [QR.out] at hcx hlx
 clear k6
 have HN := aM (hput.out 1); clear hput
 have HE : Aside0 ((impl_Matrix_grown.wide2 o x).set x (((impl_Matrix_grown.wide2 o x).getD x []).set o.length 1) = impl_Matrix_grown.wide o x) := ⟨by rw [impl_Matrix_grown.wide, if_neg hx]; rfl⟩
 rw [HE.out] at HN
 obtain ⟨rw2, hrw2⟩ : ∃ rw2, rw2 = (impl_Matrix_grown.wide2 o x).getD x [] := ⟨_, rfl⟩
 rw [← hrw2] at hq; clear hrw2
 have n6 : (wy.setCell ⟨gx, o.length, none⟩ (.int .i64 1)).cell? ⟨g6, 0, none⟩ = some (.slice (some ⟨go1, 0, none⟩) (o.length + 1) c60) := HN.out.cell 2 rfl 0
 have n7 : (wy.setCell ⟨gx, o.length, none⟩ (.int .i64 1)).cell? ⟨w.heap.size + 1, 0, none⟩ = some (.slice none 0 0) := HN.out.cell 1 rfl 0
 have n8 := HN.out.frozen 1 rfl
 have k6 : wy.cell? ⟨g6, 0, none⟩ = some (.slice (some ⟨go1, 0, none⟩) (o.length + 1) c60) := H.out.cell 2 rfl 0
 go_wp2
 have HF := aM (HN.out.setVar 1 rfl 0 (.slice (some ⟨go1, 0, none⟩) (o.length + 1) c60))
 refine bodyPost_ret (results_cell_row rfl _ _ (w.heap.size + 1) 30 #[.slice (some ⟨go1, 0, none⟩) (o.length + 1) c60] (0, 0) _ rfl (HF.out.blk 1 rfl) Tryz.underlying30 rfl (by kernel_rfl)) rfl ?_
 exact ⟨_, rfl, HF.out.get 3 rfl, HF.out.below⟩}})))
def impl_matrixOf.l0 : Nat → List Int → Int → Int → List (List Int) → Option ((List (List Int)))
 | 0, _, _, _, _ => none
 | k + 1, x7, x8, x9, x472000 => if x9 < x8 then (if 0 ≤ x9 then (if x9 < (x7.length : Int) then ((impl_Matrix_grown.f k x472000 (rd x7 x9)).bind fun t473 => (impl_matrixOf.l0 k x7 x8 (wrap64 (x9 + 1)) t473)) else (none)) else (none)) else (some x472000)
def impl_matrixOf.f (k : Nat) (l0 : List Int) : Option ((List (List Int))) := impl_matrixOf.l0 k l0 (l0.length : Int) 0 ([] : List (List Int))
set_option maxHeartbeats 8000000 in
set_option maxRecDepth 100000 in
theorem impl_matrixOf.calls (k : Nat) (A0 : Option Addr) (c0 : Nat) (l0 : List Int) (r : List (List Int)) (w : World) (hr0 : Kd.C (Kd.int .i64) w A0 l0.length l0) (hc0 : l0.length ≤ c0) (h : impl_matrixOf.f k l0 = some r) :
  Calls Tryz.prog 57 #[.slice A0 l0.length c0] w fun e w' => ∃ v0_ : Value, e = .returned (.agg #[v0_]) ∧ Kd.S (Kd.slice 3 (Kd.int .i64)) 24 w' w.heap.size (fun _ => True) v0_ r ∧ Below w.heap.size w w' := by
 have hu30 := Tryz.underlying30
 have HR0 := aM hr0
 have HC0 := aM hc0
 clear hr0 hc0
 have HB := aM (Below.refl w.heap.size w)
 have H : (impl_matrixOf.l0 k l0 (l0.length : Int) 0 ([] : List (List Int))) = some r := h
 clear h
 have H' := aM H
 clear H
 go_enter Tryz.func57, Tryz.ntmps57
 go_wp2_with (first | ((with_reducible refine gate_dst (N := 2) rfl ?_); refine bE 2 30 #[.slice none 0 0] ?_; intro gb470 hg w2 hbox hb; have _ := aM (below_step bq hb); have _ := aM (hbox); have _ := aM ((gS hg)); have _ := aM ((gS hg)); clear HB; rename_i HB BK470 GW470 GE470; clear hb hbox hg) | ((with_reducible refine gate_dst (N := 3) rfl ?_); refine bE 3 30 #[.slice none 0 0] ?_; intro gb471 hg w3 hbox hb; have _ := aM (blk_below (qQ BK470) hb); have _ := aM (below_step bq hb); have _ := aM (hbox); have _ := aM ((gS hg)); have _ := aM ((gS hg)); have _ := aM ((by rw [hg]; exact Nat.ne_of_lt (blk_lt (g := gb470) (o := .cells #[.slice none 0 0] 30 (0, 0)) (qQ BK470)) : gb470 ≠ gb471)); have _ := aM ((by rw [hg]; exact Nat.ne_of_gt (blk_lt (g := gb470) (o := .cells #[.slice none 0 0] 30 (0, 0)) (qQ BK470)) : gb471 ≠ gb470)); clear BK470 HB; rename_i BK470 HB BK471 GW471 GE471 NB470_471 NB471_470; clear hb hbox hg; have hnb4 := NB471_470.out; have hnc4 := NB470_471.out; have hcz5_0 := c10 BK471; have hfz5_0 := blk_frozen BK471.out 0))
 go_loopg [9] k (fun kq v9 w' => ∃ (x9_1 : Int) (x472000_1 : List (List Int)) (u472000 : Value), v9 = .int .i64 x9_1 ∧ Aside0 (impl_matrixOf.l0 kq l0 (l0.length : Int) x9_1 x472000_1 = some r) ∧ Aside0 (kq ≤ k) ∧ Aside0 (Kd.S (Kd.slice 3 (Kd.int .i64)) 24 w' w.heap.size (fun _ => True) u472000 x472000_1) ∧ Aside0 (w'.heap[gb470]? = some (.cells #[(.slice none 0 0)] 30 (0, 0))) ∧ Aside0 (w'.heap[gb471]? = some (.cells #[u472000] 30 (0, 0))) ∧ Aside0 (Below w.heap.size w w'))
 case atStart => exact ⟨(0), (([] : List (List Int))), (.slice none 0 0), eR, H', ⟨Nat.le_refl _⟩, ⟨by first | exact Kd.S_nil _ _ _ _ _ | exact Kd.N_nil _ _ _ _ _ | exact Kd.V_nil _ _ _ _ _ | exact Kd.Q_nil _ _ _ _ _ | exact Kd.R_nil _ _ _ _ _⟩, ⟨by (with_reducible repeat first|apply qN|apply qD|apply qA); refine blk_far ?_ NB470_471.out _; (with_reducible repeat first|apply qN|apply qD|apply qA); exact BK470.out⟩, ⟨by (with_reducible repeat first|apply qN|apply qD|apply qA); refine blk_put (cs := #[.slice none 0 0]) ?_ 0 _ rfl; (with_reducible repeat first|apply qN|apply qD|apply qA); exact BK471.out⟩, ⟨bq⟩⟩
 case round =>
  clear H'
  try clear p2
  try clear c4
  try clear c5
  try clear hcz5_0
  try clear hfz5_0
  obtain ⟨x9_1, x472000_1, u472000, rfl, HA, HK1, HO_472000, BK470, BK471, HB⟩ := hrel
  cases gk with
  | zero => exact absurd HA.out (by simp [impl_matrixOf.l0])
  | succ k1 =>
   have H := HA.out
   clear HA
   simp only [impl_matrixOf.l0] at H
   by_cases c6 : x9_1 < (l0.length : Int)
   ·rw [if_pos c6] at H
    have c6b0 := decide_eq_true c6
    clear c6
    replace H := iD2 H
    obtain ⟨c7b0, c8b0, H⟩ := H
    replace H := bS H
    obtain ⟨t473, A9, H⟩ := H
    try dsimp only at H
    have H' := aM H
    clear H
    have p472 : 0 ≤ (x9_1 : Int) := odt
    have q472 : x9_1 < (l0.length : Int) := odt
    obtain ⟨ad472, e472, hx472_0⟩ := Kd.at_int HR0.out x9_1 p472 q472
    cases e472
    replace hx472_0 := (HB.out.cell (World.block_lt_of_cell? w _ hx472_0)).trans hx472_0
    replace p472 := eq_true p472
    replace q472 := eq_true q472
    have hnb10 := NB471_470.out
    have hnc10 := NB470_471.out
    have hcz11_0 := c10 BK471
    have hfz11_0 := blk_frozen BK471.out 0
    obtain ⟨Ao12, co12, eo12⟩ := Kd.S_slice HO_472000.out
    subst eo12
    go_wp2_with (first | ((with_reducible refine gate_callee (f := 97) rfl ?_); refine gL (some 15) Tryz.func97 #[.agg #[.slice Ao12 x472000_1.length co12], .int .i64 (rd l0 x9_1)] ?_; (with_reducible refine (impl_Matrix_grown.calls k1 _ _ x472000_1 (rd l0 x9_1) t473 _ (cQ ((Kd.S_reads' HO_472000.out).2.2)) ((Kd.S_reads' HO_472000.out).2.1) A9.out).mono ?_); rintro e w13 ⟨v474, rfl, ho0, hb⟩; refine ⟨_, rfl, ?_⟩; have _ := aM (Kd.S_elder' (sQ HO_472000) (Kd.S_base ho0) hb); have _ := aM (Kd.S_lower (Kd.S_new' ho0 (Kd.S_lt (sQ HO_472000))) (below_size bq)); have _ := aM (blk_below (qQ BK470) hb); have _ := aM (blk_below (qQ BK471) hb); have _ := aM (below_step bq hb); clear HO_472000 BK470 BK471 HB; rename_i HO_472000 HO475 BK470 BK471 HB; (try clear hb); (try clear hb2); (try clear hk); (try clear hi); (try clear ho0); obtain ⟨Ao14, co14, eo14⟩ := Kd.S_slice HO475.out; subst eo14; have hcz15_0 := c10 BK471; have hfz15_0 := blk_frozen BK471.out 0))
    go_roundg k1
    case measure => have := HK1.out; omega
    case rel => exact ⟨(wrap64 (x9_1 + 1)), (t473), (.slice Ao14 t473.length co14), eR, H', ⟨by have := HK1.out; omega⟩, ⟨by (with_reducible repeat first|apply sA|apply sN|apply sD); exact Kd.S_mono (Kd.S_far (p := ⟨gb471, 0, none⟩) (Kd.S_types HO475.out BK471.out (by decide)) (fun _ hk => hk.2) (.slice Ao14 t473.length co14)) (fun _ hk => trivial)⟩, ⟨by (with_reducible repeat first|apply qN|apply qD|apply qA); refine blk_far ?_ NB470_471.out _; (with_reducible repeat first|apply qN|apply qD|apply qA); exact BK470.out⟩, ⟨by (with_reducible repeat first|apply qN|apply qD|apply qA); refine blk_put (cs := #[.slice Ao12 x472000_1.length co12]) ?_ 0 _ rfl; (with_reducible repeat first|apply qN|apply qD|apply qA); exact BK471.out⟩, ⟨bq⟩⟩
   ·rw [if_neg c6] at H
    have c6b0 := decide_eq_false c6
    clear c6
    obtain rfl := Option.some.inj H
    have hnb16 := NB471_470.out
    have hnc16 := NB470_471.out
    have hcz17_0 := c10 BK471
    have hfz17_0 := blk_frozen BK471.out 0
    obtain ⟨Ao18, co18, eo18⟩ := Kd.S_slice HO_472000.out
    subst eo18
    have hcz19_0 := c10 BK470
    have hfz19_0 := blk_frozen BK470.out 0
    go_wp2
    refine bodyPost_ret (results_cell_row rfl _ _ gb470 30 #[.slice Ao18 x472000_1.length co18] (0, 0) _ rfl (by (with_reducible repeat first|apply qN|apply qD|apply qA); refine blk_put (cs := #[.slice none 0 0]) ?_ 0 _ rfl; (with_reducible repeat first|apply qN|apply qD|apply qA); exact BK470.out) Tryz.underlying30 rfl (by kernel_rfl)) rfl ?_
    exact ⟨_, eE, by (with_reducible repeat first|apply sA|apply sN|apply sD); exact Kd.S_mono (Kd.S_far (p := ⟨gb470, 0, none⟩) (Kd.S_types HO_472000.out BK470.out (by decide)) (fun _ hk => hk.2) (.slice Ao18 x472000_1.length co18)) (fun _ hk => trivial), bq⟩

end Go.Proofs.YtcodionjhcmfhaaGreatDoor.Ax
