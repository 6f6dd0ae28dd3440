/- For every matrix the program's EchelonOf and the reference's answer alike, the argument stays, and the result is memory of its own. This text: the theorem of the row, and part 4 of what it rests on. -/
import Derived.Test.YtjpbemomocccaaaCFnExactEchelonOfc
import Derived.Below
import Derived.Carry
import Derived.ChangeOld
import Derived.OpenShut
import Derived.ProofKit
import Derived.ShutString
import Derived.SizedLaws
import Derived.Test.YtjpbemomocccaaaRows
import Derived.WalkKit
namespace Go.Proofs.Ytjpbemomocccaaa.P
open Go.RowKit Go.Proofs.YtjpbemomocccaaaW.PrintWords Go.Proofs.YtjpbemomocccaaaW.PrintLast Go.Proofs.YtjpbemomocccaaaW.PrintMore
attribute [local go_sem] max2_int min2_int max_two min_two max_three min_three max_four min_four
set_option linter.unusedVariables false
set_option linter.unusedSimpArgs false

/-! ### spec_l03Turned: function 100 -/
mutual
def spec_l03Turned.l0 : Nat → Int → Int → Int → List (List Int) → Int → Int → List (List Int) → Option (Int × Int × (List (List Int)))
  | 0, _, _, _, _, _, _, _ => none
  | k + 1, x4, x483000, x483001, x483002, x485000, x485001, x485002 => if x4 < x483001 then (spec_l03Turned.l1 k x4 (([] : List Int)) 0 x483000 x483001 x483002 x485000 x485001 x485002) else (some (x485000, x485001, x485002))
def spec_l03Turned.l1 : Nat → Int → List Int → Int → Int → Int → List (List Int) → Int → Int → List (List Int) → Option (Int × Int × (List (List Int)))
  | 0, _, _, _, _, _, _, _, _, _ => none
  | k + 1, x4, x5, x6, x483000, x483001, x483002, x485000, x485001, x485002 => if x6 < (x483002.length : Int) then (if 0 ≤ x6 then (if 0 ≤ x4 then (if x4 < ((rd_L1 x483002 x6).length : Int) then (if x5.length < 17592186044416 then (spec_l03Turned.l1 k x4 (x5 ++ [rd (rd_L1 x483002 x6) x4]) (wrap64 (x6 + 1)) x483000 x483001 x483002 x485000 x485001 x485002) else (none)) else (none)) else (none)) else (none)) else (if x485002.length < 5864062014805 then (spec_l03Turned.l0 k (wrap64 (x4 + 1)) x483000 x483001 x483002 x485000 x485001 (x485002 ++ [x5])) else (none))
end
def spec_l03Turned.f (k : Nat) (a0_0 : Int) (a0_1 : Int) (l0_2 : List (List Int)) : Option (Int × Int × (List (List Int))) := spec_l03Turned.l0 k 0 a0_0 a0_1 l0_2 a0_0 (l0_2.length : Int) ([] : List (List Int))
theorem spec_l03Turned.mono_l : ∀ k, (∀ y0 y1 y2 y3 y4 y5 y6, LeO (spec_l03Turned.l0 k y0 y1 y2 y3 y4 y5 y6) (spec_l03Turned.l0 (k + 1) y0 y1 y2 y3 y4 y5 y6)) ∧ (∀ y0 y1 y2 y3 y4 y5 y6 y7 y8, LeO (spec_l03Turned.l1 k y0 y1 y2 y3 y4 y5 y6 y7 y8) (spec_l03Turned.l1 (k + 1) y0 y1 y2 y3 y4 y5 y6 y7 y8))
  | 0 => ⟨fun _ _ _ _ _ _ _ r h => by simp [spec_l03Turned.l0] at h, fun _ _ _ _ _ _ _ _ _ r h => by simp [spec_l03Turned.l1] at h⟩
  | k + 1 => by
    obtain ⟨ih0, ih1⟩ := spec_l03Turned.mono_l k
    refine ⟨?_, ?_⟩
    · intro y0 y1 y2 y3 y4 y5 y6
      unfold spec_l03Turned.l0
      repeat' first
      | (with_reducible exact ih0 _ _ _ _ _ _ _)
      | (with_reducible exact ih1 _ _ _ _ _ _ _ _ _)
      | (with_reducible exact LeO.refl _)
      | (with_reducible exact LeO.none _)
      | (with_reducible refine LeO.ite ?_ ?_)
      | (with_reducible refine LeO.bind ?_ (fun _ => ?_))
      | exact ih0 _ _ _ _ _ _ _
      | exact ih1 _ _ _ _ _ _ _ _ _
      | exact LeO.none _
      | refine LeO.ite ?_ ?_
      | refine LeO.bind ?_ (fun _ => ?_)
    · intro y0 y1 y2 y3 y4 y5 y6 y7 y8
      unfold spec_l03Turned.l1
      repeat' first
      | (with_reducible exact ih0 _ _ _ _ _ _ _)
      | (with_reducible exact ih1 _ _ _ _ _ _ _ _ _)
      | (with_reducible exact LeO.refl _)
      | (with_reducible exact LeO.none _)
      | (with_reducible refine LeO.ite ?_ ?_)
      | (with_reducible refine LeO.bind ?_ (fun _ => ?_))
      | exact ih0 _ _ _ _ _ _ _
      | exact ih1 _ _ _ _ _ _ _ _ _
      | exact LeO.none _
      | refine LeO.ite ?_ ?_
      | refine LeO.bind ?_ (fun _ => ?_)
theorem spec_l03Turned.mono : ∀ a0 a1 a2 k, LeO (spec_l03Turned.f k a0 a1 a2) (spec_l03Turned.f (k + 1) a0 a1 a2) := by
  intro a0 a1 a2 k
  obtain ⟨ih0, ih1⟩ := spec_l03Turned.mono_l k
  unfold spec_l03Turned.f
  repeat' first
      | (with_reducible exact ih0 _ _ _ _ _ _ _)
      | (with_reducible exact ih1 _ _ _ _ _ _ _ _ _)
      | (with_reducible exact LeO.refl _)
      | (with_reducible exact LeO.none _)
      | (with_reducible refine LeO.ite ?_ ?_)
      | (with_reducible refine LeO.bind ?_ (fun _ => ?_))
      | exact ih0 _ _ _ _ _ _ _
      | exact ih1 _ _ _ _ _ _ _ _ _
      | exact LeO.none _
      | refine LeO.ite ?_ ?_
      | refine LeO.bind ?_ (fun _ => ?_)
def spec_l03Turned.T1 : Bool × List (List Nat × List Nat) := (true, [([], []), ([0], [0]), ([1], [1]), ([2], [2]), ([], []), ([4], [4]), ([5], [5]), ([6], [6]), ([7], [7]), ([3, 8], [3, 8]), ([], []), ([10, 9, 0, 1, 2, 3, 4, 5, 6, 7, 8, 9, 10], [9, 10])])
def spec_l03Turned.B1 : List Nat := [0, 1, 3, 7, 0, 16, 48, 112, 240, 511, 0, 2047]
theorem spec_l03Turned.tab1 : rtab .any (opsOf Try.f100 1) = spec_l03Turned.T1 := by kernel_rfl
theorem spec_l03Turned.bits1 : waitsOk spec_l03Turned.T1.2 spec_l03Turned.B1 = true := by kernel_rfl
set_option maxHeartbeats 8000000 in
set_option maxRecDepth 100000 in
theorem spec_l03Turned.calls (k : Nat) (g0_ : Nat) (a0_0 : Int) (a0_1 : Int) (A0_2 : Option Addr) (c0_2 : Nat) (l0_2 : List (List Int)) (r1 : Int) (r2 : Int) (r3 : List (List Int)) (w : World) (hx0_ : w.heap[g0_]? = some (.cells #[.int .i64 a0_0, .int .i64 a0_1, .slice A0_2 l0_2.length c0_2] 26 (0, 0))) (hr0_2 : Kd.C (Kd.slice 2 (Kd.int .i64)) w A0_2 l0_2.length l0_2) (hc0_2 : l0_2.length ≤ c0_2) (h : spec_l03Turned.f k a0_0 a0_1 l0_2 = some (r1, r2, r3)) :
    Calls Try.prog 100 #[.pointer (some ⟨g0_, 0, none⟩)] w fun e w' => ∃ v2_ : Value, e = .returned (.agg #[.int .i64 r1, .int .i64 r2, v2_]) ∧ Kd.S (Kd.slice 2 (Kd.int .i64)) 35 w' w.heap.size (fun _ => True) v2_ r3 ∧ Below w.heap.size w w' := by
  have hu26 := Try.underlying26
  have HR0_2 := Aside0.mk hr0_2
  have HC0_2 := Aside0.mk hc0_2
  clear hr0_2 hc0_2
  have BK482 := Aside0.mk hx0_
  clear hx0_
  have HB := Aside0.mk (Below.refl w.heap.size w)
  have H : (spec_l03Turned.l0 k 0 a0_0 a0_1 l0_2 a0_0 (l0_2.length : Int) ([] : List (List Int))) = some (r1, r2, r3) := h
  clear h
  have H' := Aside0.mk H
  clear H
  go_enter Try.func100, Try.ntmps100
  try go_wp2_with (first | ((with_reducible refine gate_dst (N := 2) rfl ?_); refine box_event ?hg (N := 2) ?hd (cs := #[.int .i64 0, .int .i64 0, .slice none 0 0]) (t := 26) ?hr ?_; (case hd => rfl); (case hg => rfl); (case hr => first | (go_simp; done) | (go_simp; rfl)); intro gb483 hg w2 hbox hb; have n0_ := Aside0.mk (blk_below (g := g0_) (o := .cells #[.int .i64 a0_0, .int .i64 a0_1, .slice A0_2 l0_2.length c0_2] 26 (0, 0)) (by (with_reducible repeat (first | refine blk_drewN ?_ _ | refine blk_drew ?_ | refine blk_alloc ?_ _)); exact BK482.out) hb); have n1_ := Aside0.mk (below_step (by repeat (first | (with_reducible first | exact HB.out | apply below_alloc | apply pw_below_drewN | apply below_drew1 | refine below_set ?_ GE482.out) | exact HB.out)) hb); have n2_ := Aside0.mk (hbox); have n3_ := Aside0.mk ((by rw [hg]; exact (below_size (by repeat (first | (with_reducible first | exact HB.out | apply below_alloc | apply pw_below_drewN | apply below_drew1 | refine below_set ?_ GE482.out) | exact HB.out))) : w.heap.size ≤ gb483)); have n4_ := Aside0.mk ((by rw [hg]; exact (below_size (by repeat (first | (with_reducible first | exact HB.out | apply below_alloc | apply pw_below_drewN | apply below_drew1 | refine below_set ?_ GE482.out) | exact HB.out))) : w.heap.size ≤ gb483)); have n5_ := Aside0.mk ((by rw [hg]; exact Nat.ne_of_lt (blk_lt (g := g0_) (o := .cells #[.int .i64 a0_0, .int .i64 a0_1, .slice A0_2 l0_2.length c0_2] 26 (0, 0)) (by (with_reducible repeat (first | refine blk_drewN ?_ _ | refine blk_drew ?_ | refine blk_alloc ?_ _)); exact BK482.out)) : g0_ ≠ gb483)); have n6_ := Aside0.mk ((by rw [hg]; exact Nat.ne_of_gt (blk_lt (g := g0_) (o := .cells #[.int .i64 a0_0, .int .i64 a0_1, .slice A0_2 l0_2.length c0_2] 26 (0, 0)) (by (with_reducible repeat (first | refine blk_drewN ?_ _ | refine blk_drew ?_ | refine blk_alloc ?_ _)); exact BK482.out)) : gb483 ≠ g0_)); clear BK482; clear HB; have BK482 := n0_; have HB := n1_; have BK483 := n2_; have GW483 := n3_; have GE483 := n4_; have NB482_483 := n5_; have NB483_482 := n6_; clear n0_ n1_ n2_ n3_ n4_ n5_ n6_; clear hb hbox hg))
  have n0_ := Aside0.mk (blk_drew BK482.out)
  have n1_ := Aside0.mk (blk_drew BK483.out)
  have n2_ := Aside0.mk (below_drew1 HB.out)
  clear BK482
  clear BK483
  clear HB
  have BK482 := n0_
  have BK483 := n1_
  have HB := n2_
  clear n0_ n1_ n2_
  refine start_ (n := 12) (S := fun w' => w'.cell? ⟨g0_, 0, none⟩ = some (.int .i64 a0_0) ∧ w'.cell? ⟨g0_, 1, none⟩ = some (.int .i64 a0_1) ∧ w'.cell? ⟨g0_, 2, none⟩ = some (.slice A0_2 l0_2.length c0_2)) (ds := []) #[false, false, false, false, false, false, false, false, false, false, false, false] (by kernel_rfl) rfl rfl ⟨(blk_cell BK482.out 0).trans rfl, (blk_cell BK482.out 1).trans rfl, (blk_cell BK482.out 2).trans rfl⟩ (fun hHeld => ?_); refine with_tabW spec_l03Turned.tab1 spec_l03Turned.bits1 (fun HT_ HW_ => ?_)
  generalize w2.drew = w3 at BK482 BK483 HB hHeld ⊢
  refine pure_ (i := 0) (N := some 7) (v := ?_) (a' := ?_) #[true, false, false, false, false, false, false, false, false, false, false, false] rfl rfl (any_of HT_.out (by kernel_rfl)) (fun _ _ _ h => h) (Or.inl ⟨by rfl, ?_⟩) ?_ ?_
  rotate_left
  · intro w'
    first | (go_simp; with_reducible rfl) | (simp [go_sem, Instr.field, asAgg] <;> with_reducible rfl)
  rotate_left
  · simp only [Act.put, List.setIfInBounds_toArray, List.set_cons_zero, List.set_cons_succ, i64_w, i32_w]
    rfl
  refine pure_ (i := 1) (N := some 8) (v := ?_) (a' := ?_) #[true, true, false, false, false, false, false, false, false, false, false, false] rfl rfl (any_of HT_.out (by kernel_rfl)) (fun _ _ _ h => h) (Or.inl ⟨by rfl, ?_⟩) ?_ ?_
  rotate_left
  · intro w'
    first | (go_simp; with_reducible rfl) | (simp [go_sem, Instr.field, asAgg] <;> with_reducible rfl)
  rotate_left
  · simp only [Act.put, List.setIfInBounds_toArray, List.set_cons_zero, List.set_cons_succ, i64_w, i32_w]
    rfl
  refine pure_ (i := 2) (N := some 9) (v := ?_) (a' := ?_) #[true, true, true, false, false, false, false, false, false, false, false, false] rfl rfl (any_of HT_.out (by kernel_rfl)) (fun _ _ _ h => h) (Or.inl ⟨by rfl, ?_⟩) ?_ ?_
  rotate_left
  · intro w'
    first | (go_simp; with_reducible rfl) | (simp [go_sem, Instr.field, asAgg] <;> with_reducible rfl)
  rotate_left
  · simp only [Act.put, List.setIfInBounds_toArray, List.set_cons_zero, List.set_cons_succ, i64_w, i32_w]
    rfl
  refine pure_ (i := 4) (N := some 11) (v := ?_) (a' := ?_) #[true, true, true, false, true, false, false, false, false, false, false, false] rfl rfl (any_of HT_.out (by kernel_rfl)) (fun _ _ _ h => h) (Or.inl ⟨by rfl, ?_⟩) ?_ ?_
  rotate_left
  · intro w'
    first | (go_simp; with_reducible rfl) | (simp [go_sem, Instr.field, asAgg] <;> with_reducible rfl)
  rotate_left
  · simp only [Act.put, List.setIfInBounds_toArray, List.set_cons_zero, List.set_cons_succ, i64_w, i32_w]
    rfl
  refine pure_ (i := 5) (N := some 12) (v := ?_) (a' := ?_) #[true, true, true, false, true, true, false, false, false, false, false, false] rfl rfl (any_of HT_.out (by kernel_rfl)) (fun _ _ _ h => h) (Or.inl ⟨by rfl, ?_⟩) ?_ ?_
  rotate_left
  · intro w'
    first | (go_simp; with_reducible rfl) | (simp [go_sem, Instr.field, asAgg] <;> with_reducible rfl)
  rotate_left
  · simp only [Act.put, List.setIfInBounds_toArray, List.set_cons_zero, List.set_cons_succ, i64_w, i32_w]
    rfl
  refine pure_ (i := 6) (N := some 13) (v := ?_) (a' := ?_) #[true, true, true, false, true, true, true, false, false, false, false, false] rfl rfl (any_of HT_.out (by kernel_rfl)) (fun _ _ _ h => h) (Or.inl ⟨by rfl, ?_⟩) ?_ ?_
  rotate_left
  · intro w'
    first | (go_simp; with_reducible rfl) | (simp [go_sem, Instr.field, asAgg] <;> with_reducible rfl)
  rotate_left
  · simp only [Act.put, List.setIfInBounds_toArray, List.set_cons_zero, List.set_cons_succ, i64_w, i32_w]
    rfl
  refine take_ (i := 3) (N := some 10) (v := ?_) (a' := ?_) #[true, true, true, true, true, true, true, false, false, false, false, false] rfl rfl (take_ofW HT_.out HW_.out (by kernel_rfl)) (fun _ _ _ h => h) (Or.inl ⟨by rfl, ?_⟩) hHeld ?_ ?_
  rotate_left
  · rintro w' ⟨s0, s1, s2⟩
    go_simp
    with_reducible rfl
  rotate_left
  · simp only [Act.put, List.setIfInBounds_toArray, List.set_cons_zero, List.set_cons_succ, i64_w, i32_w]
    rfl
  refine take_ (i := 7) (N := some 14) (v := ?_) (a' := ?_) #[true, true, true, true, true, true, true, true, false, false, false, false] rfl rfl (take_ofW HT_.out HW_.out (by kernel_rfl)) (fun _ _ _ h => h) (Or.inl ⟨by rfl, ?_⟩) hHeld ?_ ?_
  rotate_left
  · rintro w' ⟨s0, s1, s2⟩
    go_simp
    with_reducible rfl
  rotate_left
  · simp only [Act.put, List.setIfInBounds_toArray, List.set_cons_zero, List.set_cons_succ, i64_w, i32_w]
    rfl
  refine pure_ (i := 8) (N := some 15) (v := ?_) (a' := ?_) #[true, true, true, true, true, true, true, true, true, false, false, false] rfl rfl (any_of HT_.out (by kernel_rfl)) (fun _ _ _ h => h) (Or.inl ⟨by rfl, ?_⟩) ?_ ?_
  rotate_left
  · intro w'
    first | (go_simp; with_reducible rfl) | (simp [go_sem, Instr.field, asAgg] <;> with_reducible rfl)
  rotate_left
  · simp only [Act.put, List.setIfInBounds_toArray, List.set_cons_zero, List.set_cons_succ, i64_w, i32_w]
    rfl
  refine pure_ (i := 9) (N := some 16) (v := ?_) (a' := ?_) #[true, true, true, true, true, true, true, true, true, true, false, false] rfl rfl (any_of HT_.out (by kernel_rfl)) (fun _ _ _ h => h) (Or.inl ⟨by rfl, ?_⟩) ?_ ?_
  rotate_left
  · intro w'
    first | (go_simp; with_reducible rfl) | (simp [go_sem, Instr.field, asAgg] <;> with_reducible rfl)
  rotate_left
  · simp only [Act.put, List.setIfInBounds_toArray, List.set_cons_zero, List.set_cons_succ, i64_w, i32_w]
    rfl
  refine one_ (i := 10) (N := some 3) #[true, true, true, true, true, true, true, true, true, true, true, false] rfl rfl (one_of HT_.out (by kernel_rfl)) (by decide) (fun K hK => ?_)
  refine box_step ?hg (N := 3) ?hd (cs := #[.int .i64 0, .int .i64 0, .slice none 0 0]) (t := 26) ?hr ?_; (case hd => rfl); (case hg => rfl); (case hr => first | (go_simp; done) | (go_simp; rfl))
  intro gb484 hg w4 hbox hb
  have n0_ := Aside0.mk (blk_below (g := g0_) (o := .cells #[.int .i64 a0_0, .int .i64 a0_1, .slice A0_2 l0_2.length c0_2] 26 (0, 0)) (by (with_reducible repeat (first | refine blk_drewN ?_ _ | refine blk_drew ?_ | refine blk_alloc ?_ _)); exact BK482.out) hb)
  have n1_ := Aside0.mk (blk_below (g := gb483) (o := .cells #[.int .i64 0, .int .i64 0, .slice none 0 0] 26 (0, 0)) (by (with_reducible repeat (first | refine blk_drewN ?_ _ | refine blk_drew ?_ | refine blk_alloc ?_ _)); exact BK483.out) hb)
  have n2_ := Aside0.mk (below_step (by repeat (first | (with_reducible first | exact HB.out | apply below_alloc | apply pw_below_drewN | apply below_drew1 | refine below_set ?_ GE482.out | refine below_set ?_ GE483.out) | exact HB.out)) hb)
  have n3_ := Aside0.mk (hbox)
  have n4_ := Aside0.mk ((by rw [hg]; exact (below_size (by repeat (first | (with_reducible first | exact HB.out | apply below_alloc | apply pw_below_drewN | apply below_drew1 | refine below_set ?_ GE482.out | refine below_set ?_ GE483.out) | exact HB.out))) : w.heap.size ≤ gb484))
  have n5_ := Aside0.mk ((by rw [hg]; exact (below_size (by repeat (first | (with_reducible first | exact HB.out | apply below_alloc | apply pw_below_drewN | apply below_drew1 | refine below_set ?_ GE482.out | refine below_set ?_ GE483.out) | exact HB.out))) : w.heap.size ≤ gb484))
  have n6_ := Aside0.mk ((by rw [hg]; exact Nat.ne_of_lt (blk_lt (g := g0_) (o := .cells #[.int .i64 a0_0, .int .i64 a0_1, .slice A0_2 l0_2.length c0_2] 26 (0, 0)) (by (with_reducible repeat (first | refine blk_drewN ?_ _ | refine blk_drew ?_ | refine blk_alloc ?_ _)); exact BK482.out)) : g0_ ≠ gb484))
  have n7_ := Aside0.mk ((by rw [hg]; exact Nat.ne_of_gt (blk_lt (g := g0_) (o := .cells #[.int .i64 a0_0, .int .i64 a0_1, .slice A0_2 l0_2.length c0_2] 26 (0, 0)) (by (with_reducible repeat (first | refine blk_drewN ?_ _ | refine blk_drew ?_ | refine blk_alloc ?_ _)); exact BK482.out)) : gb484 ≠ g0_))
  have n8_ := Aside0.mk ((by rw [hg]; exact Nat.ne_of_lt (blk_lt (g := gb483) (o := .cells #[.int .i64 0, .int .i64 0, .slice none 0 0] 26 (0, 0)) (by (with_reducible repeat (first | refine blk_drewN ?_ _ | refine blk_drew ?_ | refine blk_alloc ?_ _)); exact BK483.out)) : gb483 ≠ gb484))
  have n9_ := Aside0.mk ((by rw [hg]; exact Nat.ne_of_gt (blk_lt (g := gb483) (o := .cells #[.int .i64 0, .int .i64 0, .slice none 0 0] 26 (0, 0)) (by (with_reducible repeat (first | refine blk_drewN ?_ _ | refine blk_drew ?_ | refine blk_alloc ?_ _)); exact BK483.out)) : gb484 ≠ gb483))
  clear BK482
  clear BK483
  clear HB
  have BK482 := n0_
  have BK483 := n1_
  have HB := n2_
  have BK484 := n3_
  have GW484 := n4_
  have GE484 := n5_
  have NB482_484 := n6_
  have NB484_482 := n7_
  have NB483_484 := n8_
  have NB484_483 := n9_
  clear n0_ n1_ n2_ n3_ n4_ n5_ n6_ n7_ n8_ n9_
  clear hb hbox hg
  refine hK.out _ _ ⟨(blk_cell BK482.out 0).trans rfl, (blk_cell BK482.out 1).trans rfl, (blk_cell BK482.out 2).trans rfl⟩ (fun hHeld => ?_)
  clear hK K
  refine norm_ (a' := ?_) ?_ ?_
  rotate_left
  · show Act.put _ (some 3) _ = _
    simp only [Act.put, List.setIfInBounds_toArray, List.set_cons_zero, List.set_cons_succ, i64_w, i32_w]
    rfl
  refine one_ (i := 11) (N := none) #[true, true, true, true, true, true, true, true, true, true, true, true] rfl rfl (one_of HT_.out (by kernel_rfl)) (by decide) (fun K hK => ?_)
  have hs5 : w4.cell? ⟨gb484, 0, none⟩ = some (.int .i64 0) := (blk_cell BK484.out 0).trans rfl
  have hfs5 := blk_frozen BK484.out 0
  have hns5_0 := NB482_484.out
  have hns5_1 := NB483_484.out
  have hms5_0 := NB484_482.out
  have hms5_1 := NB484_483.out
  have hs6 : w4.cell? ⟨gb484, 1, none⟩ = some (.int .i64 0) := (blk_cell BK484.out 1).trans rfl
  have hfs6 := blk_frozen BK484.out 1
  have hns6_0 := NB482_484.out
  have hns6_1 := NB483_484.out
  have hms6_0 := NB484_482.out
  have hms6_1 := NB484_483.out
  have hs7 : w4.cell? ⟨gb484, 2, none⟩ = some (.slice none 0 0) := (blk_cell BK484.out 2).trans rfl
  have hfs7 := blk_frozen BK484.out 2
  have hns7_0 := NB482_484.out
  have hns7_1 := NB483_484.out
  have hms7_0 := NB484_482.out
  have hms7_1 := NB484_483.out
  refine skip_ (w1 := ?_) (by rfl) rfl ?_ ?_
  rotate_left
  · go_simp
    rfl
  refine hK.out _ _ ⟨((cell_far (p := ⟨gb484, _, none⟩) NB482_484.out _).trans (((cell_far (p := ⟨gb484, _, none⟩) NB482_484.out _).trans (((cell_far (p := ⟨gb484, _, none⟩) NB482_484.out _).trans (hHeld.1)))))), ((cell_far (p := ⟨gb484, _, none⟩) NB482_484.out _).trans (((cell_far (p := ⟨gb484, _, none⟩) NB482_484.out _).trans (((cell_far (p := ⟨gb484, _, none⟩) NB482_484.out _).trans (hHeld.2.1)))))), ((cell_far (p := ⟨gb484, _, none⟩) NB482_484.out _).trans (((cell_far (p := ⟨gb484, _, none⟩) NB482_484.out _).trans (((cell_far (p := ⟨gb484, _, none⟩) NB482_484.out _).trans (hHeld.2.2))))))⟩ (fun hHeld => ?_)
  clear hK K
  refine done_ (done_of HT_.out (by kernel_rfl)) ?_
  try go_wp2
  go_loopg [4] k (fun kq v4 w' => ∃ (x4_1 : Int) (x485002_1 : List (List Int)) (u485002 : Value), v4 = .int .i64 x4_1 ∧ Aside0 (spec_l03Turned.l0 kq x4_1 a0_0 a0_1 l0_2 a0_0 (l0_2.length : Int) x485002_1 = some (r1, r2, r3)) ∧ Aside0 (kq ≤ k) ∧ Aside0 (Kd.S (Kd.slice 2 (Kd.int .i64)) 35 w' w.heap.size (fun _ => True) u485002 x485002_1) ∧ Aside0 (w'.heap[g0_]? = some (.cells #[.int .i64 a0_0, .int .i64 a0_1, (.slice A0_2 l0_2.length c0_2)] 26 (0, 0))) ∧ Aside0 (w'.heap[gb483]? = some (.cells #[.int .i64 0, .int .i64 0, (.slice none 0 0)] 26 (0, 0))) ∧ Aside0 (w'.heap[gb484]? = some (.cells #[.int .i64 a0_0, .int .i64 (l0_2.length : Int), u485002] 26 (0, 0))) ∧ Aside0 (Below w.heap.size w w'))
  case atStart => exact ⟨(0), (([] : List (List Int))), (.slice none 0 0), (by first | rfl | (simp; done) | (simp [*]; done)), H', ⟨Nat.le_refl _⟩, ⟨by first | exact Kd.S_nil _ _ _ _ _ | exact Kd.N_nil _ _ _ _ _ | exact Kd.V_nil _ _ _ _ _ | exact Kd.Q_nil _ _ _ _ _ | exact Kd.R_nil _ _ _ _ _⟩, ⟨by (with_reducible repeat (first | refine blk_drewN ?_ _ | refine blk_drew ?_ | refine blk_alloc ?_ _)); refine blk_far ?_ NB482_484.out _; (with_reducible repeat (first | refine blk_drewN ?_ _ | refine blk_drew ?_ | refine blk_alloc ?_ _)); refine blk_far ?_ NB482_484.out _; (with_reducible repeat (first | refine blk_drewN ?_ _ | refine blk_drew ?_ | refine blk_alloc ?_ _)); refine blk_far ?_ NB482_484.out _; (with_reducible repeat (first | refine blk_drewN ?_ _ | refine blk_drew ?_ | refine blk_alloc ?_ _)); exact BK482.out⟩, ⟨by (with_reducible repeat (first | refine blk_drewN ?_ _ | refine blk_drew ?_ | refine blk_alloc ?_ _)); refine blk_far ?_ NB483_484.out _; (with_reducible repeat (first | refine blk_drewN ?_ _ | refine blk_drew ?_ | refine blk_alloc ?_ _)); refine blk_far ?_ NB483_484.out _; (with_reducible repeat (first | refine blk_drewN ?_ _ | refine blk_drew ?_ | refine blk_alloc ?_ _)); refine blk_far ?_ NB483_484.out _; (with_reducible repeat (first | refine blk_drewN ?_ _ | refine blk_drew ?_ | refine blk_alloc ?_ _)); exact BK483.out⟩, ⟨by (with_reducible repeat (first | refine blk_drewN ?_ _ | refine blk_drew ?_ | refine blk_alloc ?_ _)); refine blk_put (cs := #[.int .i64 a0_0, .int .i64 (l0_2.length : Int), .slice none 0 0]) ?_ 2 _ rfl; (with_reducible repeat (first | refine blk_drewN ?_ _ | refine blk_drew ?_ | refine blk_alloc ?_ _)); refine blk_put (cs := #[.int .i64 a0_0, .int .i64 0, .slice none 0 0]) ?_ 1 _ rfl; (with_reducible repeat (first | refine blk_drewN ?_ _ | refine blk_drew ?_ | refine blk_alloc ?_ _)); refine blk_put (cs := #[.int .i64 0, .int .i64 0, .slice none 0 0]) ?_ 0 _ rfl; (with_reducible repeat (first | refine blk_drewN ?_ _ | refine blk_drew ?_ | refine blk_alloc ?_ _)); exact BK484.out⟩, ⟨by repeat (first | (with_reducible first | exact HB.out | apply below_alloc | apply pw_below_drewN | apply below_drew1 | refine below_set ?_ GE482.out | refine below_set ?_ GE483.out | refine below_set ?_ GE484.out) | exact HB.out)⟩⟩
  case round =>
    clear H'
    try clear c1
    try clear p2
    obtain ⟨x4_1, x485002_1, u485002, rfl, HA, HK1, HO_485002, BK482, BK483, BK484, HB⟩ := hrel
    cases gk with
    | zero => exact absurd HA.out (by simp [spec_l03Turned.l0])
    | succ k1 =>
      have H := HA.out
      clear HA
      simp only [spec_l03Turned.l0] at H
      by_cases c8 : x4_1 < a0_1
      · rw [if_pos c8] at H
        have c8b0 : decide (x4_1 < a0_1) = true := decide_eq_true c8
        clear c8
        obtain ⟨y485, hy485⟩ : ∃ y_ : List Int, y_ = (([] : List Int)) := ⟨_, rfl⟩
        replace H : (spec_l03Turned.l1 k1 x4_1 y485 0 a0_0 a0_1 l0_2 a0_0 (l0_2.length : Int) x485002_1) = some (r1, r2, r3) := by first | (rw [hy485]; with_reducible exact H) | (have H2_ := (Option.bind_some _ _).symm.trans H; rw [hy485]; with_reducible exact H2_) | (have H2_ := (Option.bind_some _ _).symm.trans H; with_reducible exact H2_) | with_reducible exact H | (rw [hy485]; exact H) | exact H
        have Ny485 := Aside0.mk hy485
        clear hy485
        have H' := Aside0.mk H
        clear H
        have hnb9 := NB482_483.out
        have hnc9 := NB483_482.out
        have hnb10 := NB482_484.out
        have hnc10 := NB484_482.out
        have hcz11_0 : wr.cell? ⟨g0_, 0, none⟩ = some (.int .i64 a0_0) := (blk_cell BK482.out 0).trans rfl
        have hcz11_1 : wr.cell? ⟨g0_, 1, none⟩ = some (.int .i64 a0_1) := (blk_cell BK482.out 1).trans rfl
        have hcz11_2 : wr.cell? ⟨g0_, 2, none⟩ = some (.slice A0_2 l0_2.length c0_2) := (blk_cell BK482.out 2).trans rfl
        have hfz11_0 := blk_frozen BK482.out 0
        have hfz11_1 := blk_frozen BK482.out 1
        have hfz11_2 := blk_frozen BK482.out 2
        go_wp2_with (first | ((with_reducible refine gate_dst (N := 25) rfl ?_); refine Kd.R_lit (Kd.int .i64) _ 2 ?hg (N := 25) ?hd (xs := ([] : List Int)) (inner := []) (ok := fun _ => True) (okp := fun _ => True) ?hr ?hp (fun _ hk => hk) trivial (Below.refl _ _) (Nat.le_refl _) (by simp) ?_; (case hd => rfl); (case hg => rfl); (case hr => first | (go_simp; done) | (go_simp; rfl)); (case hp => exact (Reps.none _ _)); intro v486 w12 ho13 hb hg_ hnew_; clear hg_ hnew_; (first | rw [← Ny485.out] at ho13 | (simp only [Int.reduceToNat] at ho13; rw [← Ny485.out] at ho13)); have n0_ := Aside0.mk (Kd.S_elder' (by (with_reducible repeat (first | apply Kd.S_alloc | apply Kd.S_drewN | apply Kd.S_drew)); exact HO_485002.out) (Kd.R_base ho13) hb); have n1_ := Aside0.mk (Kd.R_lower ho13 (below_size (by repeat (first | (with_reducible first | exact HB.out | apply below_alloc | apply pw_below_drewN | apply below_drew1 | refine below_set ?_ GE482.out | refine below_set ?_ GE483.out | refine below_set ?_ GE484.out) | exact HB.out)))); have n2_ := Aside0.mk (blk_below (g := g0_) (o := .cells #[.int .i64 a0_0, .int .i64 a0_1, .slice A0_2 l0_2.length c0_2] 26 (0, 0)) (by (with_reducible repeat (first | refine blk_drewN ?_ _ | refine blk_drew ?_ | refine blk_alloc ?_ _)); exact BK482.out) hb); have n3_ := Aside0.mk (blk_below (g := gb483) (o := .cells #[.int .i64 0, .int .i64 0, .slice none 0 0] 26 (0, 0)) (by (with_reducible repeat (first | refine blk_drewN ?_ _ | refine blk_drew ?_ | refine blk_alloc ?_ _)); exact BK483.out) hb); have n4_ := Aside0.mk (blk_below (g := gb484) (o := .cells #[.int .i64 a0_0, .int .i64 (l0_2.length : Int), u485002] 26 (0, 0)) (by (with_reducible repeat (first | refine blk_drewN ?_ _ | refine blk_drew ?_ | refine blk_alloc ?_ _)); exact BK484.out) hb); have n5_ := Aside0.mk (below_step (by repeat (first | (with_reducible first | exact HB.out | apply below_alloc | apply pw_below_drewN | apply below_drew1 | refine below_set ?_ GE482.out | refine below_set ?_ GE483.out | refine below_set ?_ GE484.out) | exact HB.out)) hb); clear HO_485002; clear BK482; clear BK483; clear BK484; clear HB; have HO_485002 := n0_; have HO487 := n1_; have BK482 := n2_; have BK483 := n3_; have BK484 := n4_; have HB := n5_; clear n0_ n1_ n2_ n3_ n4_ n5_; clear hb ho13))
        go_loopg [5, 6] k1 (fun kq v5 v6 w' => ∃ (x5_2 : List Int) (x6_2 : Int), v6 = .int .i64 x6_2 ∧ Aside0 (spec_l03Turned.l1 kq x4_1 x5_2 x6_2 a0_0 a0_1 l0_2 a0_0 (l0_2.length : Int) x485002_1 = some (r1, r2, r3)) ∧ Aside0 (kq ≤ k1) ∧ Aside0 (Kd.R (Kd.int .i64) 2 w' w.heap.size (fun _ => True) v5 x5_2) ∧ Aside0 (Kd.S (Kd.slice 2 (Kd.int .i64)) 35 w' w.heap.size (fun k_ => some k_ ≠ (v5 : Value).ownBlock) u485002 x485002_1) ∧ Aside0 (w'.heap[g0_]? = some (.cells #[.int .i64 a0_0, .int .i64 a0_1, (.slice A0_2 l0_2.length c0_2)] 26 (0, 0))) ∧ Aside0 (w'.heap[gb483]? = some (.cells #[.int .i64 0, .int .i64 0, (.slice none 0 0)] 26 (0, 0))) ∧ Aside0 (w'.heap[gb484]? = some (.cells #[.int .i64 a0_0, .int .i64 (l0_2.length : Int), u485002] 26 (0, 0))) ∧ Aside0 (Below w.heap.size w w'))
        case atStart => exact ⟨(y485), (0), (by first | rfl | (simp; done) | (simp [*]; done)), H', ⟨Nat.le_refl _⟩, ⟨by (with_reducible repeat (first | apply Kd.R_alloc | apply Kd.R_drewN | apply Kd.R_drew)); exact HO487.out⟩, ⟨by (with_reducible repeat (first | apply Kd.S_alloc | apply Kd.S_drewN | apply Kd.S_drew)); exact Kd.S_mono HO_485002.out (fun _ hk => hk.2)⟩, ⟨by (with_reducible repeat (first | refine blk_drewN ?_ _ | refine blk_drew ?_ | refine blk_alloc ?_ _)); exact BK482.out⟩, ⟨by (with_reducible repeat (first | refine blk_drewN ?_ _ | refine blk_drew ?_ | refine blk_alloc ?_ _)); exact BK483.out⟩, ⟨by (with_reducible repeat (first | refine blk_drewN ?_ _ | refine blk_drew ?_ | refine blk_alloc ?_ _)); exact BK484.out⟩, ⟨by repeat (first | (with_reducible first | exact HB.out | apply below_alloc | apply pw_below_drewN | apply below_drew1 | refine below_set ?_ GE482.out | refine below_set ?_ GE483.out | refine below_set ?_ GE484.out) | exact HB.out)⟩⟩
        case round =>
          clear H'
          try clear c1
          try clear p2
          try clear c8
          try clear c8b0
          try clear c9
          try clear c10
          try clear hcz11_0
          try clear hcz11_1
          try clear hcz11_2
          try clear hfz11_0
          try clear hfz11_1
          try clear hfz11_2
          try clear p2
          obtain ⟨x5_2, x6_2, rfl, HA, HK2, HO_5, HO_485002, BK482, BK483, BK484, HB⟩ := hrel
          cases gk with
          | zero => exact absurd HA.out (by simp [spec_l03Turned.l1])
          | succ k2 =>
            have H := HA.out
            clear HA
            simp only [spec_l03Turned.l1] at H
            by_cases c14 : x6_2 < (l0_2.length : Int)
            · rw [if_pos c14] at H
              have c14b0 : decide (x6_2 < (l0_2.length : Int)) = true := decide_eq_true c14
              clear c14
              by_cases c15 : 0 ≤ x6_2
              · rw [if_pos c15] at H
                have c15b0 : decide (0 ≤ x6_2) = true := decide_eq_true c15
                clear c15
                by_cases c16 : 0 ≤ x4_1
                · rw [if_pos c16] at H
                  have c16b0 : decide (0 ≤ x4_1) = true := decide_eq_true c16
                  clear c16
                  by_cases c17 : x4_1 < ((rd_L1 l0_2 x6_2).length : Int)
                  · rw [if_pos c17] at H
                    have c17b0 : decide (x4_1 < ((rd_L1 l0_2 x6_2).length : Int)) = true := decide_eq_true c17
                    clear c17
                    by_cases c18 : x5_2.length < 17592186044416
                    · rw [if_pos c18] at H
                      have LMc18 := Aside0.mk c18
                      clear c18
                      obtain ⟨y490, hy490⟩ : ∃ y_ : List Int, y_ = (x5_2 ++ [rd (rd_L1 l0_2 x6_2) x4_1]) := ⟨_, rfl⟩
                      replace H : (spec_l03Turned.l1 k2 x4_1 y490 (wrap64 (x6_2 + 1)) a0_0 a0_1 l0_2 a0_0 (l0_2.length : Int) x485002_1) = some (r1, r2, r3) := by first | (rw [hy490]; with_reducible exact H) | (have H2_ := (Option.bind_some _ _).symm.trans H; rw [hy490]; with_reducible exact H2_) | (have H2_ := (Option.bind_some _ _).symm.trans H; with_reducible exact H2_) | with_reducible exact H | (rw [hy490]; exact H) | exact H
                      have Ny490 := Aside0.mk hy490
                      clear hy490
                      have H' := Aside0.mk H
                      clear H
                      have hnb19 := NB482_483.out
                      have hnc19 := NB483_482.out
                      have hnb20 := NB482_484.out
                      have hnc20 := NB484_482.out
                      have hcz21_0 : wr.cell? ⟨g0_, 0, none⟩ = some (.int .i64 a0_0) := (blk_cell BK482.out 0).trans rfl
                      have hcz21_1 : wr.cell? ⟨g0_, 1, none⟩ = some (.int .i64 a0_1) := (blk_cell BK482.out 1).trans rfl
                      have hcz21_2 : wr.cell? ⟨g0_, 2, none⟩ = some (.slice A0_2 l0_2.length c0_2) := (blk_cell BK482.out 2).trans rfl
                      have hfz21_0 := blk_frozen BK482.out 0
                      have hfz21_1 := blk_frozen BK482.out 1
                      have hfz21_2 := blk_frozen BK482.out 2
                      have p488 : 0 ≤ (x6_2 : Int) := of_decide_eq_true (by first | (with_reducible assumption) | assumption)
                      have q488 : x6_2 < (l0_2.length : Int) := of_decide_eq_true (by first | (with_reducible assumption) | assumption)
                      obtain ⟨ad488, A488_0, c488_0, e488, hx488_0, hl488_0, hi488_0⟩ := at_L1 HR0_2.out x6_2 p488 q488
                      cases e488
                      replace hx488_0 := (HB.out.cell (World.block_lt_of_cell? w _ hx488_0)).trans hx488_0
                      have HR488_0 := Aside0.mk hi488_0
                      have HC488_0 := Aside0.mk hl488_0
                      clear hi488_0 hl488_0
                      replace p488 := eq_true p488
                      replace q488 := eq_true q488
                      have p489 : 0 ≤ (x4_1 : Int) := of_decide_eq_true (by first | (with_reducible assumption) | assumption)
                      have q489 : x4_1 < ((rd_L1 l0_2 x6_2).length : Int) := of_decide_eq_true (by first | (with_reducible assumption) | assumption)
                      obtain ⟨ad489, e489, hx489_0⟩ := Kd.at_int HR488_0.out x4_1 p489 q489
                      cases e489
                      replace hx489_0 := (HB.out.cell (World.block_lt_of_cell? w _ hx489_0)).trans hx489_0
                      replace p489 := eq_true p489
                      replace q489 := eq_true q489
                      go_wp2_with (first | ((with_reducible refine gate_builtin (b := .append) (xs := #[.tmp 35, .tmp 46]) rfl ?_); at_builtin; refine Kd.R_append (Kd.int .i64) (w0 := w) w.heap.size rfl (.tmp 35) (.tmp 46) 35 2 (.int .i64 0) 8 rfl Try.underlying35 info2 rfl (by decide) (by omega) u5 x5_2 (rd (rd_L1 l0_2 x6_2) x4_1) [.int .i64 (rd (rd_L1 l0_2 x6_2) x4_1)] (fun _ => True) (fun _ => False) rfl rfl ?aP (fun _ hk => hk.elim) ?aF ?aO ?aB ?aS ?aL ?_; (case aP => exact rfl); (case aB => exact (by repeat (first | (with_reducible first | exact HB.out | apply below_alloc | apply pw_below_drewN | apply below_drew1 | refine below_set ?_ GE482.out | refine below_set ?_ GE483.out | refine below_set ?_ GE484.out) | exact HB.out))); (case aF => exact (fun _ _ => trivial)); (case aO => exact (by (with_reducible repeat (first | apply Kd.R_alloc | apply Kd.R_drewN | apply Kd.R_drew)); exact HO_5.out)); (case aS => exact (below_size (by repeat (first | (with_reducible first | exact HB.out | apply below_alloc | apply pw_below_drewN | apply below_drew1 | refine below_set ?_ GE482.out | refine below_set ?_ GE483.out | refine below_set ?_ GE484.out) | exact HB.out)))); (case aL => have := LMc18.out; omega); intro v491 w22 ho hb hg hat; rw [← Ny490.out] at ho; have n0_ := Aside0.mk (Kd.S_after (ok := (fun _ => True)) (by (with_reducible repeat (first | apply Kd.S_alloc | apply Kd.S_drewN | apply Kd.S_drew)); exact Kd.S_mono HO_485002.out (fun _ hk => ⟨trivial, hk⟩)) hg hat); have n1_ := Aside0.mk (blk_grown (g := g0_) (o := .cells #[.int .i64 a0_0, .int .i64 a0_1, .slice (some ad488) l0_2.length c0_2] 26 (0, 0)) (by (with_reducible repeat (first | refine blk_drewN ?_ _ | refine blk_drew ?_ | refine blk_alloc ?_ _)); exact BK482.out) hg (Kd.R_ne HO_5.out BK482.out (by decide))); have n2_ := Aside0.mk (blk_grown (g := gb483) (o := .cells #[.int .i64 0, .int .i64 0, .slice none 0 0] 26 (0, 0)) (by (with_reducible repeat (first | refine blk_drewN ?_ _ | refine blk_drew ?_ | refine blk_alloc ?_ _)); exact BK483.out) hg (Kd.R_ne HO_5.out BK483.out (by decide))); have n3_ := Aside0.mk (blk_grown (g := gb484) (o := .cells #[.int .i64 a0_0, .int .i64 (l0_2.length : Int), u485002] 26 (0, 0)) (by (with_reducible repeat (first | refine blk_drewN ?_ _ | refine blk_drew ?_ | refine blk_alloc ?_ _)); exact BK484.out) hg (Kd.R_ne HO_5.out BK484.out (by decide))); have n4_ := Aside0.mk (hb); have n5_ := Aside0.mk (ho); clear HO_485002; clear BK482; clear BK483; clear BK484; clear HB; clear HO_5; have HO_485002 := n0_; have BK482 := n1_; have BK483 := n2_; have BK484 := n3_; have HB := n4_; have HO492 := n5_; clear n0_ n1_ n2_ n3_ n4_ n5_; clear ho hb hg hat))
                      go_roundg k2
                      case measure => have := HK1.out; have := HK2.out; omega
                      case rel => exact ⟨(y490), (wrap64 (x6_2 + 1)), (by first | rfl | (simp; done) | (simp [*]; done)), H', ⟨by have := HK1.out; have := HK2.out; omega⟩, ⟨by (with_reducible repeat (first | apply Kd.R_alloc | apply Kd.R_drewN | apply Kd.R_drew)); exact HO492.out⟩, ⟨by (with_reducible repeat (first | apply Kd.S_alloc | apply Kd.S_drewN | apply Kd.S_drew)); exact Kd.S_mono HO_485002.out (fun _ hk => hk.2)⟩, ⟨by (with_reducible repeat (first | refine blk_drewN ?_ _ | refine blk_drew ?_ | refine blk_alloc ?_ _)); exact BK482.out⟩, ⟨by (with_reducible repeat (first | refine blk_drewN ?_ _ | refine blk_drew ?_ | refine blk_alloc ?_ _)); exact BK483.out⟩, ⟨by (with_reducible repeat (first | refine blk_drewN ?_ _ | refine blk_drew ?_ | refine blk_alloc ?_ _)); exact BK484.out⟩, ⟨by repeat (first | (with_reducible first | exact HB.out | apply below_alloc | apply pw_below_drewN | apply below_drew1 | refine below_set ?_ GE482.out | refine below_set ?_ GE483.out | refine below_set ?_ GE484.out) | exact HB.out)⟩⟩
                    · rw [if_neg c18] at H
                      exact absurd H (by simp)
                  · rw [if_neg c17] at H
                    exact absurd H (by simp)
                · rw [if_neg c16] at H
                  exact absurd H (by simp)
              · rw [if_neg c15] at H
                exact absurd H (by simp)
            · rw [if_neg c14] at H
              have c14b0 : decide (x6_2 < (l0_2.length : Int)) = false := decide_eq_false c14
              clear c14
              by_cases c23 : x485002_1.length < 5864062014805
              · rw [if_pos c23] at H
                have LMc23 := Aside0.mk c23
                clear c23
                obtain ⟨y493, hy493⟩ : ∃ y_ : List (List Int), y_ = (x485002_1 ++ [x5_2]) := ⟨_, rfl⟩
                replace H : (spec_l03Turned.l0 k2 (wrap64 (x4_1 + 1)) a0_0 a0_1 l0_2 a0_0 (l0_2.length : Int) y493) = some (r1, r2, r3) := by first | (rw [hy493]; with_reducible exact H) | (have H2_ := (Option.bind_some _ _).symm.trans H; rw [hy493]; with_reducible exact H2_) | (have H2_ := (Option.bind_some _ _).symm.trans H; with_reducible exact H2_) | with_reducible exact H | (rw [hy493]; exact H) | exact H
                have Ny493 := Aside0.mk hy493
                clear hy493
                have H' := Aside0.mk H
                clear H
                have hnb24 := NB482_483.out
                have hnc24 := NB483_482.out
                have hnb25 := NB482_484.out
                have hnc25 := NB484_482.out
                have hcz26_0 : wr.cell? ⟨g0_, 0, none⟩ = some (.int .i64 a0_0) := (blk_cell BK482.out 0).trans rfl
                have hcz26_1 : wr.cell? ⟨g0_, 1, none⟩ = some (.int .i64 a0_1) := (blk_cell BK482.out 1).trans rfl
                have hcz26_2 : wr.cell? ⟨g0_, 2, none⟩ = some (.slice A0_2 l0_2.length c0_2) := (blk_cell BK482.out 2).trans rfl
                have hfz26_0 := blk_frozen BK482.out 0
                have hfz26_1 := blk_frozen BK482.out 1
                have hfz26_2 := blk_frozen BK482.out 2
                have hnb27 := NB484_483.out
                have hnc27 := NB483_484.out
                have hcz28_0 : wr.cell? ⟨gb484, 0, none⟩ = some (.int .i64 a0_0) := (blk_cell BK484.out 0).trans rfl
                have hcz28_1 : wr.cell? ⟨gb484, 1, none⟩ = some (.int .i64 (l0_2.length : Int)) := (blk_cell BK484.out 1).trans rfl
                have hcz28_2 : wr.cell? ⟨gb484, 2, none⟩ = some (u485002) := (blk_cell BK484.out 2).trans rfl
                have hfz28_0 := blk_frozen BK484.out 0
                have hfz28_1 := blk_frozen BK484.out 1
                have hfz28_2 := blk_frozen BK484.out 2
                obtain ⟨Ao30, co30, eo30⟩ := Kd.R_slice HO_5.out
                subst eo30
                go_wp2_with (first | ((with_reducible refine gate_builtin (b := .append) (xs := #[.tmp 49, .tmp 51]) rfl ?_); at_builtin; refine Kd.S_append (Kd.slice 2 (Kd.int .i64)) (w0 := w) w.heap.size rfl (.tmp 49) (.tmp 51) 22 35 (.slice none 0 0) 24 rfl Try.underlying22 info35 rfl (by decide) (by omega) u485002 x485002_1 x5_2 [.slice Ao30 x5_2.length co30] (fun _ => True) (fun k_ => some k_ = (.slice Ao30 x5_2.length co30 : Value).ownBlock) rfl rfl ?aP (fun k_ hk_ => ((Kd.R_mono (ok' := fun k_ => ((fun _ => True)) k_ ∧ some k_ ≠ (u485002 : Value).ownBlock) (Kd.R_apart' (HO_5.out) (Kd.S_typed HO_485002.out) (by decide)) (fun k_ hk => ⟨trivial, hk.2⟩))).1 k_ hk_.symm) ?aF ?aO ?aB ?aS ?aL ?_; (case aP => exact Kd.M_row (Kd.R_mono (Kd.R_tight rfl (Kd.R_mono (ok' := fun k_ => ((fun _ => True)) k_ ∧ some k_ ≠ (u485002 : Value).ownBlock) (Kd.R_apart' (HO_5.out) (Kd.S_typed HO_485002.out) (by decide)) (fun k_ hk => ⟨trivial, hk.2⟩))) (fun _ h_ => h_))); (case aB => exact (by repeat (first | (with_reducible first | exact HB.out | apply below_alloc | apply pw_below_drewN | apply below_drew1 | refine below_set ?_ GE482.out | refine below_set ?_ GE483.out | refine below_set ?_ GE484.out) | exact HB.out))); (case aF => exact (fun _ _ => trivial)); (case aO => exact (by (with_reducible repeat (first | apply Kd.S_alloc | apply Kd.S_drewN | apply Kd.S_drew)); exact Kd.S_mono HO_485002.out (fun k_ hk => ⟨trivial, fun e_ => hk e_⟩))); (case aS => exact (below_size (by repeat (first | (with_reducible first | exact HB.out | apply below_alloc | apply pw_below_drewN | apply below_drew1 | refine below_set ?_ GE482.out | refine below_set ?_ GE483.out | refine below_set ?_ GE484.out) | exact HB.out)))); (case aL => have := LMc23.out; omega); intro v494 w29 ho hb hg hat; rw [← Ny493.out] at ho; have n0_ := Aside0.mk (blk_grown (g := g0_) (o := .cells #[.int .i64 a0_0, .int .i64 a0_1, .slice A0_2 l0_2.length c0_2] 26 (0, 0)) (by (with_reducible repeat (first | refine blk_drewN ?_ _ | refine blk_drew ?_ | refine blk_alloc ?_ _)); exact BK482.out) hg (Kd.S_ne HO_485002.out BK482.out (by decide))); have n1_ := Aside0.mk (blk_grown (g := gb483) (o := .cells #[.int .i64 0, .int .i64 0, .slice none 0 0] 26 (0, 0)) (by (with_reducible repeat (first | refine blk_drewN ?_ _ | refine blk_drew ?_ | refine blk_alloc ?_ _)); exact BK483.out) hg (Kd.S_ne HO_485002.out BK483.out (by decide))); have n2_ := Aside0.mk (blk_grown (g := gb484) (o := .cells #[.int .i64 a0_0, .int .i64 (l0_2.length : Int), u485002] 26 (0, 0)) (by (with_reducible repeat (first | refine blk_drewN ?_ _ | refine blk_drew ?_ | refine blk_alloc ?_ _)); exact BK484.out) hg (Kd.S_ne HO_485002.out BK484.out (by decide))); have n3_ := Aside0.mk (hb); have n4_ := Aside0.mk (ho); clear BK482; clear BK483; clear BK484; clear HB; clear HO_485002; clear HO_5; have BK482 := n0_; have BK483 := n1_; have BK484 := n2_; have HB := n3_; have HO495 := n4_; clear n0_ n1_ n2_ n3_ n4_; clear ho hb hg hat; obtain ⟨Ao31, co31, eo31⟩ := Kd.S_slice HO495.out; subst eo31; have hcz32_0 : w29.cell? ⟨gb484, 0, none⟩ = some (.int .i64 a0_0) := (blk_cell BK484.out 0).trans rfl; have hcz32_1 : w29.cell? ⟨gb484, 1, none⟩ = some (.int .i64 (l0_2.length : Int)) := (blk_cell BK484.out 1).trans rfl; have hcz32_2 : w29.cell? ⟨gb484, 2, none⟩ = some (u485002) := (blk_cell BK484.out 2).trans rfl; have hfz32_0 := blk_frozen BK484.out 0; have hfz32_1 := blk_frozen BK484.out 1; have hfz32_2 := blk_frozen BK484.out 2))
                go_roundg k2
                case measure => have := HK1.out; have := HK2.out; omega
                case rel => exact ⟨(wrap64 (x4_1 + 1)), (y493), (.slice Ao31 y493.length co31), (by first | rfl | (simp; done) | (simp [*]; done)), H', ⟨by have := HK1.out; have := HK2.out; omega⟩, ⟨by (with_reducible repeat (first | apply Kd.S_alloc | apply Kd.S_drewN | apply Kd.S_drew)); exact Kd.S_mono (Kd.S_far (p := ⟨gb484, 2, none⟩) (Kd.S_types HO495.out BK484.out (by decide)) (fun _ hk => hk.2) (.slice Ao31 y493.length co31)) (fun _ hk => trivial)⟩, ⟨by (with_reducible repeat (first | refine blk_drewN ?_ _ | refine blk_drew ?_ | refine blk_alloc ?_ _)); refine blk_far ?_ NB482_484.out _; (with_reducible repeat (first | refine blk_drewN ?_ _ | refine blk_drew ?_ | refine blk_alloc ?_ _)); exact BK482.out⟩, ⟨by (with_reducible repeat (first | refine blk_drewN ?_ _ | refine blk_drew ?_ | refine blk_alloc ?_ _)); refine blk_far ?_ NB483_484.out _; (with_reducible repeat (first | refine blk_drewN ?_ _ | refine blk_drew ?_ | refine blk_alloc ?_ _)); exact BK483.out⟩, ⟨by (with_reducible repeat (first | refine blk_drewN ?_ _ | refine blk_drew ?_ | refine blk_alloc ?_ _)); refine blk_put (cs := #[.int .i64 a0_0, .int .i64 (l0_2.length : Int), u485002]) ?_ 2 _ rfl; (with_reducible repeat (first | refine blk_drewN ?_ _ | refine blk_drew ?_ | refine blk_alloc ?_ _)); exact BK484.out⟩, ⟨by repeat (first | (with_reducible first | exact HB.out | apply below_alloc | apply pw_below_drewN | apply below_drew1 | refine below_set ?_ GE482.out | refine below_set ?_ GE483.out | refine below_set ?_ GE484.out) | exact HB.out)⟩⟩
              · rw [if_neg c23] at H
                exact absurd H (by simp)
      · rw [if_neg c8] at H
        have c8b0 : decide (x4_1 < a0_1) = false := decide_eq_false c8
        clear c8
        simp only [Option.some.injEq, Prod.mk.injEq] at H
        obtain ⟨rfl, rfl, rfl⟩ := H
        have hnb33 := NB482_483.out
        have hnc33 := NB483_482.out
        have hnb34 := NB482_484.out
        have hnc34 := NB484_482.out
        have hcz35_0 : wr.cell? ⟨g0_, 0, none⟩ = some (.int .i64 a0_0) := (blk_cell BK482.out 0).trans rfl
        have hcz35_1 : wr.cell? ⟨g0_, 1, none⟩ = some (.int .i64 a0_1) := (blk_cell BK482.out 1).trans rfl
        have hcz35_2 : wr.cell? ⟨g0_, 2, none⟩ = some (.slice A0_2 l0_2.length c0_2) := (blk_cell BK482.out 2).trans rfl
        have hfz35_0 := blk_frozen BK482.out 0
        have hfz35_1 := blk_frozen BK482.out 1
        have hfz35_2 := blk_frozen BK482.out 2
        have hnb36 := NB484_483.out
        have hnc36 := NB483_484.out
        have hcz37_0 : wr.cell? ⟨gb484, 0, none⟩ = some (.int .i64 a0_0) := (blk_cell BK484.out 0).trans rfl
        have hcz37_1 : wr.cell? ⟨gb484, 1, none⟩ = some (.int .i64 (l0_2.length : Int)) := (blk_cell BK484.out 1).trans rfl
        have hcz37_2 : wr.cell? ⟨gb484, 2, none⟩ = some (u485002) := (blk_cell BK484.out 2).trans rfl
        have hfz37_0 := blk_frozen BK484.out 0
        have hfz37_1 := blk_frozen BK484.out 1
        have hfz37_2 := blk_frozen BK484.out 2
        have hcz38_0 : wr.cell? ⟨gb483, 0, none⟩ = some (.int .i64 0) := (blk_cell BK483.out 0).trans rfl
        have hcz38_1 : wr.cell? ⟨gb483, 1, none⟩ = some (.int .i64 0) := (blk_cell BK483.out 1).trans rfl
        have hcz38_2 : wr.cell? ⟨gb483, 2, none⟩ = some (.slice none 0 0) := (blk_cell BK483.out 2).trans rfl
        have hfz38_0 := blk_frozen BK483.out 0
        have hfz38_1 := blk_frozen BK483.out 1
        have hfz38_2 := blk_frozen BK483.out 2
        obtain ⟨Ao39, co39, eo39⟩ := Kd.S_slice HO_485002.out
        subst eo39
        go_wp2
        refine bodyPost_ret (results_cell_row rfl _ _ gb483 26 #[.int .i64 a0_0, .int .i64 (l0_2.length : Int), .slice Ao39 x485002_1.length co39] (0, 0) _ rfl (by (with_reducible repeat (first | refine blk_drewN ?_ _ | refine blk_drew ?_ | refine blk_alloc ?_ _)); refine blk_put (cs := #[.int .i64 a0_0, .int .i64 (l0_2.length : Int), .slice none 0 0]) ?_ 2 _ rfl; (with_reducible repeat (first | refine blk_drewN ?_ _ | refine blk_drew ?_ | refine blk_alloc ?_ _)); refine blk_put (cs := #[.int .i64 a0_0, .int .i64 0, .slice none 0 0]) ?_ 1 _ rfl; (with_reducible repeat (first | refine blk_drewN ?_ _ | refine blk_drew ?_ | refine blk_alloc ?_ _)); refine blk_put (cs := #[.int .i64 0, .int .i64 0, .slice none 0 0]) ?_ 0 _ rfl; (with_reducible repeat (first | refine blk_drewN ?_ _ | refine blk_drew ?_ | refine blk_alloc ?_ _)); exact BK483.out) Try.underlying26 rfl (by kernel_rfl)) rfl ?_
        exact ⟨_, by first | rfl | (simp [errW_none, errW_some] <;> rfl) | (simp [*, errW_none, errW_some] <;> rfl), by (with_reducible repeat (first | apply Kd.S_alloc | apply Kd.S_drewN | apply Kd.S_drew)); exact Kd.S_mono (Kd.S_far (p := ⟨gb483, 2, none⟩) (Kd.S_far (p := ⟨gb483, 1, none⟩) (Kd.S_far (p := ⟨gb483, 0, none⟩) (Kd.S_types HO_485002.out BK483.out (by decide)) (fun _ hk => hk.2) (.int .i64 a0_0)) (fun _ hk => hk.2) (.int .i64 (l0_2.length : Int))) (fun _ hk => hk.2) (.slice Ao39 x485002_1.length co39)) (fun _ hk => trivial), by repeat (first | (with_reducible first | exact HB.out | apply below_alloc | apply pw_below_drewN | apply below_drew1 | refine below_set ?_ GE482.out | refine below_set ?_ GE483.out | refine below_set ?_ GE484.out) | exact HB.out)⟩

end Go.Proofs.Ytjpbemomocccaaa.P

namespace Go.Proofs.Ytjpbemomocccaaa.P
open Go.RowKit Go.Proofs.YtjpbemomocccaaaW.PrintWords Go.Proofs.YtjpbemomocccaaaW.PrintLast Go.Proofs.YtjpbemomocccaaaW.PrintMore
attribute [local go_sem] max2_int min2_int max_two min_two max_three min_three max_four min_four
set_option linter.unusedVariables false
set_option linter.unusedSimpArgs false

/-! ### spec_l03Told: function 55 -/
def spec_l03Told.f (k : Nat) (a0_0 : Int) (a0_1 : Int) (l0_2 : List (List Int)) : Option (Int × Int × (List (List Int)) × Int) := (spec_l03Ok.f k a0_0 a0_1 l0_2).bind fun t211 => (if t211 = true then (some (a0_0, a0_1, l0_2, 0)) else (some (0, 0, ([] : List (List Int)), 3)))
theorem spec_l03Told.mono : ∀ a0 a1 a2 k, LeO (spec_l03Told.f k a0 a1 a2) (spec_l03Told.f (k + 1) a0 a1 a2) := by
  intro a0 a1 a2 k
  unfold spec_l03Told.f
  repeat' first
      | (with_reducible exact spec_l03Ok.mono _ _ _ _)
      | (with_reducible exact LeO.refl _)
      | (with_reducible exact LeO.none _)
      | (with_reducible refine LeO.ite ?_ ?_)
      | (with_reducible refine LeO.bind ?_ (fun _ => ?_))
      | exact spec_l03Ok.mono _ _ _ _
      | exact LeO.none _
      | refine LeO.ite ?_ ?_
      | refine LeO.bind ?_ (fun _ => ?_)
set_option maxHeartbeats 8000000 in
set_option maxRecDepth 100000 in
theorem spec_l03Told.calls (k : Nat) (a0_0 : Int) (a0_1 : Int) (P0_2_ : Nat → Prop) (A0_2 : Option Addr) (c0_2 : Nat) (l0_2 : List (List Int)) (r1 : Int) (r2 : Int) (r3 : List (List Int)) (r4 : Int) (w : World) (hs0_2 : Kd.V (Kd.slice 2 (Kd.int .i64)) 35 w w.heap.size (fun k_ => P0_2_ k_) (.slice A0_2 l0_2.length c0_2) l0_2) (h : spec_l03Told.f k a0_0 a0_1 l0_2 = some (r1, r2, r3, r4)) :
    Calls Try.prog 55 #[.agg #[.int .i64 a0_0, .int .i64 a0_1, .slice A0_2 l0_2.length c0_2]] w fun e w' => ∃ v2_ : Value, e = .returned (.tuple #[.agg #[.int .i64 r1, .int .i64 r2, v2_], .int .i64 r4]) ∧ Kd.V (Kd.slice 2 (Kd.int .i64)) 35 w' w.heap.size (fun k_ => (P0_2_ k_ ∨ w.heap.size ≤ k_)) v2_ r3 ∧ Below w.heap.size w w' ∧ ((v2_ = (.slice A0_2 l0_2.length c0_2 : Value) ∧ r3 = l0_2) ∨ (v2_ = (.slice none 0 0 : Value) ∧ r3 = [])) := by
  have hu26 := Try.underlying26
  have HO0_2 := Aside0.mk (show Kd.V (Kd.slice 2 (Kd.int .i64)) 35 w w.heap.size (fun k_ => (P0_2_ k_ ∨ w.heap.size ≤ k_)) (.slice A0_2 l0_2.length c0_2) l0_2 from Kd.V_mono hs0_2 (fun k_ hk => .inl hk))
  have HB := Aside0.mk (Below.refl w.heap.size w)
  have H : ((spec_l03Ok.f k a0_0 a0_1 l0_2).bind fun t211 => (if t211 = true then (some (a0_0, a0_1, l0_2, 0)) else (some (0, 0, ([] : List (List Int)), 3)))) = some (r1, r2, r3, r4) := h
  clear h
  replace H := Option.bind_eq_some_iff.mp H
  obtain ⟨t211, A20, H⟩ := H
  replace H : (if t211 = true then (some (a0_0, a0_1, l0_2, 0)) else (some (0, 0, ([] : List (List Int)), 3))) = some (r1, r2, r3, r4) := H
  have A2 := Aside0.mk A20
  clear A20
  by_cases c3 : t211 = true
  · subst c3
    have H1 : (some (a0_0, a0_1, l0_2, 0)) = some (r1, r2, r3, r4) := by rw [if_pos rfl] at H; exact H
    clear H
    have H := H1
    clear H1
    simp only [Option.some.injEq, Prod.mk.injEq] at H
    obtain ⟨rfl, rfl, rfl, rfl⟩ := H
    go_enter Try.func55, Try.ntmps55
    go_wp2_with (first | ((with_reducible refine gate_dst (N := 1) rfl ?_); refine box_event ?hg (N := 1) ?hd (cs := #[.int .i64 a0_0, .int .i64 a0_1, .slice A0_2 l0_2.length c0_2]) (t := 26) ?hr ?_; (case hd => rfl); (case hg => rfl); (case hr => first | (go_simp; done) | (go_simp; rfl)); intro gb209 hg w4 hbox hb; have n0_ := Aside0.mk (Kd.V_below (Kd.V_elderB (by (with_reducible repeat (first | apply Kd.V_alloc | apply Kd.V_drewN | apply Kd.V_drew)); exact HO0_2.out) gb209 (Nat.le_of_eq hg.symm)) hb); have n1_ := Aside0.mk (below_step (by repeat (first | (with_reducible first | exact HB.out | apply below_alloc | apply pw_below_drewN | apply below_drew1) | exact HB.out)) hb); have n2_ := Aside0.mk (hbox); have n3_ := Aside0.mk ((by rw [hg]; exact (below_size (by repeat (first | (with_reducible first | exact HB.out | apply below_alloc | apply pw_below_drewN | apply below_drew1) | exact HB.out))) : w.heap.size ≤ gb209)); have n4_ := Aside0.mk ((by rw [hg]; exact (below_size (by repeat (first | (with_reducible first | exact HB.out | apply below_alloc | apply pw_below_drewN | apply below_drew1) | exact HB.out))) : w.heap.size ≤ gb209)); clear HO0_2; clear HB; have HO0_2 := n0_; have HB := n1_; have BK209 := n2_; have GW209 := n3_; have GE209 := n4_; clear n0_ n1_ n2_ n3_ n4_; clear hb hbox hg) | ((with_reducible refine gate_dst (N := 2) rfl ?_); refine box_event ?hg (N := 2) ?hd (cs := #[.int .i64 0, .int .i64 0, .slice none 0 0]) (t := 26) ?hr ?_; (case hd => rfl); (case hg => rfl); (case hr => first | (go_simp; done) | (go_simp; rfl)); intro gb210 hg w5 hbox hb; have n0_ := Aside0.mk (Kd.V_below (Kd.V_elderB (by (with_reducible repeat (first | apply Kd.V_alloc | apply Kd.V_drewN | apply Kd.V_drew)); exact HO0_2.out) gb210 (Nat.le_of_eq hg.symm)) hb); have n1_ := Aside0.mk (blk_below (g := gb209) (o := .cells #[.int .i64 a0_0, .int .i64 a0_1, .slice A0_2 l0_2.length c0_2] 26 (0, 0)) (by (with_reducible repeat (first | refine blk_drewN ?_ _ | refine blk_drew ?_ | refine blk_alloc ?_ _)); exact BK209.out) hb); have n2_ := Aside0.mk (below_step (by repeat (first | (with_reducible first | exact HB.out | apply below_alloc | apply pw_below_drewN | apply below_drew1 | refine below_set ?_ GE209.out) | exact HB.out)) hb); have n3_ := Aside0.mk (hbox); have n4_ := Aside0.mk ((by rw [hg]; exact (below_size (by repeat (first | (with_reducible first | exact HB.out | apply below_alloc | apply pw_below_drewN | apply below_drew1 | refine below_set ?_ GE209.out) | exact HB.out))) : w.heap.size ≤ gb210)); have n5_ := Aside0.mk ((by rw [hg]; exact (below_size (by repeat (first | (with_reducible first | exact HB.out | apply below_alloc | apply pw_below_drewN | apply below_drew1 | refine below_set ?_ GE209.out) | exact HB.out))) : w.heap.size ≤ gb210)); have n6_ := Aside0.mk ((by rw [hg]; exact Nat.ne_of_lt (blk_lt (g := gb209) (o := .cells #[.int .i64 a0_0, .int .i64 a0_1, .slice A0_2 l0_2.length c0_2] 26 (0, 0)) (by (with_reducible repeat (first | refine blk_drewN ?_ _ | refine blk_drew ?_ | refine blk_alloc ?_ _)); exact BK209.out)) : gb209 ≠ gb210)); have n7_ := Aside0.mk ((by rw [hg]; exact Nat.ne_of_gt (blk_lt (g := gb209) (o := .cells #[.int .i64 a0_0, .int .i64 a0_1, .slice A0_2 l0_2.length c0_2] 26 (0, 0)) (by (with_reducible repeat (first | refine blk_drewN ?_ _ | refine blk_drew ?_ | refine blk_alloc ?_ _)); exact BK209.out)) : gb210 ≠ gb209)); clear HO0_2; clear BK209; clear HB; have HO0_2 := n0_; have BK209 := n1_; have HB := n2_; have BK210 := n3_; have GW210 := n4_; have GE210 := n5_; have NB209_210 := n6_; have NB210_209 := n7_; clear n0_ n1_ n2_ n3_ n4_ n5_ n6_ n7_; clear hb hbox hg) | ((with_reducible refine gate_callee (f := 47) rfl ?_); refine goesL_ (some 4) rfl rfl Try.func47 (by kernel_rfl) rfl #[.pointer (some ⟨gb209, 0, none⟩)] rfl (by (try simp only [List.map_toArray, List.map_cons, List.map_nil]); first | done | rfl | (simp only [List.length_drop, List.length_take]; rfl)) ?_; (with_reducible refine (spec_l03Ok.calls k gb209 a0_0 a0_1 A0_2 c0_2 l0_2 true _ ?side1 ?side2 ?side3 A2.out).mono ?_); (case side1 => (with_reducible repeat (first | refine blk_drewN ?_ _ | refine blk_drew ?_ | refine blk_alloc ?_ _)); exact BK209.out); (case side2 => repeat (first | exact (Kd.V_reads' HO0_2.out).2.2 | (with_reducible refine Kd.C_alloc ?_ _) | (with_reducible refine Kd.C_drewN ?_ _) | (with_reducible refine Kd.C_drew ?_))); (case side3 => exact (Kd.V_reads' HO0_2.out).2.1); rintro e w6 ⟨rfl, hb⟩; refine ⟨_, rfl, ?_⟩; have n0_ := Aside0.mk (Kd.V_below (by (with_reducible repeat (first | apply Kd.V_alloc | apply Kd.V_drewN | apply Kd.V_drew)); exact HO0_2.out) hb); have n1_ := Aside0.mk (blk_below (g := gb209) (o := .cells #[.int .i64 a0_0, .int .i64 a0_1, .slice A0_2 l0_2.length c0_2] 26 (0, 0)) (by (with_reducible repeat (first | refine blk_drewN ?_ _ | refine blk_drew ?_ | refine blk_alloc ?_ _)); exact BK209.out) hb); have n2_ := Aside0.mk (blk_below (g := gb210) (o := .cells #[.int .i64 0, .int .i64 0, .slice none 0 0] 26 (0, 0)) (by (with_reducible repeat (first | refine blk_drewN ?_ _ | refine blk_drew ?_ | refine blk_alloc ?_ _)); exact BK210.out) hb); have n3_ := Aside0.mk (below_step (by repeat (first | (with_reducible first | exact HB.out | apply below_alloc | apply pw_below_drewN | apply below_drew1 | refine below_set ?_ GE209.out | refine below_set ?_ GE210.out) | exact HB.out)) hb); clear HO0_2; clear BK209; clear BK210; clear HB; have HO0_2 := n0_; have BK209 := n1_; have BK210 := n2_; have HB := n3_; clear n0_ n1_ n2_ n3_; (try clear hb); (try clear hb2); (try clear hk); (try clear hi); have hnb7 := NB209_210.out; have hnc7 := NB210_209.out; have hcz8_0 : w6.cell? ⟨gb209, 0, none⟩ = some (.int .i64 a0_0) := (blk_cell BK209.out 0).trans rfl; have hcz8_1 : w6.cell? ⟨gb209, 1, none⟩ = some (.int .i64 a0_1) := (blk_cell BK209.out 1).trans rfl; have hcz8_2 : w6.cell? ⟨gb209, 2, none⟩ = some (.slice A0_2 l0_2.length c0_2) := (blk_cell BK209.out 2).trans rfl; have hfz8_0 := blk_frozen BK209.out 0; have hfz8_1 := blk_frozen BK209.out 1; have hfz8_2 := blk_frozen BK209.out 2; have hcz9_0 : w6.cell? ⟨gb210, 0, none⟩ = some (.int .i64 0) := (blk_cell BK210.out 0).trans rfl; have hcz9_1 : w6.cell? ⟨gb210, 1, none⟩ = some (.int .i64 0) := (blk_cell BK210.out 1).trans rfl; have hcz9_2 : w6.cell? ⟨gb210, 2, none⟩ = some (.slice none 0 0) := (blk_cell BK210.out 2).trans rfl; have hfz9_0 := blk_frozen BK210.out 0; have hfz9_1 := blk_frozen BK210.out 1; have hfz9_2 := blk_frozen BK210.out 2))
    refine bodyPost_ret (results_ct rfl _ _ gb210 26 #[.int .i64 a0_0, .int .i64 a0_1, .slice A0_2 l0_2.length c0_2] (0, 0) _ rfl (by (with_reducible repeat (first | refine blk_drewN ?_ _ | refine blk_drew ?_ | refine blk_alloc ?_ _)); refine blk_put (cs := #[.int .i64 a0_0, .int .i64 a0_1, .slice none 0 0]) ?_ 2 _ rfl; (with_reducible repeat (first | refine blk_drewN ?_ _ | refine blk_drew ?_ | refine blk_alloc ?_ _)); refine blk_put (cs := #[.int .i64 a0_0, .int .i64 0, .slice none 0 0]) ?_ 1 _ rfl; (with_reducible repeat (first | refine blk_drewN ?_ _ | refine blk_drew ?_ | refine blk_alloc ?_ _)); refine blk_put (cs := #[.int .i64 0, .int .i64 0, .slice none 0 0]) ?_ 0 _ rfl; (with_reducible repeat (first | refine blk_drewN ?_ _ | refine blk_drew ?_ | refine blk_alloc ?_ _)); exact BK210.out) Try.underlying26 rfl (by kernel_rfl)) rfl ?_
    exact ⟨_, by first | rfl | (simp [errW_none, errW_some] <;> rfl) | (simp [*, errW_none, errW_some] <;> rfl), by (with_reducible repeat (first | apply Kd.V_alloc | apply Kd.V_drewN | apply Kd.V_drew)); exact Kd.V_mono (Kd.V_far (p := ⟨gb210, 2, none⟩) (Kd.V_far (p := ⟨gb210, 1, none⟩) (Kd.V_far (p := ⟨gb210, 0, none⟩) (Kd.V_mono HO0_2.out (fun k_ hk => (⟨hk, hk.2⟩ : _ ∧ k_ ≠ gb210))) (fun _ hk => hk.2) (.int .i64 a0_0)) (fun _ hk => hk.2) (.int .i64 a0_1)) (fun _ hk => hk.2) (.slice A0_2 l0_2.length c0_2)) (fun _ hk => hk.1.1.1), by repeat (first | (with_reducible first | exact HB.out | apply below_alloc | apply pw_below_drewN | apply below_drew1 | refine below_set ?_ GE209.out | refine below_set ?_ GE210.out) | exact HB.out), by first | (simp; done) | exact Or.inl ⟨rfl, rfl⟩ | exact Or.inr ⟨rfl, rfl⟩⟩
  · replace c3 := Bool.eq_false_iff.mpr c3
    subst c3
    have H1 : (some (0, 0, ([] : List (List Int)), 3)) = some (r1, r2, r3, r4) := by rw [if_neg (show ¬ (false = true) by decide)] at H; exact H
    clear H
    have H := H1
    clear H1
    simp only [Option.some.injEq, Prod.mk.injEq] at H
    obtain ⟨rfl, rfl, rfl, rfl⟩ := H
    go_enter Try.func55, Try.ntmps55
    go_wp2_with (first | ((with_reducible refine gate_dst (N := 1) rfl ?_); refine box_event ?hg (N := 1) ?hd (cs := #[.int .i64 a0_0, .int .i64 a0_1, .slice A0_2 l0_2.length c0_2]) (t := 26) ?hr ?_; (case hd => rfl); (case hg => rfl); (case hr => first | (go_simp; done) | (go_simp; rfl)); intro gb209 hg w10 hbox hb; have n0_ := Aside0.mk (Kd.V_below (Kd.V_elderB (by (with_reducible repeat (first | apply Kd.V_alloc | apply Kd.V_drewN | apply Kd.V_drew)); exact HO0_2.out) gb209 (Nat.le_of_eq hg.symm)) hb); have n1_ := Aside0.mk (below_step (by repeat (first | (with_reducible first | exact HB.out | apply below_alloc | apply pw_below_drewN | apply below_drew1) | exact HB.out)) hb); have n2_ := Aside0.mk (hbox); have n3_ := Aside0.mk ((by rw [hg]; exact (below_size (by repeat (first | (with_reducible first | exact HB.out | apply below_alloc | apply pw_below_drewN | apply below_drew1) | exact HB.out))) : w.heap.size ≤ gb209)); have n4_ := Aside0.mk ((by rw [hg]; exact (below_size (by repeat (first | (with_reducible first | exact HB.out | apply below_alloc | apply pw_below_drewN | apply below_drew1) | exact HB.out))) : w.heap.size ≤ gb209)); clear HO0_2; clear HB; have HO0_2 := n0_; have HB := n1_; have BK209 := n2_; have GW209 := n3_; have GE209 := n4_; clear n0_ n1_ n2_ n3_ n4_; clear hb hbox hg) | ((with_reducible refine gate_dst (N := 2) rfl ?_); refine box_event ?hg (N := 2) ?hd (cs := #[.int .i64 0, .int .i64 0, .slice none 0 0]) (t := 26) ?hr ?_; (case hd => rfl); (case hg => rfl); (case hr => first | (go_simp; done) | (go_simp; rfl)); intro gb210 hg w11 hbox hb; have n0_ := Aside0.mk (Kd.V_below (Kd.V_elderB (by (with_reducible repeat (first | apply Kd.V_alloc | apply Kd.V_drewN | apply Kd.V_drew)); exact HO0_2.out) gb210 (Nat.le_of_eq hg.symm)) hb); have n1_ := Aside0.mk (blk_below (g := gb209) (o := .cells #[.int .i64 a0_0, .int .i64 a0_1, .slice A0_2 l0_2.length c0_2] 26 (0, 0)) (by (with_reducible repeat (first | refine blk_drewN ?_ _ | refine blk_drew ?_ | refine blk_alloc ?_ _)); exact BK209.out) hb); have n2_ := Aside0.mk (below_step (by repeat (first | (with_reducible first | exact HB.out | apply below_alloc | apply pw_below_drewN | apply below_drew1 | refine below_set ?_ GE209.out) | exact HB.out)) hb); have n3_ := Aside0.mk (hbox); have n4_ := Aside0.mk ((by rw [hg]; exact (below_size (by repeat (first | (with_reducible first | exact HB.out | apply below_alloc | apply pw_below_drewN | apply below_drew1 | refine below_set ?_ GE209.out) | exact HB.out))) : w.heap.size ≤ gb210)); have n5_ := Aside0.mk ((by rw [hg]; exact (below_size (by repeat (first | (with_reducible first | exact HB.out | apply below_alloc | apply pw_below_drewN | apply below_drew1 | refine below_set ?_ GE209.out) | exact HB.out))) : w.heap.size ≤ gb210)); have n6_ := Aside0.mk ((by rw [hg]; exact Nat.ne_of_lt (blk_lt (g := gb209) (o := .cells #[.int .i64 a0_0, .int .i64 a0_1, .slice A0_2 l0_2.length c0_2] 26 (0, 0)) (by (with_reducible repeat (first | refine blk_drewN ?_ _ | refine blk_drew ?_ | refine blk_alloc ?_ _)); exact BK209.out)) : gb209 ≠ gb210)); have n7_ := Aside0.mk ((by rw [hg]; exact Nat.ne_of_gt (blk_lt (g := gb209) (o := .cells #[.int .i64 a0_0, .int .i64 a0_1, .slice A0_2 l0_2.length c0_2] 26 (0, 0)) (by (with_reducible repeat (first | refine blk_drewN ?_ _ | refine blk_drew ?_ | refine blk_alloc ?_ _)); exact BK209.out)) : gb210 ≠ gb209)); clear HO0_2; clear BK209; clear HB; have HO0_2 := n0_; have BK209 := n1_; have HB := n2_; have BK210 := n3_; have GW210 := n4_; have GE210 := n5_; have NB209_210 := n6_; have NB210_209 := n7_; clear n0_ n1_ n2_ n3_ n4_ n5_ n6_ n7_; clear hb hbox hg) | ((with_reducible refine gate_callee (f := 47) rfl ?_); refine goesL_ (some 4) rfl rfl Try.func47 (by kernel_rfl) rfl #[.pointer (some ⟨gb209, 0, none⟩)] rfl (by (try simp only [List.map_toArray, List.map_cons, List.map_nil]); first | done | rfl | (simp only [List.length_drop, List.length_take]; rfl)) ?_; (with_reducible refine (spec_l03Ok.calls k gb209 a0_0 a0_1 A0_2 c0_2 l0_2 false _ ?side1 ?side2 ?side3 A2.out).mono ?_); (case side1 => (with_reducible repeat (first | refine blk_drewN ?_ _ | refine blk_drew ?_ | refine blk_alloc ?_ _)); exact BK209.out); (case side2 => repeat (first | exact (Kd.V_reads' HO0_2.out).2.2 | (with_reducible refine Kd.C_alloc ?_ _) | (with_reducible refine Kd.C_drewN ?_ _) | (with_reducible refine Kd.C_drew ?_))); (case side3 => exact (Kd.V_reads' HO0_2.out).2.1); rintro e w12 ⟨rfl, hb⟩; refine ⟨_, rfl, ?_⟩; have n0_ := Aside0.mk (Kd.V_below (by (with_reducible repeat (first | apply Kd.V_alloc | apply Kd.V_drewN | apply Kd.V_drew)); exact HO0_2.out) hb); have n1_ := Aside0.mk (blk_below (g := gb209) (o := .cells #[.int .i64 a0_0, .int .i64 a0_1, .slice A0_2 l0_2.length c0_2] 26 (0, 0)) (by (with_reducible repeat (first | refine blk_drewN ?_ _ | refine blk_drew ?_ | refine blk_alloc ?_ _)); exact BK209.out) hb); have n2_ := Aside0.mk (blk_below (g := gb210) (o := .cells #[.int .i64 0, .int .i64 0, .slice none 0 0] 26 (0, 0)) (by (with_reducible repeat (first | refine blk_drewN ?_ _ | refine blk_drew ?_ | refine blk_alloc ?_ _)); exact BK210.out) hb); have n3_ := Aside0.mk (below_step (by repeat (first | (with_reducible first | exact HB.out | apply below_alloc | apply pw_below_drewN | apply below_drew1 | refine below_set ?_ GE209.out | refine below_set ?_ GE210.out) | exact HB.out)) hb); clear HO0_2; clear BK209; clear BK210; clear HB; have HO0_2 := n0_; have BK209 := n1_; have BK210 := n2_; have HB := n3_; clear n0_ n1_ n2_ n3_; (try clear hb); (try clear hb2); (try clear hk); (try clear hi); have hnb13 := NB210_209.out; have hnc13 := NB209_210.out; have hcz14_0 : w12.cell? ⟨gb210, 0, none⟩ = some (.int .i64 0) := (blk_cell BK210.out 0).trans rfl; have hcz14_1 : w12.cell? ⟨gb210, 1, none⟩ = some (.int .i64 0) := (blk_cell BK210.out 1).trans rfl; have hcz14_2 : w12.cell? ⟨gb210, 2, none⟩ = some (.slice none 0 0) := (blk_cell BK210.out 2).trans rfl; have hfz14_0 := blk_frozen BK210.out 0; have hfz14_1 := blk_frozen BK210.out 1; have hfz14_2 := blk_frozen BK210.out 2))
    refine bodyPost_ret (results_ct rfl _ _ gb210 26 #[.int .i64 0, .int .i64 0, .slice none 0 0] (0, 0) _ rfl (by (with_reducible repeat (first | refine blk_drewN ?_ _ | refine blk_drew ?_ | refine blk_alloc ?_ _)); refine blk_put (cs := #[.int .i64 0, .int .i64 0, .slice none 0 0]) ?_ 2 _ rfl; (with_reducible repeat (first | refine blk_drewN ?_ _ | refine blk_drew ?_ | refine blk_alloc ?_ _)); refine blk_put (cs := #[.int .i64 0, .int .i64 0, .slice none 0 0]) ?_ 1 _ rfl; (with_reducible repeat (first | refine blk_drewN ?_ _ | refine blk_drew ?_ | refine blk_alloc ?_ _)); refine blk_put (cs := #[.int .i64 0, .int .i64 0, .slice none 0 0]) ?_ 0 _ rfl; (with_reducible repeat (first | refine blk_drewN ?_ _ | refine blk_drew ?_ | refine blk_alloc ?_ _)); exact BK210.out) Try.underlying26 rfl (by kernel_rfl)) rfl ?_
    exact ⟨_, by first | rfl | (simp [errW_none, errW_some] <;> rfl) | (simp [*, errW_none, errW_some] <;> rfl), Kd.V_nil _ _ _ _ _, by repeat (first | (with_reducible first | exact HB.out | apply below_alloc | apply pw_below_drewN | apply below_drew1 | refine below_set ?_ GE209.out | refine below_set ?_ GE210.out) | exact HB.out), by first | (simp; done) | exact Or.inl ⟨rfl, rfl⟩ | exact Or.inr ⟨rfl, rfl⟩⟩

end Go.Proofs.Ytjpbemomocccaaa.P

namespace Go.Proofs.Ytjpbemomocccaaa.P
open Go.RowKit Go.Proofs.YtjpbemomocccaaaW.PrintWords Go.Proofs.YtjpbemomocccaaaW.PrintLast Go.Proofs.YtjpbemomocccaaaW.PrintMore
attribute [local go_sem] max2_int min2_int max_two min_two max_three min_three max_four min_four
set_option linter.unusedVariables false
set_option linter.unusedSimpArgs false

/-! ### impl_matrixOrLimit: function 57 -/
def impl_matrixOrLimit.f (k : Nat) (a0_0 : Int) (a0_1 : Int) (l0_2 : List (List Int)) : Option (Int × Int × (List (List Int)) × Int) := (impl_ValidMatrix.f k a0_0 a0_1 l0_2).bind fun t253 => (if t253 = true then (some (a0_0, a0_1, l0_2, 0)) else (some (0, 0, ([] : List (List Int)), 3)))
theorem impl_matrixOrLimit.mono : ∀ a0 a1 a2 k, LeO (impl_matrixOrLimit.f k a0 a1 a2) (impl_matrixOrLimit.f (k + 1) a0 a1 a2) := by
  intro a0 a1 a2 k
  unfold impl_matrixOrLimit.f
  repeat' first
      | (with_reducible exact impl_ValidMatrix.mono _ _ _ _)
      | (with_reducible exact LeO.refl _)
      | (with_reducible exact LeO.none _)
      | (with_reducible refine LeO.ite ?_ ?_)
      | (with_reducible refine LeO.bind ?_ (fun _ => ?_))
      | exact impl_ValidMatrix.mono _ _ _ _
      | exact LeO.none _
      | refine LeO.ite ?_ ?_
      | refine LeO.bind ?_ (fun _ => ?_)
set_option maxHeartbeats 8000000 in
set_option maxRecDepth 100000 in
theorem impl_matrixOrLimit.calls (k : Nat) (a0_0 : Int) (a0_1 : Int) (P0_2_ : Nat → Prop) (A0_2 : Option Addr) (c0_2 : Nat) (l0_2 : List (List Int)) (r1 : Int) (r2 : Int) (r3 : List (List Int)) (r4 : Int) (w : World) (hs0_2 : Kd.V (Kd.slice 2 (Kd.int .i64)) 35 w w.heap.size (fun k_ => P0_2_ k_) (.slice A0_2 l0_2.length c0_2) l0_2) (h : impl_matrixOrLimit.f k a0_0 a0_1 l0_2 = some (r1, r2, r3, r4)) :
    Calls Try.prog 57 #[.agg #[.int .i64 a0_0, .int .i64 a0_1, .slice A0_2 l0_2.length c0_2]] w fun e w' => ∃ v2_ : Value, e = .returned (.tuple #[.agg #[.int .i64 r1, .int .i64 r2, v2_], .int .i64 r4]) ∧ Kd.V (Kd.slice 2 (Kd.int .i64)) 35 w' w.heap.size (fun k_ => (P0_2_ k_ ∨ w.heap.size ≤ k_)) v2_ r3 ∧ Below w.heap.size w w' ∧ ((v2_ = (.slice A0_2 l0_2.length c0_2 : Value) ∧ r3 = l0_2) ∨ (v2_ = (.slice none 0 0 : Value) ∧ r3 = [])) := by
  have hu26 := Try.underlying26
  have HO0_2 := Aside0.mk (show Kd.V (Kd.slice 2 (Kd.int .i64)) 35 w w.heap.size (fun k_ => (P0_2_ k_ ∨ w.heap.size ≤ k_)) (.slice A0_2 l0_2.length c0_2) l0_2 from Kd.V_mono hs0_2 (fun k_ hk => .inl hk))
  have HB := Aside0.mk (Below.refl w.heap.size w)
  have H : ((impl_ValidMatrix.f k a0_0 a0_1 l0_2).bind fun t253 => (if t253 = true then (some (a0_0, a0_1, l0_2, 0)) else (some (0, 0, ([] : List (List Int)), 3)))) = some (r1, r2, r3, r4) := h
  clear h
  replace H := Option.bind_eq_some_iff.mp H
  obtain ⟨t253, A20, H⟩ := H
  replace H : (if t253 = true then (some (a0_0, a0_1, l0_2, 0)) else (some (0, 0, ([] : List (List Int)), 3))) = some (r1, r2, r3, r4) := H
  have A2 := Aside0.mk A20
  clear A20
  by_cases c3 : t253 = true
  · subst c3
    have H1 : (some (a0_0, a0_1, l0_2, 0)) = some (r1, r2, r3, r4) := by rw [if_pos rfl] at H; exact H
    clear H
    have H := H1
    clear H1
    simp only [Option.some.injEq, Prod.mk.injEq] at H
    obtain ⟨rfl, rfl, rfl, rfl⟩ := H
    go_enter Try.func57, Try.ntmps57
    go_wp2_with (first | ((with_reducible refine gate_dst (N := 1) rfl ?_); refine box_event ?hg (N := 1) ?hd (cs := #[.int .i64 a0_0, .int .i64 a0_1, .slice A0_2 l0_2.length c0_2]) (t := 26) ?hr ?_; (case hd => rfl); (case hg => rfl); (case hr => first | (go_simp; done) | (go_simp; rfl)); intro gb251 hg w4 hbox hb; have n0_ := Aside0.mk (Kd.V_below (Kd.V_elderB (by (with_reducible repeat (first | apply Kd.V_alloc | apply Kd.V_drewN | apply Kd.V_drew)); exact HO0_2.out) gb251 (Nat.le_of_eq hg.symm)) hb); have n1_ := Aside0.mk (below_step (by repeat (first | (with_reducible first | exact HB.out | apply below_alloc | apply pw_below_drewN | apply below_drew1) | exact HB.out)) hb); have n2_ := Aside0.mk (hbox); have n3_ := Aside0.mk ((by rw [hg]; exact (below_size (by repeat (first | (with_reducible first | exact HB.out | apply below_alloc | apply pw_below_drewN | apply below_drew1) | exact HB.out))) : w.heap.size ≤ gb251)); have n4_ := Aside0.mk ((by rw [hg]; exact (below_size (by repeat (first | (with_reducible first | exact HB.out | apply below_alloc | apply pw_below_drewN | apply below_drew1) | exact HB.out))) : w.heap.size ≤ gb251)); clear HO0_2; clear HB; have HO0_2 := n0_; have HB := n1_; have BK251 := n2_; have GW251 := n3_; have GE251 := n4_; clear n0_ n1_ n2_ n3_ n4_; clear hb hbox hg) | ((with_reducible refine gate_dst (N := 2) rfl ?_); refine box_event ?hg (N := 2) ?hd (cs := #[.int .i64 0, .int .i64 0, .slice none 0 0]) (t := 26) ?hr ?_; (case hd => rfl); (case hg => rfl); (case hr => first | (go_simp; done) | (go_simp; rfl)); intro gb252 hg w5 hbox hb; have n0_ := Aside0.mk (Kd.V_below (Kd.V_elderB (by (with_reducible repeat (first | apply Kd.V_alloc | apply Kd.V_drewN | apply Kd.V_drew)); exact HO0_2.out) gb252 (Nat.le_of_eq hg.symm)) hb); have n1_ := Aside0.mk (blk_below (g := gb251) (o := .cells #[.int .i64 a0_0, .int .i64 a0_1, .slice A0_2 l0_2.length c0_2] 26 (0, 0)) (by (with_reducible repeat (first | refine blk_drewN ?_ _ | refine blk_drew ?_ | refine blk_alloc ?_ _)); exact BK251.out) hb); have n2_ := Aside0.mk (below_step (by repeat (first | (with_reducible first | exact HB.out | apply below_alloc | apply pw_below_drewN | apply below_drew1 | refine below_set ?_ GE251.out) | exact HB.out)) hb); have n3_ := Aside0.mk (hbox); have n4_ := Aside0.mk ((by rw [hg]; exact (below_size (by repeat (first | (with_reducible first | exact HB.out | apply below_alloc | apply pw_below_drewN | apply below_drew1 | refine below_set ?_ GE251.out) | exact HB.out))) : w.heap.size ≤ gb252)); have n5_ := Aside0.mk ((by rw [hg]; exact (below_size (by repeat (first | (with_reducible first | exact HB.out | apply below_alloc | apply pw_below_drewN | apply below_drew1 | refine below_set ?_ GE251.out) | exact HB.out))) : w.heap.size ≤ gb252)); have n6_ := Aside0.mk ((by rw [hg]; exact Nat.ne_of_lt (blk_lt (g := gb251) (o := .cells #[.int .i64 a0_0, .int .i64 a0_1, .slice A0_2 l0_2.length c0_2] 26 (0, 0)) (by (with_reducible repeat (first | refine blk_drewN ?_ _ | refine blk_drew ?_ | refine blk_alloc ?_ _)); exact BK251.out)) : gb251 ≠ gb252)); have n7_ := Aside0.mk ((by rw [hg]; exact Nat.ne_of_gt (blk_lt (g := gb251) (o := .cells #[.int .i64 a0_0, .int .i64 a0_1, .slice A0_2 l0_2.length c0_2] 26 (0, 0)) (by (with_reducible repeat (first | refine blk_drewN ?_ _ | refine blk_drew ?_ | refine blk_alloc ?_ _)); exact BK251.out)) : gb252 ≠ gb251)); clear HO0_2; clear BK251; clear HB; have HO0_2 := n0_; have BK251 := n1_; have HB := n2_; have BK252 := n3_; have GW252 := n4_; have GE252 := n5_; have NB251_252 := n6_; have NB252_251 := n7_; clear n0_ n1_ n2_ n3_ n4_ n5_ n6_ n7_; clear hb hbox hg; have hnb6 := NB251_252.out; have hnc6 := NB252_251.out; have hcz7_0 : w5.cell? ⟨gb251, 0, none⟩ = some (.int .i64 a0_0) := (blk_cell BK251.out 0).trans rfl; have hcz7_1 : w5.cell? ⟨gb251, 1, none⟩ = some (.int .i64 a0_1) := (blk_cell BK251.out 1).trans rfl; have hcz7_2 : w5.cell? ⟨gb251, 2, none⟩ = some (.slice A0_2 l0_2.length c0_2) := (blk_cell BK251.out 2).trans rfl; have hfz7_0 := blk_frozen BK251.out 0; have hfz7_1 := blk_frozen BK251.out 1; have hfz7_2 := blk_frozen BK251.out 2) | ((with_reducible refine gate_callee (f := 50) rfl ?_); refine goesL_ (some 5) rfl rfl Try.func50 (by kernel_rfl) rfl #[.agg #[.int .i64 a0_0, .int .i64 a0_1, .slice A0_2 l0_2.length c0_2]] rfl (by (try simp only [List.map_toArray, List.map_cons, List.map_nil]); first | done | rfl | (simp only [List.length_drop, List.length_take]; rfl)) ?_; (with_reducible refine (impl_ValidMatrix.calls k a0_0 a0_1 _ _ l0_2 true _ ?side1 ?side2 A2.out).mono ?_); (case side1 => repeat (first | exact (Kd.V_reads' HO0_2.out).2.2 | (with_reducible refine Kd.C_alloc ?_ _) | (with_reducible refine Kd.C_drewN ?_ _) | (with_reducible refine Kd.C_drew ?_))); (case side2 => exact (Kd.V_reads' HO0_2.out).2.1); rintro e w8 ⟨rfl, hb⟩; refine ⟨_, rfl, ?_⟩; have n0_ := Aside0.mk (Kd.V_below (by (with_reducible repeat (first | apply Kd.V_alloc | apply Kd.V_drewN | apply Kd.V_drew)); exact HO0_2.out) hb); have n1_ := Aside0.mk (blk_below (g := gb251) (o := .cells #[.int .i64 a0_0, .int .i64 a0_1, .slice A0_2 l0_2.length c0_2] 26 (0, 0)) (by (with_reducible repeat (first | refine blk_drewN ?_ _ | refine blk_drew ?_ | refine blk_alloc ?_ _)); exact BK251.out) hb); have n2_ := Aside0.mk (blk_below (g := gb252) (o := .cells #[.int .i64 0, .int .i64 0, .slice none 0 0] 26 (0, 0)) (by (with_reducible repeat (first | refine blk_drewN ?_ _ | refine blk_drew ?_ | refine blk_alloc ?_ _)); exact BK252.out) hb); have n3_ := Aside0.mk (below_step (by repeat (first | (with_reducible first | exact HB.out | apply below_alloc | apply pw_below_drewN | apply below_drew1 | refine below_set ?_ GE251.out | refine below_set ?_ GE252.out) | exact HB.out)) hb); clear HO0_2; clear BK251; clear BK252; clear HB; have HO0_2 := n0_; have BK251 := n1_; have BK252 := n2_; have HB := n3_; clear n0_ n1_ n2_ n3_; (try clear hb); (try clear hb2); (try clear hk); (try clear hi); have hcz9_0 : w8.cell? ⟨gb251, 0, none⟩ = some (.int .i64 a0_0) := (blk_cell BK251.out 0).trans rfl; have hcz9_1 : w8.cell? ⟨gb251, 1, none⟩ = some (.int .i64 a0_1) := (blk_cell BK251.out 1).trans rfl; have hcz9_2 : w8.cell? ⟨gb251, 2, none⟩ = some (.slice A0_2 l0_2.length c0_2) := (blk_cell BK251.out 2).trans rfl; have hfz9_0 := blk_frozen BK251.out 0; have hfz9_1 := blk_frozen BK251.out 1; have hfz9_2 := blk_frozen BK251.out 2; have hcz10_0 : w8.cell? ⟨gb252, 0, none⟩ = some (.int .i64 0) := (blk_cell BK252.out 0).trans rfl; have hcz10_1 : w8.cell? ⟨gb252, 1, none⟩ = some (.int .i64 0) := (blk_cell BK252.out 1).trans rfl; have hcz10_2 : w8.cell? ⟨gb252, 2, none⟩ = some (.slice none 0 0) := (blk_cell BK252.out 2).trans rfl; have hfz10_0 := blk_frozen BK252.out 0; have hfz10_1 := blk_frozen BK252.out 1; have hfz10_2 := blk_frozen BK252.out 2))
    refine bodyPost_ret (results_ct rfl _ _ gb252 26 #[.int .i64 a0_0, .int .i64 a0_1, .slice A0_2 l0_2.length c0_2] (0, 0) _ rfl (by (with_reducible repeat (first | refine blk_drewN ?_ _ | refine blk_drew ?_ | refine blk_alloc ?_ _)); refine blk_put (cs := #[.int .i64 a0_0, .int .i64 a0_1, .slice none 0 0]) ?_ 2 _ rfl; (with_reducible repeat (first | refine blk_drewN ?_ _ | refine blk_drew ?_ | refine blk_alloc ?_ _)); refine blk_put (cs := #[.int .i64 a0_0, .int .i64 0, .slice none 0 0]) ?_ 1 _ rfl; (with_reducible repeat (first | refine blk_drewN ?_ _ | refine blk_drew ?_ | refine blk_alloc ?_ _)); refine blk_put (cs := #[.int .i64 0, .int .i64 0, .slice none 0 0]) ?_ 0 _ rfl; (with_reducible repeat (first | refine blk_drewN ?_ _ | refine blk_drew ?_ | refine blk_alloc ?_ _)); exact BK252.out) Try.underlying26 rfl (by kernel_rfl)) rfl ?_
    exact ⟨_, by first | rfl | (simp [errW_none, errW_some] <;> rfl) | (simp [*, errW_none, errW_some] <;> rfl), by (with_reducible repeat (first | apply Kd.V_alloc | apply Kd.V_drewN | apply Kd.V_drew)); exact Kd.V_mono (Kd.V_far (p := ⟨gb252, 2, none⟩) (Kd.V_far (p := ⟨gb252, 1, none⟩) (Kd.V_far (p := ⟨gb252, 0, none⟩) (Kd.V_mono HO0_2.out (fun k_ hk => (⟨hk, hk.2⟩ : _ ∧ k_ ≠ gb252))) (fun _ hk => hk.2) (.int .i64 a0_0)) (fun _ hk => hk.2) (.int .i64 a0_1)) (fun _ hk => hk.2) (.slice A0_2 l0_2.length c0_2)) (fun _ hk => hk.1.1.1), by repeat (first | (with_reducible first | exact HB.out | apply below_alloc | apply pw_below_drewN | apply below_drew1 | refine below_set ?_ GE251.out | refine below_set ?_ GE252.out) | exact HB.out), by first | (simp; done) | exact Or.inl ⟨rfl, rfl⟩ | exact Or.inr ⟨rfl, rfl⟩⟩
  · replace c3 := Bool.eq_false_iff.mpr c3
    subst c3
    have H1 : (some (0, 0, ([] : List (List Int)), 3)) = some (r1, r2, r3, r4) := by rw [if_neg (show ¬ (false = true) by decide)] at H; exact H
    clear H
    have H := H1
    clear H1
    simp only [Option.some.injEq, Prod.mk.injEq] at H
    obtain ⟨rfl, rfl, rfl, rfl⟩ := H
    go_enter Try.func57, Try.ntmps57
    go_wp2_with (first | ((with_reducible refine gate_dst (N := 1) rfl ?_); refine box_event ?hg (N := 1) ?hd (cs := #[.int .i64 a0_0, .int .i64 a0_1, .slice A0_2 l0_2.length c0_2]) (t := 26) ?hr ?_; (case hd => rfl); (case hg => rfl); (case hr => first | (go_simp; done) | (go_simp; rfl)); intro gb251 hg w11 hbox hb; have n0_ := Aside0.mk (Kd.V_below (Kd.V_elderB (by (with_reducible repeat (first | apply Kd.V_alloc | apply Kd.V_drewN | apply Kd.V_drew)); exact HO0_2.out) gb251 (Nat.le_of_eq hg.symm)) hb); have n1_ := Aside0.mk (below_step (by repeat (first | (with_reducible first | exact HB.out | apply below_alloc | apply pw_below_drewN | apply below_drew1) | exact HB.out)) hb); have n2_ := Aside0.mk (hbox); have n3_ := Aside0.mk ((by rw [hg]; exact (below_size (by repeat (first | (with_reducible first | exact HB.out | apply below_alloc | apply pw_below_drewN | apply below_drew1) | exact HB.out))) : w.heap.size ≤ gb251)); have n4_ := Aside0.mk ((by rw [hg]; exact (below_size (by repeat (first | (with_reducible first | exact HB.out | apply below_alloc | apply pw_below_drewN | apply below_drew1) | exact HB.out))) : w.heap.size ≤ gb251)); clear HO0_2; clear HB; have HO0_2 := n0_; have HB := n1_; have BK251 := n2_; have GW251 := n3_; have GE251 := n4_; clear n0_ n1_ n2_ n3_ n4_; clear hb hbox hg) | ((with_reducible refine gate_dst (N := 2) rfl ?_); refine box_event ?hg (N := 2) ?hd (cs := #[.int .i64 0, .int .i64 0, .slice none 0 0]) (t := 26) ?hr ?_; (case hd => rfl); (case hg => rfl); (case hr => first | (go_simp; done) | (go_simp; rfl)); intro gb252 hg w12 hbox hb; have n0_ := Aside0.mk (Kd.V_below (Kd.V_elderB (by (with_reducible repeat (first | apply Kd.V_alloc | apply Kd.V_drewN | apply Kd.V_drew)); exact HO0_2.out) gb252 (Nat.le_of_eq hg.symm)) hb); have n1_ := Aside0.mk (blk_below (g := gb251) (o := .cells #[.int .i64 a0_0, .int .i64 a0_1, .slice A0_2 l0_2.length c0_2] 26 (0, 0)) (by (with_reducible repeat (first | refine blk_drewN ?_ _ | refine blk_drew ?_ | refine blk_alloc ?_ _)); exact BK251.out) hb); have n2_ := Aside0.mk (below_step (by repeat (first | (with_reducible first | exact HB.out | apply below_alloc | apply pw_below_drewN | apply below_drew1 | refine below_set ?_ GE251.out) | exact HB.out)) hb); have n3_ := Aside0.mk (hbox); have n4_ := Aside0.mk ((by rw [hg]; exact (below_size (by repeat (first | (with_reducible first | exact HB.out | apply below_alloc | apply pw_below_drewN | apply below_drew1 | refine below_set ?_ GE251.out) | exact HB.out))) : w.heap.size ≤ gb252)); have n5_ := Aside0.mk ((by rw [hg]; exact (below_size (by repeat (first | (with_reducible first | exact HB.out | apply below_alloc | apply pw_below_drewN | apply below_drew1 | refine below_set ?_ GE251.out) | exact HB.out))) : w.heap.size ≤ gb252)); have n6_ := Aside0.mk ((by rw [hg]; exact Nat.ne_of_lt (blk_lt (g := gb251) (o := .cells #[.int .i64 a0_0, .int .i64 a0_1, .slice A0_2 l0_2.length c0_2] 26 (0, 0)) (by (with_reducible repeat (first | refine blk_drewN ?_ _ | refine blk_drew ?_ | refine blk_alloc ?_ _)); exact BK251.out)) : gb251 ≠ gb252)); have n7_ := Aside0.mk ((by rw [hg]; exact Nat.ne_of_gt (blk_lt (g := gb251) (o := .cells #[.int .i64 a0_0, .int .i64 a0_1, .slice A0_2 l0_2.length c0_2] 26 (0, 0)) (by (with_reducible repeat (first | refine blk_drewN ?_ _ | refine blk_drew ?_ | refine blk_alloc ?_ _)); exact BK251.out)) : gb252 ≠ gb251)); clear HO0_2; clear BK251; clear HB; have HO0_2 := n0_; have BK251 := n1_; have HB := n2_; have BK252 := n3_; have GW252 := n4_; have GE252 := n5_; have NB251_252 := n6_; have NB252_251 := n7_; clear n0_ n1_ n2_ n3_ n4_ n5_ n6_ n7_; clear hb hbox hg; have hnb13 := NB251_252.out; have hnc13 := NB252_251.out; have hcz14_0 : w12.cell? ⟨gb251, 0, none⟩ = some (.int .i64 a0_0) := (blk_cell BK251.out 0).trans rfl; have hcz14_1 : w12.cell? ⟨gb251, 1, none⟩ = some (.int .i64 a0_1) := (blk_cell BK251.out 1).trans rfl; have hcz14_2 : w12.cell? ⟨gb251, 2, none⟩ = some (.slice A0_2 l0_2.length c0_2) := (blk_cell BK251.out 2).trans rfl; have hfz14_0 := blk_frozen BK251.out 0; have hfz14_1 := blk_frozen BK251.out 1; have hfz14_2 := blk_frozen BK251.out 2) | ((with_reducible refine gate_callee (f := 50) rfl ?_); refine goesL_ (some 5) rfl rfl Try.func50 (by kernel_rfl) rfl #[.agg #[.int .i64 a0_0, .int .i64 a0_1, .slice A0_2 l0_2.length c0_2]] rfl (by (try simp only [List.map_toArray, List.map_cons, List.map_nil]); first | done | rfl | (simp only [List.length_drop, List.length_take]; rfl)) ?_; (with_reducible refine (impl_ValidMatrix.calls k a0_0 a0_1 _ _ l0_2 false _ ?side1 ?side2 A2.out).mono ?_); (case side1 => repeat (first | exact (Kd.V_reads' HO0_2.out).2.2 | (with_reducible refine Kd.C_alloc ?_ _) | (with_reducible refine Kd.C_drewN ?_ _) | (with_reducible refine Kd.C_drew ?_))); (case side2 => exact (Kd.V_reads' HO0_2.out).2.1); rintro e w15 ⟨rfl, hb⟩; refine ⟨_, rfl, ?_⟩; have n0_ := Aside0.mk (Kd.V_below (by (with_reducible repeat (first | apply Kd.V_alloc | apply Kd.V_drewN | apply Kd.V_drew)); exact HO0_2.out) hb); have n1_ := Aside0.mk (blk_below (g := gb251) (o := .cells #[.int .i64 a0_0, .int .i64 a0_1, .slice A0_2 l0_2.length c0_2] 26 (0, 0)) (by (with_reducible repeat (first | refine blk_drewN ?_ _ | refine blk_drew ?_ | refine blk_alloc ?_ _)); exact BK251.out) hb); have n2_ := Aside0.mk (blk_below (g := gb252) (o := .cells #[.int .i64 0, .int .i64 0, .slice none 0 0] 26 (0, 0)) (by (with_reducible repeat (first | refine blk_drewN ?_ _ | refine blk_drew ?_ | refine blk_alloc ?_ _)); exact BK252.out) hb); have n3_ := Aside0.mk (below_step (by repeat (first | (with_reducible first | exact HB.out | apply below_alloc | apply pw_below_drewN | apply below_drew1 | refine below_set ?_ GE251.out | refine below_set ?_ GE252.out) | exact HB.out)) hb); clear HO0_2; clear BK251; clear BK252; clear HB; have HO0_2 := n0_; have BK251 := n1_; have BK252 := n2_; have HB := n3_; clear n0_ n1_ n2_ n3_; (try clear hb); (try clear hb2); (try clear hk); (try clear hi); have hcz16_0 : w15.cell? ⟨gb252, 0, none⟩ = some (.int .i64 0) := (blk_cell BK252.out 0).trans rfl; have hcz16_1 : w15.cell? ⟨gb252, 1, none⟩ = some (.int .i64 0) := (blk_cell BK252.out 1).trans rfl; have hcz16_2 : w15.cell? ⟨gb252, 2, none⟩ = some (.slice none 0 0) := (blk_cell BK252.out 2).trans rfl; have hfz16_0 := blk_frozen BK252.out 0; have hfz16_1 := blk_frozen BK252.out 1; have hfz16_2 := blk_frozen BK252.out 2))
    refine bodyPost_ret (results_ct rfl _ _ gb252 26 #[.int .i64 0, .int .i64 0, .slice none 0 0] (0, 0) _ rfl (by (with_reducible repeat (first | refine blk_drewN ?_ _ | refine blk_drew ?_ | refine blk_alloc ?_ _)); refine blk_put (cs := #[.int .i64 0, .int .i64 0, .slice none 0 0]) ?_ 2 _ rfl; (with_reducible repeat (first | refine blk_drewN ?_ _ | refine blk_drew ?_ | refine blk_alloc ?_ _)); refine blk_put (cs := #[.int .i64 0, .int .i64 0, .slice none 0 0]) ?_ 1 _ rfl; (with_reducible repeat (first | refine blk_drewN ?_ _ | refine blk_drew ?_ | refine blk_alloc ?_ _)); refine blk_put (cs := #[.int .i64 0, .int .i64 0, .slice none 0 0]) ?_ 0 _ rfl; (with_reducible repeat (first | refine blk_drewN ?_ _ | refine blk_drew ?_ | refine blk_alloc ?_ _)); exact BK252.out) Try.underlying26 rfl (by kernel_rfl)) rfl ?_
    exact ⟨_, by first | rfl | (simp [errW_none, errW_some] <;> rfl) | (simp [*, errW_none, errW_some] <;> rfl), Kd.V_nil _ _ _ _ _, by repeat (first | (with_reducible first | exact HB.out | apply below_alloc | apply pw_below_drewN | apply below_drew1 | refine below_set ?_ GE251.out | refine below_set ?_ GE252.out) | exact HB.out), by first | (simp; done) | exact Or.inl ⟨rfl, rfl⟩ | exact Or.inr ⟨rfl, rfl⟩⟩

end Go.Proofs.Ytjpbemomocccaaa.P

namespace Go.Proofs.Ytjpbemomocccaaa.P
open Go.RowKit Go.Proofs.YtjpbemomocccaaaW.PrintWords Go.Proofs.YtjpbemomocccaaaW.PrintLast Go.Proofs.YtjpbemomocccaaaW.PrintMore
attribute [local go_sem] max2_int min2_int max_two min_two max_three min_three max_four min_four
set_option linter.unusedVariables false
set_option linter.unusedSimpArgs false

/-- The columns of a matrix. -/
def colB (rows : List (List Int)) (c : Nat) : List Int := (List.range rows.length).map fun i => (grp rows i).getD c 0
def turnB (cols : Nat) (rows : List (List Int)) : List (List Int) := (List.range cols).map (colB rows)
theorem validMB_parts {p cols : Int} {rows : List (List Int)} (h : validMB p cols rows = true) : (2 ≤ p ∧ p ≤ 31) ∧ (0 ≤ cols ∧ cols ≤ 12) ∧ rows.length ≤ 20 ∧ (∀ i, i < rows.length → ((grp rows i).length : Int) = cols ∧ elemsB p (grp rows i) = true) := by
  unfold validMB at h
  simp only [Bool.and_eq_true, decide_eq_true_eq] at h
  refine ⟨primeB_range h.1, h.2.1, h.2.2.1, fun i hi => ?_⟩
  have := List.all_eq_true.mp h.2.2.2 rows[i] (List.getElem_mem hi)
  unfold rowB at this
  simp only [Bool.and_eq_true, decide_eq_true_eq] at this
  rw [show grp rows i = rows[i] from by simp [grp, hi]]
  exact this
theorem colB_length (rows : List (List Int)) (c : Nat) : (colB rows c).length = rows.length := by simp [colB]
theorem turnB_length (cols : Nat) (rows : List (List Int)) : (turnB cols rows).length = cols := by simp [turnB]
theorem turnB_rows {cols : Nat} {rows : List (List Int)} : ∀ r ∈ turnB cols rows, r.length = rows.length := fun r hr => by
  obtain ⟨c, _, rfl⟩ := List.mem_map.mp hr
  exact colB_length rows c
theorem spec_l03Turned_ev (p cols : Int) (rows : List (List Int)) (hc : 0 ≤ cols ∧ cols ≤ 12) (hl : rows.length ≤ 20) (hrow : ∀ i, i < rows.length → ((grp rows i).length : Int) = cols) : Ev (fun k => spec_l03Turned.f k p cols rows) (p, (rows.length : Int), turnB cols.toNat rows) := by
  unfold spec_l03Turned.f
  refine build_ev (l := fun k i acc => spec_l03Turned.l0 k i p cols rows p (rows.length : Int) acc) cols.toNat (colB rows) (fun i acc hi ha r hr => ?_) ?_
  · refine Ev.step (f := fun k => spec_l03Turned.l1 k (i : Int) [] 0 p cols rows p (rows.length : Int) acc) (fun k => ?_) ?_
    · simp only [spec_l03Turned.l0]
      rw [if_pos (by omega)]
    · refine build_ev (l := fun k j row => spec_l03Turned.l1 k (i : Int) row j p cols rows p (rows.length : Int) acc) rows.length (fun j => (grp rows j).getD i 0) (fun j row hj hrl r' hr' => ?_) ?_
      · have hlen := hrow j hj
        refine Ev.step (fun k => ?_) hr'
        simp only [spec_l03Turned.l1]
        rw [if_pos (by omega), if_pos (by omega), if_pos (by omega), rdL_grp rows j hj, if_pos (by omega), if_pos (by omega), rd_nat _ i (by omega), wr (by omega) (by omega), show (grp rows j).getD i 0 = (grp rows j)[i]'(by omega) from by rw [List.getD_eq_getElem?_getD, List.getElem?_eq_getElem (by omega)]; rfl]
        rfl
      · refine Ev.step (fun k => ?_) hr
        simp only [spec_l03Turned.l1]
        rw [if_neg (by omega), if_pos (by omega), wr (by omega) (by omega)]
        rfl
  · refine Ev.step (f := fun _ => some (p, (rows.length : Int), turnB cols.toNat rows)) (fun k => ?_) (Ev.now _)
    simp only [spec_l03Turned.l0]
    rw [if_neg (by omega)]
    rfl
def toldB (p cols : Int) (rows : List (List Int)) : Int × Int × List (List Int) × Int := if validMB p cols rows then (p, cols, rows, 0) else (0, 0, [], 3)
theorem spec_l03Told_ev (p cols : Int) (rows : List (List Int)) (hl : rows.length ≤ 4611686018427387904) (hr : ∀ r ∈ rows, r.length ≤ 4611686018427387904) : Ev (fun k => spec_l03Told.f k p cols rows) (toldB p cols rows) := by
  unfold spec_l03Told.f toldB
  refine Ev.bind (spec_l03Ok_ev p cols rows hl hr) ?_
  cases validMB p cols rows <;> exact Ev.now _
theorem impl_matrixOrLimit_ev (p cols : Int) (rows : List (List Int)) (hl : rows.length ≤ 4611686018427387904) (hr : ∀ r ∈ rows, r.length ≤ 4611686018427387904) : Ev (fun k => impl_matrixOrLimit.f k p cols rows) (toldB p cols rows) := by
  unfold impl_matrixOrLimit.f toldB
  refine Ev.bind (impl_ValidMatrix_ev p cols rows hl hr) ?_
  cases validMB p cols rows <;> exact Ev.now _
def transB (p cols : Int) (rows : List (List Int)) : Int × Int × List (List Int) × Int := if validMB p cols rows then toldB p (rows.length : Int) (turnB cols.toNat rows) else (0, 0, [], 1)
theorem sum_le_mul (l : List Nat) (m : Nat) (h : ∀ x ∈ l, x ≤ m) : l.sum ≤ l.length * m := by
  induction l with
  | nil => simp
  | cons a l ih =>
    have := ih (fun x hx => h x (List.mem_cons_of_mem _ hx))
    have := h a (List.mem_cons_self ..)
    rw [List.sum_cons, List.length_cons, Nat.succ_mul]
    omega
theorem validMB_small {p cols : Int} {rows : List (List Int)} (h : validMB p cols rows = true) : rows.length ≤ 20 ∧ (∀ r ∈ rows, r.length ≤ 12) ∧ allLen rows ≤ 240 := by
  obtain ⟨_, h2, h3, h4⟩ := validMB_parts h
  have hr : ∀ r ∈ rows, r.length ≤ 12 := fun r hr => by
    obtain ⟨i, hi, rfl⟩ := List.getElem_of_mem hr
    have := (h4 i hi).1
    rw [show grp rows i = rows[i] from by simp [grp, hi]] at this
    omega
  refine ⟨h3, hr, ?_⟩
  unfold allLen
  have := sum_le_mul (rows.map List.length) 12 (fun x hx => by obtain ⟨r, hr', rfl⟩ := List.mem_map.mp hx; exact hr r hr')
  rw [List.length_map] at this
  omega
theorem toldB_size (p cols : Int) (rows : List (List Int)) : ∃ a b c d, toldB p cols rows = (a, b, c, d) ∧ c.length ≤ 20 ∧ (∀ r ∈ c, r.length ≤ 12) ∧ allLen c ≤ 240 := by
  unfold toldB
  cases h : validMB p cols rows with
  | false => exact ⟨0, 0, [], 3, rfl, by simp, by simp, by simp [allLen]⟩
  | true => exact ⟨_, _, _, _, rfl, validMB_small h⟩

end Go.Proofs.Ytjpbemomocccaaa.P

namespace Go.Proofs.Ytjpbemomocccaaa.P
open Go.RowKit Go.Proofs.YtjpbemomocccaaaW.PrintWords Go.Proofs.YtjpbemomocccaaaW.PrintLast Go.Proofs.YtjpbemomocccaaaW.PrintMore
attribute [local go_sem] max2_int min2_int max_two min_two max_three min_three max_four min_four
set_option linter.unusedVariables false
set_option linter.unusedSimpArgs false

theorem map_grp (rows : List (List Int)) : ((List.range rows.length).map fun i => grp rows i) = rows := by
  refine List.ext_getElem (by simp) (fun i h1 h2 => ?_)
  simp [grp, h2]
theorem own_eq (l : List Int) (hl : l.length ≤ 1048576) : spec_l00Own.f l = some l := by
  unfold spec_l00Own.f
  simp only [Option.bind_some, List.length_nil, List.nil_append]
  rw [if_pos (by omega)]
theorem clone_eq (l : List Int) (hl : l.length ≤ 1048576) : slices_Clone_int64_int64.f l = some l := by
  unfold slices_Clone_int64_int64.f
  rw [if_pos (by omega)]

end Go.Proofs.Ytjpbemomocccaaa.P

namespace Go.Proofs.Ytjpbemomocccaaa.P
open Go.RowKit Go.Proofs.YtjpbemomocccaaaW.PrintWords Go.Proofs.YtjpbemomocccaaaW.PrintLast Go.Proofs.YtjpbemomocccaaaW.PrintMore
attribute [local go_sem] max2_int min2_int max_two min_two max_three min_three max_four min_four
set_option linter.unusedVariables false
set_option linter.unusedSimpArgs false

theorem rd_cast (xs : List Int) (i : Nat) : rd xs (i : Int) = xs.getD i 0 := by simp [rd]
theorem rdL_cast (gs : List (List Int)) (i : Nat) : rd_L1 gs (i : Int) = grp gs i := by simp [rd_L1, grp]
theorem getD_set {α : Type} (l : List α) (i j : Nat) (v d : α) (hi : i < l.length) : (l.set i v).getD j d = if j = i then v else l.getD j d := by
  rw [List.getD_eq_getElem?_getD, List.getD_eq_getElem?_getD, List.getElem?_set]
  by_cases h : j = i
  · subst h; rw [if_pos rfl, if_pos rfl, if_pos hi]; rfl
  · rw [if_neg (Ne.symm h), if_neg h]
theorem getD_map {α : Type} (n : Nat) (f : Nat → α) (j : Nat) (d : α) (hj : j < n) : ((List.range n).map f).getD j d = f j := by
  rw [List.getD_eq_getElem?_getD, List.getElem?_map, List.getElem?_range hj]; rfl
theorem list_of_getD {α : Type} (l : List α) (d : α) : (List.range l.length).map (fun j => l.getD j d) = l := by
  refine List.ext_getElem (by simp) fun i h1 h2 => ?_
  have : i < l.length := h2
  simp [List.getD_eq_getElem?_getD, this]
theorem list_eq_getD {α : Type} (d : α) {a b : List α} (hl : a.length = b.length) (h : ∀ i, i < a.length → a.getD i d = b.getD i d) : a = b := by
  refine List.ext_getElem hl fun i h1 h2 => ?_
  have := h i h1
  rwa [List.getD_eq_getElem?_getD, List.getD_eq_getElem?_getD, List.getElem?_eq_getElem h1, List.getElem?_eq_getElem h2] at this
/-- A loop that sets one place of a list after another. -/
theorem setloop_ev {α : Type} (d : α) {l : Nat → Int → List α → Option (List α)} (ys : List α) (f : Nat → α → α)
    (hgo : ∀ (i : Nat) (xs : List α), i < ys.length → xs.length = ys.length → (∀ j, j < ys.length → xs.getD j d = if j < i then f j (ys.getD j d) else ys.getD j d) → ∀ r, Ev (fun k => l k ((i + 1 : Nat) : Int) (xs.set i (f i (ys.getD i d)))) r → Ev (fun k => l k (i : Int) xs) r)
    (hend : ∀ xs, xs.length = ys.length → Ev (fun k => l k (ys.length : Int) xs) xs) : Ev (fun k => l k 0 ys) ((List.range ys.length).map fun j => f j (ys.getD j d)) := by
  have key : ∀ m i : Nat, i + m = ys.length → ∀ xs : List α, xs.length = ys.length → (∀ j, j < ys.length → xs.getD j d = if j < i then f j (ys.getD j d) else ys.getD j d) → Ev (fun k => l k (i : Int) xs) ((List.range ys.length).map fun j => f j (ys.getD j d)) := by
    intro m
    induction m with
    | zero =>
      intro i hi xs hx hj
      obtain rfl : i = ys.length := by omega
      have e : xs = (List.range ys.length).map fun j => f j (ys.getD j d) := by
        refine list_eq_getD d (by simp [hx]) fun j hjx => ?_
        rw [getD_map _ _ _ _ (by omega), hj j (by omega), if_pos (by omega)]
      have := hend xs hx
      rw [← e]
      exact this
    | succ m ih =>
      intro i hi xs hx hj
      refine hgo i xs (by omega) hx hj _ (ih (i + 1) (by omega) _ (by rw [List.length_set]; exact hx) fun j hjl => ?_)
      rw [getD_set _ _ _ _ _ (by omega)]
      by_cases h1 : j = i
      · subst h1; rw [if_pos rfl, if_pos (by omega)]
      · rw [if_neg h1, hj j hjl]
        by_cases h2 : j < i
        · rw [if_pos h2, if_pos (by omega)]
        · rw [if_neg h2, if_neg (by omega)]
  exact key ys.length 0 (by omega) ys rfl fun j _ => by rw [if_neg (by omega)]
/-- A list of C elements modulo p. -/
def RowP (p : Int) (C : Nat) (r : List Int) : Prop := r.length = C ∧ ∀ j, 0 ≤ r.getD j 0 ∧ r.getD j 0 ≤ p - 1
def MatP (p : Int) (C : Nat) (rows : List (List Int)) : Prop := ∀ i, i < rows.length → RowP p C (grp rows i)
theorem mod_range {p : Int} (hp : 2 ≤ p) (x : Int) : 0 ≤ x % p ∧ x % p ≤ p - 1 := ⟨Int.emod_nonneg _ (by omega), by have := Int.emod_lt_of_pos x (b := p) (by omega); omega⟩
theorem RowP_map {p : Int} (hp : 2 ≤ p) (C : Nat) (f : Nat → Int) (hf : ∀ j, j < C → 0 ≤ f j ∧ f j ≤ p - 1) : RowP p C ((List.range C).map f) := by
  refine ⟨by simp, fun j => ?_⟩
  by_cases h : j < C
  · rw [getD_map _ _ _ _ h]; exact hf j h
  · rw [List.getD_eq_getElem?_getD, List.getElem?_eq_none (by simp; omega)]
    show 0 ≤ (0 : Int) ∧ (0 : Int) ≤ p - 1
    omega
def timesB (p by_ : Int) (r : List Int) : List Int := (List.range r.length).map fun j => r.getD j 0 * by_ % p
def addB (p : Int) (u row : List Int) (t : Int) : List Int := (List.range u.length).map fun j => (u.getD j 0 + row.getD j 0 * t) % p
theorem timesB_row {p by_ : Int} {C : Nat} {r : List Int} (hp : 2 ≤ p) (h : RowP p C r) : RowP p C (timesB p by_ r) := by
  unfold timesB; rw [h.1]; exact RowP_map hp C _ fun j _ => mod_range hp _
theorem addB_row {p t : Int} {C : Nat} {r s : List Int} (hp : 2 ≤ p) (h : RowP p C r) : RowP p C (addB p r s t) := by
  unfold addB; rw [h.1]; exact RowP_map hp C _ fun j _ => mod_range hp _
theorem mul_le31 {p a b : Int} (hp : 2 ≤ p ∧ p ≤ 31) (ha : 0 ≤ a ∧ a ≤ p - 1) (hb : 0 ≤ b ∧ b ≤ p) : 0 ≤ a * b ∧ a * b ≤ 1000 := by
  refine ⟨Int.mul_nonneg ha.1 hb.1, ?_⟩
  have h1 : a * b ≤ 30 * b := Int.mul_le_mul_of_nonneg_right (by omega) hb.1
  omega
theorem impl_scaled_ev {p by_ : Int} {C : Nat} {r : List Int} (hp : 2 ≤ p ∧ p ≤ 31) (hC : C ≤ 1000) (h : RowP p C r) (hb : 0 ≤ by_ ∧ by_ ≤ p) : Ev (fun k => impl_scaled.f k p r by_) (timesB p by_ r) := by
  unfold impl_scaled.f timesB
  refine setloop_ev (0 : Int) (l := fun k i xs => impl_scaled.l0 k p xs by_ (r.length : Int) i) r (fun _ x => x * by_ % p) (fun i xs hi hx hj t ht => ?_) (fun xs hx => ?_)
  · have hl := h.1
    refine Ev.step (fun k => ?_) ht
    have hm := mul_le31 hp (h.2 i) hb
    have e := hj i hi
    rw [if_neg (by omega)] at e
    simp only [impl_scaled.l0]
    rw [if_pos (by omega), if_pos (by omega), if_pos (by omega), if_neg (by omega), rd_cast, e, wr (by omega) (by omega), Int.tmod_eq_emod_of_nonneg hm.1, wr (by omega) (by omega)]
    rfl
  · refine Ev.step (f := fun _ => some xs) (fun k => ?_) (Ev.now _)
    simp only [impl_scaled.l0]
    rw [if_neg (by omega)]
theorem spec_l03Times_ev {p by_ : Int} {C : Nat} {r : List Int} (hp : 2 ≤ p ∧ p ≤ 31) (hC : C ≤ 1000) (h : RowP p C r) (hb : 0 ≤ by_ ∧ by_ ≤ p) : Ev (fun k => spec_l03Times.f k p r by_) (timesB p by_ r) := by
  unfold spec_l03Times.f timesB
  refine setloop_ev (0 : Int) (l := fun k i xs => spec_l03Times.l0 k p xs by_ i) r (fun _ x => x * by_ % p) (fun i xs hi hx hj t ht => ?_) (fun xs hx => ?_)
  · have hl := h.1
    refine Ev.step (fun k => ?_) ht
    have hm := mul_le31 hp (h.2 i) hb
    have e := hj i hi
    rw [if_neg (by omega)] at e
    simp only [spec_l03Times.l0]
    rw [if_pos (by omega), if_pos (by omega), if_neg (by omega), rd_cast, e, wr (by omega) (by omega), Int.tmod_eq_emod_of_nonneg hm.1, wr (by omega) (by omega)]
    rfl
  · refine Ev.step (f := fun _ => some xs) (fun k => ?_) (Ev.now _)
    simp only [spec_l03Times.l0]
    rw [if_neg (by omega)]
theorem impl_takeOff_ev {p t : Int} {C : Nat} {r s : List Int} (hp : 2 ≤ p ∧ p ≤ 31) (hC : C ≤ 1000) (h : RowP p C r) (hs : RowP p C s) (ht : 0 ≤ t ∧ t ≤ p) : Ev (fun k => impl_takeOff.f k p r s t) (addB p r s (p - t)) := by
  unfold impl_takeOff.f addB
  have hl := h.1
  have hsl := hs.1
  refine setloop_ev (0 : Int) (l := fun k i xs => impl_takeOff.l0 k p xs t s (s.length : Int) i) r (fun j x => (x + s.getD j 0 * (p - t)) % p) (fun i xs hi hx hj q hq => ?_) (fun xs hx => ?_)
  · refine Ev.step (fun k => ?_) hq
    have hm := mul_le31 hp (hs.2 i) (b := p - t) (by omega)
    have hr := h.2 i
    have e := hj i hi
    rw [if_neg (by omega)] at e
    simp only [impl_takeOff.l0]
    rw [if_pos (by omega), if_pos (by omega), if_pos (by omega), if_pos (by omega), if_neg (by omega), rd_cast, rd_cast, e, wr (x := p - t) (by omega) (by omega), Int.mul_comm (p - t), wr (x := s.getD i 0 * (p - t)) (by omega) (by omega), wr (x := r.getD i 0 + _) (by omega) (by omega), Int.tmod_eq_emod_of_nonneg (by omega), wr (by omega) (by omega)]
    rfl
  · refine Ev.step (f := fun _ => some xs) (fun k => ?_) (Ev.now _)
    simp only [impl_takeOff.l0]
    rw [if_neg (by omega)]
theorem spec_l03Add_ev {p t : Int} {C : Nat} {r s : List Int} (hp : 2 ≤ p ∧ p ≤ 31) (hC : C ≤ 1000) (h : RowP p C r) (hs : RowP p C s) (ht : 0 ≤ t ∧ t ≤ p) : Ev (fun k => spec_l03Add.f k p r s t) (addB p r s t) := by
  unfold spec_l03Add.f addB
  have hl := h.1
  have hsl := hs.1
  refine setloop_ev (0 : Int) (l := fun k i xs => spec_l03Add.l0 k p xs s t i) r (fun j x => (x + s.getD j 0 * t) % p) (fun i xs hi hx hj q hq => ?_) (fun xs hx => ?_)
  · refine Ev.step (fun k => ?_) hq
    have hm := mul_le31 hp (hs.2 i) (b := t) (by omega)
    have hr := h.2 i
    have e := hj i hi
    rw [if_neg (by omega)] at e
    simp only [spec_l03Add.l0]
    rw [if_pos (by omega), if_pos (by omega), if_pos (by omega), if_neg (by omega), rd_cast, rd_cast, e, wr (x := s.getD i 0 * t) (by omega) (by omega), wr (x := r.getD i 0 + _) (by omega) (by omega), Int.tmod_eq_emod_of_nonneg (by omega), wr (by omega) (by omega)]
    rfl
  · refine Ev.step (f := fun _ => some xs) (fun k => ?_) (Ev.now _)
    simp only [spec_l03Add.l0]
    rw [if_neg (by omega)]
/-- The first row from a on whose element c is not 0; the number of rows where there is none. -/
def findN (rows : List (List Int)) (c a : Nat) : Nat := a + (rows.drop a).findIdx (fun r => r.getD c 0 != 0)
theorem findN_here {rows : List (List Int)} {c a : Nat} (ha : a < rows.length) (h : (grp rows a).getD c 0 ≠ 0) : findN rows c a = a := by
  unfold findN
  rw [List.drop_eq_getElem_cons ha, List.findIdx_cons]
  have : (rows[a].getD c 0 != 0) = true := by rw [show rows[a] = grp rows a from by simp [grp, ha]]; exact bne_iff_ne.mpr h
  rw [this]; rfl
theorem findN_next {rows : List (List Int)} {c a : Nat} (ha : a < rows.length) (h : (grp rows a).getD c 0 = 0) : findN rows c a = findN rows c (a + 1) := by
  unfold findN
  rw [List.drop_eq_getElem_cons ha, List.findIdx_cons]
  have : (rows[a].getD c 0 != 0) = false := by rw [show rows[a] = grp rows a from by simp [grp, ha], h]; rfl
  rw [this]
  simp only [cond_false]
  omega
theorem findN_end {rows : List (List Int)} {c a : Nat} (ha : rows.length ≤ a) : findN rows c a = a := by
  unfold findN
  rw [List.drop_eq_nil_of_le ha]; rfl
theorem findN_le {rows : List (List Int)} {c : Nat} : ∀ (d a : Nat), a + d = rows.length → a ≤ findN rows c a ∧ findN rows c a ≤ rows.length ∧ (findN rows c a < rows.length → (grp rows (findN rows c a)).getD c 0 ≠ 0) ∧ ∀ j, a ≤ j → j < findN rows c a → (grp rows j).getD c 0 = 0 := by
  intro d
  induction d with
  | zero =>
    intro a ha
    rw [findN_end (by omega)]
    exact ⟨Nat.le_refl _, by omega, fun h => by omega, fun j h1 h2 => by omega⟩
  | succ d ih =>
    intro a ha
    by_cases h : (grp rows a).getD c 0 = 0
    · rw [findN_next (by omega) h]
      obtain ⟨h1, h2, h3, h4⟩ := ih (a + 1) (by omega)
      refine ⟨by omega, h2, h3, fun j hj hj2 => ?_⟩
      by_cases e : j = a
      · rw [e]; exact h
      · exact h4 j (by omega) hj2
    · rw [findN_here (by omega) h]
      exact ⟨Nat.le_refl _, by omega, fun _ => h, fun j h1 h2 => by omega⟩
theorem findB_ev {p : Int} {C c : Nat} {rows : List (List Int)} (hM : MatP p C rows) (hc : c < C) (hl : rows.length ≤ 1000) : ∀ (d a : Nat), a + d = rows.length → Ev (fun k => findB k rows (c : Int) (a : Int)) ((findN rows c a : Nat) : Int) := by
  intro d
  induction d with
  | zero =>
    intro a ha
    rw [findN_end (by omega)]
    refine Ev.step (f := fun _ => some (a : Int)) (fun k => ?_) (Ev.now _)
    simp only [findB]
    rw [if_neg (by omega)]
  | succ d ih =>
    intro a ha
    have hr := (hM a (by omega)).1
    by_cases h : (grp rows a).getD c 0 = 0
    · rw [findN_next (by omega) h]
      refine Ev.step (fun k => ?_) (ih (a + 1) (by omega))
      simp only [findB]
      rw [if_pos (by omega), if_pos (by omega), if_pos (by omega), rdL_cast, if_pos (by omega), rd_cast, if_pos h, wr (by omega) (by omega)]
      rfl
    · rw [findN_here (by omega) h]
      refine Ev.step (f := fun _ => some (a : Int)) (fun k => ?_) (Ev.now _)
      simp only [findB]
      rw [if_pos (by omega), if_pos (by omega), if_pos (by omega), rdL_cast, if_pos (by omega), rd_cast, if_neg h]
theorem swapB_grp {rows : List (List Int)} {n a : Nat} (hn : n < rows.length) (ha : a < rows.length) (j : Nat) : grp (swapB rows n a) j = if j = a then grp rows n else if j = n then grp rows a else grp rows j := by
  unfold swapB grp
  rw [getD_set _ _ _ _ _ (by rw [List.length_set]; exact ha), getD_set _ _ _ _ _ hn, rdL_cast, rdL_cast]
  rfl
theorem swapB_length (rows : List (List Int)) (n a : Nat) : (swapB rows n a).length = rows.length := by simp [swapB]
theorem swapB_comm {rows : List (List Int)} {n a : Nat} (hn : n < rows.length) (ha : a < rows.length) : swapB rows a n = swapB rows n a := by
  refine list_eq_getD [] (by simp [swapB]) fun j _ => ?_
  show grp (swapB rows a n) j = grp (swapB rows n a) j
  rw [swapB_grp ha hn, swapB_grp hn ha]
  by_cases h1 : j = n
  · subst h1
    by_cases h2 : j = a
    · subst h2; rfl
    · rw [if_pos rfl, if_neg h2, if_pos rfl]
  · by_cases h2 : j = a
    · subst h2; rw [if_neg h1, if_pos rfl, if_pos rfl]
    · rw [if_neg h1, if_neg h2, if_neg h2, if_neg h1]
def elimB (p : Int) (c n : Nat) (rows : List (List Int)) : List (List Int) := (List.range rows.length).map fun i => if i = n then grp rows i else addB p (grp rows i) (grp rows n) (p - (grp rows i).getD c 0)
theorem addB_p {p : Int} {C : Nat} {r s : List Int} (hp : 2 ≤ p) (h : RowP p C r) : addB p r s p = r := by
  refine list_eq_getD 0 (by simp [addB]) fun j hj => ?_
  unfold addB
  rw [getD_map _ _ _ _ (by simpa [addB] using hj), Int.add_mul_emod_self_right]
  have := h.2 j
  exact Int.emod_eq_of_lt this.1 (by omega)
theorem impl_elim_ev {p : Int} {C c n : Nat} {rows : List (List Int)} (hp : 2 ≤ p ∧ p ≤ 31) (hC : C ≤ 1000) (hl : rows.length ≤ 1000) (hM : MatP p C rows) (hc : c < C) (hn : n < rows.length) :
    Ev (fun k => impl_Matrix_echelon.l2 k p (c : Int) (n : Int) rows 0) (elimB p c n rows) := by
  unfold elimB
  refine setloop_ev ([] : List Int) (l := fun k i xs => impl_Matrix_echelon.l2 k p (c : Int) (n : Int) xs i) rows (fun i x => if i = n then x else addB p x (grp rows n) (p - x.getD c 0)) (fun i xs hi hx hj q hq => ?_) (fun xs hx => ?_)
  · have hr := hM i hi
    have hrn := hM n hn
    have e : grp xs i = grp rows i := by
      have := hj i hi
      rw [if_neg (by omega)] at this
      exact this
    have en : grp xs n = grp rows n := by
      have h2 := hj n hn
      have h3 : (if n < i then (if n = n then rows.getD n [] else addB p (rows.getD n []) (grp rows n) (p - (rows.getD n []).getD c 0)) else rows.getD n []) = rows.getD n [] := by split <;> simp
      exact h2.trans h3
    by_cases hin : i = n
    · subst hin
      have hset : xs.set i (if i = i then rows.getD i [] else addB p (rows.getD i []) (grp rows i) (p - (rows.getD i []).getD c 0)) = xs := by
        rw [if_pos rfl]
        refine list_eq_getD [] (by simp) fun j _ => ?_
        rw [getD_set _ _ _ _ _ (by omega)]
        by_cases h1 : j = i
        · subst h1; rw [if_pos rfl]; exact e.symm
        · rw [if_neg h1]
      rw [hset] at hq
      refine Ev.step (fun k => ?_) hq
      simp only [impl_Matrix_echelon.l2]
      rw [if_pos (by omega), if_pos (by omega), if_pos trivial, wr (by omega) (by omega)]
      rfl
    · refine Ev.step (f := fun k => (impl_takeOff.f k p (grp rows i) (grp rows n) ((grp rows i).getD c 0)).bind fun t => impl_Matrix_echelon.l2 k p (c : Int) (n : Int) (xs.set i t) ((i + 1 : Nat) : Int)) (fun k => ?_) (Ev.bind (impl_takeOff_ev hp hC hr hrn (by have := hr.2 c; omega)) ?_)
      · have h1 := hr.1
        simp only [impl_Matrix_echelon.l2]
        rw [if_pos (by omega), if_pos (by omega), if_neg (by omega), if_pos (by omega), if_pos (by omega), if_pos (by omega), rdL_cast, rdL_cast, e, en, if_pos (by omega), rd_cast, wr (by omega) (by omega)]
        rfl
      · rw [if_neg hin] at hq
        exact hq
  · refine Ev.step (f := fun _ => some xs) (fun k => ?_) (Ev.now _)
    simp only [impl_Matrix_echelon.l2]
    rw [if_neg (by omega)]
theorem spec_elim_ev {p : Int} {C c n : Nat} {rows : List (List Int)} (hp : 2 ≤ p ∧ p ≤ 31) (hC : C ≤ 1000) (hl : rows.length ≤ 1000) (hM : MatP p C rows) (hc : c < C) (hn : n < rows.length) :
    Ev (fun k => spec_l03Echelon.l2 k p (c : Int) (n : Int) rows 0) (elimB p c n rows) := by
  unfold elimB
  refine setloop_ev ([] : List Int) (l := fun k i xs => spec_l03Echelon.l2 k p (c : Int) (n : Int) xs i) rows (fun i x => if i = n then x else addB p x (grp rows n) (p - x.getD c 0)) (fun i xs hi hx hj q hq => ?_) (fun xs hx => ?_)
  · have hr := hM i hi
    have hrn := hM n hn
    have e : grp xs i = grp rows i := by
      have := hj i hi
      rw [if_neg (by omega)] at this
      exact this
    have en : grp xs n = grp rows n := by
      have h2 := hj n hn
      have h3 : (if n < i then (if n = n then rows.getD n [] else addB p (rows.getD n []) (grp rows n) (p - (rows.getD n []).getD c 0)) else rows.getD n []) = rows.getD n [] := by split <;> simp
      exact h2.trans h3
    have same : ∀ v, v = grp rows i → xs.set i v = xs := by
      rintro v rfl
      refine list_eq_getD [] (by simp) fun j _ => ?_
      rw [getD_set _ _ _ _ _ (by omega)]
      by_cases h1 : j = i
      · subst h1; rw [if_pos rfl]; exact e.symm
      · rw [if_neg h1]
    by_cases hin : i = n
    · subst hin
      rw [same _ (by rw [if_pos rfl]; rfl)] at hq
      refine Ev.step (fun k => ?_) hq
      simp only [spec_l03Echelon.l2]
      rw [if_pos (by omega), if_pos (by omega), if_pos trivial, wr (by omega) (by omega)]
      rfl
    · have h1 := hr.1
      by_cases h0 : (grp rows i).getD c 0 = 0
      · rw [same _ (by rw [if_neg hin]; show addB p (grp rows i) (grp rows n) (p - (grp rows i).getD c 0) = _; rw [h0, Int.sub_zero]; exact addB_p hp.1 hr)] at hq
        refine Ev.step (fun k => ?_) hq
        simp only [spec_l03Echelon.l2]
        rw [if_pos (by omega), if_pos (by omega), if_neg (by omega), if_pos (by omega), rdL_cast, e, if_pos (by omega), rd_cast, if_pos h0, wr (by omega) (by omega)]
        rfl
      · refine Ev.step (f := fun k => (spec_l03Add.f k p (grp rows i) (grp rows n) (p - (grp rows i).getD c 0)).bind fun t => spec_l03Echelon.l2 k p (c : Int) (n : Int) (xs.set i t) ((i + 1 : Nat) : Int)) (fun k => ?_) (Ev.bind (spec_l03Add_ev hp hC hr hrn (by have := hr.2 c; omega)) ?_)
        · have h2 := hr.2 c
          simp only [spec_l03Echelon.l2]
          rw [if_pos (by omega), if_pos (by omega), if_neg (by omega), if_pos (by omega), rdL_cast, rdL_cast, e, en, if_pos (by omega), rd_cast, if_neg h0, if_pos (by omega), if_pos (by omega), wr (x := p - _) (by omega) (by omega), wr (by omega) (by omega)]
          rfl
        · rw [if_neg hin] at hq
          exact hq
  · refine Ev.step (f := fun _ => some xs) (fun k => ?_) (Ev.now _)
    simp only [spec_l03Echelon.l2]
    rw [if_neg (by omega)]

end Go.Proofs.Ytjpbemomocccaaa.P

namespace Go.Proofs.Ytjpbemomocccaaa.P
open Go.RowKit Go.Proofs.YtjpbemomocccaaaW.PrintWords Go.Proofs.YtjpbemomocccaaaW.PrintLast Go.Proofs.YtjpbemomocccaaaW.PrintMore
attribute [local go_sem] max2_int min2_int max_two min_two max_three min_three max_four min_four
set_option linter.unusedVariables false
set_option linter.unusedSimpArgs false

/-- One column of the echelon. -/
def stepB (p : Int) (s : List (List Int) × List Int) (c : Nat) : List (List Int) × List Int :=
  if findN s.1 c s.2.length < s.1.length then
    (elimB p c s.2.length ((swapB s.1 s.2.length (findN s.1 c s.2.length)).set s.2.length (timesB p (invB p ((grp s.1 (findN s.1 c s.2.length)).getD c 0)) (grp s.1 (findN s.1 c s.2.length)))), s.2 ++ [(c : Int)])
  else s
/-- The rows and the columns of their first elements, behind all columns; the rows beyond these columns' number are still there. -/
def fullB (p : Int) (C : Nat) (rows : List (List Int)) : List (List Int) × List Int := (List.range C).foldl (stepB p) (rows, [])
structure EchP (p : Int) (C : Nat) (s : List (List Int) × List Int) : Prop where
  mat : MatP p C s.1
  le : s.2.length ≤ s.1.length
  rl : s.1.length ≤ 1000
theorem elimB_length (p : Int) (c n : Nat) (rows : List (List Int)) : (elimB p c n rows).length = rows.length := by simp [elimB]
theorem elimB_grp {p : Int} {c n : Nat} {rows : List (List Int)} {i : Nat} (hi : i < rows.length) : grp (elimB p c n rows) i = if i = n then grp rows i else addB p (grp rows i) (grp rows n) (p - (grp rows i).getD c 0) := by
  unfold elimB
  show ((List.range rows.length).map _).getD i [] = _
  rw [getD_map _ _ _ _ hi]
theorem elimB_mat {p : Int} {C c n : Nat} {rows : List (List Int)} (hp : 2 ≤ p) (h : MatP p C rows) : MatP p C (elimB p c n rows) := by
  intro i hi
  rw [elimB_length] at hi
  rw [elimB_grp hi]
  split
  · exact h i hi
  · exact addB_row hp (h i hi)
theorem set_mat {p : Int} {C n : Nat} {rows : List (List Int)} {r : List Int} (h : MatP p C rows) (hn : n < rows.length) (hr : RowP p C r) : MatP p C (rows.set n r) := by
  intro i hi
  rw [List.length_set] at hi
  show RowP p C ((rows.set n r).getD i [])
  rw [getD_set _ _ _ _ _ hn]
  split
  · exact hr
  · exact h i hi
theorem swap_mat {p : Int} {C n a : Nat} {rows : List (List Int)} (h : MatP p C rows) (hn : n < rows.length) (ha : a < rows.length) : MatP p C (swapB rows n a) := by
  intro i hi
  rw [swapB_length] at hi
  rw [swapB_grp hn ha]
  split
  · exact h n hn
  · split
    · exact h a ha
    · exact h i hi
theorem step_ech {p : Int} {C : Nat} {s : List (List Int) × List Int} (hp : 2 ≤ p) (h : EchP p C s) (c : Nat) : EchP p C (stepB p s c) := by
  unfold stepB
  by_cases ha : findN s.1 c s.2.length < s.1.length
  · have hle := (findN_le (rows := s.1) (c := c) (s.1.length - s.2.length) s.2.length (by have := h.le; omega)).1
    have hn : s.2.length < s.1.length := by omega
    rw [if_pos ha]
    refine ⟨elimB_mat hp (set_mat (swap_mat h.mat hn ha) (by rw [swapB_length]; exact hn) (timesB_row hp (h.mat _ ha))), ?_, ?_⟩
    · simp only [elimB_length, List.length_set, swapB_length, List.length_append, List.length_singleton]; omega
    · simp only [elimB_length, List.length_set, swapB_length]; exact h.rl
  · rw [if_neg ha]; exact h
theorem step_length (p : Int) (s : List (List Int) × List Int) (c : Nat) : (stepB p s c).1.length = s.1.length := by
  unfold stepB
  split
  · simp [elimB_length, swapB_length]
  · rfl
theorem invB_range {p a : Int} (hp : 2 ≤ p) : 0 ≤ invB p a ∧ invB p a ≤ p - 1 := pw_range hp _
theorem impl_ech_loop {p : Int} {C : Nat} (hp : 2 ≤ p ∧ p ≤ 31) (hC : C ≤ 1000) : ∀ (d c : Nat) (s : List (List Int) × List Int), c + d = C → EchP p C s → Ev (fun k => impl_Matrix_echelon.l0 k p (C : Int) s.1 s.2 (c : Int)) ((List.range' c d).foldl (stepB p) s) := by
  intro d
  induction d with
  | zero =>
    intro c s hc h
    refine Ev.step (f := fun _ => some (s.1, s.2)) (fun k => ?_) (Ev.now _)
    simp only [impl_Matrix_echelon.l0]
    rw [if_neg (by omega)]
  | succ d ih =>
    intro c s hc h
    have hn := ih (c + 1) (stepB p s c) (by omega) (step_ech hp.1 h c)
    rw [List.range'_succ, List.foldl_cons]
    obtain ⟨g1, g2, g3, g4⟩ := findN_le (rows := s.1) (c := c) (s.1.length - s.2.length) s.2.length (by have := h.le; omega)
    have hrl := h.rl
    refine Ev.step (f := fun k => (findB k s.1 (c : Int) (s.2.length : Int)).bind fun a => if a = (s.1.length : Int) then impl_Matrix_echelon.l0 k p (C : Int) s.1 s.2 ((c + 1 : Nat) : Int) else (if 0 ≤ a then (if a < (s.1.length : Int) then (if (s.2.length : Int) < (s.1.length : Int) then (if 0 ≤ (c : Int) then (if (c : Int) < ((rd_L1 (swapB s.1 s.2.length a.toNat) (s.2.length : Int)).length : Int) then ((impl_inverse.f k p (rd (rd_L1 (swapB s.1 s.2.length a.toNat) (s.2.length : Int)) (c : Int))).bind fun inv => ((impl_scaled.f k p (rd_L1 (swapB s.1 s.2.length a.toNat) (s.2.length : Int)) inv).bind fun r => ((impl_Matrix_echelon.l2 k p (c : Int) (s.2.length : Int) ((swapB s.1 s.2.length a.toNat).set s.2.length r) 0).bind fun rows2 => if s.2.length < 17592186044416 then impl_Matrix_echelon.l0 k p (C : Int) rows2 (s.2 ++ [(c : Int)]) ((c + 1 : Nat) : Int) else none))) else none) else none) else none) else none) else none)) (fun k => ?_) ?_
    · simp only [impl_Matrix_echelon.l0]
      rw [if_pos (by omega), wr (x := (c : Int) + 1) (by omega) (by omega)]
      rfl
    · refine Ev.bind (findB_ev h.mat (by omega) hrl (s.1.length - s.2.length) s.2.length (by have := h.le; omega)) ?_
      by_cases ha : findN s.1 c s.2.length < s.1.length
      · have hlt : s.2.length < s.1.length := by omega
        have hra := h.mat _ ha
        have e1 : grp (swapB s.1 s.2.length (findN s.1 c s.2.length)) s.2.length = grp s.1 (findN s.1 c s.2.length) := by
          rw [swapB_grp hlt ha]
          split
          · rename_i e; rw [← e]
          · rw [if_pos rfl]
        have hl := hra.1
        simp only [if_neg (show ¬ ((findN s.1 c s.2.length : Nat) : Int) = (s.1.length : Int) by omega), if_pos (show (0 : Int) ≤ ((findN s.1 c s.2.length : Nat) : Int) by omega), if_pos (show ((findN s.1 c s.2.length : Nat) : Int) < (s.1.length : Int) by omega), if_pos (show (s.2.length : Int) < (s.1.length : Int) by omega), if_pos (show (0 : Int) ≤ (c : Int) by omega), Int.toNat_natCast, rdL_cast, e1, rd_cast, if_pos (show (c : Int) < ((grp s.1 (findN s.1 c s.2.length)).length : Int) by omega), if_pos (show s.2.length < 17592186044416 by omega)]
        refine Ev.bind (impl_inverse_ev p _ hp (hra.2 c)) (Ev.bind (impl_scaled_ev hp hC hra (by have := invB_range (a := (grp s.1 (findN s.1 c s.2.length)).getD c 0) hp.1; unfold invB at *; omega)) (Ev.bind (impl_elim_ev hp hC (by rw [List.length_set, swapB_length]; exact hrl) (set_mat (swap_mat h.mat hlt ha) (by rw [swapB_length]; exact hlt) (timesB_row hp.1 hra)) (by omega) (by rw [List.length_set, swapB_length]; exact hlt)) ?_))
        unfold stepB at hn ⊢
        rw [if_pos ha] at hn ⊢
        exact hn
      · simp only [if_pos (show ((findN s.1 c s.2.length : Nat) : Int) = (s.1.length : Int) by omega)]
        unfold stepB at hn ⊢
        rw [if_neg ha] at hn ⊢
        exact hn
theorem step_full {p : Int} {s : List (List Int) × List Int} (h : s.1.length ≤ s.2.length) (c : Nat) : stepB p s c = s := by
  unfold stepB
  rw [findN_end h, if_neg (by omega)]
theorem foldl_full {p : Int} {s : List (List Int) × List Int} (h : s.1.length ≤ s.2.length) : ∀ l : List Nat, l.foldl (stepB p) s = s := by
  intro l
  induction l with
  | nil => rfl
  | cons c l ih => rw [List.foldl_cons, step_full h, ih]
theorem spec_ech_loop {p : Int} {C : Nat} (hp : 2 ≤ p ∧ p ≤ 31) (hC : C ≤ 1000) : ∀ (d c : Nat) (s : List (List Int) × List Int), c + d = C → EchP p C s → Ev (fun k => spec_l03Echelon.l0 k p (C : Int) s.1 s.2 (s.2.length : Int) (c : Int)) (((List.range' c d).foldl (stepB p) s).1, ((List.range' c d).foldl (stepB p) s).2, (((List.range' c d).foldl (stepB p) s).2.length : Int)) := by
  intro d
  induction d with
  | zero =>
    intro c s hc h
    refine Ev.step (f := fun _ => some (s.1, s.2, (s.2.length : Int))) (fun k => ?_) (Ev.now _)
    simp only [spec_l03Echelon.l0]
    rw [if_neg (by omega)]
  | succ d ih =>
    intro c s hc h
    by_cases hful : s.1.length ≤ s.2.length
    · rw [foldl_full hful]
      refine Ev.step (f := fun _ => some (s.1, s.2, (s.2.length : Int))) (fun k => ?_) (Ev.now _)
      simp only [spec_l03Echelon.l0]
      rw [if_pos (by omega), if_neg (by omega)]
    have hlt : s.2.length < s.1.length := by omega
    have hn := ih (c + 1) (stepB p s c) (by omega) (step_ech hp.1 h c)
    rw [List.range'_succ, List.foldl_cons]
    obtain ⟨g1, g2, g3, g4⟩ := findN_le (rows := s.1) (c := c) (s.1.length - s.2.length) s.2.length (by have := h.le; omega)
    have hrl := h.rl
    refine Ev.step (f := fun k => (findB k s.1 (c : Int) (s.2.length : Int)).bind fun a => if a = (s.1.length : Int) then spec_l03Echelon.l0 k p (C : Int) s.1 s.2 (s.2.length : Int) ((c + 1 : Nat) : Int) else (if 0 ≤ a then (if a < (s.1.length : Int) then (if 0 ≤ (s.2.length : Int) then (if 0 ≤ (c : Int) then (if (c : Int) < ((rd_L1 s.1 a).length : Int) then ((spec_l03Inverse.f k p (rd (rd_L1 s.1 a) (c : Int))).bind fun inv => ((spec_l03Times.f k p (rd_L1 s.1 a) inv).bind fun r => ((spec_l03Echelon.l2 k p (c : Int) (s.2.length : Int) ((swapB s.1 a.toNat (s.2.length : Int).toNat).set (s.2.length : Int).toNat r) 0).bind fun rows2 => if s.2.length < 17592186044416 then spec_l03Echelon.l0 k p (C : Int) rows2 (s.2 ++ [(c : Int)]) (wrap64 ((s.2.length : Int) + 1)) ((c + 1 : Nat) : Int) else none))) else none) else none) else none) else none) else none)) (fun k => ?_) ?_
    · simp only [spec_l03Echelon.l0]
      rw [if_pos (by omega), if_pos (by omega), wr (x := (c : Int) + 1) (by omega) (by omega)]
      rfl
    · refine Ev.bind (findB_ev h.mat (by omega) hrl (s.1.length - s.2.length) s.2.length (by have := h.le; omega)) ?_
      by_cases ha : findN s.1 c s.2.length < s.1.length
      · have hra := h.mat _ ha
        have hl := hra.1
        simp only [if_neg (show ¬ ((findN s.1 c s.2.length : Nat) : Int) = (s.1.length : Int) by omega), if_pos (show (0 : Int) ≤ ((findN s.1 c s.2.length : Nat) : Int) by omega), if_pos (show ((findN s.1 c s.2.length : Nat) : Int) < (s.1.length : Int) by omega), if_pos (show (0 : Int) ≤ (s.2.length : Int) by omega), if_pos (show (0 : Int) ≤ (c : Int) by omega), Int.toNat_natCast, rdL_cast, rd_cast, if_pos (show (c : Int) < ((grp s.1 (findN s.1 c s.2.length)).length : Int) by omega), if_pos (show s.2.length < 17592186044416 by omega), swapB_comm hlt ha, wr (x := (s.2.length : Int) + 1) (by omega) (by omega)]
        refine Ev.bind (spec_inverse_ev p _ hp (hra.2 c)) (Ev.bind (spec_l03Times_ev hp hC hra (by have := invB_range (a := (grp s.1 (findN s.1 c s.2.length)).getD c 0) hp.1; unfold invB at *; omega)) (Ev.bind (spec_elim_ev hp hC (by rw [List.length_set, swapB_length]; exact hrl) (set_mat (swap_mat h.mat hlt ha) (by rw [swapB_length]; exact hlt) (timesB_row hp.1 hra)) (by omega) (by rw [List.length_set, swapB_length]; exact hlt)) ?_))
        unfold stepB at hn ⊢
        rw [if_pos ha] at hn ⊢
        simp only [List.length_append, List.length_singleton] at hn
        exact hn
      · simp only [if_pos (show ((findN s.1 c s.2.length : Nat) : Int) = (s.1.length : Int) by omega)]
        unfold stepB at hn ⊢
        rw [if_neg ha] at hn ⊢
        exact hn
theorem fold_ech {p : Int} {C : Nat} (hp : 2 ≤ p) : ∀ (l : List Nat) (s : List (List Int) × List Int), EchP p C s → EchP p C (l.foldl (stepB p) s) ∧ (l.foldl (stepB p) s).1.length = s.1.length := by
  intro l
  induction l with
  | nil => intro s h; exact ⟨h, rfl⟩
  | cons c l ih =>
    intro s h
    obtain ⟨h1, h2⟩ := ih (stepB p s c) (step_ech hp h c)
    exact ⟨h1, h2.trans (step_length p s c)⟩
theorem full_ech {p : Int} {C : Nat} {rows : List (List Int)} (hp : 2 ≤ p) (hM : MatP p C rows) (hl : rows.length ≤ 1000) : EchP p C (fullB p C rows) ∧ (fullB p C rows).1.length = rows.length := fold_ech hp _ _ ⟨hM, Nat.zero_le _, hl⟩
/-- The echelon's rows and the columns of their first elements. -/
def echB (p : Int) (C : Nat) (rows : List (List Int)) : List (List Int) × List Int := ((fullB p C rows).1.take (fullB p C rows).2.length, (fullB p C rows).2)
theorem copies_same (rows : List (List Int)) : (List.range rows.length).map (fun i => grp rows i) = rows := list_of_getD rows []
theorem impl_copyRows_ev (rows : List (List Int)) (hl : rows.length ≤ 1048576) (hr : ∀ r ∈ rows, r.length ≤ 1048576) : Ev (fun k => impl_copyRows.f k rows) rows := by
  unfold impl_copyRows.f
  refine build_ev (l := fun k i acc => impl_copyRows.l0 k acc rows (rows.length : Int) i) rows.length (fun i => grp rows i) (fun i acc hi ha r hr2 => ?_) ?_
  · refine Ev.step (fun k => ?_) hr2
    simp only [impl_copyRows.l0]
    rw [if_pos (by omega), if_pos (by omega), if_pos (by omega), rdL_cast, clone_eq _ (grp_len hr _), wr (by omega) (by omega)]
    simp only [Option.bind_some, if_pos (show acc.length < 5864062014805 by omega)]
    rfl
  · refine Ev.step (f := fun _ => some rows) (fun k => ?_) (Ev.now _)
    simp only [impl_copyRows.l0]
    rw [if_neg (by omega), copies_same]
theorem spec_l03Copy_ev (p c : Int) (rows : List (List Int)) (hl : rows.length ≤ 1048576) (hr : ∀ r ∈ rows, r.length ≤ 1048576) : Ev (fun k => spec_l03Copy.f k p c rows) (p, c, rows) := by
  unfold spec_l03Copy.f
  refine build_ev (l := fun k i acc => spec_l03Copy.l0 k i p c rows p c acc) rows.length (fun i => grp rows i) (fun i acc hi ha r hr2 => ?_) ?_
  · refine Ev.step (fun k => ?_) hr2
    simp only [spec_l03Copy.l0]
    rw [if_pos (by omega), if_pos (by omega), rdL_cast, own_eq _ (grp_len hr _), wr (by omega) (by omega)]
    simp only [Option.bind_some, if_pos (show acc.length < 5864062014805 by omega)]
    rfl
  · refine Ev.step (f := fun _ => some (p, c, rows)) (fun k => ?_) (Ev.now _)
    simp only [spec_l03Copy.l0]
    rw [if_neg (by omega), copies_same]
theorem mat_small {p : Int} {C : Nat} {rows : List (List Int)} (hM : MatP p C rows) : ∀ r ∈ rows, r.length = C := by
  intro r hr
  obtain ⟨i, hi, rfl⟩ := List.getElem_of_mem hr
  have := (hM i hi).1
  rwa [show grp rows i = rows[i] from by simp [grp, hi]] at this
theorem impl_echelon_ev {p : Int} {C : Nat} {rows : List (List Int)} (hp : 2 ≤ p ∧ p ≤ 31) (hC : C ≤ 1000) (hM : MatP p C rows) (hl : rows.length ≤ 1000) : Ev (fun k => impl_Matrix_echelon.f k p (C : Int) rows) (p, (C : Int), (echB p C rows).1, (echB p C rows).2) := by
  unfold impl_Matrix_echelon.f
  have hs := mat_small hM
  refine Ev.bind (impl_copyRows_ev rows (by omega) (fun r hr => by rw [hs r hr]; omega)) ?_
  refine Ev.bind (impl_ech_loop hp hC C 0 (rows, []) (by omega) ⟨hM, Nat.zero_le _, hl⟩) ?_
  rw [← List.range_eq_range']
  have h := (full_ech hp.1 hM hl).1.le
  unfold echB
  show Ev (fun _ => if (fullB p C rows).2.length ≤ (fullB p C rows).1.length then _ else none) _
  simp only [if_pos h]
  exact Ev.now _
theorem spec_echelon_ev {p : Int} {C : Nat} {rows : List (List Int)} (hp : 2 ≤ p ∧ p ≤ 31) (hC : C ≤ 1000) (hM : MatP p C rows) (hl : rows.length ≤ 1000) : Ev (fun k => spec_l03Echelon.f k p (C : Int) rows) (p, (C : Int), (echB p C rows).1, (echB p C rows).2) := by
  unfold spec_l03Echelon.f
  have hs := mat_small hM
  refine Ev.bind (spec_l03Copy_ev p (C : Int) rows (by omega) (fun r hr => by rw [hs r hr]; omega)) ?_
  refine Ev.bind (spec_ech_loop hp hC C 0 (rows, []) (by omega) ⟨hM, Nat.zero_le _, hl⟩) ?_
  rw [← List.range_eq_range']
  have h := (full_ech hp.1 hM hl).1.le
  unfold echB
  show Ev (fun _ => if (0 : Int) ≤ ((fullB p C rows).2.length : Int) then (if ((fullB p C rows).2.length : Int) ≤ ((fullB p C rows).1.length : Int) then some (p, (C : Int), (fullB p C rows).1.take ((fullB p C rows).2.length : Int).toNat, (fullB p C rows).2) else none) else none) _
  simp only [if_pos (show (0 : Int) ≤ ((fullB p C rows).2.length : Int) by omega), if_pos (show ((fullB p C rows).2.length : Int) ≤ ((fullB p C rows).1.length : Int) by omega), Int.toNat_natCast]
  exact Ev.now _
theorem MatP_of_valid {p cols : Int} {rows : List (List Int)} (h : validMB p cols rows = true) : (2 ≤ p ∧ p ≤ 31) ∧ (cols.toNat : Int) = cols ∧ cols.toNat ≤ 12 ∧ rows.length ≤ 20 ∧ MatP p cols.toNat rows := by
  obtain ⟨h1, h2, h3, h4⟩ := validMB_parts h
  refine ⟨h1, by omega, by omega, h3, fun i hi => ⟨by have := (h4 i hi).1; omega, fun j => ?_⟩⟩
  by_cases hj : j < (grp rows i).length
  · have := elemsB_get (h4 i hi).2 j hj
    rw [List.getD_eq_getElem?_getD, List.getElem?_eq_getElem hj]
    exact this
  · rw [List.getD_eq_getElem?_getD, List.getElem?_eq_none (by omega)]
    show 0 ≤ (0 : Int) ∧ (0 : Int) ≤ p - 1
    omega
theorem ech_mat {p : Int} {C : Nat} {rows : List (List Int)} (hp : 2 ≤ p) (hM : MatP p C rows) (hl : rows.length ≤ 1000) : MatP p C (echB p C rows).1 ∧ (echB p C rows).1.length = (echB p C rows).2.length ∧ (echB p C rows).1.length ≤ rows.length := by
  obtain ⟨h1, h2⟩ := full_ech hp hM hl
  have hle := h1.le
  have e : (echB p C rows).1.length = (echB p C rows).2.length := by
    unfold echB
    rw [List.length_take]
    show min (fullB p C rows).2.length (fullB p C rows).1.length = (fullB p C rows).2.length
    omega
  refine ⟨fun i hi => ?_, e, ?_⟩
  · have hi2 : i < (fullB p C rows).2.length := by rw [e] at hi; exact hi
    have : grp (echB p C rows).1 i = grp (fullB p C rows).1 i := by
      unfold echB grp
      rw [List.getD_eq_getElem?_getD, List.getD_eq_getElem?_getD, List.getElem?_take, if_pos hi2]
    rw [this]
    exact h1.mat i (by omega)
  · rw [e]; unfold echB; show (fullB p C rows).2.length ≤ _; omega
def EchelonR (p cols : Int) (rows : List (List Int)) : Int × Int × List (List Int) × Int := if validMB p cols rows then (p, cols, (echB p cols.toNat rows).1, 0) else (0, 0, [], 1)
theorem spec_EchelonOf_ev (p cols : Int) (rows : List (List Int)) (hl : rows.length ≤ 4611686018427387904) (hr : ∀ r ∈ rows, r.length ≤ 4611686018427387904) : Ev (fun k => spec_EchelonOf.f k p cols rows) (EchelonR p cols rows) := by
  unfold spec_EchelonOf.f EchelonR
  refine Ev.bind (spec_l03Ok_ev p cols rows hl hr) ?_
  cases hv : validMB p cols rows with
  | false => exact Ev.now _
  | true =>
    obtain ⟨h1, h2, h3, h4, h5⟩ := MatP_of_valid hv
    simp only [if_true]
    have := spec_echelon_ev h1 (by omega) h5 (by omega)
    rw [h2] at this
    exact Ev.bind this (Ev.now _)
theorem impl_EchelonOf_ev (p cols : Int) (rows : List (List Int)) (hl : rows.length ≤ 4611686018427387904) (hr : ∀ r ∈ rows, r.length ≤ 4611686018427387904) : Ev (fun k => impl_EchelonOf.f k p cols rows) (EchelonR p cols rows) := by
  unfold impl_EchelonOf.f EchelonR
  refine Ev.bind (impl_ValidMatrix_ev p cols rows hl hr) ?_
  cases hv : validMB p cols rows with
  | false => exact Ev.now _
  | true =>
    obtain ⟨h1, h2, h3, h4, h5⟩ := MatP_of_valid hv
    simp only [if_true]
    have := impl_echelon_ev h1 (by omega) h5 (by omega)
    rw [h2] at this
    exact Ev.bind this (Ev.now _)
theorem mat_size {p : Int} {C m : Nat} {rows : List (List Int)} (hM : MatP p C rows) (hl : rows.length ≤ m) : (∀ r ∈ rows, r.length ≤ C) ∧ allLen rows ≤ m * C := by
  have hr : ∀ r ∈ rows, r.length ≤ C := fun r h => by rw [mat_small hM r h]; exact Nat.le_refl _
  refine ⟨hr, ?_⟩
  unfold allLen
  have := sum_le_mul (rows.map List.length) C (fun x hx => by obtain ⟨r, hr', rfl⟩ := List.mem_map.mp hx; exact hr r hr')
  rw [List.length_map] at this
  exact Nat.le_trans this (Nat.mul_le_mul_right _ hl)
theorem EchelonR_size (p cols : Int) (rows : List (List Int)) : ∃ a b c d, EchelonR p cols rows = (a, b, c, d) ∧ c.length ≤ 20 ∧ (∀ r ∈ c, r.length ≤ 12) ∧ allLen c ≤ 240 := by
  unfold EchelonR
  split
  · rename_i hv
    obtain ⟨h1, h2, h3, h4, h5⟩ := MatP_of_valid hv
    obtain ⟨m1, m2, m3⟩ := ech_mat h1.1 h5 (by omega)
    obtain ⟨s1, s2⟩ := mat_size m1 (m := 20) (by omega)
    refine ⟨_, _, _, _, rfl, by omega, fun r hr => Nat.le_trans (s1 r hr) h3, Nat.le_trans s2 ?_⟩
    have := Nat.mul_le_mul_left 20 h3
    omega
  · exact ⟨0, 0, [], 1, rfl, by simp, by simp, by simp [allLen]⟩

end Go.Proofs.Ytjpbemomocccaaa.P

/- For every matrix the program's EchelonOf and the reference's answer alike, the argument stays, and the result is memory of its own. -/
namespace Go.Proofs.Ytjpbemomocccaaa.Pure
open Go.RowKit Go.Proofs.Ytjpbemomocccaaa.P Go.Proofs.YtjpbemomocccaaaW.PrintWords Go.Proofs.YtjpbemomocccaaaW.PrintLast Go.Proofs.YtjpbemomocccaaaW.PrintMore
set_option linter.unusedVariables false
set_option linter.unusedSimpArgs false

theorem FnExactEchelonOf : laws_FnExactEchelonOf.Pure := by
  intro x hx
  obtain ⟨xp, xc, xs⟩ := x
  have hl : xs.length ≤ 9223372036854775807 := hx.2.2.1
  have hr : ∀ r ∈ xs, r.length ≤ 9223372036854775807 := fun r h => (hx.2.2.2 r h).1
  have s1 := szMatrix_ev xp xc xs 1048576 (by omega) hl hr
  by_cases h : (bulk xs : Int) ≤ 1048576
  · rw [if_pos h] at s1
    obtain ⟨h1, h2⟩ := bulk_len (rows := xs) (n := 1048576) (by omega)
    have h4 : xs.length ≤ 4611686018427387904 := by omega
    have h3 : ∀ r ∈ xs, r.length ≤ 4611686018427387904 := fun r hr => Nat.le_trans (h2 r hr) (by omega)
    have h5 : allLen xs ≤ 1048576 := by unfold bulk at h; unfold allLen; omega
    obtain ⟨r1, r2, r3, r4, er, z1, z2, z3⟩ : ∃ a b c d, EchelonR xp xc xs = (a, b, c, d) ∧ c.length ≤ 20 ∧ (∀ r ∈ c, r.length ≤ 12) ∧ allLen c ≤ 240 := EchelonR_size xp xc xs
    have z4 : ∀ r ∈ r3, r.length ≤ 1048576 := fun r hr => Nat.le_trans (z2 r hr) (by omega)
    have e1 := spec_EchelonOf_ev xp xc xs h4 h3
    have e2 := impl_EchelonOf_ev xp xc xs h4 h3
    rw [er] at e1 e2
    obtain ⟨k, a1, a2, a3, a4, a5, a6, a7, a8, a9⟩ := From.now (From.and s1 (From.and (toMatrix_ev xp xc xs h1 h2) (From.and e1 (From.and e2 (From.and (eqMatrix_same r1 r2 r3 (by omega) z4) (From.and (eqMatrix_same xp xc xs h1 h2) (From.and (markMatrix_ev xp xc xs 1 (by omega) (by omega) (by omega)) (From.and (markMatrix_ev r1 r2 r3 1 (by omega) (by omega) (by omega)) (heldMatrix_ev r1 r2 r3 1 (by omega) (by omega) (by omega))))))))))
    exact Or.inr ⟨k, _, r1, r2, r3, r4, _, _, _, _, a1, decide_eq_false (by omega), a2, a3, a2, a4, a5, a2, a6, a7, decide_eq_false (by omega), a5, a8, a9, decide_eq_false (by omega), a2, a4, a5, a9, decide_eq_false (by omega)⟩
  · rw [if_neg h] at s1
    obtain ⟨k, a1⟩ := From.now s1
    exact Or.inl ⟨k, _, a1, by decide⟩

end Go.Proofs.Ytjpbemomocccaaa.Pure

/- The row of the law FnExactEchelonOf: whatever its arguments, it answers true, and they read as before. No condition. -/
namespace Go.Proofs.Ytjpbemomocccaaa.fnExactEchelonOf
open Go.ChangeShapes Go.WideShapes Go.ChangeAt Go.RowKit Go.Proofs.Ytjpbemomocccaaa.P Go.Proofs.YtjpbemomocccaaaW.PrintWords Go.Proofs.YtjpbemomocccaaaW.PrintLast Go.Proofs.YtjpbemomocccaaaW.PrintMore
open Go.ChangeMaps (open_string shut_string)
set_option linter.unusedVariables false
theorem own : ownKnob Try.prog.godebug = none := by kernel_rfl
theorem laidOut : laidOutB Try.prog = true := by kernel_rfl
set_option maxRecDepth 100000 in
theorem lifted (os : Os) (started : os.Started) (H : Type) (enc : TypeId × Value → H) :
    ReturnsInHanded {} Try.checked os 3 .any (Rows.fnExactEchelonOfSpec.pre6 enc Try.prog Try.f3 Rows.fnExactEchelonOfRow.domain false) (Rows.fnExactEchelonOfSpec.post enc Try.prog Try.f3 false true false false) := by
  refine returnsInHanded_of_change_sized (C := Try.checked) own started (by kernel_rfl) Try.func3
    (ChangeSpec.witness6 (enc := enc) (C := Try.checked) false ⟨#[], #[.agg #[.int .i64 0, .int .i64 0, .slice none 0 0]], []⟩ 8 (by kernel_rfl) (by kernel_rfl) (by kernel_rfl) (by kernel_rfl)) ?_
  intro W base args ds gs before hval0 hW hcnd hsz0 _
  have hval : ∀ (j : Nat) t v, Try.f3.params[j]? = some t → args[j]? = some v → Value.okWide Try.prog W .any base t v := hval0
  have hW' := hW
  obtain ⟨p, q, hA0, hV, rfl, hfz, hnd⟩ := hW
  have hA : DataW.TrodAll enc Try.prog W 0 (fun _ => true) true Try.f3.params.toList args.toList ds p := hA0
  rw [Try.params3] at hA hval
  obtain ⟨v0, vs0, d0, ds0, p0, q0, hargs, rfl, rfl, h0, r0⟩ := trodAll_cons hA
  obtain ⟨rfl, rfl, rfl⟩ := trodAll_nil r0
  obtain rfl : args = #[v0] := by cases args; simp_all
  obtain ⟨rfl, rfl⟩ := trodVars_none hV
  have k0 := h0
  have lt0 : ∀ x ∈ p0, x.block < W.heap.size := by obtain ⟨m, hm⟩ := k0; exact DataW.trod_lt m _ _ _ hm
  obtain ⟨cs0, rfl, _⟩ := okWide_struct Try.underlying24 (hval 0 24 v0 rfl rfl)
  obtain ⟨x0, hK0, wf0⟩ := OpensAt.any opensS24 h0
  obtain ⟨A0_2, c0_2, e0, l0_2, g0_2⟩ := k24_open hK0
  obtain rfl : cs0 = #[.int .i64 x0.f0, .int .i64 x0.f1, .slice A0_2 x0.f2.length c0_2] := by cases cs0; simpa [Value.cells] using e0
  clear hA0 hval0 hsz0
  refine (P.laws_FnExactEchelonOf.walk Pure.FnExactEchelonOf x0 _ _ W g0_2 l0_2 wf0).mono fun e W' ⟨he, bel⟩ => ?_
  subst he
  exact ⟨_, rfl, _, _, _, [], _, [], hW', trodAll_mk1 (shut_bool Try.underlying4 _), (trodAll_cons_mk (Below.trod laidOut (by kernel_rfl) (of_decide_eq_true (by kernel_rfl)) k0 bel lt0) trodAll_mk0), rfl, bel.frame _, fun h => by cases h⟩
theorem over : Rows.fnExactEchelonOfRow.holds Try.pinned (OpenSpec.ofChange Rows.fnExactEchelonOfSpec) :=
  OpenClaim.holds_of_wide 3 Try.f3 rfl rfl rfl rfl rfl rfl rfl ⟨rfl, rfl, rfl, rfl, rfl⟩ rfl rfl rfl rfl rfl (by kernel_rfl) Try.func3 (by kernel_rfl)
    (of_decide_eq_true (by kernel_rfl)) (by unfold Func.isWrapper; first | (rw [if_pos (by decide +kernel)]; kernel_rfl) | (rw [if_neg (by decide +kernel)]; exact ⟨rfl, rfl⟩))
    (fun os started H enc _ => lifted os started H enc)
theorem proved : Rows.FnExactEchelonOfSaid := over
#print axioms proved
end Go.Proofs.Ytjpbemomocccaaa.fnExactEchelonOf
namespace Go.Proofs.Ytjpbemomocccaaa
/-- The row, under a short name, for the claim. -/
theorem fnExactEchelonOf_holds : Rows.FnExactEchelonOfSaid := fnExactEchelonOf.proved
end Go.Proofs.Ytjpbemomocccaaa
