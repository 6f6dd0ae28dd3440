/- For every matrix the program's InverseOf and the reference's answer alike, the argument stays, and the result is memory of its own. This text: part 4 of what it rests on: functions of the translation as plain Lean functions, and that the machine's calls come to their answers. -/
import Derived.Test.YtjpbemomocccaaaCFnExactInverseOfc
import Derived.ChangeArms
import Derived.Deep.Slices
import Derived.WideShapes
namespace Go.Proofs.Ytjpbemomocccaaa.P
open Go.RowKit Go.Proofs.YtjpbemomocccaaaW.PrintWords Go.Proofs.YtjpbemomocccaaaW.PrintLast Go.Proofs.YtjpbemomocccaaaW.PrintMore
attribute [local go_sem] max2_int min2_int max_two min_two max_three min_three max_four min_four
set_option linter.unusedVariables false
set_option linter.unusedSimpArgs false

/-! ### impl_InverseOf: function 22 -/
mutual
def impl_InverseOf.l0 : Nat → Int → List (List Int) → Int → Int → Int → Int → List (List Int) → Int → Int → List (List Int) → Option (Int × Int × (List (List Int)) × Int)
  | 0, _, _, _, _, _, _, _, _, _, _ => none
  | k + 1, x4, x30, x31, x32, x367000, x367001, x367002, x371000, x371001, x371002 => if x32 < x31 then (if 0 ≤ x32 then (if x32 < (x30.length : Int) then (if 0 ≤ x4 then (if (x4 : Int).toNat ≤ 35184372088832 then ((some (List.replicate (x4 : Int).toNat 0 : List Int)).bind fun y372 => (if x32 < (y372.length : Int) then ((some (y372.set (x32 : Int).toNat 1 : List Int)).bind fun y375 => ((slices_Clone_int64_int64.f (rd_L1 x30 x32)).bind fun t376 => (if t376.length + y375.length < 17592186044416 then (if x371002.length < 5864062014805 then (impl_InverseOf.l0 k x4 x30 x31 (wrap64 (x32 + 1)) x367000 x367001 x367002 x371000 x371001 (x371002 ++ [(t376 ++ y375)])) else (none)) else (none)))) else (none))) else (none)) else (none)) else (none)) else (none)) else ((impl_Matrix_echelon.f k x371000 x371001 x371002).bind fun bt385 => (impl_InverseOf.l1 k x4 bt385.2.2.2 bt385.2.2.1 (bt385.2.2.1.length : Int) 0 x367000 x4 ([] : List (List Int))))
def impl_InverseOf.l1 : Nat → Int → List Int → List (List Int) → Int → Int → Int → Int → List (List Int) → Option (Int × Int × (List (List Int)) × Int)
  | 0, _, _, _, _, _, _, _, _ => none
  | k + 1, x4, x10, x62, x63, x64, x395000, x395001, x395002 => if x64 < x63 then (if 0 ≤ x64 then (if x64 < (x62.length : Int) then (if x64 < (x10.length : Int) then (if (rd x10 x64) = x64 then (if 0 ≤ x4 then (if x4 ≤ ((rd_L1 x62 x64).length : Int) then ((slices_Clone_int64_int64.f ((rd_L1 x62 x64).drop (x4 : Int).toNat)).bind fun t401 => (if x395002.length < 5864062014805 then (impl_InverseOf.l1 k x4 x10 x62 x63 (wrap64 (x64 + 1)) x395000 x395001 (x395002 ++ [t401])) else (none))) else (none)) else (none)) else (some (0, 0, ([] : List (List Int)), 4))) else (none)) else (none)) else (none)) else (some (x395000, x395001, x395002, 0))
end
def impl_InverseOf.f (k : Nat) (a0_0 : Int) (a0_1 : Int) (l0_2 : List (List Int)) : Option (Int × Int × (List (List Int)) × Int) := (impl_ValidMatrix.f k a0_0 a0_1 l0_2).bind fun t368 => (if t368 = true then ((impl_Matrix_isSquare.f a0_0 a0_1 l0_2).bind fun t369 => (if t369 = true then (impl_InverseOf.l0 k a0_1 l0_2 (l0_2.length : Int) 0 a0_0 a0_1 l0_2 a0_0 (wrap64 (2 * a0_1)) ([] : List (List Int))) else (some (0, 0, ([] : List (List Int)), 2)))) else (some (0, 0, ([] : List (List Int)), 1)))
def impl_InverseOf.T12 : Bool × List (List Nat × List Nat) := (true, [([], []), ([0], [0]), ([], []), ([2], [2]), ([], []), ([3, 4, 3], [3, 4]), ([5], [5]), ([1, 6, 5], [1, 6]), ([0, 1, 2, 3, 4, 5, 6, 7], []), ([8, 7, 7, 0, 1, 2, 3, 4, 5, 6, 7], [7, 8])])
def impl_InverseOf.B12 : List Nat := [0, 1, 0, 4, 0, 28, 60, 127, 255, 511]
theorem impl_InverseOf.tab12 : rtab .any (opsOf Try.f22 12) = impl_InverseOf.T12 := by kernel_rfl
theorem impl_InverseOf.bits12 : waitsOk impl_InverseOf.T12.2 impl_InverseOf.B12 = true := by kernel_rfl
def impl_InverseOf.T21 : Bool × List (List Nat × List Nat) := (true, [([], []), ([0], [0]), ([], []), ([], []), ([2, 3], [2, 3]), ([4], [4]), ([5], [5]), ([1, 6, 5], [1, 6]), ([0, 1, 2, 3, 4, 5, 6, 7], []), ([8, 7, 7, 0, 1, 2, 3, 4, 5, 6, 7], [7, 8])])
def impl_InverseOf.B21 : List Nat := [0, 1, 0, 0, 12, 28, 60, 127, 255, 511]
theorem impl_InverseOf.tab21 : rtab .any (opsOf Try.f22 21) = impl_InverseOf.T21 := by kernel_rfl
theorem impl_InverseOf.bits21 : waitsOk impl_InverseOf.T21.2 impl_InverseOf.B21 = true := by kernel_rfl
set_option maxHeartbeats 8000000 in
set_option maxRecDepth 100000 in
theorem impl_InverseOf.calls (k : Nat) (a0_0 : Int) (a0_1 : Int) (A0_2 : Option Addr) (c0_2 : Nat) (l0_2 : List (List Int)) (r1 : Int) (r2 : Int) (r3 : List (List Int)) (r4 : Int) (w : World) (hr0_2 : Kd.C (Kd.slice 2 (Kd.int .i64)) w A0_2 l0_2.length l0_2) (hc0_2 : l0_2.length ≤ c0_2) (h : impl_InverseOf.f k a0_0 a0_1 l0_2 = some (r1, r2, r3, r4)) :
    Calls Try.prog 22 #[.agg #[.int .i64 a0_0, .int .i64 a0_1, .slice A0_2 l0_2.length c0_2]] w fun e w' => ∃ v2_ : Value, e = .returned (.tuple #[.agg #[.int .i64 r1, .int .i64 r2, v2_], .int .i64 r4]) ∧ Kd.S (Kd.slice 2 (Kd.int .i64)) 35 w' w.heap.size (fun _ => True) v2_ r3 ∧ Below w.heap.size w w' := by
  have hu26 := Try.underlying26
  have HR0_2 := Aside0.mk hr0_2
  have HC0_2 := Aside0.mk hc0_2
  clear hr0_2 hc0_2
  have HB := Aside0.mk (Below.refl w.heap.size w)
  have H : ((impl_ValidMatrix.f k a0_0 a0_1 l0_2).bind fun t368 => (if t368 = true then ((impl_Matrix_isSquare.f a0_0 a0_1 l0_2).bind fun t369 => (if t369 = true then (impl_InverseOf.l0 k a0_1 l0_2 (l0_2.length : Int) 0 a0_0 a0_1 l0_2 a0_0 (wrap64 (2 * a0_1)) ([] : List (List Int))) else (some (0, 0, ([] : List (List Int)), 2)))) else (some (0, 0, ([] : List (List Int)), 1)))) = some (r1, r2, r3, r4) := h
  clear h
  replace H := Option.bind_eq_some_iff.mp H
  obtain ⟨t368, A20, H⟩ := H
  replace H : (if t368 = true then ((impl_Matrix_isSquare.f a0_0 a0_1 l0_2).bind fun t369 => (if t369 = true then (impl_InverseOf.l0 k a0_1 l0_2 (l0_2.length : Int) 0 a0_0 a0_1 l0_2 a0_0 (wrap64 (2 * a0_1)) ([] : List (List Int))) else (some (0, 0, ([] : List (List Int)), 2)))) else (some (0, 0, ([] : List (List Int)), 1))) = some (r1, r2, r3, r4) := H
  have A2 := Aside0.mk A20
  clear A20
  by_cases c3 : t368 = true
  · subst c3
    have H1 : ((impl_Matrix_isSquare.f a0_0 a0_1 l0_2).bind fun t369 => (if t369 = true then (impl_InverseOf.l0 k a0_1 l0_2 (l0_2.length : Int) 0 a0_0 a0_1 l0_2 a0_0 (wrap64 (2 * a0_1)) ([] : List (List Int))) else (some (0, 0, ([] : List (List Int)), 2)))) = some (r1, r2, r3, r4) := by rw [if_pos rfl] at H; exact H
    clear H
    have H := H1
    clear H1
    replace H := Option.bind_eq_some_iff.mp H
    obtain ⟨t369, A40, H⟩ := H
    replace H : (if t369 = true then (impl_InverseOf.l0 k a0_1 l0_2 (l0_2.length : Int) 0 a0_0 a0_1 l0_2 a0_0 (wrap64 (2 * a0_1)) ([] : List (List Int))) else (some (0, 0, ([] : List (List Int)), 2))) = some (r1, r2, r3, r4) := H
    have A4 := Aside0.mk A40
    clear A40
    by_cases c5 : t369 = true
    · subst c5
      have H1 : (impl_InverseOf.l0 k a0_1 l0_2 (l0_2.length : Int) 0 a0_0 a0_1 l0_2 a0_0 (wrap64 (2 * a0_1)) ([] : List (List Int))) = some (r1, r2, r3, r4) := by rw [if_pos rfl] at H; exact H
      clear H
      have H := H1
      clear H1
      have H' := Aside0.mk H
      clear H
      go_enter Try.func22, Try.ntmps22
      go_wp2_with (first | ((with_reducible refine gate_dst (N := 1) rfl ?_); refine box_event ?hg (N := 1) ?hd (cs := #[.int .i64 a0_0, .int .i64 a0_1, .slice A0_2 l0_2.length c0_2]) (t := 26) ?hr ?_; (case hd => rfl); (case hg => rfl); (case hr => first | (go_simp; done) | (go_simp; rfl)); intro gb366 hg w6 hbox hb; have n0_ := Aside0.mk (below_step (by repeat (first | (with_reducible first | exact HB.out | apply below_alloc | apply pw_below_drewN | apply below_drew1) | exact HB.out)) hb); have n1_ := Aside0.mk (hbox); have n2_ := Aside0.mk ((by rw [hg]; exact (below_size (by repeat (first | (with_reducible first | exact HB.out | apply below_alloc | apply pw_below_drewN | apply below_drew1) | exact HB.out))) : w.heap.size ≤ gb366)); have n3_ := Aside0.mk ((by rw [hg]; exact (below_size (by repeat (first | (with_reducible first | exact HB.out | apply below_alloc | apply pw_below_drewN | apply below_drew1) | exact HB.out))) : w.heap.size ≤ gb366)); clear HB; have HB := n0_; have BK366 := n1_; have GW366 := n2_; have GE366 := n3_; clear n0_ n1_ n2_ n3_; clear hb hbox hg) | ((with_reducible refine gate_dst (N := 2) rfl ?_); refine box_event ?hg (N := 2) ?hd (cs := #[.int .i64 0, .int .i64 0, .slice none 0 0]) (t := 26) ?hr ?_; (case hd => rfl); (case hg => rfl); (case hr => first | (go_simp; done) | (go_simp; rfl)); intro gb367 hg w7 hbox hb; have n0_ := Aside0.mk (blk_below (g := gb366) (o := .cells #[.int .i64 a0_0, .int .i64 a0_1, .slice A0_2 l0_2.length c0_2] 26 (0, 0)) (by (with_reducible repeat (first | refine blk_drewN ?_ _ | refine blk_drew ?_ | refine blk_alloc ?_ _)); exact BK366.out) hb); have n1_ := Aside0.mk (below_step (by repeat (first | (with_reducible first | exact HB.out | apply below_alloc | apply pw_below_drewN | apply below_drew1 | refine below_set ?_ GE366.out) | exact HB.out)) hb); have n2_ := Aside0.mk (hbox); have n3_ := Aside0.mk ((by rw [hg]; exact (below_size (by repeat (first | (with_reducible first | exact HB.out | apply below_alloc | apply pw_below_drewN | apply below_drew1 | refine below_set ?_ GE366.out) | exact HB.out))) : w.heap.size ≤ gb367)); have n4_ := Aside0.mk ((by rw [hg]; exact (below_size (by repeat (first | (with_reducible first | exact HB.out | apply below_alloc | apply pw_below_drewN | apply below_drew1 | refine below_set ?_ GE366.out) | exact HB.out))) : w.heap.size ≤ gb367)); have n5_ := Aside0.mk ((by rw [hg]; exact Nat.ne_of_lt (blk_lt (g := gb366) (o := .cells #[.int .i64 a0_0, .int .i64 a0_1, .slice A0_2 l0_2.length c0_2] 26 (0, 0)) (by (with_reducible repeat (first | refine blk_drewN ?_ _ | refine blk_drew ?_ | refine blk_alloc ?_ _)); exact BK366.out)) : gb366 ≠ gb367)); have n6_ := Aside0.mk ((by rw [hg]; exact Nat.ne_of_gt (blk_lt (g := gb366) (o := .cells #[.int .i64 a0_0, .int .i64 a0_1, .slice A0_2 l0_2.length c0_2] 26 (0, 0)) (by (with_reducible repeat (first | refine blk_drewN ?_ _ | refine blk_drew ?_ | refine blk_alloc ?_ _)); exact BK366.out)) : gb367 ≠ gb366)); clear BK366; clear HB; have BK366 := n0_; have HB := n1_; have BK367 := n2_; have GW367 := n3_; have GE367 := n4_; have NB366_367 := n5_; have NB367_366 := n6_; clear n0_ n1_ n2_ n3_ n4_ n5_ n6_; clear hb hbox hg; have hnb8 := NB366_367.out; have hnc8 := NB367_366.out; have hcz9_0 : w7.cell? ⟨gb366, 0, none⟩ = some (.int .i64 a0_0) := (blk_cell BK366.out 0).trans rfl; have hcz9_1 : w7.cell? ⟨gb366, 1, none⟩ = some (.int .i64 a0_1) := (blk_cell BK366.out 1).trans rfl; have hcz9_2 : w7.cell? ⟨gb366, 2, none⟩ = some (.slice A0_2 l0_2.length c0_2) := (blk_cell BK366.out 2).trans rfl; have hfz9_0 := blk_frozen BK366.out 0; have hfz9_1 := blk_frozen BK366.out 1; have hfz9_2 := blk_frozen BK366.out 2) | ((with_reducible refine gate_callee (f := 50) rfl ?_); refine goesL_ (some 15) rfl rfl Try.func50 (by kernel_rfl) rfl #[.agg #[.int .i64 a0_0, .int .i64 a0_1, .slice A0_2 l0_2.length c0_2]] rfl (by (try simp only [List.map_toArray, List.map_cons, List.map_nil]); first | done | rfl | (simp only [List.length_drop, List.length_take]; rfl)) ?_; (with_reducible refine (impl_ValidMatrix.calls k a0_0 a0_1 _ _ l0_2 true _ ?side1 ?side2 A2.out).mono ?_); (case side1 => repeat (first | exact (Kd.C_below HR0_2.out HB.out) | (with_reducible refine Kd.C_alloc ?_ _) | (with_reducible refine Kd.C_drewN ?_ _) | (with_reducible refine Kd.C_drew ?_))); (case side2 => exact HC0_2.out); rintro e w10 ⟨rfl, hb⟩; refine ⟨_, rfl, ?_⟩; have n0_ := Aside0.mk (blk_below (g := gb366) (o := .cells #[.int .i64 a0_0, .int .i64 a0_1, .slice A0_2 l0_2.length c0_2] 26 (0, 0)) (by (with_reducible repeat (first | refine blk_drewN ?_ _ | refine blk_drew ?_ | refine blk_alloc ?_ _)); exact BK366.out) hb); have n1_ := Aside0.mk (blk_below (g := gb367) (o := .cells #[.int .i64 0, .int .i64 0, .slice none 0 0] 26 (0, 0)) (by (with_reducible repeat (first | refine blk_drewN ?_ _ | refine blk_drew ?_ | refine blk_alloc ?_ _)); exact BK367.out) hb); have n2_ := Aside0.mk (below_step (by repeat (first | (with_reducible first | exact HB.out | apply below_alloc | apply pw_below_drewN | apply below_drew1 | refine below_set ?_ GE366.out | refine below_set ?_ GE367.out) | exact HB.out)) hb); clear BK366; clear BK367; clear HB; have BK366 := n0_; have BK367 := n1_; have HB := n2_; clear n0_ n1_ n2_; (try clear hb); (try clear hb2); (try clear hk); (try clear hi); have hcz11_0 : w10.cell? ⟨gb366, 0, none⟩ = some (.int .i64 a0_0) := (blk_cell BK366.out 0).trans rfl; have hcz11_1 : w10.cell? ⟨gb366, 1, none⟩ = some (.int .i64 a0_1) := (blk_cell BK366.out 1).trans rfl; have hcz11_2 : w10.cell? ⟨gb366, 2, none⟩ = some (.slice A0_2 l0_2.length c0_2) := (blk_cell BK366.out 2).trans rfl; have hfz11_0 := blk_frozen BK366.out 0; have hfz11_1 := blk_frozen BK366.out 1; have hfz11_2 := blk_frozen BK366.out 2) | ((with_reducible refine gate_callee (f := 63) rfl ?_); refine goesL_ (some 19) rfl rfl Try.func63 (by kernel_rfl) rfl #[.agg #[.int .i64 a0_0, .int .i64 a0_1, .slice A0_2 l0_2.length c0_2]] rfl (by (try simp only [List.map_toArray, List.map_cons, List.map_nil]); first | done | rfl | (simp only [List.length_drop, List.length_take]; rfl)) ?_; (with_reducible refine (impl_Matrix_isSquare.calls a0_0 a0_1 _ _ l0_2 true _ ?side1 ?side2 A4.out).mono ?_); (case side1 => repeat (first | exact (Kd.C_below HR0_2.out HB.out) | (with_reducible refine Kd.C_alloc ?_ _) | (with_reducible refine Kd.C_drewN ?_ _) | (with_reducible refine Kd.C_drew ?_))); (case side2 => exact HC0_2.out); rintro e w12 ⟨rfl, hb⟩; refine ⟨_, rfl, ?_⟩; have n0_ := Aside0.mk (blk_below (g := gb366) (o := .cells #[.int .i64 a0_0, .int .i64 a0_1, .slice A0_2 l0_2.length c0_2] 26 (0, 0)) (by (with_reducible repeat (first | refine blk_drewN ?_ _ | refine blk_drew ?_ | refine blk_alloc ?_ _)); exact BK366.out) hb); have n1_ := Aside0.mk (blk_below (g := gb367) (o := .cells #[.int .i64 0, .int .i64 0, .slice none 0 0] 26 (0, 0)) (by (with_reducible repeat (first | refine blk_drewN ?_ _ | refine blk_drew ?_ | refine blk_alloc ?_ _)); exact BK367.out) hb); have n2_ := Aside0.mk (below_step (by repeat (first | (with_reducible first | exact HB.out | apply below_alloc | apply pw_below_drewN | apply below_drew1 | refine below_set ?_ GE366.out | refine below_set ?_ GE367.out) | exact HB.out)) hb); clear BK366; clear BK367; clear HB; have BK366 := n0_; have BK367 := n1_; have HB := n2_; clear n0_ n1_ n2_; (try clear hb); (try clear hb2); (try clear hk); (try clear hi); have hcz13_0 : w12.cell? ⟨gb366, 0, none⟩ = some (.int .i64 a0_0) := (blk_cell BK366.out 0).trans rfl; have hcz13_1 : w12.cell? ⟨gb366, 1, none⟩ = some (.int .i64 a0_1) := (blk_cell BK366.out 1).trans rfl; have hcz13_2 : w12.cell? ⟨gb366, 2, none⟩ = some (.slice A0_2 l0_2.length c0_2) := (blk_cell BK366.out 2).trans rfl; have hfz13_0 := blk_frozen BK366.out 0; have hfz13_1 := blk_frozen BK366.out 1; have hfz13_2 := blk_frozen BK366.out 2) | ((with_reducible refine gate_dst (N := 5) rfl ?_); refine box_event ?hg (N := 5) ?hd (cs := #[.int .i64 0, .int .i64 0, .slice none 0 0]) (t := 26) ?hr ?_; (case hd => rfl); (case hg => rfl); (case hr => first | (go_simp; done) | (go_simp; rfl)); intro gb370 hg w14 hbox hb; have n0_ := Aside0.mk (blk_below (g := gb366) (o := .cells #[.int .i64 a0_0, .int .i64 a0_1, .slice A0_2 l0_2.length c0_2] 26 (0, 0)) (by (with_reducible repeat (first | refine blk_drewN ?_ _ | refine blk_drew ?_ | refine blk_alloc ?_ _)); exact BK366.out) hb); have n1_ := Aside0.mk (blk_below (g := gb367) (o := .cells #[.int .i64 0, .int .i64 0, .slice none 0 0] 26 (0, 0)) (by (with_reducible repeat (first | refine blk_drewN ?_ _ | refine blk_drew ?_ | refine blk_alloc ?_ _)); exact BK367.out) hb); have n2_ := Aside0.mk (below_step (by repeat (first | (with_reducible first | exact HB.out | apply below_alloc | apply pw_below_drewN | apply below_drew1 | refine below_set ?_ GE366.out | refine below_set ?_ GE367.out) | exact HB.out)) hb); have n3_ := Aside0.mk (hbox); have n4_ := Aside0.mk ((by rw [hg]; exact (below_size (by repeat (first | (with_reducible first | exact HB.out | apply below_alloc | apply pw_below_drewN | apply below_drew1 | refine below_set ?_ GE366.out | refine below_set ?_ GE367.out) | exact HB.out))) : w.heap.size ≤ gb370)); have n5_ := Aside0.mk ((by rw [hg]; exact (below_size (by repeat (first | (with_reducible first | exact HB.out | apply below_alloc | apply pw_below_drewN | apply below_drew1 | refine below_set ?_ GE366.out | refine below_set ?_ GE367.out) | exact HB.out))) : w.heap.size ≤ gb370)); have n6_ := Aside0.mk ((by rw [hg]; exact Nat.ne_of_lt (blk_lt (g := gb366) (o := .cells #[.int .i64 a0_0, .int .i64 a0_1, .slice A0_2 l0_2.length c0_2] 26 (0, 0)) (by (with_reducible repeat (first | refine blk_drewN ?_ _ | refine blk_drew ?_ | refine blk_alloc ?_ _)); exact BK366.out)) : gb366 ≠ gb370)); have n7_ := Aside0.mk ((by rw [hg]; exact Nat.ne_of_gt (blk_lt (g := gb366) (o := .cells #[.int .i64 a0_0, .int .i64 a0_1, .slice A0_2 l0_2.length c0_2] 26 (0, 0)) (by (with_reducible repeat (first | refine blk_drewN ?_ _ | refine blk_drew ?_ | refine blk_alloc ?_ _)); exact BK366.out)) : gb370 ≠ gb366)); have n8_ := Aside0.mk ((by rw [hg]; exact Nat.ne_of_lt (blk_lt (g := gb367) (o := .cells #[.int .i64 0, .int .i64 0, .slice none 0 0] 26 (0, 0)) (by (with_reducible repeat (first | refine blk_drewN ?_ _ | refine blk_drew ?_ | refine blk_alloc ?_ _)); exact BK367.out)) : gb367 ≠ gb370)); have n9_ := Aside0.mk ((by rw [hg]; exact Nat.ne_of_gt (blk_lt (g := gb367) (o := .cells #[.int .i64 0, .int .i64 0, .slice none 0 0] 26 (0, 0)) (by (with_reducible repeat (first | refine blk_drewN ?_ _ | refine blk_drew ?_ | refine blk_alloc ?_ _)); exact BK367.out)) : gb370 ≠ gb367)); clear BK366; clear BK367; clear HB; have BK366 := n0_; have BK367 := n1_; have HB := n2_; have BK370 := n3_; have GW370 := n4_; have GE370 := n5_; have NB366_370 := n6_; have NB370_366 := n7_; have NB367_370 := n8_; have NB370_367 := n9_; clear n0_ n1_ n2_ n3_ n4_ n5_ n6_ n7_ n8_ n9_; clear hb hbox hg; have hnb15 := NB370_366.out; have hnc15 := NB366_370.out; have hnb16 := NB370_367.out; have hnc16 := NB367_370.out; have hcz17_0 : w14.cell? ⟨gb370, 0, none⟩ = some (.int .i64 0) := (blk_cell BK370.out 0).trans rfl; have hcz17_1 : w14.cell? ⟨gb370, 1, none⟩ = some (.int .i64 0) := (blk_cell BK370.out 1).trans rfl; have hcz17_2 : w14.cell? ⟨gb370, 2, none⟩ = some (.slice none 0 0) := (blk_cell BK370.out 2).trans rfl; have hfz17_0 := blk_frozen BK370.out 0; have hfz17_1 := blk_frozen BK370.out 1; have hfz17_2 := blk_frozen BK370.out 2; have hcz18_0 : w14.cell? ⟨gb366, 0, none⟩ = some (.int .i64 a0_0) := (blk_cell BK366.out 0).trans rfl; have hcz18_1 : w14.cell? ⟨gb366, 1, none⟩ = some (.int .i64 a0_1) := (blk_cell BK366.out 1).trans rfl; have hcz18_2 : w14.cell? ⟨gb366, 2, none⟩ = some (.slice A0_2 l0_2.length c0_2) := (blk_cell BK366.out 2).trans rfl; have hfz18_0 := blk_frozen BK366.out 0; have hfz18_1 := blk_frozen BK366.out 1; have hfz18_2 := blk_frozen BK366.out 2))
      go_loopg [32] k (fun kq v32 w' => ∃ (x32_1 : Int) (x371002_1 : List (List Int)) (u371002 : Value), v32 = .int .i64 x32_1 ∧ Aside0 (impl_InverseOf.l0 kq a0_1 l0_2 (l0_2.length : Int) x32_1 a0_0 a0_1 l0_2 a0_0 (wrap64 (2 * a0_1)) x371002_1 = some (r1, r2, r3, r4)) ∧ Aside0 (kq ≤ k) ∧ Aside0 (Kd.S (Kd.slice 2 (Kd.int .i64)) 35 w' w.heap.size (fun _ => True) u371002 x371002_1) ∧ Aside0 (w'.heap[gb366]? = some (.cells #[.int .i64 a0_0, .int .i64 a0_1, (.slice A0_2 l0_2.length c0_2)] 26 (0, 0))) ∧ Aside0 (w'.heap[gb367]? = some (.cells #[.int .i64 0, .int .i64 0, (.slice none 0 0)] 26 (0, 0))) ∧ Aside0 (w'.heap[gb370]? = some (.cells #[.int .i64 a0_0, .int .i64 (wrap64 (2 * a0_1)), u371002] 26 (0, 0))) ∧ Aside0 (Below w.heap.size w w'))
      case atStart => exact ⟨(0), (([] : List (List Int))), (.slice none 0 0), (by first | rfl | (simp; done) | (simp [*]; done)), H', ⟨Nat.le_refl _⟩, ⟨by first | exact Kd.S_nil _ _ _ _ _ | exact Kd.N_nil _ _ _ _ _ | exact Kd.V_nil _ _ _ _ _ | exact Kd.Q_nil _ _ _ _ _ | exact Kd.R_nil _ _ _ _ _⟩, ⟨by (with_reducible repeat (first | refine blk_drewN ?_ _ | refine blk_drew ?_ | refine blk_alloc ?_ _)); refine blk_far ?_ NB366_370.out _; (with_reducible repeat (first | refine blk_drewN ?_ _ | refine blk_drew ?_ | refine blk_alloc ?_ _)); refine blk_far ?_ NB366_370.out _; (with_reducible repeat (first | refine blk_drewN ?_ _ | refine blk_drew ?_ | refine blk_alloc ?_ _)); refine blk_far ?_ NB366_370.out _; (with_reducible repeat (first | refine blk_drewN ?_ _ | refine blk_drew ?_ | refine blk_alloc ?_ _)); exact BK366.out⟩, ⟨by (with_reducible repeat (first | refine blk_drewN ?_ _ | refine blk_drew ?_ | refine blk_alloc ?_ _)); refine blk_far ?_ NB367_370.out _; (with_reducible repeat (first | refine blk_drewN ?_ _ | refine blk_drew ?_ | refine blk_alloc ?_ _)); refine blk_far ?_ NB367_370.out _; (with_reducible repeat (first | refine blk_drewN ?_ _ | refine blk_drew ?_ | refine blk_alloc ?_ _)); refine blk_far ?_ NB367_370.out _; (with_reducible repeat (first | refine blk_drewN ?_ _ | refine blk_drew ?_ | refine blk_alloc ?_ _)); exact BK367.out⟩, ⟨by (with_reducible repeat (first | refine blk_drewN ?_ _ | refine blk_drew ?_ | refine blk_alloc ?_ _)); refine blk_put (cs := #[.int .i64 a0_0, .int .i64 (wrap64 (2 * a0_1)), .slice none 0 0]) ?_ 2 _ rfl; (with_reducible repeat (first | refine blk_drewN ?_ _ | refine blk_drew ?_ | refine blk_alloc ?_ _)); refine blk_put (cs := #[.int .i64 a0_0, .int .i64 0, .slice none 0 0]) ?_ 1 _ rfl; (with_reducible repeat (first | refine blk_drewN ?_ _ | refine blk_drew ?_ | refine blk_alloc ?_ _)); refine blk_put (cs := #[.int .i64 0, .int .i64 0, .slice none 0 0]) ?_ 0 _ rfl; (with_reducible repeat (first | refine blk_drewN ?_ _ | refine blk_drew ?_ | refine blk_alloc ?_ _)); exact BK370.out⟩, ⟨by repeat (first | (with_reducible first | exact HB.out | apply below_alloc | apply pw_below_drewN | apply below_drew1 | refine below_set ?_ GE366.out | refine below_set ?_ GE367.out | refine below_set ?_ GE370.out) | exact HB.out)⟩⟩
      case round =>
        clear H'
        try clear c1
        try clear c2
        try clear p2
        try clear c3
        try clear c5
        try clear c6
        try clear p6
        try clear c8
        try clear c15
        try clear c16
        try clear hcz11_0
        try clear hcz11_1
        try clear hcz11_2
        try clear hcz13_0
        try clear hcz13_1
        try clear hcz13_2
        try clear hcz17_0
        try clear hcz17_1
        try clear hcz17_2
        try clear hcz18_0
        try clear hcz18_1
        try clear hcz18_2
        try clear hcz9_0
        try clear hcz9_1
        try clear hcz9_2
        try clear hfz11_0
        try clear hfz11_1
        try clear hfz11_2
        try clear hfz13_0
        try clear hfz13_1
        try clear hfz13_2
        try clear hfz17_0
        try clear hfz17_1
        try clear hfz17_2
        try clear hfz18_0
        try clear hfz18_1
        try clear hfz18_2
        try clear hfz9_0
        try clear hfz9_1
        try clear hfz9_2
        obtain ⟨x32_1, x371002_1, u371002, rfl, HA, HK1, HO_371002, BK366, BK367, BK370, HB⟩ := hrel
        cases gk with
        | zero => exact absurd HA.out (by simp [impl_InverseOf.l0])
        | succ k1 =>
          have H := HA.out
          clear HA
          simp only [impl_InverseOf.l0] at H
          by_cases c19 : x32_1 < (l0_2.length : Int)
          · rw [if_pos c19] at H
            have c19b0 : decide (x32_1 < (l0_2.length : Int)) = true := decide_eq_true c19
            clear c19
            by_cases c20 : 0 ≤ x32_1
            · rw [if_pos c20] at H
              have c20b0 : decide (0 ≤ x32_1) = true := decide_eq_true c20
              clear c20
              by_cases c21 : x32_1 < (l0_2.length : Int)
              · rw [if_pos c21] at H
                have c21b0 : decide (x32_1 < (l0_2.length : Int)) = true := decide_eq_true c21
                clear c21
                by_cases c22 : 0 ≤ a0_1
                · rw [if_pos c22] at H
                  have c22b0 := eq_true c22
                  have c22b1 : decide (0 ≤ a0_1) = true := decide_eq_true c22
                  clear c22
                  by_cases c23 : (a0_1 : Int).toNat ≤ 35184372088832
                  · rw [if_pos c23] at H
                    have c23b0 := eq_true c23
                    have c23b1 : decide ((a0_1 : Int).toNat ≤ 35184372088832) = true := decide_eq_true c23
                    clear c23
                    obtain ⟨y372, hy372⟩ : ∃ y_ : List Int, y_ = (List.replicate (a0_1 : Int).toNat 0) := ⟨_, rfl⟩
                    replace H : (if x32_1 < (y372.length : Int) then ((some (y372.set (x32_1 : Int).toNat 1 : List Int)).bind fun y375 => ((slices_Clone_int64_int64.f (rd_L1 l0_2 x32_1)).bind fun t376 => (if t376.length + y375.length < 17592186044416 then (if x371002_1.length < 5864062014805 then (impl_InverseOf.l0 k1 a0_1 l0_2 (l0_2.length : Int) (wrap64 (x32_1 + 1)) a0_0 a0_1 l0_2 a0_0 (wrap64 (2 * a0_1)) (x371002_1 ++ [(t376 ++ y375)])) else (none)) else (none)))) else (none)) = some (r1, r2, r3, r4) := by first | (rw [hy372]; with_reducible exact H) | (have H2_ := (Option.bind_some _ _).symm.trans H; rw [hy372]; with_reducible exact H2_) | (have H2_ := (Option.bind_some _ _).symm.trans H; with_reducible exact H2_) | with_reducible exact H | (rw [hy372]; exact H) | exact H
                    have Ny372 := Aside0.mk hy372
                    clear hy372
                    by_cases c24 : x32_1 < (y372.length : Int)
                    · rw [if_pos c24] at H
                      have c24b0 : decide (x32_1 < (y372.length : Int)) = true := decide_eq_true c24
                      clear c24
                      obtain ⟨y375, hy375⟩ : ∃ y_ : List Int, y_ = (y372.set (x32_1 : Int).toNat 1) := ⟨_, rfl⟩
                      replace H : ((slices_Clone_int64_int64.f (rd_L1 l0_2 x32_1)).bind fun t376 => (if t376.length + y375.length < 17592186044416 then (if x371002_1.length < 5864062014805 then (impl_InverseOf.l0 k1 a0_1 l0_2 (l0_2.length : Int) (wrap64 (x32_1 + 1)) a0_0 a0_1 l0_2 a0_0 (wrap64 (2 * a0_1)) (x371002_1 ++ [(t376 ++ y375)])) else (none)) else (none))) = some (r1, r2, r3, r4) := by first | (rw [hy375]; with_reducible exact H) | (have H2_ := (Option.bind_some _ _).symm.trans H; rw [hy375]; with_reducible exact H2_) | (have H2_ := (Option.bind_some _ _).symm.trans H; with_reducible exact H2_) | with_reducible exact H | (rw [hy375]; exact H) | exact H
                      have Ny375 := Aside0.mk hy375
                      clear hy375
                      replace H := Option.bind_eq_some_iff.mp H
                      obtain ⟨t376, A260, H⟩ := H
                      replace H : (if t376.length + y375.length < 17592186044416 then (if x371002_1.length < 5864062014805 then (impl_InverseOf.l0 k1 a0_1 l0_2 (l0_2.length : Int) (wrap64 (x32_1 + 1)) a0_0 a0_1 l0_2 a0_0 (wrap64 (2 * a0_1)) (x371002_1 ++ [(t376 ++ y375)])) else (none)) else (none)) = some (r1, r2, r3, r4) := H
                      have A26 := Aside0.mk A260
                      clear A260
                      by_cases c27 : t376.length + y375.length < 17592186044416
                      · rw [if_pos c27] at H
                        have LMc27 := Aside0.mk c27
                        clear c27
                        obtain ⟨y379, hy379⟩ : ∃ y_ : List Int, y_ = (t376 ++ y375) := ⟨_, rfl⟩
                        replace H : (if x371002_1.length < 5864062014805 then (impl_InverseOf.l0 k1 a0_1 l0_2 (l0_2.length : Int) (wrap64 (x32_1 + 1)) a0_0 a0_1 l0_2 a0_0 (wrap64 (2 * a0_1)) (x371002_1 ++ [y379])) else (none)) = some (r1, r2, r3, r4) := by first | (rw [hy379]; with_reducible exact H) | (have H2_ := (Option.bind_some _ _).symm.trans H; rw [hy379]; with_reducible exact H2_) | (have H2_ := (Option.bind_some _ _).symm.trans H; with_reducible exact H2_) | with_reducible exact H | (rw [hy379]; exact H) | exact H
                        have Ny379 := Aside0.mk hy379
                        clear hy379
                        by_cases c28 : x371002_1.length < 5864062014805
                        · rw [if_pos c28] at H
                          have LMc28 := Aside0.mk c28
                          clear c28
                          obtain ⟨y382, hy382⟩ : ∃ y_ : List (List Int), y_ = (x371002_1 ++ [y379]) := ⟨_, rfl⟩
                          replace H : (impl_InverseOf.l0 k1 a0_1 l0_2 (l0_2.length : Int) (wrap64 (x32_1 + 1)) a0_0 a0_1 l0_2 a0_0 (wrap64 (2 * a0_1)) y382) = some (r1, r2, r3, r4) := by first | (rw [hy382]; with_reducible exact H) | (have H2_ := (Option.bind_some _ _).symm.trans H; rw [hy382]; with_reducible exact H2_) | (have H2_ := (Option.bind_some _ _).symm.trans H; with_reducible exact H2_) | with_reducible exact H | (rw [hy382]; exact H) | exact H
                          have Ny382 := Aside0.mk hy382
                          clear hy382
                          have H' := Aside0.mk H
                          clear H
                          have p371 : 0 ≤ (x32_1 : Int) := of_decide_eq_true (by first | (with_reducible assumption) | assumption)
                          have q371 : x32_1 < (l0_2.length : Int) := of_decide_eq_true (by first | (with_reducible assumption) | assumption)
                          obtain ⟨ad371, A371_0, c371_0, e371, hx371_0, hl371_0, hi371_0⟩ := at_L1 HR0_2.out x32_1 p371 q371
                          cases e371
                          replace hx371_0 := (HB.out.cell (World.block_lt_of_cell? w _ hx371_0)).trans hx371_0
                          have HR371_0 := Aside0.mk hi371_0
                          have HC371_0 := Aside0.mk hl371_0
                          clear hi371_0 hl371_0
                          replace p371 := eq_true p371
                          replace q371 := eq_true q371
                          try go_wp2_with (first | ((with_reducible refine gate_dst (N := 38) rfl ?_); refine Kd.R_make (Kd.int .i64) _ 2 rfl (N := 38) rfl 35 _ _ rfl a0_1 rfl rfl Try.underlying35 (.int .i64 0) 8 info2 rfl (by decide) (by omega) 0 (ok := fun _ => True) (okp := fun _ => True) rfl (fun _ hk => hk) trivial (of_decide_eq_true (by first | (with_reducible assumption) | assumption)) (Nat.le_trans (Nat.mul_le_mul_right _ (of_decide_eq_true (by first | (with_reducible assumption) | assumption) : a0_1.toNat ≤ 35184372088832)) (by omega)) (Below.refl _ _) (Nat.le_refl _) ?_; intro v373 w29 ho30 hb hg_ hnew_; clear hg_ hnew_; (first | rw [← Ny372.out] at ho30 | (simp only [Int.reduceToNat] at ho30; rw [← Ny372.out] at ho30)); have n0_ := Aside0.mk (Kd.S_elder' (by (with_reducible repeat (first | apply Kd.S_alloc | apply Kd.S_drewN | apply Kd.S_drew)); exact HO_371002.out) (Kd.R_base ho30) hb); have n1_ := Aside0.mk (Kd.R_lower ho30 (below_size (by repeat (first | (with_reducible first | exact HB.out | apply below_alloc | apply pw_below_drewN | apply below_drew1 | refine below_set ?_ GE366.out | refine below_set ?_ GE367.out | refine below_set ?_ GE370.out) | exact HB.out)))); have n2_ := Aside0.mk (blk_below (g := gb366) (o := .cells #[.int .i64 a0_0, .int .i64 a0_1, .slice (some ad371) l0_2.length c0_2] 26 (0, 0)) (by (with_reducible repeat (first | refine blk_drewN ?_ _ | refine blk_drew ?_ | refine blk_alloc ?_ _)); exact BK366.out) hb); have n3_ := Aside0.mk (blk_below (g := gb367) (o := .cells #[.int .i64 0, .int .i64 0, .slice none 0 0] 26 (0, 0)) (by (with_reducible repeat (first | refine blk_drewN ?_ _ | refine blk_drew ?_ | refine blk_alloc ?_ _)); exact BK367.out) hb); have n4_ := Aside0.mk (blk_below (g := gb370) (o := .cells #[.int .i64 a0_0, .int .i64 (wrap64 (2 * a0_1)), u371002] 26 (0, 0)) (by (with_reducible repeat (first | refine blk_drewN ?_ _ | refine blk_drew ?_ | refine blk_alloc ?_ _)); exact BK370.out) hb); have n5_ := Aside0.mk (below_step (by repeat (first | (with_reducible first | exact HB.out | apply below_alloc | apply pw_below_drewN | apply below_drew1 | refine below_set ?_ GE366.out | refine below_set ?_ GE367.out | refine below_set ?_ GE370.out) | exact HB.out)) hb); clear HO_371002; clear BK366; clear BK367; clear BK370; clear HB; have HO_371002 := n0_; have HO374 := n1_; have BK366 := n2_; have BK367 := n3_; have BK370 := n4_; have HB := n5_; clear n0_ n1_ n2_ n3_ n4_ n5_; clear hb ho30; have p25 : 0 ≤ (x32_1 : Int) := of_decide_eq_true (by first | (with_reducible assumption) | assumption); have q25 : (x32_1 : Int) < ((y372.length : Int) : Int) := of_decide_eq_true (by first | (with_reducible assumption) | assumption); obtain ⟨go25, co25, eo25, gb25, gl25, cl25, HG25⟩ := Kd.R_form HO374.out (by omega); (first | cases eo25 | (injection eo25 with ea_ en_ ec_; (first | subst ea_ | (injection ea_ with ea_; subst ea_)); subst ec_; clear en_)); have GB25 := Aside0.mk gb25; have GG25 := Aside0.mk HG25; clear gb25 gl25 HG25; obtain ⟨hx25_0, hf25_0⟩ := Kd.R_celln 0 HO374.out (x32_1 : Int) p25 q25; replace p25 := eq_true p25; replace q25 := eq_true q25; obtain ⟨hy31_, hz31_⟩ := Kd.R_celln 0 HO374.out (x32_1 : Int) (of_decide_eq_true (by first | (with_reducible assumption) | assumption)) (of_decide_eq_true (by first | (with_reducible assumption) | assumption)); have HP31 := Kd.R_putg HO374.out (x32_1 : Int) 1) | ((with_reducible refine gate_store (t := 2) (p := 41) rfl ?_); refine store_event (t := 2) (p := 41) (v := ?vo_w32) (w1 := (w29.setCell ⟨go25, (x32_1 : Int).toNat, none⟩ (.int .i64 1))) ?hg ?ho ?hn ?hr ?_; (case ho => rfl); (case hg => rfl); (case hn => rfl); (case hr => first | (go_simp; done) | (go_simp; rfl)); intro w32 hw; have hg : w29.grownBy w32 (some go25) := (by rw [hw]; exact HP31.2); have hp_ : Kd.R (Kd.int .i64) 2 w32 w.heap.size (fun _ => True) (.slice (some ⟨go25, 0, none⟩) y372.length co25) y375 := (by rw [hw, Ny375.out]; exact HP31.1); clear HP31; have n0_ := Aside0.mk (Kd.S_after (v := (.slice (some ⟨go25, 0, none⟩) y372.length co25)) (v1 := (.slice (some ⟨go25, 0, none⟩) y372.length co25)) (ok := (fun _ => True)) (by (with_reducible repeat (first | apply Kd.S_alloc | apply Kd.S_drewN | apply Kd.S_drew)); (first | exact HO_371002.out | exact Kd.S_mono HO_371002.out (fun k_ hk_ => ⟨⟨hk_.1.2, hk_.1.1⟩, hk_.2⟩))) hg (.inl rfl)); have n1_ := Aside0.mk (blk_grown (g := gb366) (o := .cells #[.int .i64 a0_0, .int .i64 a0_1, .slice (some ad371) l0_2.length c0_2] 26 (0, 0)) (by (with_reducible repeat (first | refine blk_drewN ?_ _ | refine blk_drew ?_ | refine blk_alloc ?_ _)); exact BK366.out) hg (Kd.R_ne HO374.out BK366.out (by decide))); have n2_ := Aside0.mk (blk_grown (g := gb367) (o := .cells #[.int .i64 0, .int .i64 0, .slice none 0 0] 26 (0, 0)) (by (with_reducible repeat (first | refine blk_drewN ?_ _ | refine blk_drew ?_ | refine blk_alloc ?_ _)); exact BK367.out) hg (Kd.R_ne HO374.out BK367.out (by decide))); have n3_ := Aside0.mk (blk_grown (g := gb370) (o := .cells #[.int .i64 a0_0, .int .i64 (wrap64 (2 * a0_1)), u371002] 26 (0, 0)) (by (with_reducible repeat (first | refine blk_drewN ?_ _ | refine blk_drew ?_ | refine blk_alloc ?_ _)); exact BK370.out) hg (Kd.R_ne HO374.out BK370.out (by decide))); have n4_ := Aside0.mk (hp_); have n5_ := Aside0.mk ((by rw [hw]; exact below_set (HB.out) GB25.out : Below w.heap.size w w32)); clear HO_371002; clear BK366; clear BK367; clear BK370; clear HO374; clear HB; have HO_371002 := n0_; have BK366 := n1_; have BK367 := n2_; have BK370 := n3_; have HO374 := n4_; have HB := n5_; clear n0_ n1_ n2_ n3_ n4_ n5_; clear hg hw hp_))
                          have n0_ := Aside0.mk (Kd.S_drew HO_371002.out)
                          have n1_ := Aside0.mk (Kd.R_drew HO374.out)
                          have n2_ := Aside0.mk (blk_drew BK366.out)
                          have n3_ := Aside0.mk (blk_drew BK367.out)
                          have n4_ := Aside0.mk (blk_drew BK370.out)
                          have n5_ := Aside0.mk (below_drew1 HB.out)
                          clear HO_371002
                          clear HO374
                          clear BK366
                          clear BK367
                          clear BK370
                          clear HB
                          have HO_371002 := n0_
                          have HO374 := n1_
                          have BK366 := n2_
                          have BK367 := n3_
                          have BK370 := n4_
                          have HB := n5_
                          clear n0_ n1_ n2_ n3_ n4_ n5_
                          refine start_ (n := 10) (S := fun w' => w'.cell? ⟨gb370, 0, none⟩ = some (.int .i64 a0_0) ∧ w'.cell? ⟨gb370, 1, none⟩ = some (.int .i64 (wrap64 (2 * a0_1))) ∧ w'.cell? ⟨gb370, 2, none⟩ = some (u371002)) (ds := [9]) #[false, false, false, false, false, false, false, false, false, false] (by kernel_rfl) rfl rfl ⟨(blk_cell BK370.out 0).trans rfl, (blk_cell BK370.out 1).trans rfl, (blk_cell BK370.out 2).trans rfl⟩ (fun hHeld => ?_); refine with_tabW impl_InverseOf.tab12 impl_InverseOf.bits12 (fun HT_ HW_ => ?_)
                          generalize w32.drew = w33 at HO_371002 HO374 BK366 BK367 BK370 HB hHeld ⊢
                          refine pure_ (i := 0) (N := some 42) (v := ?_) (a' := ?_) #[true, false, false, false, false, false, false, false, false, false] rfl rfl (any_of HT_.out (by kernel_rfl)) (fun _ _ _ h => h) (Or.inl ⟨by rfl, ?_⟩) ?_ ?_
                          rotate_left
                          · intro w'
                            first | (go_simp; with_reducible rfl) | (simp [go_sem, Instr.field, asAgg] <;> with_reducible rfl)
                          rotate_left
                          · simp only [Act.put, List.setIfInBounds_toArray, List.set_cons_zero, List.set_cons_succ, i64_w, i32_w]
                            rfl
                          refine pure_ (i := 2) (N := some 44) (v := ?_) (a' := ?_) #[true, false, true, false, false, false, false, false, false, false] rfl rfl (any_of HT_.out (by kernel_rfl)) (fun _ _ _ h => h) (Or.inl ⟨by rfl, ?_⟩) ?_ ?_
                          rotate_left
                          · intro w'
                            first | (go_simp; with_reducible rfl) | (simp [go_sem, Instr.field, asAgg] <;> with_reducible rfl)
                          rotate_left
                          · simp only [Act.put, List.setIfInBounds_toArray, List.set_cons_zero, List.set_cons_succ, i64_w, i32_w]
                            rfl
                          refine pure_ (i := 4) (N := some 46) (v := ?_) (a' := ?_) #[true, false, true, false, true, false, false, false, false, false] rfl rfl (any_of HT_.out (by kernel_rfl)) (fun _ _ _ h => h) (Or.inl ⟨by rfl, ?_⟩) ?_ ?_
                          rotate_left
                          · intro w'
                            first | (go_simp; with_reducible rfl) | (simp [go_sem, Instr.field, asAgg] <;> with_reducible rfl)
                          rotate_left
                          · simp only [Act.put, List.setIfInBounds_toArray, List.set_cons_zero, List.set_cons_succ, i64_w, i32_w]
                            rfl
                          refine take_ (i := 1) (N := some 43) (v := ?_) (a' := ?_) #[true, true, true, false, true, false, false, false, false, false] rfl rfl (take_ofW HT_.out HW_.out (by kernel_rfl)) (fun _ _ _ h => h) (Or.inl ⟨by rfl, ?_⟩) hHeld ?_ ?_
                          rotate_left
                          · rintro w' ⟨s0, s1, s2⟩
                            go_simp
                            with_reducible rfl
                          rotate_left
                          · simp only [Act.put, List.setIfInBounds_toArray, List.set_cons_zero, List.set_cons_succ, i64_w, i32_w]
                            rfl
                          refine one_ (i := 3) (N := some 45) #[true, true, true, true, true, false, false, false, false, false] rfl rfl (one_of HT_.out (by kernel_rfl)) (by decide) (fun K hK => ?_)
                          refine goes_ Try.func64 (by kernel_rfl) rfl #[.slice A371_0 (rd_L1 l0_2 x32_1).length c371_0] (by rfl) rfl rfl (by (try simp only [List.map_toArray, List.map_cons, List.map_nil]); first | done | rfl | (simp only [List.length_drop, List.length_take]; rfl)) ?_
                          with_reducible refine (slices_Clone_int64_int64.calls _ _ (rd_L1 l0_2 x32_1) t376 _ ?side1 ?side2 A26.out).mono ?_
                          (case side1 => repeat (first | exact (Kd.C_below HR371_0.out HB.out) | (with_reducible refine Kd.C_alloc ?_ _) | (with_reducible refine Kd.C_drewN ?_ _) | (with_reducible refine Kd.C_drew ?_)))
                          (case side2 => exact HC371_0.out)
                          rintro e w34 ⟨v377, rfl, ho0, hb⟩
                          refine ⟨_, rfl, ?_⟩
                          have n0_ := Aside0.mk (Kd.S_elder' (by (with_reducible repeat (first | apply Kd.S_alloc | apply Kd.S_drewN | apply Kd.S_drew)); exact HO_371002.out) (Kd.R_base ho0) hb)
                          have n1_ := Aside0.mk (Kd.R_elder' (by (with_reducible repeat (first | apply Kd.R_alloc | apply Kd.R_drewN | apply Kd.R_drew)); exact HO374.out) (Kd.R_base ho0) hb)
                          have n2_ := Aside0.mk (Kd.R_lower (Kd.R_new' ho0 (Kd.R_lt (by (with_reducible repeat (first | apply Kd.R_alloc | apply Kd.R_drewN | apply Kd.R_drew)); exact HO374.out))) (below_size (by repeat (first | (with_reducible first | exact HB.out | apply below_alloc | apply pw_below_drewN | apply below_drew1 | refine below_set ?_ GE366.out | refine below_set ?_ GE367.out | refine below_set ?_ GE370.out) | exact HB.out))))
                          have n3_ := Aside0.mk (blk_below (g := gb366) (o := .cells #[.int .i64 a0_0, .int .i64 a0_1, .slice (some ad371) l0_2.length c0_2] 26 (0, 0)) (by (with_reducible repeat (first | refine blk_drewN ?_ _ | refine blk_drew ?_ | refine blk_alloc ?_ _)); exact BK366.out) hb)
                          have n4_ := Aside0.mk (blk_below (g := gb367) (o := .cells #[.int .i64 0, .int .i64 0, .slice none 0 0] 26 (0, 0)) (by (with_reducible repeat (first | refine blk_drewN ?_ _ | refine blk_drew ?_ | refine blk_alloc ?_ _)); exact BK367.out) hb)
                          have n5_ := Aside0.mk (blk_below (g := gb370) (o := .cells #[.int .i64 a0_0, .int .i64 (wrap64 (2 * a0_1)), u371002] 26 (0, 0)) (by (with_reducible repeat (first | refine blk_drewN ?_ _ | refine blk_drew ?_ | refine blk_alloc ?_ _)); exact BK370.out) hb)
                          have n6_ := Aside0.mk (below_step (by repeat (first | (with_reducible first | exact HB.out | apply below_alloc | apply pw_below_drewN | apply below_drew1 | refine below_set ?_ GE366.out | refine below_set ?_ GE367.out | refine below_set ?_ GE370.out) | exact HB.out)) hb)
                          clear HO_371002
                          clear HO374
                          clear BK366
                          clear BK367
                          clear BK370
                          clear HB
                          have HO_371002 := n0_
                          have HO374 := n1_
                          have HO378 := n2_
                          have BK366 := n3_
                          have BK367 := n4_
                          have BK370 := n5_
                          have HB := n6_
                          clear n0_ n1_ n2_ n3_ n4_ n5_ n6_
                          (try clear hb)
                          (try clear hb2)
                          (try clear hk)
                          (try clear hi)
                          (try clear ho0)
                          refine hK.out _ _ ⟨(blk_cell BK370.out 0).trans rfl, (blk_cell BK370.out 1).trans rfl, (blk_cell BK370.out 2).trans rfl⟩ (fun hHeld => ?_)
                          clear hK K
                          refine norm_ (a' := ?_) ?_ ?_
                          rotate_left
                          · show Act.put _ (some 45) _ = _
                            simp only [Act.put, List.setIfInBounds_toArray, List.set_cons_zero, List.set_cons_succ, i64_w, i32_w]
                            rfl
                          refine one_ (i := 5) (N := some 47) #[true, true, true, true, true, true, false, false, false, false] rfl rfl (one_of HT_.out (by kernel_rfl)) (by decide) (fun K hK => ?_)
                          refine Kd.R_append_rows_step (Kd.int .i64) (w0 := w) w.heap.size (by rfl) (.tmp 45) (.tmp 46) 35 2 (.int .i64 0) 8 rfl Try.underlying35 info2 rfl (by decide) (by omega) v377 t376 y375 _ _ _ (fun k_ => some k_ ≠ (.slice (some ⟨go25, 0, none⟩) y372.length co25 : Value).ownBlock) (fun _ => False) rfl rfl ?aO ?aR (fun _ _ h => h) (fun _ h => h.elim) ?aF ?aB ?aS ?aL ?_
                          (case aR => rw [show y372.length = y375.length from (Kd.R_reads' HO374.out).1]; repeat (first | exact (Kd.R_reads' HO374.out).2.2 | (with_reducible refine Kd.C_alloc ?_ _) | (with_reducible refine Kd.C_drewN ?_ _) | (with_reducible refine Kd.C_drew ?_)))
                          (case aB => exact (by repeat (first | (with_reducible first | exact HB.out | apply below_alloc | apply pw_below_drewN | apply below_drew1 | refine below_set ?_ GE366.out | refine below_set ?_ GE367.out | refine below_set ?_ GE370.out) | exact HB.out)))
                          (case aF => exact (fun k_ hk => Kd.fresh' (Kd.R_lt (by (with_reducible repeat (first | apply Kd.R_alloc | apply Kd.R_drewN | apply Kd.R_drew)); exact HO374.out)) k_ hk))
                          (case aO => exact (by (with_reducible repeat (first | apply Kd.R_alloc | apply Kd.R_drewN | apply Kd.R_drew)); exact Kd.R_mono HO378.out (fun _ hk => hk.2)))
                          (case aS => exact (below_size (by repeat (first | (with_reducible first | exact HB.out | apply below_alloc | apply pw_below_drewN | apply below_drew1 | refine below_set ?_ GE366.out | refine below_set ?_ GE367.out | refine below_set ?_ GE370.out) | exact HB.out))))
                          (case aL => have := LMc27.out; have hlx_ := (Kd.R_reads' HO374.out).1; omega)
                          intro v380 w35 ho hb hg hat
                          rw [← Ny379.out] at ho
                          have n0_ := Aside0.mk (Kd.S_after (ok := (fun k_ => some k_ ≠ (.slice (some ⟨go25, 0, none⟩) y372.length co25 : Value).ownBlock)) (by (with_reducible repeat (first | apply Kd.S_alloc | apply Kd.S_drewN | apply Kd.S_drew)); exact Kd.S_mono HO_371002.out (fun _ hk => ⟨hk.1.2, hk.2⟩)) hg hat)
                          have n1_ := Aside0.mk (blk_grown (g := gb366) (o := .cells #[.int .i64 a0_0, .int .i64 a0_1, .slice (some ad371) l0_2.length c0_2] 26 (0, 0)) (by (with_reducible repeat (first | refine blk_drewN ?_ _ | refine blk_drew ?_ | refine blk_alloc ?_ _)); exact BK366.out) hg (Kd.R_ne HO378.out BK366.out (by decide)))
                          have n2_ := Aside0.mk (blk_grown (g := gb367) (o := .cells #[.int .i64 0, .int .i64 0, .slice none 0 0] 26 (0, 0)) (by (with_reducible repeat (first | refine blk_drewN ?_ _ | refine blk_drew ?_ | refine blk_alloc ?_ _)); exact BK367.out) hg (Kd.R_ne HO378.out BK367.out (by decide)))
                          have n3_ := Aside0.mk (blk_grown (g := gb370) (o := .cells #[.int .i64 a0_0, .int .i64 (wrap64 (2 * a0_1)), u371002] 26 (0, 0)) (by (with_reducible repeat (first | refine blk_drewN ?_ _ | refine blk_drew ?_ | refine blk_alloc ?_ _)); exact BK370.out) hg (Kd.R_ne HO378.out BK370.out (by decide)))
                          have n4_ := Aside0.mk (Kd.R_after (ok := (fun _ => True)) (by (with_reducible repeat (first | apply Kd.R_alloc | apply Kd.R_drewN | apply Kd.R_drew)); (first | exact HO374.out | exact Kd.R_mono HO374.out (fun k_ hk_ => ⟨⟨hk_.1.2, hk_.1.1⟩, hk_.2⟩))) hg hat)
                          have n5_ := Aside0.mk (hb)
                          have n6_ := Aside0.mk (ho)
                          clear HO_371002
                          clear BK366
                          clear BK367
                          clear BK370
                          clear HO374
                          clear HB
                          clear HO378
                          have HO_371002 := n0_
                          have BK366 := n1_
                          have BK367 := n2_
                          have BK370 := n3_
                          have HO374 := n4_
                          have HB := n5_
                          have HO381 := n6_
                          clear n0_ n1_ n2_ n3_ n4_ n5_ n6_
                          clear ho hb hg hat
                          obtain ⟨Ao37, co37, eo37⟩ := Kd.R_slice HO381.out
                          (first | subst eo37 | (injection eo37 with f1_ f2_ f3_; have f4_ := f1_.symm; have f5_ := f3_.symm; clear f1_ f2_ f3_; subst f4_; subst f5_))
                          refine hK.out _ _ ⟨(blk_cell BK370.out 0).trans rfl, (blk_cell BK370.out 1).trans rfl, (blk_cell BK370.out 2).trans rfl⟩ (fun hHeld => ?_)
                          clear hK K
                          refine norm_ (a' := ?_) ?_ ?_
                          rotate_left
                          · show Act.put _ (some 47) _ = _
                            simp only [Act.put, List.setIfInBounds_toArray, List.set_cons_zero, List.set_cons_succ, i64_w, i32_w]
                            rfl
                          refine one_ (i := 6) (N := some 48) #[true, true, true, true, true, true, true, false, false, false] rfl rfl (one_of HT_.out (by kernel_rfl)) (by decide) (fun K hK => ?_)
                          refine value_ (w1 := ?_) (v := ?_) (by rfl) rfl ?_ ?_
                          rotate_left 2
                          · go_simp
                            constructor
                            · rfl
                            · rfl
                          refine hK.out _ _ ⟨(blk_cell (blk_alloc BK370.out _) 0).trans rfl, (blk_cell (blk_alloc BK370.out _) 1).trans rfl, (blk_cell (blk_alloc BK370.out _) 2).trans rfl⟩ (fun hHeld => ?_)
                          clear hK K
                          refine norm_ (a' := ?_) ?_ ?_
                          rotate_left
                          · show Act.put _ (some 48) _ = _
                            simp only [Act.put, List.setIfInBounds_toArray, List.set_cons_zero, List.set_cons_succ, i64_w, i32_w]
                            rfl
                          refine one_ (i := 7) (N := some 49) #[true, true, true, true, true, true, true, true, false, false] rfl rfl (one_of HT_.out (by kernel_rfl)) (by decide) (fun K hK => ?_)
                          refine Kd.S_append_step (Kd.slice 2 (Kd.int .i64)) (w0 := w) w.heap.size (by rfl) (.tmp 43) (.tmp 48) 22 35 (.slice none 0 0) 24 rfl Try.underlying22 info35 rfl (by decide) (by omega) u371002 x371002_1 y379 [.slice Ao37 y379.length co37] (fun k_ => some k_ ≠ (.slice (some ⟨go25, 0, none⟩) y372.length co25 : Value).ownBlock) (fun k_ => some k_ = (.slice Ao37 y379.length co37 : Value).ownBlock) rfl rfl ?aP (fun k_ hk_ => ((Kd.R_mono (ok' := fun k_ => ((fun k_ => some k_ ≠ (.slice (some ⟨go25, 0, none⟩) y372.length co25 : Value).ownBlock)) k_ ∧ some k_ ≠ (u371002 : Value).ownBlock) (Kd.R_apart' (HO381.out) (Kd.S_typed HO_371002.out) (by decide)) (fun k_ hk => ⟨hk.1, hk.2⟩))).1 k_ hk_.symm) ?aF ?aO ?aB ?aS ?aL ?_
                          (case aP => exact Kd.M_row (Kd.R_mono (Kd.R_tight rfl (Kd.R_mono (ok' := fun k_ => ((fun k_ => some k_ ≠ (.slice (some ⟨go25, 0, none⟩) y372.length co25 : Value).ownBlock)) k_ ∧ some k_ ≠ (u371002 : Value).ownBlock) (Kd.R_apart' (HO381.out) (Kd.S_typed HO_371002.out) (by decide)) (fun k_ hk => ⟨hk.1, hk.2⟩))) (fun _ h_ => h_)))
                          (case aB => exact (by repeat (first | (with_reducible first | exact HB.out | apply below_alloc | apply pw_below_drewN | apply below_drew1 | refine below_set ?_ GE366.out | refine below_set ?_ GE367.out | refine below_set ?_ GE370.out) | exact HB.out)))
                          (case aF => exact (fun k_ hk => Kd.fresh' (Kd.R_lt (by (with_reducible repeat (first | apply Kd.R_alloc | apply Kd.R_drewN | apply Kd.R_drew)); exact HO374.out)) k_ hk))
                          (case aO => exact (by (with_reducible repeat (first | apply Kd.S_alloc | apply Kd.S_drewN | apply Kd.S_drew)); exact Kd.S_mono HO_371002.out (fun k_ hk => ⟨hk.1, fun e_ => hk.2 e_⟩)))
                          (case aS => exact (below_size (by repeat (first | (with_reducible first | exact HB.out | apply below_alloc | apply pw_below_drewN | apply below_drew1 | refine below_set ?_ GE366.out | refine below_set ?_ GE367.out | refine below_set ?_ GE370.out) | exact HB.out))))
                          (case aL => have := LMc28.out; omega)
                          intro v383 w36 ho hb hg hat
                          rw [← Ny382.out] at ho
                          have n0_ := Aside0.mk (blk_grown (g := gb366) (o := .cells #[.int .i64 a0_0, .int .i64 a0_1, .slice (some ad371) l0_2.length c0_2] 26 (0, 0)) (by (with_reducible repeat (first | refine blk_drewN ?_ _ | refine blk_drew ?_ | refine blk_alloc ?_ _)); exact BK366.out) hg (Kd.S_ne HO_371002.out BK366.out (by decide)))
                          have n1_ := Aside0.mk (blk_grown (g := gb367) (o := .cells #[.int .i64 0, .int .i64 0, .slice none 0 0] 26 (0, 0)) (by (with_reducible repeat (first | refine blk_drewN ?_ _ | refine blk_drew ?_ | refine blk_alloc ?_ _)); exact BK367.out) hg (Kd.S_ne HO_371002.out BK367.out (by decide)))
                          have n2_ := Aside0.mk (blk_grown (g := gb370) (o := .cells #[.int .i64 a0_0, .int .i64 (wrap64 (2 * a0_1)), u371002] 26 (0, 0)) (by (with_reducible repeat (first | refine blk_drewN ?_ _ | refine blk_drew ?_ | refine blk_alloc ?_ _)); exact BK370.out) hg (Kd.S_ne HO_371002.out BK370.out (by decide)))
                          have n3_ := Aside0.mk (Kd.R_over' (by (with_reducible repeat (first | apply Kd.R_alloc | apply Kd.R_drewN | apply Kd.R_drew)); exact HO374.out) (Kd.S_typed (by (with_reducible repeat (first | apply Kd.S_alloc | apply Kd.S_drewN | apply Kd.S_drew)); exact HO_371002.out)) (by decide) hg)
                          have n4_ := Aside0.mk (hb)
                          have n5_ := Aside0.mk (ho)
                          clear BK366
                          clear BK367
                          clear BK370
                          clear HO374
                          clear HB
                          clear HO_371002
                          clear HO381
                          have BK366 := n0_
                          have BK367 := n1_
                          have BK370 := n2_
                          have HO374 := n3_
                          have HB := n4_
                          have HO384 := n5_
                          clear n0_ n1_ n2_ n3_ n4_ n5_
                          clear ho hb hg hat
                          obtain ⟨Ao38, co38, eo38⟩ := Kd.S_slice HO384.out
                          (first | subst eo38 | (injection eo38 with f1_ f2_ f3_; have f4_ := f1_.symm; have f5_ := f3_.symm; clear f1_ f2_ f3_; subst f4_; subst f5_))
                          refine hK.out _ _ ⟨(blk_cell BK370.out 0).trans rfl, (blk_cell BK370.out 1).trans rfl, (blk_cell BK370.out 2).trans rfl⟩ (fun hHeld => ?_)
                          clear hK K
                          refine norm_ (a' := ?_) ?_ ?_
                          rotate_left
                          · show Act.put _ (some 49) _ = _
                            simp only [Act.put, List.setIfInBounds_toArray, List.set_cons_zero, List.set_cons_succ, i64_w, i32_w]
                            rfl
                          refine pure_ (i := 8) (N := some 50) (v := ?_) (a' := ?_) #[true, true, true, true, true, true, true, true, true, false] rfl rfl (any_of HT_.out (by kernel_rfl)) (fun _ _ _ h => h) (Or.inl ⟨by rfl, ?_⟩) ?_ ?_
                          rotate_left
                          · intro w'
                            first | (go_simp; with_reducible rfl) | (simp [go_sem, Instr.field, asAgg] <;> with_reducible rfl)
                          rotate_left
                          · simp only [Act.put, List.setIfInBounds_toArray, List.set_cons_zero, List.set_cons_succ, i64_w, i32_w]
                            rfl
                          refine last_ (i := 9) (N := none) #[true, true, true, true, true, true, true, true, true, true] rfl rfl (one_of HT_.out (by kernel_rfl)) (by decide) (fun K hK => ?_)
                          have hs39 : w36.cell? ⟨gb370, 2, none⟩ = some (u371002) := (blk_cell BK370.out 2).trans rfl
                          have hfs39 := blk_frozen BK370.out 2
                          have hns39_0 := NB366_370.out
                          have hns39_1 := NB367_370.out
                          have hms39_0 := NB370_366.out
                          have hms39_1 := NB370_367.out
                          refine skip_ (w1 := ?_) (by rfl) rfl ?_ ?_
                          rotate_left
                          · go_simp
                            rfl
                          refine hK.out _ _ ?_
                          clear hK K
                          refine done_ (done_of HT_.out (by kernel_rfl)) ?_
                          try go_wp2
                          go_roundg k1
                          case measure => have := HK1.out; omega
                          case rel => exact ⟨(wrap64 (x32_1 + 1)), (y382), (.slice Ao38 y382.length co38), (by first | rfl | (simp; done) | (simp [*]; done)), H', ⟨by have := HK1.out; omega⟩, ⟨by (with_reducible repeat (first | apply Kd.S_alloc | apply Kd.S_drewN | apply Kd.S_drew)); exact Kd.S_mono (Kd.S_far (p := ⟨gb370, 2, none⟩) (Kd.S_types HO384.out BK370.out (by decide)) (fun _ hk => hk.2) (.slice Ao38 y382.length co38)) (fun _ hk => trivial)⟩, ⟨by (with_reducible repeat (first | refine blk_drewN ?_ _ | refine blk_drew ?_ | refine blk_alloc ?_ _)); refine blk_far ?_ NB366_370.out _; (with_reducible repeat (first | refine blk_drewN ?_ _ | refine blk_drew ?_ | refine blk_alloc ?_ _)); exact BK366.out⟩, ⟨by (with_reducible repeat (first | refine blk_drewN ?_ _ | refine blk_drew ?_ | refine blk_alloc ?_ _)); refine blk_far ?_ NB367_370.out _; (with_reducible repeat (first | refine blk_drewN ?_ _ | refine blk_drew ?_ | refine blk_alloc ?_ _)); exact BK367.out⟩, ⟨by (with_reducible repeat (first | refine blk_drewN ?_ _ | refine blk_drew ?_ | refine blk_alloc ?_ _)); refine blk_put (cs := #[.int .i64 a0_0, .int .i64 (wrap64 (2 * a0_1)), u371002]) ?_ 2 _ rfl; (with_reducible repeat (first | refine blk_drewN ?_ _ | refine blk_drew ?_ | refine blk_alloc ?_ _)); exact BK370.out⟩, ⟨by repeat (first | (with_reducible first | exact HB.out | apply below_alloc | apply pw_below_drewN | apply below_drew1 | refine below_set ?_ GE366.out | refine below_set ?_ GE367.out | refine below_set ?_ GE370.out) | exact HB.out)⟩⟩
                        · rw [if_neg c28] at H
                          exact absurd H (by simp)
                      · rw [if_neg c27] at H
                        exact absurd H (by simp)
                    · rw [if_neg c24] at H
                      exact absurd H (by simp)
                  · rw [if_neg c23] at H
                    exact absurd H (by simp)
                · rw [if_neg c22] at H
                  exact absurd H (by simp)
              · rw [if_neg c21] at H
                exact absurd H (by simp)
            · rw [if_neg c20] at H
              exact absurd H (by simp)
          · rw [if_neg c19] at H
            have c19b0 : decide (x32_1 < (l0_2.length : Int)) = false := decide_eq_false c19
            clear c19
            replace H := Option.bind_eq_some_iff.mp H
            obtain ⟨⟨t385, t386, t387, t390⟩, A400, H⟩ := H
            replace H : (impl_InverseOf.l1 k1 a0_1 t390 t387 (t387.length : Int) 0 a0_0 a0_1 ([] : List (List Int))) = some (r1, r2, r3, r4) := H
            have A40 := Aside0.mk A400
            clear A400
            have H' := Aside0.mk H
            clear H
            have hnb41 := NB370_366.out
            have hnc41 := NB366_370.out
            have hnb42 := NB370_367.out
            have hnc42 := NB367_370.out
            have hcz43_0 : wr.cell? ⟨gb370, 0, none⟩ = some (.int .i64 a0_0) := (blk_cell BK370.out 0).trans rfl
            have hcz43_1 : wr.cell? ⟨gb370, 1, none⟩ = some (.int .i64 (wrap64 (2 * a0_1))) := (blk_cell BK370.out 1).trans rfl
            have hcz43_2 : wr.cell? ⟨gb370, 2, none⟩ = some (u371002) := (blk_cell BK370.out 2).trans rfl
            have hfz43_0 := blk_frozen BK370.out 0
            have hfz43_1 := blk_frozen BK370.out 1
            have hfz43_2 := blk_frozen BK370.out 2
            obtain ⟨Ao44, co44, eo44⟩ := Kd.S_slice HO_371002.out
            subst eo44
            go_wp2_with (first | ((with_reducible refine gate_callee (f := 51) rfl ?_); refine goesL_ (some 54) rfl rfl Try.func51 (by kernel_rfl) rfl #[.agg #[.int .i64 a0_0, .int .i64 (wrap64 (2 * a0_1)), .slice Ao44 x371002_1.length co44]] rfl (by (try simp only [List.map_toArray, List.map_cons, List.map_nil]); first | done | rfl | (simp only [List.length_drop, List.length_take]; rfl)) ?_; (with_reducible refine (impl_Matrix_echelon.calls k1 a0_0 (wrap64 (2 * a0_1)) _ _ x371002_1 t385 t386 t387 t390 _ ?side1 ?side2 A40.out).mono ?_); (case side1 => repeat (first | exact (Kd.S_reads' HO_371002.out).2.2 | (with_reducible refine Kd.C_alloc ?_ _) | (with_reducible refine Kd.C_drewN ?_ _) | (with_reducible refine Kd.C_drew ?_))); (case side2 => exact (Kd.S_reads' HO_371002.out).2.1); rintro e w45 ⟨v388, v391, rfl, ho0, ho1, hb⟩; refine ⟨_, rfl, ?_⟩; have n0_ := Aside0.mk (Kd.S_elder' (by (with_reducible repeat (first | apply Kd.S_alloc | apply Kd.S_drewN | apply Kd.S_drew)); exact HO_371002.out) (Kd.S_base ho0) hb); have n1_ := Aside0.mk (Kd.S_lower (Kd.S_new' ho0 (Kd.S_lt (by (with_reducible repeat (first | apply Kd.S_alloc | apply Kd.S_drewN | apply Kd.S_drew)); exact HO_371002.out))) (below_size (by repeat (first | (with_reducible first | exact HB.out | apply below_alloc | apply pw_below_drewN | apply below_drew1 | refine below_set ?_ GE366.out | refine below_set ?_ GE367.out | refine below_set ?_ GE370.out) | exact HB.out)))); have n2_ := Aside0.mk (Kd.R_lower ho1 (below_size (by repeat (first | (with_reducible first | exact HB.out | apply below_alloc | apply pw_below_drewN | apply below_drew1 | refine below_set ?_ GE366.out | refine below_set ?_ GE367.out | refine below_set ?_ GE370.out) | exact HB.out)))); have n3_ := Aside0.mk (blk_below (g := gb366) (o := .cells #[.int .i64 a0_0, .int .i64 a0_1, .slice A0_2 l0_2.length c0_2] 26 (0, 0)) (by (with_reducible repeat (first | refine blk_drewN ?_ _ | refine blk_drew ?_ | refine blk_alloc ?_ _)); exact BK366.out) hb); have n4_ := Aside0.mk (blk_below (g := gb367) (o := .cells #[.int .i64 0, .int .i64 0, .slice none 0 0] 26 (0, 0)) (by (with_reducible repeat (first | refine blk_drewN ?_ _ | refine blk_drew ?_ | refine blk_alloc ?_ _)); exact BK367.out) hb); have n5_ := Aside0.mk (blk_below (g := gb370) (o := .cells #[.int .i64 a0_0, .int .i64 (wrap64 (2 * a0_1)), .slice Ao44 x371002_1.length co44] 26 (0, 0)) (by (with_reducible repeat (first | refine blk_drewN ?_ _ | refine blk_drew ?_ | refine blk_alloc ?_ _)); exact BK370.out) hb); have n6_ := Aside0.mk (below_step (by repeat (first | (with_reducible first | exact HB.out | apply below_alloc | apply pw_below_drewN | apply below_drew1 | refine below_set ?_ GE366.out | refine below_set ?_ GE367.out | refine below_set ?_ GE370.out) | exact HB.out)) hb); clear HO_371002; clear BK366; clear BK367; clear BK370; clear HB; have HO_371002 := n0_; have HO389 := n1_; have HO392 := n2_; have BK366 := n3_; have BK367 := n4_; have BK370 := n5_; have HB := n6_; clear n0_ n1_ n2_ n3_ n4_ n5_ n6_; (try clear hb); (try clear hb2); (try clear hk); (try clear hi); (try clear ho0); (try clear ho1)) | ((with_reducible refine gate_dst (N := 9) rfl ?_); refine box_event ?hg (N := 9) ?hd (cs := #[.int .i64 0, .int .i64 0, .slice none 0 0]) (t := 26) ?hr ?_; (case hd => rfl); (case hg => rfl); (case hr => first | (go_simp; done) | (go_simp; rfl)); intro gb393 hg w46 hbox hb; have n0_ := Aside0.mk (Kd.S_below (by (with_reducible repeat (first | apply Kd.S_alloc | apply Kd.S_drewN | apply Kd.S_drew)); exact HO_371002.out) hb); have n1_ := Aside0.mk (Kd.S_below (by (with_reducible repeat (first | apply Kd.S_alloc | apply Kd.S_drewN | apply Kd.S_drew)); exact HO389.out) hb); have n2_ := Aside0.mk (Kd.R_below (by (with_reducible repeat (first | apply Kd.R_alloc | apply Kd.R_drewN | apply Kd.R_drew)); exact HO392.out) hb); have n3_ := Aside0.mk (blk_below (g := gb366) (o := .cells #[.int .i64 a0_0, .int .i64 a0_1, .slice A0_2 l0_2.length c0_2] 26 (0, 0)) (by (with_reducible repeat (first | refine blk_drewN ?_ _ | refine blk_drew ?_ | refine blk_alloc ?_ _)); exact BK366.out) hb); have n4_ := Aside0.mk (blk_below (g := gb367) (o := .cells #[.int .i64 0, .int .i64 0, .slice none 0 0] 26 (0, 0)) (by (with_reducible repeat (first | refine blk_drewN ?_ _ | refine blk_drew ?_ | refine blk_alloc ?_ _)); exact BK367.out) hb); have n5_ := Aside0.mk (blk_below (g := gb370) (o := .cells #[.int .i64 a0_0, .int .i64 (wrap64 (2 * a0_1)), .slice Ao44 x371002_1.length co44] 26 (0, 0)) (by (with_reducible repeat (first | refine blk_drewN ?_ _ | refine blk_drew ?_ | refine blk_alloc ?_ _)); exact BK370.out) hb); have n6_ := Aside0.mk (below_step (by repeat (first | (with_reducible first | exact HB.out | apply below_alloc | apply pw_below_drewN | apply below_drew1 | refine below_set ?_ GE366.out | refine below_set ?_ GE367.out | refine below_set ?_ GE370.out) | exact HB.out)) hb); have n7_ := Aside0.mk (hbox); have n8_ := Aside0.mk ((by rw [hg]; exact (below_size (by repeat (first | (with_reducible first | exact HB.out | apply below_alloc | apply pw_below_drewN | apply below_drew1 | refine below_set ?_ GE366.out | refine below_set ?_ GE367.out | refine below_set ?_ GE370.out) | exact HB.out))) : w.heap.size ≤ gb393)); have n9_ := Aside0.mk ((by rw [hg]; exact (below_size (by repeat (first | (with_reducible first | exact HB.out | apply below_alloc | apply pw_below_drewN | apply below_drew1 | refine below_set ?_ GE366.out | refine below_set ?_ GE367.out | refine below_set ?_ GE370.out) | exact HB.out))) : w.heap.size ≤ gb393)); have n10_ := Aside0.mk ((by rw [hg]; exact Nat.ne_of_lt (blk_lt (g := gb366) (o := .cells #[.int .i64 a0_0, .int .i64 a0_1, .slice A0_2 l0_2.length c0_2] 26 (0, 0)) (by (with_reducible repeat (first | refine blk_drewN ?_ _ | refine blk_drew ?_ | refine blk_alloc ?_ _)); exact BK366.out)) : gb366 ≠ gb393)); have n11_ := Aside0.mk ((by rw [hg]; exact Nat.ne_of_gt (blk_lt (g := gb366) (o := .cells #[.int .i64 a0_0, .int .i64 a0_1, .slice A0_2 l0_2.length c0_2] 26 (0, 0)) (by (with_reducible repeat (first | refine blk_drewN ?_ _ | refine blk_drew ?_ | refine blk_alloc ?_ _)); exact BK366.out)) : gb393 ≠ gb366)); have n12_ := Aside0.mk ((by rw [hg]; exact Nat.ne_of_lt (blk_lt (g := gb367) (o := .cells #[.int .i64 0, .int .i64 0, .slice none 0 0] 26 (0, 0)) (by (with_reducible repeat (first | refine blk_drewN ?_ _ | refine blk_drew ?_ | refine blk_alloc ?_ _)); exact BK367.out)) : gb367 ≠ gb393)); have n13_ := Aside0.mk ((by rw [hg]; exact Nat.ne_of_gt (blk_lt (g := gb367) (o := .cells #[.int .i64 0, .int .i64 0, .slice none 0 0] 26 (0, 0)) (by (with_reducible repeat (first | refine blk_drewN ?_ _ | refine blk_drew ?_ | refine blk_alloc ?_ _)); exact BK367.out)) : gb393 ≠ gb367)); have n14_ := Aside0.mk ((by rw [hg]; exact Nat.ne_of_lt (blk_lt (g := gb370) (o := .cells #[.int .i64 a0_0, .int .i64 (wrap64 (2 * a0_1)), .slice Ao44 x371002_1.length co44] 26 (0, 0)) (by (with_reducible repeat (first | refine blk_drewN ?_ _ | refine blk_drew ?_ | refine blk_alloc ?_ _)); exact BK370.out)) : gb370 ≠ gb393)); have n15_ := Aside0.mk ((by rw [hg]; exact Nat.ne_of_gt (blk_lt (g := gb370) (o := .cells #[.int .i64 a0_0, .int .i64 (wrap64 (2 * a0_1)), .slice Ao44 x371002_1.length co44] 26 (0, 0)) (by (with_reducible repeat (first | refine blk_drewN ?_ _ | refine blk_drew ?_ | refine blk_alloc ?_ _)); exact BK370.out)) : gb393 ≠ gb370)); clear HO_371002; clear HO389; clear HO392; clear BK366; clear BK367; clear BK370; clear HB; have HO_371002 := n0_; have HO389 := n1_; have HO392 := n2_; have BK366 := n3_; have BK367 := n4_; have BK370 := n5_; have HB := n6_; have BK393 := n7_; have GW393 := n8_; have GE393 := n9_; have NB366_393 := n10_; have NB393_366 := n11_; have NB367_393 := n12_; have NB393_367 := n13_; have NB370_393 := n14_; have NB393_370 := n15_; clear n0_ n1_ n2_ n3_ n4_ n5_ n6_ n7_ n8_ n9_ n10_ n11_ n12_ n13_ n14_ n15_; clear hb hbox hg; have hnb47 := NB393_366.out; have hnc47 := NB366_393.out; have hnb48 := NB393_367.out; have hnc48 := NB367_393.out; have hnb49 := NB393_370.out; have hnc49 := NB370_393.out; have hcz50_0 : w46.cell? ⟨gb393, 0, none⟩ = some (.int .i64 0) := (blk_cell BK393.out 0).trans rfl; have hcz50_1 : w46.cell? ⟨gb393, 1, none⟩ = some (.int .i64 0) := (blk_cell BK393.out 1).trans rfl; have hcz50_2 : w46.cell? ⟨gb393, 2, none⟩ = some (.slice none 0 0) := (blk_cell BK393.out 2).trans rfl; have hfz50_0 := blk_frozen BK393.out 0; have hfz50_1 := blk_frozen BK393.out 1; have hfz50_2 := blk_frozen BK393.out 2; obtain ⟨Ao51, co51, eo51⟩ := Kd.S_slice HO389.out; subst eo51; have hnb52 := NB366_367.out; have hnc52 := NB367_366.out; have hcz53_0 : w46.cell? ⟨gb366, 0, none⟩ = some (.int .i64 a0_0) := (blk_cell BK366.out 0).trans rfl; have hcz53_1 : w46.cell? ⟨gb366, 1, none⟩ = some (.int .i64 a0_1) := (blk_cell BK366.out 1).trans rfl; have hcz53_2 : w46.cell? ⟨gb366, 2, none⟩ = some (.slice A0_2 l0_2.length c0_2) := (blk_cell BK366.out 2).trans rfl; have hfz53_0 := blk_frozen BK366.out 0; have hfz53_1 := blk_frozen BK366.out 1; have hfz53_2 := blk_frozen BK366.out 2) | ((with_reducible refine gate_dst (N := 11) rfl ?_); refine box_event ?hg (N := 11) ?hd (cs := #[.int .i64 0, .int .i64 0, .slice none 0 0]) (t := 26) ?hr ?_; (case hd => rfl); (case hg => rfl); (case hr => first | (go_simp; done) | (go_simp; rfl)); intro gb394 hg w54 hbox hb; have n0_ := Aside0.mk (Kd.S_below (by (with_reducible repeat (first | apply Kd.S_alloc | apply Kd.S_drewN | apply Kd.S_drew)); exact (Kd.S_mono (Kd.S_far (p := ⟨gb393, 2, none⟩) (Kd.S_far (p := ⟨gb393, 1, none⟩) (Kd.S_far (p := ⟨gb393, 0, none⟩) (Kd.S_types HO_371002.out BK393.out (by decide)) (fun _ hk => hk.2) (.int .i64 t385)) (fun _ hk => hk.2) (.int .i64 t386)) (fun _ hk => hk.2) (.slice Ao51 t387.length co51)) (fun _ h_ => h_.1))) hb); have n1_ := Aside0.mk (Kd.S_below (by (with_reducible repeat (first | apply Kd.S_alloc | apply Kd.S_drewN | apply Kd.S_drew)); exact (Kd.S_mono (Kd.S_far (p := ⟨gb393, 2, none⟩) (Kd.S_far (p := ⟨gb393, 1, none⟩) (Kd.S_far (p := ⟨gb393, 0, none⟩) (Kd.S_types HO389.out BK393.out (by decide)) (fun _ hk => hk.2) (.int .i64 t385)) (fun _ hk => hk.2) (.int .i64 t386)) (fun _ hk => hk.2) (.slice Ao51 t387.length co51)) (fun _ h_ => h_.1))) hb); have n2_ := Aside0.mk (Kd.R_below (by (with_reducible repeat (first | apply Kd.R_alloc | apply Kd.R_drewN | apply Kd.R_drew)); exact (Kd.R_mono (Kd.R_far (p := ⟨gb393, 2, none⟩) (Kd.R_far (p := ⟨gb393, 1, none⟩) (Kd.R_far (p := ⟨gb393, 0, none⟩) (Kd.R_types HO392.out BK393.out (by decide)) (fun _ hk => hk.2) (.int .i64 t385)) (fun _ hk => hk.2) (.int .i64 t386)) (fun _ hk => hk.2) (.slice Ao51 t387.length co51)) (fun _ h_ => h_.1))) hb); have n3_ := Aside0.mk (blk_below (g := gb366) (o := .cells #[.int .i64 a0_0, .int .i64 a0_1, .slice A0_2 l0_2.length c0_2] 26 (0, 0)) (by (with_reducible repeat (first | refine blk_drewN ?_ _ | refine blk_drew ?_ | refine blk_alloc ?_ _)); refine blk_far ?_ NB366_393.out _; (with_reducible repeat (first | refine blk_drewN ?_ _ | refine blk_drew ?_ | refine blk_alloc ?_ _)); refine blk_far ?_ NB366_393.out _; (with_reducible repeat (first | refine blk_drewN ?_ _ | refine blk_drew ?_ | refine blk_alloc ?_ _)); refine blk_far ?_ NB366_393.out _; (with_reducible repeat (first | refine blk_drewN ?_ _ | refine blk_drew ?_ | refine blk_alloc ?_ _)); exact BK366.out) hb); have n4_ := Aside0.mk (blk_below (g := gb367) (o := .cells #[.int .i64 0, .int .i64 0, .slice none 0 0] 26 (0, 0)) (by (with_reducible repeat (first | refine blk_drewN ?_ _ | refine blk_drew ?_ | refine blk_alloc ?_ _)); refine blk_far ?_ NB367_393.out _; (with_reducible repeat (first | refine blk_drewN ?_ _ | refine blk_drew ?_ | refine blk_alloc ?_ _)); refine blk_far ?_ NB367_393.out _; (with_reducible repeat (first | refine blk_drewN ?_ _ | refine blk_drew ?_ | refine blk_alloc ?_ _)); refine blk_far ?_ NB367_393.out _; (with_reducible repeat (first | refine blk_drewN ?_ _ | refine blk_drew ?_ | refine blk_alloc ?_ _)); exact BK367.out) hb); have n5_ := Aside0.mk (blk_below (g := gb370) (o := .cells #[.int .i64 a0_0, .int .i64 (wrap64 (2 * a0_1)), .slice Ao44 x371002_1.length co44] 26 (0, 0)) (by (with_reducible repeat (first | refine blk_drewN ?_ _ | refine blk_drew ?_ | refine blk_alloc ?_ _)); refine blk_far ?_ NB370_393.out _; (with_reducible repeat (first | refine blk_drewN ?_ _ | refine blk_drew ?_ | refine blk_alloc ?_ _)); refine blk_far ?_ NB370_393.out _; (with_reducible repeat (first | refine blk_drewN ?_ _ | refine blk_drew ?_ | refine blk_alloc ?_ _)); refine blk_far ?_ NB370_393.out _; (with_reducible repeat (first | refine blk_drewN ?_ _ | refine blk_drew ?_ | refine blk_alloc ?_ _)); exact BK370.out) hb); have n6_ := Aside0.mk (blk_below (g := gb393) (o := .cells #[.int .i64 t385, .int .i64 t386, .slice Ao51 t387.length co51] 26 (0, 0)) (by (with_reducible repeat (first | refine blk_drewN ?_ _ | refine blk_drew ?_ | refine blk_alloc ?_ _)); refine blk_put (cs := #[.int .i64 t385, .int .i64 t386, .slice none 0 0]) ?_ 2 _ rfl; (with_reducible repeat (first | refine blk_drewN ?_ _ | refine blk_drew ?_ | refine blk_alloc ?_ _)); refine blk_put (cs := #[.int .i64 t385, .int .i64 0, .slice none 0 0]) ?_ 1 _ rfl; (with_reducible repeat (first | refine blk_drewN ?_ _ | refine blk_drew ?_ | refine blk_alloc ?_ _)); refine blk_put (cs := #[.int .i64 0, .int .i64 0, .slice none 0 0]) ?_ 0 _ rfl; (with_reducible repeat (first | refine blk_drewN ?_ _ | refine blk_drew ?_ | refine blk_alloc ?_ _)); exact BK393.out) hb); have n7_ := Aside0.mk (below_step (by repeat (first | (with_reducible first | exact HB.out | apply below_alloc | apply pw_below_drewN | apply below_drew1 | refine below_set ?_ GE366.out | refine below_set ?_ GE367.out | refine below_set ?_ GE370.out | refine below_set ?_ GE393.out) | exact HB.out)) hb); have n8_ := Aside0.mk (hbox); have n9_ := Aside0.mk ((by rw [hg]; exact (below_size (by repeat (first | (with_reducible first | exact HB.out | apply below_alloc | apply pw_below_drewN | apply below_drew1 | refine below_set ?_ GE366.out | refine below_set ?_ GE367.out | refine below_set ?_ GE370.out | refine below_set ?_ GE393.out) | exact HB.out))) : w.heap.size ≤ gb394)); have n10_ := Aside0.mk ((by rw [hg]; exact (below_size (by repeat (first | (with_reducible first | exact HB.out | apply below_alloc | apply pw_below_drewN | apply below_drew1 | refine below_set ?_ GE366.out | refine below_set ?_ GE367.out | refine below_set ?_ GE370.out | refine below_set ?_ GE393.out) | exact HB.out))) : w.heap.size ≤ gb394)); have n11_ := Aside0.mk ((by rw [hg]; exact Nat.ne_of_lt (blk_lt (g := gb366) (o := .cells #[.int .i64 a0_0, .int .i64 a0_1, .slice A0_2 l0_2.length c0_2] 26 (0, 0)) (by (with_reducible repeat (first | refine blk_drewN ?_ _ | refine blk_drew ?_ | refine blk_alloc ?_ _)); refine blk_far ?_ NB366_393.out _; (with_reducible repeat (first | refine blk_drewN ?_ _ | refine blk_drew ?_ | refine blk_alloc ?_ _)); refine blk_far ?_ NB366_393.out _; (with_reducible repeat (first | refine blk_drewN ?_ _ | refine blk_drew ?_ | refine blk_alloc ?_ _)); refine blk_far ?_ NB366_393.out _; (with_reducible repeat (first | refine blk_drewN ?_ _ | refine blk_drew ?_ | refine blk_alloc ?_ _)); exact BK366.out)) : gb366 ≠ gb394)); have n12_ := Aside0.mk ((by rw [hg]; exact Nat.ne_of_gt (blk_lt (g := gb366) (o := .cells #[.int .i64 a0_0, .int .i64 a0_1, .slice A0_2 l0_2.length c0_2] 26 (0, 0)) (by (with_reducible repeat (first | refine blk_drewN ?_ _ | refine blk_drew ?_ | refine blk_alloc ?_ _)); refine blk_far ?_ NB366_393.out _; (with_reducible repeat (first | refine blk_drewN ?_ _ | refine blk_drew ?_ | refine blk_alloc ?_ _)); refine blk_far ?_ NB366_393.out _; (with_reducible repeat (first | refine blk_drewN ?_ _ | refine blk_drew ?_ | refine blk_alloc ?_ _)); refine blk_far ?_ NB366_393.out _; (with_reducible repeat (first | refine blk_drewN ?_ _ | refine blk_drew ?_ | refine blk_alloc ?_ _)); exact BK366.out)) : gb394 ≠ gb366)); have n13_ := Aside0.mk ((by rw [hg]; exact Nat.ne_of_lt (blk_lt (g := gb367) (o := .cells #[.int .i64 0, .int .i64 0, .slice none 0 0] 26 (0, 0)) (by (with_reducible repeat (first | refine blk_drewN ?_ _ | refine blk_drew ?_ | refine blk_alloc ?_ _)); refine blk_far ?_ NB367_393.out _; (with_reducible repeat (first | refine blk_drewN ?_ _ | refine blk_drew ?_ | refine blk_alloc ?_ _)); refine blk_far ?_ NB367_393.out _; (with_reducible repeat (first | refine blk_drewN ?_ _ | refine blk_drew ?_ | refine blk_alloc ?_ _)); refine blk_far ?_ NB367_393.out _; (with_reducible repeat (first | refine blk_drewN ?_ _ | refine blk_drew ?_ | refine blk_alloc ?_ _)); exact BK367.out)) : gb367 ≠ gb394)); have n14_ := Aside0.mk ((by rw [hg]; exact Nat.ne_of_gt (blk_lt (g := gb367) (o := .cells #[.int .i64 0, .int .i64 0, .slice none 0 0] 26 (0, 0)) (by (with_reducible repeat (first | refine blk_drewN ?_ _ | refine blk_drew ?_ | refine blk_alloc ?_ _)); refine blk_far ?_ NB367_393.out _; (with_reducible repeat (first | refine blk_drewN ?_ _ | refine blk_drew ?_ | refine blk_alloc ?_ _)); refine blk_far ?_ NB367_393.out _; (with_reducible repeat (first | refine blk_drewN ?_ _ | refine blk_drew ?_ | refine blk_alloc ?_ _)); refine blk_far ?_ NB367_393.out _; (with_reducible repeat (first | refine blk_drewN ?_ _ | refine blk_drew ?_ | refine blk_alloc ?_ _)); exact BK367.out)) : gb394 ≠ gb367)); have n15_ := Aside0.mk ((by rw [hg]; exact Nat.ne_of_lt (blk_lt (g := gb370) (o := .cells #[.int .i64 a0_0, .int .i64 (wrap64 (2 * a0_1)), .slice Ao44 x371002_1.length co44] 26 (0, 0)) (by (with_reducible repeat (first | refine blk_drewN ?_ _ | refine blk_drew ?_ | refine blk_alloc ?_ _)); refine blk_far ?_ NB370_393.out _; (with_reducible repeat (first | refine blk_drewN ?_ _ | refine blk_drew ?_ | refine blk_alloc ?_ _)); refine blk_far ?_ NB370_393.out _; (with_reducible repeat (first | refine blk_drewN ?_ _ | refine blk_drew ?_ | refine blk_alloc ?_ _)); refine blk_far ?_ NB370_393.out _; (with_reducible repeat (first | refine blk_drewN ?_ _ | refine blk_drew ?_ | refine blk_alloc ?_ _)); exact BK370.out)) : gb370 ≠ gb394)); have n16_ := Aside0.mk ((by rw [hg]; exact Nat.ne_of_gt (blk_lt (g := gb370) (o := .cells #[.int .i64 a0_0, .int .i64 (wrap64 (2 * a0_1)), .slice Ao44 x371002_1.length co44] 26 (0, 0)) (by (with_reducible repeat (first | refine blk_drewN ?_ _ | refine blk_drew ?_ | refine blk_alloc ?_ _)); refine blk_far ?_ NB370_393.out _; (with_reducible repeat (first | refine blk_drewN ?_ _ | refine blk_drew ?_ | refine blk_alloc ?_ _)); refine blk_far ?_ NB370_393.out _; (with_reducible repeat (first | refine blk_drewN ?_ _ | refine blk_drew ?_ | refine blk_alloc ?_ _)); refine blk_far ?_ NB370_393.out _; (with_reducible repeat (first | refine blk_drewN ?_ _ | refine blk_drew ?_ | refine blk_alloc ?_ _)); exact BK370.out)) : gb394 ≠ gb370)); have n17_ := Aside0.mk ((by rw [hg]; exact Nat.ne_of_lt (blk_lt (g := gb393) (o := .cells #[.int .i64 t385, .int .i64 t386, .slice Ao51 t387.length co51] 26 (0, 0)) (by (with_reducible repeat (first | refine blk_drewN ?_ _ | refine blk_drew ?_ | refine blk_alloc ?_ _)); refine blk_put (cs := #[.int .i64 t385, .int .i64 t386, .slice none 0 0]) ?_ 2 _ rfl; (with_reducible repeat (first | refine blk_drewN ?_ _ | refine blk_drew ?_ | refine blk_alloc ?_ _)); refine blk_put (cs := #[.int .i64 t385, .int .i64 0, .slice none 0 0]) ?_ 1 _ rfl; (with_reducible repeat (first | refine blk_drewN ?_ _ | refine blk_drew ?_ | refine blk_alloc ?_ _)); refine blk_put (cs := #[.int .i64 0, .int .i64 0, .slice none 0 0]) ?_ 0 _ rfl; (with_reducible repeat (first | refine blk_drewN ?_ _ | refine blk_drew ?_ | refine blk_alloc ?_ _)); exact BK393.out)) : gb393 ≠ gb394)); have n18_ := Aside0.mk ((by rw [hg]; exact Nat.ne_of_gt (blk_lt (g := gb393) (o := .cells #[.int .i64 t385, .int .i64 t386, .slice Ao51 t387.length co51] 26 (0, 0)) (by (with_reducible repeat (first | refine blk_drewN ?_ _ | refine blk_drew ?_ | refine blk_alloc ?_ _)); refine blk_put (cs := #[.int .i64 t385, .int .i64 t386, .slice none 0 0]) ?_ 2 _ rfl; (with_reducible repeat (first | refine blk_drewN ?_ _ | refine blk_drew ?_ | refine blk_alloc ?_ _)); refine blk_put (cs := #[.int .i64 t385, .int .i64 0, .slice none 0 0]) ?_ 1 _ rfl; (with_reducible repeat (first | refine blk_drewN ?_ _ | refine blk_drew ?_ | refine blk_alloc ?_ _)); refine blk_put (cs := #[.int .i64 0, .int .i64 0, .slice none 0 0]) ?_ 0 _ rfl; (with_reducible repeat (first | refine blk_drewN ?_ _ | refine blk_drew ?_ | refine blk_alloc ?_ _)); exact BK393.out)) : gb394 ≠ gb393)); clear HO_371002; clear HO389; clear HO392; clear BK366; clear BK367; clear BK370; clear BK393; clear HB; have HO_371002 := n0_; have HO389 := n1_; have HO392 := n2_; have BK366 := n3_; have BK367 := n4_; have BK370 := n5_; have BK393 := n6_; have HB := n7_; have BK394 := n8_; have GW394 := n9_; have GE394 := n10_; have NB366_394 := n11_; have NB394_366 := n12_; have NB367_394 := n13_; have NB394_367 := n14_; have NB370_394 := n15_; have NB394_370 := n16_; have NB393_394 := n17_; have NB394_393 := n18_; clear n0_ n1_ n2_ n3_ n4_ n5_ n6_ n7_ n8_ n9_ n10_ n11_ n12_ n13_ n14_ n15_ n16_ n17_ n18_; clear hb hbox hg; have hnb55 := NB394_366.out; have hnc55 := NB366_394.out; have hnb56 := NB394_367.out; have hnc56 := NB367_394.out; have hnb57 := NB394_370.out; have hnc57 := NB370_394.out; have hnb58 := NB394_393.out; have hnc58 := NB393_394.out; have hcz59_0 : w54.cell? ⟨gb394, 0, none⟩ = some (.int .i64 0) := (blk_cell BK394.out 0).trans rfl; have hcz59_1 : w54.cell? ⟨gb394, 1, none⟩ = some (.int .i64 0) := (blk_cell BK394.out 1).trans rfl; have hcz59_2 : w54.cell? ⟨gb394, 2, none⟩ = some (.slice none 0 0) := (blk_cell BK394.out 2).trans rfl; have hfz59_0 := blk_frozen BK394.out 0; have hfz59_1 := blk_frozen BK394.out 1; have hfz59_2 := blk_frozen BK394.out 2; have hcz60_0 : w54.cell? ⟨gb393, 0, none⟩ = some (.int .i64 t385) := (blk_cell BK393.out 0).trans rfl; have hcz60_1 : w54.cell? ⟨gb393, 1, none⟩ = some (.int .i64 t386) := (blk_cell BK393.out 1).trans rfl; have hcz60_2 : w54.cell? ⟨gb393, 2, none⟩ = some (.slice Ao51 t387.length co51) := (blk_cell BK393.out 2).trans rfl; have hfz60_0 := blk_frozen BK393.out 0; have hfz60_1 := blk_frozen BK393.out 1; have hfz60_2 := blk_frozen BK393.out 2))
            go_loopg [64] k1 (fun kq v64 w' => ∃ (x64_2 : Int) (x368000_2 : Int) (x368001_2 : Int) (x395002_2 : List (List Int)) (u395002 : Value), v64 = .int .i64 x64_2 ∧ Aside0 (impl_InverseOf.l1 kq a0_1 t390 t387 (t387.length : Int) x64_2 a0_0 a0_1 x395002_2 = some (r1, r2, r3, r4)) ∧ Aside0 (kq ≤ k1) ∧ Aside0 (Kd.R (Kd.int .i64) 3 w' w.heap.size (fun _ => True) v391 t390) ∧ Aside0 (Kd.S (Kd.slice 2 (Kd.int .i64)) 35 w' w.heap.size (fun k_ => some k_ ≠ ((.slice Ao44 x371002_1.length co44) : Value).ownBlock ∧ some k_ ≠ (u395002 : Value).ownBlock) (.slice Ao51 t387.length co51) t387) ∧ Aside0 (Kd.S (Kd.slice 2 (Kd.int .i64)) 35 w' w.heap.size (fun k_ => some k_ ≠ ((.slice Ao51 t387.length co51) : Value).ownBlock ∧ some k_ ≠ ((.slice Ao51 t387.length co51) : Value).ownBlock ∧ some k_ ≠ (u395002 : Value).ownBlock) (.slice Ao44 x371002_1.length co44) x371002_1) ∧ Aside0 (Kd.S (Kd.slice 2 (Kd.int .i64)) 35 w' w.heap.size (fun k_ => some k_ ≠ ((.slice Ao44 x371002_1.length co44) : Value).ownBlock ∧ some k_ ≠ (u395002 : Value).ownBlock) (.slice Ao51 t387.length co51) t387) ∧ Aside0 (Kd.S (Kd.slice 2 (Kd.int .i64)) 35 w' w.heap.size (fun k_ => some k_ ≠ ((.slice Ao51 t387.length co51) : Value).ownBlock ∧ some k_ ≠ ((.slice Ao44 x371002_1.length co44) : Value).ownBlock ∧ some k_ ≠ ((.slice Ao51 t387.length co51) : Value).ownBlock) u395002 x395002_2) ∧ Aside0 (w'.heap[gb366]? = some (.cells #[.int .i64 a0_0, .int .i64 a0_1, (.slice A0_2 l0_2.length c0_2)] 26 (0, 0))) ∧ Aside0 (w'.heap[gb367]? = some (.cells #[.int .i64 x368000_2, .int .i64 x368001_2, (.slice none 0 0)] 26 (0, 0))) ∧ Aside0 (w'.heap[gb370]? = some (.cells #[.int .i64 a0_0, .int .i64 (wrap64 (2 * a0_1)), (.slice Ao44 x371002_1.length co44)] 26 (0, 0))) ∧ Aside0 (w'.heap[gb393]? = some (.cells #[.int .i64 t385, .int .i64 t386, (.slice Ao51 t387.length co51)] 26 (0, 0))) ∧ Aside0 (w'.heap[gb394]? = some (.cells #[.int .i64 a0_0, .int .i64 a0_1, u395002] 26 (0, 0))) ∧ Aside0 (Below w.heap.size w w'))
            case atStart => exact ⟨(0), (0), (0), (([] : List (List Int))), (.slice none 0 0), (by first | rfl | (simp; done) | (simp [*]; done)), H', ⟨Nat.le_refl _⟩, ⟨by (with_reducible repeat (first | apply Kd.R_alloc | apply Kd.R_drewN | apply Kd.R_drew)); exact Kd.R_mono (Kd.R_far (p := ⟨gb394, 2, none⟩) (Kd.R_far (p := ⟨gb394, 1, none⟩) (Kd.R_far (p := ⟨gb394, 0, none⟩) (Kd.R_types HO392.out BK394.out (by decide)) (fun _ hk => hk.2) (.int .i64 a0_0)) (fun _ hk => hk.2) (.int .i64 a0_1)) (fun _ hk => hk.2) (.slice none 0 0)) (fun _ hk => trivial)⟩, ⟨by (with_reducible repeat (first | apply Kd.S_alloc | apply Kd.S_drewN | apply Kd.S_drew)); exact Kd.S_mono (Kd.S_far (p := ⟨gb394, 2, none⟩) (Kd.S_far (p := ⟨gb394, 1, none⟩) (Kd.S_far (p := ⟨gb394, 0, none⟩) (Kd.S_types HO389.out BK394.out (by decide)) (fun _ hk => hk.2) (.int .i64 a0_0)) (fun _ hk => hk.2) (.int .i64 a0_1)) (fun _ hk => hk.2) (.slice none 0 0)) (fun _ hk => ⟨hk.1.2, (by simp [Value.ownBlock])⟩)⟩, ⟨by (with_reducible repeat (first | apply Kd.S_alloc | apply Kd.S_drewN | apply Kd.S_drew)); exact Kd.S_mono (Kd.S_far (p := ⟨gb394, 2, none⟩) (Kd.S_far (p := ⟨gb394, 1, none⟩) (Kd.S_far (p := ⟨gb394, 0, none⟩) (Kd.S_types HO_371002.out BK394.out (by decide)) (fun _ hk => hk.2) (.int .i64 a0_0)) (fun _ hk => hk.2) (.int .i64 a0_1)) (fun _ hk => hk.2) (.slice none 0 0)) (fun _ hk => ⟨hk.1.2, ⟨hk.1.2, (by simp [Value.ownBlock])⟩⟩)⟩, ⟨by (with_reducible repeat (first | apply Kd.S_alloc | apply Kd.S_drewN | apply Kd.S_drew)); exact Kd.S_mono (Kd.S_far (p := ⟨gb394, 2, none⟩) (Kd.S_far (p := ⟨gb394, 1, none⟩) (Kd.S_far (p := ⟨gb394, 0, none⟩) (Kd.S_types HO389.out BK394.out (by decide)) (fun _ hk => hk.2) (.int .i64 a0_0)) (fun _ hk => hk.2) (.int .i64 a0_1)) (fun _ hk => hk.2) (.slice none 0 0)) (fun _ hk => ⟨hk.1.2, (by simp [Value.ownBlock])⟩)⟩, ⟨by first | exact Kd.S_nil _ _ _ _ _ | exact Kd.N_nil _ _ _ _ _ | exact Kd.V_nil _ _ _ _ _ | exact Kd.Q_nil _ _ _ _ _ | exact Kd.R_nil _ _ _ _ _⟩, ⟨by (with_reducible repeat (first | refine blk_drewN ?_ _ | refine blk_drew ?_ | refine blk_alloc ?_ _)); refine blk_far ?_ NB366_394.out _; (with_reducible repeat (first | refine blk_drewN ?_ _ | refine blk_drew ?_ | refine blk_alloc ?_ _)); refine blk_far ?_ NB366_394.out _; (with_reducible repeat (first | refine blk_drewN ?_ _ | refine blk_drew ?_ | refine blk_alloc ?_ _)); refine blk_far ?_ NB366_394.out _; (with_reducible repeat (first | refine blk_drewN ?_ _ | refine blk_drew ?_ | refine blk_alloc ?_ _)); exact BK366.out⟩, ⟨by (with_reducible repeat (first | refine blk_drewN ?_ _ | refine blk_drew ?_ | refine blk_alloc ?_ _)); refine blk_far ?_ NB367_394.out _; (with_reducible repeat (first | refine blk_drewN ?_ _ | refine blk_drew ?_ | refine blk_alloc ?_ _)); refine blk_far ?_ NB367_394.out _; (with_reducible repeat (first | refine blk_drewN ?_ _ | refine blk_drew ?_ | refine blk_alloc ?_ _)); refine blk_far ?_ NB367_394.out _; (with_reducible repeat (first | refine blk_drewN ?_ _ | refine blk_drew ?_ | refine blk_alloc ?_ _)); exact BK367.out⟩, ⟨by (with_reducible repeat (first | refine blk_drewN ?_ _ | refine blk_drew ?_ | refine blk_alloc ?_ _)); refine blk_far ?_ NB370_394.out _; (with_reducible repeat (first | refine blk_drewN ?_ _ | refine blk_drew ?_ | refine blk_alloc ?_ _)); refine blk_far ?_ NB370_394.out _; (with_reducible repeat (first | refine blk_drewN ?_ _ | refine blk_drew ?_ | refine blk_alloc ?_ _)); refine blk_far ?_ NB370_394.out _; (with_reducible repeat (first | refine blk_drewN ?_ _ | refine blk_drew ?_ | refine blk_alloc ?_ _)); exact BK370.out⟩, ⟨by (with_reducible repeat (first | refine blk_drewN ?_ _ | refine blk_drew ?_ | refine blk_alloc ?_ _)); refine blk_far ?_ NB393_394.out _; (with_reducible repeat (first | refine blk_drewN ?_ _ | refine blk_drew ?_ | refine blk_alloc ?_ _)); refine blk_far ?_ NB393_394.out _; (with_reducible repeat (first | refine blk_drewN ?_ _ | refine blk_drew ?_ | refine blk_alloc ?_ _)); refine blk_far ?_ NB393_394.out _; (with_reducible repeat (first | refine blk_drewN ?_ _ | refine blk_drew ?_ | refine blk_alloc ?_ _)); exact BK393.out⟩, ⟨by (with_reducible repeat (first | refine blk_drewN ?_ _ | refine blk_drew ?_ | refine blk_alloc ?_ _)); refine blk_put (cs := #[.int .i64 a0_0, .int .i64 a0_1, .slice none 0 0]) ?_ 2 _ rfl; (with_reducible repeat (first | refine blk_drewN ?_ _ | refine blk_drew ?_ | refine blk_alloc ?_ _)); refine blk_put (cs := #[.int .i64 a0_0, .int .i64 0, .slice none 0 0]) ?_ 1 _ rfl; (with_reducible repeat (first | refine blk_drewN ?_ _ | refine blk_drew ?_ | refine blk_alloc ?_ _)); refine blk_put (cs := #[.int .i64 0, .int .i64 0, .slice none 0 0]) ?_ 0 _ rfl; (with_reducible repeat (first | refine blk_drewN ?_ _ | refine blk_drew ?_ | refine blk_alloc ?_ _)); exact BK394.out⟩, ⟨by repeat (first | (with_reducible first | exact HB.out | apply below_alloc | apply pw_below_drewN | apply below_drew1 | refine below_set ?_ GE366.out | refine below_set ?_ GE367.out | refine below_set ?_ GE370.out | refine below_set ?_ GE393.out | refine below_set ?_ GE394.out) | exact HB.out)⟩⟩
            case round =>
              clear H'
              try clear c1
              try clear c2
              try clear p2
              try clear q2
              try clear hx2
              try clear hf2
              try clear c3
              try clear p3
              try clear q3
              try clear hx3
              try clear c4
              try clear c5
              try clear c6
              try clear p6
              try clear c8
              try clear c15
              try clear c16
              try clear c19
              try clear c19b0
              try clear c20
              try clear c20b0
              try clear c21
              try clear c21b0
              try clear c22
              try clear c22b0
              try clear c22b1
              try clear c23
              try clear c23b0
              try clear c23b1
              try clear c24
              try clear c24b0
              try clear p25
              try clear q25
              try clear hx25
              try clear hf25
              try clear c27
              try clear c28
              try clear c37
              try clear p37
              try clear q37
              try clear hx37
              try clear c41
              try clear c42
              try clear c47
              try clear c48
              try clear c49
              try clear c50
              try clear c51
              try clear c52
              try clear c55
              try clear c56
              try clear c57
              try clear c58
              try clear hcz11_0
              try clear hcz11_1
              try clear hcz11_2
              try clear hcz13_0
              try clear hcz13_1
              try clear hcz13_2
              try clear hcz17_0
              try clear hcz17_1
              try clear hcz17_2
              try clear hcz18_0
              try clear hcz18_1
              try clear hcz18_2
              try clear hcz43_0
              try clear hcz43_1
              try clear hcz43_2
              try clear hcz50_0
              try clear hcz50_1
              try clear hcz50_2
              try clear hcz53_0
              try clear hcz53_1
              try clear hcz53_2
              try clear hcz59_0
              try clear hcz59_1
              try clear hcz59_2
              try clear hcz60_0
              try clear hcz60_1
              try clear hcz60_2
              try clear hcz9_0
              try clear hcz9_1
              try clear hcz9_2
              try clear hfz11_0
              try clear hfz11_1
              try clear hfz11_2
              try clear hfz13_0
              try clear hfz13_1
              try clear hfz13_2
              try clear hfz17_0
              try clear hfz17_1
              try clear hfz17_2
              try clear hfz18_0
              try clear hfz18_1
              try clear hfz18_2
              try clear hfz43_0
              try clear hfz43_1
              try clear hfz43_2
              try clear hfz50_0
              try clear hfz50_1
              try clear hfz50_2
              try clear hfz53_0
              try clear hfz53_1
              try clear hfz53_2
              try clear hfz59_0
              try clear hfz59_1
              try clear hfz59_2
              try clear hfz60_0
              try clear hfz60_1
              try clear hfz60_2
              try clear hfz9_0
              try clear hfz9_1
              try clear hfz9_2
              try clear hx25_0
              try clear hx371_0
              try clear p2
              try clear p25
              try clear p371
              try clear p6
              try clear q25
              try clear q371
              obtain ⟨x64_2, x368000_2, x368001_2, x395002_2, u395002, rfl, HA, HK2, HO_10, HO_62, HO_371002, HO_394002, HO_395002, BK366, BK367, BK370, BK393, BK394, HB⟩ := hrel
              cases gk with
              | zero => exact absurd HA.out (by simp [impl_InverseOf.l1])
              | succ k2 =>
                have H := HA.out
                clear HA
                simp only [impl_InverseOf.l1] at H
                by_cases c61 : x64_2 < (t387.length : Int)
                · rw [if_pos c61] at H
                  have c61b0 : decide (x64_2 < (t387.length : Int)) = true := decide_eq_true c61
                  clear c61
                  by_cases c62 : 0 ≤ x64_2
                  · rw [if_pos c62] at H
                    have c62b0 : decide (0 ≤ x64_2) = true := decide_eq_true c62
                    clear c62
                    by_cases c63 : x64_2 < (t387.length : Int)
                    · rw [if_pos c63] at H
                      have c63b0 : decide (x64_2 < (t387.length : Int)) = true := decide_eq_true c63
                      clear c63
                      by_cases c64 : x64_2 < (t390.length : Int)
                      · rw [if_pos c64] at H
                        have c64b0 : decide (x64_2 < (t390.length : Int)) = true := decide_eq_true c64
                        clear c64
                        by_cases c65 : (rd t390 x64_2) = x64_2
                        · rw [if_pos c65] at H
                          have c65b0 : ((rd t390 x64_2) == x64_2) = true := beq_iff_eq.mpr c65
                          have c65b1 : ((rd t390 x64_2) != x64_2) = false := bne_eq_false_iff_eq.mpr c65
                          clear c65
                          by_cases c66 : 0 ≤ a0_1
                          · rw [if_pos c66] at H
                            have c66b0 := eq_true c66
                            have c66b1 : decide (0 ≤ a0_1) = true := decide_eq_true c66
                            clear c66
                            by_cases c67 : a0_1 ≤ ((rd_L1 t387 x64_2).length : Int)
                            · rw [if_pos c67] at H
                              have c67b0 := eq_true c67
                              have c67b1 : decide (a0_1 ≤ ((rd_L1 t387 x64_2).length : Int)) = true := decide_eq_true c67
                              clear c67
                              obtain ⟨y397, hy397⟩ : ∃ y_ : List Int, y_ = ((rd_L1 t387 x64_2).drop (a0_1 : Int).toNat) := ⟨_, rfl⟩
                              replace H : ((slices_Clone_int64_int64.f y397).bind fun t401 => (if x395002_2.length < 5864062014805 then (impl_InverseOf.l1 k2 a0_1 t390 t387 (t387.length : Int) (wrap64 (x64_2 + 1)) a0_0 a0_1 (x395002_2 ++ [t401])) else (none))) = some (r1, r2, r3, r4) := by first | (rw [hy397]; with_reducible exact H) | (have H2_ := (Option.bind_some _ _).symm.trans H; rw [hy397]; with_reducible exact H2_) | (have H2_ := (Option.bind_some _ _).symm.trans H; with_reducible exact H2_) | with_reducible exact H | (rw [hy397]; exact H) | exact H
                              have Ny397 := Aside0.mk hy397
                              clear hy397
                              replace H := Option.bind_eq_some_iff.mp H
                              obtain ⟨t401, A680, H⟩ := H
                              replace H : (if x395002_2.length < 5864062014805 then (impl_InverseOf.l1 k2 a0_1 t390 t387 (t387.length : Int) (wrap64 (x64_2 + 1)) a0_0 a0_1 (x395002_2 ++ [t401])) else (none)) = some (r1, r2, r3, r4) := H
                              have A68 := Aside0.mk A680
                              clear A680
                              by_cases c69 : x395002_2.length < 5864062014805
                              · rw [if_pos c69] at H
                                have LMc69 := Aside0.mk c69
                                clear c69
                                obtain ⟨y404, hy404⟩ : ∃ y_ : List (List Int), y_ = (x395002_2 ++ [t401]) := ⟨_, rfl⟩
                                replace H : (impl_InverseOf.l1 k2 a0_1 t390 t387 (t387.length : Int) (wrap64 (x64_2 + 1)) a0_0 a0_1 y404) = some (r1, r2, r3, r4) := by first | (rw [hy404]; with_reducible exact H) | (have H2_ := (Option.bind_some _ _).symm.trans H; rw [hy404]; with_reducible exact H2_) | (have H2_ := (Option.bind_some _ _).symm.trans H; with_reducible exact H2_) | with_reducible exact H | (rw [hy404]; exact H) | exact H
                                have Ny404 := Aside0.mk hy404
                                clear hy404
                                have H' := Aside0.mk H
                                clear H
                                have p395 : 0 ≤ (x64_2 : Int) := of_decide_eq_true (by first | (with_reducible assumption) | assumption)
                                have q395 : x64_2 < (t387.length : Int) := of_decide_eq_true (by first | (with_reducible assumption) | assumption)
                                obtain ⟨ad395, A395_0, c395_0, e395, hx395_0, hl395_0, hi395_0⟩ := at_L1 (Kd.S_reads' HO_62.out).2.2 x64_2 p395 q395
                                cases e395
                                obtain ⟨ce395, hce395, hMe395, hcc395⟩ := Kd.S_get HO_62.out [] x64_2 p395 (by first | exact q395 | exact of_decide_eq_true (by first | (with_reducible assumption) | assumption) | (have e_ := (Kd.S_reads' HO_62.out).1; omega))
                                obtain ⟨ve395_0, rfl, ge395_0⟩ := hMe395
                                have hv395_0 := hcc395 0 _ rfl
                                rw [Nat.add_zero, show ((Kd.slice 2 (Kd.int .i64))).sz = 1 from rfl, Nat.mul_one] at hv395_0
                                replace hv395_0 := Option.some.inj (hv395_0.symm.trans hx395_0)
                                rw [hv395_0] at ge395_0
                                have HL395_0 := Aside0.mk (show Kd.R (Kd.int .i64) 2 _ _ _ _ (rd_L1 t387 x64_2) from ge395_0)
                                clear hv395_0 ge395_0
                                clear hcc395 hce395
                                have HR395_0 := Aside0.mk hi395_0
                                have HC395_0 := Aside0.mk hl395_0
                                clear hi395_0 hl395_0
                                replace p395 := eq_true p395
                                replace q395 := eq_true q395
                                obtain ⟨Ao70, co70, eo70⟩ := Kd.R_slice HO_10.out
                                subst eo70
                                have p396 : 0 ≤ (x64_2 : Int) := of_decide_eq_true (by first | (with_reducible assumption) | assumption)
                                have q396 : x64_2 < (t390.length : Int) := of_decide_eq_true (by first | (with_reducible assumption) | assumption)
                                obtain ⟨ad396, e396, hx396_0⟩ := Kd.at_int (Kd.R_reads' HO_10.out).2.2 x64_2 p396 q396
                                cases e396
                                replace p396 := eq_true p396
                                replace q396 := eq_true q396
                                try go_wp2
                                have n0_ := Aside0.mk (Kd.R_drew HO_10.out)
                                have n1_ := Aside0.mk (Kd.S_drew HO_62.out)
                                have n2_ := Aside0.mk (Kd.S_drew HO_371002.out)
                                have n3_ := Aside0.mk (Kd.S_drew HO_394002.out)
                                have n4_ := Aside0.mk (Kd.S_drew HO_395002.out)
                                have n5_ := Aside0.mk (Kd.R_drew HL395_0.out)
                                have n6_ := Aside0.mk (blk_drew BK366.out)
                                have n7_ := Aside0.mk (blk_drew BK367.out)
                                have n8_ := Aside0.mk (blk_drew BK370.out)
                                have n9_ := Aside0.mk (blk_drew BK393.out)
                                have n10_ := Aside0.mk (blk_drew BK394.out)
                                have n11_ := Aside0.mk (Kd.C_drew HR395_0.out)
                                have n12_ := Aside0.mk (below_drew1 HB.out)
                                clear HO_10
                                clear HO_62
                                clear HO_371002
                                clear HO_394002
                                clear HO_395002
                                clear HL395_0
                                clear BK366
                                clear BK367
                                clear BK370
                                clear BK393
                                clear BK394
                                clear HR395_0
                                clear HB
                                have HO_10 := n0_
                                have HO_62 := n1_
                                have HO_371002 := n2_
                                have HO_394002 := n3_
                                have HO_395002 := n4_
                                have HL395_0 := n5_
                                have BK366 := n6_
                                have BK367 := n7_
                                have BK370 := n8_
                                have BK393 := n9_
                                have BK394 := n10_
                                have HR395_0 := n11_
                                have HB := n12_
                                clear n0_ n1_ n2_ n3_ n4_ n5_ n6_ n7_ n8_ n9_ n10_ n11_ n12_
                                have q72 : (a0_1 : Int) ≤ (((rd_L1 t387 x64_2).length : Int) : Int) := of_decide_eq_true (by first | (with_reducible assumption) | assumption)
                                obtain ⟨i072, hi072, _, hsz72, _⟩ := info_parts info2
                                have hroom72 : (rd_L1 t387 x64_2).length ≤ c395_0 := HC395_0.out
                                have hC72 : Kd.C (Kd.int .i64) _ A395_0 (rd_L1 t387 x64_2).length (rd_L1 t387 x64_2) := (by repeat (first | (with_reducible exact HR395_0.out) | (with_reducible refine Kd.C_alloc ?_ _) | (with_reducible refine Kd.C_drewN ?_ _) | (with_reducible refine Kd.C_drew ?_) | exact HR395_0.out))
                                have q072 : (0 : Int) ≤ (a0_1 : Int) := of_decide_eq_true (by first | (with_reducible assumption) | assumption)
                                have hcut72 := cut_from (P := Try.prog) 35 2 .i64 Try.underlying35 hi072 1 hsz72 A395_0 (rd_L1 t387 x64_2).length c395_0 a0_1 q072 q72
                                have hr72 := Kd.C_drop (m := (a0_1 : Int).toNat) (c := c395_0) hC72 (by omega) hroom72
                                obtain ⟨A72, hA72⟩ : ∃ A1, A1 = (if c395_0 = (a0_1 : Int).toNat then A395_0 else (A395_0 : Option Addr).map (·.add ((a0_1 : Int).toNat * 1))) := ⟨_, rfl⟩
                                obtain ⟨c72, hc72⟩ : ∃ c1, c1 = c395_0 - (a0_1 : Int).toNat := ⟨_, rfl⟩
                                have hy72 : y397.length = (rd_L1 t387 x64_2).length - (a0_1 : Int).toNat := (by rw [Ny397.out, List.length_drop] <;> omega)
                                rw [show (rd_L1 t387 x64_2).drop (a0_1 : Int).toNat = y397 from Ny397.out.symm] at hr72
                                replace hr72 : Kd.C (Kd.int .i64) _ A72 y397.length y397 := (by rw [hA72]; exact hr72)
                                rw [← hy72, ← hA72, ← hc72] at hcut72
                                have HR400 := Aside0.mk hr72
                                have HC400 := Aside0.mk (show y397.length ≤ c72 from by rw [hy72, hc72]; exact Nat.sub_le_sub_right hroom72 _)
                                clear hr72 hC72 hroom72 hi072 hsz72 hc72
                                have KY72 := Aside0.mk hy72
                                have KA72 := Aside0.mk hA72
                                clear hy72 hA72
                                replace q72 := eq_true q72
                                refine start_ (n := 10) (S := fun w' => w'.cell? ⟨gb394, 0, none⟩ = some (.int .i64 a0_0) ∧ w'.cell? ⟨gb394, 1, none⟩ = some (.int .i64 a0_1) ∧ w'.cell? ⟨gb394, 2, none⟩ = some (u395002)) (ds := [9]) #[false, false, false, false, false, false, false, false, false, false] (by kernel_rfl) rfl rfl ⟨(blk_cell BK394.out 0).trans rfl, (blk_cell BK394.out 1).trans rfl, (blk_cell BK394.out 2).trans rfl⟩ (fun hHeld => ?_); refine with_tabW impl_InverseOf.tab21 impl_InverseOf.bits21 (fun HT_ HW_ => ?_)
                                generalize wr.drew = w71 at HO_10 HO_62 HO_371002 HO_394002 HO_395002 HL395_0 BK366 BK367 BK370 BK393 BK394 HR395_0 HB HR400 hHeld ⊢
                                refine pure_ (i := 0) (N := some 76) (v := ?_) (a' := ?_) #[true, false, false, false, false, false, false, false, false, false] rfl rfl (any_of HT_.out (by kernel_rfl)) (fun _ _ _ h => h) (Or.inl ⟨by rfl, ?_⟩) ?_ ?_
                                rotate_left
                                · intro w'
                                  first | (go_simp; with_reducible rfl) | (simp [go_sem, Instr.field, asAgg] <;> with_reducible rfl)
                                rotate_left
                                · simp only [Act.put, List.setIfInBounds_toArray, List.set_cons_zero, List.set_cons_succ, i64_w, i32_w]
                                  rfl
                                refine pure_ (i := 2) (N := some 78) (v := ?_) (a' := ?_) #[true, false, true, false, false, false, false, false, false, false] rfl rfl (any_of HT_.out (by kernel_rfl)) (fun _ _ _ h => h) (Or.inl ⟨by rfl, ?_⟩) ?_ ?_
                                rotate_left
                                · intro w'
                                  first | (go_simp; with_reducible rfl) | (simp [go_sem, Instr.field, asAgg] <;> with_reducible rfl)
                                rotate_left
                                · simp only [Act.put, List.setIfInBounds_toArray, List.set_cons_zero, List.set_cons_succ, i64_w, i32_w]
                                  rfl
                                refine pure_ (i := 3) (N := some 79) (v := ?_) (a' := ?_) #[true, false, true, true, false, false, false, false, false, false] rfl rfl (any_of HT_.out (by kernel_rfl)) (fun _ _ _ h => h) (Or.inl ⟨by rfl, ?_⟩) ?_ ?_
                                rotate_left
                                · intro w'
                                  first | (go_simp; with_reducible rfl) | (simp [go_sem, Instr.field, asAgg] <;> with_reducible rfl)
                                rotate_left
                                · simp only [Act.put, List.setIfInBounds_toArray, List.set_cons_zero, List.set_cons_succ, i64_w, i32_w]
                                  rfl
                                refine pure_ (i := 4) (N := some 80) (v := ?_) (a' := ?_) #[true, false, true, true, true, false, false, false, false, false] rfl rfl (any_of HT_.out (by kernel_rfl)) (fun _ _ _ h => h) (Or.inl ⟨by rfl, ?_⟩) ?_ ?_
                                rotate_left
                                · intro w'
                                  first | (go_simp; with_reducible rfl) | (simp [go_sem, Instr.field, asAgg] <;> with_reducible rfl)
                                rotate_left
                                · simp only [Act.put, List.setIfInBounds_toArray, List.set_cons_zero, List.set_cons_succ, i64_w, i32_w]
                                  rfl
                                refine take_ (i := 1) (N := some 77) (v := ?_) (a' := ?_) #[true, true, true, true, true, false, false, false, false, false] rfl rfl (take_ofW HT_.out HW_.out (by kernel_rfl)) (fun _ _ _ h => h) (Or.inl ⟨by rfl, ?_⟩) hHeld ?_ ?_
                                rotate_left
                                · rintro w' ⟨s0, s1, s2⟩
                                  go_simp
                                  with_reducible rfl
                                rotate_left
                                · simp only [Act.put, List.setIfInBounds_toArray, List.set_cons_zero, List.set_cons_succ, i64_w, i32_w]
                                  rfl
                                refine one_ (i := 5) (N := some 81) #[true, true, true, true, true, true, false, false, false, false] rfl rfl (one_of HT_.out (by kernel_rfl)) (by decide) (fun K hK => ?_)
                                refine goes_ Try.func64 (by kernel_rfl) rfl #[.slice A72 y397.length c72] (by rfl) rfl rfl (by (try simp only [List.map_toArray, List.map_cons, List.map_nil]); first | done | rfl | (simp only [List.length_drop, List.length_take]; rfl)) ?_
                                with_reducible refine (slices_Clone_int64_int64.calls _ _ y397 t401 _ ?side1 ?side2 A68.out).mono ?_
                                (case side1 => repeat (first | exact (by repeat (first | (with_reducible exact HR400.out) | (with_reducible refine Kd.C_alloc ?_ _) | (with_reducible refine Kd.C_drewN ?_ _) | (with_reducible refine Kd.C_drew ?_) | exact HR400.out)) | (with_reducible refine Kd.C_alloc ?_ _) | (with_reducible refine Kd.C_drewN ?_ _) | (with_reducible refine Kd.C_drew ?_)))
                                (case side2 => exact HC400.out)
                                rintro e w73 ⟨v402, rfl, ho0, hb⟩
                                refine ⟨_, rfl, ?_⟩
                                have n0_ := Aside0.mk (Kd.R_below (by (with_reducible repeat (first | apply Kd.R_alloc | apply Kd.R_drewN | apply Kd.R_drew)); exact HO_10.out) hb)
                                have n1_ := Aside0.mk (Kd.S_elder' (by (with_reducible repeat (first | apply Kd.S_alloc | apply Kd.S_drewN | apply Kd.S_drew)); exact HO_62.out) (Kd.R_base ho0) hb)
                                have n2_ := Aside0.mk (Kd.S_elder' (by (with_reducible repeat (first | apply Kd.S_alloc | apply Kd.S_drewN | apply Kd.S_drew)); exact HO_371002.out) (Kd.R_base ho0) hb)
                                have n3_ := Aside0.mk (Kd.S_elder' (by (with_reducible repeat (first | apply Kd.S_alloc | apply Kd.S_drewN | apply Kd.S_drew)); exact HO_394002.out) (Kd.R_base ho0) hb)
                                have n4_ := Aside0.mk (Kd.S_elder' (by (with_reducible repeat (first | apply Kd.S_alloc | apply Kd.S_drewN | apply Kd.S_drew)); exact HO_395002.out) (Kd.R_base ho0) hb)
                                have n5_ := Aside0.mk (Kd.R_elder' (by (with_reducible repeat (first | apply Kd.R_alloc | apply Kd.R_drewN | apply Kd.R_drew)); exact HL395_0.out) (Kd.R_base ho0) hb)
                                have n6_ := Aside0.mk (Kd.R_lower (Kd.R_new' ho0 (Kd.R_lt (by (with_reducible repeat (first | apply Kd.R_alloc | apply Kd.R_drewN | apply Kd.R_drew)); exact HL395_0.out))) (below_size (by repeat (first | (with_reducible first | exact HB.out | apply below_alloc | apply pw_below_drewN | apply below_drew1 | refine below_set ?_ GE366.out | refine below_set ?_ GE367.out | refine below_set ?_ GE370.out | refine below_set ?_ GE393.out | refine below_set ?_ GE394.out) | exact HB.out))))
                                have n7_ := Aside0.mk (blk_below (g := gb366) (o := .cells #[.int .i64 a0_0, .int .i64 a0_1, .slice A0_2 l0_2.length c0_2] 26 (0, 0)) (by (with_reducible repeat (first | refine blk_drewN ?_ _ | refine blk_drew ?_ | refine blk_alloc ?_ _)); exact BK366.out) hb)
                                have n8_ := Aside0.mk (blk_below (g := gb367) (o := .cells #[.int .i64 x368000_2, .int .i64 x368001_2, .slice none 0 0] 26 (0, 0)) (by (with_reducible repeat (first | refine blk_drewN ?_ _ | refine blk_drew ?_ | refine blk_alloc ?_ _)); exact BK367.out) hb)
                                have n9_ := Aside0.mk (blk_below (g := gb370) (o := .cells #[.int .i64 a0_0, .int .i64 (wrap64 (2 * a0_1)), .slice Ao44 x371002_1.length co44] 26 (0, 0)) (by (with_reducible repeat (first | refine blk_drewN ?_ _ | refine blk_drew ?_ | refine blk_alloc ?_ _)); exact BK370.out) hb)
                                have n10_ := Aside0.mk (blk_below (g := gb393) (o := .cells #[.int .i64 t385, .int .i64 t386, .slice (some ad395) t387.length co51] 26 (0, 0)) (by (with_reducible repeat (first | refine blk_drewN ?_ _ | refine blk_drew ?_ | refine blk_alloc ?_ _)); exact BK393.out) hb)
                                have n11_ := Aside0.mk (blk_below (g := gb394) (o := .cells #[.int .i64 a0_0, .int .i64 a0_1, u395002] 26 (0, 0)) (by (with_reducible repeat (first | refine blk_drewN ?_ _ | refine blk_drew ?_ | refine blk_alloc ?_ _)); exact BK394.out) hb)
                                have n12_ := Aside0.mk (Kd.C_below (by repeat (first | (with_reducible exact HR395_0.out) | (with_reducible refine Kd.C_alloc ?_ _) | (with_reducible refine Kd.C_drewN ?_ _) | (with_reducible refine Kd.C_drew ?_) | exact HR395_0.out)) hb)
                                have n13_ := Aside0.mk (Kd.C_below (by repeat (first | (with_reducible exact HR400.out) | (with_reducible refine Kd.C_alloc ?_ _) | (with_reducible refine Kd.C_drewN ?_ _) | (with_reducible refine Kd.C_drew ?_) | exact HR400.out)) hb)
                                have n14_ := Aside0.mk (below_step (by repeat (first | (with_reducible first | exact HB.out | apply below_alloc | apply pw_below_drewN | apply below_drew1 | refine below_set ?_ GE366.out | refine below_set ?_ GE367.out | refine below_set ?_ GE370.out | refine below_set ?_ GE393.out | refine below_set ?_ GE394.out) | exact HB.out)) hb)
                                clear HO_10
                                clear HO_62
                                clear HO_371002
                                clear HO_394002
                                clear HO_395002
                                clear HL395_0
                                clear BK366
                                clear BK367
                                clear BK370
                                clear BK393
                                clear BK394
                                clear HR395_0
                                clear HR400
                                clear HB
                                have HO_10 := n0_
                                have HO_62 := n1_
                                have HO_371002 := n2_
                                have HO_394002 := n3_
                                have HO_395002 := n4_
                                have HL395_0 := n5_
                                have HO403 := n6_
                                have BK366 := n7_
                                have BK367 := n8_
                                have BK370 := n9_
                                have BK393 := n10_
                                have BK394 := n11_
                                have HR395_0 := n12_
                                have HR400 := n13_
                                have HB := n14_
                                clear n0_ n1_ n2_ n3_ n4_ n5_ n6_ n7_ n8_ n9_ n10_ n11_ n12_ n13_ n14_
                                (try clear hb)
                                (try clear hb2)
                                (try clear hk)
                                (try clear hi)
                                (try clear ho0)
                                obtain ⟨Ao75, co75, eo75⟩ := Kd.R_slice HO403.out
                                (first | subst eo75 | (injection eo75 with f1_ f2_ f3_; have f4_ := f1_.symm; have f5_ := f3_.symm; clear f1_ f2_ f3_; subst f4_; subst f5_))
                                refine hK.out _ _ ⟨(blk_cell BK394.out 0).trans rfl, (blk_cell BK394.out 1).trans rfl, (blk_cell BK394.out 2).trans rfl⟩ (fun hHeld => ?_)
                                clear hK K
                                refine norm_ (a' := ?_) ?_ ?_
                                rotate_left
                                · show Act.put _ (some 81) _ = _
                                  simp only [Act.put, List.setIfInBounds_toArray, List.set_cons_zero, List.set_cons_succ, i64_w, i32_w]
                                  rfl
                                refine one_ (i := 6) (N := some 82) #[true, true, true, true, true, true, true, false, false, false] rfl rfl (one_of HT_.out (by kernel_rfl)) (by decide) (fun K hK => ?_)
                                refine value_ (w1 := ?_) (v := ?_) (by rfl) rfl ?_ ?_
                                rotate_left 2
                                · go_simp
                                  constructor
                                  · rfl
                                  · rfl
                                refine hK.out _ _ ⟨(blk_cell (blk_alloc BK394.out _) 0).trans rfl, (blk_cell (blk_alloc BK394.out _) 1).trans rfl, (blk_cell (blk_alloc BK394.out _) 2).trans rfl⟩ (fun hHeld => ?_)
                                clear hK K
                                refine norm_ (a' := ?_) ?_ ?_
                                rotate_left
                                · show Act.put _ (some 82) _ = _
                                  simp only [Act.put, List.setIfInBounds_toArray, List.set_cons_zero, List.set_cons_succ, i64_w, i32_w]
                                  rfl
                                refine one_ (i := 7) (N := some 83) #[true, true, true, true, true, true, true, true, false, false] rfl rfl (one_of HT_.out (by kernel_rfl)) (by decide) (fun K hK => ?_)
                                refine Kd.S_append_step (Kd.slice 2 (Kd.int .i64)) (w0 := w) w.heap.size (by rfl) (.tmp 77) (.tmp 82) 22 35 (.slice none 0 0) 24 rfl Try.underlying22 info35 rfl (by decide) (by omega) u395002 x395002_2 t401 [.slice Ao75 t401.length co75] (fun k_ => some k_ ≠ (.slice (some ad395) t387.length co51 : Value).ownBlock ∧ some k_ ≠ (.slice Ao44 x371002_1.length co44 : Value).ownBlock ∧ some k_ ≠ (.slice (some ad395) t387.length co51 : Value).ownBlock) (fun k_ => some k_ = (.slice Ao75 t401.length co75 : Value).ownBlock) rfl rfl ?aP (fun k_ hk_ => ((Kd.R_mono (ok' := fun k_ => ((fun k_ => some k_ ≠ (.slice (some ad395) t387.length co51 : Value).ownBlock ∧ some k_ ≠ (.slice Ao44 x371002_1.length co44 : Value).ownBlock ∧ some k_ ≠ (.slice (some ad395) t387.length co51 : Value).ownBlock)) k_ ∧ some k_ ≠ (u395002 : Value).ownBlock) (Kd.R_apart' (Kd.R_apart' (Kd.R_apart' (Kd.R_apart' (HO403.out) (Kd.S_typed HO_62.out) (by decide)) (Kd.S_typed HO_371002.out) (by decide)) (Kd.S_typed HO_394002.out) (by decide)) (Kd.S_typed HO_395002.out) (by decide)) (fun k_ hk => ⟨⟨hk.1.1.1.2, ⟨hk.1.1.2, hk.1.2⟩⟩, hk.2⟩))).1 k_ hk_.symm) ?aF ?aO ?aB ?aS ?aL ?_
                                (case aP => exact Kd.M_row (Kd.R_mono (Kd.R_tight rfl (Kd.R_mono (ok' := fun k_ => ((fun k_ => some k_ ≠ (.slice (some ad395) t387.length co51 : Value).ownBlock ∧ some k_ ≠ (.slice Ao44 x371002_1.length co44 : Value).ownBlock ∧ some k_ ≠ (.slice (some ad395) t387.length co51 : Value).ownBlock)) k_ ∧ some k_ ≠ (u395002 : Value).ownBlock) (Kd.R_apart' (Kd.R_apart' (Kd.R_apart' (Kd.R_apart' (HO403.out) (Kd.S_typed HO_62.out) (by decide)) (Kd.S_typed HO_371002.out) (by decide)) (Kd.S_typed HO_394002.out) (by decide)) (Kd.S_typed HO_395002.out) (by decide)) (fun k_ hk => ⟨⟨hk.1.1.1.2, ⟨hk.1.1.2, hk.1.2⟩⟩, hk.2⟩))) (fun _ h_ => h_)))
                                (case aB => exact (by repeat (first | (with_reducible first | exact HB.out | apply below_alloc | apply pw_below_drewN | apply below_drew1 | refine below_set ?_ GE366.out | refine below_set ?_ GE367.out | refine below_set ?_ GE370.out | refine below_set ?_ GE393.out | refine below_set ?_ GE394.out) | exact HB.out)))
                                (case aF => exact (fun k_ hk => ⟨Kd.fresh' (Kd.S_lt (by (with_reducible repeat (first | apply Kd.S_alloc | apply Kd.S_drewN | apply Kd.S_drew)); exact HO_62.out)) k_ hk, Kd.fresh' (Kd.S_lt (by (with_reducible repeat (first | apply Kd.S_alloc | apply Kd.S_drewN | apply Kd.S_drew)); exact HO_371002.out)) k_ hk, Kd.fresh' (Kd.S_lt (by (with_reducible repeat (first | apply Kd.S_alloc | apply Kd.S_drewN | apply Kd.S_drew)); exact HO_394002.out)) k_ hk⟩))
                                (case aO => exact (by (with_reducible repeat (first | apply Kd.S_alloc | apply Kd.S_drewN | apply Kd.S_drew)); exact Kd.S_mono HO_395002.out (fun k_ hk => ⟨⟨hk.1.1, ⟨hk.1.2.1, hk.1.2.2⟩⟩, fun e_ => hk.2 e_⟩)))
                                (case aS => exact (below_size (by repeat (first | (with_reducible first | exact HB.out | apply below_alloc | apply pw_below_drewN | apply below_drew1 | refine below_set ?_ GE366.out | refine below_set ?_ GE367.out | refine below_set ?_ GE370.out | refine below_set ?_ GE393.out | refine below_set ?_ GE394.out) | exact HB.out))))
                                (case aL => have := LMc69.out; omega)
                                intro v405 w74 ho hb hg hat
                                rw [← Ny404.out] at ho
                                have n0_ := Aside0.mk (Kd.R_over' (by (with_reducible repeat (first | apply Kd.R_alloc | apply Kd.R_drewN | apply Kd.R_drew)); exact HO_10.out) (Kd.S_typed (by (with_reducible repeat (first | apply Kd.S_alloc | apply Kd.S_drewN | apply Kd.S_drew)); exact HO_395002.out)) (by decide) hg)
                                have n1_ := Aside0.mk (Kd.S_after (ok := (fun k_ => some k_ ≠ (.slice Ao44 x371002_1.length co44 : Value).ownBlock ∧ some k_ ≠ (.slice Ao75 t401.length co75 : Value).ownBlock)) (by (with_reducible repeat (first | apply Kd.S_alloc | apply Kd.S_drewN | apply Kd.S_drew)); exact Kd.S_mono HO_62.out (fun _ hk => ⟨⟨hk.1.1, hk.2⟩, hk.1.2⟩)) hg hat)
                                have n2_ := Aside0.mk (Kd.S_after (ok := (fun k_ => some k_ ≠ (.slice (some ad395) t387.length co51 : Value).ownBlock ∧ some k_ ≠ (.slice (some ad395) t387.length co51 : Value).ownBlock ∧ some k_ ≠ (.slice Ao75 t401.length co75 : Value).ownBlock)) (by (with_reducible repeat (first | apply Kd.S_alloc | apply Kd.S_drewN | apply Kd.S_drew)); exact Kd.S_mono HO_371002.out (fun _ hk => ⟨⟨hk.1.1, ⟨hk.1.2.1, hk.2⟩⟩, hk.1.2.2⟩)) hg hat)
                                have n3_ := Aside0.mk (Kd.S_after (ok := (fun k_ => some k_ ≠ (.slice Ao44 x371002_1.length co44 : Value).ownBlock ∧ some k_ ≠ (.slice Ao75 t401.length co75 : Value).ownBlock)) (by (with_reducible repeat (first | apply Kd.S_alloc | apply Kd.S_drewN | apply Kd.S_drew)); exact Kd.S_mono HO_394002.out (fun _ hk => ⟨⟨hk.1.1, hk.2⟩, hk.1.2⟩)) hg hat)
                                have n4_ := Aside0.mk (blk_grown (g := gb366) (o := .cells #[.int .i64 a0_0, .int .i64 a0_1, .slice A0_2 l0_2.length c0_2] 26 (0, 0)) (by (with_reducible repeat (first | refine blk_drewN ?_ _ | refine blk_drew ?_ | refine blk_alloc ?_ _)); exact BK366.out) hg (Kd.S_ne HO_395002.out BK366.out (by decide)))
                                have n5_ := Aside0.mk (blk_grown (g := gb367) (o := .cells #[.int .i64 x368000_2, .int .i64 x368001_2, .slice none 0 0] 26 (0, 0)) (by (with_reducible repeat (first | refine blk_drewN ?_ _ | refine blk_drew ?_ | refine blk_alloc ?_ _)); exact BK367.out) hg (Kd.S_ne HO_395002.out BK367.out (by decide)))
                                have n6_ := Aside0.mk (blk_grown (g := gb370) (o := .cells #[.int .i64 a0_0, .int .i64 (wrap64 (2 * a0_1)), .slice Ao44 x371002_1.length co44] 26 (0, 0)) (by (with_reducible repeat (first | refine blk_drewN ?_ _ | refine blk_drew ?_ | refine blk_alloc ?_ _)); exact BK370.out) hg (Kd.S_ne HO_395002.out BK370.out (by decide)))
                                have n7_ := Aside0.mk (blk_grown (g := gb393) (o := .cells #[.int .i64 t385, .int .i64 t386, .slice (some ad395) t387.length co51] 26 (0, 0)) (by (with_reducible repeat (first | refine blk_drewN ?_ _ | refine blk_drew ?_ | refine blk_alloc ?_ _)); exact BK393.out) hg (Kd.S_ne HO_395002.out BK393.out (by decide)))
                                have n8_ := Aside0.mk (blk_grown (g := gb394) (o := .cells #[.int .i64 a0_0, .int .i64 a0_1, u395002] 26 (0, 0)) (by (with_reducible repeat (first | refine blk_drewN ?_ _ | refine blk_drew ?_ | refine blk_alloc ?_ _)); exact BK394.out) hg (Kd.S_ne HO_395002.out BK394.out (by decide)))
                                have n9_ := Aside0.mk (Kd.R_after (ok := (fun k_ => some k_ ≠ (.slice (some ad395) t387.length co51 : Value).ownBlock ∧ some k_ ≠ (.slice Ao44 x371002_1.length co44 : Value).ownBlock ∧ some k_ ≠ (.slice Ao75 t401.length co75 : Value).ownBlock)) (by (with_reducible repeat (first | apply Kd.R_alloc | apply Kd.R_drewN | apply Kd.R_drew)); exact Kd.R_mono HL395_0.out (fun _ hk => ⟨⟨hk.1.2, ⟨hk.1.1.1, hk.2⟩⟩, hk.1.1.2⟩)) hg hat)
                                have n10_ := Aside0.mk (hb)
                                have n11_ := Aside0.mk (ho)
                                clear HO_10
                                clear HO_62
                                clear HO_371002
                                clear HO_394002
                                clear BK366
                                clear BK367
                                clear BK370
                                clear BK393
                                clear BK394
                                clear HL395_0
                                clear HB
                                clear HO_395002
                                clear HO403
                                have HO_10 := n0_
                                have HO_62 := n1_
                                have HO_371002 := n2_
                                have HO_394002 := n3_
                                have BK366 := n4_
                                have BK367 := n5_
                                have BK370 := n6_
                                have BK393 := n7_
                                have BK394 := n8_
                                have HL395_0 := n9_
                                have HB := n10_
                                have HO406 := n11_
                                clear n0_ n1_ n2_ n3_ n4_ n5_ n6_ n7_ n8_ n9_ n10_ n11_
                                clear ho hb hg hat
                                obtain ⟨Ao76, co76, eo76⟩ := Kd.S_slice HO406.out
                                (first | subst eo76 | (injection eo76 with f1_ f2_ f3_; have f4_ := f1_.symm; have f5_ := f3_.symm; clear f1_ f2_ f3_; subst f4_; subst f5_))
                                refine hK.out _ _ ⟨(blk_cell BK394.out 0).trans rfl, (blk_cell BK394.out 1).trans rfl, (blk_cell BK394.out 2).trans rfl⟩ (fun hHeld => ?_)
                                clear hK K
                                refine norm_ (a' := ?_) ?_ ?_
                                rotate_left
                                · show Act.put _ (some 83) _ = _
                                  simp only [Act.put, List.setIfInBounds_toArray, List.set_cons_zero, List.set_cons_succ, i64_w, i32_w]
                                  rfl
                                refine pure_ (i := 8) (N := some 84) (v := ?_) (a' := ?_) #[true, true, true, true, true, true, true, true, true, false] rfl rfl (any_of HT_.out (by kernel_rfl)) (fun _ _ _ h => h) (Or.inl ⟨by rfl, ?_⟩) ?_ ?_
                                rotate_left
                                · intro w'
                                  first | (go_simp; with_reducible rfl) | (simp [go_sem, Instr.field, asAgg] <;> with_reducible rfl)
                                rotate_left
                                · simp only [Act.put, List.setIfInBounds_toArray, List.set_cons_zero, List.set_cons_succ, i64_w, i32_w]
                                  rfl
                                refine last_ (i := 9) (N := none) #[true, true, true, true, true, true, true, true, true, true] rfl rfl (one_of HT_.out (by kernel_rfl)) (by decide) (fun K hK => ?_)
                                have hs77 : w74.cell? ⟨gb394, 2, none⟩ = some (u395002) := (blk_cell BK394.out 2).trans rfl
                                have hfs77 := blk_frozen BK394.out 2
                                have hns77_0 := NB366_394.out
                                have hns77_1 := NB367_394.out
                                have hns77_2 := NB370_394.out
                                have hns77_3 := NB393_394.out
                                have hms77_0 := NB394_366.out
                                have hms77_1 := NB394_367.out
                                have hms77_2 := NB394_370.out
                                have hms77_3 := NB394_393.out
                                refine skip_ (w1 := ?_) (by rfl) rfl ?_ ?_
                                rotate_left
                                · go_simp
                                  rfl
                                refine hK.out _ _ ?_
                                clear hK K
                                refine done_ (done_of HT_.out (by kernel_rfl)) ?_
                                try go_wp2
                                go_roundg k2
                                case measure => have := HK1.out; have := HK2.out; omega
                                case rel => exact ⟨(wrap64 (x64_2 + 1)), (x368000_2), (x368001_2), (y404), (.slice Ao76 y404.length co76), (by first | rfl | (simp; done) | (simp [*]; done)), H', ⟨by have := HK1.out; have := HK2.out; omega⟩, ⟨by (with_reducible repeat (first | apply Kd.R_alloc | apply Kd.R_drewN | apply Kd.R_drew)); exact Kd.R_mono (Kd.R_far (p := ⟨gb394, 2, none⟩) (Kd.R_types HO_10.out BK394.out (by decide)) (fun _ hk => hk.2) (.slice Ao76 y404.length co76)) (fun _ hk => trivial)⟩, ⟨by (with_reducible repeat (first | apply Kd.S_alloc | apply Kd.S_drewN | apply Kd.S_drew)); exact Kd.S_mono (Kd.S_far (p := ⟨gb394, 2, none⟩) (Kd.S_types HO_62.out BK394.out (by decide)) (fun _ hk => hk.2) (.slice Ao76 y404.length co76)) (fun _ hk => ⟨hk.1.1.1, hk.1.2⟩)⟩, ⟨by (with_reducible repeat (first | apply Kd.S_alloc | apply Kd.S_drewN | apply Kd.S_drew)); exact Kd.S_mono (Kd.S_far (p := ⟨gb394, 2, none⟩) (Kd.S_types HO_371002.out BK394.out (by decide)) (fun _ hk => hk.2) (.slice Ao76 y404.length co76)) (fun _ hk => ⟨hk.1.1.1, ⟨hk.1.1.2.1, hk.1.2⟩⟩)⟩, ⟨by (with_reducible repeat (first | apply Kd.S_alloc | apply Kd.S_drewN | apply Kd.S_drew)); exact Kd.S_mono (Kd.S_far (p := ⟨gb394, 2, none⟩) (Kd.S_types HO_394002.out BK394.out (by decide)) (fun _ hk => hk.2) (.slice Ao76 y404.length co76)) (fun _ hk => ⟨hk.1.1.1, hk.1.2⟩)⟩, ⟨by (with_reducible repeat (first | apply Kd.S_alloc | apply Kd.S_drewN | apply Kd.S_drew)); exact Kd.S_mono (Kd.S_far (p := ⟨gb394, 2, none⟩) (Kd.S_types HO406.out BK394.out (by decide)) (fun _ hk => hk.2) (.slice Ao76 y404.length co76)) (fun _ hk => ⟨hk.1.1, ⟨hk.1.2.1, hk.1.2.2⟩⟩)⟩, ⟨by (with_reducible repeat (first | refine blk_drewN ?_ _ | refine blk_drew ?_ | refine blk_alloc ?_ _)); refine blk_far ?_ NB366_394.out _; (with_reducible repeat (first | refine blk_drewN ?_ _ | refine blk_drew ?_ | refine blk_alloc ?_ _)); exact BK366.out⟩, ⟨by (with_reducible repeat (first | refine blk_drewN ?_ _ | refine blk_drew ?_ | refine blk_alloc ?_ _)); refine blk_far ?_ NB367_394.out _; (with_reducible repeat (first | refine blk_drewN ?_ _ | refine blk_drew ?_ | refine blk_alloc ?_ _)); exact BK367.out⟩, ⟨by (with_reducible repeat (first | refine blk_drewN ?_ _ | refine blk_drew ?_ | refine blk_alloc ?_ _)); refine blk_far ?_ NB370_394.out _; (with_reducible repeat (first | refine blk_drewN ?_ _ | refine blk_drew ?_ | refine blk_alloc ?_ _)); exact BK370.out⟩, ⟨by (with_reducible repeat (first | refine blk_drewN ?_ _ | refine blk_drew ?_ | refine blk_alloc ?_ _)); refine blk_far ?_ NB393_394.out _; (with_reducible repeat (first | refine blk_drewN ?_ _ | refine blk_drew ?_ | refine blk_alloc ?_ _)); exact BK393.out⟩, ⟨by (with_reducible repeat (first | refine blk_drewN ?_ _ | refine blk_drew ?_ | refine blk_alloc ?_ _)); refine blk_put (cs := #[.int .i64 a0_0, .int .i64 a0_1, u395002]) ?_ 2 _ rfl; (with_reducible repeat (first | refine blk_drewN ?_ _ | refine blk_drew ?_ | refine blk_alloc ?_ _)); exact BK394.out⟩, ⟨by repeat (first | (with_reducible first | exact HB.out | apply below_alloc | apply pw_below_drewN | apply below_drew1 | refine below_set ?_ GE366.out | refine below_set ?_ GE367.out | refine below_set ?_ GE370.out | refine below_set ?_ GE393.out | refine below_set ?_ GE394.out) | exact HB.out)⟩⟩
                              · rw [if_neg c69] at H
                                exact absurd H (by simp)
                            · rw [if_neg c67] at H
                              exact absurd H (by simp)
                          · rw [if_neg c66] at H
                            exact absurd H (by simp)
                        · rw [if_neg c65] at H
                          have c65b0 : ((rd t390 x64_2) == x64_2) = false := beq_eq_false_iff_ne.mpr c65
                          have c65b1 : ((rd t390 x64_2) != x64_2) = true := bne_iff_ne.mpr c65
                          simp only [Option.some.injEq, Prod.mk.injEq] at H
                          obtain ⟨rfl, rfl, rfl, rfl⟩ := H
                          have p395 : 0 ≤ (x64_2 : Int) := of_decide_eq_true (by first | (with_reducible assumption) | assumption)
                          have q395 : x64_2 < (t387.length : Int) := of_decide_eq_true (by first | (with_reducible assumption) | assumption)
                          obtain ⟨ad395, A395_0, c395_0, e395, hx395_0, hl395_0, hi395_0⟩ := at_L1 (Kd.S_reads' HO_62.out).2.2 x64_2 p395 q395
                          cases e395
                          obtain ⟨ce395, hce395, hMe395, hcc395⟩ := Kd.S_get HO_62.out [] x64_2 p395 (by first | exact q395 | exact of_decide_eq_true (by first | (with_reducible assumption) | assumption) | (have e_ := (Kd.S_reads' HO_62.out).1; omega))
                          obtain ⟨ve395_0, rfl, ge395_0⟩ := hMe395
                          have hv395_0 := hcc395 0 _ rfl
                          rw [Nat.add_zero, show ((Kd.slice 2 (Kd.int .i64))).sz = 1 from rfl, Nat.mul_one] at hv395_0
                          replace hv395_0 := Option.some.inj (hv395_0.symm.trans hx395_0)
                          rw [hv395_0] at ge395_0
                          have HL395_0 := Aside0.mk (show Kd.R (Kd.int .i64) 2 _ _ _ _ (rd_L1 t387 x64_2) from ge395_0)
                          clear hv395_0 ge395_0
                          clear hcc395 hce395
                          have HR395_0 := Aside0.mk hi395_0
                          have HC395_0 := Aside0.mk hl395_0
                          clear hi395_0 hl395_0
                          replace p395 := eq_true p395
                          replace q395 := eq_true q395
                          obtain ⟨Ao78, co78, eo78⟩ := Kd.R_slice HO_10.out
                          subst eo78
                          have p396 : 0 ≤ (x64_2 : Int) := of_decide_eq_true (by first | (with_reducible assumption) | assumption)
                          have q396 : x64_2 < (t390.length : Int) := of_decide_eq_true (by first | (with_reducible assumption) | assumption)
                          obtain ⟨ad396, e396, hx396_0⟩ := Kd.at_int (Kd.R_reads' HO_10.out).2.2 x64_2 p396 q396
                          cases e396
                          replace p396 := eq_true p396
                          replace q396 := eq_true q396
                          have hnb79 := NB367_366.out
                          have hnc79 := NB366_367.out
                          have hnb80 := NB367_370.out
                          have hnc80 := NB370_367.out
                          have hnb81 := NB367_393.out
                          have hnc81 := NB393_367.out
                          have hnb82 := NB367_394.out
                          have hnc82 := NB394_367.out
                          have hcz83_0 : wr.cell? ⟨gb367, 0, none⟩ = some (.int .i64 x368000_2) := (blk_cell BK367.out 0).trans rfl
                          have hcz83_1 : wr.cell? ⟨gb367, 1, none⟩ = some (.int .i64 x368001_2) := (blk_cell BK367.out 1).trans rfl
                          have hcz83_2 : wr.cell? ⟨gb367, 2, none⟩ = some (.slice none 0 0) := (blk_cell BK367.out 2).trans rfl
                          have hfz83_0 := blk_frozen BK367.out 0
                          have hfz83_1 := blk_frozen BK367.out 1
                          have hfz83_2 := blk_frozen BK367.out 2
                          go_wp2
                          refine bodyPost_ret (results_ct rfl _ _ gb367 26 #[.int .i64 0, .int .i64 0, .slice none 0 0] (0, 0) _ rfl (by (with_reducible repeat (first | refine blk_drewN ?_ _ | refine blk_drew ?_ | refine blk_alloc ?_ _)); refine blk_put (cs := #[.int .i64 0, .int .i64 0, .slice none 0 0]) ?_ 2 _ rfl; (with_reducible repeat (first | refine blk_drewN ?_ _ | refine blk_drew ?_ | refine blk_alloc ?_ _)); refine blk_put (cs := #[.int .i64 0, .int .i64 x368001_2, .slice none 0 0]) ?_ 1 _ rfl; (with_reducible repeat (first | refine blk_drewN ?_ _ | refine blk_drew ?_ | refine blk_alloc ?_ _)); refine blk_put (cs := #[.int .i64 x368000_2, .int .i64 x368001_2, .slice none 0 0]) ?_ 0 _ rfl; (with_reducible repeat (first | refine blk_drewN ?_ _ | refine blk_drew ?_ | refine blk_alloc ?_ _)); exact BK367.out) Try.underlying26 rfl (by kernel_rfl)) rfl ?_
                          exact ⟨_, by first | rfl | (simp [errW_none, errW_some] <;> rfl) | (simp [*, errW_none, errW_some] <;> rfl), by first | exact Kd.S_nil _ _ _ _ _ | exact Kd.N_nil _ _ _ _ _ | exact Kd.V_nil _ _ _ _ _ | exact Kd.Q_nil _ _ _ _ _ | exact Kd.R_nil _ _ _ _ _, by repeat (first | (with_reducible first | exact HB.out | apply below_alloc | apply pw_below_drewN | apply below_drew1 | refine below_set ?_ GE366.out | refine below_set ?_ GE367.out | refine below_set ?_ GE370.out | refine below_set ?_ GE393.out | refine below_set ?_ GE394.out) | exact HB.out)⟩
                      · rw [if_neg c64] at H
                        exact absurd H (by simp)
                    · rw [if_neg c63] at H
                      exact absurd H (by simp)
                  · rw [if_neg c62] at H
                    exact absurd H (by simp)
                · rw [if_neg c61] at H
                  have c61b0 : decide (x64_2 < (t387.length : Int)) = false := decide_eq_false c61
                  clear c61
                  simp only [Option.some.injEq, Prod.mk.injEq] at H
                  obtain ⟨rfl, rfl, rfl, rfl⟩ := H
                  have hnb84 := NB394_366.out
                  have hnc84 := NB366_394.out
                  have hnb85 := NB394_367.out
                  have hnc85 := NB367_394.out
                  have hnb86 := NB394_370.out
                  have hnc86 := NB370_394.out
                  have hnb87 := NB394_393.out
                  have hnc87 := NB393_394.out
                  have hcz88_0 : wr.cell? ⟨gb394, 0, none⟩ = some (.int .i64 a0_0) := (blk_cell BK394.out 0).trans rfl
                  have hcz88_1 : wr.cell? ⟨gb394, 1, none⟩ = some (.int .i64 a0_1) := (blk_cell BK394.out 1).trans rfl
                  have hcz88_2 : wr.cell? ⟨gb394, 2, none⟩ = some (u395002) := (blk_cell BK394.out 2).trans rfl
                  have hfz88_0 := blk_frozen BK394.out 0
                  have hfz88_1 := blk_frozen BK394.out 1
                  have hfz88_2 := blk_frozen BK394.out 2
                  have hnb89 := NB367_366.out
                  have hnc89 := NB366_367.out
                  have hnb90 := NB367_370.out
                  have hnc90 := NB370_367.out
                  have hnb91 := NB367_393.out
                  have hnc91 := NB393_367.out
                  have hcz92_0 : wr.cell? ⟨gb367, 0, none⟩ = some (.int .i64 x368000_2) := (blk_cell BK367.out 0).trans rfl
                  have hcz92_1 : wr.cell? ⟨gb367, 1, none⟩ = some (.int .i64 x368001_2) := (blk_cell BK367.out 1).trans rfl
                  have hcz92_2 : wr.cell? ⟨gb367, 2, none⟩ = some (.slice none 0 0) := (blk_cell BK367.out 2).trans rfl
                  have hfz92_0 := blk_frozen BK367.out 0
                  have hfz92_1 := blk_frozen BK367.out 1
                  have hfz92_2 := blk_frozen BK367.out 2
                  obtain ⟨Ao93, co93, eo93⟩ := Kd.S_slice HO_395002.out
                  subst eo93
                  go_wp2
                  refine bodyPost_ret (results_ct rfl _ _ gb367 26 #[.int .i64 a0_0, .int .i64 a0_1, .slice Ao93 x395002_2.length co93] (0, 0) _ rfl (by (with_reducible repeat (first | refine blk_drewN ?_ _ | refine blk_drew ?_ | refine blk_alloc ?_ _)); refine blk_put (cs := #[.int .i64 a0_0, .int .i64 a0_1, .slice none 0 0]) ?_ 2 _ rfl; (with_reducible repeat (first | refine blk_drewN ?_ _ | refine blk_drew ?_ | refine blk_alloc ?_ _)); refine blk_put (cs := #[.int .i64 a0_0, .int .i64 x368001_2, .slice none 0 0]) ?_ 1 _ rfl; (with_reducible repeat (first | refine blk_drewN ?_ _ | refine blk_drew ?_ | refine blk_alloc ?_ _)); refine blk_put (cs := #[.int .i64 x368000_2, .int .i64 x368001_2, .slice none 0 0]) ?_ 0 _ rfl; (with_reducible repeat (first | refine blk_drewN ?_ _ | refine blk_drew ?_ | refine blk_alloc ?_ _)); exact BK367.out) Try.underlying26 rfl (by kernel_rfl)) rfl ?_
                  exact ⟨_, by first | rfl | (simp [errW_none, errW_some] <;> rfl) | (simp [*, errW_none, errW_some] <;> rfl), by (with_reducible repeat (first | apply Kd.S_alloc | apply Kd.S_drewN | apply Kd.S_drew)); exact Kd.S_mono (Kd.S_far (p := ⟨gb367, 2, none⟩) (Kd.S_far (p := ⟨gb367, 1, none⟩) (Kd.S_far (p := ⟨gb367, 0, none⟩) (Kd.S_types HO_395002.out BK367.out (by decide)) (fun _ hk => hk.2) (.int .i64 a0_0)) (fun _ hk => hk.2) (.int .i64 a0_1)) (fun _ hk => hk.2) (.slice Ao93 x395002_2.length co93)) (fun _ hk => trivial), by repeat (first | (with_reducible first | exact HB.out | apply below_alloc | apply pw_below_drewN | apply below_drew1 | refine below_set ?_ GE366.out | refine below_set ?_ GE367.out | refine below_set ?_ GE370.out | refine below_set ?_ GE393.out | refine below_set ?_ GE394.out) | exact HB.out)⟩
    · replace c5 := Bool.eq_false_iff.mpr c5
      subst c5
      have H1 : (some (0, 0, ([] : List (List Int)), 2)) = some (r1, r2, r3, r4) := by rw [if_neg (show ¬ (false = true) by decide)] at H; exact H
      clear H
      have H := H1
      clear H1
      simp only [Option.some.injEq, Prod.mk.injEq] at H
      obtain ⟨rfl, rfl, rfl, rfl⟩ := H
      go_enter Try.func22, Try.ntmps22
      go_wp2_with (first | ((with_reducible refine gate_dst (N := 1) rfl ?_); refine box_event ?hg (N := 1) ?hd (cs := #[.int .i64 a0_0, .int .i64 a0_1, .slice A0_2 l0_2.length c0_2]) (t := 26) ?hr ?_; (case hd => rfl); (case hg => rfl); (case hr => first | (go_simp; done) | (go_simp; rfl)); intro gb366 hg w94 hbox hb; have n0_ := Aside0.mk (below_step (by repeat (first | (with_reducible first | exact HB.out | apply below_alloc | apply pw_below_drewN | apply below_drew1) | exact HB.out)) hb); have n1_ := Aside0.mk (hbox); have n2_ := Aside0.mk ((by rw [hg]; exact (below_size (by repeat (first | (with_reducible first | exact HB.out | apply below_alloc | apply pw_below_drewN | apply below_drew1) | exact HB.out))) : w.heap.size ≤ gb366)); have n3_ := Aside0.mk ((by rw [hg]; exact (below_size (by repeat (first | (with_reducible first | exact HB.out | apply below_alloc | apply pw_below_drewN | apply below_drew1) | exact HB.out))) : w.heap.size ≤ gb366)); clear HB; have HB := n0_; have BK366 := n1_; have GW366 := n2_; have GE366 := n3_; clear n0_ n1_ n2_ n3_; clear hb hbox hg) | ((with_reducible refine gate_dst (N := 2) rfl ?_); refine box_event ?hg (N := 2) ?hd (cs := #[.int .i64 0, .int .i64 0, .slice none 0 0]) (t := 26) ?hr ?_; (case hd => rfl); (case hg => rfl); (case hr => first | (go_simp; done) | (go_simp; rfl)); intro gb367 hg w95 hbox hb; have n0_ := Aside0.mk (blk_below (g := gb366) (o := .cells #[.int .i64 a0_0, .int .i64 a0_1, .slice A0_2 l0_2.length c0_2] 26 (0, 0)) (by (with_reducible repeat (first | refine blk_drewN ?_ _ | refine blk_drew ?_ | refine blk_alloc ?_ _)); exact BK366.out) hb); have n1_ := Aside0.mk (below_step (by repeat (first | (with_reducible first | exact HB.out | apply below_alloc | apply pw_below_drewN | apply below_drew1 | refine below_set ?_ GE366.out) | exact HB.out)) hb); have n2_ := Aside0.mk (hbox); have n3_ := Aside0.mk ((by rw [hg]; exact (below_size (by repeat (first | (with_reducible first | exact HB.out | apply below_alloc | apply pw_below_drewN | apply below_drew1 | refine below_set ?_ GE366.out) | exact HB.out))) : w.heap.size ≤ gb367)); have n4_ := Aside0.mk ((by rw [hg]; exact (below_size (by repeat (first | (with_reducible first | exact HB.out | apply below_alloc | apply pw_below_drewN | apply below_drew1 | refine below_set ?_ GE366.out) | exact HB.out))) : w.heap.size ≤ gb367)); have n5_ := Aside0.mk ((by rw [hg]; exact Nat.ne_of_lt (blk_lt (g := gb366) (o := .cells #[.int .i64 a0_0, .int .i64 a0_1, .slice A0_2 l0_2.length c0_2] 26 (0, 0)) (by (with_reducible repeat (first | refine blk_drewN ?_ _ | refine blk_drew ?_ | refine blk_alloc ?_ _)); exact BK366.out)) : gb366 ≠ gb367)); have n6_ := Aside0.mk ((by rw [hg]; exact Nat.ne_of_gt (blk_lt (g := gb366) (o := .cells #[.int .i64 a0_0, .int .i64 a0_1, .slice A0_2 l0_2.length c0_2] 26 (0, 0)) (by (with_reducible repeat (first | refine blk_drewN ?_ _ | refine blk_drew ?_ | refine blk_alloc ?_ _)); exact BK366.out)) : gb367 ≠ gb366)); clear BK366; clear HB; have BK366 := n0_; have HB := n1_; have BK367 := n2_; have GW367 := n3_; have GE367 := n4_; have NB366_367 := n5_; have NB367_366 := n6_; clear n0_ n1_ n2_ n3_ n4_ n5_ n6_; clear hb hbox hg; have hnb96 := NB366_367.out; have hnc96 := NB367_366.out; have hcz97_0 : w95.cell? ⟨gb366, 0, none⟩ = some (.int .i64 a0_0) := (blk_cell BK366.out 0).trans rfl; have hcz97_1 : w95.cell? ⟨gb366, 1, none⟩ = some (.int .i64 a0_1) := (blk_cell BK366.out 1).trans rfl; have hcz97_2 : w95.cell? ⟨gb366, 2, none⟩ = some (.slice A0_2 l0_2.length c0_2) := (blk_cell BK366.out 2).trans rfl; have hfz97_0 := blk_frozen BK366.out 0; have hfz97_1 := blk_frozen BK366.out 1; have hfz97_2 := blk_frozen BK366.out 2) | ((with_reducible refine gate_callee (f := 50) rfl ?_); refine goesL_ (some 15) rfl rfl Try.func50 (by kernel_rfl) rfl #[.agg #[.int .i64 a0_0, .int .i64 a0_1, .slice A0_2 l0_2.length c0_2]] rfl (by (try simp only [List.map_toArray, List.map_cons, List.map_nil]); first | done | rfl | (simp only [List.length_drop, List.length_take]; rfl)) ?_; (with_reducible refine (impl_ValidMatrix.calls k a0_0 a0_1 _ _ l0_2 true _ ?side1 ?side2 A2.out).mono ?_); (case side1 => repeat (first | exact (Kd.C_below HR0_2.out HB.out) | (with_reducible refine Kd.C_alloc ?_ _) | (with_reducible refine Kd.C_drewN ?_ _) | (with_reducible refine Kd.C_drew ?_))); (case side2 => exact HC0_2.out); rintro e w98 ⟨rfl, hb⟩; refine ⟨_, rfl, ?_⟩; have n0_ := Aside0.mk (blk_below (g := gb366) (o := .cells #[.int .i64 a0_0, .int .i64 a0_1, .slice A0_2 l0_2.length c0_2] 26 (0, 0)) (by (with_reducible repeat (first | refine blk_drewN ?_ _ | refine blk_drew ?_ | refine blk_alloc ?_ _)); exact BK366.out) hb); have n1_ := Aside0.mk (blk_below (g := gb367) (o := .cells #[.int .i64 0, .int .i64 0, .slice none 0 0] 26 (0, 0)) (by (with_reducible repeat (first | refine blk_drewN ?_ _ | refine blk_drew ?_ | refine blk_alloc ?_ _)); exact BK367.out) hb); have n2_ := Aside0.mk (below_step (by repeat (first | (with_reducible first | exact HB.out | apply below_alloc | apply pw_below_drewN | apply below_drew1 | refine below_set ?_ GE366.out | refine below_set ?_ GE367.out) | exact HB.out)) hb); clear BK366; clear BK367; clear HB; have BK366 := n0_; have BK367 := n1_; have HB := n2_; clear n0_ n1_ n2_; (try clear hb); (try clear hb2); (try clear hk); (try clear hi); have hcz99_0 : w98.cell? ⟨gb366, 0, none⟩ = some (.int .i64 a0_0) := (blk_cell BK366.out 0).trans rfl; have hcz99_1 : w98.cell? ⟨gb366, 1, none⟩ = some (.int .i64 a0_1) := (blk_cell BK366.out 1).trans rfl; have hcz99_2 : w98.cell? ⟨gb366, 2, none⟩ = some (.slice A0_2 l0_2.length c0_2) := (blk_cell BK366.out 2).trans rfl; have hfz99_0 := blk_frozen BK366.out 0; have hfz99_1 := blk_frozen BK366.out 1; have hfz99_2 := blk_frozen BK366.out 2) | ((with_reducible refine gate_callee (f := 63) rfl ?_); refine goesL_ (some 19) rfl rfl Try.func63 (by kernel_rfl) rfl #[.agg #[.int .i64 a0_0, .int .i64 a0_1, .slice A0_2 l0_2.length c0_2]] rfl (by (try simp only [List.map_toArray, List.map_cons, List.map_nil]); first | done | rfl | (simp only [List.length_drop, List.length_take]; rfl)) ?_; (with_reducible refine (impl_Matrix_isSquare.calls a0_0 a0_1 _ _ l0_2 false _ ?side1 ?side2 A4.out).mono ?_); (case side1 => repeat (first | exact (Kd.C_below HR0_2.out HB.out) | (with_reducible refine Kd.C_alloc ?_ _) | (with_reducible refine Kd.C_drewN ?_ _) | (with_reducible refine Kd.C_drew ?_))); (case side2 => exact HC0_2.out); rintro e w100 ⟨rfl, hb⟩; refine ⟨_, rfl, ?_⟩; have n0_ := Aside0.mk (blk_below (g := gb366) (o := .cells #[.int .i64 a0_0, .int .i64 a0_1, .slice A0_2 l0_2.length c0_2] 26 (0, 0)) (by (with_reducible repeat (first | refine blk_drewN ?_ _ | refine blk_drew ?_ | refine blk_alloc ?_ _)); exact BK366.out) hb); have n1_ := Aside0.mk (blk_below (g := gb367) (o := .cells #[.int .i64 0, .int .i64 0, .slice none 0 0] 26 (0, 0)) (by (with_reducible repeat (first | refine blk_drewN ?_ _ | refine blk_drew ?_ | refine blk_alloc ?_ _)); exact BK367.out) hb); have n2_ := Aside0.mk (below_step (by repeat (first | (with_reducible first | exact HB.out | apply below_alloc | apply pw_below_drewN | apply below_drew1 | refine below_set ?_ GE366.out | refine below_set ?_ GE367.out) | exact HB.out)) hb); clear BK366; clear BK367; clear HB; have BK366 := n0_; have BK367 := n1_; have HB := n2_; clear n0_ n1_ n2_; (try clear hb); (try clear hb2); (try clear hk); (try clear hi); have hcz101_0 : w100.cell? ⟨gb367, 0, none⟩ = some (.int .i64 0) := (blk_cell BK367.out 0).trans rfl; have hcz101_1 : w100.cell? ⟨gb367, 1, none⟩ = some (.int .i64 0) := (blk_cell BK367.out 1).trans rfl; have hcz101_2 : w100.cell? ⟨gb367, 2, none⟩ = some (.slice none 0 0) := (blk_cell BK367.out 2).trans rfl; have hfz101_0 := blk_frozen BK367.out 0; have hfz101_1 := blk_frozen BK367.out 1; have hfz101_2 := blk_frozen BK367.out 2))
      refine bodyPost_ret (results_ct rfl _ _ gb367 26 #[.int .i64 0, .int .i64 0, .slice none 0 0] (0, 0) _ rfl (by (with_reducible repeat (first | refine blk_drewN ?_ _ | refine blk_drew ?_ | refine blk_alloc ?_ _)); refine blk_put (cs := #[.int .i64 0, .int .i64 0, .slice none 0 0]) ?_ 2 _ rfl; (with_reducible repeat (first | refine blk_drewN ?_ _ | refine blk_drew ?_ | refine blk_alloc ?_ _)); refine blk_put (cs := #[.int .i64 0, .int .i64 0, .slice none 0 0]) ?_ 1 _ rfl; (with_reducible repeat (first | refine blk_drewN ?_ _ | refine blk_drew ?_ | refine blk_alloc ?_ _)); refine blk_put (cs := #[.int .i64 0, .int .i64 0, .slice none 0 0]) ?_ 0 _ rfl; (with_reducible repeat (first | refine blk_drewN ?_ _ | refine blk_drew ?_ | refine blk_alloc ?_ _)); exact BK367.out) Try.underlying26 rfl (by kernel_rfl)) rfl ?_
      exact ⟨_, by first | rfl | (simp [errW_none, errW_some] <;> rfl) | (simp [*, errW_none, errW_some] <;> rfl), by first | exact Kd.S_nil _ _ _ _ _ | exact Kd.N_nil _ _ _ _ _ | exact Kd.V_nil _ _ _ _ _ | exact Kd.Q_nil _ _ _ _ _ | exact Kd.R_nil _ _ _ _ _, by repeat (first | (with_reducible first | exact HB.out | apply below_alloc | apply pw_below_drewN | apply below_drew1 | refine below_set ?_ GE366.out | refine below_set ?_ GE367.out) | exact HB.out)⟩
  · replace c3 := Bool.eq_false_iff.mpr c3
    subst c3
    have H1 : (some (0, 0, ([] : List (List Int)), 1)) = some (r1, r2, r3, r4) := by rw [if_neg (show ¬ (false = true) by decide)] at H; exact H
    clear H
    have H := H1
    clear H1
    simp only [Option.some.injEq, Prod.mk.injEq] at H
    obtain ⟨rfl, rfl, rfl, rfl⟩ := H
    go_enter Try.func22, Try.ntmps22
    go_wp2_with (first | ((with_reducible refine gate_dst (N := 1) rfl ?_); refine box_event ?hg (N := 1) ?hd (cs := #[.int .i64 a0_0, .int .i64 a0_1, .slice A0_2 l0_2.length c0_2]) (t := 26) ?hr ?_; (case hd => rfl); (case hg => rfl); (case hr => first | (go_simp; done) | (go_simp; rfl)); intro gb366 hg w102 hbox hb; have n0_ := Aside0.mk (below_step (by repeat (first | (with_reducible first | exact HB.out | apply below_alloc | apply pw_below_drewN | apply below_drew1) | exact HB.out)) hb); have n1_ := Aside0.mk (hbox); have n2_ := Aside0.mk ((by rw [hg]; exact (below_size (by repeat (first | (with_reducible first | exact HB.out | apply below_alloc | apply pw_below_drewN | apply below_drew1) | exact HB.out))) : w.heap.size ≤ gb366)); have n3_ := Aside0.mk ((by rw [hg]; exact (below_size (by repeat (first | (with_reducible first | exact HB.out | apply below_alloc | apply pw_below_drewN | apply below_drew1) | exact HB.out))) : w.heap.size ≤ gb366)); clear HB; have HB := n0_; have BK366 := n1_; have GW366 := n2_; have GE366 := n3_; clear n0_ n1_ n2_ n3_; clear hb hbox hg) | ((with_reducible refine gate_dst (N := 2) rfl ?_); refine box_event ?hg (N := 2) ?hd (cs := #[.int .i64 0, .int .i64 0, .slice none 0 0]) (t := 26) ?hr ?_; (case hd => rfl); (case hg => rfl); (case hr => first | (go_simp; done) | (go_simp; rfl)); intro gb367 hg w103 hbox hb; have n0_ := Aside0.mk (blk_below (g := gb366) (o := .cells #[.int .i64 a0_0, .int .i64 a0_1, .slice A0_2 l0_2.length c0_2] 26 (0, 0)) (by (with_reducible repeat (first | refine blk_drewN ?_ _ | refine blk_drew ?_ | refine blk_alloc ?_ _)); exact BK366.out) hb); have n1_ := Aside0.mk (below_step (by repeat (first | (with_reducible first | exact HB.out | apply below_alloc | apply pw_below_drewN | apply below_drew1 | refine below_set ?_ GE366.out) | exact HB.out)) hb); have n2_ := Aside0.mk (hbox); have n3_ := Aside0.mk ((by rw [hg]; exact (below_size (by repeat (first | (with_reducible first | exact HB.out | apply below_alloc | apply pw_below_drewN | apply below_drew1 | refine below_set ?_ GE366.out) | exact HB.out))) : w.heap.size ≤ gb367)); have n4_ := Aside0.mk ((by rw [hg]; exact (below_size (by repeat (first | (with_reducible first | exact HB.out | apply below_alloc | apply pw_below_drewN | apply below_drew1 | refine below_set ?_ GE366.out) | exact HB.out))) : w.heap.size ≤ gb367)); have n5_ := Aside0.mk ((by rw [hg]; exact Nat.ne_of_lt (blk_lt (g := gb366) (o := .cells #[.int .i64 a0_0, .int .i64 a0_1, .slice A0_2 l0_2.length c0_2] 26 (0, 0)) (by (with_reducible repeat (first | refine blk_drewN ?_ _ | refine blk_drew ?_ | refine blk_alloc ?_ _)); exact BK366.out)) : gb366 ≠ gb367)); have n6_ := Aside0.mk ((by rw [hg]; exact Nat.ne_of_gt (blk_lt (g := gb366) (o := .cells #[.int .i64 a0_0, .int .i64 a0_1, .slice A0_2 l0_2.length c0_2] 26 (0, 0)) (by (with_reducible repeat (first | refine blk_drewN ?_ _ | refine blk_drew ?_ | refine blk_alloc ?_ _)); exact BK366.out)) : gb367 ≠ gb366)); clear BK366; clear HB; have BK366 := n0_; have HB := n1_; have BK367 := n2_; have GW367 := n3_; have GE367 := n4_; have NB366_367 := n5_; have NB367_366 := n6_; clear n0_ n1_ n2_ n3_ n4_ n5_ n6_; clear hb hbox hg; have hnb104 := NB366_367.out; have hnc104 := NB367_366.out; have hcz105_0 : w103.cell? ⟨gb366, 0, none⟩ = some (.int .i64 a0_0) := (blk_cell BK366.out 0).trans rfl; have hcz105_1 : w103.cell? ⟨gb366, 1, none⟩ = some (.int .i64 a0_1) := (blk_cell BK366.out 1).trans rfl; have hcz105_2 : w103.cell? ⟨gb366, 2, none⟩ = some (.slice A0_2 l0_2.length c0_2) := (blk_cell BK366.out 2).trans rfl; have hfz105_0 := blk_frozen BK366.out 0; have hfz105_1 := blk_frozen BK366.out 1; have hfz105_2 := blk_frozen BK366.out 2) | ((with_reducible refine gate_callee (f := 50) rfl ?_); refine goesL_ (some 15) rfl rfl Try.func50 (by kernel_rfl) rfl #[.agg #[.int .i64 a0_0, .int .i64 a0_1, .slice A0_2 l0_2.length c0_2]] rfl (by (try simp only [List.map_toArray, List.map_cons, List.map_nil]); first | done | rfl | (simp only [List.length_drop, List.length_take]; rfl)) ?_; (with_reducible refine (impl_ValidMatrix.calls k a0_0 a0_1 _ _ l0_2 false _ ?side1 ?side2 A2.out).mono ?_); (case side1 => repeat (first | exact (Kd.C_below HR0_2.out HB.out) | (with_reducible refine Kd.C_alloc ?_ _) | (with_reducible refine Kd.C_drewN ?_ _) | (with_reducible refine Kd.C_drew ?_))); (case side2 => exact HC0_2.out); rintro e w106 ⟨rfl, hb⟩; refine ⟨_, rfl, ?_⟩; have n0_ := Aside0.mk (blk_below (g := gb366) (o := .cells #[.int .i64 a0_0, .int .i64 a0_1, .slice A0_2 l0_2.length c0_2] 26 (0, 0)) (by (with_reducible repeat (first | refine blk_drewN ?_ _ | refine blk_drew ?_ | refine blk_alloc ?_ _)); exact BK366.out) hb); have n1_ := Aside0.mk (blk_below (g := gb367) (o := .cells #[.int .i64 0, .int .i64 0, .slice none 0 0] 26 (0, 0)) (by (with_reducible repeat (first | refine blk_drewN ?_ _ | refine blk_drew ?_ | refine blk_alloc ?_ _)); exact BK367.out) hb); have n2_ := Aside0.mk (below_step (by repeat (first | (with_reducible first | exact HB.out | apply below_alloc | apply pw_below_drewN | apply below_drew1 | refine below_set ?_ GE366.out | refine below_set ?_ GE367.out) | exact HB.out)) hb); clear BK366; clear BK367; clear HB; have BK366 := n0_; have BK367 := n1_; have HB := n2_; clear n0_ n1_ n2_; (try clear hb); (try clear hb2); (try clear hk); (try clear hi); have hcz107_0 : w106.cell? ⟨gb367, 0, none⟩ = some (.int .i64 0) := (blk_cell BK367.out 0).trans rfl; have hcz107_1 : w106.cell? ⟨gb367, 1, none⟩ = some (.int .i64 0) := (blk_cell BK367.out 1).trans rfl; have hcz107_2 : w106.cell? ⟨gb367, 2, none⟩ = some (.slice none 0 0) := (blk_cell BK367.out 2).trans rfl; have hfz107_0 := blk_frozen BK367.out 0; have hfz107_1 := blk_frozen BK367.out 1; have hfz107_2 := blk_frozen BK367.out 2))
    refine bodyPost_ret (results_ct rfl _ _ gb367 26 #[.int .i64 0, .int .i64 0, .slice none 0 0] (0, 0) _ rfl (by (with_reducible repeat (first | refine blk_drewN ?_ _ | refine blk_drew ?_ | refine blk_alloc ?_ _)); refine blk_put (cs := #[.int .i64 0, .int .i64 0, .slice none 0 0]) ?_ 2 _ rfl; (with_reducible repeat (first | refine blk_drewN ?_ _ | refine blk_drew ?_ | refine blk_alloc ?_ _)); refine blk_put (cs := #[.int .i64 0, .int .i64 0, .slice none 0 0]) ?_ 1 _ rfl; (with_reducible repeat (first | refine blk_drewN ?_ _ | refine blk_drew ?_ | refine blk_alloc ?_ _)); refine blk_put (cs := #[.int .i64 0, .int .i64 0, .slice none 0 0]) ?_ 0 _ rfl; (with_reducible repeat (first | refine blk_drewN ?_ _ | refine blk_drew ?_ | refine blk_alloc ?_ _)); exact BK367.out) Try.underlying26 rfl (by kernel_rfl)) rfl ?_
    exact ⟨_, by first | rfl | (simp [errW_none, errW_some] <;> rfl) | (simp [*, errW_none, errW_some] <;> rfl), by first | exact Kd.S_nil _ _ _ _ _ | exact Kd.N_nil _ _ _ _ _ | exact Kd.V_nil _ _ _ _ _ | exact Kd.Q_nil _ _ _ _ _ | exact Kd.R_nil _ _ _ _ _, by repeat (first | (with_reducible first | exact HB.out | apply below_alloc | apply pw_below_drewN | apply below_drew1 | refine below_set ?_ GE366.out | refine below_set ?_ GE367.out) | exact HB.out)⟩

end Go.Proofs.Ytjpbemomocccaaa.P

namespace Go.Proofs.Ytjpbemomocccaaa.P
open Go.RowKit Go.Proofs.YtjpbemomocccaaaW.PrintWords Go.Proofs.YtjpbemomocccaaaW.PrintLast Go.Proofs.YtjpbemomocccaaaW.PrintMore
attribute [local go_sem] max2_int min2_int max_two min_two max_three min_three max_four min_four
set_option linter.unusedVariables false
set_option linter.unusedSimpArgs false

/-! ### laws_FnExactInverseOf: function 5 (the law's walk, by a program of this session) -/
set_option maxHeartbeats 8000000 in
set_option maxRecDepth 100000 in
theorem laws_FnExactInverseOf.way0 (k : Nat) (a0_0 : Int) (a0_1 : Int) (A0_2 : Option Addr) (c0_2 : Nat) (l0_2 : List (List Int)) (s2 : Int) (w : World) (hr0_2 : Kd.C (Kd.slice 2 (Kd.int .i64)) w A0_2 l0_2.length l0_2) (hc0_2 : l0_2.length ≤ c0_2) (A3 : laws_szMatrix.f k a0_0 a0_1 l0_2 1048576 = some s2) (t9 : decide (s2 < 0) = true) :
    Calls Try.prog 5 #[.agg #[.int .i64 a0_0, .int .i64 a0_1, .slice A0_2 l0_2.length c0_2]] w fun e w' => e = .returned (.bool true) ∧ Below w.heap.size w w' := by
  have hu24 := Try.underlying24
  have HR0_2 := Aside0.mk hr0_2
  have HC0_2 := Aside0.mk hc0_2
  clear hr0_2 hc0_2
  have HB := Aside0.mk (Below.refl w.heap.size w)
  replace A3 := Aside0.mk A3
  go_enter Try.func5, Try.ntmps5
  go_wp2_with (first | ((with_reducible refine gate_callee (f := 12) rfl ?_); refine goesL_ (some 16) rfl rfl Try.func12 (by kernel_rfl) rfl #[.agg #[.int .i64 a0_0, .int .i64 a0_1, .slice A0_2 l0_2.length c0_2], .int .i64 1048576] rfl (by (try simp only [List.map_toArray, List.map_cons, List.map_nil]); first | done | rfl | (simp only [List.length_drop, List.length_take]; rfl)) ?_; (with_reducible refine (laws_szMatrix.calls k a0_0 a0_1 _ _ l0_2 1048576 s2 _ ?side1 ?side2 A3.out).mono ?_); (case side1 => exact Kd.C_below HR0_2.out (by repeat (first | (with_reducible first | exact HB.out | apply below_alloc | apply pw_below_drewN | apply below_drew1) | exact HB.out))); (case side2 => exact HC0_2.out); rintro e w1 ⟨rfl, hb⟩; refine ⟨_, rfl, ?_⟩; have n1_ := Aside0.mk (blk_below (g := w.heap.size) (o := .cells #[.int .i64 a0_0, .int .i64 a0_1, .slice A0_2 l0_2.length c0_2] 24 (0, 0)) (by repeat (first | exact blk_new_at (by simp) | (with_reducible refine blk_drewN ?_ _) | (with_reducible refine blk_drew ?_) | (with_reducible refine blk_alloc ?_ _))) hb); have n2_ := Aside0.mk (below_step (by repeat (first | (with_reducible first | exact HB.out | apply below_alloc | apply pw_below_drewN | apply below_drew1) | exact HB.out)) hb); have C4 : Aside0 (w.heap.size + 1 ≤ w1.heap.size) := ⟨by have h_ := hb.size; (try simp at h_); omega⟩; have CC := Aside0.mk C4.out; clear HB; have HX1 := n1_; clear n1_; have HB := n2_; clear n2_; (try clear hb); have hl5 : w.heap.size < w1.heap.size := blk_lt HX1.out; have hx6 : w1.cell? ⟨w.heap.size, 0, none⟩ = some (.int .i64 a0_0) := (blk_cell HX1.out 0).trans rfl; have hx7 : w1.cell? ⟨w.heap.size, 1, none⟩ = some (.int .i64 a0_1) := (blk_cell HX1.out 1).trans rfl; have hx8 : w1.cell? ⟨w.heap.size, 2, none⟩ = some (.slice A0_2 l0_2.length c0_2) := (blk_cell HX1.out 2).trans rfl))
  go_ret
  exact ⟨rfl, by repeat (first | (with_reducible first | exact HB.out | apply below_alloc | apply pw_below_drewN | apply below_drew1) | exact HB.out)⟩
set_option maxHeartbeats 8000000 in
set_option maxRecDepth 100000 in
theorem laws_FnExactInverseOf.way1 (k : Nat) (a0_0 : Int) (a0_1 : Int) (A0_2 : Option Addr) (c0_2 : Nat) (l0_2 : List (List Int)) (s2 : Int) (r18 : Int) (r19 : Int) (r20 : List (List Int)) (r21 : Int) (m117 : Int) (ys118 : List (List Int)) (m156 : Int) (ys157 : List (List Int)) (w : World) (hr0_2 : Kd.C (Kd.slice 2 (Kd.int .i64)) w A0_2 l0_2.length l0_2) (hc0_2 : l0_2.length ≤ c0_2) (A3 : laws_szMatrix.f k a0_0 a0_1 l0_2 1048576 = some s2) (t9 : decide (s2 < 0) = false) (A10 : laws_toMatrix.f k a0_0 a0_1 l0_2 = some (a0_0, a0_1, l0_2)) (A22 : spec_InverseOf.f k a0_0 a0_1 l0_2 = some (r18, r19, r20, r21)) (A31 : laws_toMatrix.f k a0_0 a0_1 l0_2 = some (a0_0, a0_1, l0_2)) (A44 : impl_InverseOf.f k a0_0 a0_1 l0_2 = some (r18, r19, r20, r21)) (A61 : laws_eqMatrix.f k r18 r19 r20 r18 r19 r20 = some true) (A79 : laws_toMatrix.f k a0_0 a0_1 l0_2 = some (a0_0, a0_1, l0_2)) (A99 : laws_eqMatrix.f k a0_0 a0_1 l0_2 a0_0 a0_1 l0_2 = some true) (A119 : laws_markMatrix.f k a0_0 a0_1 l0_2 1 = some (m117, ys118)) (t137 : decide (m117 < 0) = false) (A138 : laws_eqMatrix.f k r18 r19 r20 r18 r19 r20 = some true) (A158 : laws_markMatrix.f k r18 r19 r20 1 = some (m156, ys157)) (A176 : laws_heldMatrix.f k r18 r19 ys157 1 = some m156) (t194 : decide (m156 < 0) = false) (A195 : laws_toMatrix.f k a0_0 a0_1 l0_2 = some (a0_0, a0_1, l0_2)) (A215 : impl_InverseOf.f k a0_0 a0_1 l0_2 = some (r18, r19, r20, r21)) (A236 : laws_eqMatrix.f k r18 r19 r20 r18 r19 r20 = some true) (A258 : laws_heldMatrix.f k r18 r19 ys157 1 = some m156) (t280 : decide (m156 < 0) = false) :
    Calls Try.prog 5 #[.agg #[.int .i64 a0_0, .int .i64 a0_1, .slice A0_2 l0_2.length c0_2]] w fun e w' => e = .returned (.bool true) ∧ Below w.heap.size w w' := by
  have hu24 := Try.underlying24
  have hu26 := Try.underlying26
  have HR0_2 := Aside0.mk hr0_2
  have HC0_2 := Aside0.mk hc0_2
  clear hr0_2 hc0_2
  have HB := Aside0.mk (Below.refl w.heap.size w)
  replace A3 := Aside0.mk A3
  replace A10 := Aside0.mk A10
  replace A22 := Aside0.mk A22
  replace A31 := Aside0.mk A31
  replace A44 := Aside0.mk A44
  replace A61 := Aside0.mk A61
  replace A79 := Aside0.mk A79
  replace A99 := Aside0.mk A99
  replace A119 := Aside0.mk A119
  replace A138 := Aside0.mk A138
  replace A158 := Aside0.mk A158
  replace A176 := Aside0.mk A176
  replace A195 := Aside0.mk A195
  replace A215 := Aside0.mk A215
  replace A236 := Aside0.mk A236
  replace A258 := Aside0.mk A258
  go_enter Try.func5, Try.ntmps5
  go_wp2_with (first | ((with_reducible refine gate_callee (f := 12) rfl ?_); refine goesL_ (some 16) rfl rfl Try.func12 (by kernel_rfl) rfl #[.agg #[.int .i64 a0_0, .int .i64 a0_1, .slice A0_2 l0_2.length c0_2], .int .i64 1048576] rfl (by (try simp only [List.map_toArray, List.map_cons, List.map_nil]); first | done | rfl | (simp only [List.length_drop, List.length_take]; rfl)) ?_; (with_reducible refine (laws_szMatrix.calls k a0_0 a0_1 _ _ l0_2 1048576 s2 _ ?side1 ?side2 A3.out).mono ?_); (case side1 => exact Kd.C_below HR0_2.out (by repeat (first | (with_reducible first | exact HB.out | apply below_alloc | apply pw_below_drewN | apply below_drew1) | exact HB.out))); (case side2 => exact HC0_2.out); rintro e w1 ⟨rfl, hb⟩; refine ⟨_, rfl, ?_⟩; have n1_ := Aside0.mk (blk_below (g := w.heap.size) (o := .cells #[.int .i64 a0_0, .int .i64 a0_1, .slice A0_2 l0_2.length c0_2] 24 (0, 0)) (by repeat (first | exact blk_new_at (by simp) | (with_reducible refine blk_drewN ?_ _) | (with_reducible refine blk_drew ?_) | (with_reducible refine blk_alloc ?_ _))) hb); have n2_ := Aside0.mk (below_step (by repeat (first | (with_reducible first | exact HB.out | apply below_alloc | apply pw_below_drewN | apply below_drew1) | exact HB.out)) hb); have C4 : Aside0 (w.heap.size + 1 ≤ w1.heap.size) := ⟨by have h_ := hb.size; (try simp at h_); omega⟩; have CC := Aside0.mk C4.out; clear HB; have HX1 := n1_; clear n1_; have HB := n2_; clear n2_; (try clear hb); have hl5 : w.heap.size < w1.heap.size := blk_lt HX1.out; have hx6 : w1.cell? ⟨w.heap.size, 0, none⟩ = some (.int .i64 a0_0) := (blk_cell HX1.out 0).trans rfl; have hx7 : w1.cell? ⟨w.heap.size, 1, none⟩ = some (.int .i64 a0_1) := (blk_cell HX1.out 1).trans rfl; have hx8 : w1.cell? ⟨w.heap.size, 2, none⟩ = some (.slice A0_2 l0_2.length c0_2) := (blk_cell HX1.out 2).trans rfl) | ((with_reducible refine gate_callee (f := 14) rfl ?_); refine goesL_ (some 21) rfl rfl Try.func14 (by kernel_rfl) rfl #[.agg #[.int .i64 a0_0, .int .i64 a0_1, .slice A0_2 l0_2.length c0_2]] rfl (by (try simp only [List.map_toArray, List.map_cons, List.map_nil]); first | done | rfl | (simp only [List.length_drop, List.length_take]; rfl)) ?_; (with_reducible refine (laws_toMatrix.calls k a0_0 a0_1 _ _ l0_2 a0_0 a0_1 l0_2 _ ?side1 ?side2 A10.out).mono ?_); (case side1 => exact Kd.C_below HR0_2.out (by repeat (first | (with_reducible first | exact HB.out | apply below_alloc | apply pw_below_drewN | apply below_drew1) | exact HB.out))); (case side2 => exact HC0_2.out); rintro e w2 ⟨v100_, rfl, ho0_, hb⟩; refine ⟨_, rfl, ?_⟩; have n1_ := Aside0.mk (blk_below (g := w.heap.size) (o := .cells #[.int .i64 a0_0, .int .i64 a0_1, .slice A0_2 l0_2.length c0_2] 24 (0, 0)) (by (with_reducible repeat (first | refine blk_drewN ?_ _ | refine blk_drew ?_ | refine blk_alloc ?_ _)); exact HX1.out) hb); have n2_ := Aside0.mk (below_step (by repeat (first | (with_reducible first | exact HB.out | apply below_alloc | apply pw_below_drewN | apply below_drew1) | exact HB.out)) hb); have C11 : Aside0 (w1.heap.size ≤ w2.heap.size) := ⟨by have h_ := hb.size; (try simp at h_); omega⟩; have CCn_ := Aside0.mk (And.intro CC.out C11.out); clear CC; have CC := CCn_; clear CCn_; clear HX1; clear HB; clear hl5; clear hx6; clear hx7; clear hx8; have HX1 := n1_; clear n1_; have HB := n2_; clear n2_; have HO12 := Aside0.mk (Kd.S_lower (base' := w.heap.size) (Kd.S_mono (Kd.S_bound ho0_) (ok' := fun k_ => w1.heap.size ≤ k_ ∧ k_ < w2.heap.size) (fun k_ hk_ => ⟨by have h_ := hk_.2.1; (try simp at h_); omega, hk_.2.2.1⟩)) (by have := CC.out; first | omega | (simp; done) | (simp; omega))); obtain ⟨Az13, cz13, ez13⟩ := Kd.S_slice HO12.out; subst ez13; (try clear hb); (try clear ho0_); have hl14 : w.heap.size < w2.heap.size := blk_lt HX1.out; have hx15 : w2.cell? ⟨w.heap.size, 0, none⟩ = some (.int .i64 a0_0) := (blk_cell HX1.out 0).trans rfl; have hx16 : w2.cell? ⟨w.heap.size, 1, none⟩ = some (.int .i64 a0_1) := (blk_cell HX1.out 1).trans rfl; have hx17 : w2.cell? ⟨w.heap.size, 2, none⟩ = some (.slice A0_2 l0_2.length c0_2) := (blk_cell HX1.out 2).trans rfl) | ((with_reducible refine gate_callee (f := 21) rfl ?_); refine goesL_ (some 22) rfl rfl Try.func21 (by kernel_rfl) rfl #[.agg #[.int .i64 a0_0, .int .i64 a0_1, .slice Az13 l0_2.length cz13]] rfl (by (try simp only [List.map_toArray, List.map_cons, List.map_nil]); first | done | rfl | (simp only [List.length_drop, List.length_take]; rfl)) ?_; (with_reducible refine (spec_InverseOf.calls k a0_0 a0_1 _ _ l0_2 r18 r19 r20 r21 _ ?side1 ?side2 A22.out).mono ?_); (case side1 => exact (Kd.S_reads' (n := l0_2.length) (A := Az13) (c := cz13) (by (with_reducible repeat (first | apply Kd.S_alloc | apply Kd.S_drewN | apply Kd.S_drew)); exact HO12.out)).2.2); (case side2 => exact (Kd.S_reads' (n := l0_2.length) (A := Az13) (c := cz13) HO12.out).2.1); rintro e w3 ⟨v100_, rfl, ho0_, hb⟩; refine ⟨_, rfl, ?_⟩; have n1_ := Aside0.mk (Kd.S_below (by (with_reducible repeat (first | apply Kd.S_alloc | apply Kd.S_drewN | apply Kd.S_drew)); exact HO12.out) hb); have n2_ := Aside0.mk (blk_below (g := w.heap.size) (o := .cells #[.int .i64 a0_0, .int .i64 a0_1, .slice A0_2 l0_2.length c0_2] 24 (0, 0)) (by (with_reducible repeat (first | refine blk_drewN ?_ _ | refine blk_drew ?_ | refine blk_alloc ?_ _)); exact HX1.out) hb); have n3_ := Aside0.mk (below_step (by repeat (first | (with_reducible first | exact HB.out | apply below_alloc | apply pw_below_drewN | apply below_drew1) | exact HB.out)) hb); have C23 : Aside0 (w2.heap.size ≤ w3.heap.size) := ⟨by have h_ := hb.size; (try simp at h_); omega⟩; have CCn_ := Aside0.mk (And.intro CC.out C23.out); clear CC; have CC := CCn_; clear CCn_; clear HO12; clear HX1; clear HB; clear hl14; clear hx15; clear hx16; clear hx17; have HO12 := n1_; clear n1_; have HX1 := n2_; clear n2_; have HB := n3_; clear n3_; have HO24 := Aside0.mk (Kd.S_lower (base' := w.heap.size) (Kd.S_mono (Kd.S_bound ho0_) (ok' := fun k_ => w2.heap.size ≤ k_ ∧ k_ < w3.heap.size) (fun k_ hk_ => ⟨by have h_ := hk_.2.1; (try simp at h_); omega, hk_.2.2.1⟩)) (by have := CC.out; first | omega | (simp; done) | (simp; omega))); obtain ⟨Az25, cz25, ez25⟩ := Kd.S_slice HO24.out; subst ez25; (try clear hb); (try clear ho0_); have hl26 : w.heap.size < w3.heap.size := blk_lt HX1.out; have hx27 : w3.cell? ⟨w.heap.size, 0, none⟩ = some (.int .i64 a0_0) := (blk_cell HX1.out 0).trans rfl; have hx28 : w3.cell? ⟨w.heap.size, 1, none⟩ = some (.int .i64 a0_1) := (blk_cell HX1.out 1).trans rfl; have hx29 : w3.cell? ⟨w.heap.size, 2, none⟩ = some (.slice A0_2 l0_2.length c0_2) := (blk_cell HX1.out 2).trans rfl) | ((with_reducible refine gate_callee (f := 14) rfl ?_); refine goesL_ (some 26) rfl rfl Try.func14 (by kernel_rfl) rfl #[.agg #[.int .i64 a0_0, .int .i64 a0_1, .slice A0_2 l0_2.length c0_2]] rfl (by (try simp only [List.map_toArray, List.map_cons, List.map_nil]); first | done | rfl | (simp only [List.length_drop, List.length_take]; rfl)) ?_; (with_reducible refine (laws_toMatrix.calls k a0_0 a0_1 _ _ l0_2 a0_0 a0_1 l0_2 _ ?side1 ?side2 A31.out).mono ?_); (case side1 => exact Kd.C_below HR0_2.out (by repeat (first | (with_reducible first | exact HB.out | apply below_alloc | apply pw_below_drewN | apply below_drew1) | exact HB.out))); (case side2 => exact HC0_2.out); rintro e w4 ⟨v100_, rfl, ho0_, hb⟩; refine ⟨_, rfl, ?_⟩; have n1_ := Aside0.mk (Kd.S_below (by (with_reducible repeat (first | apply Kd.S_alloc | apply Kd.S_drewN | apply Kd.S_drew)); exact HO24.out) hb); have n2_ := Aside0.mk (blk_below (g := w.heap.size) (o := .cells #[.int .i64 a0_0, .int .i64 a0_1, .slice A0_2 l0_2.length c0_2] 24 (0, 0)) (by (with_reducible repeat (first | refine blk_drewN ?_ _ | refine blk_drew ?_ | refine blk_alloc ?_ _)); exact HX1.out) hb); have n3_ := Aside0.mk (blk_below (g := w3.heap.size) (o := .cells #[.int .i64 r18, .int .i64 r19, .slice Az25 r20.length cz25] 26 (0, 0)) (by repeat (first | exact blk_new_at (by simp) | (with_reducible refine blk_drewN ?_ _) | (with_reducible refine blk_drew ?_) | (with_reducible refine blk_alloc ?_ _))) hb); have n4_ := Aside0.mk (below_step (by repeat (first | (with_reducible first | exact HB.out | apply below_alloc | apply pw_below_drewN | apply below_drew1) | exact HB.out)) hb); have C32 : Aside0 (w3.heap.size + 1 ≤ w4.heap.size) := ⟨by have h_ := hb.size; (try simp at h_); omega⟩; have CCn_ := Aside0.mk (And.intro CC.out C32.out); clear CC; have CC := CCn_; clear CCn_; clear HO24; clear HX1; clear HB; clear hl26; clear hx27; clear hx28; clear hx29; have HO24 := n1_; clear n1_; have HX1 := n2_; clear n2_; have HX30 := n3_; clear n3_; have HB := n4_; clear n4_; have HO33 := Aside0.mk (Kd.S_lower (base' := w.heap.size) (Kd.S_mono (Kd.S_bound ho0_) (ok' := fun k_ => w3.heap.size + 1 ≤ k_ ∧ k_ < w4.heap.size) (fun k_ hk_ => ⟨by have h_ := hk_.2.1; (try simp at h_); omega, hk_.2.2.1⟩)) (by have := CC.out; first | omega | (simp; done) | (simp; omega))); obtain ⟨Az34, cz34, ez34⟩ := Kd.S_slice HO33.out; subst ez34; (try clear hb); (try clear ho0_); have hl35 : w.heap.size < w4.heap.size := blk_lt HX1.out; have hx36 : w4.cell? ⟨w.heap.size, 0, none⟩ = some (.int .i64 a0_0) := (blk_cell HX1.out 0).trans rfl; have hx37 : w4.cell? ⟨w.heap.size, 1, none⟩ = some (.int .i64 a0_1) := (blk_cell HX1.out 1).trans rfl; have hx38 : w4.cell? ⟨w.heap.size, 2, none⟩ = some (.slice A0_2 l0_2.length c0_2) := (blk_cell HX1.out 2).trans rfl; have hl39 : w3.heap.size < w4.heap.size := blk_lt HX30.out; have hx40 : w4.cell? ⟨w3.heap.size, 0, none⟩ = some (.int .i64 r18) := (blk_cell HX30.out 0).trans rfl; have hx41 : w4.cell? ⟨w3.heap.size, 1, none⟩ = some (.int .i64 r19) := (blk_cell HX30.out 1).trans rfl; have hx42 : w4.cell? ⟨w3.heap.size, 2, none⟩ = some (.slice Az25 r20.length cz25) := (blk_cell HX30.out 2).trans rfl) | ((with_reducible refine gate_callee (f := 22) rfl ?_); refine goesL_ (some 29) rfl rfl Try.func22 (by kernel_rfl) rfl #[.agg #[.int .i64 a0_0, .int .i64 a0_1, .slice Az34 l0_2.length cz34]] rfl (by (try simp only [List.map_toArray, List.map_cons, List.map_nil]); first | done | rfl | (simp only [List.length_drop, List.length_take]; rfl)) ?_; (with_reducible refine (impl_InverseOf.calls k a0_0 a0_1 _ _ l0_2 r18 r19 r20 r21 _ ?side1 ?side2 A44.out).mono ?_); (case side1 => exact (Kd.S_reads' (n := l0_2.length) (A := Az34) (c := cz34) (by (with_reducible repeat (first | apply Kd.S_alloc | apply Kd.S_drewN | apply Kd.S_drew)); exact HO33.out)).2.2); (case side2 => exact (Kd.S_reads' (n := l0_2.length) (A := Az34) (c := cz34) HO33.out).2.1); rintro e w5 ⟨v100_, rfl, ho0_, hb⟩; refine ⟨_, rfl, ?_⟩; have n1_ := Aside0.mk (Kd.S_below (by (with_reducible repeat (first | apply Kd.S_alloc | apply Kd.S_drewN | apply Kd.S_drew)); exact HO24.out) hb); have n2_ := Aside0.mk (Kd.S_below (by (with_reducible repeat (first | apply Kd.S_alloc | apply Kd.S_drewN | apply Kd.S_drew)); exact HO33.out) hb); have n3_ := Aside0.mk (blk_below (g := w.heap.size) (o := .cells #[.int .i64 a0_0, .int .i64 a0_1, .slice A0_2 l0_2.length c0_2] 24 (0, 0)) (by (with_reducible repeat (first | refine blk_drewN ?_ _ | refine blk_drew ?_ | refine blk_alloc ?_ _)); exact HX1.out) hb); have n4_ := Aside0.mk (blk_below (g := w3.heap.size) (o := .cells #[.int .i64 r18, .int .i64 r19, .slice Az25 r20.length cz25] 26 (0, 0)) (by (with_reducible repeat (first | refine blk_drewN ?_ _ | refine blk_drew ?_ | refine blk_alloc ?_ _)); exact HX30.out) hb); have n5_ := Aside0.mk (blk_below (g := w4.heap.size) (o := .cells #[.int .i64 a0_0, .int .i64 a0_1, .slice Az34 l0_2.length cz34] 26 (0, 0)) (by repeat (first | exact blk_new_at (by simp) | (with_reducible refine blk_drewN ?_ _) | (with_reducible refine blk_drew ?_) | (with_reducible refine blk_alloc ?_ _))) hb); have n6_ := Aside0.mk (below_step (by repeat (first | (with_reducible first | exact HB.out | apply below_alloc | apply pw_below_drewN | apply below_drew1) | exact HB.out)) hb); have C45 : Aside0 (w4.heap.size + 1 ≤ w5.heap.size) := ⟨by have h_ := hb.size; (try simp at h_); omega⟩; have CCn_ := Aside0.mk (And.intro CC.out C45.out); clear CC; have CC := CCn_; clear CCn_; clear HO24; clear HO33; clear HX1; clear HX30; clear HB; clear hl35; clear hx36; clear hx37; clear hx38; clear hl39; clear hx40; clear hx41; clear hx42; have HO24 := n1_; clear n1_; have HO33 := n2_; clear n2_; have HX1 := n3_; clear n3_; have HX30 := n4_; clear n4_; have HX43 := n5_; clear n5_; have HB := n6_; clear n6_; have HO46 := Aside0.mk (Kd.S_lower (base' := w.heap.size) (Kd.S_mono (Kd.S_bound ho0_) (ok' := fun k_ => w4.heap.size + 1 ≤ k_ ∧ k_ < w5.heap.size) (fun k_ hk_ => ⟨by have h_ := hk_.2.1; (try simp at h_); omega, hk_.2.2.1⟩)) (by have := CC.out; first | omega | (simp; done) | (simp; omega))); obtain ⟨Az47, cz47, ez47⟩ := Kd.S_slice HO46.out; subst ez47; (try clear hb); (try clear ho0_); have hl48 : w.heap.size < w5.heap.size := blk_lt HX1.out; have hx49 : w5.cell? ⟨w.heap.size, 0, none⟩ = some (.int .i64 a0_0) := (blk_cell HX1.out 0).trans rfl; have hx50 : w5.cell? ⟨w.heap.size, 1, none⟩ = some (.int .i64 a0_1) := (blk_cell HX1.out 1).trans rfl; have hx51 : w5.cell? ⟨w.heap.size, 2, none⟩ = some (.slice A0_2 l0_2.length c0_2) := (blk_cell HX1.out 2).trans rfl; have hl52 : w3.heap.size < w5.heap.size := blk_lt HX30.out; have hx53 : w5.cell? ⟨w3.heap.size, 0, none⟩ = some (.int .i64 r18) := (blk_cell HX30.out 0).trans rfl; have hx54 : w5.cell? ⟨w3.heap.size, 1, none⟩ = some (.int .i64 r19) := (blk_cell HX30.out 1).trans rfl; have hx55 : w5.cell? ⟨w3.heap.size, 2, none⟩ = some (.slice Az25 r20.length cz25) := (blk_cell HX30.out 2).trans rfl; have hl56 : w4.heap.size < w5.heap.size := blk_lt HX43.out; have hx57 : w5.cell? ⟨w4.heap.size, 0, none⟩ = some (.int .i64 a0_0) := (blk_cell HX43.out 0).trans rfl; have hx58 : w5.cell? ⟨w4.heap.size, 1, none⟩ = some (.int .i64 a0_1) := (blk_cell HX43.out 1).trans rfl; have hx59 : w5.cell? ⟨w4.heap.size, 2, none⟩ = some (.slice Az34 l0_2.length cz34) := (blk_cell HX43.out 2).trans rfl) | ((with_reducible refine gate_callee (f := 16) rfl ?_); refine goesL_ (some 34) rfl rfl Try.func16 (by kernel_rfl) rfl #[.agg #[.int .i64 r18, .int .i64 r19, .slice Az47 r20.length cz47], .agg #[.int .i64 r18, .int .i64 r19, .slice Az25 r20.length cz25]] rfl (by (try simp only [List.map_toArray, List.map_cons, List.map_nil]); first | done | rfl | (simp only [List.length_drop, List.length_take]; rfl)) ?_; (with_reducible refine (laws_eqMatrix.calls k r18 r19 _ _ r20 r18 r19 _ _ r20 true _ ?side1 ?side2 ?side3 ?side4 A61.out).mono ?_); (case side1 => exact (Kd.S_reads' (n := r20.length) (A := Az47) (c := cz47) (by (with_reducible repeat (first | apply Kd.S_alloc | apply Kd.S_drewN | apply Kd.S_drew)); exact HO46.out)).2.2); (case side2 => exact (Kd.S_reads' (n := r20.length) (A := Az47) (c := cz47) HO46.out).2.1); (case side3 => exact (Kd.S_reads' (n := r20.length) (A := Az25) (c := cz25) (by (with_reducible repeat (first | apply Kd.S_alloc | apply Kd.S_drewN | apply Kd.S_drew)); exact HO24.out)).2.2); (case side4 => exact (Kd.S_reads' (n := r20.length) (A := Az25) (c := cz25) HO24.out).2.1); rintro e w6 ⟨rfl, hb⟩; refine ⟨_, rfl, ?_⟩; have n1_ := Aside0.mk (Kd.S_below (by (with_reducible repeat (first | apply Kd.S_alloc | apply Kd.S_drewN | apply Kd.S_drew)); exact HO24.out) hb); have n2_ := Aside0.mk (Kd.S_below (by (with_reducible repeat (first | apply Kd.S_alloc | apply Kd.S_drewN | apply Kd.S_drew)); exact HO33.out) hb); have n3_ := Aside0.mk (Kd.S_below (by (with_reducible repeat (first | apply Kd.S_alloc | apply Kd.S_drewN | apply Kd.S_drew)); exact HO46.out) hb); have n4_ := Aside0.mk (blk_below (g := w.heap.size) (o := .cells #[.int .i64 a0_0, .int .i64 a0_1, .slice A0_2 l0_2.length c0_2] 24 (0, 0)) (by (with_reducible repeat (first | refine blk_drewN ?_ _ | refine blk_drew ?_ | refine blk_alloc ?_ _)); exact HX1.out) hb); have n5_ := Aside0.mk (blk_below (g := w3.heap.size) (o := .cells #[.int .i64 r18, .int .i64 r19, .slice Az25 r20.length cz25] 26 (0, 0)) (by (with_reducible repeat (first | refine blk_drewN ?_ _ | refine blk_drew ?_ | refine blk_alloc ?_ _)); exact HX30.out) hb); have n6_ := Aside0.mk (blk_below (g := w4.heap.size) (o := .cells #[.int .i64 a0_0, .int .i64 a0_1, .slice Az34 l0_2.length cz34] 26 (0, 0)) (by (with_reducible repeat (first | refine blk_drewN ?_ _ | refine blk_drew ?_ | refine blk_alloc ?_ _)); exact HX43.out) hb); have n7_ := Aside0.mk (blk_below (g := w5.heap.size) (o := .cells #[.int .i64 r18, .int .i64 r19, .slice Az47 r20.length cz47] 26 (0, 0)) (by repeat (first | exact blk_new_at (by simp) | (with_reducible refine blk_drewN ?_ _) | (with_reducible refine blk_drew ?_) | (with_reducible refine blk_alloc ?_ _))) hb); have n8_ := Aside0.mk (below_step (by repeat (first | (with_reducible first | exact HB.out | apply below_alloc | apply pw_below_drewN | apply below_drew1) | exact HB.out)) hb); have C62 : Aside0 (w5.heap.size + 1 ≤ w6.heap.size) := ⟨by have h_ := hb.size; (try simp at h_); omega⟩; have CCn_ := Aside0.mk (And.intro CC.out C62.out); clear CC; have CC := CCn_; clear CCn_; clear HO24; clear HO33; clear HO46; clear HX1; clear HX30; clear HX43; clear HB; clear hl48; clear hx49; clear hx50; clear hx51; clear hl52; clear hx53; clear hx54; clear hx55; clear hl56; clear hx57; clear hx58; clear hx59; have HO24 := n1_; clear n1_; have HO33 := n2_; clear n2_; have HO46 := n3_; clear n3_; have HX1 := n4_; clear n4_; have HX30 := n5_; clear n5_; have HX43 := n6_; clear n6_; have HX60 := n7_; clear n7_; have HB := n8_; clear n8_; (try clear hb); have hl63 : w.heap.size < w6.heap.size := blk_lt HX1.out; have hx64 : w6.cell? ⟨w.heap.size, 0, none⟩ = some (.int .i64 a0_0) := (blk_cell HX1.out 0).trans rfl; have hx65 : w6.cell? ⟨w.heap.size, 1, none⟩ = some (.int .i64 a0_1) := (blk_cell HX1.out 1).trans rfl; have hx66 : w6.cell? ⟨w.heap.size, 2, none⟩ = some (.slice A0_2 l0_2.length c0_2) := (blk_cell HX1.out 2).trans rfl; have hl67 : w3.heap.size < w6.heap.size := blk_lt HX30.out; have hx68 : w6.cell? ⟨w3.heap.size, 0, none⟩ = some (.int .i64 r18) := (blk_cell HX30.out 0).trans rfl; have hx69 : w6.cell? ⟨w3.heap.size, 1, none⟩ = some (.int .i64 r19) := (blk_cell HX30.out 1).trans rfl; have hx70 : w6.cell? ⟨w3.heap.size, 2, none⟩ = some (.slice Az25 r20.length cz25) := (blk_cell HX30.out 2).trans rfl; have hl71 : w4.heap.size < w6.heap.size := blk_lt HX43.out; have hx72 : w6.cell? ⟨w4.heap.size, 0, none⟩ = some (.int .i64 a0_0) := (blk_cell HX43.out 0).trans rfl; have hx73 : w6.cell? ⟨w4.heap.size, 1, none⟩ = some (.int .i64 a0_1) := (blk_cell HX43.out 1).trans rfl; have hx74 : w6.cell? ⟨w4.heap.size, 2, none⟩ = some (.slice Az34 l0_2.length cz34) := (blk_cell HX43.out 2).trans rfl; have hl75 : w5.heap.size < w6.heap.size := blk_lt HX60.out; have hx76 : w6.cell? ⟨w5.heap.size, 0, none⟩ = some (.int .i64 r18) := (blk_cell HX60.out 0).trans rfl; have hx77 : w6.cell? ⟨w5.heap.size, 1, none⟩ = some (.int .i64 r19) := (blk_cell HX60.out 1).trans rfl; have hx78 : w6.cell? ⟨w5.heap.size, 2, none⟩ = some (.slice Az47 r20.length cz47) := (blk_cell HX60.out 2).trans rfl))
  go_region_held3 (fun w' => w'.cell? ⟨w4.heap.size, 0, none⟩ = some (.int .i64 a0_0) ∧ w'.cell? ⟨w4.heap.size, 1, none⟩ = some (.int .i64 a0_1) ∧ w'.cell? ⟨w4.heap.size, 2, none⟩ = some (.slice Az34 l0_2.length cz34) ∧ w'.cell? ⟨w.heap.size, 0, none⟩ = some (.int .i64 a0_0) ∧ w'.cell? ⟨w.heap.size, 1, none⟩ = some (.int .i64 a0_1) ∧ w'.cell? ⟨w.heap.size, 2, none⟩ = some (.slice A0_2 l0_2.length c0_2)) (first | ((repeat' apply And.intro) <;> assumption) | go_keep) (first | (go_at_call 14; (with_reducible refine (laws_toMatrix.calls k a0_0 a0_1 _ _ l0_2 a0_0 a0_1 l0_2 _ ?side1 ?side2 A79.out).mono ?_); (case side1 => exact Kd.C_below HR0_2.out (by repeat (first | (with_reducible first | exact HB.out | apply below_alloc | apply pw_below_drewN | apply below_drew1) | exact HB.out))); (case side2 => exact HC0_2.out); rintro e w7 ⟨v100_, rfl, ho0_, hb⟩; have n1_ := Aside0.mk (Kd.S_below (by (with_reducible repeat (first | apply Kd.S_alloc | apply Kd.S_drewN | apply Kd.S_drew)); exact HO24.out) hb); have n2_ := Aside0.mk (Kd.S_below (by (with_reducible repeat (first | apply Kd.S_alloc | apply Kd.S_drewN | apply Kd.S_drew)); exact HO33.out) hb); have n3_ := Aside0.mk (Kd.S_below (by (with_reducible repeat (first | apply Kd.S_alloc | apply Kd.S_drewN | apply Kd.S_drew)); exact HO46.out) hb); have n4_ := Aside0.mk (blk_below (g := w.heap.size) (o := .cells #[.int .i64 a0_0, .int .i64 a0_1, .slice A0_2 l0_2.length c0_2] 24 (0, 0)) (by (with_reducible repeat (first | refine blk_drewN ?_ _ | refine blk_drew ?_ | refine blk_alloc ?_ _)); exact HX1.out) hb); have n5_ := Aside0.mk (blk_below (g := w3.heap.size) (o := .cells #[.int .i64 r18, .int .i64 r19, .slice Az25 r20.length cz25] 26 (0, 0)) (by (with_reducible repeat (first | refine blk_drewN ?_ _ | refine blk_drew ?_ | refine blk_alloc ?_ _)); exact HX30.out) hb); have n6_ := Aside0.mk (blk_below (g := w4.heap.size) (o := .cells #[.int .i64 a0_0, .int .i64 a0_1, .slice Az34 l0_2.length cz34] 26 (0, 0)) (by (with_reducible repeat (first | refine blk_drewN ?_ _ | refine blk_drew ?_ | refine blk_alloc ?_ _)); exact HX43.out) hb); have n7_ := Aside0.mk (blk_below (g := w5.heap.size) (o := .cells #[.int .i64 r18, .int .i64 r19, .slice Az47 r20.length cz47] 26 (0, 0)) (by (with_reducible repeat (first | refine blk_drewN ?_ _ | refine blk_drew ?_ | refine blk_alloc ?_ _)); exact HX60.out) hb); have n8_ := Aside0.mk (below_step (by repeat (first | (with_reducible first | exact HB.out | apply below_alloc | apply pw_below_drewN | apply below_drew1) | exact HB.out)) hb); have C80 : Aside0 (w6.heap.size ≤ w7.heap.size) := ⟨by have h_ := hb.size; (try simp at h_); omega⟩; have CCn_ := Aside0.mk (And.intro CC.out C80.out); clear CC; have CC := CCn_; clear CCn_; clear HO24; clear HO33; clear HO46; clear HX1; clear HX30; clear HX43; clear HX60; clear HB; clear hl63; clear hx64; clear hx65; clear hx66; clear hl67; clear hx68; clear hx69; clear hx70; clear hl71; clear hx72; clear hx73; clear hx74; clear hl75; clear hx76; clear hx77; clear hx78; have HO24 := n1_; clear n1_; have HO33 := n2_; clear n2_; have HO46 := n3_; clear n3_; have HX1 := n4_; clear n4_; have HX30 := n5_; clear n5_; have HX43 := n6_; clear n6_; have HX60 := n7_; clear n7_; have HB := n8_; clear n8_; have HO81 := Aside0.mk (Kd.S_lower (base' := w.heap.size) (Kd.S_mono (Kd.S_bound ho0_) (ok' := fun k_ => w6.heap.size ≤ k_ ∧ k_ < w7.heap.size) (fun k_ hk_ => ⟨by have h_ := hk_.2.1; (try simp at h_); omega, hk_.2.2.1⟩)) (by have := CC.out; first | omega | (simp; done) | (simp; omega))); obtain ⟨Az82, cz82, ez82⟩ := Kd.S_slice HO81.out; subst ez82; (try clear hb); (try clear ho0_); have hl83 : w.heap.size < w7.heap.size := blk_lt HX1.out; have hx84 : w7.cell? ⟨w.heap.size, 0, none⟩ = some (.int .i64 a0_0) := (blk_cell HX1.out 0).trans rfl; have hx85 : w7.cell? ⟨w.heap.size, 1, none⟩ = some (.int .i64 a0_1) := (blk_cell HX1.out 1).trans rfl; have hx86 : w7.cell? ⟨w.heap.size, 2, none⟩ = some (.slice A0_2 l0_2.length c0_2) := (blk_cell HX1.out 2).trans rfl; have hl87 : w3.heap.size < w7.heap.size := blk_lt HX30.out; have hx88 : w7.cell? ⟨w3.heap.size, 0, none⟩ = some (.int .i64 r18) := (blk_cell HX30.out 0).trans rfl; have hx89 : w7.cell? ⟨w3.heap.size, 1, none⟩ = some (.int .i64 r19) := (blk_cell HX30.out 1).trans rfl; have hx90 : w7.cell? ⟨w3.heap.size, 2, none⟩ = some (.slice Az25 r20.length cz25) := (blk_cell HX30.out 2).trans rfl; have hl91 : w4.heap.size < w7.heap.size := blk_lt HX43.out; have hx92 : w7.cell? ⟨w4.heap.size, 0, none⟩ = some (.int .i64 a0_0) := (blk_cell HX43.out 0).trans rfl; have hx93 : w7.cell? ⟨w4.heap.size, 1, none⟩ = some (.int .i64 a0_1) := (blk_cell HX43.out 1).trans rfl; have hx94 : w7.cell? ⟨w4.heap.size, 2, none⟩ = some (.slice Az34 l0_2.length cz34) := (blk_cell HX43.out 2).trans rfl; have hl95 : w5.heap.size < w7.heap.size := blk_lt HX60.out; have hx96 : w7.cell? ⟨w5.heap.size, 0, none⟩ = some (.int .i64 r18) := (blk_cell HX60.out 0).trans rfl; have hx97 : w7.cell? ⟨w5.heap.size, 1, none⟩ = some (.int .i64 r19) := (blk_cell HX60.out 1).trans rfl; have hx98 : w7.cell? ⟨w5.heap.size, 2, none⟩ = some (.slice Az47 r20.length cz47) := (blk_cell HX60.out 2).trans rfl) | (go_at_call 16; (with_reducible refine (laws_eqMatrix.calls k a0_0 a0_1 _ _ l0_2 a0_0 a0_1 _ _ l0_2 true _ ?side1 ?side2 ?side3 ?side4 A99.out).mono ?_); (case side1 => exact (Kd.S_reads' (n := l0_2.length) (A := Az34) (c := cz34) (by (with_reducible repeat (first | apply Kd.S_alloc | apply Kd.S_drewN | apply Kd.S_drew)); exact HO33.out)).2.2); (case side2 => exact (Kd.S_reads' (n := l0_2.length) (A := Az34) (c := cz34) HO33.out).2.1); (case side3 => exact (Kd.S_reads' (n := l0_2.length) (A := Az82) (c := cz82) (by (with_reducible repeat (first | apply Kd.S_alloc | apply Kd.S_drewN | apply Kd.S_drew)); exact HO81.out)).2.2); (case side4 => exact (Kd.S_reads' (n := l0_2.length) (A := Az82) (c := cz82) HO81.out).2.1); rintro e w8 ⟨rfl, hb⟩; have n1_ := Aside0.mk (Kd.S_below (by (with_reducible repeat (first | apply Kd.S_alloc | apply Kd.S_drewN | apply Kd.S_drew)); exact HO24.out) hb); have n2_ := Aside0.mk (Kd.S_below (by (with_reducible repeat (first | apply Kd.S_alloc | apply Kd.S_drewN | apply Kd.S_drew)); exact HO33.out) hb); have n3_ := Aside0.mk (Kd.S_below (by (with_reducible repeat (first | apply Kd.S_alloc | apply Kd.S_drewN | apply Kd.S_drew)); exact HO46.out) hb); have n4_ := Aside0.mk (Kd.S_below (by (with_reducible repeat (first | apply Kd.S_alloc | apply Kd.S_drewN | apply Kd.S_drew)); exact HO81.out) hb); have n5_ := Aside0.mk (blk_below (g := w.heap.size) (o := .cells #[.int .i64 a0_0, .int .i64 a0_1, .slice A0_2 l0_2.length c0_2] 24 (0, 0)) (by (with_reducible repeat (first | refine blk_drewN ?_ _ | refine blk_drew ?_ | refine blk_alloc ?_ _)); exact HX1.out) hb); have n6_ := Aside0.mk (blk_below (g := w3.heap.size) (o := .cells #[.int .i64 r18, .int .i64 r19, .slice Az25 r20.length cz25] 26 (0, 0)) (by (with_reducible repeat (first | refine blk_drewN ?_ _ | refine blk_drew ?_ | refine blk_alloc ?_ _)); exact HX30.out) hb); have n7_ := Aside0.mk (blk_below (g := w4.heap.size) (o := .cells #[.int .i64 a0_0, .int .i64 a0_1, .slice Az34 l0_2.length cz34] 26 (0, 0)) (by (with_reducible repeat (first | refine blk_drewN ?_ _ | refine blk_drew ?_ | refine blk_alloc ?_ _)); exact HX43.out) hb); have n8_ := Aside0.mk (blk_below (g := w5.heap.size) (o := .cells #[.int .i64 r18, .int .i64 r19, .slice Az47 r20.length cz47] 26 (0, 0)) (by (with_reducible repeat (first | refine blk_drewN ?_ _ | refine blk_drew ?_ | refine blk_alloc ?_ _)); exact HX60.out) hb); have n9_ := Aside0.mk (below_step (by repeat (first | (with_reducible first | exact HB.out | apply below_alloc | apply pw_below_drewN | apply below_drew1) | exact HB.out)) hb); have C100 : Aside0 (w7.heap.size ≤ w8.heap.size) := ⟨by have h_ := hb.size; (try simp at h_); omega⟩; have CCn_ := Aside0.mk (And.intro CC.out C100.out); clear CC; have CC := CCn_; clear CCn_; clear HO24; clear HO33; clear HO46; clear HO81; clear HX1; clear HX30; clear HX43; clear HX60; clear HB; clear hl83; clear hx84; clear hx85; clear hx86; clear hl87; clear hx88; clear hx89; clear hx90; clear hl91; clear hx92; clear hx93; clear hx94; clear hl95; clear hx96; clear hx97; clear hx98; have HO24 := n1_; clear n1_; have HO33 := n2_; clear n2_; have HO46 := n3_; clear n3_; have HO81 := n4_; clear n4_; have HX1 := n5_; clear n5_; have HX30 := n6_; clear n6_; have HX43 := n7_; clear n7_; have HX60 := n8_; clear n8_; have HB := n9_; clear n9_; (try clear hb); have hl101 : w.heap.size < w8.heap.size := blk_lt HX1.out; have hx102 : w8.cell? ⟨w.heap.size, 0, none⟩ = some (.int .i64 a0_0) := (blk_cell HX1.out 0).trans rfl; have hx103 : w8.cell? ⟨w.heap.size, 1, none⟩ = some (.int .i64 a0_1) := (blk_cell HX1.out 1).trans rfl; have hx104 : w8.cell? ⟨w.heap.size, 2, none⟩ = some (.slice A0_2 l0_2.length c0_2) := (blk_cell HX1.out 2).trans rfl; have hl105 : w3.heap.size < w8.heap.size := blk_lt HX30.out; have hx106 : w8.cell? ⟨w3.heap.size, 0, none⟩ = some (.int .i64 r18) := (blk_cell HX30.out 0).trans rfl; have hx107 : w8.cell? ⟨w3.heap.size, 1, none⟩ = some (.int .i64 r19) := (blk_cell HX30.out 1).trans rfl; have hx108 : w8.cell? ⟨w3.heap.size, 2, none⟩ = some (.slice Az25 r20.length cz25) := (blk_cell HX30.out 2).trans rfl; have hl109 : w4.heap.size < w8.heap.size := blk_lt HX43.out; have hx110 : w8.cell? ⟨w4.heap.size, 0, none⟩ = some (.int .i64 a0_0) := (blk_cell HX43.out 0).trans rfl; have hx111 : w8.cell? ⟨w4.heap.size, 1, none⟩ = some (.int .i64 a0_1) := (blk_cell HX43.out 1).trans rfl; have hx112 : w8.cell? ⟨w4.heap.size, 2, none⟩ = some (.slice Az34 l0_2.length cz34) := (blk_cell HX43.out 2).trans rfl; have hl113 : w5.heap.size < w8.heap.size := blk_lt HX60.out; have hx114 : w8.cell? ⟨w5.heap.size, 0, none⟩ = some (.int .i64 r18) := (blk_cell HX60.out 0).trans rfl; have hx115 : w8.cell? ⟨w5.heap.size, 1, none⟩ = some (.int .i64 r19) := (blk_cell HX60.out 1).trans rfl; have hx116 : w8.cell? ⟨w5.heap.size, 2, none⟩ = some (.slice Az47 r20.length cz47) := (blk_cell HX60.out 2).trans rfl))
  go_wp2_with (first | ((with_reducible refine gate_callee (f := 17) rfl ?_); refine goesL_ (some 48) rfl rfl Try.func17 (by kernel_rfl) rfl #[.agg #[.int .i64 a0_0, .int .i64 a0_1, .slice Az34 l0_2.length cz34], .int .i64 1] rfl (by (try simp only [List.map_toArray, List.map_cons, List.map_nil]); first | done | rfl | (simp only [List.length_drop, List.length_take]; rfl)) ?_; (with_reducible refine (laws_markMatrix.callsM k a0_0 a0_1 (fun k_ => w3.heap.size + 1 ≤ k_ ∧ k_ < w4.heap.size) (.slice Az34 l0_2.length cz34) l0_2 1 m117 ys118 w _ ?side1 ?side2 A119.out).mono ?_); (case side1 => repeat (first | (with_reducible first | exact HB.out | apply below_alloc | apply pw_below_drewN | apply below_drew1) | exact HB.out)); (case side2 => exact (by (with_reducible repeat (first | apply Kd.S_alloc | apply Kd.S_drewN | apply Kd.S_drew)); exact HO33.out)); rintro e w9 ⟨rfl, hm0_, hbk, hk⟩; refine ⟨_, rfl, ?_⟩; have n1_ := Aside0.mk (Kd.S_kept (by (with_reducible repeat (first | apply Kd.S_alloc | apply Kd.S_drewN | apply Kd.S_drew)); exact HO24.out) hk (fun k_ hk_ hs_ => by have := CC.out; have h1_ := hk_; have h2_ := hs_; omega)); have n2_ := Aside0.mk (Kd.S_kept (by (with_reducible repeat (first | apply Kd.S_alloc | apply Kd.S_drewN | apply Kd.S_drew)); exact HO46.out) hk (fun k_ hk_ hs_ => by have := CC.out; have h1_ := hk_; have h2_ := hs_; omega)); have n3_ := Aside0.mk (blk_kept (g := w.heap.size) (o := .cells #[.int .i64 a0_0, .int .i64 a0_1, .slice A0_2 l0_2.length c0_2] 24 (0, 0)) (by (with_reducible repeat (first | refine blk_drewN ?_ _ | refine blk_drew ?_ | refine blk_alloc ?_ _)); exact HX1.out) hk (fun hs_ => by have := CC.out; have h2_ := hs_; omega)); have n4_ := Aside0.mk (blk_kept (g := w3.heap.size) (o := .cells #[.int .i64 r18, .int .i64 r19, .slice Az25 r20.length cz25] 26 (0, 0)) (by (with_reducible repeat (first | refine blk_drewN ?_ _ | refine blk_drew ?_ | refine blk_alloc ?_ _)); exact HX30.out) hk (fun hs_ => by have := CC.out; have h2_ := hs_; omega)); have n5_ := Aside0.mk (blk_kept (g := w4.heap.size) (o := .cells #[.int .i64 a0_0, .int .i64 a0_1, .slice Az34 l0_2.length cz34] 26 (0, 0)) (by (with_reducible repeat (first | refine blk_drewN ?_ _ | refine blk_drew ?_ | refine blk_alloc ?_ _)); exact HX43.out) hk (fun hs_ => by have := CC.out; have h2_ := hs_; omega)); have n6_ := Aside0.mk (blk_kept (g := w5.heap.size) (o := .cells #[.int .i64 r18, .int .i64 r19, .slice Az47 r20.length cz47] 26 (0, 0)) (by (with_reducible repeat (first | refine blk_drewN ?_ _ | refine blk_drew ?_ | refine blk_alloc ?_ _)); exact HX60.out) hk (fun hs_ => by have := CC.out; have h2_ := hs_; omega)); have n7_ := Aside0.mk (hbk); have C120 : Aside0 (w8.heap.size ≤ w9.heap.size) := ⟨by have h_ := hk.1; (try simp at h_); omega⟩; have CCn_ := Aside0.mk (And.intro CC.out C120.out); clear CC; have CC := CCn_; clear CCn_; clear HO24; clear HO46; clear HX1; clear HX30; clear HX43; clear HX60; clear HB; clear hl101; clear hx102; clear hx103; clear hx104; clear hl105; clear hx106; clear hx107; clear hx108; clear hl109; clear hx110; clear hx111; clear hx112; clear hl113; clear hx114; clear hx115; clear hx116; have HO24 := n1_; clear n1_; have HO46 := n2_; clear n2_; have HX1 := n3_; clear n3_; have HX30 := n4_; clear n4_; have HX43 := n5_; clear n5_; have HX60 := n6_; clear n6_; have HB := n7_; clear n7_; clear HO33; have HO33 := Aside0.mk hm0_; (try clear hk); (try clear hbk); (try clear hm0_); have hl121 : w.heap.size < w9.heap.size := blk_lt HX1.out; have hx122 : w9.cell? ⟨w.heap.size, 0, none⟩ = some (.int .i64 a0_0) := (blk_cell HX1.out 0).trans rfl; have hx123 : w9.cell? ⟨w.heap.size, 1, none⟩ = some (.int .i64 a0_1) := (blk_cell HX1.out 1).trans rfl; have hx124 : w9.cell? ⟨w.heap.size, 2, none⟩ = some (.slice A0_2 l0_2.length c0_2) := (blk_cell HX1.out 2).trans rfl; have hl125 : w3.heap.size < w9.heap.size := blk_lt HX30.out; have hx126 : w9.cell? ⟨w3.heap.size, 0, none⟩ = some (.int .i64 r18) := (blk_cell HX30.out 0).trans rfl; have hx127 : w9.cell? ⟨w3.heap.size, 1, none⟩ = some (.int .i64 r19) := (blk_cell HX30.out 1).trans rfl; have hx128 : w9.cell? ⟨w3.heap.size, 2, none⟩ = some (.slice Az25 r20.length cz25) := (blk_cell HX30.out 2).trans rfl; have hl129 : w4.heap.size < w9.heap.size := blk_lt HX43.out; have hx130 : w9.cell? ⟨w4.heap.size, 0, none⟩ = some (.int .i64 a0_0) := (blk_cell HX43.out 0).trans rfl; have hx131 : w9.cell? ⟨w4.heap.size, 1, none⟩ = some (.int .i64 a0_1) := (blk_cell HX43.out 1).trans rfl; have hx132 : w9.cell? ⟨w4.heap.size, 2, none⟩ = some (.slice Az34 l0_2.length cz34) := (blk_cell HX43.out 2).trans rfl; have hl133 : w5.heap.size < w9.heap.size := blk_lt HX60.out; have hx134 : w9.cell? ⟨w5.heap.size, 0, none⟩ = some (.int .i64 r18) := (blk_cell HX60.out 0).trans rfl; have hx135 : w9.cell? ⟨w5.heap.size, 1, none⟩ = some (.int .i64 r19) := (blk_cell HX60.out 1).trans rfl; have hx136 : w9.cell? ⟨w5.heap.size, 2, none⟩ = some (.slice Az47 r20.length cz47) := (blk_cell HX60.out 2).trans rfl) | (go_at_call 16; (with_reducible refine (laws_eqMatrix.calls k r18 r19 _ _ r20 r18 r19 _ _ r20 true _ ?side1 ?side2 ?side3 ?side4 A138.out).mono ?_); (case side1 => exact (Kd.S_reads' (n := r20.length) (A := Az47) (c := cz47) (by (with_reducible repeat (first | apply Kd.S_alloc | apply Kd.S_drewN | apply Kd.S_drew)); exact HO46.out)).2.2); (case side2 => exact (Kd.S_reads' (n := r20.length) (A := Az47) (c := cz47) HO46.out).2.1); (case side3 => exact (Kd.S_reads' (n := r20.length) (A := Az25) (c := cz25) (by (with_reducible repeat (first | apply Kd.S_alloc | apply Kd.S_drewN | apply Kd.S_drew)); exact HO24.out)).2.2); (case side4 => exact (Kd.S_reads' (n := r20.length) (A := Az25) (c := cz25) HO24.out).2.1); rintro e w10 ⟨rfl, hb⟩; have n1_ := Aside0.mk (Kd.S_below (by (with_reducible repeat (first | apply Kd.S_alloc | apply Kd.S_drewN | apply Kd.S_drew)); exact HO24.out) hb); have n2_ := Aside0.mk (Kd.S_below (by (with_reducible repeat (first | apply Kd.S_alloc | apply Kd.S_drewN | apply Kd.S_drew)); exact HO33.out) hb); have n3_ := Aside0.mk (Kd.S_below (by (with_reducible repeat (first | apply Kd.S_alloc | apply Kd.S_drewN | apply Kd.S_drew)); exact HO46.out) hb); have n4_ := Aside0.mk (blk_below (g := w.heap.size) (o := .cells #[.int .i64 a0_0, .int .i64 a0_1, .slice A0_2 l0_2.length c0_2] 24 (0, 0)) (by (with_reducible repeat (first | refine blk_drewN ?_ _ | refine blk_drew ?_ | refine blk_alloc ?_ _)); exact HX1.out) hb); have n5_ := Aside0.mk (blk_below (g := w3.heap.size) (o := .cells #[.int .i64 r18, .int .i64 r19, .slice Az25 r20.length cz25] 26 (0, 0)) (by (with_reducible repeat (first | refine blk_drewN ?_ _ | refine blk_drew ?_ | refine blk_alloc ?_ _)); exact HX30.out) hb); have n6_ := Aside0.mk (blk_below (g := w4.heap.size) (o := .cells #[.int .i64 a0_0, .int .i64 a0_1, .slice Az34 l0_2.length cz34] 26 (0, 0)) (by (with_reducible repeat (first | refine blk_drewN ?_ _ | refine blk_drew ?_ | refine blk_alloc ?_ _)); exact HX43.out) hb); have n7_ := Aside0.mk (blk_below (g := w5.heap.size) (o := .cells #[.int .i64 r18, .int .i64 r19, .slice Az47 r20.length cz47] 26 (0, 0)) (by (with_reducible repeat (first | refine blk_drewN ?_ _ | refine blk_drew ?_ | refine blk_alloc ?_ _)); exact HX60.out) hb); have n8_ := Aside0.mk (below_step (by repeat (first | (with_reducible first | exact HB.out | apply below_alloc | apply pw_below_drewN | apply below_drew1) | exact HB.out)) hb); have C139 : Aside0 (w9.heap.size ≤ w10.heap.size) := ⟨by have h_ := hb.size; (try simp at h_); omega⟩; have CCn_ := Aside0.mk (And.intro CC.out C139.out); clear CC; have CC := CCn_; clear CCn_; clear HO24; clear HO33; clear HO46; clear HX1; clear HX30; clear HX43; clear HX60; clear HB; clear hl121; clear hx122; clear hx123; clear hx124; clear hl125; clear hx126; clear hx127; clear hx128; clear hl129; clear hx130; clear hx131; clear hx132; clear hl133; clear hx134; clear hx135; clear hx136; have HO24 := n1_; clear n1_; have HO33 := n2_; clear n2_; have HO46 := n3_; clear n3_; have HX1 := n4_; clear n4_; have HX30 := n5_; clear n5_; have HX43 := n6_; clear n6_; have HX60 := n7_; clear n7_; have HB := n8_; clear n8_; (try clear hb); have hl140 : w.heap.size < w10.heap.size := blk_lt HX1.out; have hx141 : w10.cell? ⟨w.heap.size, 0, none⟩ = some (.int .i64 a0_0) := (blk_cell HX1.out 0).trans rfl; have hx142 : w10.cell? ⟨w.heap.size, 1, none⟩ = some (.int .i64 a0_1) := (blk_cell HX1.out 1).trans rfl; have hx143 : w10.cell? ⟨w.heap.size, 2, none⟩ = some (.slice A0_2 l0_2.length c0_2) := (blk_cell HX1.out 2).trans rfl; have hl144 : w3.heap.size < w10.heap.size := blk_lt HX30.out; have hx145 : w10.cell? ⟨w3.heap.size, 0, none⟩ = some (.int .i64 r18) := (blk_cell HX30.out 0).trans rfl; have hx146 : w10.cell? ⟨w3.heap.size, 1, none⟩ = some (.int .i64 r19) := (blk_cell HX30.out 1).trans rfl; have hx147 : w10.cell? ⟨w3.heap.size, 2, none⟩ = some (.slice Az25 r20.length cz25) := (blk_cell HX30.out 2).trans rfl; have hl148 : w4.heap.size < w10.heap.size := blk_lt HX43.out; have hx149 : w10.cell? ⟨w4.heap.size, 0, none⟩ = some (.int .i64 a0_0) := (blk_cell HX43.out 0).trans rfl; have hx150 : w10.cell? ⟨w4.heap.size, 1, none⟩ = some (.int .i64 a0_1) := (blk_cell HX43.out 1).trans rfl; have hx151 : w10.cell? ⟨w4.heap.size, 2, none⟩ = some (.slice Az34 l0_2.length cz34) := (blk_cell HX43.out 2).trans rfl; have hl152 : w5.heap.size < w10.heap.size := blk_lt HX60.out; have hx153 : w10.cell? ⟨w5.heap.size, 0, none⟩ = some (.int .i64 r18) := (blk_cell HX60.out 0).trans rfl; have hx154 : w10.cell? ⟨w5.heap.size, 1, none⟩ = some (.int .i64 r19) := (blk_cell HX60.out 1).trans rfl; have hx155 : w10.cell? ⟨w5.heap.size, 2, none⟩ = some (.slice Az47 r20.length cz47) := (blk_cell HX60.out 2).trans rfl) | ((with_reducible refine gate_callee (f := 17) rfl ?_); refine goesL_ (some 64) rfl rfl Try.func17 (by kernel_rfl) rfl #[.agg #[.int .i64 r18, .int .i64 r19, .slice Az47 r20.length cz47], .int .i64 1] rfl (by (try simp only [List.map_toArray, List.map_cons, List.map_nil]); first | done | rfl | (simp only [List.length_drop, List.length_take]; rfl)) ?_; (with_reducible refine (laws_markMatrix.callsM k r18 r19 (fun k_ => w4.heap.size + 1 ≤ k_ ∧ k_ < w5.heap.size) (.slice Az47 r20.length cz47) r20 1 m156 ys157 w _ ?side1 ?side2 A158.out).mono ?_); (case side1 => repeat (first | (with_reducible first | exact HB.out | apply below_alloc | apply pw_below_drewN | apply below_drew1) | exact HB.out)); (case side2 => exact (by (with_reducible repeat (first | apply Kd.S_alloc | apply Kd.S_drewN | apply Kd.S_drew)); exact HO46.out)); rintro e w11 ⟨rfl, hm0_, hbk, hk⟩; refine ⟨_, rfl, ?_⟩; have n1_ := Aside0.mk (Kd.S_kept (by (with_reducible repeat (first | apply Kd.S_alloc | apply Kd.S_drewN | apply Kd.S_drew)); exact HO24.out) hk (fun k_ hk_ hs_ => by have := CC.out; have h1_ := hk_; have h2_ := hs_; omega)); have n2_ := Aside0.mk (Kd.S_kept (by (with_reducible repeat (first | apply Kd.S_alloc | apply Kd.S_drewN | apply Kd.S_drew)); exact HO33.out) hk (fun k_ hk_ hs_ => by have := CC.out; have h1_ := hk_; have h2_ := hs_; omega)); have n3_ := Aside0.mk (blk_kept (g := w.heap.size) (o := .cells #[.int .i64 a0_0, .int .i64 a0_1, .slice A0_2 l0_2.length c0_2] 24 (0, 0)) (by (with_reducible repeat (first | refine blk_drewN ?_ _ | refine blk_drew ?_ | refine blk_alloc ?_ _)); exact HX1.out) hk (fun hs_ => by have := CC.out; have h2_ := hs_; omega)); have n4_ := Aside0.mk (blk_kept (g := w3.heap.size) (o := .cells #[.int .i64 r18, .int .i64 r19, .slice Az25 r20.length cz25] 26 (0, 0)) (by (with_reducible repeat (first | refine blk_drewN ?_ _ | refine blk_drew ?_ | refine blk_alloc ?_ _)); exact HX30.out) hk (fun hs_ => by have := CC.out; have h2_ := hs_; omega)); have n5_ := Aside0.mk (blk_kept (g := w4.heap.size) (o := .cells #[.int .i64 a0_0, .int .i64 a0_1, .slice Az34 l0_2.length cz34] 26 (0, 0)) (by (with_reducible repeat (first | refine blk_drewN ?_ _ | refine blk_drew ?_ | refine blk_alloc ?_ _)); exact HX43.out) hk (fun hs_ => by have := CC.out; have h2_ := hs_; omega)); have n6_ := Aside0.mk (blk_kept (g := w5.heap.size) (o := .cells #[.int .i64 r18, .int .i64 r19, .slice Az47 r20.length cz47] 26 (0, 0)) (by (with_reducible repeat (first | refine blk_drewN ?_ _ | refine blk_drew ?_ | refine blk_alloc ?_ _)); exact HX60.out) hk (fun hs_ => by have := CC.out; have h2_ := hs_; omega)); have n7_ := Aside0.mk (hbk); have C159 : Aside0 (w10.heap.size ≤ w11.heap.size) := ⟨by have h_ := hk.1; (try simp at h_); omega⟩; have CCn_ := Aside0.mk (And.intro CC.out C159.out); clear CC; have CC := CCn_; clear CCn_; clear HO24; clear HO33; clear HX1; clear HX30; clear HX43; clear HX60; clear HB; clear hl140; clear hx141; clear hx142; clear hx143; clear hl144; clear hx145; clear hx146; clear hx147; clear hl148; clear hx149; clear hx150; clear hx151; clear hl152; clear hx153; clear hx154; clear hx155; have HO24 := n1_; clear n1_; have HO33 := n2_; clear n2_; have HX1 := n3_; clear n3_; have HX30 := n4_; clear n4_; have HX43 := n5_; clear n5_; have HX60 := n6_; clear n6_; have HB := n7_; clear n7_; clear HO46; have HO46 := Aside0.mk hm0_; (try clear hk); (try clear hbk); (try clear hm0_); have hl160 : w.heap.size < w11.heap.size := blk_lt HX1.out; have hx161 : w11.cell? ⟨w.heap.size, 0, none⟩ = some (.int .i64 a0_0) := (blk_cell HX1.out 0).trans rfl; have hx162 : w11.cell? ⟨w.heap.size, 1, none⟩ = some (.int .i64 a0_1) := (blk_cell HX1.out 1).trans rfl; have hx163 : w11.cell? ⟨w.heap.size, 2, none⟩ = some (.slice A0_2 l0_2.length c0_2) := (blk_cell HX1.out 2).trans rfl; have hl164 : w3.heap.size < w11.heap.size := blk_lt HX30.out; have hx165 : w11.cell? ⟨w3.heap.size, 0, none⟩ = some (.int .i64 r18) := (blk_cell HX30.out 0).trans rfl; have hx166 : w11.cell? ⟨w3.heap.size, 1, none⟩ = some (.int .i64 r19) := (blk_cell HX30.out 1).trans rfl; have hx167 : w11.cell? ⟨w3.heap.size, 2, none⟩ = some (.slice Az25 r20.length cz25) := (blk_cell HX30.out 2).trans rfl; have hl168 : w4.heap.size < w11.heap.size := blk_lt HX43.out; have hx169 : w11.cell? ⟨w4.heap.size, 0, none⟩ = some (.int .i64 a0_0) := (blk_cell HX43.out 0).trans rfl; have hx170 : w11.cell? ⟨w4.heap.size, 1, none⟩ = some (.int .i64 a0_1) := (blk_cell HX43.out 1).trans rfl; have hx171 : w11.cell? ⟨w4.heap.size, 2, none⟩ = some (.slice Az34 l0_2.length cz34) := (blk_cell HX43.out 2).trans rfl; have hl172 : w5.heap.size < w11.heap.size := blk_lt HX60.out; have hx173 : w11.cell? ⟨w5.heap.size, 0, none⟩ = some (.int .i64 r18) := (blk_cell HX60.out 0).trans rfl; have hx174 : w11.cell? ⟨w5.heap.size, 1, none⟩ = some (.int .i64 r19) := (blk_cell HX60.out 1).trans rfl; have hx175 : w11.cell? ⟨w5.heap.size, 2, none⟩ = some (.slice Az47 r20.length cz47) := (blk_cell HX60.out 2).trans rfl) | ((with_reducible refine gate_callee (f := 18) rfl ?_); refine goesL_ (some 67) rfl rfl Try.func18 (by kernel_rfl) rfl #[.agg #[.int .i64 r18, .int .i64 r19, .slice Az47 r20.length cz47], .int .i64 1] rfl (by (try simp only [List.map_toArray, List.map_cons, List.map_nil]); first | done | rfl | (simp only [List.length_drop, List.length_take]; rfl)) ?_; (with_reducible refine (calls_as ?eq_ (laws_heldMatrix.calls k r18 r19 Az47 cz47 ys157 1 m156 _ ?side1 ?side2 A176.out)).mono ?_); (case eq_ => rw [show ys157.length = r20.length from (Kd.S_reads' HO46.out).1.symm]); (case side1 => exact (Kd.S_reads' (n := r20.length) (A := Az47) (c := cz47) (by (with_reducible repeat (first | apply Kd.S_alloc | apply Kd.S_drewN | apply Kd.S_drew)); exact HO46.out)).2.2); (case side2 => exact Nat.le_trans (Nat.le_of_eq (Kd.S_reads' HO46.out).1.symm) (Kd.S_reads' HO46.out).2.1); rintro e w12 ⟨rfl, hb⟩; refine ⟨_, rfl, ?_⟩; have n1_ := Aside0.mk (Kd.S_below (by (with_reducible repeat (first | apply Kd.S_alloc | apply Kd.S_drewN | apply Kd.S_drew)); exact HO24.out) hb); have n2_ := Aside0.mk (Kd.S_below (by (with_reducible repeat (first | apply Kd.S_alloc | apply Kd.S_drewN | apply Kd.S_drew)); exact HO33.out) hb); have n3_ := Aside0.mk (Kd.S_below (by (with_reducible repeat (first | apply Kd.S_alloc | apply Kd.S_drewN | apply Kd.S_drew)); exact HO46.out) hb); have n4_ := Aside0.mk (blk_below (g := w.heap.size) (o := .cells #[.int .i64 a0_0, .int .i64 a0_1, .slice A0_2 l0_2.length c0_2] 24 (0, 0)) (by (with_reducible repeat (first | refine blk_drewN ?_ _ | refine blk_drew ?_ | refine blk_alloc ?_ _)); exact HX1.out) hb); have n5_ := Aside0.mk (blk_below (g := w3.heap.size) (o := .cells #[.int .i64 r18, .int .i64 r19, .slice Az25 r20.length cz25] 26 (0, 0)) (by (with_reducible repeat (first | refine blk_drewN ?_ _ | refine blk_drew ?_ | refine blk_alloc ?_ _)); exact HX30.out) hb); have n6_ := Aside0.mk (blk_below (g := w4.heap.size) (o := .cells #[.int .i64 a0_0, .int .i64 a0_1, .slice Az34 l0_2.length cz34] 26 (0, 0)) (by (with_reducible repeat (first | refine blk_drewN ?_ _ | refine blk_drew ?_ | refine blk_alloc ?_ _)); exact HX43.out) hb); have n7_ := Aside0.mk (blk_below (g := w5.heap.size) (o := .cells #[.int .i64 r18, .int .i64 r19, .slice Az47 r20.length cz47] 26 (0, 0)) (by (with_reducible repeat (first | refine blk_drewN ?_ _ | refine blk_drew ?_ | refine blk_alloc ?_ _)); exact HX60.out) hb); have n8_ := Aside0.mk (below_step (by repeat (first | (with_reducible first | exact HB.out | apply below_alloc | apply pw_below_drewN | apply below_drew1) | exact HB.out)) hb); have C177 : Aside0 (w11.heap.size ≤ w12.heap.size) := ⟨by have h_ := hb.size; (try simp at h_); omega⟩; have CCn_ := Aside0.mk (And.intro CC.out C177.out); clear CC; have CC := CCn_; clear CCn_; clear HO24; clear HO33; clear HO46; clear HX1; clear HX30; clear HX43; clear HX60; clear HB; clear hl160; clear hx161; clear hx162; clear hx163; clear hl164; clear hx165; clear hx166; clear hx167; clear hl168; clear hx169; clear hx170; clear hx171; clear hl172; clear hx173; clear hx174; clear hx175; have HO24 := n1_; clear n1_; have HO33 := n2_; clear n2_; have HO46 := n3_; clear n3_; have HX1 := n4_; clear n4_; have HX30 := n5_; clear n5_; have HX43 := n6_; clear n6_; have HX60 := n7_; clear n7_; have HB := n8_; clear n8_; (try clear hb); have hl178 : w.heap.size < w12.heap.size := blk_lt HX1.out; have hx179 : w12.cell? ⟨w.heap.size, 0, none⟩ = some (.int .i64 a0_0) := (blk_cell HX1.out 0).trans rfl; have hx180 : w12.cell? ⟨w.heap.size, 1, none⟩ = some (.int .i64 a0_1) := (blk_cell HX1.out 1).trans rfl; have hx181 : w12.cell? ⟨w.heap.size, 2, none⟩ = some (.slice A0_2 l0_2.length c0_2) := (blk_cell HX1.out 2).trans rfl; have hl182 : w3.heap.size < w12.heap.size := blk_lt HX30.out; have hx183 : w12.cell? ⟨w3.heap.size, 0, none⟩ = some (.int .i64 r18) := (blk_cell HX30.out 0).trans rfl; have hx184 : w12.cell? ⟨w3.heap.size, 1, none⟩ = some (.int .i64 r19) := (blk_cell HX30.out 1).trans rfl; have hx185 : w12.cell? ⟨w3.heap.size, 2, none⟩ = some (.slice Az25 r20.length cz25) := (blk_cell HX30.out 2).trans rfl; have hl186 : w4.heap.size < w12.heap.size := blk_lt HX43.out; have hx187 : w12.cell? ⟨w4.heap.size, 0, none⟩ = some (.int .i64 a0_0) := (blk_cell HX43.out 0).trans rfl; have hx188 : w12.cell? ⟨w4.heap.size, 1, none⟩ = some (.int .i64 a0_1) := (blk_cell HX43.out 1).trans rfl; have hx189 : w12.cell? ⟨w4.heap.size, 2, none⟩ = some (.slice Az34 l0_2.length cz34) := (blk_cell HX43.out 2).trans rfl; have hl190 : w5.heap.size < w12.heap.size := blk_lt HX60.out; have hx191 : w12.cell? ⟨w5.heap.size, 0, none⟩ = some (.int .i64 r18) := (blk_cell HX60.out 0).trans rfl; have hx192 : w12.cell? ⟨w5.heap.size, 1, none⟩ = some (.int .i64 r19) := (blk_cell HX60.out 1).trans rfl; have hx193 : w12.cell? ⟨w5.heap.size, 2, none⟩ = some (.slice Az47 r20.length cz47) := (blk_cell HX60.out 2).trans rfl) | ((with_reducible refine gate_callee (f := 14) rfl ?_); refine goesL_ (some 75) rfl rfl Try.func14 (by kernel_rfl) rfl #[.agg #[.int .i64 a0_0, .int .i64 a0_1, .slice A0_2 l0_2.length c0_2]] rfl (by (try simp only [List.map_toArray, List.map_cons, List.map_nil]); first | done | rfl | (simp only [List.length_drop, List.length_take]; rfl)) ?_; (with_reducible refine (laws_toMatrix.calls k a0_0 a0_1 _ _ l0_2 a0_0 a0_1 l0_2 _ ?side1 ?side2 A195.out).mono ?_); (case side1 => exact Kd.C_below HR0_2.out (by repeat (first | (with_reducible first | exact HB.out | apply below_alloc | apply pw_below_drewN | apply below_drew1) | exact HB.out))); (case side2 => exact HC0_2.out); rintro e w13 ⟨v100_, rfl, ho0_, hb⟩; refine ⟨_, rfl, ?_⟩; have n1_ := Aside0.mk (Kd.S_below (by (with_reducible repeat (first | apply Kd.S_alloc | apply Kd.S_drewN | apply Kd.S_drew)); exact HO24.out) hb); have n2_ := Aside0.mk (Kd.S_below (by (with_reducible repeat (first | apply Kd.S_alloc | apply Kd.S_drewN | apply Kd.S_drew)); exact HO33.out) hb); have n3_ := Aside0.mk (Kd.S_below (by (with_reducible repeat (first | apply Kd.S_alloc | apply Kd.S_drewN | apply Kd.S_drew)); exact HO46.out) hb); have n4_ := Aside0.mk (blk_below (g := w.heap.size) (o := .cells #[.int .i64 a0_0, .int .i64 a0_1, .slice A0_2 l0_2.length c0_2] 24 (0, 0)) (by (with_reducible repeat (first | refine blk_drewN ?_ _ | refine blk_drew ?_ | refine blk_alloc ?_ _)); exact HX1.out) hb); have n5_ := Aside0.mk (blk_below (g := w3.heap.size) (o := .cells #[.int .i64 r18, .int .i64 r19, .slice Az25 r20.length cz25] 26 (0, 0)) (by (with_reducible repeat (first | refine blk_drewN ?_ _ | refine blk_drew ?_ | refine blk_alloc ?_ _)); exact HX30.out) hb); have n6_ := Aside0.mk (blk_below (g := w4.heap.size) (o := .cells #[.int .i64 a0_0, .int .i64 a0_1, .slice Az34 l0_2.length cz34] 26 (0, 0)) (by (with_reducible repeat (first | refine blk_drewN ?_ _ | refine blk_drew ?_ | refine blk_alloc ?_ _)); exact HX43.out) hb); have n7_ := Aside0.mk (blk_below (g := w5.heap.size) (o := .cells #[.int .i64 r18, .int .i64 r19, .slice Az47 r20.length cz47] 26 (0, 0)) (by (with_reducible repeat (first | refine blk_drewN ?_ _ | refine blk_drew ?_ | refine blk_alloc ?_ _)); exact HX60.out) hb); have n8_ := Aside0.mk (below_step (by repeat (first | (with_reducible first | exact HB.out | apply below_alloc | apply pw_below_drewN | apply below_drew1) | exact HB.out)) hb); have C196 : Aside0 (w12.heap.size ≤ w13.heap.size) := ⟨by have h_ := hb.size; (try simp at h_); omega⟩; have CCn_ := Aside0.mk (And.intro CC.out C196.out); clear CC; have CC := CCn_; clear CCn_; clear HO24; clear HO33; clear HO46; clear HX1; clear HX30; clear HX43; clear HX60; clear HB; clear hl178; clear hx179; clear hx180; clear hx181; clear hl182; clear hx183; clear hx184; clear hx185; clear hl186; clear hx187; clear hx188; clear hx189; clear hl190; clear hx191; clear hx192; clear hx193; have HO24 := n1_; clear n1_; have HO33 := n2_; clear n2_; have HO46 := n3_; clear n3_; have HX1 := n4_; clear n4_; have HX30 := n5_; clear n5_; have HX43 := n6_; clear n6_; have HX60 := n7_; clear n7_; have HB := n8_; clear n8_; have HO197 := Aside0.mk (Kd.S_lower (base' := w.heap.size) (Kd.S_mono (Kd.S_bound ho0_) (ok' := fun k_ => w12.heap.size ≤ k_ ∧ k_ < w13.heap.size) (fun k_ hk_ => ⟨by have h_ := hk_.2.1; (try simp at h_); omega, hk_.2.2.1⟩)) (by have := CC.out; first | omega | (simp; done) | (simp; omega))); obtain ⟨Az198, cz198, ez198⟩ := Kd.S_slice HO197.out; subst ez198; (try clear hb); (try clear ho0_); have hl199 : w.heap.size < w13.heap.size := blk_lt HX1.out; have hx200 : w13.cell? ⟨w.heap.size, 0, none⟩ = some (.int .i64 a0_0) := (blk_cell HX1.out 0).trans rfl; have hx201 : w13.cell? ⟨w.heap.size, 1, none⟩ = some (.int .i64 a0_1) := (blk_cell HX1.out 1).trans rfl; have hx202 : w13.cell? ⟨w.heap.size, 2, none⟩ = some (.slice A0_2 l0_2.length c0_2) := (blk_cell HX1.out 2).trans rfl; have hl203 : w3.heap.size < w13.heap.size := blk_lt HX30.out; have hx204 : w13.cell? ⟨w3.heap.size, 0, none⟩ = some (.int .i64 r18) := (blk_cell HX30.out 0).trans rfl; have hx205 : w13.cell? ⟨w3.heap.size, 1, none⟩ = some (.int .i64 r19) := (blk_cell HX30.out 1).trans rfl; have hx206 : w13.cell? ⟨w3.heap.size, 2, none⟩ = some (.slice Az25 r20.length cz25) := (blk_cell HX30.out 2).trans rfl; have hl207 : w4.heap.size < w13.heap.size := blk_lt HX43.out; have hx208 : w13.cell? ⟨w4.heap.size, 0, none⟩ = some (.int .i64 a0_0) := (blk_cell HX43.out 0).trans rfl; have hx209 : w13.cell? ⟨w4.heap.size, 1, none⟩ = some (.int .i64 a0_1) := (blk_cell HX43.out 1).trans rfl; have hx210 : w13.cell? ⟨w4.heap.size, 2, none⟩ = some (.slice Az34 l0_2.length cz34) := (blk_cell HX43.out 2).trans rfl; have hl211 : w5.heap.size < w13.heap.size := blk_lt HX60.out; have hx212 : w13.cell? ⟨w5.heap.size, 0, none⟩ = some (.int .i64 r18) := (blk_cell HX60.out 0).trans rfl; have hx213 : w13.cell? ⟨w5.heap.size, 1, none⟩ = some (.int .i64 r19) := (blk_cell HX60.out 1).trans rfl; have hx214 : w13.cell? ⟨w5.heap.size, 2, none⟩ = some (.slice Az47 r20.length cz47) := (blk_cell HX60.out 2).trans rfl) | ((with_reducible refine gate_callee (f := 22) rfl ?_); refine goesL_ (some 76) rfl rfl Try.func22 (by kernel_rfl) rfl #[.agg #[.int .i64 a0_0, .int .i64 a0_1, .slice Az198 l0_2.length cz198]] rfl (by (try simp only [List.map_toArray, List.map_cons, List.map_nil]); first | done | rfl | (simp only [List.length_drop, List.length_take]; rfl)) ?_; (with_reducible refine (impl_InverseOf.calls k a0_0 a0_1 _ _ l0_2 r18 r19 r20 r21 _ ?side1 ?side2 A215.out).mono ?_); (case side1 => exact (Kd.S_reads' (n := l0_2.length) (A := Az198) (c := cz198) (by (with_reducible repeat (first | apply Kd.S_alloc | apply Kd.S_drewN | apply Kd.S_drew)); exact HO197.out)).2.2); (case side2 => exact (Kd.S_reads' (n := l0_2.length) (A := Az198) (c := cz198) HO197.out).2.1); rintro e w14 ⟨v100_, rfl, ho0_, hb⟩; refine ⟨_, rfl, ?_⟩; have n1_ := Aside0.mk (Kd.S_below (by (with_reducible repeat (first | apply Kd.S_alloc | apply Kd.S_drewN | apply Kd.S_drew)); exact HO24.out) hb); have n2_ := Aside0.mk (Kd.S_below (by (with_reducible repeat (first | apply Kd.S_alloc | apply Kd.S_drewN | apply Kd.S_drew)); exact HO33.out) hb); have n3_ := Aside0.mk (Kd.S_below (by (with_reducible repeat (first | apply Kd.S_alloc | apply Kd.S_drewN | apply Kd.S_drew)); exact HO46.out) hb); have n4_ := Aside0.mk (Kd.S_below (by (with_reducible repeat (first | apply Kd.S_alloc | apply Kd.S_drewN | apply Kd.S_drew)); exact HO197.out) hb); have n5_ := Aside0.mk (blk_below (g := w.heap.size) (o := .cells #[.int .i64 a0_0, .int .i64 a0_1, .slice A0_2 l0_2.length c0_2] 24 (0, 0)) (by (with_reducible repeat (first | refine blk_drewN ?_ _ | refine blk_drew ?_ | refine blk_alloc ?_ _)); exact HX1.out) hb); have n6_ := Aside0.mk (blk_below (g := w3.heap.size) (o := .cells #[.int .i64 r18, .int .i64 r19, .slice Az25 r20.length cz25] 26 (0, 0)) (by (with_reducible repeat (first | refine blk_drewN ?_ _ | refine blk_drew ?_ | refine blk_alloc ?_ _)); exact HX30.out) hb); have n7_ := Aside0.mk (blk_below (g := w4.heap.size) (o := .cells #[.int .i64 a0_0, .int .i64 a0_1, .slice Az34 l0_2.length cz34] 26 (0, 0)) (by (with_reducible repeat (first | refine blk_drewN ?_ _ | refine blk_drew ?_ | refine blk_alloc ?_ _)); exact HX43.out) hb); have n8_ := Aside0.mk (blk_below (g := w5.heap.size) (o := .cells #[.int .i64 r18, .int .i64 r19, .slice Az47 r20.length cz47] 26 (0, 0)) (by (with_reducible repeat (first | refine blk_drewN ?_ _ | refine blk_drew ?_ | refine blk_alloc ?_ _)); exact HX60.out) hb); have n9_ := Aside0.mk (below_step (by repeat (first | (with_reducible first | exact HB.out | apply below_alloc | apply pw_below_drewN | apply below_drew1) | exact HB.out)) hb); have C216 : Aside0 (w13.heap.size ≤ w14.heap.size) := ⟨by have h_ := hb.size; (try simp at h_); omega⟩; have CCn_ := Aside0.mk (And.intro CC.out C216.out); clear CC; have CC := CCn_; clear CCn_; clear HO24; clear HO33; clear HO46; clear HO197; clear HX1; clear HX30; clear HX43; clear HX60; clear HB; clear hl199; clear hx200; clear hx201; clear hx202; clear hl203; clear hx204; clear hx205; clear hx206; clear hl207; clear hx208; clear hx209; clear hx210; clear hl211; clear hx212; clear hx213; clear hx214; have HO24 := n1_; clear n1_; have HO33 := n2_; clear n2_; have HO46 := n3_; clear n3_; have HO197 := n4_; clear n4_; have HX1 := n5_; clear n5_; have HX30 := n6_; clear n6_; have HX43 := n7_; clear n7_; have HX60 := n8_; clear n8_; have HB := n9_; clear n9_; have HO217 := Aside0.mk (Kd.S_lower (base' := w.heap.size) (Kd.S_mono (Kd.S_bound ho0_) (ok' := fun k_ => w13.heap.size ≤ k_ ∧ k_ < w14.heap.size) (fun k_ hk_ => ⟨by have h_ := hk_.2.1; (try simp at h_); omega, hk_.2.2.1⟩)) (by have := CC.out; first | omega | (simp; done) | (simp; omega))); obtain ⟨Az218, cz218, ez218⟩ := Kd.S_slice HO217.out; subst ez218; (try clear hb); (try clear ho0_); have hl219 : w.heap.size < w14.heap.size := blk_lt HX1.out; have hx220 : w14.cell? ⟨w.heap.size, 0, none⟩ = some (.int .i64 a0_0) := (blk_cell HX1.out 0).trans rfl; have hx221 : w14.cell? ⟨w.heap.size, 1, none⟩ = some (.int .i64 a0_1) := (blk_cell HX1.out 1).trans rfl; have hx222 : w14.cell? ⟨w.heap.size, 2, none⟩ = some (.slice A0_2 l0_2.length c0_2) := (blk_cell HX1.out 2).trans rfl; have hl223 : w3.heap.size < w14.heap.size := blk_lt HX30.out; have hx224 : w14.cell? ⟨w3.heap.size, 0, none⟩ = some (.int .i64 r18) := (blk_cell HX30.out 0).trans rfl; have hx225 : w14.cell? ⟨w3.heap.size, 1, none⟩ = some (.int .i64 r19) := (blk_cell HX30.out 1).trans rfl; have hx226 : w14.cell? ⟨w3.heap.size, 2, none⟩ = some (.slice Az25 r20.length cz25) := (blk_cell HX30.out 2).trans rfl; have hl227 : w4.heap.size < w14.heap.size := blk_lt HX43.out; have hx228 : w14.cell? ⟨w4.heap.size, 0, none⟩ = some (.int .i64 a0_0) := (blk_cell HX43.out 0).trans rfl; have hx229 : w14.cell? ⟨w4.heap.size, 1, none⟩ = some (.int .i64 a0_1) := (blk_cell HX43.out 1).trans rfl; have hx230 : w14.cell? ⟨w4.heap.size, 2, none⟩ = some (.slice Az34 l0_2.length cz34) := (blk_cell HX43.out 2).trans rfl; have hl231 : w5.heap.size < w14.heap.size := blk_lt HX60.out; have hx232 : w14.cell? ⟨w5.heap.size, 0, none⟩ = some (.int .i64 r18) := (blk_cell HX60.out 0).trans rfl; have hx233 : w14.cell? ⟨w5.heap.size, 1, none⟩ = some (.int .i64 r19) := (blk_cell HX60.out 1).trans rfl; have hx234 : w14.cell? ⟨w5.heap.size, 2, none⟩ = some (.slice Az47 r20.length cz47) := (blk_cell HX60.out 2).trans rfl) | ((with_reducible refine gate_callee (f := 16) rfl ?_); refine goesL_ (some 81) rfl rfl Try.func16 (by kernel_rfl) rfl #[.agg #[.int .i64 r18, .int .i64 r19, .slice Az218 r20.length cz218], .agg #[.int .i64 r18, .int .i64 r19, .slice Az25 r20.length cz25]] rfl (by (try simp only [List.map_toArray, List.map_cons, List.map_nil]); first | done | rfl | (simp only [List.length_drop, List.length_take]; rfl)) ?_; (with_reducible refine (laws_eqMatrix.calls k r18 r19 _ _ r20 r18 r19 _ _ r20 true _ ?side1 ?side2 ?side3 ?side4 A236.out).mono ?_); (case side1 => exact (Kd.S_reads' (n := r20.length) (A := Az218) (c := cz218) (by (with_reducible repeat (first | apply Kd.S_alloc | apply Kd.S_drewN | apply Kd.S_drew)); exact HO217.out)).2.2); (case side2 => exact (Kd.S_reads' (n := r20.length) (A := Az218) (c := cz218) HO217.out).2.1); (case side3 => exact (Kd.S_reads' (n := r20.length) (A := Az25) (c := cz25) (by (with_reducible repeat (first | apply Kd.S_alloc | apply Kd.S_drewN | apply Kd.S_drew)); exact HO24.out)).2.2); (case side4 => exact (Kd.S_reads' (n := r20.length) (A := Az25) (c := cz25) HO24.out).2.1); rintro e w15 ⟨rfl, hb⟩; refine ⟨_, rfl, ?_⟩; have n1_ := Aside0.mk (Kd.S_below (by (with_reducible repeat (first | apply Kd.S_alloc | apply Kd.S_drewN | apply Kd.S_drew)); exact HO24.out) hb); have n2_ := Aside0.mk (Kd.S_below (by (with_reducible repeat (first | apply Kd.S_alloc | apply Kd.S_drewN | apply Kd.S_drew)); exact HO33.out) hb); have n3_ := Aside0.mk (Kd.S_below (by (with_reducible repeat (first | apply Kd.S_alloc | apply Kd.S_drewN | apply Kd.S_drew)); exact HO46.out) hb); have n4_ := Aside0.mk (Kd.S_below (by (with_reducible repeat (first | apply Kd.S_alloc | apply Kd.S_drewN | apply Kd.S_drew)); exact HO217.out) hb); have n5_ := Aside0.mk (blk_below (g := w.heap.size) (o := .cells #[.int .i64 a0_0, .int .i64 a0_1, .slice A0_2 l0_2.length c0_2] 24 (0, 0)) (by (with_reducible repeat (first | refine blk_drewN ?_ _ | refine blk_drew ?_ | refine blk_alloc ?_ _)); exact HX1.out) hb); have n6_ := Aside0.mk (blk_below (g := w3.heap.size) (o := .cells #[.int .i64 r18, .int .i64 r19, .slice Az25 r20.length cz25] 26 (0, 0)) (by (with_reducible repeat (first | refine blk_drewN ?_ _ | refine blk_drew ?_ | refine blk_alloc ?_ _)); exact HX30.out) hb); have n7_ := Aside0.mk (blk_below (g := w4.heap.size) (o := .cells #[.int .i64 a0_0, .int .i64 a0_1, .slice Az34 l0_2.length cz34] 26 (0, 0)) (by (with_reducible repeat (first | refine blk_drewN ?_ _ | refine blk_drew ?_ | refine blk_alloc ?_ _)); exact HX43.out) hb); have n8_ := Aside0.mk (blk_below (g := w5.heap.size) (o := .cells #[.int .i64 r18, .int .i64 r19, .slice Az47 r20.length cz47] 26 (0, 0)) (by (with_reducible repeat (first | refine blk_drewN ?_ _ | refine blk_drew ?_ | refine blk_alloc ?_ _)); exact HX60.out) hb); have n9_ := Aside0.mk (blk_below (g := w14.heap.size) (o := .cells #[.int .i64 r18, .int .i64 r19, .slice Az218 r20.length cz218] 26 (0, 0)) (by repeat (first | exact blk_new_at (by simp) | (with_reducible refine blk_drewN ?_ _) | (with_reducible refine blk_drew ?_) | (with_reducible refine blk_alloc ?_ _))) hb); have n10_ := Aside0.mk (below_step (by repeat (first | (with_reducible first | exact HB.out | apply below_alloc | apply pw_below_drewN | apply below_drew1) | exact HB.out)) hb); have C237 : Aside0 (w14.heap.size + 1 ≤ w15.heap.size) := ⟨by have h_ := hb.size; (try simp at h_); omega⟩; have CCn_ := Aside0.mk (And.intro CC.out C237.out); clear CC; have CC := CCn_; clear CCn_; clear HO24; clear HO33; clear HO46; clear HO217; clear HX1; clear HX30; clear HX43; clear HX60; clear HB; clear hl219; clear hx220; clear hx221; clear hx222; clear hl223; clear hx224; clear hx225; clear hx226; clear hl227; clear hx228; clear hx229; clear hx230; clear hl231; clear hx232; clear hx233; clear hx234; have HO24 := n1_; clear n1_; have HO33 := n2_; clear n2_; have HO46 := n3_; clear n3_; have HO217 := n4_; clear n4_; have HX1 := n5_; clear n5_; have HX30 := n6_; clear n6_; have HX43 := n7_; clear n7_; have HX60 := n8_; clear n8_; have HX235 := n9_; clear n9_; have HB := n10_; clear n10_; (try clear hb); have hl238 : w.heap.size < w15.heap.size := blk_lt HX1.out; have hx239 : w15.cell? ⟨w.heap.size, 0, none⟩ = some (.int .i64 a0_0) := (blk_cell HX1.out 0).trans rfl; have hx240 : w15.cell? ⟨w.heap.size, 1, none⟩ = some (.int .i64 a0_1) := (blk_cell HX1.out 1).trans rfl; have hx241 : w15.cell? ⟨w.heap.size, 2, none⟩ = some (.slice A0_2 l0_2.length c0_2) := (blk_cell HX1.out 2).trans rfl; have hl242 : w3.heap.size < w15.heap.size := blk_lt HX30.out; have hx243 : w15.cell? ⟨w3.heap.size, 0, none⟩ = some (.int .i64 r18) := (blk_cell HX30.out 0).trans rfl; have hx244 : w15.cell? ⟨w3.heap.size, 1, none⟩ = some (.int .i64 r19) := (blk_cell HX30.out 1).trans rfl; have hx245 : w15.cell? ⟨w3.heap.size, 2, none⟩ = some (.slice Az25 r20.length cz25) := (blk_cell HX30.out 2).trans rfl; have hl246 : w4.heap.size < w15.heap.size := blk_lt HX43.out; have hx247 : w15.cell? ⟨w4.heap.size, 0, none⟩ = some (.int .i64 a0_0) := (blk_cell HX43.out 0).trans rfl; have hx248 : w15.cell? ⟨w4.heap.size, 1, none⟩ = some (.int .i64 a0_1) := (blk_cell HX43.out 1).trans rfl; have hx249 : w15.cell? ⟨w4.heap.size, 2, none⟩ = some (.slice Az34 l0_2.length cz34) := (blk_cell HX43.out 2).trans rfl; have hl250 : w5.heap.size < w15.heap.size := blk_lt HX60.out; have hx251 : w15.cell? ⟨w5.heap.size, 0, none⟩ = some (.int .i64 r18) := (blk_cell HX60.out 0).trans rfl; have hx252 : w15.cell? ⟨w5.heap.size, 1, none⟩ = some (.int .i64 r19) := (blk_cell HX60.out 1).trans rfl; have hx253 : w15.cell? ⟨w5.heap.size, 2, none⟩ = some (.slice Az47 r20.length cz47) := (blk_cell HX60.out 2).trans rfl; have hl254 : w14.heap.size < w15.heap.size := blk_lt HX235.out; have hx255 : w15.cell? ⟨w14.heap.size, 0, none⟩ = some (.int .i64 r18) := (blk_cell HX235.out 0).trans rfl; have hx256 : w15.cell? ⟨w14.heap.size, 1, none⟩ = some (.int .i64 r19) := (blk_cell HX235.out 1).trans rfl; have hx257 : w15.cell? ⟨w14.heap.size, 2, none⟩ = some (.slice Az218 r20.length cz218) := (blk_cell HX235.out 2).trans rfl) | ((with_reducible refine gate_callee (f := 18) rfl ?_); refine goesL_ (some 90) rfl rfl Try.func18 (by kernel_rfl) rfl #[.agg #[.int .i64 r18, .int .i64 r19, .slice Az47 r20.length cz47], .int .i64 1] rfl (by (try simp only [List.map_toArray, List.map_cons, List.map_nil]); first | done | rfl | (simp only [List.length_drop, List.length_take]; rfl)) ?_; (with_reducible refine (calls_as ?eq_ (laws_heldMatrix.calls k r18 r19 Az47 cz47 ys157 1 m156 _ ?side1 ?side2 A258.out)).mono ?_); (case eq_ => rw [show ys157.length = r20.length from (Kd.S_reads' HO46.out).1.symm]); (case side1 => exact (Kd.S_reads' (n := r20.length) (A := Az47) (c := cz47) (by (with_reducible repeat (first | apply Kd.S_alloc | apply Kd.S_drewN | apply Kd.S_drew)); exact HO46.out)).2.2); (case side2 => exact Nat.le_trans (Nat.le_of_eq (Kd.S_reads' HO46.out).1.symm) (Kd.S_reads' HO46.out).2.1); rintro e w16 ⟨rfl, hb⟩; refine ⟨_, rfl, ?_⟩; have n1_ := Aside0.mk (Kd.S_below (by (with_reducible repeat (first | apply Kd.S_alloc | apply Kd.S_drewN | apply Kd.S_drew)); exact HO24.out) hb); have n2_ := Aside0.mk (Kd.S_below (by (with_reducible repeat (first | apply Kd.S_alloc | apply Kd.S_drewN | apply Kd.S_drew)); exact HO33.out) hb); have n3_ := Aside0.mk (Kd.S_below (by (with_reducible repeat (first | apply Kd.S_alloc | apply Kd.S_drewN | apply Kd.S_drew)); exact HO46.out) hb); have n4_ := Aside0.mk (Kd.S_below (by (with_reducible repeat (first | apply Kd.S_alloc | apply Kd.S_drewN | apply Kd.S_drew)); exact HO217.out) hb); have n5_ := Aside0.mk (blk_below (g := w.heap.size) (o := .cells #[.int .i64 a0_0, .int .i64 a0_1, .slice A0_2 l0_2.length c0_2] 24 (0, 0)) (by (with_reducible repeat (first | refine blk_drewN ?_ _ | refine blk_drew ?_ | refine blk_alloc ?_ _)); exact HX1.out) hb); have n6_ := Aside0.mk (blk_below (g := w3.heap.size) (o := .cells #[.int .i64 r18, .int .i64 r19, .slice Az25 r20.length cz25] 26 (0, 0)) (by (with_reducible repeat (first | refine blk_drewN ?_ _ | refine blk_drew ?_ | refine blk_alloc ?_ _)); exact HX30.out) hb); have n7_ := Aside0.mk (blk_below (g := w4.heap.size) (o := .cells #[.int .i64 a0_0, .int .i64 a0_1, .slice Az34 l0_2.length cz34] 26 (0, 0)) (by (with_reducible repeat (first | refine blk_drewN ?_ _ | refine blk_drew ?_ | refine blk_alloc ?_ _)); exact HX43.out) hb); have n8_ := Aside0.mk (blk_below (g := w5.heap.size) (o := .cells #[.int .i64 r18, .int .i64 r19, .slice Az47 r20.length cz47] 26 (0, 0)) (by (with_reducible repeat (first | refine blk_drewN ?_ _ | refine blk_drew ?_ | refine blk_alloc ?_ _)); exact HX60.out) hb); have n9_ := Aside0.mk (blk_below (g := w14.heap.size) (o := .cells #[.int .i64 r18, .int .i64 r19, .slice Az218 r20.length cz218] 26 (0, 0)) (by (with_reducible repeat (first | refine blk_drewN ?_ _ | refine blk_drew ?_ | refine blk_alloc ?_ _)); exact HX235.out) hb); have n10_ := Aside0.mk (below_step (by repeat (first | (with_reducible first | exact HB.out | apply below_alloc | apply pw_below_drewN | apply below_drew1) | exact HB.out)) hb); have C259 : Aside0 (w15.heap.size ≤ w16.heap.size) := ⟨by have h_ := hb.size; (try simp at h_); omega⟩; have CCn_ := Aside0.mk (And.intro CC.out C259.out); clear CC; have CC := CCn_; clear CCn_; clear HO24; clear HO33; clear HO46; clear HO217; clear HX1; clear HX30; clear HX43; clear HX60; clear HX235; clear HB; clear hl238; clear hx239; clear hx240; clear hx241; clear hl242; clear hx243; clear hx244; clear hx245; clear hl246; clear hx247; clear hx248; clear hx249; clear hl250; clear hx251; clear hx252; clear hx253; clear hl254; clear hx255; clear hx256; clear hx257; have HO24 := n1_; clear n1_; have HO33 := n2_; clear n2_; have HO46 := n3_; clear n3_; have HO217 := n4_; clear n4_; have HX1 := n5_; clear n5_; have HX30 := n6_; clear n6_; have HX43 := n7_; clear n7_; have HX60 := n8_; clear n8_; have HX235 := n9_; clear n9_; have HB := n10_; clear n10_; (try clear hb); have hl260 : w.heap.size < w16.heap.size := blk_lt HX1.out; have hx261 : w16.cell? ⟨w.heap.size, 0, none⟩ = some (.int .i64 a0_0) := (blk_cell HX1.out 0).trans rfl; have hx262 : w16.cell? ⟨w.heap.size, 1, none⟩ = some (.int .i64 a0_1) := (blk_cell HX1.out 1).trans rfl; have hx263 : w16.cell? ⟨w.heap.size, 2, none⟩ = some (.slice A0_2 l0_2.length c0_2) := (blk_cell HX1.out 2).trans rfl; have hl264 : w3.heap.size < w16.heap.size := blk_lt HX30.out; have hx265 : w16.cell? ⟨w3.heap.size, 0, none⟩ = some (.int .i64 r18) := (blk_cell HX30.out 0).trans rfl; have hx266 : w16.cell? ⟨w3.heap.size, 1, none⟩ = some (.int .i64 r19) := (blk_cell HX30.out 1).trans rfl; have hx267 : w16.cell? ⟨w3.heap.size, 2, none⟩ = some (.slice Az25 r20.length cz25) := (blk_cell HX30.out 2).trans rfl; have hl268 : w4.heap.size < w16.heap.size := blk_lt HX43.out; have hx269 : w16.cell? ⟨w4.heap.size, 0, none⟩ = some (.int .i64 a0_0) := (blk_cell HX43.out 0).trans rfl; have hx270 : w16.cell? ⟨w4.heap.size, 1, none⟩ = some (.int .i64 a0_1) := (blk_cell HX43.out 1).trans rfl; have hx271 : w16.cell? ⟨w4.heap.size, 2, none⟩ = some (.slice Az34 l0_2.length cz34) := (blk_cell HX43.out 2).trans rfl; have hl272 : w5.heap.size < w16.heap.size := blk_lt HX60.out; have hx273 : w16.cell? ⟨w5.heap.size, 0, none⟩ = some (.int .i64 r18) := (blk_cell HX60.out 0).trans rfl; have hx274 : w16.cell? ⟨w5.heap.size, 1, none⟩ = some (.int .i64 r19) := (blk_cell HX60.out 1).trans rfl; have hx275 : w16.cell? ⟨w5.heap.size, 2, none⟩ = some (.slice Az47 r20.length cz47) := (blk_cell HX60.out 2).trans rfl; have hl276 : w14.heap.size < w16.heap.size := blk_lt HX235.out; have hx277 : w16.cell? ⟨w14.heap.size, 0, none⟩ = some (.int .i64 r18) := (blk_cell HX235.out 0).trans rfl; have hx278 : w16.cell? ⟨w14.heap.size, 1, none⟩ = some (.int .i64 r19) := (blk_cell HX235.out 1).trans rfl; have hx279 : w16.cell? ⟨w14.heap.size, 2, none⟩ = some (.slice Az218 r20.length cz218) := (blk_cell HX235.out 2).trans rfl))
  go_ret
  exact ⟨rfl, by repeat (first | (with_reducible first | exact HB.out | apply below_alloc | apply pw_below_drewN | apply below_drew1) | exact HB.out)⟩

end Go.Proofs.Ytjpbemomocccaaa.P

namespace Go.Proofs.Ytjpbemomocccaaa.P
open Go.RowKit Go.Proofs.YtjpbemomocccaaaW.PrintWords Go.Proofs.YtjpbemomocccaaaW.PrintLast Go.Proofs.YtjpbemomocccaaaW.PrintMore
attribute [local go_sem] max2_int min2_int max_two min_two max_three min_three max_four min_four
set_option linter.unusedVariables false
set_option linter.unusedSimpArgs false

section
variable {H : Type} {enc : TypeId × Value → H} {P : Program} {w : World} {base : Nat} {held : Bool} {α : Type}
/-- Whatever reads as a datum of type t (at this depth) is a value of kind d. -/
def OpensAt (enc : TypeId × Value → H) (P : Program) (w : World) (base : Nat) (held : Bool) (n : Nat) (t : TypeId) (d : Kd α) (wf : α → Prop) : Prop :=
  ∀ cs x, DataW.trod enc P w base (fun _ => true) held n t cs = some x → ∃ a, d.K w a cs ∧ wf a
theorem opens_int (n : Nat) {t : TypeId} {k : IntKind} (ht : P.underlying t = some (.int k)) : OpensAt enc P w base held n t (Kd.int k) (fun a => (Lit.int k a).wf = true) := fun cs x h => by
  obtain ⟨a, rfl, _, hw⟩ := DataW.trod_int ht h
  exact ⟨a, rfl, hw⟩
theorem list_upto {Q : Nat → α → Prop} : ∀ n, (∀ i, i < n → ∃ y, Q i y) → ∃ xs : List α, xs.length = n ∧ ∀ (i : Nat) (y : α), xs[i]? = some y → Q i y
  | 0, _ => ⟨[], rfl, fun i y h => by simp at h⟩
  | n + 1, h => by
    obtain ⟨xs, hl, hx⟩ := list_upto n (fun i hi => h i (by omega))
    obtain ⟨y, hy⟩ := h n (by omega)
    refine ⟨xs ++ [y], by simp [hl], fun i z hz => ?_⟩
    by_cases e : i < xs.length
    · rw [List.getElem?_append_left e] at hz
      exact hx i z hz
    · rw [List.getElem?_append_right (by omega)] at hz
      have : i - xs.length = 0 := by
        have := (List.getElem?_eq_some_iff.1 hz).1
        simp at this
        omega
      rw [this] at hz
      obtain rfl : y = z := by simpa using hz
      obtain rfl : i = n := by omega
      exact hy
theorem opens_slice (n : Nat) {t e : TypeId} {d : Kd α} {wf : α → Prop} (ht : P.underlying t = some (.slice e)) (hc : P.cellsOf e = d.sz) (he : OpensAt enc P w base held n e d wf) :
    OpensAt enc P w base held (n + 1) t (Kd.slice e d) (fun xs => xs.length ≤ 9223372036854775807 ∧ ∀ x ∈ xs, wf x) := fun cs x h => by
  rcases DataW.trod_slice ht h with ⟨rfl, _⟩ | ⟨a, len, cap, elems, rest, m, hn, rfl, _, _, hl, hm, hlen, hel, _, _⟩
  · exact ⟨[], ⟨none, 0, rfl, Nat.le_refl _, ⟨rfl, by simp, fun h => absurd h (by simp)⟩⟩, by simp⟩
  · obtain rfl : n = m := by omega
    obtain ⟨xs, hxl, hx⟩ := list_upto (Q := fun i y => (∃ c : List Value, c.length = d.sz ∧ d.K w y c ∧ ∀ j u, c[j]? = some u → w.cell? (a.add (i * d.sz + j)) = some u) ∧ wf y) len (fun i hi => by
      have h1 := hel i hi
      rw [List.getElem?_eq_getElem (by omega)] at h1
      obtain ⟨c, hc1, hc2⟩ := Option.bind_eq_some_iff.1 h1
      obtain ⟨y, hy, hw⟩ := he c _ hc2
      obtain ⟨_, hcl, hcc⟩ := World.cells?_some hc1
      refine ⟨y, ⟨c, by rw [hcl, hc], hy, fun j u hu => ?_⟩, hw⟩
      have hj : j < P.cellsOf e := by rw [← hcl]; exact (List.getElem?_eq_some_iff.1 hu).1
      have h2 := hcc j hj
      rw [hu, hc] at h2
      rw [← h2, Addr.add_add])
    subst hxl
    unfold maxLen at hm
    refine ⟨xs, ⟨some a, cap, rfl, hl, ⟨rfl, by omega, fun _ => ⟨a, rfl, fun j p hj => (hx j p hj).1⟩⟩⟩, by omega, fun y hy => ?_⟩
    obtain ⟨i, hi⟩ := List.mem_iff_getElem?.1 hy
    exact (hx i y hi).2
/-- At any depth. -/
theorem OpensAt.any {t : TypeId} {d : Kd α} {wf : α → Prop} (h : ∀ n, OpensAt enc P w base held n t d wf) {v : Value} {y : DataW H} {p : List MemPlace} (hv : DataW.Trod enc P w base (fun _ => true) held t v y p) : ∃ a, d.K w a v.cells.toList ∧ wf a := by
  obtain ⟨fuel, hf⟩ := hv
  exact h fuel _ _ hf
theorem opens_slice_any {t e : TypeId} {d : Kd α} {wf : α → Prop} (ht : P.underlying t = some (.slice e)) (hc : P.cellsOf e = d.sz) (he : ∀ n, OpensAt enc P w base held n e d wf) : ∀ n, OpensAt enc P w base held n t (Kd.slice e d) (fun xs => xs.length ≤ 9223372036854775807 ∧ ∀ x ∈ xs, wf x)
  | 0 => fun cs x h => by simp [DataW.trod] at h
  | n + 1 => opens_slice n ht hc (he n)
end

end Go.Proofs.Ytjpbemomocccaaa.P

namespace Go.Proofs.Ytjpbemomocccaaa.P
open Go.RowKit Go.Proofs.YtjpbemomocccaaaW.PrintWords Go.Proofs.YtjpbemomocccaaaW.PrintLast Go.Proofs.YtjpbemomocccaaaW.PrintMore
attribute [local go_sem] max2_int min2_int max_two min_two max_three min_three max_four min_four
set_option linter.unusedVariables false
set_option linter.unusedSimpArgs false

def wfS24 (x : S24) : Prop := ((Lit.int .i64 x.f0).wf = true) ∧ ((Lit.int .i64 x.f1).wf = true) ∧ (x.f2.length ≤ 9223372036854775807 ∧ ∀ y12_ ∈ x.f2, y12_.length ≤ 9223372036854775807 ∧ ∀ y7_ ∈ y12_, (Lit.int .i64 y7_).wf = true)
theorem list_of_24 {α : Type} {l : List α} (h : l.length = 3) : ∃ c0 c1 c2, l = [c0, c1, c2] := by
  match l, h with
  | [c0, c1, c2], _ => exact ⟨c0, c1, c2, rfl⟩
theorem opensS24 {H : Type} {enc : TypeId × Value → H} {w : World} {base : Nat} {held : Bool} : ∀ n, OpensAt enc Try.prog w base held n 24 k24 wfS24
  | 0 => fun cs x h => by simp [DataW.trod] at h
  | n + 1 => fun cs x h => by
    obtain ⟨xs, m, hm, _, hl, hlen, hf⟩ := DataW.trod_struct Try.underlying24 h
    obtain rfl : n = m := by omega
    rw [show Try.prog.cellsOf 24 = 3 from by kernel_rfl] at hl
    obtain ⟨c0, c1, c2, rfl⟩ := list_of_24 hl
    have h0 : DataW.trod enc Try.prog w base (fun _ => true) held (n) 2 [c0] = xs[0]? := by
        have q := hf 0 _ rfl
        simpa [show Try.prog.cellsOf 2 = 1 from by kernel_rfl] using q
    rw [List.getElem?_eq_getElem (by rw [hlen]; decide)] at h0
    obtain ⟨a0, e0, w0⟩ := (fun n => opens_int n Try.underlying2) (n) _ _ h0
    cases e0
    have h1 : DataW.trod enc Try.prog w base (fun _ => true) held (n) 2 [c1] = xs[1]? := by
        have q := hf 1 _ rfl
        simpa [show Try.prog.cellsOf 2 = 1 from by kernel_rfl] using q
    rw [List.getElem?_eq_getElem (by rw [hlen]; decide)] at h1
    obtain ⟨a1, e1, w1⟩ := (fun n => opens_int n Try.underlying2) (n) _ _ h1
    cases e1
    have h2 : DataW.trod enc Try.prog w base (fun _ => true) held (n) 22 [c2] = xs[2]? := by
        have q := hf 2 _ rfl
        simpa [show Try.prog.cellsOf 22 = 1 from by kernel_rfl] using q
    rw [List.getElem?_eq_getElem (by rw [hlen]; decide)] at h2
    obtain ⟨a2, ⟨A2, n2, e2, l2, g2⟩, w2⟩ := (opens_slice_any Try.underlying22 (by kernel_rfl) (opens_slice_any Try.underlying35 (by kernel_rfl) (fun n => opens_int n Try.underlying2))) (n) _ _ h2
    cases e2
    exact ⟨⟨a0, a1, a2⟩, k24_mk w ⟨a0, a1, a2⟩ l2 g2, w0, w1, w2⟩

end Go.Proofs.Ytjpbemomocccaaa.P

namespace Go.Proofs.Ytjpbemomocccaaa.P
open Go.RowKit Go.Proofs.YtjpbemomocccaaaW.PrintWords Go.Proofs.YtjpbemomocccaaaW.PrintLast Go.Proofs.YtjpbemomocccaaaW.PrintMore
attribute [local go_sem] max2_int min2_int max_two min_two max_three min_three max_four min_four
set_option linter.unusedVariables false
set_option linter.unusedSimpArgs false

def laws_FnExactInverseOf.Way0 (x0 : S24) : Prop := ∃ k : Nat, ∃ (s2 : Int), (laws_szMatrix.f k x0.f0 x0.f1 x0.f2 1048576 = some s2) ∧ (decide (s2 < 0) = true)
def laws_FnExactInverseOf.Way1 (x0 : S24) : Prop := ∃ k : Nat, ∃ (s2 : Int) (r18 : Int) (r19 : Int) (r20 : List (List Int)) (r21 : Int) (m117 : Int) (ys118 : List (List Int)) (m156 : Int) (ys157 : List (List Int)), (laws_szMatrix.f k x0.f0 x0.f1 x0.f2 1048576 = some s2) ∧ (decide (s2 < 0) = false) ∧ (laws_toMatrix.f k x0.f0 x0.f1 x0.f2 = some (x0.f0, x0.f1, x0.f2)) ∧ (spec_InverseOf.f k x0.f0 x0.f1 x0.f2 = some (r18, r19, r20, r21)) ∧ (laws_toMatrix.f k x0.f0 x0.f1 x0.f2 = some (x0.f0, x0.f1, x0.f2)) ∧ (impl_InverseOf.f k x0.f0 x0.f1 x0.f2 = some (r18, r19, r20, r21)) ∧ (laws_eqMatrix.f k r18 r19 r20 r18 r19 r20 = some true) ∧ (laws_toMatrix.f k x0.f0 x0.f1 x0.f2 = some (x0.f0, x0.f1, x0.f2)) ∧ (laws_eqMatrix.f k x0.f0 x0.f1 x0.f2 x0.f0 x0.f1 x0.f2 = some true) ∧ (laws_markMatrix.f k x0.f0 x0.f1 x0.f2 1 = some (m117, ys118)) ∧ (decide (m117 < 0) = false) ∧ (laws_eqMatrix.f k r18 r19 r20 r18 r19 r20 = some true) ∧ (laws_markMatrix.f k r18 r19 r20 1 = some (m156, ys157)) ∧ (laws_heldMatrix.f k r18 r19 ys157 1 = some m156) ∧ (decide (m156 < 0) = false) ∧ (laws_toMatrix.f k x0.f0 x0.f1 x0.f2 = some (x0.f0, x0.f1, x0.f2)) ∧ (impl_InverseOf.f k x0.f0 x0.f1 x0.f2 = some (r18, r19, r20, r21)) ∧ (laws_eqMatrix.f k r18 r19 r20 r18 r19 r20 = some true) ∧ (laws_heldMatrix.f k r18 r19 ys157 1 = some m156) ∧ (decide (m156 < 0) = false)
def laws_FnExactInverseOf.Pure : Prop := ∀ (x0 : S24), wfS24 x0 → laws_FnExactInverseOf.Way0 x0 ∨ laws_FnExactInverseOf.Way1 x0
theorem laws_FnExactInverseOf.walk (P : laws_FnExactInverseOf.Pure) (x0 : S24) (A0_2 : Option Addr) (c0_2 : Nat) (w : World) (hr0_2 : Kd.C (Kd.slice 2 (Kd.int .i64)) w A0_2 x0.f2.length x0.f2) (hc0_2 : x0.f2.length ≤ c0_2) (wf0 : wfS24 x0) :
    Calls Try.prog 5 #[.agg #[.int .i64 x0.f0, .int .i64 x0.f1, .slice A0_2 x0.f2.length c0_2]] w fun e w' => e = .returned (.bool true) ∧ Below w.heap.size w w' := by
  rcases P x0 wf0 with h | h
  · obtain ⟨k, s2, A3, t9⟩ := h
    exact laws_FnExactInverseOf.way0 k x0.f0 x0.f1 _ _ x0.f2 s2 w hr0_2 hc0_2 A3 t9
  · obtain ⟨k, s2, r18, r19, r20, r21, m117, ys118, m156, ys157, A3, t9, A10, A22, A31, A44, A61, A79, A99, A119, t137, A138, A158, A176, t194, A195, A215, A236, A258, t280⟩ := h
    exact laws_FnExactInverseOf.way1 k x0.f0 x0.f1 _ _ x0.f2 s2 r18 r19 r20 r21 m117 ys118 m156 ys157 w hr0_2 hc0_2 A3 t9 A10 A22 A31 A44 A61 A79 A99 A119 t137 A138 A158 A176 t194 A195 A215 A236 A258 t280

end Go.Proofs.Ytjpbemomocccaaa.P

namespace Go.Proofs.Ytjpbemomocccaaa.P
open Go.RowKit Go.Proofs.YtjpbemomocccaaaW.PrintWords Go.Proofs.YtjpbemomocccaaaW.PrintLast Go.Proofs.YtjpbemomocccaaaW.PrintMore
attribute [local go_sem] max2_int min2_int max_two min_two max_three min_three max_four min_four
set_option linter.unusedVariables false
set_option linter.unusedSimpArgs false

theorem toInt64S_loop (l : List Int) (hl : l.length ≤ 1048576) : ∀ (d i : Nat), i + d = l.length → Ev (fun k => laws_toInt64S.l0 k l (l.take i ++ List.replicate d 0) (i : Int)) l := by
  intro d
  induction d with
  | zero =>
    intro i hi
    refine Ev.step (f := fun _ => some l) (fun k => ?_) (Ev.now _)
    simp only [laws_toInt64S.l0]
    rw [if_neg (by omega)]
    simp [List.take_of_length_le (show l.length ≤ i by omega)]
  | succ d ih =>
    intro i hi
    have hlt : i < l.length := by omega
    refine Ev.step (fun k => ?_) (ih (i + 1) (by omega))
    simp only [laws_toInt64S.l0]
    rw [if_pos (by omega), if_pos (by omega), if_pos (by simp; omega), wr (by omega) (by omega), rd_nat l i hlt]
    have e : (l.take i ++ List.replicate (d + 1) 0).set ((i : Int)).toNat l[i] = l.take (i + 1) ++ List.replicate d 0 := by
      have e0 : (l.take i).length = i := by rw [List.length_take]; omega
      rw [Int.toNat_natCast, List.set_append_right _ _ (by omega), e0, Nat.sub_self, List.replicate_succ, List.set_cons_zero, List.take_succ_eq_append_getElem hlt, List.append_assoc]
      rfl
    rw [e]
    rfl
theorem toInt64S_ev (l : List Int) (hl : l.length ≤ 1048576) : Ev (fun k => laws_toInt64S.f k l) l := by
  unfold laws_toInt64S.f
  simp only [if_pos (show (0 : Int) ≤ (l.length : Int) by omega), if_pos (show ((l.length : Int)).toNat ≤ 35184372088832 by omega)]
  have := toInt64S_loop l hl l.length 0 (by omega)
  rw [List.take_zero, List.nil_append] at this
  rw [Int.toNat_natCast]
  exact this
theorem eqInt64S_loop (a b : List Int) (hl : a.length ≤ 1048576) (hab : a.length = b.length) : ∀ (d i : Nat), i + d = a.length → Ev (fun k => laws_eqInt64S.l0 k a b (i : Int)) (decide (a.drop i = b.drop i)) := by
  intro d
  induction d with
  | zero =>
    intro i hi
    refine Ev.step (f := fun _ => some true) (fun k => ?_) ?_
    · simp only [laws_eqInt64S.l0]
      rw [if_neg (by omega)]
    · rw [List.drop_eq_nil_of_le (by omega), List.drop_eq_nil_of_le (by omega), decide_eq_true rfl]
      exact Ev.now _
  | succ d ih =>
    intro i hi
    have h1 : i < a.length := by omega
    have h2 : i < b.length := by omega
    have ed : (a.drop i = b.drop i) ↔ (a[i] = b[i] ∧ a.drop (i + 1) = b.drop (i + 1)) := by
      rw [List.drop_eq_getElem_cons h1, List.drop_eq_getElem_cons h2, List.cons.injEq]
    by_cases e : a[i] = b[i]
    · rw [show decide (a.drop i = b.drop i) = decide (a.drop (i + 1) = b.drop (i + 1)) from by simp only [ed, e, true_and]]
      refine Ev.step (fun k => ?_) (ih (i + 1) (by omega))
      simp only [laws_eqInt64S.l0]
      rw [if_pos (by omega), if_pos (by omega), if_pos (by omega), rd_nat a i h1, rd_nat b i h2, if_pos e, wr (by omega) (by omega)]
      rfl
    · refine Ev.step (f := fun _ => some false) (fun k => ?_) ?_
      · simp only [laws_eqInt64S.l0]
        rw [if_pos (by omega), if_pos (by omega), if_pos (by omega), rd_nat a i h1, rd_nat b i h2, if_neg e]
      · rw [decide_eq_false (by rw [ed]; simp [e])]
        exact Ev.now _
theorem eqInt64S_ev (a b : List Int) (hl : a.length ≤ 1048576) : Ev (fun k => laws_eqInt64S.f k a b) (decide (a = b)) := by
  unfold laws_eqInt64S.f
  by_cases h : a.length = b.length
  · simp only [if_pos (show (a.length : Int) = (b.length : Int) by omega)]
    have := eqInt64S_loop a b hl h a.length 0 (by omega)
    rw [List.drop_zero, List.drop_zero] at this
    exact this
  · simp only [if_neg (show ¬ (a.length : Int) = (b.length : Int) by omega)]
    rw [decide_eq_false (by intro e; exact h (by rw [e]))]
    exact Ev.now _
def before (l : List Int) (i : Nat) : Option Int := if i = 0 then none else l[i - 1]?
end Go.Proofs.Ytjpbemomocccaaa.P

namespace Go.Proofs.Ytjpbemomocccaaa.P
open Go.RowKit Go.Proofs.YtjpbemomocccaaaW.PrintWords Go.Proofs.YtjpbemomocccaaaW.PrintLast Go.Proofs.YtjpbemomocccaaaW.PrintMore
attribute [local go_sem] max2_int min2_int max_two min_two max_three min_three max_four min_four
set_option linter.unusedVariables false
set_option linter.unusedSimpArgs false

/-- A loop that goes on while q says yes, and ends with stop where it says no. -/
theorem scan_ev {ρ : Type} {l : Nat → Int → Option ρ} {n : Nat} {q : Nat → Bool} {fin stop : ρ}
    (hgo : ∀ i : Nat, i < n → q i = true → ∀ r, Ev (fun k => l k ((i + 1 : Nat) : Int)) r → Ev (fun k => l k (i : Int)) r)
    (hstop : ∀ i : Nat, i < n → q i = false → Ev (fun k => l k (i : Int)) stop)
    (hend : Ev (fun k => l k (n : Int)) fin) : Ev (fun k => l k 0) (if (List.range n).all q then fin else stop) := by
  have key : ∀ d i : Nat, i + d = n → Ev (fun k => l k (i : Int)) (if ((List.range n).drop i).all q then fin else stop) := by
    intro d
    induction d with
    | zero =>
      intro i hi
      obtain rfl : i = n := by omega
      rw [List.drop_eq_nil_of_le (by simp)]
      exact hend
    | succ d ih =>
      intro i hi
      rw [List.drop_eq_getElem_cons (by simp; omega), List.getElem_range, List.all_cons]
      cases hq : q i with
      | false => exact hstop i (by omega) hq
      | true => rw [Bool.true_and]; exact hgo i (by omega) hq _ (ih (i + 1) (by omega))
  have := key n 0 (by omega)
  rw [List.drop_zero] at this
  exact this
theorem range_all {α : Type} (xs : List α) (p : α → Bool) (q : Nat → Bool) (h : ∀ (i : Nat) (hi : i < xs.length), q i = p xs[i]) : (List.range xs.length).all q = xs.all p := by
  rw [Bool.eq_iff_iff, List.all_eq_true, List.all_eq_true]
  constructor
  · intro hq x hx
    obtain ⟨i, hi, rfl⟩ := List.getElem_of_mem hx
    rw [← h i hi]
    exact hq i (by simpa using hi)
  · intro hp i hi
    have hi' : i < xs.length := by simpa using hi
    rw [h i hi']
    exact hp _ (List.getElem_mem hi')
theorem rdL_nat (xs : List (List Int)) (i : Nat) (h : i < xs.length) : rd_L1 xs (i : Int) = xs[i] := by
  simp [rd_L1, h]
/-- How many values a list of lists holds, the lists themselves counted. -/
def bulk (rows : List (List Int)) : Nat := rows.length + (rows.map List.length).sum
theorem sum_take_le (l : List Nat) (i : Nat) : (l.take i).sum ≤ l.sum := by
  conv => rhs; rw [← List.take_append_drop i l, List.sum_append]
  omega
theorem sum_take_succ (l : List Nat) (i : Nat) (h : i < l.length) : (l.take (i + 1)).sum = (l.take i).sum + l[i] := by
  rw [List.take_succ_eq_append_getElem h, List.sum_append]; simp
theorem sum_mem_le (l : List Nat) (x : Nat) (h : x ∈ l) : x ≤ l.sum := by
  obtain ⟨i, hi, rfl⟩ := List.getElem_of_mem h
  have := sum_take_succ l i hi
  have := sum_take_le l (i + 1)
  omega
theorem szInt64S_eq (l : List Int) (a : Int) (ha : 0 ≤ a ∧ a ≤ 1048576) (hl : l.length ≤ 9223372036854775807) : laws_szInt64S.f l a = some (if (l.length : Int) ≤ a then a - l.length else -1) := by
  unfold laws_szInt64S.f
  rw [wr (by omega) (by omega)]
  by_cases h : (l.length : Int) ≤ a
  · rw [if_neg (by omega), if_pos h]
  · rw [if_pos (by omega), if_neg h]
theorem szInt64SS_ev (rows : List (List Int)) (a : Int) (ha : 0 ≤ a ∧ a ≤ 1048576) (hl : rows.length ≤ 9223372036854775807) (hr : ∀ r ∈ rows, r.length ≤ 9223372036854775807) :
    Ev (fun k => laws_szInt64SS.f k rows a) (if (bulk rows : Int) ≤ a then a - bulk rows else -1) := by
  unfold laws_szInt64SS.f
  rw [wr (by omega) (by omega)]
  by_cases h0 : a - (rows.length : Int) < 0
  · simp only [if_pos h0]
    rw [if_neg (by unfold bulk; omega)]
    exact Ev.now _
  · simp only [if_neg h0]
    have key : ∀ d i : Nat, i + d = rows.length → ∀ b : Int, 0 ≤ b → b = a - rows.length - ((rows.map List.length).take i).sum → Ev (fun k => laws_szInt64SS.l0 k rows b (i : Int)) (if (bulk rows : Int) ≤ a then a - bulk rows else -1) := by
      intro d
      induction d with
      | zero =>
        intro i hi b hb hbe
        rw [List.take_of_length_le (by simp; omega)] at hbe
        rw [if_pos (by unfold bulk; omega), show a - ((bulk rows : Nat) : Int) = b from by unfold bulk; omega]
        refine Ev.step (f := fun _ => some b) (fun k => ?_) (Ev.now _)
        simp only [laws_szInt64SS.l0]
        rw [if_neg (by omega)]
      | succ d ih =>
        intro i hi b hb hbe
        have hlt : i < rows.length := by omega
        have hs := sum_take_succ (rows.map List.length) i (by simpa using hlt)
        rw [List.getElem_map] at hs
        have hs2 := sum_take_le (rows.map List.length) (i + 1)
        have hri := hr _ (List.getElem_mem hlt)
        by_cases hc : ((rows[i]).length : Int) ≤ b
        · refine Ev.step (fun k => ?_) (ih (i + 1) (by omega) (b - (rows[i]).length) (by omega) (by omega))
          simp only [laws_szInt64SS.l0]
          rw [if_pos (by omega), if_pos (by omega), rdL_nat rows i hlt, szInt64S_eq _ _ (by omega) hri, if_pos hc, wr (x := (i : Int) + 1) (by omega) (by omega)]
          simp only [Option.bind_some]
          rw [if_neg (by omega)]
          rfl
        · refine Ev.step (f := fun _ => some (-1)) (fun k => ?_) ?_
          · simp only [laws_szInt64SS.l0]
            rw [if_pos (by omega), if_pos (by omega), rdL_nat rows i hlt, szInt64S_eq _ _ (by omega) hri, if_neg hc]
            rfl
          · rw [if_neg (by unfold bulk; omega)]
            exact Ev.now _
    exact key rows.length 0 (by omega) _ (by omega) (by simp)
theorem bulk_len {rows : List (List Int)} {n : Nat} (h : bulk rows ≤ n) : rows.length ≤ n ∧ ∀ r ∈ rows, r.length ≤ n := by
  unfold bulk at h
  refine ⟨by omega, fun r hr => ?_⟩
  have := sum_mem_le (rows.map List.length) r.length (List.mem_map_of_mem hr)
  omega
theorem toInt64SS_ev (l : List (List Int)) (hl : l.length ≤ 1048576) (hr : ∀ r ∈ l, r.length ≤ 1048576) : Ev (fun k => laws_toInt64SS.f k l) l := by
  unfold laws_toInt64SS.f
  simp only [if_pos (show (0 : Int) ≤ (l.length : Int) by omega), if_pos (show ((l.length : Int)).toNat ≤ 11728124029610 by omega)]
  have go : ∀ (d i : Nat), i + d = l.length → Ev (fun k => laws_toInt64SS.l0 k l (l.take i ++ List.replicate d []) (i : Int)) l := by
    intro d
    induction d with
    | zero =>
      intro i hi
      refine Ev.step (f := fun _ => some l) (fun k => ?_) (Ev.now _)
      simp only [laws_toInt64SS.l0]
      rw [if_neg (by omega)]
      simp [List.take_of_length_le (show l.length ≤ i by omega)]
    | succ d ih =>
      intro i hi
      have hlt : i < l.length := by omega
      refine Ev.step (f := fun k => (laws_toInt64S.f k l[i]).bind fun t => laws_toInt64SS.l0 k l ((l.take i ++ List.replicate (d + 1) []).set i t) ((i + 1 : Nat) : Int)) (fun k => ?_) ?_
      · simp only [laws_toInt64SS.l0]
        rw [if_pos (by omega), if_pos (by omega), rdL_nat l i hlt, wr (by omega) (by omega)]
        simp only [if_pos (show (i : Int) < ((l.take i ++ List.replicate (d + 1) ([] : List Int)).length : Int) by simp; omega), Int.toNat_natCast]
        rfl
      · refine Ev.bind (toInt64S_ev _ (hr _ (List.getElem_mem hlt))) ?_
        have e0 : (l.take i).length = i := by rw [List.length_take]; omega
        have e : (l.take i ++ List.replicate (d + 1) []).set i l[i] = l.take (i + 1) ++ List.replicate d [] := by
          rw [List.set_append_right _ _ (by omega), e0, Nat.sub_self, List.replicate_succ, List.set_cons_zero, List.take_succ_eq_append_getElem hlt, List.append_assoc]
          rfl
        rw [e]
        exact ih (i + 1) (by omega)
  have := go l.length 0 (by omega)
  rw [List.take_zero, List.nil_append] at this
  rw [Int.toNat_natCast]
  exact this
theorem eqInt64SS_ev (a b : List (List Int)) (hl : a.length ≤ 1048576) (hr : ∀ r ∈ a, r.length ≤ 1048576) : Ev (fun k => laws_eqInt64SS.f k a b) (decide (a = b)) := by
  unfold laws_eqInt64SS.f
  by_cases h : a.length = b.length
  · simp only [if_pos (show (a.length : Int) = (b.length : Int) by omega)]
    have key : ∀ (d i : Nat), i + d = a.length → Ev (fun k => laws_eqInt64SS.l0 k a b (i : Int)) (decide (a.drop i = b.drop i)) := by
      intro d
      induction d with
      | zero =>
        intro i hi
        refine Ev.step (f := fun _ => some true) (fun k => ?_) ?_
        · simp only [laws_eqInt64SS.l0]
          rw [if_neg (by omega)]
        · rw [List.drop_eq_nil_of_le (by omega), List.drop_eq_nil_of_le (by omega), decide_eq_true rfl]
          exact Ev.now _
      | succ d ih =>
        intro i hi
        have h1 : i < a.length := by omega
        have h2 : i < b.length := by omega
        have ed : (a.drop i = b.drop i) ↔ (a[i] = b[i] ∧ a.drop (i + 1) = b.drop (i + 1)) := by
          rw [List.drop_eq_getElem_cons h1, List.drop_eq_getElem_cons h2, List.cons.injEq]
        refine Ev.step (f := fun k => (laws_eqInt64S.f k a[i] b[i]).bind fun t => if t = true then laws_eqInt64SS.l0 k a b ((i + 1 : Nat) : Int) else some false) (fun k => ?_) ?_
        · simp only [laws_eqInt64SS.l0]
          rw [if_pos (by omega), if_pos (by omega), if_pos (by omega), rdL_nat a i h1, rdL_nat b i h2, wr (by omega) (by omega)]
          rfl
        · refine Ev.bind (eqInt64S_ev _ _ (hr _ (List.getElem_mem h1))) ?_
          by_cases e : a[i] = b[i]
          · rw [decide_eq_true e, show decide (a.drop i = b.drop i) = decide (a.drop (i + 1) = b.drop (i + 1)) from by simp only [ed, e, true_and]]
            exact ih (i + 1) (by omega)
          · rw [decide_eq_false e, decide_eq_false (by rw [ed]; simp [e])]
            exact Ev.now _
    have := key a.length 0 (by omega)
    rw [List.drop_zero, List.drop_zero] at this
    exact this
  · simp only [if_neg (show ¬ (a.length : Int) = (b.length : Int) by omega)]
    rw [decide_eq_false (by intro e; exact h (by rw [e]))]
    exact Ev.now _
theorem eqInt64SS_same (a : List (List Int)) (hl : a.length ≤ 1048576) (hr : ∀ r ∈ a, r.length ≤ 1048576) : Ev (fun k => laws_eqInt64SS.f k a a) true := by
  have := eqInt64SS_ev a a hl hr
  rwa [decide_eq_true rfl] at this
theorem szMatrix_ev (p c : Int) (rows : List (List Int)) (a : Int) (ha : 0 ≤ a ∧ a ≤ 1048576) (hl : rows.length ≤ 9223372036854775807) (hr : ∀ r ∈ rows, r.length ≤ 9223372036854775807) :
    Ev (fun k => laws_szMatrix.f k p c rows a) (if (bulk rows : Int) ≤ a then a - bulk rows else -1) := by
  unfold laws_szMatrix.f
  refine Ev.bind (szInt64SS_ev rows a ha hl hr) ?_
  by_cases h : (bulk rows : Int) ≤ a
  · simp only [if_pos h, if_neg (show ¬ (a - (bulk rows : Int) < 0) by omega)]
    exact Ev.now _
  · simp only [if_neg h]
    exact Ev.now _
theorem toMatrix_ev (p c : Int) (l : List (List Int)) (hl : l.length ≤ 1048576) (hr : ∀ r ∈ l, r.length ≤ 1048576) : Ev (fun k => laws_toMatrix.f k p c l) (p, c, l) := by
  unfold laws_toMatrix.f
  exact Ev.bind (toInt64SS_ev l hl hr) (Ev.now _)
theorem eqMatrix_same (p c : Int) (l : List (List Int)) (hl : l.length ≤ 1048576) (hr : ∀ r ∈ l, r.length ≤ 1048576) : Ev (fun k => laws_eqMatrix.f k p c l p c l) true := by
  unfold laws_eqMatrix.f
  simp only [if_true]
  refine Ev.bind (eqInt64SS_same l hl hr) ?_
  simp only [if_true]
  exact Ev.now _

end Go.Proofs.Ytjpbemomocccaaa.P

namespace Go.Proofs.Ytjpbemomocccaaa.P
open Go.RowKit Go.Proofs.YtjpbemomocccaaaW.PrintWords Go.Proofs.YtjpbemomocccaaaW.PrintLast Go.Proofs.YtjpbemomocccaaaW.PrintMore
attribute [local go_sem] max2_int min2_int max_two min_two max_three min_three max_four min_four
set_option linter.unusedVariables false
set_option linter.unusedSimpArgs false

/-- What holds from some number of rounds on. -/
def From (P : Nat → Prop) : Prop := ∃ K, ∀ k, K ≤ k → P k
theorem From.and {P Q : Nat → Prop} (hp : From P) (hq : From Q) : From fun k => P k ∧ Q k := by
  obtain ⟨K, hK⟩ := hp
  obtain ⟨L, hL⟩ := hq
  exact ⟨max K L, fun k h => ⟨hK k (by omega), hL k (by omega)⟩⟩
theorem From.now {P : Nat → Prop} (h : From P) : ∃ k, P k := by
  obtain ⟨K, hK⟩ := h
  exact ⟨K, hK K (Nat.le_refl _)⟩
end Go.Proofs.Ytjpbemomocccaaa.P

namespace Go.Proofs.Ytjpbemomocccaaa.P
open Go.RowKit Go.Proofs.YtjpbemomocccaaaW.PrintWords Go.Proofs.YtjpbemomocccaaaW.PrintLast Go.Proofs.YtjpbemomocccaaaW.PrintMore
attribute [local go_sem] max2_int min2_int max_two min_two max_three min_three max_four min_four
set_option linter.unusedVariables false
set_option linter.unusedSimpArgs false

/-! ### laws_markScheme: function 44 (by hand) -/
end Go.Proofs.Ytjpbemomocccaaa.P

namespace Go.Proofs.Ytjpbemomocccaaa.P
open Go.RowKit Go.Proofs.YtjpbemomocccaaaW.PrintWords Go.Proofs.YtjpbemomocccaaaW.PrintLast Go.Proofs.YtjpbemomocccaaaW.PrintMore
attribute [local go_sem] max2_int min2_int max_two min_two max_three min_three max_four min_four
set_option linter.unusedVariables false
set_option linter.unusedSimpArgs false

/-! ### laws_heldScheme: function 45 -/
end Go.Proofs.Ytjpbemomocccaaa.P

namespace Go.Proofs.Ytjpbemomocccaaa.P
open Go.RowKit Go.Proofs.YtjpbemomocccaaaW.PrintWords Go.Proofs.YtjpbemomocccaaaW.PrintLast Go.Proofs.YtjpbemomocccaaaW.PrintMore
attribute [local go_sem] max2_int min2_int max_two min_two max_three min_three max_four min_four
set_option linter.unusedVariables false
set_option linter.unusedSimpArgs false

/-- The numbers from a on, n of them: what a mark leaves. -/
def upFrom (a : Int) (n : Nat) : List Int := (List.range n).map fun i : Nat => a + (i : Int)
theorem upFrom_length (a : Int) (n : Nat) : (upFrom a n).length = n := by simp [upFrom]
theorem upFrom_succ (a : Int) (n : Nat) : upFrom a (n + 1) = upFrom a n ++ [a + (n : Int)] := by simp [upFrom, List.range_succ]
/-- A loop that writes one place after another. -/
theorem markInt64S_ev (l : List Int) (a : Int) (ha : 0 ≤ a ∧ a ≤ 2147483648) (hl : l.length ≤ 4611686018427387904) : Ev (fun k => laws_markInt64S.f k l a) (a + (l.length : Int), upFrom a l.length) := by
  unfold laws_markInt64S.f
  have key : ∀ d i : Nat, i + d = l.length → Ev (fun k => laws_markInt64S.l0 k (upFrom a i ++ l.drop i) (a + (i : Int)) (i : Int)) (a + (l.length : Int), upFrom a l.length) := by
    intro d
    induction d with
    | zero =>
      intro i hi
      obtain rfl : i = l.length := by omega
      refine Ev.step (f := fun _ => some (a + (l.length : Int), upFrom a l.length)) (fun k => ?_) (Ev.now _)
      simp only [laws_markInt64S.l0]
      rw [if_neg (by simp [upFrom_length]), List.drop_length, List.append_nil]
    | succ d ih =>
      intro i hi
      have hlt : i < l.length := by omega
      refine Ev.step (fun k => ?_) (ih (i + 1) (by omega))
      simp only [laws_markInt64S.l0]
      rw [if_pos (by simp [upFrom_length]; omega), if_pos (by omega), wr (by omega) (by omega), wr (by omega) (by omega), Int.toNat_natCast, List.set_append_right _ _ (by rw [upFrom_length]; exact Nat.le_refl _), upFrom_length, Nat.sub_self, List.drop_eq_getElem_cons hlt, List.set_cons_zero, upFrom_succ, List.append_assoc]
      rw [show a + (i : Int) + 1 = a + ((i + 1 : Nat) : Int) by omega]
      rfl
  have := key l.length 0 (by omega)
  simpa [upFrom] using this
theorem heldInt64S_ev (a : Int) (n : Nat) (ha : 0 ≤ a ∧ a ≤ 2147483648) (hl : n ≤ 4611686018427387904) : Ev (fun k => laws_heldInt64S.f k (upFrom a n) a) (a + (n : Int)) := by
  unfold laws_heldInt64S.f
  have key : ∀ d i : Nat, i + d = n → Ev (fun k => laws_heldInt64S.l0 k (upFrom a n) (a + (i : Int)) (i : Int)) (a + (n : Int)) := by
    intro d
    induction d with
    | zero =>
      intro i hi
      obtain rfl : i = n := by omega
      refine Ev.step (f := fun _ => some (a + (i : Int))) (fun k => ?_) (Ev.now _)
      simp only [laws_heldInt64S.l0]
      rw [if_neg (by simp [upFrom_length])]
    | succ d ih =>
      intro i hi
      have hlt : i < (upFrom a n).length := by rw [upFrom_length]; omega
      refine Ev.step (fun k => ?_) (ih (i + 1) (by omega))
      simp only [laws_heldInt64S.l0]
      rw [if_pos (by simp [upFrom_length]; omega), if_pos (by omega), rd_nat _ i hlt, if_pos (by simp [upFrom]), wr (by omega) (by omega), wr (by omega) (by omega)]
      rw [show a + (i : Int) + 1 = a + ((i + 1 : Nat) : Int) by omega]
      rfl
  have := key n 0 (by omega)
  simpa using this
/-- How many values the first i rows hold. -/
def preLen (rows : List (List Int)) (i : Nat) : Nat := ((rows.map List.length).take i).sum
def allLen (rows : List (List Int)) : Nat := (rows.map List.length).sum
def upRow (a : Int) (rows : List (List Int)) (i : Nat) : List Int := upFrom (a + (preLen rows i : Int)) ((rows.map List.length).getD i 0)
/-- Rows as a mark leaves them. -/
def upRows (a : Int) (rows : List (List Int)) : List (List Int) := (List.range rows.length).map (upRow a rows)
theorem preLen_succ (rows : List (List Int)) (i : Nat) (h : i < rows.length) : preLen rows (i + 1) = preLen rows i + rows[i].length := by
  have := sum_take_succ (rows.map List.length) i (by simpa using h)
  rwa [List.getElem_map] at this
theorem preLen_le (rows : List (List Int)) (i : Nat) : preLen rows i ≤ allLen rows := sum_take_le _ _
theorem preLen_end (rows : List (List Int)) : preLen rows rows.length = allLen rows := by
  unfold preLen allLen
  rw [List.take_of_length_le (by simp)]
theorem upRows_length (a : Int) (rows : List (List Int)) : (upRows a rows).length = rows.length := by simp [upRows]
theorem upRow_eq (a : Int) (rows : List (List Int)) (i : Nat) (h : i < rows.length) : upRow a rows i = upFrom (a + (preLen rows i : Int)) rows[i].length := by
  unfold upRow
  rw [List.getD_eq_getElem?_getD, List.getElem?_map, List.getElem?_eq_getElem h]
  rfl
theorem markInt64SS_ev (rows : List (List Int)) (a : Int) (ha : 0 ≤ a ∧ a ≤ 1073741824) (hl : rows.length ≤ 1073741824) (hs : allLen rows ≤ 1073741824) : Ev (fun k => laws_markInt64SS.f k rows a) (a + (allLen rows : Int), upRows a rows) := by
  unfold laws_markInt64SS.f
  have key : ∀ d i : Nat, i + d = rows.length → Ev (fun k => laws_markInt64SS.l0 k ((List.range i).map (upRow a rows) ++ rows.drop i) (a + (preLen rows i : Int)) (i : Int)) (a + (allLen rows : Int), upRows a rows) := by
    intro d
    induction d with
    | zero =>
      intro i hi
      obtain rfl : i = rows.length := by omega
      refine Ev.step (f := fun _ => some (a + (allLen rows : Int), upRows a rows)) (fun k => ?_) (Ev.now _)
      simp only [laws_markInt64SS.l0]
      rw [if_neg (by simp), List.drop_length, List.append_nil, preLen_end]
      rfl
    | succ d ih =>
      intro i hi
      have hlt : i < rows.length := by omega
      have hp := preLen_succ rows i hlt
      have hp2 := preLen_le rows (i + 1)
      have hrow : rd_L1 ((List.range i).map (upRow a rows) ++ rows.drop i) (i : Int) = rows[i] := by
        rw [rdL_nat _ i (by simp; omega), List.getElem_append_right (by simp)]
        simp
      refine Ev.step (f := fun k => (laws_markInt64S.f k rows[i] (a + (preLen rows i : Int))).bind fun t => laws_markInt64SS.l0 k (((List.range i).map (upRow a rows) ++ rows.drop i).set i t.2) t.1 ((i + 1 : Nat) : Int)) (fun k => ?_) (Ev.bind (markInt64S_ev rows[i] _ (by omega) (by omega)) ?_)
      · simp only [laws_markInt64SS.l0]
        rw [if_pos (by simp; omega), if_pos (by omega), hrow, wr (by omega) (by omega), Int.toNat_natCast]
        rfl
      · have e : ((List.range i).map (upRow a rows) ++ rows.drop i).set i (upFrom (a + (preLen rows i : Int)) rows[i].length) = (List.range (i + 1)).map (upRow a rows) ++ rows.drop (i + 1) := by
          rw [List.set_append_right _ _ (by simp), List.length_map, List.length_range, Nat.sub_self, List.drop_eq_getElem_cons hlt, List.set_cons_zero, List.range_succ, List.map_append, List.append_assoc, ← upRow_eq a rows i hlt]
          rfl
        simp only [e]
        rw [show a + (preLen rows i : Int) + (rows[i].length : Int) = a + (preLen rows (i + 1) : Int) by omega]
        exact ih (i + 1) (by omega)
  have := key rows.length 0 (by omega)
  simpa [preLen] using this
theorem heldInt64SS_ev (rows : List (List Int)) (a : Int) (ha : 0 ≤ a ∧ a ≤ 1073741824) (hl : rows.length ≤ 1073741824) (hs : allLen rows ≤ 1073741824) : Ev (fun k => laws_heldInt64SS.f k (upRows a rows) a) (a + (allLen rows : Int)) := by
  unfold laws_heldInt64SS.f
  have key : ∀ d i : Nat, i + d = rows.length → Ev (fun k => laws_heldInt64SS.l0 k (upRows a rows) (a + (preLen rows i : Int)) (i : Int)) (a + (allLen rows : Int)) := by
    intro d
    induction d with
    | zero =>
      intro i hi
      obtain rfl : i = rows.length := by omega
      refine Ev.step (f := fun _ => some (a + (allLen rows : Int))) (fun k => ?_) (Ev.now _)
      simp only [laws_heldInt64SS.l0]
      rw [if_neg (by simp [upRows_length]), preLen_end]
    | succ d ih =>
      intro i hi
      have hlt : i < rows.length := by omega
      have hp := preLen_succ rows i hlt
      have hp2 := preLen_le rows (i + 1)
      have hlt' : i < (upRows a rows).length := by rw [upRows_length]; exact hlt
      have hrow : rd_L1 (upRows a rows) (i : Int) = upFrom (a + (preLen rows i : Int)) rows[i].length := by
        rw [rdL_nat _ i hlt', ← upRow_eq a rows i hlt]
        simp [upRows]
      refine Ev.step (f := fun k => (laws_heldInt64S.f k (upFrom (a + (preLen rows i : Int)) rows[i].length) (a + (preLen rows i : Int))).bind fun t => if t < 0 then some (-1) else laws_heldInt64SS.l0 k (upRows a rows) t ((i + 1 : Nat) : Int)) (fun k => ?_) (Ev.bind (heldInt64S_ev (a + (preLen rows i : Int)) rows[i].length (by omega) (by omega)) ?_)
      · simp only [laws_heldInt64SS.l0]
        rw [if_pos (by simp [upRows_length]; omega), if_pos (by omega), hrow, wr (by omega) (by omega)]
        rfl
      · simp only [if_neg (show ¬ (a + (preLen rows i : Int) + (rows[i].length : Int) < 0) by omega)]
        rw [show a + (preLen rows i : Int) + (rows[i].length : Int) = a + (preLen rows (i + 1) : Int) by omega]
        exact ih (i + 1) (by omega)
  have := key rows.length 0 (by omega)
  simpa [preLen] using this
theorem markMatrix_ev (p c : Int) (rows : List (List Int)) (a : Int) (ha : 0 ≤ a ∧ a ≤ 1073741824) (hl : rows.length ≤ 1073741824) (hs : allLen rows ≤ 1073741824) : Ev (fun k => laws_markMatrix.f k p c rows a) (a + (allLen rows : Int), upRows a rows) := by
  unfold laws_markMatrix.f
  exact markInt64SS_ev rows a ha hl hs
theorem heldMatrix_ev (p c : Int) (rows : List (List Int)) (a : Int) (ha : 0 ≤ a ∧ a ≤ 1073741824) (hl : rows.length ≤ 1073741824) (hs : allLen rows ≤ 1073741824) : Ev (fun k => laws_heldMatrix.f k p c (upRows a rows) a) (a + (allLen rows : Int)) := by
  unfold laws_heldMatrix.f
  refine Ev.bind (heldInt64SS_ev rows a ha hl hs) ?_
  simp only [if_neg (show ¬ (a + (allLen rows : Int) < 0) by omega)]
  exact Ev.now _
end Go.Proofs.Ytjpbemomocccaaa.P

namespace Go.Proofs.Ytjpbemomocccaaa.P
open Go.RowKit Go.Proofs.YtjpbemomocccaaaW.PrintWords Go.Proofs.YtjpbemomocccaaaW.PrintLast Go.Proofs.YtjpbemomocccaaaW.PrintMore
attribute [local go_sem] max2_int min2_int max_two min_two max_three min_three max_four min_four
set_option linter.unusedVariables false
set_option linter.unusedSimpArgs false

def grp (gs : List (List Int)) (i : Nat) : List Int := gs.getD i []
theorem grp_len {gs : List (List Int)} {m : Nat} (hr : ∀ r ∈ gs, r.length ≤ m) (i : Nat) : (grp gs i).length ≤ m := by
  unfold grp
  by_cases h : i < gs.length
  · rw [List.getD_eq_getElem?_getD, List.getElem?_eq_getElem h]; exact hr _ (List.getElem_mem h)
  · rw [List.getD_eq_getElem?_getD, List.getElem?_eq_none (by omega)]; exact Nat.zero_le _

end Go.Proofs.Ytjpbemomocccaaa.P
