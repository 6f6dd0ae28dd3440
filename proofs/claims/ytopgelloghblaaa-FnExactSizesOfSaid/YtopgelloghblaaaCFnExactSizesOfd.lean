/- For every scheme the program's SizesOf and the reference's answer alike, the argument stays, and the result is memory of its own. This text: the theorem of the row, and part 4 of what it rests on. -/
import Derived.Test.YtopgelloghblaaaCFnExactSizesOfc
import Derived.Below
import Derived.Carry
import Derived.ChangeOld
import Derived.OpenShut
import Derived.ProofKit
import Derived.ShutString
import Derived.SizedLaws
import Derived.Test.YtopgelloghblaaaRows
import Derived.WalkKit
namespace Go.Proofs.Ytopgelloghblaaa.P
open Go.RowKit Go.Proofs.YtopgelloghblaaaW.PrintWords Go.Proofs.YtopgelloghblaaaW.PrintLast Go.Proofs.YtopgelloghblaaaW.PrintMore
attribute [local go_sem] max2_int min2_int max_two min_two max_three min_three max_four min_four
set_option linter.unusedVariables false
set_option linter.unusedSimpArgs false

/-! ### spec_SameScheme: function 46 -/
def spec_SameScheme.f (k : Nat) (a0_0 : Int) (l0_1 : List Int) (a0_2 : Int) (a0_3 : Int) (l0_4 : List (List Int)) (a1_0 : Int) (l1_1 : List Int) (a1_2 : Int) (a1_3 : Int) (l1_4 : List (List Int)) : Option (Bool) := if a0_0 = a1_0 then ((spec_l00Same.f k l0_1 l1_1).bind fun t490 => (if t490 = true then ((spec_SameMatrix.f k a0_2 a0_3 l0_4 a1_2 a1_3 l1_4).bind fun t491 => (some t491)) else (some false))) else (some false)
theorem spec_SameScheme.mono : ∀ a0 a1 a2 a3 a4 a5 a6 a7 a8 a9 k, LeO (spec_SameScheme.f k a0 a1 a2 a3 a4 a5 a6 a7 a8 a9) (spec_SameScheme.f (k + 1) a0 a1 a2 a3 a4 a5 a6 a7 a8 a9) := by
  intro a0 a1 a2 a3 a4 a5 a6 a7 a8 a9 k
  unfold spec_SameScheme.f
  repeat' first
      | (with_reducible exact spec_SameMatrix.mono _ _ _ _ _ _ _)
      | (with_reducible exact spec_l00Same.mono _ _ _)
      | (with_reducible exact LeO.refl _)
      | (with_reducible exact LeO.none _)
      | (with_reducible refine LeO.ite ?_ ?_)
      | (with_reducible refine LeO.bind ?_ (fun _ => ?_))
      | exact spec_SameMatrix.mono _ _ _ _ _ _ _
      | exact spec_l00Same.mono _ _ _
      | exact LeO.none _
      | refine LeO.ite ?_ ?_
      | refine LeO.bind ?_ (fun _ => ?_)
set_option maxHeartbeats 8000000 in
set_option maxRecDepth 100000 in
theorem spec_SameScheme.calls (k : Nat) (a0_0 : Int) (A0_1 : Option Addr) (c0_1 : Nat) (l0_1 : List Int) (a0_2 : Int) (a0_3 : Int) (A0_4 : Option Addr) (c0_4 : Nat) (l0_4 : List (List Int)) (a1_0 : Int) (A1_1 : Option Addr) (c1_1 : Nat) (l1_1 : List Int) (a1_2 : Int) (a1_3 : Int) (A1_4 : Option Addr) (c1_4 : Nat) (l1_4 : List (List Int)) (r : Bool) (w : World) (hr0_1 : Kd.C (Kd.int .i64) w A0_1 l0_1.length l0_1) (hc0_1 : l0_1.length ≤ c0_1) (hr0_4 : Kd.C (Kd.slice 2 (Kd.int .i64)) w A0_4 l0_4.length l0_4) (hc0_4 : l0_4.length ≤ c0_4) (hr1_1 : Kd.C (Kd.int .i64) w A1_1 l1_1.length l1_1) (hc1_1 : l1_1.length ≤ c1_1) (hr1_4 : Kd.C (Kd.slice 2 (Kd.int .i64)) w A1_4 l1_4.length l1_4) (hc1_4 : l1_4.length ≤ c1_4) (h : spec_SameScheme.f k a0_0 l0_1 a0_2 a0_3 l0_4 a1_0 l1_1 a1_2 a1_3 l1_4 = some r) :
    Calls Try.prog 46 #[.agg #[.int .i64 a0_0, .slice A0_1 l0_1.length c0_1, .int .i64 a0_2, .int .i64 a0_3, .slice A0_4 l0_4.length c0_4], .agg #[.int .i64 a1_0, .slice A1_1 l1_1.length c1_1, .int .i64 a1_2, .int .i64 a1_3, .slice A1_4 l1_4.length c1_4]] w fun e w' => e = .returned (.bool r) ∧ Below w.heap.size w w' := by
  have hu48 := Try.underlying48
  have hu27 := Try.underlying27
  have HR0_1 := Aside0.mk hr0_1
  have HC0_1 := Aside0.mk hc0_1
  clear hr0_1 hc0_1
  have HR0_4 := Aside0.mk hr0_4
  have HC0_4 := Aside0.mk hc0_4
  clear hr0_4 hc0_4
  have HR1_1 := Aside0.mk hr1_1
  have HC1_1 := Aside0.mk hc1_1
  clear hr1_1 hc1_1
  have HR1_4 := Aside0.mk hr1_4
  have HC1_4 := Aside0.mk hc1_4
  clear hr1_4 hc1_4
  have HB := Aside0.mk (Below.refl w.heap.size w)
  have H : (if a0_0 = a1_0 then ((spec_l00Same.f k l0_1 l1_1).bind fun t490 => (if t490 = true then ((spec_SameMatrix.f k a0_2 a0_3 l0_4 a1_2 a1_3 l1_4).bind fun t491 => (some t491)) else (some false))) else (some false)) = some r := h
  clear h
  by_cases c3 : a0_0 = a1_0
  · rw [if_pos c3] at H
    have c3b0 : (a0_0 == a1_0) = true := beq_iff_eq.mpr c3
    have c3b1 : (a0_0 != a1_0) = false := bne_eq_false_iff_eq.mpr c3
    clear c3
    replace H := Option.bind_eq_some_iff.mp H
    obtain ⟨t490, A40, H⟩ := H
    replace H : (if t490 = true then ((spec_SameMatrix.f k a0_2 a0_3 l0_4 a1_2 a1_3 l1_4).bind fun t491 => (some t491)) else (some false)) = some r := H
    have A4 := Aside0.mk A40
    clear A40
    by_cases c5 : t490 = true
    · subst c5
      have H1 : ((spec_SameMatrix.f k a0_2 a0_3 l0_4 a1_2 a1_3 l1_4).bind fun t491 => (some t491)) = some r := by rw [if_pos rfl] at H; exact H
      clear H
      have H := H1
      clear H1
      replace H := Option.bind_eq_some_iff.mp H
      obtain ⟨t491, A60, H⟩ := H
      replace H : (some t491) = some r := H
      have A6 := Aside0.mk A60
      clear A60
      obtain rfl := Option.some.inj H
      go_enter Try.func46, Try.ntmps46
      go_wp2_with (first | ((with_reducible refine gate_dst (N := 2) rfl ?_); refine box_event ?hg (N := 2) ?hd (cs := #[.int .i64 a0_0, .slice A0_1 l0_1.length c0_1, .int .i64 a0_2, .int .i64 a0_3, .slice A0_4 l0_4.length c0_4]) (t := 48) ?hr ?_; (case hd => rfl); (case hg => rfl); (case hr => first | (go_simp; done) | (go_simp; rfl)); intro gb488 hg w7 hbox hb; have n0_ := Aside0.mk (below_step (by repeat (first | (with_reducible first | exact HB.out | apply below_alloc | apply pw_below_drewN | apply below_drew1) | exact HB.out)) hb); have n1_ := Aside0.mk (hbox); have n2_ := Aside0.mk ((by rw [hg]; exact (below_size (by repeat (first | (with_reducible first | exact HB.out | apply below_alloc | apply pw_below_drewN | apply below_drew1) | exact HB.out))) : w.heap.size ≤ gb488)); have n3_ := Aside0.mk ((by rw [hg]; exact (below_size (by repeat (first | (with_reducible first | exact HB.out | apply below_alloc | apply pw_below_drewN | apply below_drew1) | exact HB.out))) : w.heap.size ≤ gb488)); clear HB; have HB := n0_; have BK488 := n1_; have GW488 := n2_; have GE488 := n3_; clear n0_ n1_ n2_ n3_; clear hb hbox hg) | ((with_reducible refine gate_dst (N := 3) rfl ?_); refine box_event ?hg (N := 3) ?hd (cs := #[.int .i64 a1_0, .slice A1_1 l1_1.length c1_1, .int .i64 a1_2, .int .i64 a1_3, .slice A1_4 l1_4.length c1_4]) (t := 48) ?hr ?_; (case hd => rfl); (case hg => rfl); (case hr => first | (go_simp; done) | (go_simp; rfl)); intro gb489 hg w8 hbox hb; have n0_ := Aside0.mk (blk_below (g := gb488) (o := .cells #[.int .i64 a0_0, .slice A0_1 l0_1.length c0_1, .int .i64 a0_2, .int .i64 a0_3, .slice A0_4 l0_4.length c0_4] 48 (0, 0)) (by (with_reducible repeat (first | refine blk_drewN ?_ _ | refine blk_drew ?_ | refine blk_alloc ?_ _)); exact BK488.out) hb); have n1_ := Aside0.mk (below_step (by repeat (first | (with_reducible first | exact HB.out | apply below_alloc | apply pw_below_drewN | apply below_drew1 | refine below_set ?_ GE488.out) | exact HB.out)) hb); have n2_ := Aside0.mk (hbox); have n3_ := Aside0.mk ((by rw [hg]; exact (below_size (by repeat (first | (with_reducible first | exact HB.out | apply below_alloc | apply pw_below_drewN | apply below_drew1 | refine below_set ?_ GE488.out) | exact HB.out))) : w.heap.size ≤ gb489)); have n4_ := Aside0.mk ((by rw [hg]; exact (below_size (by repeat (first | (with_reducible first | exact HB.out | apply below_alloc | apply pw_below_drewN | apply below_drew1 | refine below_set ?_ GE488.out) | exact HB.out))) : w.heap.size ≤ gb489)); have n5_ := Aside0.mk ((by rw [hg]; exact Nat.ne_of_lt (blk_lt (g := gb488) (o := .cells #[.int .i64 a0_0, .slice A0_1 l0_1.length c0_1, .int .i64 a0_2, .int .i64 a0_3, .slice A0_4 l0_4.length c0_4] 48 (0, 0)) (by (with_reducible repeat (first | refine blk_drewN ?_ _ | refine blk_drew ?_ | refine blk_alloc ?_ _)); exact BK488.out)) : gb488 ≠ gb489)); have n6_ := Aside0.mk ((by rw [hg]; exact Nat.ne_of_gt (blk_lt (g := gb488) (o := .cells #[.int .i64 a0_0, .slice A0_1 l0_1.length c0_1, .int .i64 a0_2, .int .i64 a0_3, .slice A0_4 l0_4.length c0_4] 48 (0, 0)) (by (with_reducible repeat (first | refine blk_drewN ?_ _ | refine blk_drew ?_ | refine blk_alloc ?_ _)); exact BK488.out)) : gb489 ≠ gb488)); clear BK488; clear HB; have BK488 := n0_; have HB := n1_; have BK489 := n2_; have GW489 := n3_; have GE489 := n4_; have NB488_489 := n5_; have NB489_488 := n6_; clear n0_ n1_ n2_ n3_ n4_ n5_ n6_; clear hb hbox hg; have hnb9 := NB488_489.out; have hnc9 := NB489_488.out; have hcz10_0 : w8.cell? ⟨gb488, 0, none⟩ = some (.int .i64 a0_0) := (blk_cell BK488.out 0).trans rfl; have hcz10_1 : w8.cell? ⟨gb488, 1, none⟩ = some (.slice A0_1 l0_1.length c0_1) := (blk_cell BK488.out 1).trans rfl; have hcz10_2 : w8.cell? ⟨gb488, 2, none⟩ = some (.int .i64 a0_2) := (blk_cell BK488.out 2).trans rfl; have hcz10_3 : w8.cell? ⟨gb488, 3, none⟩ = some (.int .i64 a0_3) := (blk_cell BK488.out 3).trans rfl; have hcz10_4 : w8.cell? ⟨gb488, 4, none⟩ = some (.slice A0_4 l0_4.length c0_4) := (blk_cell BK488.out 4).trans rfl; have hfz10_0 := blk_frozen BK488.out 0; have hfz10_1 := blk_frozen BK488.out 1; have hfz10_2 := blk_frozen BK488.out 2; have hfz10_3 := blk_frozen BK488.out 3; have hfz10_4 := blk_frozen BK488.out 4; have hcz11_0 : w8.cell? ⟨gb489, 0, none⟩ = some (.int .i64 a1_0) := (blk_cell BK489.out 0).trans rfl; have hcz11_1 : w8.cell? ⟨gb489, 1, none⟩ = some (.slice A1_1 l1_1.length c1_1) := (blk_cell BK489.out 1).trans rfl; have hcz11_2 : w8.cell? ⟨gb489, 2, none⟩ = some (.int .i64 a1_2) := (blk_cell BK489.out 2).trans rfl; have hcz11_3 : w8.cell? ⟨gb489, 3, none⟩ = some (.int .i64 a1_3) := (blk_cell BK489.out 3).trans rfl; have hcz11_4 : w8.cell? ⟨gb489, 4, none⟩ = some (.slice A1_4 l1_4.length c1_4) := (blk_cell BK489.out 4).trans rfl; have hfz11_0 := blk_frozen BK489.out 0; have hfz11_1 := blk_frozen BK489.out 1; have hfz11_2 := blk_frozen BK489.out 2; have hfz11_3 := blk_frozen BK489.out 3; have hfz11_4 := blk_frozen BK489.out 4) | (go_at_call 63; (with_reducible refine (spec_l00Same.calls k _ _ l0_1 _ _ l1_1 true _ ?side1 ?side2 ?side3 ?side4 A4.out).mono ?_); (case side1 => repeat (first | exact (Kd.C_below HR0_1.out HB.out) | (with_reducible refine Kd.C_alloc ?_ _) | (with_reducible refine Kd.C_drewN ?_ _) | (with_reducible refine Kd.C_drew ?_))); (case side2 => exact HC0_1.out); (case side3 => repeat (first | exact (Kd.C_below HR1_1.out HB.out) | (with_reducible refine Kd.C_alloc ?_ _) | (with_reducible refine Kd.C_drewN ?_ _) | (with_reducible refine Kd.C_drew ?_))); (case side4 => exact HC1_1.out); rintro e w' ⟨rfl, ⟨nd, rfl⟩⟩) | (go_at_call 20; (with_reducible refine (spec_SameMatrix.calls k a0_2 a0_3 _ _ l0_4 a1_2 a1_3 _ _ l1_4 t491 _ ?side1 ?side2 ?side3 ?side4 A6.out).mono ?_); (case side1 => repeat (first | exact (Kd.C_below HR0_4.out (by repeat (first | (with_reducible first | exact HB.out | apply below_alloc | apply pw_below_drewN | apply below_drew1 | refine below_set ?_ GE488.out | refine below_set ?_ GE489.out) | exact HB.out))) | (with_reducible refine Kd.C_alloc ?_ _) | (with_reducible refine Kd.C_drewN ?_ _) | (with_reducible refine Kd.C_drew ?_))); (case side2 => exact HC0_4.out); (case side3 => repeat (first | exact (Kd.C_below HR1_4.out (by repeat (first | (with_reducible first | exact HB.out | apply below_alloc | apply pw_below_drewN | apply below_drew1 | refine below_set ?_ GE488.out | refine below_set ?_ GE489.out) | exact HB.out))) | (with_reducible refine Kd.C_alloc ?_ _) | (with_reducible refine Kd.C_drewN ?_ _) | (with_reducible refine Kd.C_drew ?_))); (case side4 => exact HC1_4.out); rintro e w12 ⟨rfl, hb⟩; have n0_ := Aside0.mk (blk_below (g := gb488) (o := .cells #[.int .i64 a0_0, .slice A0_1 l0_1.length c0_1, .int .i64 a0_2, .int .i64 a0_3, .slice A0_4 l0_4.length c0_4] 48 (0, 0)) (by (with_reducible repeat (first | refine blk_drewN ?_ _ | refine blk_drew ?_ | refine blk_alloc ?_ _)); exact BK488.out) hb); have n1_ := Aside0.mk (blk_below (g := gb489) (o := .cells #[.int .i64 a1_0, .slice A1_1 l1_1.length c1_1, .int .i64 a1_2, .int .i64 a1_3, .slice A1_4 l1_4.length c1_4] 48 (0, 0)) (by (with_reducible repeat (first | refine blk_drewN ?_ _ | refine blk_drew ?_ | refine blk_alloc ?_ _)); exact BK489.out) hb); have n2_ := Aside0.mk (below_step (by repeat (first | (with_reducible first | exact HB.out | apply below_alloc | apply pw_below_drewN | apply below_drew1 | refine below_set ?_ GE488.out | refine below_set ?_ GE489.out) | exact HB.out)) hb); clear BK488; clear BK489; clear HB; have BK488 := n0_; have BK489 := n1_; have HB := n2_; clear n0_ n1_ n2_; (try clear hb); (try clear hb2); (try clear hk); (try clear hi)))
      go_ret
      exact ⟨by first | rfl | (simp [errW_none, errW_some] <;> rfl) | (simp [*, errW_none, errW_some] <;> rfl), by repeat (first | (with_reducible first | exact HB.out | apply below_alloc | apply pw_below_drewN | apply below_drew1 | refine below_set ?_ GE488.out | refine below_set ?_ GE489.out) | exact HB.out)⟩
    · replace c5 := Bool.eq_false_iff.mpr c5
      subst c5
      have H1 : (some false) = some r := by rw [if_neg (show ¬ (false = true) by decide)] at H; exact H
      clear H
      have H := H1
      clear H1
      obtain rfl := Option.some.inj H
      go_enter Try.func46, Try.ntmps46
      go_wp2_with (first | ((with_reducible refine gate_dst (N := 2) rfl ?_); refine box_event ?hg (N := 2) ?hd (cs := #[.int .i64 a0_0, .slice A0_1 l0_1.length c0_1, .int .i64 a0_2, .int .i64 a0_3, .slice A0_4 l0_4.length c0_4]) (t := 48) ?hr ?_; (case hd => rfl); (case hg => rfl); (case hr => first | (go_simp; done) | (go_simp; rfl)); intro gb488 hg w13 hbox hb; have n0_ := Aside0.mk (below_step (by repeat (first | (with_reducible first | exact HB.out | apply below_alloc | apply pw_below_drewN | apply below_drew1) | exact HB.out)) hb); have n1_ := Aside0.mk (hbox); have n2_ := Aside0.mk ((by rw [hg]; exact (below_size (by repeat (first | (with_reducible first | exact HB.out | apply below_alloc | apply pw_below_drewN | apply below_drew1) | exact HB.out))) : w.heap.size ≤ gb488)); have n3_ := Aside0.mk ((by rw [hg]; exact (below_size (by repeat (first | (with_reducible first | exact HB.out | apply below_alloc | apply pw_below_drewN | apply below_drew1) | exact HB.out))) : w.heap.size ≤ gb488)); clear HB; have HB := n0_; have BK488 := n1_; have GW488 := n2_; have GE488 := n3_; clear n0_ n1_ n2_ n3_; clear hb hbox hg) | ((with_reducible refine gate_dst (N := 3) rfl ?_); refine box_event ?hg (N := 3) ?hd (cs := #[.int .i64 a1_0, .slice A1_1 l1_1.length c1_1, .int .i64 a1_2, .int .i64 a1_3, .slice A1_4 l1_4.length c1_4]) (t := 48) ?hr ?_; (case hd => rfl); (case hg => rfl); (case hr => first | (go_simp; done) | (go_simp; rfl)); intro gb489 hg w14 hbox hb; have n0_ := Aside0.mk (blk_below (g := gb488) (o := .cells #[.int .i64 a0_0, .slice A0_1 l0_1.length c0_1, .int .i64 a0_2, .int .i64 a0_3, .slice A0_4 l0_4.length c0_4] 48 (0, 0)) (by (with_reducible repeat (first | refine blk_drewN ?_ _ | refine blk_drew ?_ | refine blk_alloc ?_ _)); exact BK488.out) hb); have n1_ := Aside0.mk (below_step (by repeat (first | (with_reducible first | exact HB.out | apply below_alloc | apply pw_below_drewN | apply below_drew1 | refine below_set ?_ GE488.out) | exact HB.out)) hb); have n2_ := Aside0.mk (hbox); have n3_ := Aside0.mk ((by rw [hg]; exact (below_size (by repeat (first | (with_reducible first | exact HB.out | apply below_alloc | apply pw_below_drewN | apply below_drew1 | refine below_set ?_ GE488.out) | exact HB.out))) : w.heap.size ≤ gb489)); have n4_ := Aside0.mk ((by rw [hg]; exact (below_size (by repeat (first | (with_reducible first | exact HB.out | apply below_alloc | apply pw_below_drewN | apply below_drew1 | refine below_set ?_ GE488.out) | exact HB.out))) : w.heap.size ≤ gb489)); have n5_ := Aside0.mk ((by rw [hg]; exact Nat.ne_of_lt (blk_lt (g := gb488) (o := .cells #[.int .i64 a0_0, .slice A0_1 l0_1.length c0_1, .int .i64 a0_2, .int .i64 a0_3, .slice A0_4 l0_4.length c0_4] 48 (0, 0)) (by (with_reducible repeat (first | refine blk_drewN ?_ _ | refine blk_drew ?_ | refine blk_alloc ?_ _)); exact BK488.out)) : gb488 ≠ gb489)); have n6_ := Aside0.mk ((by rw [hg]; exact Nat.ne_of_gt (blk_lt (g := gb488) (o := .cells #[.int .i64 a0_0, .slice A0_1 l0_1.length c0_1, .int .i64 a0_2, .int .i64 a0_3, .slice A0_4 l0_4.length c0_4] 48 (0, 0)) (by (with_reducible repeat (first | refine blk_drewN ?_ _ | refine blk_drew ?_ | refine blk_alloc ?_ _)); exact BK488.out)) : gb489 ≠ gb488)); clear BK488; clear HB; have BK488 := n0_; have HB := n1_; have BK489 := n2_; have GW489 := n3_; have GE489 := n4_; have NB488_489 := n5_; have NB489_488 := n6_; clear n0_ n1_ n2_ n3_ n4_ n5_ n6_; clear hb hbox hg; have hnb15 := NB488_489.out; have hnc15 := NB489_488.out; have hcz16_0 : w14.cell? ⟨gb488, 0, none⟩ = some (.int .i64 a0_0) := (blk_cell BK488.out 0).trans rfl; have hcz16_1 : w14.cell? ⟨gb488, 1, none⟩ = some (.slice A0_1 l0_1.length c0_1) := (blk_cell BK488.out 1).trans rfl; have hcz16_2 : w14.cell? ⟨gb488, 2, none⟩ = some (.int .i64 a0_2) := (blk_cell BK488.out 2).trans rfl; have hcz16_3 : w14.cell? ⟨gb488, 3, none⟩ = some (.int .i64 a0_3) := (blk_cell BK488.out 3).trans rfl; have hcz16_4 : w14.cell? ⟨gb488, 4, none⟩ = some (.slice A0_4 l0_4.length c0_4) := (blk_cell BK488.out 4).trans rfl; have hfz16_0 := blk_frozen BK488.out 0; have hfz16_1 := blk_frozen BK488.out 1; have hfz16_2 := blk_frozen BK488.out 2; have hfz16_3 := blk_frozen BK488.out 3; have hfz16_4 := blk_frozen BK488.out 4; have hcz17_0 : w14.cell? ⟨gb489, 0, none⟩ = some (.int .i64 a1_0) := (blk_cell BK489.out 0).trans rfl; have hcz17_1 : w14.cell? ⟨gb489, 1, none⟩ = some (.slice A1_1 l1_1.length c1_1) := (blk_cell BK489.out 1).trans rfl; have hcz17_2 : w14.cell? ⟨gb489, 2, none⟩ = some (.int .i64 a1_2) := (blk_cell BK489.out 2).trans rfl; have hcz17_3 : w14.cell? ⟨gb489, 3, none⟩ = some (.int .i64 a1_3) := (blk_cell BK489.out 3).trans rfl; have hcz17_4 : w14.cell? ⟨gb489, 4, none⟩ = some (.slice A1_4 l1_4.length c1_4) := (blk_cell BK489.out 4).trans rfl; have hfz17_0 := blk_frozen BK489.out 0; have hfz17_1 := blk_frozen BK489.out 1; have hfz17_2 := blk_frozen BK489.out 2; have hfz17_3 := blk_frozen BK489.out 3; have hfz17_4 := blk_frozen BK489.out 4) | (go_at_call 63; (with_reducible refine (spec_l00Same.calls k _ _ l0_1 _ _ l1_1 false _ ?side1 ?side2 ?side3 ?side4 A4.out).mono ?_); (case side1 => repeat (first | exact (Kd.C_below HR0_1.out HB.out) | (with_reducible refine Kd.C_alloc ?_ _) | (with_reducible refine Kd.C_drewN ?_ _) | (with_reducible refine Kd.C_drew ?_))); (case side2 => exact HC0_1.out); (case side3 => repeat (first | exact (Kd.C_below HR1_1.out HB.out) | (with_reducible refine Kd.C_alloc ?_ _) | (with_reducible refine Kd.C_drewN ?_ _) | (with_reducible refine Kd.C_drew ?_))); (case side4 => exact HC1_1.out); rintro e w' ⟨rfl, ⟨nd, rfl⟩⟩))
      go_ret
      exact ⟨by first | rfl | (simp [errW_none, errW_some] <;> rfl) | (simp [*, errW_none, errW_some] <;> rfl), by repeat (first | (with_reducible first | exact HB.out | apply below_alloc | apply pw_below_drewN | apply below_drew1 | refine below_set ?_ GE488.out | refine below_set ?_ GE489.out) | exact HB.out)⟩
  · rw [if_neg c3] at H
    have c3b0 : (a0_0 == a1_0) = false := beq_eq_false_iff_ne.mpr c3
    have c3b1 : (a0_0 != a1_0) = true := bne_iff_ne.mpr c3
    obtain rfl := Option.some.inj H
    go_enter Try.func46, Try.ntmps46
    go_wp2_with (first | ((with_reducible refine gate_dst (N := 2) rfl ?_); refine box_event ?hg (N := 2) ?hd (cs := #[.int .i64 a0_0, .slice A0_1 l0_1.length c0_1, .int .i64 a0_2, .int .i64 a0_3, .slice A0_4 l0_4.length c0_4]) (t := 48) ?hr ?_; (case hd => rfl); (case hg => rfl); (case hr => first | (go_simp; done) | (go_simp; rfl)); intro gb488 hg w18 hbox hb; have n0_ := Aside0.mk (below_step (by repeat (first | (with_reducible first | exact HB.out | apply below_alloc | apply pw_below_drewN | apply below_drew1) | exact HB.out)) hb); have n1_ := Aside0.mk (hbox); have n2_ := Aside0.mk ((by rw [hg]; exact (below_size (by repeat (first | (with_reducible first | exact HB.out | apply below_alloc | apply pw_below_drewN | apply below_drew1) | exact HB.out))) : w.heap.size ≤ gb488)); have n3_ := Aside0.mk ((by rw [hg]; exact (below_size (by repeat (first | (with_reducible first | exact HB.out | apply below_alloc | apply pw_below_drewN | apply below_drew1) | exact HB.out))) : w.heap.size ≤ gb488)); clear HB; have HB := n0_; have BK488 := n1_; have GW488 := n2_; have GE488 := n3_; clear n0_ n1_ n2_ n3_; clear hb hbox hg) | ((with_reducible refine gate_dst (N := 3) rfl ?_); refine box_event ?hg (N := 3) ?hd (cs := #[.int .i64 a1_0, .slice A1_1 l1_1.length c1_1, .int .i64 a1_2, .int .i64 a1_3, .slice A1_4 l1_4.length c1_4]) (t := 48) ?hr ?_; (case hd => rfl); (case hg => rfl); (case hr => first | (go_simp; done) | (go_simp; rfl)); intro gb489 hg w19 hbox hb; have n0_ := Aside0.mk (blk_below (g := gb488) (o := .cells #[.int .i64 a0_0, .slice A0_1 l0_1.length c0_1, .int .i64 a0_2, .int .i64 a0_3, .slice A0_4 l0_4.length c0_4] 48 (0, 0)) (by (with_reducible repeat (first | refine blk_drewN ?_ _ | refine blk_drew ?_ | refine blk_alloc ?_ _)); exact BK488.out) hb); have n1_ := Aside0.mk (below_step (by repeat (first | (with_reducible first | exact HB.out | apply below_alloc | apply pw_below_drewN | apply below_drew1 | refine below_set ?_ GE488.out) | exact HB.out)) hb); have n2_ := Aside0.mk (hbox); have n3_ := Aside0.mk ((by rw [hg]; exact (below_size (by repeat (first | (with_reducible first | exact HB.out | apply below_alloc | apply pw_below_drewN | apply below_drew1 | refine below_set ?_ GE488.out) | exact HB.out))) : w.heap.size ≤ gb489)); have n4_ := Aside0.mk ((by rw [hg]; exact (below_size (by repeat (first | (with_reducible first | exact HB.out | apply below_alloc | apply pw_below_drewN | apply below_drew1 | refine below_set ?_ GE488.out) | exact HB.out))) : w.heap.size ≤ gb489)); have n5_ := Aside0.mk ((by rw [hg]; exact Nat.ne_of_lt (blk_lt (g := gb488) (o := .cells #[.int .i64 a0_0, .slice A0_1 l0_1.length c0_1, .int .i64 a0_2, .int .i64 a0_3, .slice A0_4 l0_4.length c0_4] 48 (0, 0)) (by (with_reducible repeat (first | refine blk_drewN ?_ _ | refine blk_drew ?_ | refine blk_alloc ?_ _)); exact BK488.out)) : gb488 ≠ gb489)); have n6_ := Aside0.mk ((by rw [hg]; exact Nat.ne_of_gt (blk_lt (g := gb488) (o := .cells #[.int .i64 a0_0, .slice A0_1 l0_1.length c0_1, .int .i64 a0_2, .int .i64 a0_3, .slice A0_4 l0_4.length c0_4] 48 (0, 0)) (by (with_reducible repeat (first | refine blk_drewN ?_ _ | refine blk_drew ?_ | refine blk_alloc ?_ _)); exact BK488.out)) : gb489 ≠ gb488)); clear BK488; clear HB; have BK488 := n0_; have HB := n1_; have BK489 := n2_; have GW489 := n3_; have GE489 := n4_; have NB488_489 := n5_; have NB489_488 := n6_; clear n0_ n1_ n2_ n3_ n4_ n5_ n6_; clear hb hbox hg; have hnb20 := NB488_489.out; have hnc20 := NB489_488.out; have hcz21_0 : w19.cell? ⟨gb488, 0, none⟩ = some (.int .i64 a0_0) := (blk_cell BK488.out 0).trans rfl; have hcz21_1 : w19.cell? ⟨gb488, 1, none⟩ = some (.slice A0_1 l0_1.length c0_1) := (blk_cell BK488.out 1).trans rfl; have hcz21_2 : w19.cell? ⟨gb488, 2, none⟩ = some (.int .i64 a0_2) := (blk_cell BK488.out 2).trans rfl; have hcz21_3 : w19.cell? ⟨gb488, 3, none⟩ = some (.int .i64 a0_3) := (blk_cell BK488.out 3).trans rfl; have hcz21_4 : w19.cell? ⟨gb488, 4, none⟩ = some (.slice A0_4 l0_4.length c0_4) := (blk_cell BK488.out 4).trans rfl; have hfz21_0 := blk_frozen BK488.out 0; have hfz21_1 := blk_frozen BK488.out 1; have hfz21_2 := blk_frozen BK488.out 2; have hfz21_3 := blk_frozen BK488.out 3; have hfz21_4 := blk_frozen BK488.out 4; have hcz22_0 : w19.cell? ⟨gb489, 0, none⟩ = some (.int .i64 a1_0) := (blk_cell BK489.out 0).trans rfl; have hcz22_1 : w19.cell? ⟨gb489, 1, none⟩ = some (.slice A1_1 l1_1.length c1_1) := (blk_cell BK489.out 1).trans rfl; have hcz22_2 : w19.cell? ⟨gb489, 2, none⟩ = some (.int .i64 a1_2) := (blk_cell BK489.out 2).trans rfl; have hcz22_3 : w19.cell? ⟨gb489, 3, none⟩ = some (.int .i64 a1_3) := (blk_cell BK489.out 3).trans rfl; have hcz22_4 : w19.cell? ⟨gb489, 4, none⟩ = some (.slice A1_4 l1_4.length c1_4) := (blk_cell BK489.out 4).trans rfl; have hfz22_0 := blk_frozen BK489.out 0; have hfz22_1 := blk_frozen BK489.out 1; have hfz22_2 := blk_frozen BK489.out 2; have hfz22_3 := blk_frozen BK489.out 3; have hfz22_4 := blk_frozen BK489.out 4))
    go_ret
    exact ⟨by first | rfl | (simp [errW_none, errW_some] <;> rfl) | (simp [*, errW_none, errW_some] <;> rfl), by repeat (first | (with_reducible first | exact HB.out | apply below_alloc | apply pw_below_drewN | apply below_drew1 | refine below_set ?_ GE488.out | refine below_set ?_ GE489.out) | exact HB.out)⟩

end Go.Proofs.Ytopgelloghblaaa.P

namespace Go.Proofs.Ytopgelloghblaaa.P
open Go.RowKit Go.Proofs.YtopgelloghblaaaW.PrintWords Go.Proofs.YtopgelloghblaaaW.PrintLast Go.Proofs.YtopgelloghblaaaW.PrintMore
attribute [local go_sem] max2_int min2_int max_two min_two max_three min_three max_four min_four
set_option linter.unusedVariables false
set_option linter.unusedSimpArgs false

/-! ### impl_SameScheme: function 47 -/
def impl_SameScheme.f (k : Nat) (a0_0 : Int) (l0_1 : List Int) (a0_2 : Int) (a0_3 : Int) (l0_4 : List (List Int)) (a1_0 : Int) (l1_1 : List Int) (a1_2 : Int) (a1_3 : Int) (l1_4 : List (List Int)) : Option (Bool) := if a0_0 = a1_0 then ((slices_Equal_int64_int64.f k l0_1 l1_1).bind fun t494 => (if t494 = true then ((impl_SameMatrix.f k a0_2 a0_3 l0_4 a1_2 a1_3 l1_4).bind fun t495 => (some t495)) else (some false))) else (some false)
theorem impl_SameScheme.mono : ∀ a0 a1 a2 a3 a4 a5 a6 a7 a8 a9 k, LeO (impl_SameScheme.f k a0 a1 a2 a3 a4 a5 a6 a7 a8 a9) (impl_SameScheme.f (k + 1) a0 a1 a2 a3 a4 a5 a6 a7 a8 a9) := by
  intro a0 a1 a2 a3 a4 a5 a6 a7 a8 a9 k
  unfold impl_SameScheme.f
  repeat' first
      | (with_reducible exact impl_SameMatrix.mono _ _ _ _ _ _ _)
      | (with_reducible exact slices_Equal_int64_int64.mono _ _ _)
      | (with_reducible exact LeO.refl _)
      | (with_reducible exact LeO.none _)
      | (with_reducible refine LeO.ite ?_ ?_)
      | (with_reducible refine LeO.bind ?_ (fun _ => ?_))
      | exact impl_SameMatrix.mono _ _ _ _ _ _ _
      | exact slices_Equal_int64_int64.mono _ _ _
      | exact LeO.none _
      | refine LeO.ite ?_ ?_
      | refine LeO.bind ?_ (fun _ => ?_)
set_option maxHeartbeats 8000000 in
set_option maxRecDepth 100000 in
theorem impl_SameScheme.calls (k : Nat) (a0_0 : Int) (A0_1 : Option Addr) (c0_1 : Nat) (l0_1 : List Int) (a0_2 : Int) (a0_3 : Int) (A0_4 : Option Addr) (c0_4 : Nat) (l0_4 : List (List Int)) (a1_0 : Int) (A1_1 : Option Addr) (c1_1 : Nat) (l1_1 : List Int) (a1_2 : Int) (a1_3 : Int) (A1_4 : Option Addr) (c1_4 : Nat) (l1_4 : List (List Int)) (r : Bool) (w : World) (hr0_1 : Kd.C (Kd.int .i64) w A0_1 l0_1.length l0_1) (hc0_1 : l0_1.length ≤ c0_1) (hr0_4 : Kd.C (Kd.slice 2 (Kd.int .i64)) w A0_4 l0_4.length l0_4) (hc0_4 : l0_4.length ≤ c0_4) (hr1_1 : Kd.C (Kd.int .i64) w A1_1 l1_1.length l1_1) (hc1_1 : l1_1.length ≤ c1_1) (hr1_4 : Kd.C (Kd.slice 2 (Kd.int .i64)) w A1_4 l1_4.length l1_4) (hc1_4 : l1_4.length ≤ c1_4) (h : impl_SameScheme.f k a0_0 l0_1 a0_2 a0_3 l0_4 a1_0 l1_1 a1_2 a1_3 l1_4 = some r) :
    Calls Try.prog 47 #[.agg #[.int .i64 a0_0, .slice A0_1 l0_1.length c0_1, .int .i64 a0_2, .int .i64 a0_3, .slice A0_4 l0_4.length c0_4], .agg #[.int .i64 a1_0, .slice A1_1 l1_1.length c1_1, .int .i64 a1_2, .int .i64 a1_3, .slice A1_4 l1_4.length c1_4]] w fun e w' => e = .returned (.bool r) ∧ Below w.heap.size w w' := by
  have hu48 := Try.underlying48
  have hu27 := Try.underlying27
  have HR0_1 := Aside0.mk hr0_1
  have HC0_1 := Aside0.mk hc0_1
  clear hr0_1 hc0_1
  have HR0_4 := Aside0.mk hr0_4
  have HC0_4 := Aside0.mk hc0_4
  clear hr0_4 hc0_4
  have HR1_1 := Aside0.mk hr1_1
  have HC1_1 := Aside0.mk hc1_1
  clear hr1_1 hc1_1
  have HR1_4 := Aside0.mk hr1_4
  have HC1_4 := Aside0.mk hc1_4
  clear hr1_4 hc1_4
  have HB := Aside0.mk (Below.refl w.heap.size w)
  have H : (if a0_0 = a1_0 then ((slices_Equal_int64_int64.f k l0_1 l1_1).bind fun t494 => (if t494 = true then ((impl_SameMatrix.f k a0_2 a0_3 l0_4 a1_2 a1_3 l1_4).bind fun t495 => (some t495)) else (some false))) else (some false)) = some r := h
  clear h
  by_cases c3 : a0_0 = a1_0
  · rw [if_pos c3] at H
    have c3b0 : (a0_0 == a1_0) = true := beq_iff_eq.mpr c3
    have c3b1 : (a0_0 != a1_0) = false := bne_eq_false_iff_eq.mpr c3
    clear c3
    replace H := Option.bind_eq_some_iff.mp H
    obtain ⟨t494, A40, H⟩ := H
    replace H : (if t494 = true then ((impl_SameMatrix.f k a0_2 a0_3 l0_4 a1_2 a1_3 l1_4).bind fun t495 => (some t495)) else (some false)) = some r := H
    have A4 := Aside0.mk A40
    clear A40
    by_cases c5 : t494 = true
    · subst c5
      have H1 : ((impl_SameMatrix.f k a0_2 a0_3 l0_4 a1_2 a1_3 l1_4).bind fun t495 => (some t495)) = some r := by rw [if_pos rfl] at H; exact H
      clear H
      have H := H1
      clear H1
      replace H := Option.bind_eq_some_iff.mp H
      obtain ⟨t495, A60, H⟩ := H
      replace H : (some t495) = some r := H
      have A6 := Aside0.mk A60
      clear A60
      obtain rfl := Option.some.inj H
      go_enter Try.func47, Try.ntmps47
      go_wp2_with (first | ((with_reducible refine gate_dst (N := 2) rfl ?_); refine box_event ?hg (N := 2) ?hd (cs := #[.int .i64 a0_0, .slice A0_1 l0_1.length c0_1, .int .i64 a0_2, .int .i64 a0_3, .slice A0_4 l0_4.length c0_4]) (t := 48) ?hr ?_; (case hd => rfl); (case hg => rfl); (case hr => first | (go_simp; done) | (go_simp; rfl)); intro gb492 hg w7 hbox hb; have n0_ := Aside0.mk (below_step (by repeat (first | (with_reducible first | exact HB.out | apply below_alloc | apply pw_below_drewN | apply below_drew1) | exact HB.out)) hb); have n1_ := Aside0.mk (hbox); have n2_ := Aside0.mk ((by rw [hg]; exact (below_size (by repeat (first | (with_reducible first | exact HB.out | apply below_alloc | apply pw_below_drewN | apply below_drew1) | exact HB.out))) : w.heap.size ≤ gb492)); have n3_ := Aside0.mk ((by rw [hg]; exact (below_size (by repeat (first | (with_reducible first | exact HB.out | apply below_alloc | apply pw_below_drewN | apply below_drew1) | exact HB.out))) : w.heap.size ≤ gb492)); clear HB; have HB := n0_; have BK492 := n1_; have GW492 := n2_; have GE492 := n3_; clear n0_ n1_ n2_ n3_; clear hb hbox hg) | ((with_reducible refine gate_dst (N := 3) rfl ?_); refine box_event ?hg (N := 3) ?hd (cs := #[.int .i64 a1_0, .slice A1_1 l1_1.length c1_1, .int .i64 a1_2, .int .i64 a1_3, .slice A1_4 l1_4.length c1_4]) (t := 48) ?hr ?_; (case hd => rfl); (case hg => rfl); (case hr => first | (go_simp; done) | (go_simp; rfl)); intro gb493 hg w8 hbox hb; have n0_ := Aside0.mk (blk_below (g := gb492) (o := .cells #[.int .i64 a0_0, .slice A0_1 l0_1.length c0_1, .int .i64 a0_2, .int .i64 a0_3, .slice A0_4 l0_4.length c0_4] 48 (0, 0)) (by (with_reducible repeat (first | refine blk_drewN ?_ _ | refine blk_drew ?_ | refine blk_alloc ?_ _)); exact BK492.out) hb); have n1_ := Aside0.mk (below_step (by repeat (first | (with_reducible first | exact HB.out | apply below_alloc | apply pw_below_drewN | apply below_drew1 | refine below_set ?_ GE492.out) | exact HB.out)) hb); have n2_ := Aside0.mk (hbox); have n3_ := Aside0.mk ((by rw [hg]; exact (below_size (by repeat (first | (with_reducible first | exact HB.out | apply below_alloc | apply pw_below_drewN | apply below_drew1 | refine below_set ?_ GE492.out) | exact HB.out))) : w.heap.size ≤ gb493)); have n4_ := Aside0.mk ((by rw [hg]; exact (below_size (by repeat (first | (with_reducible first | exact HB.out | apply below_alloc | apply pw_below_drewN | apply below_drew1 | refine below_set ?_ GE492.out) | exact HB.out))) : w.heap.size ≤ gb493)); have n5_ := Aside0.mk ((by rw [hg]; exact Nat.ne_of_lt (blk_lt (g := gb492) (o := .cells #[.int .i64 a0_0, .slice A0_1 l0_1.length c0_1, .int .i64 a0_2, .int .i64 a0_3, .slice A0_4 l0_4.length c0_4] 48 (0, 0)) (by (with_reducible repeat (first | refine blk_drewN ?_ _ | refine blk_drew ?_ | refine blk_alloc ?_ _)); exact BK492.out)) : gb492 ≠ gb493)); have n6_ := Aside0.mk ((by rw [hg]; exact Nat.ne_of_gt (blk_lt (g := gb492) (o := .cells #[.int .i64 a0_0, .slice A0_1 l0_1.length c0_1, .int .i64 a0_2, .int .i64 a0_3, .slice A0_4 l0_4.length c0_4] 48 (0, 0)) (by (with_reducible repeat (first | refine blk_drewN ?_ _ | refine blk_drew ?_ | refine blk_alloc ?_ _)); exact BK492.out)) : gb493 ≠ gb492)); clear BK492; clear HB; have BK492 := n0_; have HB := n1_; have BK493 := n2_; have GW493 := n3_; have GE493 := n4_; have NB492_493 := n5_; have NB493_492 := n6_; clear n0_ n1_ n2_ n3_ n4_ n5_ n6_; clear hb hbox hg; have hnb9 := NB492_493.out; have hnc9 := NB493_492.out; have hcz10_0 : w8.cell? ⟨gb492, 0, none⟩ = some (.int .i64 a0_0) := (blk_cell BK492.out 0).trans rfl; have hcz10_1 : w8.cell? ⟨gb492, 1, none⟩ = some (.slice A0_1 l0_1.length c0_1) := (blk_cell BK492.out 1).trans rfl; have hcz10_2 : w8.cell? ⟨gb492, 2, none⟩ = some (.int .i64 a0_2) := (blk_cell BK492.out 2).trans rfl; have hcz10_3 : w8.cell? ⟨gb492, 3, none⟩ = some (.int .i64 a0_3) := (blk_cell BK492.out 3).trans rfl; have hcz10_4 : w8.cell? ⟨gb492, 4, none⟩ = some (.slice A0_4 l0_4.length c0_4) := (blk_cell BK492.out 4).trans rfl; have hfz10_0 := blk_frozen BK492.out 0; have hfz10_1 := blk_frozen BK492.out 1; have hfz10_2 := blk_frozen BK492.out 2; have hfz10_3 := blk_frozen BK492.out 3; have hfz10_4 := blk_frozen BK492.out 4; have hcz11_0 : w8.cell? ⟨gb493, 0, none⟩ = some (.int .i64 a1_0) := (blk_cell BK493.out 0).trans rfl; have hcz11_1 : w8.cell? ⟨gb493, 1, none⟩ = some (.slice A1_1 l1_1.length c1_1) := (blk_cell BK493.out 1).trans rfl; have hcz11_2 : w8.cell? ⟨gb493, 2, none⟩ = some (.int .i64 a1_2) := (blk_cell BK493.out 2).trans rfl; have hcz11_3 : w8.cell? ⟨gb493, 3, none⟩ = some (.int .i64 a1_3) := (blk_cell BK493.out 3).trans rfl; have hcz11_4 : w8.cell? ⟨gb493, 4, none⟩ = some (.slice A1_4 l1_4.length c1_4) := (blk_cell BK493.out 4).trans rfl; have hfz11_0 := blk_frozen BK493.out 0; have hfz11_1 := blk_frozen BK493.out 1; have hfz11_2 := blk_frozen BK493.out 2; have hfz11_3 := blk_frozen BK493.out 3; have hfz11_4 := blk_frozen BK493.out 4) | (go_at_call 65; (with_reducible refine (slices_Equal_int64_int64.calls k _ _ l0_1 _ _ l1_1 true _ ?side1 ?side2 ?side3 ?side4 A4.out).mono ?_); (case side1 => repeat (first | exact (Kd.C_below HR0_1.out HB.out) | (with_reducible refine Kd.C_alloc ?_ _) | (with_reducible refine Kd.C_drewN ?_ _) | (with_reducible refine Kd.C_drew ?_))); (case side2 => exact HC0_1.out); (case side3 => repeat (first | exact (Kd.C_below HR1_1.out HB.out) | (with_reducible refine Kd.C_alloc ?_ _) | (with_reducible refine Kd.C_drewN ?_ _) | (with_reducible refine Kd.C_drew ?_))); (case side4 => exact HC1_1.out); rintro e w' ⟨rfl, ⟨nd, rfl⟩⟩) | (go_at_call 21; (with_reducible refine (impl_SameMatrix.calls k a0_2 a0_3 _ _ l0_4 a1_2 a1_3 _ _ l1_4 t495 _ ?side1 ?side2 ?side3 ?side4 A6.out).mono ?_); (case side1 => repeat (first | exact (Kd.C_below HR0_4.out (by repeat (first | (with_reducible first | exact HB.out | apply below_alloc | apply pw_below_drewN | apply below_drew1 | refine below_set ?_ GE492.out | refine below_set ?_ GE493.out) | exact HB.out))) | (with_reducible refine Kd.C_alloc ?_ _) | (with_reducible refine Kd.C_drewN ?_ _) | (with_reducible refine Kd.C_drew ?_))); (case side2 => exact HC0_4.out); (case side3 => repeat (first | exact (Kd.C_below HR1_4.out (by repeat (first | (with_reducible first | exact HB.out | apply below_alloc | apply pw_below_drewN | apply below_drew1 | refine below_set ?_ GE492.out | refine below_set ?_ GE493.out) | exact HB.out))) | (with_reducible refine Kd.C_alloc ?_ _) | (with_reducible refine Kd.C_drewN ?_ _) | (with_reducible refine Kd.C_drew ?_))); (case side4 => exact HC1_4.out); rintro e w12 ⟨rfl, hb⟩; have n0_ := Aside0.mk (blk_below (g := gb492) (o := .cells #[.int .i64 a0_0, .slice A0_1 l0_1.length c0_1, .int .i64 a0_2, .int .i64 a0_3, .slice A0_4 l0_4.length c0_4] 48 (0, 0)) (by (with_reducible repeat (first | refine blk_drewN ?_ _ | refine blk_drew ?_ | refine blk_alloc ?_ _)); exact BK492.out) hb); have n1_ := Aside0.mk (blk_below (g := gb493) (o := .cells #[.int .i64 a1_0, .slice A1_1 l1_1.length c1_1, .int .i64 a1_2, .int .i64 a1_3, .slice A1_4 l1_4.length c1_4] 48 (0, 0)) (by (with_reducible repeat (first | refine blk_drewN ?_ _ | refine blk_drew ?_ | refine blk_alloc ?_ _)); exact BK493.out) hb); have n2_ := Aside0.mk (below_step (by repeat (first | (with_reducible first | exact HB.out | apply below_alloc | apply pw_below_drewN | apply below_drew1 | refine below_set ?_ GE492.out | refine below_set ?_ GE493.out) | exact HB.out)) hb); clear BK492; clear BK493; clear HB; have BK492 := n0_; have BK493 := n1_; have HB := n2_; clear n0_ n1_ n2_; (try clear hb); (try clear hb2); (try clear hk); (try clear hi)))
      go_ret
      exact ⟨by first | rfl | (simp [errW_none, errW_some] <;> rfl) | (simp [*, errW_none, errW_some] <;> rfl), by repeat (first | (with_reducible first | exact HB.out | apply below_alloc | apply pw_below_drewN | apply below_drew1 | refine below_set ?_ GE492.out | refine below_set ?_ GE493.out) | exact HB.out)⟩
    · replace c5 := Bool.eq_false_iff.mpr c5
      subst c5
      have H1 : (some false) = some r := by rw [if_neg (show ¬ (false = true) by decide)] at H; exact H
      clear H
      have H := H1
      clear H1
      obtain rfl := Option.some.inj H
      go_enter Try.func47, Try.ntmps47
      go_wp2_with (first | ((with_reducible refine gate_dst (N := 2) rfl ?_); refine box_event ?hg (N := 2) ?hd (cs := #[.int .i64 a0_0, .slice A0_1 l0_1.length c0_1, .int .i64 a0_2, .int .i64 a0_3, .slice A0_4 l0_4.length c0_4]) (t := 48) ?hr ?_; (case hd => rfl); (case hg => rfl); (case hr => first | (go_simp; done) | (go_simp; rfl)); intro gb492 hg w13 hbox hb; have n0_ := Aside0.mk (below_step (by repeat (first | (with_reducible first | exact HB.out | apply below_alloc | apply pw_below_drewN | apply below_drew1) | exact HB.out)) hb); have n1_ := Aside0.mk (hbox); have n2_ := Aside0.mk ((by rw [hg]; exact (below_size (by repeat (first | (with_reducible first | exact HB.out | apply below_alloc | apply pw_below_drewN | apply below_drew1) | exact HB.out))) : w.heap.size ≤ gb492)); have n3_ := Aside0.mk ((by rw [hg]; exact (below_size (by repeat (first | (with_reducible first | exact HB.out | apply below_alloc | apply pw_below_drewN | apply below_drew1) | exact HB.out))) : w.heap.size ≤ gb492)); clear HB; have HB := n0_; have BK492 := n1_; have GW492 := n2_; have GE492 := n3_; clear n0_ n1_ n2_ n3_; clear hb hbox hg) | ((with_reducible refine gate_dst (N := 3) rfl ?_); refine box_event ?hg (N := 3) ?hd (cs := #[.int .i64 a1_0, .slice A1_1 l1_1.length c1_1, .int .i64 a1_2, .int .i64 a1_3, .slice A1_4 l1_4.length c1_4]) (t := 48) ?hr ?_; (case hd => rfl); (case hg => rfl); (case hr => first | (go_simp; done) | (go_simp; rfl)); intro gb493 hg w14 hbox hb; have n0_ := Aside0.mk (blk_below (g := gb492) (o := .cells #[.int .i64 a0_0, .slice A0_1 l0_1.length c0_1, .int .i64 a0_2, .int .i64 a0_3, .slice A0_4 l0_4.length c0_4] 48 (0, 0)) (by (with_reducible repeat (first | refine blk_drewN ?_ _ | refine blk_drew ?_ | refine blk_alloc ?_ _)); exact BK492.out) hb); have n1_ := Aside0.mk (below_step (by repeat (first | (with_reducible first | exact HB.out | apply below_alloc | apply pw_below_drewN | apply below_drew1 | refine below_set ?_ GE492.out) | exact HB.out)) hb); have n2_ := Aside0.mk (hbox); have n3_ := Aside0.mk ((by rw [hg]; exact (below_size (by repeat (first | (with_reducible first | exact HB.out | apply below_alloc | apply pw_below_drewN | apply below_drew1 | refine below_set ?_ GE492.out) | exact HB.out))) : w.heap.size ≤ gb493)); have n4_ := Aside0.mk ((by rw [hg]; exact (below_size (by repeat (first | (with_reducible first | exact HB.out | apply below_alloc | apply pw_below_drewN | apply below_drew1 | refine below_set ?_ GE492.out) | exact HB.out))) : w.heap.size ≤ gb493)); have n5_ := Aside0.mk ((by rw [hg]; exact Nat.ne_of_lt (blk_lt (g := gb492) (o := .cells #[.int .i64 a0_0, .slice A0_1 l0_1.length c0_1, .int .i64 a0_2, .int .i64 a0_3, .slice A0_4 l0_4.length c0_4] 48 (0, 0)) (by (with_reducible repeat (first | refine blk_drewN ?_ _ | refine blk_drew ?_ | refine blk_alloc ?_ _)); exact BK492.out)) : gb492 ≠ gb493)); have n6_ := Aside0.mk ((by rw [hg]; exact Nat.ne_of_gt (blk_lt (g := gb492) (o := .cells #[.int .i64 a0_0, .slice A0_1 l0_1.length c0_1, .int .i64 a0_2, .int .i64 a0_3, .slice A0_4 l0_4.length c0_4] 48 (0, 0)) (by (with_reducible repeat (first | refine blk_drewN ?_ _ | refine blk_drew ?_ | refine blk_alloc ?_ _)); exact BK492.out)) : gb493 ≠ gb492)); clear BK492; clear HB; have BK492 := n0_; have HB := n1_; have BK493 := n2_; have GW493 := n3_; have GE493 := n4_; have NB492_493 := n5_; have NB493_492 := n6_; clear n0_ n1_ n2_ n3_ n4_ n5_ n6_; clear hb hbox hg; have hnb15 := NB492_493.out; have hnc15 := NB493_492.out; have hcz16_0 : w14.cell? ⟨gb492, 0, none⟩ = some (.int .i64 a0_0) := (blk_cell BK492.out 0).trans rfl; have hcz16_1 : w14.cell? ⟨gb492, 1, none⟩ = some (.slice A0_1 l0_1.length c0_1) := (blk_cell BK492.out 1).trans rfl; have hcz16_2 : w14.cell? ⟨gb492, 2, none⟩ = some (.int .i64 a0_2) := (blk_cell BK492.out 2).trans rfl; have hcz16_3 : w14.cell? ⟨gb492, 3, none⟩ = some (.int .i64 a0_3) := (blk_cell BK492.out 3).trans rfl; have hcz16_4 : w14.cell? ⟨gb492, 4, none⟩ = some (.slice A0_4 l0_4.length c0_4) := (blk_cell BK492.out 4).trans rfl; have hfz16_0 := blk_frozen BK492.out 0; have hfz16_1 := blk_frozen BK492.out 1; have hfz16_2 := blk_frozen BK492.out 2; have hfz16_3 := blk_frozen BK492.out 3; have hfz16_4 := blk_frozen BK492.out 4; have hcz17_0 : w14.cell? ⟨gb493, 0, none⟩ = some (.int .i64 a1_0) := (blk_cell BK493.out 0).trans rfl; have hcz17_1 : w14.cell? ⟨gb493, 1, none⟩ = some (.slice A1_1 l1_1.length c1_1) := (blk_cell BK493.out 1).trans rfl; have hcz17_2 : w14.cell? ⟨gb493, 2, none⟩ = some (.int .i64 a1_2) := (blk_cell BK493.out 2).trans rfl; have hcz17_3 : w14.cell? ⟨gb493, 3, none⟩ = some (.int .i64 a1_3) := (blk_cell BK493.out 3).trans rfl; have hcz17_4 : w14.cell? ⟨gb493, 4, none⟩ = some (.slice A1_4 l1_4.length c1_4) := (blk_cell BK493.out 4).trans rfl; have hfz17_0 := blk_frozen BK493.out 0; have hfz17_1 := blk_frozen BK493.out 1; have hfz17_2 := blk_frozen BK493.out 2; have hfz17_3 := blk_frozen BK493.out 3; have hfz17_4 := blk_frozen BK493.out 4) | (go_at_call 65; (with_reducible refine (slices_Equal_int64_int64.calls k _ _ l0_1 _ _ l1_1 false _ ?side1 ?side2 ?side3 ?side4 A4.out).mono ?_); (case side1 => repeat (first | exact (Kd.C_below HR0_1.out HB.out) | (with_reducible refine Kd.C_alloc ?_ _) | (with_reducible refine Kd.C_drewN ?_ _) | (with_reducible refine Kd.C_drew ?_))); (case side2 => exact HC0_1.out); (case side3 => repeat (first | exact (Kd.C_below HR1_1.out HB.out) | (with_reducible refine Kd.C_alloc ?_ _) | (with_reducible refine Kd.C_drewN ?_ _) | (with_reducible refine Kd.C_drew ?_))); (case side4 => exact HC1_1.out); rintro e w' ⟨rfl, ⟨nd, rfl⟩⟩))
      go_ret
      exact ⟨by first | rfl | (simp [errW_none, errW_some] <;> rfl) | (simp [*, errW_none, errW_some] <;> rfl), by repeat (first | (with_reducible first | exact HB.out | apply below_alloc | apply pw_below_drewN | apply below_drew1 | refine below_set ?_ GE492.out | refine below_set ?_ GE493.out) | exact HB.out)⟩
  · rw [if_neg c3] at H
    have c3b0 : (a0_0 == a1_0) = false := beq_eq_false_iff_ne.mpr c3
    have c3b1 : (a0_0 != a1_0) = true := bne_iff_ne.mpr c3
    obtain rfl := Option.some.inj H
    go_enter Try.func47, Try.ntmps47
    go_wp2_with (first | ((with_reducible refine gate_dst (N := 2) rfl ?_); refine box_event ?hg (N := 2) ?hd (cs := #[.int .i64 a0_0, .slice A0_1 l0_1.length c0_1, .int .i64 a0_2, .int .i64 a0_3, .slice A0_4 l0_4.length c0_4]) (t := 48) ?hr ?_; (case hd => rfl); (case hg => rfl); (case hr => first | (go_simp; done) | (go_simp; rfl)); intro gb492 hg w18 hbox hb; have n0_ := Aside0.mk (below_step (by repeat (first | (with_reducible first | exact HB.out | apply below_alloc | apply pw_below_drewN | apply below_drew1) | exact HB.out)) hb); have n1_ := Aside0.mk (hbox); have n2_ := Aside0.mk ((by rw [hg]; exact (below_size (by repeat (first | (with_reducible first | exact HB.out | apply below_alloc | apply pw_below_drewN | apply below_drew1) | exact HB.out))) : w.heap.size ≤ gb492)); have n3_ := Aside0.mk ((by rw [hg]; exact (below_size (by repeat (first | (with_reducible first | exact HB.out | apply below_alloc | apply pw_below_drewN | apply below_drew1) | exact HB.out))) : w.heap.size ≤ gb492)); clear HB; have HB := n0_; have BK492 := n1_; have GW492 := n2_; have GE492 := n3_; clear n0_ n1_ n2_ n3_; clear hb hbox hg) | ((with_reducible refine gate_dst (N := 3) rfl ?_); refine box_event ?hg (N := 3) ?hd (cs := #[.int .i64 a1_0, .slice A1_1 l1_1.length c1_1, .int .i64 a1_2, .int .i64 a1_3, .slice A1_4 l1_4.length c1_4]) (t := 48) ?hr ?_; (case hd => rfl); (case hg => rfl); (case hr => first | (go_simp; done) | (go_simp; rfl)); intro gb493 hg w19 hbox hb; have n0_ := Aside0.mk (blk_below (g := gb492) (o := .cells #[.int .i64 a0_0, .slice A0_1 l0_1.length c0_1, .int .i64 a0_2, .int .i64 a0_3, .slice A0_4 l0_4.length c0_4] 48 (0, 0)) (by (with_reducible repeat (first | refine blk_drewN ?_ _ | refine blk_drew ?_ | refine blk_alloc ?_ _)); exact BK492.out) hb); have n1_ := Aside0.mk (below_step (by repeat (first | (with_reducible first | exact HB.out | apply below_alloc | apply pw_below_drewN | apply below_drew1 | refine below_set ?_ GE492.out) | exact HB.out)) hb); have n2_ := Aside0.mk (hbox); have n3_ := Aside0.mk ((by rw [hg]; exact (below_size (by repeat (first | (with_reducible first | exact HB.out | apply below_alloc | apply pw_below_drewN | apply below_drew1 | refine below_set ?_ GE492.out) | exact HB.out))) : w.heap.size ≤ gb493)); have n4_ := Aside0.mk ((by rw [hg]; exact (below_size (by repeat (first | (with_reducible first | exact HB.out | apply below_alloc | apply pw_below_drewN | apply below_drew1 | refine below_set ?_ GE492.out) | exact HB.out))) : w.heap.size ≤ gb493)); have n5_ := Aside0.mk ((by rw [hg]; exact Nat.ne_of_lt (blk_lt (g := gb492) (o := .cells #[.int .i64 a0_0, .slice A0_1 l0_1.length c0_1, .int .i64 a0_2, .int .i64 a0_3, .slice A0_4 l0_4.length c0_4] 48 (0, 0)) (by (with_reducible repeat (first | refine blk_drewN ?_ _ | refine blk_drew ?_ | refine blk_alloc ?_ _)); exact BK492.out)) : gb492 ≠ gb493)); have n6_ := Aside0.mk ((by rw [hg]; exact Nat.ne_of_gt (blk_lt (g := gb492) (o := .cells #[.int .i64 a0_0, .slice A0_1 l0_1.length c0_1, .int .i64 a0_2, .int .i64 a0_3, .slice A0_4 l0_4.length c0_4] 48 (0, 0)) (by (with_reducible repeat (first | refine blk_drewN ?_ _ | refine blk_drew ?_ | refine blk_alloc ?_ _)); exact BK492.out)) : gb493 ≠ gb492)); clear BK492; clear HB; have BK492 := n0_; have HB := n1_; have BK493 := n2_; have GW493 := n3_; have GE493 := n4_; have NB492_493 := n5_; have NB493_492 := n6_; clear n0_ n1_ n2_ n3_ n4_ n5_ n6_; clear hb hbox hg; have hnb20 := NB492_493.out; have hnc20 := NB493_492.out; have hcz21_0 : w19.cell? ⟨gb492, 0, none⟩ = some (.int .i64 a0_0) := (blk_cell BK492.out 0).trans rfl; have hcz21_1 : w19.cell? ⟨gb492, 1, none⟩ = some (.slice A0_1 l0_1.length c0_1) := (blk_cell BK492.out 1).trans rfl; have hcz21_2 : w19.cell? ⟨gb492, 2, none⟩ = some (.int .i64 a0_2) := (blk_cell BK492.out 2).trans rfl; have hcz21_3 : w19.cell? ⟨gb492, 3, none⟩ = some (.int .i64 a0_3) := (blk_cell BK492.out 3).trans rfl; have hcz21_4 : w19.cell? ⟨gb492, 4, none⟩ = some (.slice A0_4 l0_4.length c0_4) := (blk_cell BK492.out 4).trans rfl; have hfz21_0 := blk_frozen BK492.out 0; have hfz21_1 := blk_frozen BK492.out 1; have hfz21_2 := blk_frozen BK492.out 2; have hfz21_3 := blk_frozen BK492.out 3; have hfz21_4 := blk_frozen BK492.out 4; have hcz22_0 : w19.cell? ⟨gb493, 0, none⟩ = some (.int .i64 a1_0) := (blk_cell BK493.out 0).trans rfl; have hcz22_1 : w19.cell? ⟨gb493, 1, none⟩ = some (.slice A1_1 l1_1.length c1_1) := (blk_cell BK493.out 1).trans rfl; have hcz22_2 : w19.cell? ⟨gb493, 2, none⟩ = some (.int .i64 a1_2) := (blk_cell BK493.out 2).trans rfl; have hcz22_3 : w19.cell? ⟨gb493, 3, none⟩ = some (.int .i64 a1_3) := (blk_cell BK493.out 3).trans rfl; have hcz22_4 : w19.cell? ⟨gb493, 4, none⟩ = some (.slice A1_4 l1_4.length c1_4) := (blk_cell BK493.out 4).trans rfl; have hfz22_0 := blk_frozen BK493.out 0; have hfz22_1 := blk_frozen BK493.out 1; have hfz22_2 := blk_frozen BK493.out 2; have hfz22_3 := blk_frozen BK493.out 3; have hfz22_4 := blk_frozen BK493.out 4))
    go_ret
    exact ⟨by first | rfl | (simp [errW_none, errW_some] <;> rfl) | (simp [*, errW_none, errW_some] <;> rfl), by repeat (first | (with_reducible first | exact HB.out | apply below_alloc | apply pw_below_drewN | apply below_drew1 | refine below_set ?_ GE492.out | refine below_set ?_ GE493.out) | exact HB.out)⟩

end Go.Proofs.Ytopgelloghblaaa.P

namespace Go.Proofs.Ytopgelloghblaaa.P
open Go.RowKit Go.Proofs.YtopgelloghblaaaW.PrintWords Go.Proofs.YtopgelloghblaaaW.PrintLast Go.Proofs.YtopgelloghblaaaW.PrintMore
attribute [local go_sem] max2_int min2_int max_two min_two max_three min_three max_four min_four
set_option linter.unusedVariables false
set_option linter.unusedSimpArgs false

theorem szScheme_ev (c : Int) (o : List Int) (p q : Int) (rows : List (List Int)) (a : Int) (ha : 0 ≤ a ∧ a ≤ 1048576) (ho : o.length ≤ 9223372036854775807) (hl : rows.length ≤ 9223372036854775807) (hr : ∀ r ∈ rows, r.length ≤ 9223372036854775807) :
    Ev (fun k => laws_szScheme.f k c o p q rows a) (if ((o.length + bulk rows : Nat) : Int) ≤ a then a - ((o.length + bulk rows : Nat) : Int) else -1) := by
  unfold laws_szScheme.f
  rw [szInt64S_eq o a ha ho]
  simp only [Option.bind_some]
  by_cases h : (o.length : Int) ≤ a
  · simp only [if_pos h, if_neg (show ¬ (a - (o.length : Int) < 0) by omega)]
    refine Ev.bind (szMatrix_ev p q rows _ (by omega) hl hr) ?_
    by_cases h2 : (bulk rows : Int) ≤ a - (o.length : Int)
    · simp only [if_pos h2, if_neg (show ¬ (a - (o.length : Int) - (bulk rows : Int) < 0) by omega)]
      rw [if_pos (by omega), show a - ((o.length + bulk rows : Nat) : Int) = a - (o.length : Int) - (bulk rows : Int) from by omega]
      exact Ev.now _
    · simp only [if_neg h2]
      rw [show (if ((o.length + bulk rows : Nat) : Int) ≤ a then a - ((o.length + bulk rows : Nat) : Int) else -1) = -1 from if_neg (by omega)]
      exact Ev.now _
  · simp only [if_neg h]
    rw [show (if ((o.length + bulk rows : Nat) : Int) ≤ a then a - ((o.length + bulk rows : Nat) : Int) else -1) = -1 from if_neg (by omega)]
    exact Ev.now _
theorem toScheme_ev (c : Int) (o : List Int) (p q : Int) (l : List (List Int)) (ho : o.length ≤ 1048576) (hl : l.length ≤ 1048576) (hr : ∀ r ∈ l, r.length ≤ 1048576) : Ev (fun k => laws_toScheme.f k c o p q l) (c, o, p, q, l) := by
  unfold laws_toScheme.f
  exact Ev.bind (toInt64S_ev o ho) (Ev.bind (toMatrix_ev p q l hl hr) (Ev.now _))
theorem eqScheme_same (c : Int) (o : List Int) (p q : Int) (l : List (List Int)) (ho : o.length ≤ 1048576) (hl : l.length ≤ 1048576) (hr : ∀ r ∈ l, r.length ≤ 1048576) : Ev (fun k => laws_eqScheme.f k c o p q l c o p q l) true := by
  unfold laws_eqScheme.f
  simp only [if_true]
  refine Ev.bind (eqInt64S_same o ho) ?_
  simp only [if_true]
  refine Ev.bind (eqMatrix_same p q l hl hr) ?_
  simp only [if_true]
  exact Ev.now _
theorem spec_SameScheme_ev (c : Int) (o : List Int) (p q : Int) (l : List (List Int)) (c' : Int) (o' : List Int) (p' q' : Int) (l' : List (List Int)) (ho : o.length ≤ 4611686018427387904) (hl : l.length ≤ 4611686018427387904) (hr : ∀ r ∈ l, r.length ≤ 4611686018427387904) :
    Ev (fun k => spec_SameScheme.f k c o p q l c' o' p' q' l') (decide (c = c') && (decide (o = o') && decide (p = p' ∧ q = q' ∧ l = l'))) := by
  unfold spec_SameScheme.f
  by_cases h : c = c'
  · simp only [if_pos h, decide_eq_true h, Bool.true_and]
    refine Ev.bind (spec_l00Same_ev o o' ho) ?_
    by_cases h2 : o = o'
    · simp only [decide_eq_true h2, if_true, Bool.true_and]
      exact Ev.bind (spec_SameMatrix_ev p q l p' q' l' hl hr) (Ev.now _)
    · simp only [decide_eq_false h2, Bool.false_and]
      exact Ev.now _
  · simp only [if_neg h, decide_eq_false h, Bool.false_and]
    exact Ev.now _
theorem impl_SameScheme_ev (c : Int) (o : List Int) (p q : Int) (l : List (List Int)) (c' : Int) (o' : List Int) (p' q' : Int) (l' : List (List Int)) (ho : o.length ≤ 4611686018427387904) (hl : l.length ≤ 4611686018427387904) (hr : ∀ r ∈ l, r.length ≤ 4611686018427387904) :
    Ev (fun k => impl_SameScheme.f k c o p q l c' o' p' q' l') (decide (c = c') && (decide (o = o') && decide (p = p' ∧ q = q' ∧ l = l'))) := by
  unfold impl_SameScheme.f
  by_cases h : c = c'
  · simp only [if_pos h, decide_eq_true h, Bool.true_and]
    refine Ev.bind (sliceEq_ev o o' ho) ?_
    by_cases h2 : o = o'
    · simp only [decide_eq_true h2, if_true, Bool.true_and]
      exact Ev.bind (impl_SameMatrix_ev p q l p' q' l' hl hr) (Ev.now _)
    · simp only [decide_eq_false h2, Bool.false_and]
      exact Ev.now _
  · simp only [if_neg h, decide_eq_false h, Bool.false_and]
    exact Ev.now _

end Go.Proofs.Ytopgelloghblaaa.P

namespace Go.Proofs.Ytopgelloghblaaa.P
open Go.RowKit Go.Proofs.YtopgelloghblaaaW.PrintWords Go.Proofs.YtopgelloghblaaaW.PrintLast Go.Proofs.YtopgelloghblaaaW.PrintMore
attribute [local go_sem] max2_int min2_int max_two min_two max_three min_three max_four min_four
set_option linter.unusedVariables false
set_option linter.unusedSimpArgs false

/-! ### laws_heldInt64SS: function 72 -/
def laws_heldInt64SS.l0 : Nat → List (List Int) → Int → Int → Option (Int)
  | 0, _, _, _ => none
  | k + 1, x0, x1, x5 => if x5 < (x0.length : Int) then (if 0 ≤ x5 then ((laws_heldInt64S.f k (rd_L1 x0 x5) x1).bind fun t210 => (if t210 < 0 then (some (-1)) else (laws_heldInt64SS.l0 k x0 t210 (wrap64 (x5 + 1))))) else (none)) else (some x1)
def laws_heldInt64SS.f (k : Nat) (l0 : List (List Int)) (a1 : Int) : Option (Int) := laws_heldInt64SS.l0 k l0 a1 0
theorem laws_heldInt64SS.mono_l : ∀ k, (∀ y0 y1 y2, LeO (laws_heldInt64SS.l0 k y0 y1 y2) (laws_heldInt64SS.l0 (k + 1) y0 y1 y2))
  | 0 => fun _ _ _ r h => by simp [laws_heldInt64SS.l0] at h
  | k + 1 => by
    have ih0 := laws_heldInt64SS.mono_l k
    · intro y0 y1 y2
      unfold laws_heldInt64SS.l0
      repeat' first
      | (with_reducible exact ih0 _ _ _)
      | (with_reducible exact laws_heldInt64S.mono _ _ _)
      | (with_reducible exact LeO.refl _)
      | (with_reducible exact LeO.none _)
      | (with_reducible refine LeO.ite ?_ ?_)
      | (with_reducible refine LeO.bind ?_ (fun _ => ?_))
      | exact ih0 _ _ _
      | exact laws_heldInt64S.mono _ _ _
      | exact LeO.none _
      | refine LeO.ite ?_ ?_
      | refine LeO.bind ?_ (fun _ => ?_)
theorem laws_heldInt64SS.mono : ∀ a0 a1 k, LeO (laws_heldInt64SS.f k a0 a1) (laws_heldInt64SS.f (k + 1) a0 a1) := by
  intro a0 a1 k
  have ih0 := laws_heldInt64SS.mono_l k
  unfold laws_heldInt64SS.f
  repeat' first
      | (with_reducible exact ih0 _ _ _)
      | (with_reducible exact laws_heldInt64S.mono _ _ _)
      | (with_reducible exact LeO.refl _)
      | (with_reducible exact LeO.none _)
      | (with_reducible refine LeO.ite ?_ ?_)
      | (with_reducible refine LeO.bind ?_ (fun _ => ?_))
      | exact ih0 _ _ _
      | exact laws_heldInt64S.mono _ _ _
      | exact LeO.none _
      | refine LeO.ite ?_ ?_
      | refine LeO.bind ?_ (fun _ => ?_)
set_option maxHeartbeats 8000000 in
set_option maxRecDepth 100000 in
theorem laws_heldInt64SS.calls (k : Nat) (A0 : Option Addr) (c0 : Nat) (l0 : List (List Int)) (a1 : Int) (r : Int) (w : World) (hr0 : Kd.C (Kd.slice 2 (Kd.int .i64)) w A0 l0.length l0) (hc0 : l0.length ≤ c0) (h : laws_heldInt64SS.f k l0 a1 = some r) :
    Calls Try.prog 72 #[.slice A0 l0.length c0, .int .i64 a1] w fun e w' => e = .returned (.int .i64 r) ∧ Drawn0 w w' := by
  have HR0 := Aside0.mk hr0
  have HC0 := Aside0.mk hc0
  clear hr0 hc0
  have H : (laws_heldInt64SS.l0 k l0 a1 0) = some r := h
  clear h
  have H' := Aside0.mk H
  clear H
  go_enter Try.func72, Try.ntmps72
  go_wp2
  go_loopg [1, 5] k (fun kq v1 v5 w' => ∃ (x1_1 : Int) (x5_1 : Int), v1 = .int .i64 x1_1 ∧ v5 = .int .i64 x5_1 ∧ Aside0 (laws_heldInt64SS.l0 kq l0 x1_1 x5_1 = some r) ∧ Aside0 (kq ≤ k) ∧ Drawn0 w w')
  case atStart => exact ⟨(a1), (0), (by first | rfl | (simp; done) | (simp [*]; done)), (by first | rfl | (simp; done) | (simp [*]; done)), H', ⟨Nat.le_refl _⟩, by repeat (first | exact Drawn0.refl _ | apply Drawn0.step)⟩
  case round =>
    clear H'
    try clear p2
    obtain ⟨x1_1, x5_1, rfl, rfl, HA, HK1, ⟨m1, rfl⟩⟩ := hrel
    cases gk with
    | zero => exact absurd HA.out (by simp [laws_heldInt64SS.l0])
    | succ k1 =>
      have H := HA.out
      clear HA
      simp only [laws_heldInt64SS.l0] at H
      by_cases c3 : x5_1 < (l0.length : Int)
      · rw [if_pos c3] at H
        have c3b0 : decide (x5_1 < (l0.length : Int)) = true := decide_eq_true c3
        clear c3
        by_cases c4 : 0 ≤ x5_1
        · rw [if_pos c4] at H
          have c4b0 : decide (0 ≤ x5_1) = true := decide_eq_true c4
          clear c4
          replace H := Option.bind_eq_some_iff.mp H
          obtain ⟨t210, A50, H⟩ := H
          replace H : (if t210 < 0 then (some (-1)) else (laws_heldInt64SS.l0 k1 l0 t210 (wrap64 (x5_1 + 1)))) = some r := H
          have A5 := Aside0.mk A50
          clear A50
          by_cases c6 : t210 < 0
          · rw [if_pos c6] at H
            have c6b0 : decide (t210 < 0) = true := decide_eq_true c6
            clear c6
            obtain rfl := Option.some.inj H
            have p209 : 0 ≤ (x5_1 : Int) := of_decide_eq_true (by first | (with_reducible assumption) | assumption)
            have q209 : x5_1 < (l0.length : Int) := of_decide_eq_true (by first | (with_reducible assumption) | assumption)
            obtain ⟨ad209, A209_0, c209_0, e209, hx209_0, hl209_0, hi209_0⟩ := at_L1 HR0.out x5_1 p209 q209
            cases e209
            have HR209_0 := Aside0.mk hi209_0
            have HC209_0 := Aside0.mk hl209_0
            clear hi209_0 hl209_0
            replace p209 := eq_true p209
            replace q209 := eq_true q209
            go_wp2_with (first | ((with_reducible refine gate_callee (f := 41) rfl ?_); refine goesL_ (some 17) rfl rfl Try.func41 (by kernel_rfl) rfl #[.slice A209_0 (rd_L1 l0 x5_1).length c209_0, .int .i64 x1_1] rfl (by (try simp only [List.map_toArray, List.map_cons, List.map_nil]); first | done | rfl | (simp only [List.length_drop, List.length_take]; rfl)) ?_; (with_reducible refine (laws_heldInt64S.calls k1 _ _ (rd_L1 l0 x5_1) x1_1 t210 _ ?side1 ?side2 A5.out).mono ?_); (case side1 => repeat (first | exact HR209_0.out | (with_reducible refine Kd.C_alloc ?_ _) | (with_reducible refine Kd.C_drewN ?_ _) | (with_reducible refine Kd.C_drew ?_))); (case side2 => exact HC209_0.out); rintro e w' ⟨rfl, ⟨nd, rfl⟩⟩; refine ⟨_, rfl, ?_⟩))
            go_ret
            exact ⟨by first | rfl | (simp; done) | (simp [*]; done), by repeat (first | exact Drawn0.refl _ | apply Drawn0.step)⟩
          · rw [if_neg c6] at H
            have c6b0 : decide (t210 < 0) = false := decide_eq_false c6
            clear c6
            have H' := Aside0.mk H
            clear H
            have p209 : 0 ≤ (x5_1 : Int) := of_decide_eq_true (by first | (with_reducible assumption) | assumption)
            have q209 : x5_1 < (l0.length : Int) := of_decide_eq_true (by first | (with_reducible assumption) | assumption)
            obtain ⟨ad209, A209_0, c209_0, e209, hx209_0, hl209_0, hi209_0⟩ := at_L1 HR0.out x5_1 p209 q209
            cases e209
            have HR209_0 := Aside0.mk hi209_0
            have HC209_0 := Aside0.mk hl209_0
            clear hi209_0 hl209_0
            replace p209 := eq_true p209
            replace q209 := eq_true q209
            go_wp2_with (first | ((with_reducible refine gate_callee (f := 41) rfl ?_); refine goesL_ (some 17) rfl rfl Try.func41 (by kernel_rfl) rfl #[.slice A209_0 (rd_L1 l0 x5_1).length c209_0, .int .i64 x1_1] rfl (by (try simp only [List.map_toArray, List.map_cons, List.map_nil]); first | done | rfl | (simp only [List.length_drop, List.length_take]; rfl)) ?_; (with_reducible refine (laws_heldInt64S.calls k1 _ _ (rd_L1 l0 x5_1) x1_1 t210 _ ?side1 ?side2 A5.out).mono ?_); (case side1 => repeat (first | exact HR209_0.out | (with_reducible refine Kd.C_alloc ?_ _) | (with_reducible refine Kd.C_drewN ?_ _) | (with_reducible refine Kd.C_drew ?_))); (case side2 => exact HC209_0.out); rintro e w' ⟨rfl, ⟨nd, rfl⟩⟩; refine ⟨_, rfl, ?_⟩))
            go_roundg k1
            case measure => have := HK1.out; omega
            case rel => exact ⟨(t210), (wrap64 (x5_1 + 1)), (by first | rfl | (simp; done) | (simp [*]; done)), (by first | rfl | (simp; done) | (simp [*]; done)), H', ⟨by have := HK1.out; omega⟩, by repeat (first | exact Drawn0.refl _ | apply Drawn0.step)⟩
        · rw [if_neg c4] at H
          exact absurd H (by simp)
      · rw [if_neg c3] at H
        have c3b0 : decide (x5_1 < (l0.length : Int)) = false := decide_eq_false c3
        clear c3
        obtain rfl := Option.some.inj H
        go_wp2
        go_ret
        exact ⟨by first | rfl | (simp; done) | (simp [*]; done), by repeat (first | exact Drawn0.refl _ | apply Drawn0.step)⟩

end Go.Proofs.Ytopgelloghblaaa.P

namespace Go.Proofs.Ytopgelloghblaaa.P
open Go.RowKit Go.Proofs.YtopgelloghblaaaW.PrintWords Go.Proofs.YtopgelloghblaaaW.PrintLast Go.Proofs.YtopgelloghblaaaW.PrintMore
attribute [local go_sem] max2_int min2_int max_two min_two max_three min_three max_four min_four
set_option linter.unusedVariables false
set_option linter.unusedSimpArgs false

/-! ### laws_heldMatrix: function 28 -/
def laws_heldMatrix.f (k : Nat) (a0_0 : Int) (a0_1 : Int) (l0_2 : List (List Int)) (a1 : Int) : Option (Int) := (laws_heldInt64SS.f k l0_2 a1).bind fun t212 => (if t212 < 0 then (some (-1)) else (some t212))
theorem laws_heldMatrix.mono : ∀ a0 a1 a2 a3 k, LeO (laws_heldMatrix.f k a0 a1 a2 a3) (laws_heldMatrix.f (k + 1) a0 a1 a2 a3) := by
  intro a0 a1 a2 a3 k
  unfold laws_heldMatrix.f
  repeat' first
      | (with_reducible exact laws_heldInt64SS.mono _ _ _)
      | (with_reducible exact LeO.refl _)
      | (with_reducible exact LeO.none _)
      | (with_reducible refine LeO.ite ?_ ?_)
      | (with_reducible refine LeO.bind ?_ (fun _ => ?_))
      | exact laws_heldInt64SS.mono _ _ _
      | exact LeO.none _
      | refine LeO.ite ?_ ?_
      | refine LeO.bind ?_ (fun _ => ?_)
set_option maxHeartbeats 8000000 in
set_option maxRecDepth 100000 in
theorem laws_heldMatrix.calls (k : Nat) (a0_0 : Int) (a0_1 : Int) (A0_2 : Option Addr) (c0_2 : Nat) (l0_2 : List (List Int)) (a1 : Int) (r : Int) (w : World) (hr0_2 : Kd.C (Kd.slice 2 (Kd.int .i64)) w A0_2 l0_2.length l0_2) (hc0_2 : l0_2.length ≤ c0_2) (h : laws_heldMatrix.f k a0_0 a0_1 l0_2 a1 = some r) :
    Calls Try.prog 28 #[.agg #[.int .i64 a0_0, .int .i64 a0_1, .slice A0_2 l0_2.length c0_2], .int .i64 a1] w fun e w' => e = .returned (.int .i64 r) ∧ Below w.heap.size w w' := by
  have hu27 := Try.underlying27
  have HR0_2 := Aside0.mk hr0_2
  have HC0_2 := Aside0.mk hc0_2
  clear hr0_2 hc0_2
  have HB := Aside0.mk (Below.refl w.heap.size w)
  have H : ((laws_heldInt64SS.f k l0_2 a1).bind fun t212 => (if t212 < 0 then (some (-1)) else (some t212))) = some r := h
  clear h
  replace H := Option.bind_eq_some_iff.mp H
  obtain ⟨t212, A30, H⟩ := H
  replace H : (if t212 < 0 then (some (-1)) else (some t212)) = some r := H
  have A3 := Aside0.mk A30
  clear A30
  by_cases c4 : t212 < 0
  · rw [if_pos c4] at H
    have c4b0 : decide (t212 < 0) = true := decide_eq_true c4
    clear c4
    obtain rfl := Option.some.inj H
    go_enter Try.func28, Try.ntmps28
    go_wp2_with (first | ((with_reducible refine gate_dst (N := 2) rfl ?_); refine box_event ?hg (N := 2) ?hd (cs := #[.int .i64 a0_0, .int .i64 a0_1, .slice A0_2 l0_2.length c0_2]) (t := 27) ?hr ?_; (case hd => rfl); (case hg => rfl); (case hr => first | (go_simp; done) | (go_simp; rfl)); intro gb211 hg w5 hbox hb; have n0_ := Aside0.mk (below_step (by repeat (first | (with_reducible first | exact HB.out | apply below_alloc | apply pw_below_drewN | apply below_drew1) | exact HB.out)) hb); have n1_ := Aside0.mk (hbox); have n2_ := Aside0.mk ((by rw [hg]; exact (below_size (by repeat (first | (with_reducible first | exact HB.out | apply below_alloc | apply pw_below_drewN | apply below_drew1) | exact HB.out))) : w.heap.size ≤ gb211)); have n3_ := Aside0.mk ((by rw [hg]; exact (below_size (by repeat (first | (with_reducible first | exact HB.out | apply below_alloc | apply pw_below_drewN | apply below_drew1) | exact HB.out))) : w.heap.size ≤ gb211)); clear HB; have HB := n0_; have BK211 := n1_; have GW211 := n2_; have GE211 := n3_; clear n0_ n1_ n2_ n3_; clear hb hbox hg; have hcz6_0 : w5.cell? ⟨gb211, 0, none⟩ = some (.int .i64 a0_0) := (blk_cell BK211.out 0).trans rfl; have hcz6_1 : w5.cell? ⟨gb211, 1, none⟩ = some (.int .i64 a0_1) := (blk_cell BK211.out 1).trans rfl; have hcz6_2 : w5.cell? ⟨gb211, 2, none⟩ = some (.slice A0_2 l0_2.length c0_2) := (blk_cell BK211.out 2).trans rfl; have hfz6_0 := blk_frozen BK211.out 0; have hfz6_1 := blk_frozen BK211.out 1; have hfz6_2 := blk_frozen BK211.out 2) | ((with_reducible refine gate_callee (f := 72) rfl ?_); refine goesL_ (some 8) rfl rfl Try.func72 (by kernel_rfl) rfl #[.slice A0_2 l0_2.length c0_2, .int .i64 a1] rfl (by (try simp only [List.map_toArray, List.map_cons, List.map_nil]); first | done | rfl | (simp only [List.length_drop, List.length_take]; rfl)) ?_; (with_reducible refine (laws_heldInt64SS.calls k _ _ l0_2 a1 t212 _ ?side1 ?side2 A3.out).mono ?_); (case side1 => repeat (first | exact (Kd.C_below HR0_2.out HB.out) | (with_reducible refine Kd.C_alloc ?_ _) | (with_reducible refine Kd.C_drewN ?_ _) | (with_reducible refine Kd.C_drew ?_))); (case side2 => exact HC0_2.out); rintro e w' ⟨rfl, ⟨nd, rfl⟩⟩; refine ⟨_, rfl, ?_⟩))
    go_ret
    exact ⟨by first | rfl | (simp [errW_none, errW_some] <;> rfl) | (simp [*, errW_none, errW_some] <;> rfl), by repeat (first | (with_reducible first | exact HB.out | apply below_alloc | apply pw_below_drewN | apply below_drew1 | refine below_set ?_ GE211.out) | exact HB.out)⟩
  · rw [if_neg c4] at H
    have c4b0 : decide (t212 < 0) = false := decide_eq_false c4
    clear c4
    obtain rfl := Option.some.inj H
    go_enter Try.func28, Try.ntmps28
    go_wp2_with (first | ((with_reducible refine gate_dst (N := 2) rfl ?_); refine box_event ?hg (N := 2) ?hd (cs := #[.int .i64 a0_0, .int .i64 a0_1, .slice A0_2 l0_2.length c0_2]) (t := 27) ?hr ?_; (case hd => rfl); (case hg => rfl); (case hr => first | (go_simp; done) | (go_simp; rfl)); intro gb211 hg w7 hbox hb; have n0_ := Aside0.mk (below_step (by repeat (first | (with_reducible first | exact HB.out | apply below_alloc | apply pw_below_drewN | apply below_drew1) | exact HB.out)) hb); have n1_ := Aside0.mk (hbox); have n2_ := Aside0.mk ((by rw [hg]; exact (below_size (by repeat (first | (with_reducible first | exact HB.out | apply below_alloc | apply pw_below_drewN | apply below_drew1) | exact HB.out))) : w.heap.size ≤ gb211)); have n3_ := Aside0.mk ((by rw [hg]; exact (below_size (by repeat (first | (with_reducible first | exact HB.out | apply below_alloc | apply pw_below_drewN | apply below_drew1) | exact HB.out))) : w.heap.size ≤ gb211)); clear HB; have HB := n0_; have BK211 := n1_; have GW211 := n2_; have GE211 := n3_; clear n0_ n1_ n2_ n3_; clear hb hbox hg; have hcz8_0 : w7.cell? ⟨gb211, 0, none⟩ = some (.int .i64 a0_0) := (blk_cell BK211.out 0).trans rfl; have hcz8_1 : w7.cell? ⟨gb211, 1, none⟩ = some (.int .i64 a0_1) := (blk_cell BK211.out 1).trans rfl; have hcz8_2 : w7.cell? ⟨gb211, 2, none⟩ = some (.slice A0_2 l0_2.length c0_2) := (blk_cell BK211.out 2).trans rfl; have hfz8_0 := blk_frozen BK211.out 0; have hfz8_1 := blk_frozen BK211.out 1; have hfz8_2 := blk_frozen BK211.out 2) | ((with_reducible refine gate_callee (f := 72) rfl ?_); refine goesL_ (some 8) rfl rfl Try.func72 (by kernel_rfl) rfl #[.slice A0_2 l0_2.length c0_2, .int .i64 a1] rfl (by (try simp only [List.map_toArray, List.map_cons, List.map_nil]); first | done | rfl | (simp only [List.length_drop, List.length_take]; rfl)) ?_; (with_reducible refine (laws_heldInt64SS.calls k _ _ l0_2 a1 t212 _ ?side1 ?side2 A3.out).mono ?_); (case side1 => repeat (first | exact (Kd.C_below HR0_2.out HB.out) | (with_reducible refine Kd.C_alloc ?_ _) | (with_reducible refine Kd.C_drewN ?_ _) | (with_reducible refine Kd.C_drew ?_))); (case side2 => exact HC0_2.out); rintro e w' ⟨rfl, ⟨nd, rfl⟩⟩; refine ⟨_, rfl, ?_⟩))
    go_ret
    exact ⟨by first | rfl | (simp [errW_none, errW_some] <;> rfl) | (simp [*, errW_none, errW_some] <;> rfl), by repeat (first | (with_reducible first | exact HB.out | apply below_alloc | apply pw_below_drewN | apply below_drew1 | refine below_set ?_ GE211.out) | exact HB.out)⟩

end Go.Proofs.Ytopgelloghblaaa.P

namespace Go.Proofs.Ytopgelloghblaaa.P
open Go.RowKit Go.Proofs.YtopgelloghblaaaW.PrintWords Go.Proofs.YtopgelloghblaaaW.PrintLast Go.Proofs.YtopgelloghblaaaW.PrintMore
attribute [local go_sem] max2_int min2_int max_two min_two max_three min_three max_four min_four
set_option linter.unusedVariables false
set_option linter.unusedSimpArgs false

/-- The numbers from a on, n of them: what a mark leaves. -/
def upFrom (a : Int) (n : Nat) : List Int := (List.range n).map fun i : Nat => a + (i : Int)
theorem upFrom_length (a : Int) (n : Nat) : (upFrom a n).length = n := by simp [upFrom]
theorem upFrom_succ (a : Int) (n : Nat) : upFrom a (n + 1) = upFrom a n ++ [a + (n : Int)] := by simp [upFrom, List.range_succ]
/-- A loop that writes one place after another. -/
theorem markInt64S_ev (l : List Int) (a : Int) (ha : 0 ≤ a ∧ a ≤ 2147483648) (hl : l.length ≤ 4611686018427387904) : Ev (fun k => laws_markInt64S.f k l a) (a + (l.length : Int), upFrom a l.length) := by
  unfold laws_markInt64S.f
  have key : ∀ d i : Nat, i + d = l.length → Ev (fun k => laws_markInt64S.l0 k (upFrom a i ++ l.drop i) (a + (i : Int)) (i : Int)) (a + (l.length : Int), upFrom a l.length) := by
    intro d
    induction d with
    | zero =>
      intro i hi
      obtain rfl : i = l.length := by omega
      refine Ev.step (f := fun _ => some (a + (l.length : Int), upFrom a l.length)) (fun k => ?_) (Ev.now _)
      simp only [laws_markInt64S.l0]
      rw [if_neg (by simp [upFrom_length]), List.drop_length, List.append_nil]
    | succ d ih =>
      intro i hi
      have hlt : i < l.length := by omega
      refine Ev.step (fun k => ?_) (ih (i + 1) (by omega))
      simp only [laws_markInt64S.l0]
      rw [if_pos (by simp [upFrom_length]; omega), if_pos (by omega), wr (by omega) (by omega), wr (by omega) (by omega), Int.toNat_natCast, List.set_append_right _ _ (by rw [upFrom_length]; exact Nat.le_refl _), upFrom_length, Nat.sub_self, List.drop_eq_getElem_cons hlt, List.set_cons_zero, upFrom_succ, List.append_assoc]
      rw [show a + (i : Int) + 1 = a + ((i + 1 : Nat) : Int) by omega]
      rfl
  have := key l.length 0 (by omega)
  simpa [upFrom] using this
theorem heldInt64S_ev (a : Int) (n : Nat) (ha : 0 ≤ a ∧ a ≤ 2147483648) (hl : n ≤ 4611686018427387904) : Ev (fun k => laws_heldInt64S.f k (upFrom a n) a) (a + (n : Int)) := by
  unfold laws_heldInt64S.f
  have key : ∀ d i : Nat, i + d = n → Ev (fun k => laws_heldInt64S.l0 k (upFrom a n) (a + (i : Int)) (i : Int)) (a + (n : Int)) := by
    intro d
    induction d with
    | zero =>
      intro i hi
      obtain rfl : i = n := by omega
      refine Ev.step (f := fun _ => some (a + (i : Int))) (fun k => ?_) (Ev.now _)
      simp only [laws_heldInt64S.l0]
      rw [if_neg (by simp [upFrom_length])]
    | succ d ih =>
      intro i hi
      have hlt : i < (upFrom a n).length := by rw [upFrom_length]; omega
      refine Ev.step (fun k => ?_) (ih (i + 1) (by omega))
      simp only [laws_heldInt64S.l0]
      rw [if_pos (by simp [upFrom_length]; omega), if_pos (by omega), rd_nat _ i hlt, if_pos (by simp [upFrom]), wr (by omega) (by omega), wr (by omega) (by omega)]
      rw [show a + (i : Int) + 1 = a + ((i + 1 : Nat) : Int) by omega]
      rfl
  have := key n 0 (by omega)
  simpa using this
/-- How many values the first i rows hold. -/
def preLen (rows : List (List Int)) (i : Nat) : Nat := ((rows.map List.length).take i).sum
def allLen (rows : List (List Int)) : Nat := (rows.map List.length).sum
def upRow (a : Int) (rows : List (List Int)) (i : Nat) : List Int := upFrom (a + (preLen rows i : Int)) ((rows.map List.length).getD i 0)
/-- Rows as a mark leaves them. -/
def upRows (a : Int) (rows : List (List Int)) : List (List Int) := (List.range rows.length).map (upRow a rows)
theorem preLen_succ (rows : List (List Int)) (i : Nat) (h : i < rows.length) : preLen rows (i + 1) = preLen rows i + rows[i].length := by
  have := sum_take_succ (rows.map List.length) i (by simpa using h)
  rwa [List.getElem_map] at this
theorem preLen_le (rows : List (List Int)) (i : Nat) : preLen rows i ≤ allLen rows := sum_take_le _ _
theorem preLen_end (rows : List (List Int)) : preLen rows rows.length = allLen rows := by
  unfold preLen allLen
  rw [List.take_of_length_le (by simp)]
theorem upRows_length (a : Int) (rows : List (List Int)) : (upRows a rows).length = rows.length := by simp [upRows]
theorem upRow_eq (a : Int) (rows : List (List Int)) (i : Nat) (h : i < rows.length) : upRow a rows i = upFrom (a + (preLen rows i : Int)) rows[i].length := by
  unfold upRow
  rw [List.getD_eq_getElem?_getD, List.getElem?_map, List.getElem?_eq_getElem h]
  rfl
theorem markInt64SS_ev (rows : List (List Int)) (a : Int) (ha : 0 ≤ a ∧ a ≤ 1073741824) (hl : rows.length ≤ 1073741824) (hs : allLen rows ≤ 1073741824) : Ev (fun k => laws_markInt64SS.f k rows a) (a + (allLen rows : Int), upRows a rows) := by
  unfold laws_markInt64SS.f
  have key : ∀ d i : Nat, i + d = rows.length → Ev (fun k => laws_markInt64SS.l0 k ((List.range i).map (upRow a rows) ++ rows.drop i) (a + (preLen rows i : Int)) (i : Int)) (a + (allLen rows : Int), upRows a rows) := by
    intro d
    induction d with
    | zero =>
      intro i hi
      obtain rfl : i = rows.length := by omega
      refine Ev.step (f := fun _ => some (a + (allLen rows : Int), upRows a rows)) (fun k => ?_) (Ev.now _)
      simp only [laws_markInt64SS.l0]
      rw [if_neg (by simp), List.drop_length, List.append_nil, preLen_end]
      rfl
    | succ d ih =>
      intro i hi
      have hlt : i < rows.length := by omega
      have hp := preLen_succ rows i hlt
      have hp2 := preLen_le rows (i + 1)
      have hrow : rd_L1 ((List.range i).map (upRow a rows) ++ rows.drop i) (i : Int) = rows[i] := by
        rw [rdL_nat _ i (by simp; omega), List.getElem_append_right (by simp)]
        simp
      refine Ev.step (f := fun k => (laws_markInt64S.f k rows[i] (a + (preLen rows i : Int))).bind fun t => laws_markInt64SS.l0 k (((List.range i).map (upRow a rows) ++ rows.drop i).set i t.2) t.1 ((i + 1 : Nat) : Int)) (fun k => ?_) (Ev.bind (markInt64S_ev rows[i] _ (by omega) (by omega)) ?_)
      · simp only [laws_markInt64SS.l0]
        rw [if_pos (by simp; omega), if_pos (by omega), hrow, wr (by omega) (by omega), Int.toNat_natCast]
        rfl
      · have e : ((List.range i).map (upRow a rows) ++ rows.drop i).set i (upFrom (a + (preLen rows i : Int)) rows[i].length) = (List.range (i + 1)).map (upRow a rows) ++ rows.drop (i + 1) := by
          rw [List.set_append_right _ _ (by simp), List.length_map, List.length_range, Nat.sub_self, List.drop_eq_getElem_cons hlt, List.set_cons_zero, List.range_succ, List.map_append, List.append_assoc, ← upRow_eq a rows i hlt]
          rfl
        simp only [e]
        rw [show a + (preLen rows i : Int) + (rows[i].length : Int) = a + (preLen rows (i + 1) : Int) by omega]
        exact ih (i + 1) (by omega)
  have := key rows.length 0 (by omega)
  simpa [preLen] using this
theorem heldInt64SS_ev (rows : List (List Int)) (a : Int) (ha : 0 ≤ a ∧ a ≤ 1073741824) (hl : rows.length ≤ 1073741824) (hs : allLen rows ≤ 1073741824) : Ev (fun k => laws_heldInt64SS.f k (upRows a rows) a) (a + (allLen rows : Int)) := by
  unfold laws_heldInt64SS.f
  have key : ∀ d i : Nat, i + d = rows.length → Ev (fun k => laws_heldInt64SS.l0 k (upRows a rows) (a + (preLen rows i : Int)) (i : Int)) (a + (allLen rows : Int)) := by
    intro d
    induction d with
    | zero =>
      intro i hi
      obtain rfl : i = rows.length := by omega
      refine Ev.step (f := fun _ => some (a + (allLen rows : Int))) (fun k => ?_) (Ev.now _)
      simp only [laws_heldInt64SS.l0]
      rw [if_neg (by simp [upRows_length]), preLen_end]
    | succ d ih =>
      intro i hi
      have hlt : i < rows.length := by omega
      have hp := preLen_succ rows i hlt
      have hp2 := preLen_le rows (i + 1)
      have hlt' : i < (upRows a rows).length := by rw [upRows_length]; exact hlt
      have hrow : rd_L1 (upRows a rows) (i : Int) = upFrom (a + (preLen rows i : Int)) rows[i].length := by
        rw [rdL_nat _ i hlt', ← upRow_eq a rows i hlt]
        simp [upRows]
      refine Ev.step (f := fun k => (laws_heldInt64S.f k (upFrom (a + (preLen rows i : Int)) rows[i].length) (a + (preLen rows i : Int))).bind fun t => if t < 0 then some (-1) else laws_heldInt64SS.l0 k (upRows a rows) t ((i + 1 : Nat) : Int)) (fun k => ?_) (Ev.bind (heldInt64S_ev (a + (preLen rows i : Int)) rows[i].length (by omega) (by omega)) ?_)
      · simp only [laws_heldInt64SS.l0]
        rw [if_pos (by simp [upRows_length]; omega), if_pos (by omega), hrow, wr (by omega) (by omega)]
        rfl
      · simp only [if_neg (show ¬ (a + (preLen rows i : Int) + (rows[i].length : Int) < 0) by omega)]
        rw [show a + (preLen rows i : Int) + (rows[i].length : Int) = a + (preLen rows (i + 1) : Int) by omega]
        exact ih (i + 1) (by omega)
  have := key rows.length 0 (by omega)
  simpa [preLen] using this
theorem markMatrix_ev (p c : Int) (rows : List (List Int)) (a : Int) (ha : 0 ≤ a ∧ a ≤ 1073741824) (hl : rows.length ≤ 1073741824) (hs : allLen rows ≤ 1073741824) : Ev (fun k => laws_markMatrix.f k p c rows a) (a + (allLen rows : Int), upRows a rows) := by
  unfold laws_markMatrix.f
  exact markInt64SS_ev rows a ha hl hs
theorem heldMatrix_ev (p c : Int) (rows : List (List Int)) (a : Int) (ha : 0 ≤ a ∧ a ≤ 1073741824) (hl : rows.length ≤ 1073741824) (hs : allLen rows ≤ 1073741824) : Ev (fun k => laws_heldMatrix.f k p c (upRows a rows) a) (a + (allLen rows : Int)) := by
  unfold laws_heldMatrix.f
  refine Ev.bind (heldInt64SS_ev rows a ha hl hs) ?_
  simp only [if_neg (show ¬ (a + (allLen rows : Int) < 0) by omega)]
  exact Ev.now _
theorem markScheme_ev (h : Int) (o : List Int) (p c : Int) (rows : List (List Int)) (a : Int) (ha : 0 ≤ a ∧ a ≤ 1073740000) (ho : o.length ≤ 1048576) (hl : rows.length ≤ 1073741824) (hs : allLen rows ≤ 1073741824) (hb : a + (o.length : Int) ≤ 1073741824) : Ev (fun k => laws_markScheme.f k h o p c rows a) (a + (o.length : Int) + (allLen rows : Int), upFrom a o.length, upRows (a + (o.length : Int)) rows) := by
  unfold laws_markScheme.f
  refine Ev.bind (markInt64S_ev o a (by omega) (by omega)) (Ev.bind (markMatrix_ev p c rows _ (by omega) hl hs) (Ev.now _))

end Go.Proofs.Ytopgelloghblaaa.P

namespace Go.Proofs.Ytopgelloghblaaa.P
open Go.RowKit Go.Proofs.YtopgelloghblaaaW.PrintWords Go.Proofs.YtopgelloghblaaaW.PrintLast Go.Proofs.YtopgelloghblaaaW.PrintMore
attribute [local go_sem] max2_int min2_int max_two min_two max_three min_three max_four min_four
set_option linter.unusedVariables false
set_option linter.unusedSimpArgs false

/-! ### spec_ValidScheme: function 44 -/
def spec_ValidScheme.f (k : Nat) (a0_0 : Int) (l0_1 : List Int) (a0_2 : Int) (a0_3 : Int) (l0_4 : List (List Int)) : Option (Bool) := (spec_l04Ok.f k a0_0 l0_1 a0_2 a0_3 l0_4).bind fun t487 => (some t487)
theorem spec_ValidScheme.mono : ∀ a0 a1 a2 a3 a4 k, LeO (spec_ValidScheme.f k a0 a1 a2 a3 a4) (spec_ValidScheme.f (k + 1) a0 a1 a2 a3 a4) := by
  intro a0 a1 a2 a3 a4 k
  unfold spec_ValidScheme.f
  repeat' first
      | (with_reducible exact spec_l04Ok.mono _ _ _ _ _ _)
      | (with_reducible exact LeO.refl _)
      | (with_reducible exact LeO.none _)
      | (with_reducible refine LeO.ite ?_ ?_)
      | (with_reducible refine LeO.bind ?_ (fun _ => ?_))
      | exact spec_l04Ok.mono _ _ _ _ _ _
      | exact LeO.none _
      | refine LeO.ite ?_ ?_
      | refine LeO.bind ?_ (fun _ => ?_)
set_option maxHeartbeats 8000000 in
set_option maxRecDepth 100000 in
theorem spec_ValidScheme.calls (k : Nat) (a0_0 : Int) (A0_1 : Option Addr) (c0_1 : Nat) (l0_1 : List Int) (a0_2 : Int) (a0_3 : Int) (A0_4 : Option Addr) (c0_4 : Nat) (l0_4 : List (List Int)) (r : Bool) (w : World) (hr0_1 : Kd.C (Kd.int .i64) w A0_1 l0_1.length l0_1) (hc0_1 : l0_1.length ≤ c0_1) (hr0_4 : Kd.C (Kd.slice 2 (Kd.int .i64)) w A0_4 l0_4.length l0_4) (hc0_4 : l0_4.length ≤ c0_4) (h : spec_ValidScheme.f k a0_0 l0_1 a0_2 a0_3 l0_4 = some r) :
    Calls Try.prog 44 #[.agg #[.int .i64 a0_0, .slice A0_1 l0_1.length c0_1, .int .i64 a0_2, .int .i64 a0_3, .slice A0_4 l0_4.length c0_4]] w fun e w' => e = .returned (.bool r) ∧ Below w.heap.size w w' := by
  have hu48 := Try.underlying48
  have HR0_1 := Aside0.mk hr0_1
  have HC0_1 := Aside0.mk hc0_1
  clear hr0_1 hc0_1
  have HR0_4 := Aside0.mk hr0_4
  have HC0_4 := Aside0.mk hc0_4
  clear hr0_4 hc0_4
  have HB := Aside0.mk (Below.refl w.heap.size w)
  have H : ((spec_l04Ok.f k a0_0 l0_1 a0_2 a0_3 l0_4).bind fun t487 => (some t487)) = some r := h
  clear h
  replace H := Option.bind_eq_some_iff.mp H
  obtain ⟨t487, A20, H⟩ := H
  replace H : (some t487) = some r := H
  have A2 := Aside0.mk A20
  clear A20
  obtain rfl := Option.some.inj H
  go_enter Try.func44, Try.ntmps44
  go_wp2_with (first | ((with_reducible refine gate_dst (N := 1) rfl ?_); refine box_event ?hg (N := 1) ?hd (cs := #[.int .i64 a0_0, .slice A0_1 l0_1.length c0_1, .int .i64 a0_2, .int .i64 a0_3, .slice A0_4 l0_4.length c0_4]) (t := 48) ?hr ?_; (case hd => rfl); (case hg => rfl); (case hr => first | (go_simp; done) | (go_simp; rfl)); intro gb486 hg w3 hbox hb; have n0_ := Aside0.mk (below_step (by repeat (first | (with_reducible first | exact HB.out | apply below_alloc | apply pw_below_drewN | apply below_drew1) | exact HB.out)) hb); have n1_ := Aside0.mk (hbox); have n2_ := Aside0.mk ((by rw [hg]; exact (below_size (by repeat (first | (with_reducible first | exact HB.out | apply below_alloc | apply pw_below_drewN | apply below_drew1) | exact HB.out))) : w.heap.size ≤ gb486)); have n3_ := Aside0.mk ((by rw [hg]; exact (below_size (by repeat (first | (with_reducible first | exact HB.out | apply below_alloc | apply pw_below_drewN | apply below_drew1) | exact HB.out))) : w.heap.size ≤ gb486)); clear HB; have HB := n0_; have BK486 := n1_; have GW486 := n2_; have GE486 := n3_; clear n0_ n1_ n2_ n3_; clear hb hbox hg) | ((with_reducible refine gate_callee (f := 82) rfl ?_); refine goesL_ (some 3) rfl rfl Try.func82 (by kernel_rfl) rfl #[.pointer (some ⟨gb486, 0, none⟩)] rfl (by (try simp only [List.map_toArray, List.map_cons, List.map_nil]); first | done | rfl | (simp only [List.length_drop, List.length_take]; rfl)) ?_; (with_reducible refine (spec_l04Ok.calls k gb486 a0_0 A0_1 c0_1 l0_1 a0_2 a0_3 A0_4 c0_4 l0_4 t487 _ ?side1 ?side2 ?side3 ?side4 ?side5 A2.out).mono ?_); (case side1 => (with_reducible repeat (first | refine blk_drewN ?_ _ | refine blk_drew ?_ | refine blk_alloc ?_ _)); exact BK486.out); (case side2 => repeat (first | exact (Kd.C_below HR0_1.out HB.out) | (with_reducible refine Kd.C_alloc ?_ _) | (with_reducible refine Kd.C_drewN ?_ _) | (with_reducible refine Kd.C_drew ?_))); (case side3 => exact HC0_1.out); (case side4 => repeat (first | exact (Kd.C_below HR0_4.out HB.out) | (with_reducible refine Kd.C_alloc ?_ _) | (with_reducible refine Kd.C_drewN ?_ _) | (with_reducible refine Kd.C_drew ?_))); (case side5 => exact HC0_4.out); rintro e w4 ⟨rfl, hb⟩; refine ⟨_, rfl, ?_⟩; have n0_ := Aside0.mk (blk_below (g := gb486) (o := .cells #[.int .i64 a0_0, .slice A0_1 l0_1.length c0_1, .int .i64 a0_2, .int .i64 a0_3, .slice A0_4 l0_4.length c0_4] 48 (0, 0)) (by (with_reducible repeat (first | refine blk_drewN ?_ _ | refine blk_drew ?_ | refine blk_alloc ?_ _)); exact BK486.out) hb); have n1_ := Aside0.mk (below_step (by repeat (first | (with_reducible first | exact HB.out | apply below_alloc | apply pw_below_drewN | apply below_drew1 | refine below_set ?_ GE486.out) | exact HB.out)) hb); clear BK486; clear HB; have BK486 := n0_; have HB := n1_; clear n0_ n1_; (try clear hb); (try clear hb2); (try clear hk); (try clear hi)))
  go_ret
  exact ⟨by first | rfl | (simp [errW_none, errW_some] <;> rfl) | (simp [*, errW_none, errW_some] <;> rfl), by repeat (first | (with_reducible first | exact HB.out | apply below_alloc | apply pw_below_drewN | apply below_drew1 | refine below_set ?_ GE486.out) | exact HB.out)⟩

end Go.Proofs.Ytopgelloghblaaa.P

namespace Go.Proofs.Ytopgelloghblaaa.P
open Go.RowKit Go.Proofs.YtopgelloghblaaaW.PrintWords Go.Proofs.YtopgelloghblaaaW.PrintLast Go.Proofs.YtopgelloghblaaaW.PrintMore
attribute [local go_sem] max2_int min2_int max_two min_two max_three min_three max_four min_four
set_option linter.unusedVariables false
set_option linter.unusedSimpArgs false

/-! ### spec_ValidMatrix: function 16 -/
def spec_ValidMatrix.f (k : Nat) (a0_0 : Int) (a0_1 : Int) (l0_2 : List (List Int)) : Option (Bool) := (spec_l03Ok.f k a0_0 a0_1 l0_2).bind fun t114 => (some t114)
theorem spec_ValidMatrix.mono : ∀ a0 a1 a2 k, LeO (spec_ValidMatrix.f k a0 a1 a2) (spec_ValidMatrix.f (k + 1) a0 a1 a2) := by
  intro a0 a1 a2 k
  unfold spec_ValidMatrix.f
  repeat' first
      | (with_reducible exact spec_l03Ok.mono _ _ _ _)
      | (with_reducible exact LeO.refl _)
      | (with_reducible exact LeO.none _)
      | (with_reducible refine LeO.ite ?_ ?_)
      | (with_reducible refine LeO.bind ?_ (fun _ => ?_))
      | exact spec_l03Ok.mono _ _ _ _
      | exact LeO.none _
      | refine LeO.ite ?_ ?_
      | refine LeO.bind ?_ (fun _ => ?_)
set_option maxHeartbeats 8000000 in
set_option maxRecDepth 100000 in
theorem spec_ValidMatrix.calls (k : Nat) (a0_0 : Int) (a0_1 : Int) (A0_2 : Option Addr) (c0_2 : Nat) (l0_2 : List (List Int)) (r : Bool) (w : World) (hr0_2 : Kd.C (Kd.slice 2 (Kd.int .i64)) w A0_2 l0_2.length l0_2) (hc0_2 : l0_2.length ≤ c0_2) (h : spec_ValidMatrix.f k a0_0 a0_1 l0_2 = some r) :
    Calls Try.prog 16 #[.agg #[.int .i64 a0_0, .int .i64 a0_1, .slice A0_2 l0_2.length c0_2]] w fun e w' => e = .returned (.bool r) ∧ Below w.heap.size w w' := by
  have hu27 := Try.underlying27
  have HR0_2 := Aside0.mk hr0_2
  have HC0_2 := Aside0.mk hc0_2
  clear hr0_2 hc0_2
  have HB := Aside0.mk (Below.refl w.heap.size w)
  have H : ((spec_l03Ok.f k a0_0 a0_1 l0_2).bind fun t114 => (some t114)) = some r := h
  clear h
  replace H := Option.bind_eq_some_iff.mp H
  obtain ⟨t114, A20, H⟩ := H
  replace H : (some t114) = some r := H
  have A2 := Aside0.mk A20
  clear A20
  obtain rfl := Option.some.inj H
  go_enter Try.func16, Try.ntmps16
  go_wp2_with (first | ((with_reducible refine gate_dst (N := 1) rfl ?_); refine box_event ?hg (N := 1) ?hd (cs := #[.int .i64 a0_0, .int .i64 a0_1, .slice A0_2 l0_2.length c0_2]) (t := 27) ?hr ?_; (case hd => rfl); (case hg => rfl); (case hr => first | (go_simp; done) | (go_simp; rfl)); intro gb113 hg w3 hbox hb; have n0_ := Aside0.mk (below_step (by repeat (first | (with_reducible first | exact HB.out | apply below_alloc | apply pw_below_drewN | apply below_drew1) | exact HB.out)) hb); have n1_ := Aside0.mk (hbox); have n2_ := Aside0.mk ((by rw [hg]; exact (below_size (by repeat (first | (with_reducible first | exact HB.out | apply below_alloc | apply pw_below_drewN | apply below_drew1) | exact HB.out))) : w.heap.size ≤ gb113)); have n3_ := Aside0.mk ((by rw [hg]; exact (below_size (by repeat (first | (with_reducible first | exact HB.out | apply below_alloc | apply pw_below_drewN | apply below_drew1) | exact HB.out))) : w.heap.size ≤ gb113)); clear HB; have HB := n0_; have BK113 := n1_; have GW113 := n2_; have GE113 := n3_; clear n0_ n1_ n2_ n3_; clear hb hbox hg) | ((with_reducible refine gate_callee (f := 55) rfl ?_); refine goesL_ (some 3) rfl rfl Try.func55 (by kernel_rfl) rfl #[.pointer (some ⟨gb113, 0, none⟩)] rfl (by (try simp only [List.map_toArray, List.map_cons, List.map_nil]); first | done | rfl | (simp only [List.length_drop, List.length_take]; rfl)) ?_; (with_reducible refine (spec_l03Ok.calls k gb113 a0_0 a0_1 A0_2 c0_2 l0_2 t114 _ ?side1 ?side2 ?side3 A2.out).mono ?_); (case side1 => (with_reducible repeat (first | refine blk_drewN ?_ _ | refine blk_drew ?_ | refine blk_alloc ?_ _)); exact BK113.out); (case side2 => repeat (first | exact (Kd.C_below HR0_2.out HB.out) | (with_reducible refine Kd.C_alloc ?_ _) | (with_reducible refine Kd.C_drewN ?_ _) | (with_reducible refine Kd.C_drew ?_))); (case side3 => exact HC0_2.out); rintro e w4 ⟨rfl, hb⟩; refine ⟨_, rfl, ?_⟩; have n0_ := Aside0.mk (blk_below (g := gb113) (o := .cells #[.int .i64 a0_0, .int .i64 a0_1, .slice A0_2 l0_2.length c0_2] 27 (0, 0)) (by (with_reducible repeat (first | refine blk_drewN ?_ _ | refine blk_drew ?_ | refine blk_alloc ?_ _)); exact BK113.out) hb); have n1_ := Aside0.mk (below_step (by repeat (first | (with_reducible first | exact HB.out | apply below_alloc | apply pw_below_drewN | apply below_drew1 | refine below_set ?_ GE113.out) | exact HB.out)) hb); clear BK113; clear HB; have BK113 := n0_; have HB := n1_; clear n0_ n1_; (try clear hb); (try clear hb2); (try clear hk); (try clear hi)))
  go_ret
  exact ⟨by first | rfl | (simp [errW_none, errW_some] <;> rfl) | (simp [*, errW_none, errW_some] <;> rfl), by repeat (first | (with_reducible first | exact HB.out | apply below_alloc | apply pw_below_drewN | apply below_drew1 | refine below_set ?_ GE113.out) | exact HB.out)⟩

end Go.Proofs.Ytopgelloghblaaa.P

namespace Go.Proofs.Ytopgelloghblaaa.P
open Go.RowKit Go.Proofs.YtopgelloghblaaaW.PrintWords Go.Proofs.YtopgelloghblaaaW.PrintLast Go.Proofs.YtopgelloghblaaaW.PrintMore
attribute [local go_sem] max2_int min2_int max_two min_two max_three min_three max_four min_four
set_option linter.unusedVariables false
set_option linter.unusedSimpArgs false

/-- A row of a matrix: elements modulo p, as many as there are columns. -/
def rowB (p cols : Int) (r : List Int) : Bool := decide ((r.length : Int) = cols) && elemsB p r
def validMB (p cols : Int) (rows : List (List Int)) : Bool := primeB p && (decide (0 ≤ cols ∧ cols ≤ 12) && (decide (rows.length ≤ 20) && rows.all (rowB p cols)))
theorem spec_l03Row_ev (p cols : Int) (r : List Int) (hp : -1000 ≤ p ∧ p ≤ 1000) (hl : r.length ≤ 4611686018427387904) : Ev (fun k => spec_l03Row.f k p cols r) (rowB p cols r) := by
  unfold spec_l03Row.f
  have h := scan_ev (l := fun k i => spec_l03Row.l0 k p cols r i) (n := r.length) (q := fun i => decide (0 ≤ rd r i ∧ rd r i ≤ p - 1)) (fin := decide ((r.length : Int) = cols)) (stop := false)
    (fun i hi hq t ht => by
      refine Ev.step (fun k => ?_) ht
      simp only [spec_l03Row.l0]
      rw [if_pos (by omega), if_pos (by omega), wr (x := p - 1) (by omega) (by omega), spec_l00In_eq, wr (x := (i : Int) + 1) (by omega) (by omega)]
      simp only [Option.bind_some]
      rw [if_pos hq]
      rfl)
    (fun i hi hq => by
      refine Ev.step (f := fun _ => some false) (fun k => ?_) (Ev.now _)
      simp only [spec_l03Row.l0]
      rw [if_pos (by omega), if_pos (by omega), wr (x := p - 1) (by omega) (by omega), spec_l00In_eq]
      simp only [Option.bind_some]
      rw [if_neg (by rw [hq]; decide)])
    (by
      refine Ev.step (f := fun _ => some ((r.length : Int) == cols)) (fun k => ?_) ?_
      · simp only [spec_l03Row.l0]
        rw [if_neg (by omega)]
      · rw [show ((r.length : Int) == cols) = decide ((r.length : Int) = cols) from by by_cases e : (r.length : Int) = cols <;> simp [e]]
        exact Ev.now _)
  rw [range_all r (fun a => decide (0 ≤ a ∧ a ≤ p - 1)) _ (fun i hi => by simp only [rd_nat r i hi])] at h
  rw [show rowB p cols r = (if (r.all fun a => decide (0 ≤ a ∧ a ≤ p - 1)) then decide ((r.length : Int) = cols) else false) from by
    unfold rowB elemsB
    cases (r.all fun a => decide (0 ≤ a ∧ a ≤ p - 1)) <;> simp]
  exact h
theorem spec_l03Ok_ev (p cols : Int) (rows : List (List Int)) (hl : rows.length ≤ 4611686018427387904) (hr : ∀ r ∈ rows, r.length ≤ 4611686018427387904) : Ev (fun k => spec_l03Ok.f k p cols rows) (validMB p cols rows) := by
  unfold spec_l03Ok.f validMB
  refine Ev.bind (spec_IsPrime_ev p) ?_
  have stop : Ev (fun k => spec_l03Ok.j0 k true p cols rows) false :=
    Ev.step (f := fun _ => some false) (fun k => by simp only [spec_l03Ok.j0, if_true]) (Ev.now _)
  cases hp : primeB p with
  | false => exact stop
  | true =>
    have hpr := primeB_range hp
    simp only [if_true, spec_l00In_eq, Option.bind_some, Bool.true_and]
    cases hc : decide (0 ≤ cols ∧ cols ≤ 12) with
    | false => exact stop
    | true =>
      simp only [if_true, Bool.true_and]
      by_cases h20 : (rows.length : Int) > 20
      · rw [decide_eq_true h20, decide_eq_false (show ¬ rows.length ≤ 20 by omega), Bool.false_and]
        exact stop
      · rw [decide_eq_false h20, decide_eq_true (show rows.length ≤ 20 by omega), Bool.true_and]
        refine Ev.step (f := fun k => spec_l03Ok.l0 k 0 p cols rows) (fun k => by simp only [spec_l03Ok.j0]; rw [if_neg (by decide)]) ?_
        have h := scan_ev (l := fun k i => spec_l03Ok.l0 k i p cols rows) (n := rows.length) (q := fun i => rowB p cols (rd_L1 rows i)) (fin := true) (stop := false)
          (fun i hi hq t ht => by
            refine Ev.step (f := fun k => (spec_l03Row.f k p cols (rd_L1 rows i)).bind fun t => if t = true then spec_l03Ok.l0 k ((i + 1 : Nat) : Int) p cols rows else some false) (fun k => ?_) (Ev.bind (spec_l03Row_ev p cols _ (by omega) (by rw [rdL_nat rows i hi]; exact hr _ (List.getElem_mem hi))) ?_)
            · simp only [spec_l03Ok.l0]
              rw [if_pos (by omega), if_pos (by omega), wr (by omega) (by omega)]
              rfl
            · simp only [hq, if_true]
              exact ht)
          (fun i hi hq => by
            refine Ev.step (f := fun k => (spec_l03Row.f k p cols (rd_L1 rows i)).bind fun t => if t = true then spec_l03Ok.l0 k ((i + 1 : Nat) : Int) p cols rows else some false) (fun k => ?_) (Ev.bind (spec_l03Row_ev p cols _ (by omega) (by rw [rdL_nat rows i hi]; exact hr _ (List.getElem_mem hi))) ?_)
            · simp only [spec_l03Ok.l0]
              rw [if_pos (by omega), if_pos (by omega), wr (by omega) (by omega)]
              rfl
            · simp only [hq]
              exact Ev.now _)
          (Ev.step (f := fun _ => some true) (fun k => by simp only [spec_l03Ok.l0]; rw [if_neg (by omega)]) (Ev.now _))
        rw [range_all rows (rowB p cols) _ (fun i hi => by simp only [rdL_nat rows i hi])] at h
        rw [show rows.all (rowB p cols) = (if rows.all (rowB p cols) then true else false) from by cases rows.all (rowB p cols) <;> rfl]
        exact h
theorem spec_ValidMatrix_ev (p cols : Int) (rows : List (List Int)) (hl : rows.length ≤ 4611686018427387904) (hr : ∀ r ∈ rows, r.length ≤ 4611686018427387904) : Ev (fun k => spec_ValidMatrix.f k p cols rows) (validMB p cols rows) := by
  unfold spec_ValidMatrix.f
  exact Ev.bind (spec_l03Ok_ev p cols rows hl hr) (Ev.now _)
theorem idxR_ev (p : Nat → List Int → Option Bool) (q : List Int → Bool) (xs : List (List Int)) (hlen : xs.length ≤ 4611686018427387904) (hp : ∀ x ∈ xs, Ev (fun k => p k x) (q x)) (hm : ∀ x k, LeO (p k x) (p (k + 1) x)) :
    ∀ d i : Nat, i + d = xs.length → ∃ r : Int, Ev (fun k => idxR.l0 k (p k) xs (i : Int)) r ∧ decide (0 ≤ r) = (xs.drop i).any q := by
  have up : ∀ {r : Int} {i : Int}, Ev (fun k => idxR.l0 k (p k) xs i) r → Ev (fun k => idxR.l0 k (p (k + 1)) xs i) r := by
    rintro r i ⟨K, h⟩
    exact ⟨K, fun k hk => idxR.mono_p _ _ _ _ _ (fun x => hm x k) r (h k hk)⟩
  have one : ∀ x ∈ xs, Ev (fun k => p (k + 1) x) (q x) := fun x hx => by
    obtain ⟨K, h⟩ := hp x hx
    exact ⟨K, fun k hk => h (k + 1) (by omega)⟩
  intro d
  induction d with
  | zero =>
    intro i hi
    refine ⟨-1, Ev.step (f := fun _ => some (-1)) (fun k => ?_) (Ev.now _), ?_⟩
    · simp only [idxR.l0]
      rw [if_neg (by omega)]
    · rw [List.drop_eq_nil_of_le (by omega)]; rfl
  | succ d ih =>
    intro i hi
    have hlt : i < xs.length := by omega
    obtain ⟨r, hr, hd⟩ := ih (i + 1) (by omega)
    have hx := one _ (List.getElem_mem hlt)
    rw [List.drop_eq_getElem_cons hlt, List.any_cons]
    have step : ∀ {r : Int}, Ev (fun k => (p (k + 1) xs[i]).bind fun t => if t = true then some (i : Int) else idxR.l0 k (p (k + 1)) xs ((i + 1 : Nat) : Int)) r → Ev (fun k => idxR.l0 k (p k) xs (i : Int)) r := fun h => by
      refine Ev.step (g := fun k => idxR.l0 k (p k) xs (i : Int)) (fun k => ?_) h
      simp only [idxR.l0]
      rw [if_pos (by omega), if_pos (by omega), rdL_nat xs i hlt, wr (by omega) (by omega)]
      rfl
    cases hq : q xs[i] with
    | true =>
      refine ⟨i, step (Ev.bind hx ?_), ?_⟩
      · simp only [hq, if_true]; exact Ev.now _
      · rw [Bool.true_or]; exact decide_eq_true (by omega)
    | false =>
      refine ⟨r, step (Ev.bind hx ?_), ?_⟩
      · simp only [hq]; exact up hr
      · rw [Bool.false_or]; exact hd
theorem hasR_ev (p : Nat → List Int → Option Bool) (q : List Int → Bool) (xs : List (List Int)) (hlen : xs.length ≤ 4611686018427387904) (hp : ∀ x ∈ xs, Ev (fun k => p k x) (q x)) (hm : ∀ x k, LeO (p k x) (p (k + 1) x)) : Ev (fun k => hasR.f k (p k) xs) (xs.any q) := by
  obtain ⟨r, hr, hd⟩ := idxR_ev p q xs hlen hp hm xs.length 0 (by omega)
  rw [List.drop_zero] at hd
  rw [← hd]
  exact Ev.bind hr (Ev.now _)
theorem not_any_all {α : Type} (l : List α) (q : α → Bool) : (!(l.any fun a => !q a)) = l.all q := by
  induction l with
  | nil => rfl
  | cons a l ih => rw [List.any_cons, List.all_cons, ← ih, Bool.not_or, Bool.not_not]
theorem impl_ValidMatrix_ev (p cols : Int) (rows : List (List Int)) (hl : rows.length ≤ 4611686018427387904) (hr : ∀ r ∈ rows, r.length ≤ 4611686018427387904) : Ev (fun k => impl_ValidMatrix.f k p cols rows) (validMB p cols rows) := by
  unfold impl_ValidMatrix.f validMB
  refine Ev.bind (impl_IsPrime_ev p) ?_
  cases hp : primeB p with
  | false => exact Ev.now _
  | true =>
    simp only [if_true, impl_within_eq, Option.bind_some, Bool.true_and]
    cases hc : decide (0 ≤ cols ∧ cols ≤ 12) with
    | false => exact Ev.now _
    | true =>
      simp only [if_true, Bool.true_and]
      by_cases h20 : (rows.length : Int) ≤ 20
      · rw [decide_eq_true (show rows.length ≤ 20 by omega), Bool.true_and, ← not_any_all]
        simp only [if_pos h20]
        refine Ev.bind (hasR_ev (fun k => ValidMatrix_p k p cols) (fun r => !rowB p cols r) rows hl (fun r hrm => ?_) (fun x k => ValidMatrix_p.mono _ _ _ _)) (Ev.now _)
        unfold ValidMatrix_p rowB
        by_cases e : (r.length : Int) = cols
        · simp only [if_pos e, decide_eq_true e, Bool.true_and]
          have := impl_areElements_ev p r (hr r hrm)
          rw [hp, Bool.true_and] at this
          exact Ev.bind this (Ev.now _)
        · simp only [if_neg e, decide_eq_false e, Bool.false_and]
          exact Ev.now _
      · rw [decide_eq_false (show ¬ rows.length ≤ 20 by omega), Bool.false_and]
        simp only [if_neg h20]
        exact Ev.now _

end Go.Proofs.Ytopgelloghblaaa.P

namespace Go.Proofs.Ytopgelloghblaaa.P
open Go.RowKit Go.Proofs.YtopgelloghblaaaW.PrintWords Go.Proofs.YtopgelloghblaaaW.PrintLast Go.Proofs.YtopgelloghblaaaW.PrintMore
attribute [local go_sem] max2_int min2_int max_two min_two max_three min_three max_four min_four
set_option linter.unusedVariables false
set_option linter.unusedSimpArgs false

/-! ### spec_l03Powers: function 115 -/
mutual
def spec_l03Powers.l0 : Nat → Int → List Int → Int → Int → Int → Int → List (List Int) → Option (Int × Int × (List (List Int)))
  | 0, _, _, _, _, _, _, _ => none
  | k + 1, x0, x1, x2, x8, x570000, x570001, x570002 => if x8 < (x1.length : Int) then (spec_l03Powers.l1 k x0 x1 x2 x8 (([] : List Int)) 0 x570000 x570001 x570002) else (some (x570000, x570001, x570002))
def spec_l03Powers.l1 : Nat → Int → List Int → Int → Int → List Int → Int → Int → Int → List (List Int) → Option (Int × Int × (List (List Int)))
  | 0, _, _, _, _, _, _, _, _, _ => none
  | k + 1, x0, x1, x2, x8, x9, x10, x570000, x570001, x570002 => if x10 < x2 then (if 0 ≤ x8 then (if x8 < (x1.length : Int) then ((spec_l03Power.f k x0 (rd x1 x8) x10).bind fun t574 => (if x9.length < 17592186044416 then (spec_l03Powers.l1 k x0 x1 x2 x8 (x9 ++ [t574]) (wrap64 (x10 + 1)) x570000 x570001 x570002) else (none))) else (none)) else (none)) else (if x570002.length < 5864062014805 then (spec_l03Powers.l0 k x0 x1 x2 (wrap64 (x8 + 1)) x570000 x570001 (x570002 ++ [x9])) else (none))
end
def spec_l03Powers.f (k : Nat) (a0 : Int) (l1 : List Int) (a2 : Int) : Option (Int × Int × (List (List Int))) := spec_l03Powers.l0 k a0 l1 a2 0 a0 a2 ([] : List (List Int))
theorem spec_l03Powers.mono_l : ∀ k, (∀ y0 y1 y2 y3 y4 y5 y6, LeO (spec_l03Powers.l0 k y0 y1 y2 y3 y4 y5 y6) (spec_l03Powers.l0 (k + 1) y0 y1 y2 y3 y4 y5 y6)) ∧ (∀ y0 y1 y2 y3 y4 y5 y6 y7 y8, LeO (spec_l03Powers.l1 k y0 y1 y2 y3 y4 y5 y6 y7 y8) (spec_l03Powers.l1 (k + 1) y0 y1 y2 y3 y4 y5 y6 y7 y8))
  | 0 => ⟨fun _ _ _ _ _ _ _ r h => by simp [spec_l03Powers.l0] at h, fun _ _ _ _ _ _ _ _ _ r h => by simp [spec_l03Powers.l1] at h⟩
  | k + 1 => by
    obtain ⟨ih0, ih1⟩ := spec_l03Powers.mono_l k
    refine ⟨?_, ?_⟩
    · intro y0 y1 y2 y3 y4 y5 y6
      unfold spec_l03Powers.l0
      repeat' first
      | (with_reducible exact ih0 _ _ _ _ _ _ _)
      | (with_reducible exact ih1 _ _ _ _ _ _ _ _ _)
      | (with_reducible exact spec_l03Power.mono _ _ _ _)
      | (with_reducible exact LeO.refl _)
      | (with_reducible exact LeO.none _)
      | (with_reducible refine LeO.ite ?_ ?_)
      | (with_reducible refine LeO.bind ?_ (fun _ => ?_))
      | exact ih0 _ _ _ _ _ _ _
      | exact ih1 _ _ _ _ _ _ _ _ _
      | exact spec_l03Power.mono _ _ _ _
      | exact LeO.none _
      | refine LeO.ite ?_ ?_
      | refine LeO.bind ?_ (fun _ => ?_)
    · intro y0 y1 y2 y3 y4 y5 y6 y7 y8
      unfold spec_l03Powers.l1
      repeat' first
      | (with_reducible exact ih0 _ _ _ _ _ _ _)
      | (with_reducible exact ih1 _ _ _ _ _ _ _ _ _)
      | (with_reducible exact spec_l03Power.mono _ _ _ _)
      | (with_reducible exact LeO.refl _)
      | (with_reducible exact LeO.none _)
      | (with_reducible refine LeO.ite ?_ ?_)
      | (with_reducible refine LeO.bind ?_ (fun _ => ?_))
      | exact ih0 _ _ _ _ _ _ _
      | exact ih1 _ _ _ _ _ _ _ _ _
      | exact spec_l03Power.mono _ _ _ _
      | exact LeO.none _
      | refine LeO.ite ?_ ?_
      | refine LeO.bind ?_ (fun _ => ?_)
theorem spec_l03Powers.mono : ∀ a0 a1 a2 k, LeO (spec_l03Powers.f k a0 a1 a2) (spec_l03Powers.f (k + 1) a0 a1 a2) := by
  intro a0 a1 a2 k
  obtain ⟨ih0, ih1⟩ := spec_l03Powers.mono_l k
  unfold spec_l03Powers.f
  repeat' first
      | (with_reducible exact ih0 _ _ _ _ _ _ _)
      | (with_reducible exact ih1 _ _ _ _ _ _ _ _ _)
      | (with_reducible exact spec_l03Power.mono _ _ _ _)
      | (with_reducible exact LeO.refl _)
      | (with_reducible exact LeO.none _)
      | (with_reducible refine LeO.ite ?_ ?_)
      | (with_reducible refine LeO.bind ?_ (fun _ => ?_))
      | exact ih0 _ _ _ _ _ _ _
      | exact ih1 _ _ _ _ _ _ _ _ _
      | exact spec_l03Power.mono _ _ _ _
      | exact LeO.none _
      | refine LeO.ite ?_ ?_
      | refine LeO.bind ?_ (fun _ => ?_)
set_option maxHeartbeats 8000000 in
set_option maxRecDepth 100000 in
theorem spec_l03Powers.calls (k : Nat) (a0 : Int) (A1 : Option Addr) (c1 : Nat) (l1 : List Int) (a2 : Int) (r1 : Int) (r2 : Int) (r3 : List (List Int)) (w : World) (hr1 : Kd.C (Kd.int .i64) w A1 l1.length l1) (hc1 : l1.length ≤ c1) (h : spec_l03Powers.f k a0 l1 a2 = some (r1, r2, r3)) :
    Calls Try.prog 115 #[.int .i64 a0, .slice A1 l1.length c1, .int .i64 a2] w fun e w' => ∃ v2_ : Value, e = .returned (.agg #[.int .i64 r1, .int .i64 r2, v2_]) ∧ Kd.S (Kd.slice 2 (Kd.int .i64)) 32 w' w.heap.size (fun _ => True) v2_ r3 ∧ Below w.heap.size w w' := by
  have hu27 := Try.underlying27
  have HR1 := Aside0.mk hr1
  have HC1 := Aside0.mk hc1
  clear hr1 hc1
  have HB := Aside0.mk (Below.refl w.heap.size w)
  have H : (spec_l03Powers.l0 k a0 l1 a2 0 a0 a2 ([] : List (List Int))) = some (r1, r2, r3) := h
  clear h
  have H' := Aside0.mk H
  clear H
  go_enter Try.func115, Try.ntmps115
  go_wp2_with (first | ((with_reducible refine gate_dst (N := 6) rfl ?_); refine box_event ?hg (N := 6) ?hd (cs := #[.int .i64 0, .int .i64 0, .slice none 0 0]) (t := 27) ?hr ?_; (case hd => rfl); (case hg => rfl); (case hr => first | (go_simp; done) | (go_simp; rfl)); intro gb568 hg w4 hbox hb; have n0_ := Aside0.mk (below_step (by repeat (first | (with_reducible first | exact HB.out | apply below_alloc | apply pw_below_drewN | apply below_drew1) | exact HB.out)) hb); have n1_ := Aside0.mk (hbox); have n2_ := Aside0.mk ((by rw [hg]; exact (below_size (by repeat (first | (with_reducible first | exact HB.out | apply below_alloc | apply pw_below_drewN | apply below_drew1) | exact HB.out))) : w.heap.size ≤ gb568)); have n3_ := Aside0.mk ((by rw [hg]; exact (below_size (by repeat (first | (with_reducible first | exact HB.out | apply below_alloc | apply pw_below_drewN | apply below_drew1) | exact HB.out))) : w.heap.size ≤ gb568)); clear HB; have HB := n0_; have BK568 := n1_; have GW568 := n2_; have GE568 := n3_; clear n0_ n1_ n2_ n3_; clear hb hbox hg) | ((with_reducible refine gate_dst (N := 7) rfl ?_); refine box_event ?hg (N := 7) ?hd (cs := #[.int .i64 0, .int .i64 0, .slice none 0 0]) (t := 27) ?hr ?_; (case hd => rfl); (case hg => rfl); (case hr => first | (go_simp; done) | (go_simp; rfl)); intro gb569 hg w5 hbox hb; have n0_ := Aside0.mk (blk_below (g := gb568) (o := .cells #[.int .i64 0, .int .i64 0, .slice none 0 0] 27 (0, 0)) (by (with_reducible repeat (first | refine blk_drewN ?_ _ | refine blk_drew ?_ | refine blk_alloc ?_ _)); exact BK568.out) hb); have n1_ := Aside0.mk (below_step (by repeat (first | (with_reducible first | exact HB.out | apply below_alloc | apply pw_below_drewN | apply below_drew1 | refine below_set ?_ GE568.out) | exact HB.out)) hb); have n2_ := Aside0.mk (hbox); have n3_ := Aside0.mk ((by rw [hg]; exact (below_size (by repeat (first | (with_reducible first | exact HB.out | apply below_alloc | apply pw_below_drewN | apply below_drew1 | refine below_set ?_ GE568.out) | exact HB.out))) : w.heap.size ≤ gb569)); have n4_ := Aside0.mk ((by rw [hg]; exact (below_size (by repeat (first | (with_reducible first | exact HB.out | apply below_alloc | apply pw_below_drewN | apply below_drew1 | refine below_set ?_ GE568.out) | exact HB.out))) : w.heap.size ≤ gb569)); have n5_ := Aside0.mk ((by rw [hg]; exact Nat.ne_of_lt (blk_lt (g := gb568) (o := .cells #[.int .i64 0, .int .i64 0, .slice none 0 0] 27 (0, 0)) (by (with_reducible repeat (first | refine blk_drewN ?_ _ | refine blk_drew ?_ | refine blk_alloc ?_ _)); exact BK568.out)) : gb568 ≠ gb569)); have n6_ := Aside0.mk ((by rw [hg]; exact Nat.ne_of_gt (blk_lt (g := gb568) (o := .cells #[.int .i64 0, .int .i64 0, .slice none 0 0] 27 (0, 0)) (by (with_reducible repeat (first | refine blk_drewN ?_ _ | refine blk_drew ?_ | refine blk_alloc ?_ _)); exact BK568.out)) : gb569 ≠ gb568)); clear BK568; clear HB; have BK568 := n0_; have HB := n1_; have BK569 := n2_; have GW569 := n3_; have GE569 := n4_; have NB568_569 := n5_; have NB569_568 := n6_; clear n0_ n1_ n2_ n3_ n4_ n5_ n6_; clear hb hbox hg; have hnb6 := NB569_568.out; have hnc6 := NB568_569.out; have hcz7_0 : w5.cell? ⟨gb569, 0, none⟩ = some (.int .i64 0) := (blk_cell BK569.out 0).trans rfl; have hcz7_1 : w5.cell? ⟨gb569, 1, none⟩ = some (.int .i64 0) := (blk_cell BK569.out 1).trans rfl; have hcz7_2 : w5.cell? ⟨gb569, 2, none⟩ = some (.slice none 0 0) := (blk_cell BK569.out 2).trans rfl; have hfz7_0 := blk_frozen BK569.out 0; have hfz7_1 := blk_frozen BK569.out 1; have hfz7_2 := blk_frozen BK569.out 2))
  go_loopg [8] k (fun kq v8 w' => ∃ (x8_1 : Int) (x570002_1 : List (List Int)) (u570002 : Value), v8 = .int .i64 x8_1 ∧ Aside0 (spec_l03Powers.l0 kq a0 l1 a2 x8_1 a0 a2 x570002_1 = some (r1, r2, r3)) ∧ Aside0 (kq ≤ k) ∧ Aside0 (Kd.S (Kd.slice 2 (Kd.int .i64)) 32 w' w.heap.size (fun _ => True) u570002 x570002_1) ∧ Aside0 (w'.heap[gb568]? = some (.cells #[.int .i64 0, .int .i64 0, (.slice none 0 0)] 27 (0, 0))) ∧ Aside0 (w'.heap[gb569]? = some (.cells #[.int .i64 a0, .int .i64 a2, u570002] 27 (0, 0))) ∧ Aside0 (Below w.heap.size w w'))
  case atStart => exact ⟨(0), (([] : List (List Int))), (.slice none 0 0), (by first | rfl | (simp; done) | (simp [*]; done)), H', ⟨Nat.le_refl _⟩, ⟨by first | exact Kd.S_nil _ _ _ _ _ | exact Kd.N_nil _ _ _ _ _ | exact Kd.V_nil _ _ _ _ _ | exact Kd.Q_nil _ _ _ _ _ | exact Kd.R_nil _ _ _ _ _⟩, ⟨by (with_reducible repeat (first | refine blk_drewN ?_ _ | refine blk_drew ?_ | refine blk_alloc ?_ _)); refine blk_far ?_ NB568_569.out _; (with_reducible repeat (first | refine blk_drewN ?_ _ | refine blk_drew ?_ | refine blk_alloc ?_ _)); refine blk_far ?_ NB568_569.out _; (with_reducible repeat (first | refine blk_drewN ?_ _ | refine blk_drew ?_ | refine blk_alloc ?_ _)); refine blk_far ?_ NB568_569.out _; (with_reducible repeat (first | refine blk_drewN ?_ _ | refine blk_drew ?_ | refine blk_alloc ?_ _)); exact BK568.out⟩, ⟨by (with_reducible repeat (first | refine blk_drewN ?_ _ | refine blk_drew ?_ | refine blk_alloc ?_ _)); refine blk_put (cs := #[.int .i64 a0, .int .i64 a2, .slice none 0 0]) ?_ 2 _ rfl; (with_reducible repeat (first | refine blk_drewN ?_ _ | refine blk_drew ?_ | refine blk_alloc ?_ _)); refine blk_put (cs := #[.int .i64 a0, .int .i64 0, .slice none 0 0]) ?_ 1 _ rfl; (with_reducible repeat (first | refine blk_drewN ?_ _ | refine blk_drew ?_ | refine blk_alloc ?_ _)); refine blk_put (cs := #[.int .i64 0, .int .i64 0, .slice none 0 0]) ?_ 0 _ rfl; (with_reducible repeat (first | refine blk_drewN ?_ _ | refine blk_drew ?_ | refine blk_alloc ?_ _)); exact BK569.out⟩, ⟨by repeat (first | (with_reducible first | exact HB.out | apply below_alloc | apply pw_below_drewN | apply below_drew1 | refine below_set ?_ GE568.out | refine below_set ?_ GE569.out) | exact HB.out)⟩⟩
  case round =>
    clear H'
    try clear c1
    try clear p2
    try clear c6
    try clear hcz7_0
    try clear hcz7_1
    try clear hcz7_2
    try clear hfz7_0
    try clear hfz7_1
    try clear hfz7_2
    obtain ⟨x8_1, x570002_1, u570002, rfl, HA, HK1, HO_570002, BK568, BK569, HB⟩ := hrel
    cases gk with
    | zero => exact absurd HA.out (by simp [spec_l03Powers.l0])
    | succ k1 =>
      have H := HA.out
      clear HA
      simp only [spec_l03Powers.l0] at H
      by_cases c8 : x8_1 < (l1.length : Int)
      · rw [if_pos c8] at H
        have c8b0 : decide (x8_1 < (l1.length : Int)) = true := decide_eq_true c8
        clear c8
        obtain ⟨y570, hy570⟩ : ∃ y_ : List Int, y_ = (([] : List Int)) := ⟨_, rfl⟩
        replace H : (spec_l03Powers.l1 k1 a0 l1 a2 x8_1 y570 0 a0 a2 x570002_1) = some (r1, r2, r3) := by first | (rw [hy570]; with_reducible exact H) | (have H2_ := (Option.bind_some _ _).symm.trans H; rw [hy570]; with_reducible exact H2_) | (have H2_ := (Option.bind_some _ _).symm.trans H; with_reducible exact H2_) | with_reducible exact H | (rw [hy570]; exact H) | exact H
        have Ny570 := Aside0.mk hy570
        clear hy570
        have H' := Aside0.mk H
        clear H
        go_wp2_with (first | ((with_reducible refine gate_dst (N := 20) rfl ?_); refine Kd.R_lit (Kd.int .i64) _ 2 ?hg (N := 20) ?hd (xs := ([] : List Int)) (inner := []) (ok := fun _ => True) (okp := fun _ => True) ?hr ?hp (fun _ hk => hk) trivial (Below.refl _ _) (Nat.le_refl _) (by simp) ?_; (case hd => rfl); (case hg => rfl); (case hr => first | (go_simp; done) | (go_simp; rfl)); (case hp => exact (Reps.none _ _)); intro v571 w9 ho10 hb hg_ hnew_; clear hg_ hnew_; (first | rw [← Ny570.out] at ho10 | (simp only [Int.reduceToNat] at ho10; rw [← Ny570.out] at ho10)); have n0_ := Aside0.mk (Kd.S_elder' (by (with_reducible repeat (first | apply Kd.S_alloc | apply Kd.S_drewN | apply Kd.S_drew)); exact HO_570002.out) (Kd.R_base ho10) hb); have n1_ := Aside0.mk (Kd.R_lower ho10 (below_size (by repeat (first | (with_reducible first | exact HB.out | apply below_alloc | apply pw_below_drewN | apply below_drew1 | refine below_set ?_ GE568.out | refine below_set ?_ GE569.out) | exact HB.out)))); have n2_ := Aside0.mk (blk_below (g := gb568) (o := .cells #[.int .i64 0, .int .i64 0, .slice none 0 0] 27 (0, 0)) (by (with_reducible repeat (first | refine blk_drewN ?_ _ | refine blk_drew ?_ | refine blk_alloc ?_ _)); exact BK568.out) hb); have n3_ := Aside0.mk (blk_below (g := gb569) (o := .cells #[.int .i64 a0, .int .i64 a2, u570002] 27 (0, 0)) (by (with_reducible repeat (first | refine blk_drewN ?_ _ | refine blk_drew ?_ | refine blk_alloc ?_ _)); exact BK569.out) hb); have n4_ := Aside0.mk (below_step (by repeat (first | (with_reducible first | exact HB.out | apply below_alloc | apply pw_below_drewN | apply below_drew1 | refine below_set ?_ GE568.out | refine below_set ?_ GE569.out) | exact HB.out)) hb); clear HO_570002; clear BK568; clear BK569; clear HB; have HO_570002 := n0_; have HO572 := n1_; have BK568 := n2_; have BK569 := n3_; have HB := n4_; clear n0_ n1_ n2_ n3_ n4_; clear hb ho10))
        go_loopg [9, 10] k1 (fun kq v9 v10 w' => ∃ (x9_2 : List Int) (x10_2 : Int), v10 = .int .i64 x10_2 ∧ Aside0 (spec_l03Powers.l1 kq a0 l1 a2 x8_1 x9_2 x10_2 a0 a2 x570002_1 = some (r1, r2, r3)) ∧ Aside0 (kq ≤ k1) ∧ Aside0 (Kd.R (Kd.int .i64) 2 w' w.heap.size (fun _ => True) v9 x9_2) ∧ Aside0 (Kd.S (Kd.slice 2 (Kd.int .i64)) 32 w' w.heap.size (fun k_ => some k_ ≠ (v9 : Value).ownBlock) u570002 x570002_1) ∧ Aside0 (w'.heap[gb568]? = some (.cells #[.int .i64 0, .int .i64 0, (.slice none 0 0)] 27 (0, 0))) ∧ Aside0 (w'.heap[gb569]? = some (.cells #[.int .i64 a0, .int .i64 a2, u570002] 27 (0, 0))) ∧ Aside0 (Below w.heap.size w w'))
        case atStart => exact ⟨(y570), (0), (by first | rfl | (simp; done) | (simp [*]; done)), H', ⟨Nat.le_refl _⟩, ⟨by (with_reducible repeat (first | apply Kd.R_alloc | apply Kd.R_drewN | apply Kd.R_drew)); exact HO572.out⟩, ⟨by (with_reducible repeat (first | apply Kd.S_alloc | apply Kd.S_drewN | apply Kd.S_drew)); exact Kd.S_mono HO_570002.out (fun _ hk => hk.2)⟩, ⟨by (with_reducible repeat (first | refine blk_drewN ?_ _ | refine blk_drew ?_ | refine blk_alloc ?_ _)); exact BK568.out⟩, ⟨by (with_reducible repeat (first | refine blk_drewN ?_ _ | refine blk_drew ?_ | refine blk_alloc ?_ _)); exact BK569.out⟩, ⟨by repeat (first | (with_reducible first | exact HB.out | apply below_alloc | apply pw_below_drewN | apply below_drew1 | refine below_set ?_ GE568.out | refine below_set ?_ GE569.out) | exact HB.out)⟩⟩
        case round =>
          clear H'
          try clear c1
          try clear p2
          try clear c6
          try clear c8
          try clear c8b0
          try clear hcz7_0
          try clear hcz7_1
          try clear hcz7_2
          try clear hfz7_0
          try clear hfz7_1
          try clear hfz7_2
          try clear p2
          obtain ⟨x9_2, x10_2, rfl, HA, HK2, HO_9, HO_570002, BK568, BK569, HB⟩ := hrel
          cases gk with
          | zero => exact absurd HA.out (by simp [spec_l03Powers.l1])
          | succ k2 =>
            have H := HA.out
            clear HA
            simp only [spec_l03Powers.l1] at H
            by_cases c11 : x10_2 < a2
            · rw [if_pos c11] at H
              have c11b0 : decide (x10_2 < a2) = true := decide_eq_true c11
              clear c11
              by_cases c12 : 0 ≤ x8_1
              · rw [if_pos c12] at H
                have c12b0 : decide (0 ≤ x8_1) = true := decide_eq_true c12
                clear c12
                by_cases c13 : x8_1 < (l1.length : Int)
                · rw [if_pos c13] at H
                  have c13b0 : decide (x8_1 < (l1.length : Int)) = true := decide_eq_true c13
                  clear c13
                  replace H := Option.bind_eq_some_iff.mp H
                  obtain ⟨t574, A140, H⟩ := H
                  replace H : (if x9_2.length < 17592186044416 then (spec_l03Powers.l1 k2 a0 l1 a2 x8_1 (x9_2 ++ [t574]) (wrap64 (x10_2 + 1)) a0 a2 x570002_1) else (none)) = some (r1, r2, r3) := H
                  have A14 := Aside0.mk A140
                  clear A140
                  by_cases c15 : x9_2.length < 17592186044416
                  · rw [if_pos c15] at H
                    have LMc15 := Aside0.mk c15
                    clear c15
                    obtain ⟨y575, hy575⟩ : ∃ y_ : List Int, y_ = (x9_2 ++ [t574]) := ⟨_, rfl⟩
                    replace H : (spec_l03Powers.l1 k2 a0 l1 a2 x8_1 y575 (wrap64 (x10_2 + 1)) a0 a2 x570002_1) = some (r1, r2, r3) := by first | (rw [hy575]; with_reducible exact H) | (have H2_ := (Option.bind_some _ _).symm.trans H; rw [hy575]; with_reducible exact H2_) | (have H2_ := (Option.bind_some _ _).symm.trans H; with_reducible exact H2_) | with_reducible exact H | (rw [hy575]; exact H) | exact H
                    have Ny575 := Aside0.mk hy575
                    clear hy575
                    have H' := Aside0.mk H
                    clear H
                    have p573 : 0 ≤ (x8_1 : Int) := of_decide_eq_true (by first | (with_reducible assumption) | assumption)
                    have q573 : x8_1 < (l1.length : Int) := of_decide_eq_true (by first | (with_reducible assumption) | assumption)
                    obtain ⟨ad573, e573, hx573_0⟩ := Kd.at_int HR1.out x8_1 p573 q573
                    cases e573
                    replace hx573_0 := (HB.out.cell (World.block_lt_of_cell? w _ hx573_0)).trans hx573_0
                    replace p573 := eq_true p573
                    replace q573 := eq_true q573
                    go_wp2_with (first | ((with_reducible refine gate_callee (f := 119) rfl ?_); refine goesL_ (some 33) rfl rfl Try.func119 (by kernel_rfl) rfl #[.int .i64 a0, .int .i64 (rd l1 x8_1), .int .i64 x10_2] rfl (by (try simp only [List.map_toArray, List.map_cons, List.map_nil]); first | done | rfl | (simp only [List.length_drop, List.length_take]; rfl)) ?_; (with_reducible refine (spec_l03Power.calls k2 a0 (rd l1 x8_1) x10_2 t574 _ A14.out).mono ?_); rintro e w' ⟨rfl, ⟨nd, rfl⟩⟩; refine ⟨_, rfl, ?_⟩) | ((with_reducible refine gate_builtin (b := .append) (xs := #[.tmp 26, .tmp 34]) rfl ?_); at_builtin; refine Kd.R_append (Kd.int .i64) (w0 := w) w.heap.size rfl (.tmp 26) (.tmp 34) 32 2 (.int .i64 0) 8 rfl Try.underlying32 info2 rfl (by decide) (by omega) u9 x9_2 t574 [.int .i64 t574] (fun _ => True) (fun _ => False) rfl rfl ?aP (fun _ hk => hk.elim) ?aF ?aO ?aB ?aS ?aL ?_; (case aP => exact rfl); (case aB => exact (by repeat (first | (with_reducible first | exact HB.out | apply below_alloc | apply pw_below_drewN | apply below_drew1 | refine below_set ?_ GE568.out | refine below_set ?_ GE569.out) | exact HB.out))); (case aF => exact (fun _ _ => trivial)); (case aO => exact (by (with_reducible repeat (first | apply Kd.R_alloc | apply Kd.R_drewN | apply Kd.R_drew)); exact HO_9.out)); (case aS => exact (below_size (by repeat (first | (with_reducible first | exact HB.out | apply below_alloc | apply pw_below_drewN | apply below_drew1 | refine below_set ?_ GE568.out | refine below_set ?_ GE569.out) | exact HB.out)))); (case aL => have := LMc15.out; omega); intro v576 w16 ho hb hg hat; rw [← Ny575.out] at ho; have n0_ := Aside0.mk (Kd.S_after (ok := (fun _ => True)) (by (with_reducible repeat (first | apply Kd.S_alloc | apply Kd.S_drewN | apply Kd.S_drew)); exact Kd.S_mono HO_570002.out (fun _ hk => ⟨trivial, hk⟩)) hg hat); have n1_ := Aside0.mk (blk_grown (g := gb568) (o := .cells #[.int .i64 0, .int .i64 0, .slice none 0 0] 27 (0, 0)) (by (with_reducible repeat (first | refine blk_drewN ?_ _ | refine blk_drew ?_ | refine blk_alloc ?_ _)); exact BK568.out) hg (Kd.R_ne HO_9.out BK568.out (by decide))); have n2_ := Aside0.mk (blk_grown (g := gb569) (o := .cells #[.int .i64 a0, .int .i64 a2, u570002] 27 (0, 0)) (by (with_reducible repeat (first | refine blk_drewN ?_ _ | refine blk_drew ?_ | refine blk_alloc ?_ _)); exact BK569.out) hg (Kd.R_ne HO_9.out BK569.out (by decide))); have n3_ := Aside0.mk (hb); have n4_ := Aside0.mk (ho); clear HO_570002; clear BK568; clear BK569; clear HB; clear HO_9; have HO_570002 := n0_; have BK568 := n1_; have BK569 := n2_; have HB := n3_; have HO577 := n4_; clear n0_ n1_ n2_ n3_ n4_; clear ho hb hg hat))
                    go_roundg k2
                    case measure => have := HK1.out; have := HK2.out; omega
                    case rel => exact ⟨(y575), (wrap64 (x10_2 + 1)), (by first | rfl | (simp; done) | (simp [*]; done)), H', ⟨by have := HK1.out; have := HK2.out; omega⟩, ⟨by (with_reducible repeat (first | apply Kd.R_alloc | apply Kd.R_drewN | apply Kd.R_drew)); exact HO577.out⟩, ⟨by (with_reducible repeat (first | apply Kd.S_alloc | apply Kd.S_drewN | apply Kd.S_drew)); exact Kd.S_mono HO_570002.out (fun _ hk => hk.2)⟩, ⟨by (with_reducible repeat (first | refine blk_drewN ?_ _ | refine blk_drew ?_ | refine blk_alloc ?_ _)); exact BK568.out⟩, ⟨by (with_reducible repeat (first | refine blk_drewN ?_ _ | refine blk_drew ?_ | refine blk_alloc ?_ _)); exact BK569.out⟩, ⟨by repeat (first | (with_reducible first | exact HB.out | apply below_alloc | apply pw_below_drewN | apply below_drew1 | refine below_set ?_ GE568.out | refine below_set ?_ GE569.out) | exact HB.out)⟩⟩
                  · rw [if_neg c15] at H
                    exact absurd H (by simp)
                · rw [if_neg c13] at H
                  exact absurd H (by simp)
              · rw [if_neg c12] at H
                exact absurd H (by simp)
            · rw [if_neg c11] at H
              have c11b0 : decide (x10_2 < a2) = false := decide_eq_false c11
              clear c11
              by_cases c17 : x570002_1.length < 5864062014805
              · rw [if_pos c17] at H
                have LMc17 := Aside0.mk c17
                clear c17
                obtain ⟨y578, hy578⟩ : ∃ y_ : List (List Int), y_ = (x570002_1 ++ [x9_2]) := ⟨_, rfl⟩
                replace H : (spec_l03Powers.l0 k2 a0 l1 a2 (wrap64 (x8_1 + 1)) a0 a2 y578) = some (r1, r2, r3) := by first | (rw [hy578]; with_reducible exact H) | (have H2_ := (Option.bind_some _ _).symm.trans H; rw [hy578]; with_reducible exact H2_) | (have H2_ := (Option.bind_some _ _).symm.trans H; with_reducible exact H2_) | with_reducible exact H | (rw [hy578]; exact H) | exact H
                have Ny578 := Aside0.mk hy578
                clear hy578
                have H' := Aside0.mk H
                clear H
                have hnb18 := NB569_568.out
                have hnc18 := NB568_569.out
                have hcz19_0 : wr.cell? ⟨gb569, 0, none⟩ = some (.int .i64 a0) := (blk_cell BK569.out 0).trans rfl
                have hcz19_1 : wr.cell? ⟨gb569, 1, none⟩ = some (.int .i64 a2) := (blk_cell BK569.out 1).trans rfl
                have hcz19_2 : wr.cell? ⟨gb569, 2, none⟩ = some (u570002) := (blk_cell BK569.out 2).trans rfl
                have hfz19_0 := blk_frozen BK569.out 0
                have hfz19_1 := blk_frozen BK569.out 1
                have hfz19_2 := blk_frozen BK569.out 2
                obtain ⟨Ao21, co21, eo21⟩ := Kd.R_slice HO_9.out
                subst eo21
                go_wp2_with (first | ((with_reducible refine gate_builtin (b := .append) (xs := #[.tmp 37, .tmp 39]) rfl ?_); at_builtin; refine Kd.S_append (Kd.slice 2 (Kd.int .i64)) (w0 := w) w.heap.size rfl (.tmp 37) (.tmp 39) 22 32 (.slice none 0 0) 24 rfl Try.underlying22 info32 rfl (by decide) (by omega) u570002 x570002_1 x9_2 [.slice Ao21 x9_2.length co21] (fun _ => True) (fun k_ => some k_ = (.slice Ao21 x9_2.length co21 : Value).ownBlock) rfl rfl ?aP (fun k_ hk_ => ((Kd.R_mono (ok' := fun k_ => ((fun _ => True)) k_ ∧ some k_ ≠ (u570002 : Value).ownBlock) (Kd.R_apart' (HO_9.out) (Kd.S_typed HO_570002.out) (by decide)) (fun k_ hk => ⟨trivial, hk.2⟩))).1 k_ hk_.symm) ?aF ?aO ?aB ?aS ?aL ?_; (case aP => exact Kd.M_row (Kd.R_mono (Kd.R_tight rfl (Kd.R_mono (ok' := fun k_ => ((fun _ => True)) k_ ∧ some k_ ≠ (u570002 : Value).ownBlock) (Kd.R_apart' (HO_9.out) (Kd.S_typed HO_570002.out) (by decide)) (fun k_ hk => ⟨trivial, hk.2⟩))) (fun _ h_ => h_))); (case aB => exact (by repeat (first | (with_reducible first | exact HB.out | apply below_alloc | apply pw_below_drewN | apply below_drew1 | refine below_set ?_ GE568.out | refine below_set ?_ GE569.out) | exact HB.out))); (case aF => exact (fun _ _ => trivial)); (case aO => exact (by (with_reducible repeat (first | apply Kd.S_alloc | apply Kd.S_drewN | apply Kd.S_drew)); exact Kd.S_mono HO_570002.out (fun k_ hk => ⟨trivial, fun e_ => hk e_⟩))); (case aS => exact (below_size (by repeat (first | (with_reducible first | exact HB.out | apply below_alloc | apply pw_below_drewN | apply below_drew1 | refine below_set ?_ GE568.out | refine below_set ?_ GE569.out) | exact HB.out)))); (case aL => have := LMc17.out; omega); intro v579 w20 ho hb hg hat; rw [← Ny578.out] at ho; have n0_ := Aside0.mk (blk_grown (g := gb568) (o := .cells #[.int .i64 0, .int .i64 0, .slice none 0 0] 27 (0, 0)) (by (with_reducible repeat (first | refine blk_drewN ?_ _ | refine blk_drew ?_ | refine blk_alloc ?_ _)); exact BK568.out) hg (Kd.S_ne HO_570002.out BK568.out (by decide))); have n1_ := Aside0.mk (blk_grown (g := gb569) (o := .cells #[.int .i64 a0, .int .i64 a2, u570002] 27 (0, 0)) (by (with_reducible repeat (first | refine blk_drewN ?_ _ | refine blk_drew ?_ | refine blk_alloc ?_ _)); exact BK569.out) hg (Kd.S_ne HO_570002.out BK569.out (by decide))); have n2_ := Aside0.mk (hb); have n3_ := Aside0.mk (ho); clear BK568; clear BK569; clear HB; clear HO_570002; clear HO_9; have BK568 := n0_; have BK569 := n1_; have HB := n2_; have HO580 := n3_; clear n0_ n1_ n2_ n3_; clear ho hb hg hat; obtain ⟨Ao22, co22, eo22⟩ := Kd.S_slice HO580.out; subst eo22; have hcz23_0 : w20.cell? ⟨gb569, 0, none⟩ = some (.int .i64 a0) := (blk_cell BK569.out 0).trans rfl; have hcz23_1 : w20.cell? ⟨gb569, 1, none⟩ = some (.int .i64 a2) := (blk_cell BK569.out 1).trans rfl; have hcz23_2 : w20.cell? ⟨gb569, 2, none⟩ = some (u570002) := (blk_cell BK569.out 2).trans rfl; have hfz23_0 := blk_frozen BK569.out 0; have hfz23_1 := blk_frozen BK569.out 1; have hfz23_2 := blk_frozen BK569.out 2))
                go_roundg k2
                case measure => have := HK1.out; have := HK2.out; omega
                case rel => exact ⟨(wrap64 (x8_1 + 1)), (y578), (.slice Ao22 y578.length co22), (by first | rfl | (simp; done) | (simp [*]; done)), H', ⟨by have := HK1.out; have := HK2.out; omega⟩, ⟨by (with_reducible repeat (first | apply Kd.S_alloc | apply Kd.S_drewN | apply Kd.S_drew)); exact Kd.S_mono (Kd.S_far (p := ⟨gb569, 2, none⟩) (Kd.S_types HO580.out BK569.out (by decide)) (fun _ hk => hk.2) (.slice Ao22 y578.length co22)) (fun _ hk => trivial)⟩, ⟨by (with_reducible repeat (first | refine blk_drewN ?_ _ | refine blk_drew ?_ | refine blk_alloc ?_ _)); refine blk_far ?_ NB568_569.out _; (with_reducible repeat (first | refine blk_drewN ?_ _ | refine blk_drew ?_ | refine blk_alloc ?_ _)); exact BK568.out⟩, ⟨by (with_reducible repeat (first | refine blk_drewN ?_ _ | refine blk_drew ?_ | refine blk_alloc ?_ _)); refine blk_put (cs := #[.int .i64 a0, .int .i64 a2, u570002]) ?_ 2 _ rfl; (with_reducible repeat (first | refine blk_drewN ?_ _ | refine blk_drew ?_ | refine blk_alloc ?_ _)); exact BK569.out⟩, ⟨by repeat (first | (with_reducible first | exact HB.out | apply below_alloc | apply pw_below_drewN | apply below_drew1 | refine below_set ?_ GE568.out | refine below_set ?_ GE569.out) | exact HB.out)⟩⟩
              · rw [if_neg c17] at H
                exact absurd H (by simp)
      · rw [if_neg c8] at H
        have c8b0 : decide (x8_1 < (l1.length : Int)) = false := decide_eq_false c8
        clear c8
        simp only [Option.some.injEq, Prod.mk.injEq] at H
        obtain ⟨rfl, rfl, rfl⟩ := H
        have hnb24 := NB569_568.out
        have hnc24 := NB568_569.out
        have hcz25_0 : wr.cell? ⟨gb569, 0, none⟩ = some (.int .i64 a0) := (blk_cell BK569.out 0).trans rfl
        have hcz25_1 : wr.cell? ⟨gb569, 1, none⟩ = some (.int .i64 a2) := (blk_cell BK569.out 1).trans rfl
        have hcz25_2 : wr.cell? ⟨gb569, 2, none⟩ = some (u570002) := (blk_cell BK569.out 2).trans rfl
        have hfz25_0 := blk_frozen BK569.out 0
        have hfz25_1 := blk_frozen BK569.out 1
        have hfz25_2 := blk_frozen BK569.out 2
        have hcz26_0 : wr.cell? ⟨gb568, 0, none⟩ = some (.int .i64 0) := (blk_cell BK568.out 0).trans rfl
        have hcz26_1 : wr.cell? ⟨gb568, 1, none⟩ = some (.int .i64 0) := (blk_cell BK568.out 1).trans rfl
        have hcz26_2 : wr.cell? ⟨gb568, 2, none⟩ = some (.slice none 0 0) := (blk_cell BK568.out 2).trans rfl
        have hfz26_0 := blk_frozen BK568.out 0
        have hfz26_1 := blk_frozen BK568.out 1
        have hfz26_2 := blk_frozen BK568.out 2
        obtain ⟨Ao27, co27, eo27⟩ := Kd.S_slice HO_570002.out
        subst eo27
        go_wp2
        refine bodyPost_ret (results_cell_row rfl _ _ gb568 27 #[.int .i64 a0, .int .i64 a2, .slice Ao27 x570002_1.length co27] (0, 0) _ rfl (by (with_reducible repeat (first | refine blk_drewN ?_ _ | refine blk_drew ?_ | refine blk_alloc ?_ _)); refine blk_put (cs := #[.int .i64 a0, .int .i64 a2, .slice none 0 0]) ?_ 2 _ rfl; (with_reducible repeat (first | refine blk_drewN ?_ _ | refine blk_drew ?_ | refine blk_alloc ?_ _)); refine blk_put (cs := #[.int .i64 a0, .int .i64 0, .slice none 0 0]) ?_ 1 _ rfl; (with_reducible repeat (first | refine blk_drewN ?_ _ | refine blk_drew ?_ | refine blk_alloc ?_ _)); refine blk_put (cs := #[.int .i64 0, .int .i64 0, .slice none 0 0]) ?_ 0 _ rfl; (with_reducible repeat (first | refine blk_drewN ?_ _ | refine blk_drew ?_ | refine blk_alloc ?_ _)); exact BK568.out) Try.underlying27 rfl (by kernel_rfl)) rfl ?_
        exact ⟨_, by first | rfl | (simp [errW_none, errW_some] <;> rfl) | (simp [*, errW_none, errW_some] <;> rfl), by (with_reducible repeat (first | apply Kd.S_alloc | apply Kd.S_drewN | apply Kd.S_drew)); exact Kd.S_mono (Kd.S_far (p := ⟨gb568, 2, none⟩) (Kd.S_far (p := ⟨gb568, 1, none⟩) (Kd.S_far (p := ⟨gb568, 0, none⟩) (Kd.S_types HO_570002.out BK568.out (by decide)) (fun _ hk => hk.2) (.int .i64 a0)) (fun _ hk => hk.2) (.int .i64 a2)) (fun _ hk => hk.2) (.slice Ao27 x570002_1.length co27)) (fun _ hk => trivial), by repeat (first | (with_reducible first | exact HB.out | apply below_alloc | apply pw_below_drewN | apply below_drew1 | refine below_set ?_ GE568.out | refine below_set ?_ GE569.out) | exact HB.out)⟩

end Go.Proofs.Ytopgelloghblaaa.P

namespace Go.Proofs.Ytopgelloghblaaa.P
open Go.RowKit Go.Proofs.YtopgelloghblaaaW.PrintWords Go.Proofs.YtopgelloghblaaaW.PrintLast Go.Proofs.YtopgelloghblaaaW.PrintMore
attribute [local go_sem] max2_int min2_int max_two min_two max_three min_three max_four min_four
set_option linter.unusedVariables false
set_option linter.unusedSimpArgs false

/-- A loop that puts one value after another behind a list. -/
theorem build_ev {α ρ : Type} {l : Nat → Int → List α → Option ρ} (n : Nat) (f : Nat → α) {fin : ρ}
    (hgo : ∀ (i : Nat) (acc : List α), i < n → acc.length = i → ∀ r, Ev (fun k => l k ((i + 1 : Nat) : Int) (acc ++ [f i])) r → Ev (fun k => l k (i : Int) acc) r)
    (hend : Ev (fun k => l k (n : Int) ((List.range n).map f)) fin) : Ev (fun k => l k 0 []) fin := by
  have key : ∀ d i : Nat, i + d = n → Ev (fun k => l k (i : Int) ((List.range i).map f)) fin := by
    intro d
    induction d with
    | zero =>
      intro i hi
      obtain rfl : i = n := by omega
      exact hend
    | succ d ih =>
      intro i hi
      refine hgo i _ (by omega) (by simp) _ ?_
      have := ih (i + 1) (by omega)
      rwa [List.range_succ, List.map_append] at this
  exact key n 0 (by omega)
/-- The powers of a point. -/
def powRow (p x : Int) (cols : Nat) : List Int := (List.range cols).map (pw p x)
def powRows (p : Int) (pts : List Int) (cols : Nat) : List (List Int) := pts.map fun x => powRow p x cols
theorem powRows_range (p : Int) (pts : List Int) (cols : Nat) : (List.range pts.length).map (fun i => powRow p (pts.getD i 0) cols) = powRows p pts cols := by
  refine List.ext_getElem (by simp [powRows]) fun i h1 h2 => ?_
  have : i < pts.length := by simpa using h1
  simp [powRows, this]
theorem elemsB_get {p : Int} {l : List Int} (h : elemsB p l = true) (i : Nat) (hi : i < l.length) : 0 ≤ l[i] ∧ l[i] ≤ p - 1 := by
  unfold elemsB at h
  exact of_decide_eq_true (List.all_eq_true.mp h _ (List.getElem_mem hi))
theorem spec_l03Powers_ev (p : Int) (pts : List Int) (cols : Int) (hp : 2 ≤ p ∧ p ≤ 31) (he : elemsB p pts = true) (hc : 0 ≤ cols ∧ cols ≤ 12) (hl : pts.length ≤ 20) : Ev (fun k => spec_l03Powers.f k p pts cols) (p, cols, powRows p pts cols.toNat) := by
  unfold spec_l03Powers.f
  refine build_ev (l := fun k i acc => spec_l03Powers.l0 k p pts cols i p cols acc) pts.length (fun i => powRow p (pts.getD i 0) cols.toNat) (fun i acc hi ha r hr => ?_) ?_
  · have hx : pts.getD i 0 = pts[i] := by simp [hi]
    refine Ev.step (f := fun k => spec_l03Powers.l1 k p pts cols (i : Int) [] 0 p cols acc) (fun k => ?_) ?_
    · simp only [spec_l03Powers.l0]
      rw [if_pos (by omega)]
    · refine build_ev (l := fun k j row => spec_l03Powers.l1 k p pts cols (i : Int) row j p cols acc) cols.toNat (pw p pts[i]) (fun j row hj hrow r' hr' => ?_) ?_
      · refine Ev.step (f := fun k => (spec_l03Power.f k p pts[i] (j : Int)).bind fun t => spec_l03Powers.l1 k p pts cols (i : Int) (row ++ [t]) ((j + 1 : Nat) : Int) p cols acc) (fun k => ?_) (Ev.bind (spec_power_ev p pts[i] j hp (elemsB_get he i hi) (by omega)) ?_)
        · simp only [spec_l03Powers.l1]
          rw [if_pos (by omega), if_pos (by omega), if_pos (by omega), rd_nat pts i hi, wr (by omega) (by omega)]
          simp only [if_pos (show row.length < 17592186044416 by omega)]
          rfl
        · exact hr'
      · refine Ev.step (fun k => ?_) hr
        simp only [spec_l03Powers.l1]
        rw [if_neg (by omega), if_pos (by omega), wr (by omega) (by omega), hx]
        rfl
  · refine Ev.step (f := fun _ => some (p, cols, powRows p pts cols.toNat)) (fun k => ?_) (Ev.now _)
    simp only [spec_l03Powers.l0]
    rw [if_neg (by omega), powRows_range]
def powersB (p : Int) (pts : List Int) (cols : Int) : Int × Int × List (List Int) × Int := if primeB p && (decide (pts.length ≤ 20) && (decide (0 ≤ cols ∧ cols ≤ 12) && elemsB p pts)) then (p, cols, powRows p pts cols.toNat, 0) else (0, 0, [], 2)
theorem sum_rep (n c : Nat) : (List.replicate n c).sum = n * c := by
  induction n with
  | zero => simp
  | succ n ih => rw [List.replicate_succ, List.sum_cons, ih, Nat.succ_mul, Nat.add_comm]
theorem powRows_size (p : Int) (pts : List Int) (cols : Nat) (hl : pts.length ≤ 20) (hc : cols ≤ 12) : (powRows p pts cols).length ≤ 20 ∧ (∀ r ∈ powRows p pts cols, r.length ≤ 12) ∧ allLen (powRows p pts cols) ≤ 240 := by
  have e : ∀ r ∈ powRows p pts cols, r.length = cols := by
    intro r hr
    obtain ⟨x, _, rfl⟩ := List.mem_map.mp hr
    simp [powRow]
  have e2 : (powRows p pts cols).map List.length = List.replicate pts.length cols := by
    refine List.eq_replicate_iff.mpr ⟨by simp [powRows], fun b hb => ?_⟩
    obtain ⟨r, hr, rfl⟩ := List.mem_map.mp hb
    exact e r hr
  refine ⟨by simpa [powRows] using hl, fun r hr => by rw [e r hr]; exact hc, ?_⟩
  unfold allLen
  rw [e2, sum_rep]
  calc pts.length * cols ≤ 20 * 12 := Nat.mul_le_mul hl hc
    _ = 240 := rfl
theorem powersB_size (p : Int) (pts : List Int) (cols : Int) : ∃ a b c d, powersB p pts cols = (a, b, c, d) ∧ c.length ≤ 20 ∧ (∀ r ∈ c, r.length ≤ 12) ∧ allLen c ≤ 240 := by
  unfold powersB
  cases h : primeB p && (decide (pts.length ≤ 20) && (decide (0 ≤ cols ∧ cols ≤ 12) && elemsB p pts)) with
  | false => exact ⟨0, 0, [], 2, rfl, by simp, by simp, by simp [allLen]⟩
  | true =>
    simp only [Bool.and_eq_true, decide_eq_true_eq] at h
    exact ⟨_, _, _, _, rfl, powRows_size p pts cols.toNat h.2.1 (by omega)⟩

end Go.Proofs.Ytopgelloghblaaa.P

namespace Go.Proofs.Ytopgelloghblaaa.P
open Go.RowKit Go.Proofs.YtopgelloghblaaaW.PrintWords Go.Proofs.YtopgelloghblaaaW.PrintLast Go.Proofs.YtopgelloghblaaaW.PrintMore
attribute [local go_sem] max2_int min2_int max_two min_two max_three min_three max_four min_four
set_option linter.unusedVariables false
set_option linter.unusedSimpArgs false

def schemeB (h : Int) (o : List Int) (p c : Int) (rows : List (List Int)) : Bool := decide (1 ≤ h ∧ h ≤ 7) && (validMB p c rows && (decide (1 ≤ c) && (decide (o.length = rows.length) && elemsB h o)))
theorem spec_l04Ok_ev (h : Int) (o : List Int) (p c : Int) (rows : List (List Int)) (ho : o.length ≤ 4611686018427387904) (hl : rows.length ≤ 4611686018427387904) (hr : ∀ r ∈ rows, r.length ≤ 4611686018427387904) : Ev (fun k => spec_l04Ok.f k h o p c rows) (schemeB h o p c rows) := by
  unfold spec_l04Ok.f schemeB
  have stop : Ev (fun k => spec_l04Ok.j0 k true h o p c rows) false := Ev.step (f := fun _ => some false) (fun k => by simp only [spec_l04Ok.j0, if_true]) (Ev.now _)
  rw [spec_l00In_eq]
  simp only [Option.bind_some]
  cases h1 : decide (1 ≤ h ∧ h ≤ 7) with
  | false => exact stop
  | true =>
    have h1' := of_decide_eq_true h1
    simp only [if_true, Bool.true_and]
    refine Ev.bind (spec_l03Ok_ev p c rows hl hr) ?_
    cases hv : validMB p c rows with
    | false => exact stop
    | true =>
      simp only [if_true, Bool.true_and]
      by_cases hc : c < 1
      · simp only [if_pos hc, decide_eq_false (show ¬ 1 ≤ c by omega), Bool.false_and]
        exact stop
      · simp only [if_neg hc, decide_eq_true (show 1 ≤ c by omega), Bool.true_and]
        by_cases hn : o.length = rows.length
        · rw [show ((o.length : Int) != (rows.length : Int)) = false from by rw [bne_eq_false_iff_eq]; omega, decide_eq_true hn, Bool.true_and]
          refine Ev.step (f := fun k => spec_l04Ok.l0 k 0 h o p c rows) (fun k => by simp only [spec_l04Ok.j0]; rw [if_neg (by decide)]) ?_
          have hs := scan_ev (l := fun k i => spec_l04Ok.l0 k i h o p c rows) (n := o.length) (q := fun i => decide (0 ≤ rd o i ∧ rd o i ≤ h - 1)) (fin := true) (stop := false)
            (fun i hi hq t ht => by
              refine Ev.step (fun k => ?_) ht
              simp only [spec_l04Ok.l0]
              rw [if_pos (by omega), if_pos (by omega), wr (x := h - 1) (by omega) (by omega), spec_l00In_eq, wr (x := (i : Int) + 1) (by omega) (by omega)]
              simp only [Option.bind_some]
              rw [if_pos hq]
              rfl)
            (fun i hi hq => by
              refine Ev.step (f := fun _ => some false) (fun k => ?_) (Ev.now _)
              simp only [spec_l04Ok.l0]
              rw [if_pos (by omega), if_pos (by omega), wr (x := h - 1) (by omega) (by omega), spec_l00In_eq]
              simp only [Option.bind_some]
              rw [if_neg (by rw [hq]; decide)])
            (Ev.step (f := fun _ => some true) (fun k => by
              simp only [spec_l04Ok.l0]
              rw [if_neg (by omega)]) (Ev.now _))
          rw [range_all o (fun a => decide (0 ≤ a ∧ a ≤ h - 1)) _ (fun i hi => by simp only [rd_nat o i hi])] at hs
          rwa [show (if (o.all fun a => decide (0 ≤ a ∧ a ≤ h - 1)) then true else false) = elemsB h o from by unfold elemsB; cases (o.all fun a => decide (0 ≤ a ∧ a ≤ h - 1)) <;> rfl] at hs
        · rw [show ((o.length : Int) != (rows.length : Int)) = true from by rw [bne_iff_ne]; omega, decide_eq_false hn, Bool.false_and]
          exact stop
theorem spec_ValidScheme_ev (h : Int) (o : List Int) (p c : Int) (rows : List (List Int)) (ho : o.length ≤ 4611686018427387904) (hl : rows.length ≤ 4611686018427387904) (hr : ∀ r ∈ rows, r.length ≤ 4611686018427387904) : Ev (fun k => spec_ValidScheme.f k h o p c rows) (schemeB h o p c rows) := by
  unfold spec_ValidScheme.f
  exact Ev.bind (spec_l04Ok_ev h o p c rows ho hl hr) (Ev.now _)
theorem impl_ValidScheme_ev (h : Int) (o : List Int) (p c : Int) (rows : List (List Int)) (ho : o.length ≤ 4611686018427387904) (hl : rows.length ≤ 4611686018427387904) (hr : ∀ r ∈ rows, r.length ≤ 4611686018427387904) : Ev (fun k => impl_ValidScheme.f k h o p c rows) (schemeB h o p c rows) := by
  unfold impl_ValidScheme.f schemeB
  rw [impl_within_eq]
  simp only [Option.bind_some]
  cases h1 : decide (1 ≤ h ∧ h ≤ 7) with
  | false => exact Ev.now _
  | true =>
    have h1' := of_decide_eq_true h1
    simp only [if_true, Bool.true_and]
    refine Ev.bind (impl_ValidMatrix_ev p c rows hl hr) ?_
    cases hv : validMB p c rows with
    | false => exact Ev.now _
    | true =>
      simp only [if_true, Bool.true_and]
      by_cases hc : 1 ≤ c
      · simp only [if_pos hc, decide_eq_true hc, Bool.true_and]
        by_cases hn : o.length = rows.length
        · simp only [if_pos (show (o.length : Int) = (rows.length : Int) by omega), decide_eq_true hn, Bool.true_and]
          rw [← not_any_elems]
          refine Ev.bind (hasI_ev (ValidScheme_p h) (fun a => !decide (0 ≤ a ∧ a ≤ h - 1)) o ho (fun x => ?_)) (Ev.now _)
          unfold ValidScheme_p
          rw [impl_within_eq, wr (by omega) (by omega)]
          rfl
        · simp only [if_neg (show ¬ (o.length : Int) = (rows.length : Int) by omega), decide_eq_false hn, Bool.false_and]
          exact Ev.now _
      · simp only [if_neg hc, decide_eq_false hc, Bool.false_and]
        exact Ev.now _
theorem schemeB_parts {h : Int} {o : List Int} {p c : Int} {rows : List (List Int)} (hs : schemeB h o p c rows = true) : (1 ≤ h ∧ h ≤ 7) ∧ validMB p c rows = true ∧ 1 ≤ c ∧ o.length = rows.length ∧ elemsB h o = true := by
  unfold schemeB at hs
  simp only [Bool.and_eq_true, decide_eq_true_eq] at hs
  exact ⟨hs.1, hs.2.1, hs.2.2.1, hs.2.2.2.1, hs.2.2.2.2⟩
/-- How many rows each holder has. -/
def countOne (acc : List Int) (h : Int) : List Int := acc.set h.toNat (wrap64 (rd acc h + 1))
def sizesL (n : Nat) (o : List Int) : List Int := o.foldl countOne (List.replicate n 0)
theorem countOne_length (acc : List Int) (h : Int) : (countOne acc h).length = acc.length := by simp [countOne]
theorem foldl_count_length (o : List Int) : ∀ acc : List Int, (o.foldl countOne acc).length = acc.length := by
  induction o with
  | nil => exact fun _ => rfl
  | cons a o ih => exact fun acc => by rw [List.foldl_cons, ih, countOne_length]
theorem sizesL_length (n : Nat) (o : List Int) : (sizesL n o).length = n := by
  unfold sizesL
  rw [foldl_count_length, List.length_replicate]
theorem sizesL_take (n : Nat) (o : List Int) (i : Nat) (hi : i < o.length) : sizesL n (o.take (i + 1)) = countOne (sizesL n (o.take i)) o[i] := by
  unfold sizesL
  rw [List.take_succ_eq_append_getElem hi, List.foldl_append]
  rfl
def sizesB (h : Int) (o : List Int) (p c : Int) (rows : List (List Int)) : List Int × Int := if schemeB h o p c rows then (sizesL h.toNat o, 0) else ([], 1)
theorem spec_SizesOf_ev (h : Int) (o : List Int) (p c : Int) (rows : List (List Int)) (ho : o.length ≤ 4611686018427387904) (hl : rows.length ≤ 4611686018427387904) (hr : ∀ r ∈ rows, r.length ≤ 4611686018427387904) : Ev (fun k => spec_SizesOf.f k h o p c rows) (sizesB h o p c rows) := by
  unfold spec_SizesOf.f sizesB
  refine Ev.bind (spec_l04Ok_ev h o p c rows ho hl hr) ?_
  cases hs : schemeB h o p c rows with
  | false => exact Ev.now _
  | true =>
    obtain ⟨hh, _, _, _, he⟩ := schemeB_parts hs
    simp only [if_true, if_pos (show 0 ≤ h by omega), if_pos (show h.toNat ≤ 35184372088832 by omega)]
    have key : ∀ d i : Nat, i + d = o.length → Ev (fun k => spec_SizesOf.l0 k (sizesL h.toNat (o.take i)) (i : Int) h o p c rows) (sizesL h.toNat o, 0) := by
      intro d
      induction d with
      | zero =>
        intro i hi
        refine Ev.step (f := fun _ => some (sizesL h.toNat o, 0)) (fun k => ?_) (Ev.now _)
        simp only [spec_SizesOf.l0]
        rw [if_neg (by omega), List.take_of_length_le (by omega)]
      | succ d ih =>
        intro i hi
        have hlt : i < o.length := by omega
        have hx := elemsB_get he i hlt
        refine Ev.step (fun k => ?_) (ih (i + 1) (by omega))
        simp only [spec_SizesOf.l0]
        rw [if_pos (by omega), if_pos (by omega), rd_nat o i hlt, if_pos (by omega), if_pos (by rw [sizesL_length]; omega), wr (x := (i : Int) + 1) (by omega) (by omega), sizesL_take _ o i hlt]
        rfl
    exact key o.length 0 (by omega)
theorem impl_SizesOf_ev (h : Int) (o : List Int) (p c : Int) (rows : List (List Int)) (ho : o.length ≤ 4611686018427387904) (hl : rows.length ≤ 4611686018427387904) (hr : ∀ r ∈ rows, r.length ≤ 4611686018427387904) : Ev (fun k => impl_SizesOf.f k h o p c rows) (sizesB h o p c rows) := by
  unfold impl_SizesOf.f sizesB
  refine Ev.bind (impl_ValidScheme_ev h o p c rows ho hl hr) ?_
  cases hs : schemeB h o p c rows with
  | false => exact Ev.now _
  | true =>
    obtain ⟨hh, _, _, _, he⟩ := schemeB_parts hs
    simp only [if_true, if_pos (show 0 ≤ h by omega), if_pos (show h.toNat ≤ 35184372088832 by omega)]
    have key : ∀ d i : Nat, i + d = o.length → Ev (fun k => impl_SizesOf.l0 k (sizesL h.toNat (o.take i)) o (o.length : Int) (i : Int)) (sizesL h.toNat o, 0) := by
      intro d
      induction d with
      | zero =>
        intro i hi
        refine Ev.step (f := fun _ => some (sizesL h.toNat o, 0)) (fun k => ?_) (Ev.now _)
        simp only [impl_SizesOf.l0]
        rw [if_neg (by omega), List.take_of_length_le (by omega)]
      | succ d ih =>
        intro i hi
        have hlt : i < o.length := by omega
        have hx := elemsB_get he i hlt
        refine Ev.step (fun k => ?_) (ih (i + 1) (by omega))
        simp only [impl_SizesOf.l0]
        rw [if_pos (by omega), if_pos (by omega), if_pos (by omega), rd_nat o i hlt, if_pos (by omega), if_pos (by rw [sizesL_length]; omega), wr (x := (i : Int) + 1) (by omega) (by omega), sizesL_take _ o i hlt]
        rfl
    exact key o.length 0 (by omega)

end Go.Proofs.Ytopgelloghblaaa.P

/- For every scheme the program's SizesOf and the reference's answer alike, the argument stays, and the result is memory of its own. -/
namespace Go.Proofs.Ytopgelloghblaaa.Pure
open Go.RowKit Go.Proofs.Ytopgelloghblaaa.P Go.Proofs.YtopgelloghblaaaW.PrintWords Go.Proofs.YtopgelloghblaaaW.PrintLast Go.Proofs.YtopgelloghblaaaW.PrintMore
set_option linter.unusedVariables false
set_option linter.unusedSimpArgs false

theorem FnExactSizesOf : laws_FnExactSizesOf.Pure := by
  intro x hx
  obtain ⟨xc, xo, xp, xq, xs⟩ := x
  have ho : xo.length ≤ 9223372036854775807 := hx.2.1.1
  have hl : xs.length ≤ 9223372036854775807 := hx.2.2.2.2.1
  have hr : ∀ r ∈ xs, r.length ≤ 9223372036854775807 := fun r h => (hx.2.2.2.2.2 r h).1
  have s1 := szScheme_ev xc xo xp xq xs 1048576 (by omega) ho hl hr
  by_cases h : ((xo.length + bulk xs : Nat) : Int) ≤ 1048576
  · rw [if_pos h] at s1
    obtain ⟨h1, h2⟩ := bulk_len (rows := xs) (n := 1048576) (by omega)
    have h4 : xs.length ≤ 4611686018427387904 := by omega
    have h3 : ∀ r ∈ xs, r.length ≤ 4611686018427387904 := fun r hr => Nat.le_trans (h2 r hr) (by omega)
    have h5 : allLen xs ≤ 1048576 := by unfold bulk at h; unfold allLen; omega
    obtain ⟨r1, r2, er, z⟩ : ∃ r1 r2, sizesB xc xo xp xq xs = (r1, r2) ∧ r1.length ≤ 7 := by
      unfold sizesB
      cases hs : schemeB xc xo xp xq xs with
      | true => exact ⟨_, _, rfl, by rw [sizesL_length]; have := (schemeB_parts hs).1; omega⟩
      | false => exact ⟨_, _, rfl, by simp⟩
    have e1 := spec_SizesOf_ev xc xo xp xq xs (by omega) h4 h3
    have e2 := impl_SizesOf_ev xc xo xp xq xs (by omega) h4 h3
    rw [er] at e1 e2
    obtain ⟨k, a1, a2, a3, a4, a5, a6, a7, a8, a9⟩ := From.now (From.and s1 (From.and (toScheme_ev xc xo xp xq xs (by omega) h1 h2) (From.and e1 (From.and e2 (From.and (eqInt64S_same r1 (by omega)) (From.and (eqScheme_same xc xo xp xq xs (by omega) h1 h2) (From.and (markScheme_ev xc xo xp xq xs 1 (by omega) (by omega) (by omega) (by omega) (by omega)) (From.and (markInt64S_ev r1 1 (by omega) (by omega)) (heldInt64S_ev 1 r1.length (by omega) (by omega))))))))))
    exact Or.inr ⟨k, _, r1, r2, _, _, _, _, _, a1, decide_eq_false (by omega), a2, a3, a2, a4, a5, a2, a6, a7, decide_eq_false (by omega), a5, a8, a9, decide_eq_false (by omega), a2, a4, a5, a9, decide_eq_false (by omega)⟩
  · rw [if_neg h] at s1
    obtain ⟨k, a1⟩ := From.now s1
    exact Or.inl ⟨k, _, a1, by decide⟩

end Go.Proofs.Ytopgelloghblaaa.Pure

/- The row of the law FnExactSizesOf: whatever its arguments, it answers true, and they read as before. No condition. -/
namespace Go.Proofs.Ytopgelloghblaaa.fnExactSizesOf
open Go.ChangeShapes Go.WideShapes Go.ChangeAt Go.RowKit Go.Proofs.Ytopgelloghblaaa.P Go.Proofs.YtopgelloghblaaaW.PrintWords Go.Proofs.YtopgelloghblaaaW.PrintLast Go.Proofs.YtopgelloghblaaaW.PrintMore
open Go.ChangeMaps (open_string shut_string)
set_option linter.unusedVariables false
theorem own : ownKnob Try.prog.godebug = none := by kernel_rfl
theorem laidOut : laidOutB Try.prog = true := by kernel_rfl
set_option maxRecDepth 100000 in
theorem lifted (os : Os) (started : os.Started) (H : Type) (enc : TypeId × Value → H) :
    ReturnsInHanded {} Try.checked os 10 .any (Rows.fnExactSizesOfSpec.pre6 enc Try.prog Try.f10 Rows.fnExactSizesOfRow.domain false) (Rows.fnExactSizesOfSpec.post enc Try.prog Try.f10 false true false false) := by
  refine returnsInHanded_of_change_sized (C := Try.checked) own started (by kernel_rfl) Try.func10
    (ChangeSpec.witness6 (enc := enc) (C := Try.checked) false ⟨#[], #[.agg #[.int .i64 0, .slice none 0 0, .int .i64 0, .int .i64 0, .slice none 0 0]], []⟩ 8 (by kernel_rfl) (by kernel_rfl) (by kernel_rfl) (by kernel_rfl)) ?_
  intro W base args ds gs before hval0 hW hcnd hsz0 _
  have hval : ∀ (j : Nat) t v, Try.f10.params[j]? = some t → args[j]? = some v → Value.okWide Try.prog W .any base t v := hval0
  have hW' := hW
  obtain ⟨p, q, hA0, hV, rfl, hfz, hnd⟩ := hW
  have hA : DataW.TrodAll enc Try.prog W 0 (fun _ => true) true Try.f10.params.toList args.toList ds p := hA0
  rw [Try.params10] at hA hval
  obtain ⟨v0, vs0, d0, ds0, p0, q0, hargs, rfl, rfl, h0, r0⟩ := trodAll_cons hA
  obtain ⟨rfl, rfl, rfl⟩ := trodAll_nil r0
  obtain rfl : args = #[v0] := by cases args; simp_all
  obtain ⟨rfl, rfl⟩ := trodVars_none hV
  have k0 := h0
  have lt0 : ∀ x ∈ p0, x.block < W.heap.size := by obtain ⟨m, hm⟩ := k0; exact DataW.trod_lt m _ _ _ hm
  obtain ⟨cs0, rfl, _⟩ := okWide_struct Try.underlying43 (hval 0 43 v0 rfl rfl)
  obtain ⟨x0, hK0, wf0⟩ := OpensAt.any opensS43 h0
  obtain ⟨A0_1, c0_1, A0_4, c0_4, e0, l0_1, g0_1, l0_4, g0_4⟩ := k43_open hK0
  obtain rfl : cs0 = #[.int .i64 x0.f0, .slice A0_1 x0.f1.length c0_1, .int .i64 x0.f2.f0, .int .i64 x0.f2.f1, .slice A0_4 x0.f2.f2.length c0_4] := by cases cs0; simpa [Value.cells] using e0
  clear hA0 hval0 hsz0
  refine (P.laws_FnExactSizesOf.walk Pure.FnExactSizesOf x0 _ _ _ _ W g0_1 l0_1 g0_4 l0_4 wf0).mono fun e W' ⟨he, bel⟩ => ?_
  subst he
  exact ⟨_, rfl, _, _, _, [], _, [], hW', trodAll_mk1 (shut_bool Try.underlying4 _), (trodAll_cons_mk (Below.trod laidOut (by kernel_rfl) (of_decide_eq_true (by kernel_rfl)) k0 bel lt0) trodAll_mk0), rfl, bel.frame _, fun h => by cases h⟩
theorem over : Rows.fnExactSizesOfRow.holds Try.pinned (OpenSpec.ofChange Rows.fnExactSizesOfSpec) :=
  OpenClaim.holds_of_wide 10 Try.f10 rfl rfl rfl rfl rfl rfl rfl ⟨rfl, rfl, rfl, rfl, rfl⟩ rfl rfl rfl rfl rfl (by kernel_rfl) Try.func10 (by kernel_rfl)
    (of_decide_eq_true (by kernel_rfl)) (by unfold Func.isWrapper; first | (rw [if_pos (by decide +kernel)]; kernel_rfl) | (rw [if_neg (by decide +kernel)]; exact ⟨rfl, rfl⟩))
    (fun os started H enc _ => lifted os started H enc)
theorem proved : Rows.FnExactSizesOfSaid := over
#print axioms proved
end Go.Proofs.Ytopgelloghblaaa.fnExactSizesOf
namespace Go.Proofs.Ytopgelloghblaaa
/-- The row, under a short name, for the claim. -/
theorem fnExactSizesOf_holds : Rows.FnExactSizesOfSaid := fnExactSizesOf.proved
end Go.Proofs.Ytopgelloghblaaa
