/- For every family the program's VetoHolders and the reference's answer alike, the argument stays, and the result is memory of its own. This text: the theorem of the row, and part 4 of what it rests on. -/
import Derived.Test.YtenmlpngnpjpjaaCFnExactVetoHoldersc
import Derived.Below
import Derived.Carry
import Derived.ChangeOld
import Derived.OpenShut
import Derived.ProofKit
import Derived.ShutString
import Derived.SizedLaws
import Derived.Test.YtenmlpngnpjpjaaRows
import Derived.WalkKit
namespace Go.Proofs.Ytenmlpngnpjpjaa.P
open Go.RowKit Go.Proofs.YtenmlpngnpjpjaaW.PrintWords Go.Proofs.YtenmlpngnpjpjaaW.PrintLast Go.Proofs.YtenmlpngnpjpjaaW.PrintMore
attribute [local go_sem] max2_int min2_int max_two min_two max_three min_three max_four min_four
set_option linter.unusedVariables false
set_option linter.unusedSimpArgs false

/-! ### spec_SameFamily: function 10 -/
mutual
def spec_SameFamily.j0 : Nat → Bool → Int → List (List Int) → Int → List (List Int) → Option (Bool)
  | 0, _, _, _, _, _ => none
  | k + 1, x19, x108000, x108001, x109000, x109001 => if x19 = true then (some false) else (spec_SameFamily.l0 k 0 x108000 x108001 x109000 x109001)
def spec_SameFamily.l0 : Nat → Int → Int → List (List Int) → Int → List (List Int) → Option (Bool)
  | 0, _, _, _, _, _ => none
  | k + 1, x5, x108000, x108001, x109000, x109001 => if x5 < (x108001.length : Int) then (if 0 ≤ x5 then (if x5 < (x109001.length : Int) then ((spec_l00Same.f k (rd_L1 x108001 x5) (rd_L1 x109001 x5)).bind fun t111 => (if t111 = true then (spec_SameFamily.l0 k (wrap64 (x5 + 1)) x108000 x108001 x109000 x109001) else (some false))) else (none)) else (none)) else (some true)
end
def spec_SameFamily.f (k : Nat) (a0_0 : Int) (l0_1 : List (List Int)) (a1_0 : Int) (l1_1 : List (List Int)) : Option (Bool) := if a0_0 = a1_0 then (spec_SameFamily.j0 k ((l0_1.length : Int) != (l1_1.length : Int)) a0_0 l0_1 a1_0 l1_1) else (spec_SameFamily.j0 k true a0_0 l0_1 a1_0 l1_1)
theorem spec_SameFamily.mono_l : ∀ k, (∀ y0 y1 y2 y3 y4, LeO (spec_SameFamily.j0 k y0 y1 y2 y3 y4) (spec_SameFamily.j0 (k + 1) y0 y1 y2 y3 y4)) ∧ (∀ y0 y1 y2 y3 y4, LeO (spec_SameFamily.l0 k y0 y1 y2 y3 y4) (spec_SameFamily.l0 (k + 1) y0 y1 y2 y3 y4))
  | 0 => ⟨fun _ _ _ _ _ r h => by simp [spec_SameFamily.j0] at h, fun _ _ _ _ _ r h => by simp [spec_SameFamily.l0] at h⟩
  | k + 1 => by
    obtain ⟨ih0, ih1⟩ := spec_SameFamily.mono_l k
    refine ⟨?_, ?_⟩
    · intro y0 y1 y2 y3 y4
      unfold spec_SameFamily.j0
      repeat' first
      | (with_reducible exact ih0 _ _ _ _ _)
      | (with_reducible exact ih1 _ _ _ _ _)
      | (with_reducible exact spec_l00Same.mono _ _ _)
      | (with_reducible exact LeO.refl _)
      | (with_reducible exact LeO.none _)
      | (with_reducible refine LeO.ite ?_ ?_)
      | (with_reducible refine LeO.bind ?_ (fun _ => ?_))
      | exact ih0 _ _ _ _ _
      | exact ih1 _ _ _ _ _
      | exact spec_l00Same.mono _ _ _
      | exact LeO.none _
      | refine LeO.ite ?_ ?_
      | refine LeO.bind ?_ (fun _ => ?_)
    · intro y0 y1 y2 y3 y4
      unfold spec_SameFamily.l0
      repeat' first
      | (with_reducible exact ih0 _ _ _ _ _)
      | (with_reducible exact ih1 _ _ _ _ _)
      | (with_reducible exact spec_l00Same.mono _ _ _)
      | (with_reducible exact LeO.refl _)
      | (with_reducible exact LeO.none _)
      | (with_reducible refine LeO.ite ?_ ?_)
      | (with_reducible refine LeO.bind ?_ (fun _ => ?_))
      | exact ih0 _ _ _ _ _
      | exact ih1 _ _ _ _ _
      | exact spec_l00Same.mono _ _ _
      | exact LeO.none _
      | refine LeO.ite ?_ ?_
      | refine LeO.bind ?_ (fun _ => ?_)
theorem spec_SameFamily.mono : ∀ a0 a1 a2 a3 k, LeO (spec_SameFamily.f k a0 a1 a2 a3) (spec_SameFamily.f (k + 1) a0 a1 a2 a3) := by
  intro a0 a1 a2 a3 k
  obtain ⟨ih0, ih1⟩ := spec_SameFamily.mono_l k
  unfold spec_SameFamily.f
  repeat' first
      | (with_reducible exact ih0 _ _ _ _ _)
      | (with_reducible exact ih1 _ _ _ _ _)
      | (with_reducible exact spec_l00Same.mono _ _ _)
      | (with_reducible exact LeO.refl _)
      | (with_reducible exact LeO.none _)
      | (with_reducible refine LeO.ite ?_ ?_)
      | (with_reducible refine LeO.bind ?_ (fun _ => ?_))
      | exact ih0 _ _ _ _ _
      | exact ih1 _ _ _ _ _
      | exact spec_l00Same.mono _ _ _
      | exact LeO.none _
      | refine LeO.ite ?_ ?_
      | refine LeO.bind ?_ (fun _ => ?_)
set_option maxHeartbeats 8000000 in
set_option maxRecDepth 100000 in
theorem spec_SameFamily.calls (k : Nat) (a0_0 : Int) (A0_1 : Option Addr) (c0_1 : Nat) (l0_1 : List (List Int)) (a1_0 : Int) (A1_1 : Option Addr) (c1_1 : Nat) (l1_1 : List (List Int)) (r : Bool) (w : World) (hr0_1 : Kd.C (Kd.slice 2 (Kd.int .i64)) w A0_1 l0_1.length l0_1) (hc0_1 : l0_1.length ≤ c0_1) (hr1_1 : Kd.C (Kd.slice 2 (Kd.int .i64)) w A1_1 l1_1.length l1_1) (hc1_1 : l1_1.length ≤ c1_1) (h : spec_SameFamily.f k a0_0 l0_1 a1_0 l1_1 = some r) :
    Calls Try.prog 10 #[.agg #[.int .i64 a0_0, .slice A0_1 l0_1.length c0_1], .agg #[.int .i64 a1_0, .slice A1_1 l1_1.length c1_1]] w fun e w' => e = .returned (.bool r) ∧ Below w.heap.size w w' := by
  have hu27 := Try.underlying27
  have HR0_1 := Aside0.mk hr0_1
  have HC0_1 := Aside0.mk hc0_1
  clear hr0_1 hc0_1
  have HR1_1 := Aside0.mk hr1_1
  have HC1_1 := Aside0.mk hc1_1
  clear hr1_1 hc1_1
  have HB := Aside0.mk (Below.refl w.heap.size w)
  have H : (if a0_0 = a1_0 then (spec_SameFamily.j0 k ((l0_1.length : Int) != (l1_1.length : Int)) a0_0 l0_1 a1_0 l1_1) else (spec_SameFamily.j0 k true a0_0 l0_1 a1_0 l1_1)) = some r := h
  clear h
  have HC3 := Aside0.mk H
  clear H
  go_enter Try.func10, Try.ntmps10
  go_upto_region 1 with (first | ((with_reducible refine gate_dst (N := 2) rfl ?_); (try (refine gate_guard (by rfl) ?_; dsimp only)); refine box_event ?hg (N := 2) ?hd (cs := #[.int .i64 a0_0, .slice A0_1 l0_1.length c0_1]) (t := 27) ?hr ?_; (case hd => rfl); (case hg => rfl); (case hr => first | (go_simp; done) | (go_simp; rfl)); intro gb107 hg w4 hbox hb; have n0_ := Aside0.mk (below_step (by repeat (first | (with_reducible first | exact HB.out | apply below_alloc | apply pw_below_drewN | apply below_drew1) | exact HB.out)) hb); have n1_ := Aside0.mk (hbox); have n2_ := Aside0.mk ((by rw [hg]; exact (below_size (by repeat (first | (with_reducible first | exact HB.out | apply below_alloc | apply pw_below_drewN | apply below_drew1) | exact HB.out))) : w.heap.size ≤ gb107)); have n3_ := Aside0.mk ((by rw [hg]; exact (below_size (by repeat (first | (with_reducible first | exact HB.out | apply below_alloc | apply pw_below_drewN | apply below_drew1) | exact HB.out))) : w.heap.size ≤ gb107)); clear HB; have HB := n0_; have BK107 := n1_; have GW107 := n2_; have GE107 := n3_; clear n0_ n1_ n2_ n3_; clear hb hbox hg) | ((with_reducible refine gate_dst (N := 3) rfl ?_); (try (refine gate_guard (by rfl) ?_; dsimp only)); refine box_event ?hg (N := 3) ?hd (cs := #[.int .i64 a1_0, .slice A1_1 l1_1.length c1_1]) (t := 27) ?hr ?_; (case hd => rfl); (case hg => rfl); (case hr => first | (go_simp; done) | (go_simp; rfl)); intro gb108 hg w5 hbox hb; have n0_ := Aside0.mk (blk_below (g := gb107) (o := .cells #[.int .i64 a0_0, .slice A0_1 l0_1.length c0_1] 27 (0, 0)) (by (with_reducible repeat (first | refine blk_drewN ?_ _ | refine blk_drew ?_ | refine blk_alloc ?_ _)); exact BK107.out) hb); have n1_ := Aside0.mk (below_step (by repeat (first | (with_reducible first | exact HB.out | apply below_alloc | apply pw_below_drewN | apply below_drew1 | refine below_set ?_ GE107.out) | exact HB.out)) hb); have n2_ := Aside0.mk (hbox); have n3_ := Aside0.mk ((by rw [hg]; exact (below_size (by repeat (first | (with_reducible first | exact HB.out | apply below_alloc | apply pw_below_drewN | apply below_drew1 | refine below_set ?_ GE107.out) | exact HB.out))) : w.heap.size ≤ gb108)); have n4_ := Aside0.mk ((by rw [hg]; exact (below_size (by repeat (first | (with_reducible first | exact HB.out | apply below_alloc | apply pw_below_drewN | apply below_drew1 | refine below_set ?_ GE107.out) | exact HB.out))) : w.heap.size ≤ gb108)); have n5_ := Aside0.mk ((by rw [hg]; exact Nat.ne_of_lt (blk_lt (g := gb107) (o := .cells #[.int .i64 a0_0, .slice A0_1 l0_1.length c0_1] 27 (0, 0)) (by (with_reducible repeat (first | refine blk_drewN ?_ _ | refine blk_drew ?_ | refine blk_alloc ?_ _)); exact BK107.out)) : gb107 ≠ gb108)); have n6_ := Aside0.mk ((by rw [hg]; exact Nat.ne_of_gt (blk_lt (g := gb107) (o := .cells #[.int .i64 a0_0, .slice A0_1 l0_1.length c0_1] 27 (0, 0)) (by (with_reducible repeat (first | refine blk_drewN ?_ _ | refine blk_drew ?_ | refine blk_alloc ?_ _)); exact BK107.out)) : gb108 ≠ gb107)); clear BK107; clear HB; have BK107 := n0_; have HB := n1_; have BK108 := n2_; have GW108 := n3_; have GE108 := n4_; have NB107_108 := n5_; have NB108_107 := n6_; clear n0_ n1_ n2_ n3_ n4_ n5_ n6_; clear hb hbox hg))
  repeat (go_quiet (first | ((with_reducible refine gate_dst (N := 2) rfl ?_); (try (refine gate_guard (by rfl) ?_; dsimp only)); refine box_event ?hg (N := 2) ?hd (cs := #[.int .i64 a0_0, .slice A0_1 l0_1.length c0_1]) (t := 27) ?hr ?_; (case hd => rfl); (case hg => rfl); (case hr => first | (go_simp; done) | (go_simp; rfl)); intro gb107 hg w4 hbox hb; have n0_ := Aside0.mk (below_step (by repeat (first | (with_reducible first | exact HB.out | apply below_alloc | apply pw_below_drewN | apply below_drew1) | exact HB.out)) hb); have n1_ := Aside0.mk (hbox); have n2_ := Aside0.mk ((by rw [hg]; exact (below_size (by repeat (first | (with_reducible first | exact HB.out | apply below_alloc | apply pw_below_drewN | apply below_drew1) | exact HB.out))) : w.heap.size ≤ gb107)); have n3_ := Aside0.mk ((by rw [hg]; exact (below_size (by repeat (first | (with_reducible first | exact HB.out | apply below_alloc | apply pw_below_drewN | apply below_drew1) | exact HB.out))) : w.heap.size ≤ gb107)); clear HB; have HB := n0_; have BK107 := n1_; have GW107 := n2_; have GE107 := n3_; clear n0_ n1_ n2_ n3_; clear hb hbox hg) | ((with_reducible refine gate_dst (N := 3) rfl ?_); (try (refine gate_guard (by rfl) ?_; dsimp only)); refine box_event ?hg (N := 3) ?hd (cs := #[.int .i64 a1_0, .slice A1_1 l1_1.length c1_1]) (t := 27) ?hr ?_; (case hd => rfl); (case hg => rfl); (case hr => first | (go_simp; done) | (go_simp; rfl)); intro gb108 hg w5 hbox hb; have n0_ := Aside0.mk (blk_below (g := gb107) (o := .cells #[.int .i64 a0_0, .slice A0_1 l0_1.length c0_1] 27 (0, 0)) (by (with_reducible repeat (first | refine blk_drewN ?_ _ | refine blk_drew ?_ | refine blk_alloc ?_ _)); exact BK107.out) hb); have n1_ := Aside0.mk (below_step (by repeat (first | (with_reducible first | exact HB.out | apply below_alloc | apply pw_below_drewN | apply below_drew1 | refine below_set ?_ GE107.out) | exact HB.out)) hb); have n2_ := Aside0.mk (hbox); have n3_ := Aside0.mk ((by rw [hg]; exact (below_size (by repeat (first | (with_reducible first | exact HB.out | apply below_alloc | apply pw_below_drewN | apply below_drew1 | refine below_set ?_ GE107.out) | exact HB.out))) : w.heap.size ≤ gb108)); have n4_ := Aside0.mk ((by rw [hg]; exact (below_size (by repeat (first | (with_reducible first | exact HB.out | apply below_alloc | apply pw_below_drewN | apply below_drew1 | refine below_set ?_ GE107.out) | exact HB.out))) : w.heap.size ≤ gb108)); have n5_ := Aside0.mk ((by rw [hg]; exact Nat.ne_of_lt (blk_lt (g := gb107) (o := .cells #[.int .i64 a0_0, .slice A0_1 l0_1.length c0_1] 27 (0, 0)) (by (with_reducible repeat (first | refine blk_drewN ?_ _ | refine blk_drew ?_ | refine blk_alloc ?_ _)); exact BK107.out)) : gb107 ≠ gb108)); have n6_ := Aside0.mk ((by rw [hg]; exact Nat.ne_of_gt (blk_lt (g := gb107) (o := .cells #[.int .i64 a0_0, .slice A0_1 l0_1.length c0_1] 27 (0, 0)) (by (with_reducible repeat (first | refine blk_drewN ?_ _ | refine blk_drew ?_ | refine blk_alloc ?_ _)); exact BK107.out)) : gb108 ≠ gb107)); clear BK107; clear HB; have BK107 := n0_; have HB := n1_; have BK108 := n2_; have GW108 := n3_; have GE108 := n4_; have NB107_108 := n5_; have NB108_107 := n6_; clear n0_ n1_ n2_ n3_ n4_ n5_ n6_; clear hb hbox hg)); go_upto_region 1 with (first | ((with_reducible refine gate_dst (N := 2) rfl ?_); (try (refine gate_guard (by rfl) ?_; dsimp only)); refine box_event ?hg (N := 2) ?hd (cs := #[.int .i64 a0_0, .slice A0_1 l0_1.length c0_1]) (t := 27) ?hr ?_; (case hd => rfl); (case hg => rfl); (case hr => first | (go_simp; done) | (go_simp; rfl)); intro gb107 hg w4 hbox hb; have n0_ := Aside0.mk (below_step (by repeat (first | (with_reducible first | exact HB.out | apply below_alloc | apply pw_below_drewN | apply below_drew1) | exact HB.out)) hb); have n1_ := Aside0.mk (hbox); have n2_ := Aside0.mk ((by rw [hg]; exact (below_size (by repeat (first | (with_reducible first | exact HB.out | apply below_alloc | apply pw_below_drewN | apply below_drew1) | exact HB.out))) : w.heap.size ≤ gb107)); have n3_ := Aside0.mk ((by rw [hg]; exact (below_size (by repeat (first | (with_reducible first | exact HB.out | apply below_alloc | apply pw_below_drewN | apply below_drew1) | exact HB.out))) : w.heap.size ≤ gb107)); clear HB; have HB := n0_; have BK107 := n1_; have GW107 := n2_; have GE107 := n3_; clear n0_ n1_ n2_ n3_; clear hb hbox hg) | ((with_reducible refine gate_dst (N := 3) rfl ?_); (try (refine gate_guard (by rfl) ?_; dsimp only)); refine box_event ?hg (N := 3) ?hd (cs := #[.int .i64 a1_0, .slice A1_1 l1_1.length c1_1]) (t := 27) ?hr ?_; (case hd => rfl); (case hg => rfl); (case hr => first | (go_simp; done) | (go_simp; rfl)); intro gb108 hg w5 hbox hb; have n0_ := Aside0.mk (blk_below (g := gb107) (o := .cells #[.int .i64 a0_0, .slice A0_1 l0_1.length c0_1] 27 (0, 0)) (by (with_reducible repeat (first | refine blk_drewN ?_ _ | refine blk_drew ?_ | refine blk_alloc ?_ _)); exact BK107.out) hb); have n1_ := Aside0.mk (below_step (by repeat (first | (with_reducible first | exact HB.out | apply below_alloc | apply pw_below_drewN | apply below_drew1 | refine below_set ?_ GE107.out) | exact HB.out)) hb); have n2_ := Aside0.mk (hbox); have n3_ := Aside0.mk ((by rw [hg]; exact (below_size (by repeat (first | (with_reducible first | exact HB.out | apply below_alloc | apply pw_below_drewN | apply below_drew1 | refine below_set ?_ GE107.out) | exact HB.out))) : w.heap.size ≤ gb108)); have n4_ := Aside0.mk ((by rw [hg]; exact (below_size (by repeat (first | (with_reducible first | exact HB.out | apply below_alloc | apply pw_below_drewN | apply below_drew1 | refine below_set ?_ GE107.out) | exact HB.out))) : w.heap.size ≤ gb108)); have n5_ := Aside0.mk ((by rw [hg]; exact Nat.ne_of_lt (blk_lt (g := gb107) (o := .cells #[.int .i64 a0_0, .slice A0_1 l0_1.length c0_1] 27 (0, 0)) (by (with_reducible repeat (first | refine blk_drewN ?_ _ | refine blk_drew ?_ | refine blk_alloc ?_ _)); exact BK107.out)) : gb107 ≠ gb108)); have n6_ := Aside0.mk ((by rw [hg]; exact Nat.ne_of_gt (blk_lt (g := gb107) (o := .cells #[.int .i64 a0_0, .slice A0_1 l0_1.length c0_1] 27 (0, 0)) (by (with_reducible repeat (first | refine blk_drewN ?_ _ | refine blk_drew ?_ | refine blk_alloc ?_ _)); exact BK107.out)) : gb108 ≠ gb107)); clear BK107; clear HB; have BK107 := n0_; have HB := n1_; have BK108 := n2_; have GW108 := n3_; have GE108 := n4_; have NB107_108 := n5_; have NB108_107 := n6_; clear n0_ n1_ n2_ n3_ n4_ n5_ n6_; clear hb hbox hg)))
  (try simp only [Act.put, List.setIfInBounds_toArray, List.set_cons_zero, List.set_cons_succ])
  go_cut [19] (fun v19 wc => ∃ (kq : Nat) (x19_2 : Bool), v19 = .bool x19_2 ∧ Aside0 (spec_SameFamily.j0 kq x19_2 a0_0 l0_1 a1_0 l1_1 = some r) ∧ Aside0 (kq ≤ k) ∧ Aside0 (wc.heap[gb107]? = some (.cells #[.int .i64 a0_0, (.slice A0_1 l0_1.length c0_1)] 27 (0, 0))) ∧ Aside0 (wc.heap[gb108]? = some (.cells #[.int .i64 a1_0, (.slice A1_1 l1_1.length c1_1)] 27 (0, 0))) ∧ Aside0 (Below w.heap.size w wc))
  case first =>
    have H := HC3.out
    clear HC3
    by_cases c6 : a0_0 = a1_0
    · rw [if_pos c6] at H
      have c6b0 : (a0_0 == a1_0) = true := beq_iff_eq.mpr c6
      have c6b1 : (a0_0 != a1_0) = false := bne_eq_false_iff_eq.mpr c6
      clear c6
      (first | rw [c6b0] | (simp only [i64_w, i32_w]; rw [c6b0]) | skip)
      have H' := Aside0.mk H
      clear H
      have hnb7 := NB107_108.out
      have hnc7 := NB108_107.out
      have hcz8_0 : w5.cell? ⟨gb107, 0, none⟩ = some (.int .i64 a0_0) := (blk_cell BK107.out 0).trans rfl
      have hcz8_1 : w5.cell? ⟨gb107, 1, none⟩ = some (.slice A0_1 l0_1.length c0_1) := (blk_cell BK107.out 1).trans rfl
      have hfz8_0 := blk_frozen BK107.out 0
      have hfz8_1 := blk_frozen BK107.out 1
      have hcz9_0 : w5.cell? ⟨gb108, 0, none⟩ = some (.int .i64 a1_0) := (blk_cell BK108.out 0).trans rfl
      have hcz9_1 : w5.cell? ⟨gb108, 1, none⟩ = some (.slice A1_1 l1_1.length c1_1) := (blk_cell BK108.out 1).trans rfl
      have hfz9_0 := blk_frozen BK108.out 0
      have hfz9_1 := blk_frozen BK108.out 1
      go_wp2
      repeat (go_quiet (fail); try go_wp2)
      go_meet
      case rel => exact ⟨_, (((l0_1.length : Int) != (l1_1.length : Int))), (by first | rfl | (simp; done) | (simp [*]; done)), H', ⟨by first | omega | exact Nat.le_refl _⟩, ⟨by (with_reducible repeat (first | refine blk_drewN ?_ _ | refine blk_drew ?_ | refine blk_alloc ?_ _)); exact BK107.out⟩, ⟨by (with_reducible repeat (first | refine blk_drewN ?_ _ | refine blk_drew ?_ | refine blk_alloc ?_ _)); exact BK108.out⟩, ⟨by repeat (first | (with_reducible first | exact HB.out | apply below_alloc | apply pw_below_drewN | apply below_drew1 | refine below_set ?_ GE107.out | refine below_set ?_ GE108.out) | exact HB.out)⟩⟩
    · rw [if_neg c6] at H
      have c6b0 : (a0_0 == a1_0) = false := beq_eq_false_iff_ne.mpr c6
      have c6b1 : (a0_0 != a1_0) = true := bne_iff_ne.mpr c6
      (first | rw [c6b0] | (simp only [i64_w, i32_w]; rw [c6b0]) | skip)
      have H' := Aside0.mk H
      clear H
      have hnb10 := NB107_108.out
      have hnc10 := NB108_107.out
      have hcz11_0 : w5.cell? ⟨gb107, 0, none⟩ = some (.int .i64 a0_0) := (blk_cell BK107.out 0).trans rfl
      have hcz11_1 : w5.cell? ⟨gb107, 1, none⟩ = some (.slice A0_1 l0_1.length c0_1) := (blk_cell BK107.out 1).trans rfl
      have hfz11_0 := blk_frozen BK107.out 0
      have hfz11_1 := blk_frozen BK107.out 1
      have hcz12_0 : w5.cell? ⟨gb108, 0, none⟩ = some (.int .i64 a1_0) := (blk_cell BK108.out 0).trans rfl
      have hcz12_1 : w5.cell? ⟨gb108, 1, none⟩ = some (.slice A1_1 l1_1.length c1_1) := (blk_cell BK108.out 1).trans rfl
      have hfz12_0 := blk_frozen BK108.out 0
      have hfz12_1 := blk_frozen BK108.out 1
      go_wp2
      repeat (go_quiet (fail); try go_wp2)
      go_meet
      case rel => exact ⟨_, (true), (by first | rfl | (simp; done) | (simp [*]; done)), H', ⟨by first | omega | exact Nat.le_refl _⟩, ⟨by (with_reducible repeat (first | refine blk_drewN ?_ _ | refine blk_drew ?_ | refine blk_alloc ?_ _)); exact BK107.out⟩, ⟨by (with_reducible repeat (first | refine blk_drewN ?_ _ | refine blk_drew ?_ | refine blk_alloc ?_ _)); exact BK108.out⟩, ⟨by repeat (first | (with_reducible first | exact HB.out | apply below_alloc | apply pw_below_drewN | apply below_drew1 | refine below_set ?_ GE107.out | refine below_set ?_ GE108.out) | exact HB.out)⟩⟩
  case rest =>
    clear HC3
    try clear c1
    try clear p2
    try clear c6
    try clear c6b0
    try clear c6b1
    try clear c7
    try clear c10
    try clear hcz11_0
    try clear hcz11_1
    try clear hcz12_0
    try clear hcz12_1
    try clear hcz8_0
    try clear hcz8_1
    try clear hcz9_0
    try clear hcz9_1
    try clear hfz11_0
    try clear hfz11_1
    try clear hfz12_0
    try clear hfz12_1
    try clear hfz8_0
    try clear hfz8_1
    try clear hfz9_0
    try clear hfz9_1
    obtain ⟨kq, x19_2, rfl, HA, HJ2, BK107, BK108, HB⟩ := hcut
    cases kq with
    | zero => exact absurd HA.out (by simp [spec_SameFamily.j0])
    | succ kj2 =>
      have H := HA.out
      clear HA
      simp only [spec_SameFamily.j0] at H
      by_cases c13 : x19_2 = true
      · subst c13
        have H1 : (some false) = some r := by rw [if_pos rfl] at H; exact H
        clear H
        have H := H1
        clear H1
        obtain rfl := Option.some.inj H
        go_wp2
        repeat (go_quiet (fail); try go_wp2)
        go_ret
        exact ⟨by first | rfl | (simp [errW_none, errW_some] <;> rfl) | (simp [*, errW_none, errW_some] <;> rfl), by repeat (first | (with_reducible first | exact HB.out | apply below_alloc | apply pw_below_drewN | apply below_drew1 | refine below_set ?_ GE107.out | refine below_set ?_ GE108.out) | exact HB.out)⟩
      · replace c13 := Bool.eq_false_iff.mpr c13
        subst c13
        have H1 : (spec_SameFamily.l0 kj2 0 a0_0 l0_1 a1_0 l1_1) = some r := by rw [if_neg (show ¬ (false = true) by decide)] at H; exact H
        clear H
        have H := H1
        clear H1
        have H' := Aside0.mk H
        clear H
        go_wp2
        repeat (go_quiet (fail); try go_wp2)
        go_loopg [5] kj2 (fun kq v5 w' => ∃ (x5_2 : Int), v5 = .int .i64 x5_2 ∧ Aside0 (spec_SameFamily.l0 kq x5_2 a0_0 l0_1 a1_0 l1_1 = some r) ∧ Aside0 (kq ≤ kj2) ∧ Aside0 (w'.heap[gb107]? = some (.cells #[.int .i64 a0_0, (.slice A0_1 l0_1.length c0_1)] 27 (0, 0))) ∧ Aside0 (w'.heap[gb108]? = some (.cells #[.int .i64 a1_0, (.slice A1_1 l1_1.length c1_1)] 27 (0, 0))) ∧ Aside0 (Below w.heap.size w w'))
        case atStart => exact ⟨(0), (by first | rfl | (simp; done) | (simp [*]; done)), H', ⟨Nat.le_refl _⟩, ⟨by (with_reducible repeat (first | refine blk_drewN ?_ _ | refine blk_drew ?_ | refine blk_alloc ?_ _)); exact BK107.out⟩, ⟨by (with_reducible repeat (first | refine blk_drewN ?_ _ | refine blk_drew ?_ | refine blk_alloc ?_ _)); exact BK108.out⟩, ⟨by repeat (first | (with_reducible first | exact HB.out | apply below_alloc | apply pw_below_drewN | apply below_drew1 | refine below_set ?_ GE107.out | refine below_set ?_ GE108.out) | exact HB.out)⟩⟩
        case round =>
          clear H'
          try clear c1
          try clear p2
          try clear c6
          try clear c6b0
          try clear c6b1
          try clear c7
          try clear c10
          try clear c13
          try clear hcz11_0
          try clear hcz11_1
          try clear hcz12_0
          try clear hcz12_1
          try clear hcz8_0
          try clear hcz8_1
          try clear hcz9_0
          try clear hcz9_1
          try clear hfz11_0
          try clear hfz11_1
          try clear hfz12_0
          try clear hfz12_1
          try clear hfz8_0
          try clear hfz8_1
          try clear hfz9_0
          try clear hfz9_1
          try clear p2
          obtain ⟨x5_2, rfl, HA, HK2, BK107, BK108, HB⟩ := hrel
          cases gk with
          | zero => exact absurd HA.out (by simp [spec_SameFamily.l0])
          | succ k2 =>
            have H := HA.out
            clear HA
            simp only [spec_SameFamily.l0] at H
            by_cases c14 : x5_2 < (l0_1.length : Int)
            · rw [if_pos c14] at H
              have c14b0 : decide (x5_2 < (l0_1.length : Int)) = true := decide_eq_true c14
              clear c14
              by_cases c15 : 0 ≤ x5_2
              · rw [if_pos c15] at H
                have c15b0 : decide (0 ≤ x5_2) = true := decide_eq_true c15
                clear c15
                by_cases c16 : x5_2 < (l1_1.length : Int)
                · rw [if_pos c16] at H
                  have c16b0 : decide (x5_2 < (l1_1.length : Int)) = true := decide_eq_true c16
                  clear c16
                  replace H := Option.bind_eq_some_iff.mp H
                  obtain ⟨t111, A170, H⟩ := H
                  replace H : (if t111 = true then (spec_SameFamily.l0 k2 (wrap64 (x5_2 + 1)) a0_0 l0_1 a1_0 l1_1) else (some false)) = some r := H
                  have A17 := Aside0.mk A170
                  clear A170
                  by_cases c18 : t111 = true
                  · subst c18
                    have H1 : (spec_SameFamily.l0 k2 (wrap64 (x5_2 + 1)) a0_0 l0_1 a1_0 l1_1) = some r := by rw [if_pos rfl] at H; exact H
                    clear H
                    have H := H1
                    clear H1
                    have H' := Aside0.mk H
                    clear H
                    have hnb19 := NB107_108.out
                    have hnc19 := NB108_107.out
                    have hcz20_0 : wr.cell? ⟨gb107, 0, none⟩ = some (.int .i64 a0_0) := (blk_cell BK107.out 0).trans rfl
                    have hcz20_1 : wr.cell? ⟨gb107, 1, none⟩ = some (.slice A0_1 l0_1.length c0_1) := (blk_cell BK107.out 1).trans rfl
                    have hfz20_0 := blk_frozen BK107.out 0
                    have hfz20_1 := blk_frozen BK107.out 1
                    have p109 : 0 ≤ (x5_2 : Int) := of_decide_eq_true (by first | (with_reducible assumption) | assumption)
                    have q109 : x5_2 < (l0_1.length : Int) := of_decide_eq_true (by first | (with_reducible assumption) | assumption)
                    obtain ⟨ad109, A109_0, c109_0, e109, hx109_0, hl109_0, hi109_0⟩ := at_L1 HR0_1.out x5_2 p109 q109
                    cases e109
                    replace hx109_0 := (HB.out.cell (World.block_lt_of_cell? w _ hx109_0)).trans hx109_0
                    have HR109_0 := Aside0.mk hi109_0
                    have HC109_0 := Aside0.mk hl109_0
                    clear hi109_0 hl109_0
                    replace p109 := eq_true p109
                    replace q109 := eq_true q109
                    have hcz21_0 : wr.cell? ⟨gb108, 0, none⟩ = some (.int .i64 a1_0) := (blk_cell BK108.out 0).trans rfl
                    have hcz21_1 : wr.cell? ⟨gb108, 1, none⟩ = some (.slice A1_1 l1_1.length c1_1) := (blk_cell BK108.out 1).trans rfl
                    have hfz21_0 := blk_frozen BK108.out 0
                    have hfz21_1 := blk_frozen BK108.out 1
                    have p110 : 0 ≤ (x5_2 : Int) := of_decide_eq_true (by first | (with_reducible assumption) | assumption)
                    have q110 : x5_2 < (l1_1.length : Int) := of_decide_eq_true (by first | (with_reducible assumption) | assumption)
                    obtain ⟨ad110, A110_0, c110_0, e110, hx110_0, hl110_0, hi110_0⟩ := at_L1 HR1_1.out x5_2 p110 q110
                    cases e110
                    replace hx110_0 := (HB.out.cell (World.block_lt_of_cell? w _ hx110_0)).trans hx110_0
                    have HR110_0 := Aside0.mk hi110_0
                    have HC110_0 := Aside0.mk hl110_0
                    clear hi110_0 hl110_0
                    replace p110 := eq_true p110
                    replace q110 := eq_true q110
                    go_wp2_with (first | (go_at_call 31; (with_reducible refine (spec_l00Same.calls k2 _ _ (rd_L1 l0_1 x5_2) _ _ (rd_L1 l1_1 x5_2) true _ ?side1 ?side2 ?side3 ?side4 A17.out).mono ?_); (case side1 => repeat (first | exact (Kd.C_below HR109_0.out HB.out) | (with_reducible refine Kd.C_alloc ?_ _) | (with_reducible refine Kd.C_drewN ?_ _) | (with_reducible refine Kd.C_drew ?_))); (case side2 => exact HC109_0.out); (case side3 => repeat (first | exact (Kd.C_below HR110_0.out HB.out) | (with_reducible refine Kd.C_alloc ?_ _) | (with_reducible refine Kd.C_drewN ?_ _) | (with_reducible refine Kd.C_drew ?_))); (case side4 => exact HC110_0.out); rintro e w' ⟨rfl, ⟨nd, rfl⟩⟩; (try first | exact ⟨rfl, _, World.drewN_drewN _ _ _⟩ | exact ⟨rfl, _, Eq.trans (World.drewN_drewN _ _ _) (congrArg (World.drewN _) (Nat.add_assoc _ _ _))⟩)))
                    repeat (go_quiet (first | (go_at_call 31; (with_reducible refine (spec_l00Same.calls k2 _ _ (rd_L1 l0_1 x5_2) _ _ (rd_L1 l1_1 x5_2) true _ ?side1 ?side2 ?side3 ?side4 A17.out).mono ?_); (case side1 => repeat (first | exact (Kd.C_below HR109_0.out HB.out) | (with_reducible refine Kd.C_alloc ?_ _) | (with_reducible refine Kd.C_drewN ?_ _) | (with_reducible refine Kd.C_drew ?_))); (case side2 => exact HC109_0.out); (case side3 => repeat (first | exact (Kd.C_below HR110_0.out HB.out) | (with_reducible refine Kd.C_alloc ?_ _) | (with_reducible refine Kd.C_drewN ?_ _) | (with_reducible refine Kd.C_drew ?_))); (case side4 => exact HC110_0.out); rintro e w' ⟨rfl, ⟨nd, rfl⟩⟩; (try first | exact ⟨rfl, _, World.drewN_drewN _ _ _⟩ | exact ⟨rfl, _, Eq.trans (World.drewN_drewN _ _ _) (congrArg (World.drewN _) (Nat.add_assoc _ _ _))⟩))); try go_wp2_with (first | (go_at_call 31; (with_reducible refine (spec_l00Same.calls k2 _ _ (rd_L1 l0_1 x5_2) _ _ (rd_L1 l1_1 x5_2) true _ ?side1 ?side2 ?side3 ?side4 A17.out).mono ?_); (case side1 => repeat (first | exact (Kd.C_below HR109_0.out HB.out) | (with_reducible refine Kd.C_alloc ?_ _) | (with_reducible refine Kd.C_drewN ?_ _) | (with_reducible refine Kd.C_drew ?_))); (case side2 => exact HC109_0.out); (case side3 => repeat (first | exact (Kd.C_below HR110_0.out HB.out) | (with_reducible refine Kd.C_alloc ?_ _) | (with_reducible refine Kd.C_drewN ?_ _) | (with_reducible refine Kd.C_drew ?_))); (case side4 => exact HC110_0.out); rintro e w' ⟨rfl, ⟨nd, rfl⟩⟩; (try first | exact ⟨rfl, _, World.drewN_drewN _ _ _⟩ | exact ⟨rfl, _, Eq.trans (World.drewN_drewN _ _ _) (congrArg (World.drewN _) (Nat.add_assoc _ _ _))⟩))))
                    go_roundg k2
                    case measure => have := HJ2.out; have := HK2.out; omega
                    case rel => exact ⟨(wrap64 (x5_2 + 1)), (by first | rfl | (simp; done) | (simp [*]; done)), H', ⟨by have := HJ2.out; have := HK2.out; omega⟩, ⟨by (with_reducible repeat (first | refine blk_drewN ?_ _ | refine blk_drew ?_ | refine blk_alloc ?_ _)); exact BK107.out⟩, ⟨by (with_reducible repeat (first | refine blk_drewN ?_ _ | refine blk_drew ?_ | refine blk_alloc ?_ _)); exact BK108.out⟩, ⟨by repeat (first | (with_reducible first | exact HB.out | apply below_alloc | apply pw_below_drewN | apply below_drew1 | refine below_set ?_ GE107.out | refine below_set ?_ GE108.out) | exact HB.out)⟩⟩
                  · replace c18 := Bool.eq_false_iff.mpr c18
                    subst c18
                    have H1 : (some false) = some r := by rw [if_neg (show ¬ (false = true) by decide)] at H; exact H
                    clear H
                    have H := H1
                    clear H1
                    obtain rfl := Option.some.inj H
                    have hnb22 := NB107_108.out
                    have hnc22 := NB108_107.out
                    have hcz23_0 : wr.cell? ⟨gb107, 0, none⟩ = some (.int .i64 a0_0) := (blk_cell BK107.out 0).trans rfl
                    have hcz23_1 : wr.cell? ⟨gb107, 1, none⟩ = some (.slice A0_1 l0_1.length c0_1) := (blk_cell BK107.out 1).trans rfl
                    have hfz23_0 := blk_frozen BK107.out 0
                    have hfz23_1 := blk_frozen BK107.out 1
                    have p109 : 0 ≤ (x5_2 : Int) := of_decide_eq_true (by first | (with_reducible assumption) | assumption)
                    have q109 : x5_2 < (l0_1.length : Int) := of_decide_eq_true (by first | (with_reducible assumption) | assumption)
                    obtain ⟨ad109, A109_0, c109_0, e109, hx109_0, hl109_0, hi109_0⟩ := at_L1 HR0_1.out x5_2 p109 q109
                    cases e109
                    replace hx109_0 := (HB.out.cell (World.block_lt_of_cell? w _ hx109_0)).trans hx109_0
                    have HR109_0 := Aside0.mk hi109_0
                    have HC109_0 := Aside0.mk hl109_0
                    clear hi109_0 hl109_0
                    replace p109 := eq_true p109
                    replace q109 := eq_true q109
                    have hcz24_0 : wr.cell? ⟨gb108, 0, none⟩ = some (.int .i64 a1_0) := (blk_cell BK108.out 0).trans rfl
                    have hcz24_1 : wr.cell? ⟨gb108, 1, none⟩ = some (.slice A1_1 l1_1.length c1_1) := (blk_cell BK108.out 1).trans rfl
                    have hfz24_0 := blk_frozen BK108.out 0
                    have hfz24_1 := blk_frozen BK108.out 1
                    have p110 : 0 ≤ (x5_2 : Int) := of_decide_eq_true (by first | (with_reducible assumption) | assumption)
                    have q110 : x5_2 < (l1_1.length : Int) := of_decide_eq_true (by first | (with_reducible assumption) | assumption)
                    obtain ⟨ad110, A110_0, c110_0, e110, hx110_0, hl110_0, hi110_0⟩ := at_L1 HR1_1.out x5_2 p110 q110
                    cases e110
                    replace hx110_0 := (HB.out.cell (World.block_lt_of_cell? w _ hx110_0)).trans hx110_0
                    have HR110_0 := Aside0.mk hi110_0
                    have HC110_0 := Aside0.mk hl110_0
                    clear hi110_0 hl110_0
                    replace p110 := eq_true p110
                    replace q110 := eq_true q110
                    go_wp2_with (first | (go_at_call 31; (with_reducible refine (spec_l00Same.calls k2 _ _ (rd_L1 l0_1 x5_2) _ _ (rd_L1 l1_1 x5_2) false _ ?side1 ?side2 ?side3 ?side4 A17.out).mono ?_); (case side1 => repeat (first | exact (Kd.C_below HR109_0.out HB.out) | (with_reducible refine Kd.C_alloc ?_ _) | (with_reducible refine Kd.C_drewN ?_ _) | (with_reducible refine Kd.C_drew ?_))); (case side2 => exact HC109_0.out); (case side3 => repeat (first | exact (Kd.C_below HR110_0.out HB.out) | (with_reducible refine Kd.C_alloc ?_ _) | (with_reducible refine Kd.C_drewN ?_ _) | (with_reducible refine Kd.C_drew ?_))); (case side4 => exact HC110_0.out); rintro e w' ⟨rfl, ⟨nd, rfl⟩⟩; (try first | exact ⟨rfl, _, World.drewN_drewN _ _ _⟩ | exact ⟨rfl, _, Eq.trans (World.drewN_drewN _ _ _) (congrArg (World.drewN _) (Nat.add_assoc _ _ _))⟩)))
                    repeat (go_quiet (first | (go_at_call 31; (with_reducible refine (spec_l00Same.calls k2 _ _ (rd_L1 l0_1 x5_2) _ _ (rd_L1 l1_1 x5_2) false _ ?side1 ?side2 ?side3 ?side4 A17.out).mono ?_); (case side1 => repeat (first | exact (Kd.C_below HR109_0.out HB.out) | (with_reducible refine Kd.C_alloc ?_ _) | (with_reducible refine Kd.C_drewN ?_ _) | (with_reducible refine Kd.C_drew ?_))); (case side2 => exact HC109_0.out); (case side3 => repeat (first | exact (Kd.C_below HR110_0.out HB.out) | (with_reducible refine Kd.C_alloc ?_ _) | (with_reducible refine Kd.C_drewN ?_ _) | (with_reducible refine Kd.C_drew ?_))); (case side4 => exact HC110_0.out); rintro e w' ⟨rfl, ⟨nd, rfl⟩⟩; (try first | exact ⟨rfl, _, World.drewN_drewN _ _ _⟩ | exact ⟨rfl, _, Eq.trans (World.drewN_drewN _ _ _) (congrArg (World.drewN _) (Nat.add_assoc _ _ _))⟩))); try go_wp2_with (first | (go_at_call 31; (with_reducible refine (spec_l00Same.calls k2 _ _ (rd_L1 l0_1 x5_2) _ _ (rd_L1 l1_1 x5_2) false _ ?side1 ?side2 ?side3 ?side4 A17.out).mono ?_); (case side1 => repeat (first | exact (Kd.C_below HR109_0.out HB.out) | (with_reducible refine Kd.C_alloc ?_ _) | (with_reducible refine Kd.C_drewN ?_ _) | (with_reducible refine Kd.C_drew ?_))); (case side2 => exact HC109_0.out); (case side3 => repeat (first | exact (Kd.C_below HR110_0.out HB.out) | (with_reducible refine Kd.C_alloc ?_ _) | (with_reducible refine Kd.C_drewN ?_ _) | (with_reducible refine Kd.C_drew ?_))); (case side4 => exact HC110_0.out); rintro e w' ⟨rfl, ⟨nd, rfl⟩⟩; (try first | exact ⟨rfl, _, World.drewN_drewN _ _ _⟩ | exact ⟨rfl, _, Eq.trans (World.drewN_drewN _ _ _) (congrArg (World.drewN _) (Nat.add_assoc _ _ _))⟩))))
                    go_ret
                    exact ⟨by first | rfl | (simp [errW_none, errW_some] <;> rfl) | (simp [*, errW_none, errW_some] <;> rfl), by repeat (first | (with_reducible first | exact HB.out | apply below_alloc | apply pw_below_drewN | apply below_drew1 | refine below_set ?_ GE107.out | refine below_set ?_ GE108.out) | exact HB.out)⟩
                · rw [if_neg c16] at H
                  exact absurd H (by simp)
              · rw [if_neg c15] at H
                exact absurd H (by simp)
            · rw [if_neg c14] at H
              have c14b0 : decide (x5_2 < (l0_1.length : Int)) = false := decide_eq_false c14
              clear c14
              obtain rfl := Option.some.inj H
              have hnb25 := NB107_108.out
              have hnc25 := NB108_107.out
              have hcz26_0 : wr.cell? ⟨gb107, 0, none⟩ = some (.int .i64 a0_0) := (blk_cell BK107.out 0).trans rfl
              have hcz26_1 : wr.cell? ⟨gb107, 1, none⟩ = some (.slice A0_1 l0_1.length c0_1) := (blk_cell BK107.out 1).trans rfl
              have hfz26_0 := blk_frozen BK107.out 0
              have hfz26_1 := blk_frozen BK107.out 1
              go_wp2
              repeat (go_quiet (fail); try go_wp2)
              go_ret
              exact ⟨by first | rfl | (simp [errW_none, errW_some] <;> rfl) | (simp [*, errW_none, errW_some] <;> rfl), by repeat (first | (with_reducible first | exact HB.out | apply below_alloc | apply pw_below_drewN | apply below_drew1 | refine below_set ?_ GE107.out | refine below_set ?_ GE108.out) | exact HB.out)⟩

end Go.Proofs.Ytenmlpngnpjpjaa.P

namespace Go.Proofs.Ytenmlpngnpjpjaa.P
open Go.RowKit Go.Proofs.YtenmlpngnpjpjaaW.PrintWords Go.Proofs.YtenmlpngnpjpjaaW.PrintLast Go.Proofs.YtenmlpngnpjpjaaW.PrintMore
attribute [local go_sem] max2_int min2_int max_two min_two max_three min_three max_four min_four
set_option linter.unusedVariables false
set_option linter.unusedSimpArgs false

/-! ### impl_SameFamily: function 12 (by hand) -/
def impl_SameFamily.f (k : Nat) (a0_0 : Int) (l0_1 : List (List Int)) (a1_0 : Int) (l1_1 : List (List Int)) : Option Bool :=
  if a0_0 = a1_0 then (eqRows.f k l0_1 l1_1) else some false
theorem impl_SameFamily.mono : ∀ a0 a1 b0 b1 k, LeO (impl_SameFamily.f k a0 a1 b0 b1) (impl_SameFamily.f (k + 1) a0 a1 b0 b1) := fun a0 a1 b0 b1 k => by
  unfold impl_SameFamily.f
  exact LeO.ite (eqRows.mono _ _ _) (LeO.refl _)
set_option maxHeartbeats 8000000 in
set_option maxRecDepth 100000 in
theorem impl_SameFamily.calls (k : Nat) (a0_0 : Int) (A0_1 : Option Addr) (c0_1 : Nat) (l0_1 : List (List Int)) (a1_0 : Int) (A1_1 : Option Addr) (c1_1 : Nat) (l1_1 : List (List Int)) (r : Bool) (w : World)
    (hr0_1 : Kd.C (Kd.slice 2 (Kd.int .i64)) w A0_1 l0_1.length l0_1) (hc0_1 : l0_1.length ≤ c0_1) (hr1_1 : Kd.C (Kd.slice 2 (Kd.int .i64)) w A1_1 l1_1.length l1_1) (hc1_1 : l1_1.length ≤ c1_1) (h : impl_SameFamily.f k a0_0 l0_1 a1_0 l1_1 = some r) :
    Calls Try.prog 12 #[.agg #[.int .i64 a0_0, .slice A0_1 l0_1.length c0_1], .agg #[.int .i64 a1_0, .slice A1_1 l1_1.length c1_1]] w fun e w' => e = .returned (.bool r) ∧ Below w.heap.size w w' := by
  have hum := Try.underlying27
  have HR0 := Aside0.mk hr0_1
  have HR1 := Aside0.mk hr1_1
  clear hr0_1 hc0_1 hr1_1 hc1_1
  unfold impl_SameFamily.f at h
  by_cases c1 : a0_0 = a1_0
  · rw [if_pos c1] at h
    have c1b0 : (a0_0 == a1_0) = true := beq_iff_eq.mpr c1
    clear c1
    have A3 := Aside0.mk h
    clear h
    go_enter Try.func12, Try.ntmps12
    go_wp2_with (first | (go_at_call 33; (with_reducible refine (eqRows.calls k _ _ l0_1 _ _ l1_1 r _ ?side1 ?side2 A3.out).mono ?_); (case side1 => repeat (first | exact HR0.out | (with_reducible refine Kd.C_alloc ?_ _) | (with_reducible refine Kd.C_drewN ?_ _) | (with_reducible refine Kd.C_drew ?_))); (case side2 => repeat (first | exact HR1.out | (with_reducible refine Kd.C_alloc ?_ _) | (with_reducible refine Kd.C_drewN ?_ _) | (with_reducible refine Kd.C_drew ?_))); rintro e w' ⟨rfl, hb⟩))
    go_ret
    exact ⟨rfl, below_step (by repeat (first | exact Below.refl _ _ | apply below_alloc | apply pw_below_drewN | apply below_drew1)) hb⟩
  · rw [if_neg c1] at h
    have c1b0 : (a0_0 == a1_0) = false := beq_eq_false_iff_ne.mpr c1
    clear c1
    obtain rfl := Option.some.inj h
    clear h
    go_enter Try.func12, Try.ntmps12
    go_wp2
    go_ret
    exact ⟨rfl, by repeat (first | exact Below.refl _ _ | apply below_alloc | apply pw_below_drewN | apply below_drew1)⟩

end Go.Proofs.Ytenmlpngnpjpjaa.P

namespace Go.Proofs.Ytenmlpngnpjpjaa.P
open Go.RowKit Go.Proofs.YtenmlpngnpjpjaaW.PrintWords Go.Proofs.YtenmlpngnpjpjaaW.PrintLast Go.Proofs.YtenmlpngnpjpjaaW.PrintMore
attribute [local go_sem] max2_int min2_int max_two min_two max_three min_three max_four min_four
set_option linter.unusedVariables false
set_option linter.unusedSimpArgs false

theorem szFamily_ev (p : Int) (rows : List (List Int)) (a : Int) (ha : 0 ≤ a ∧ a ≤ 1048576) (hl : rows.length ≤ 9223372036854775807) (hr : ∀ r ∈ rows, r.length ≤ 9223372036854775807) :
    Ev (fun k => laws_szFamily.f k p rows a) (if (bulk rows : Int) ≤ a then a - bulk rows else -1) := by
  unfold laws_szFamily.f
  refine Ev.bind (szInt64SS_ev rows a ha hl hr) ?_
  by_cases h : (bulk rows : Int) ≤ a
  · simp only [if_pos h, if_neg (show ¬ (a - (bulk rows : Int) < 0) by omega)]
    exact Ev.now _
  · simp only [if_neg h]
    exact Ev.now _
theorem toFamily_ev (p : Int) (l : List (List Int)) (hl : l.length ≤ 1048576) (hr : ∀ r ∈ l, r.length ≤ 1048576) : Ev (fun k => laws_toFamily.f k p l) (p, l) := by
  unfold laws_toFamily.f
  exact Ev.bind (toInt64SS_ev l hl hr) (Ev.now _)
theorem eqFamily_same (p : Int) (l : List (List Int)) (hl : l.length ≤ 1048576) (hr : ∀ r ∈ l, r.length ≤ 1048576) : Ev (fun k => laws_eqFamily.f k p l p l) true := by
  unfold laws_eqFamily.f
  simp only [if_true]
  refine Ev.bind (eqInt64SS_same l hl hr) ?_
  simp only [if_true]
  exact Ev.now _
theorem impl_SameFamily_ev (p : Int) (a : List (List Int)) (q : Int) (b : List (List Int)) (hl : a.length ≤ 4611686018427387904) (hr : ∀ r ∈ a, r.length ≤ 4611686018427387904) : Ev (fun k => impl_SameFamily.f k p a q b) (decide (p = q ∧ a = b)) := by
  unfold impl_SameFamily.f
  by_cases h1 : p = q
  · simp only [if_pos h1]
    rw [show decide (p = q ∧ a = b) = decide (a = b) from by simp [h1]]
    exact eqRows_ev a b hl hr
  · simp only [if_neg h1]
    rw [decide_eq_false (by simp [h1])]
    exact Ev.now _
theorem spec_SameFamily_ev (p : Int) (a : List (List Int)) (q : Int) (b : List (List Int)) (hl : a.length ≤ 4611686018427387904) (hr : ∀ r ∈ a, r.length ≤ 4611686018427387904) : Ev (fun k => spec_SameFamily.f k p a q b) (decide (p = q ∧ a = b)) := by
  unfold spec_SameFamily.f
  have stop : Ev (fun k => spec_SameFamily.j0 k true p a q b) false := by
    refine Ev.step (f := fun _ => some false) (fun k => ?_) (Ev.now _)
    simp only [spec_SameFamily.j0, if_true]
  by_cases h1 : p = q
  · simp only [if_pos h1]
    rw [show decide (p = q ∧ a = b) = decide (a = b) from by simp [h1]]
    by_cases h : a.length = b.length
    · rw [show ((a.length : Int) != (b.length : Int)) = false from by simp [h]]
      refine Ev.step (f := fun k => spec_SameFamily.l0 k 0 p a q b) (fun k => by simp [spec_SameFamily.j0]) ?_
      have one : ∀ (i : Nat) (h1 : i < a.length) (h2 : i < b.length), Ev (fun k => spec_SameFamily.l0 (k + 1) (i : Int) p a q b) = Ev (fun k => (spec_l00Same.f k a[i] b[i]).bind fun t => if t = true then spec_SameFamily.l0 k ((i + 1 : Nat) : Int) p a q b else some false) := fun i h1 h2 => by
        congr 1
        funext k
        simp only [spec_SameFamily.l0]
        rw [if_pos (by omega), if_pos (by omega), if_pos (by omega), rdL_nat a i h1, rdL_nat b i h2, wr (by omega) (by omega)]
        rfl
      refine same_ev (l := fun k i => spec_SameFamily.l0 k i p a q b) a b h (fun i h1 h2 e t ht => ?_) (fun i h1 h2 e => ?_) ?_
      · refine Ev.step (f := fun k => spec_SameFamily.l0 (k + 1) (i : Int) p a q b) (fun k => rfl) ?_
        rw [one i h1 h2]
        refine Ev.bind (spec_l00Same_ev _ _ (hr _ (List.getElem_mem h1))) ?_
        simp only [decide_eq_true e, if_true]
        exact ht
      · refine Ev.step (f := fun k => spec_SameFamily.l0 (k + 1) (i : Int) p a q b) (fun k => rfl) ?_
        rw [one i h1 h2]
        refine Ev.bind (spec_l00Same_ev _ _ (hr _ (List.getElem_mem h1))) ?_
        simp only [decide_eq_false e]
        exact Ev.now _
      · refine Ev.step (f := fun _ => some true) (fun k => ?_) (Ev.now _)
        simp only [spec_SameFamily.l0]
        rw [if_neg (by omega)]
    · rw [show ((a.length : Int) != (b.length : Int)) = true from by simp; omega, decide_eq_false (by intro e; exact h (by rw [e]))]
      exact stop
  · simp only [if_neg h1]
    rw [decide_eq_false (by simp [h1])]
    exact stop

end Go.Proofs.Ytenmlpngnpjpjaa.P

namespace Go.Proofs.Ytenmlpngnpjpjaa.P
open Go.RowKit Go.Proofs.YtenmlpngnpjpjaaW.PrintWords Go.Proofs.YtenmlpngnpjpjaaW.PrintLast Go.Proofs.YtenmlpngnpjpjaaW.PrintMore
attribute [local go_sem] max2_int min2_int max_two min_two max_three min_three max_four min_four
set_option linter.unusedVariables false
set_option linter.unusedSimpArgs false

/-! ### spec_NeededHolders: function 16 -/
def spec_NeededHolders.l0 : Nat → Int → Int → Int → List (List Int) → Option (List Int × Int)
  | 0, _, _, _, _ => none
  | k + 1, x4, x5, x196000, x196001 => if x5 < (x196001.length : Int) then (if 0 ≤ x5 then ((spec_l01Bits.f k (rd_L1 x196001 x5)).bind fun t201 => (spec_NeededHolders.l0 k (Go.bits .or .i64 x4 t201) (wrap64 (x5 + 1)) x196000 x196001)) else (none)) else ((spec_l01Of.f k x4).bind fun t202 => (some (t202, 0)))
def spec_NeededHolders.f (k : Nat) (a0_0 : Int) (l0_1 : List (List Int)) : Option (List Int × Int) := (spec_l01Ok.f k a0_0 l0_1).bind fun t196 => (if t196 = true then (spec_NeededHolders.l0 k 0 0 a0_0 l0_1) else (some ((([] : List Int)), 1)))
theorem spec_NeededHolders.mono_l : ∀ k, (∀ y0 y1 y2 y3, LeO (spec_NeededHolders.l0 k y0 y1 y2 y3) (spec_NeededHolders.l0 (k + 1) y0 y1 y2 y3))
  | 0 => fun _ _ _ _ r h => by simp [spec_NeededHolders.l0] at h
  | k + 1 => by
    have ih0 := spec_NeededHolders.mono_l k
    · intro y0 y1 y2 y3
      unfold spec_NeededHolders.l0
      repeat' first
      | (with_reducible exact ih0 _ _ _ _)
      | (with_reducible exact spec_l01Bits.mono _ _)
      | (with_reducible exact spec_l01Of.mono _ _)
      | (with_reducible exact spec_l01Ok.mono _ _ _)
      | (with_reducible exact LeO.refl _)
      | (with_reducible exact LeO.none _)
      | (with_reducible refine LeO.ite ?_ ?_)
      | (with_reducible refine LeO.bind ?_ (fun _ => ?_))
      | exact ih0 _ _ _ _
      | exact spec_l01Bits.mono _ _
      | exact spec_l01Of.mono _ _
      | exact spec_l01Ok.mono _ _ _
      | exact LeO.none _
      | refine LeO.ite ?_ ?_
      | refine LeO.bind ?_ (fun _ => ?_)
theorem spec_NeededHolders.mono : ∀ a0 a1 k, LeO (spec_NeededHolders.f k a0 a1) (spec_NeededHolders.f (k + 1) a0 a1) := by
  intro a0 a1 k
  have ih0 := spec_NeededHolders.mono_l k
  unfold spec_NeededHolders.f
  repeat' first
      | (with_reducible exact ih0 _ _ _ _)
      | (with_reducible exact spec_l01Bits.mono _ _)
      | (with_reducible exact spec_l01Of.mono _ _)
      | (with_reducible exact spec_l01Ok.mono _ _ _)
      | (with_reducible exact LeO.refl _)
      | (with_reducible exact LeO.none _)
      | (with_reducible refine LeO.ite ?_ ?_)
      | (with_reducible refine LeO.bind ?_ (fun _ => ?_))
      | exact ih0 _ _ _ _
      | exact spec_l01Bits.mono _ _
      | exact spec_l01Of.mono _ _
      | exact spec_l01Ok.mono _ _ _
      | exact LeO.none _
      | refine LeO.ite ?_ ?_
      | refine LeO.bind ?_ (fun _ => ?_)
set_option maxHeartbeats 8000000 in
set_option maxRecDepth 100000 in
theorem spec_NeededHolders.calls (k : Nat) (a0_0 : Int) (A0_1 : Option Addr) (c0_1 : Nat) (l0_1 : List (List Int)) (r1 : List Int) (r2 : Int) (w : World) (hr0_1 : Kd.C (Kd.slice 2 (Kd.int .i64)) w A0_1 l0_1.length l0_1) (hc0_1 : l0_1.length ≤ c0_1) (h : spec_NeededHolders.f k a0_0 l0_1 = some (r1, r2)) :
    Calls Try.prog 16 #[.agg #[.int .i64 a0_0, .slice A0_1 l0_1.length c0_1]] w fun e w' => ∃ v0_ : Value, e = .returned (.tuple #[v0_, .int .i64 r2]) ∧ Kd.R (Kd.int .i64) 2 w' w.heap.size (fun _ => True) v0_ r1 ∧ Below w.heap.size w w' := by
  have hu27 := Try.underlying27
  have HR0_1 := Aside0.mk hr0_1
  have HC0_1 := Aside0.mk hc0_1
  clear hr0_1 hc0_1
  have HB := Aside0.mk (Below.refl w.heap.size w)
  have H : ((spec_l01Ok.f k a0_0 l0_1).bind fun t196 => (if t196 = true then (spec_NeededHolders.l0 k 0 0 a0_0 l0_1) else (some ((([] : List Int)), 1)))) = some (r1, r2) := h
  clear h
  replace H := Option.bind_eq_some_iff.mp H
  obtain ⟨t196, A20, H⟩ := H
  replace H : (if t196 = true then (spec_NeededHolders.l0 k 0 0 a0_0 l0_1) else (some ((([] : List Int)), 1))) = some (r1, r2) := H
  have A2 := Aside0.mk A20
  clear A20
  by_cases c3 : t196 = true
  · subst c3
    have H1 : (spec_NeededHolders.l0 k 0 0 a0_0 l0_1) = some (r1, r2) := by rw [if_pos rfl] at H; exact H
    clear H
    have H := H1
    clear H1
    have H' := Aside0.mk H
    clear H
    go_enter Try.func16, Try.ntmps16
    go_wp2_with (first | ((with_reducible refine gate_dst (N := 1) rfl ?_); refine box_event ?hg (N := 1) ?hd (cs := #[.int .i64 a0_0, .slice A0_1 l0_1.length c0_1]) (t := 27) ?hr ?_; (case hd => rfl); (case hg => rfl); (case hr => first | (go_simp; done) | (go_simp; rfl)); intro gb195 hg w4 hbox hb; have n0_ := Aside0.mk (below_step (by repeat (first | (with_reducible first | exact HB.out | apply below_alloc | apply pw_below_drewN | apply below_drew1) | exact HB.out)) hb); have n1_ := Aside0.mk (hbox); have n2_ := Aside0.mk ((by rw [hg]; exact (below_size (by repeat (first | (with_reducible first | exact HB.out | apply below_alloc | apply pw_below_drewN | apply below_drew1) | exact HB.out))) : w.heap.size ≤ gb195)); have n3_ := Aside0.mk ((by rw [hg]; exact (below_size (by repeat (first | (with_reducible first | exact HB.out | apply below_alloc | apply pw_below_drewN | apply below_drew1) | exact HB.out))) : w.heap.size ≤ gb195)); clear HB; have HB := n0_; have BK195 := n1_; have GW195 := n2_; have GE195 := n3_; clear n0_ n1_ n2_ n3_; clear hb hbox hg) | ((with_reducible refine gate_callee (f := 36) rfl ?_); refine goesL_ (some 6) rfl rfl Try.func36 (by kernel_rfl) rfl #[.pointer (some ⟨gb195, 0, none⟩)] rfl (by (try simp only [List.map_toArray, List.map_cons, List.map_nil]); first | done | rfl | (simp only [List.length_drop, List.length_take]; rfl)) ?_; (with_reducible refine (spec_l01Ok.calls k gb195 a0_0 A0_1 c0_1 l0_1 true _ ?side1 ?side2 ?side3 A2.out).mono ?_); (case side1 => (with_reducible repeat (first | refine blk_drewN ?_ _ | refine blk_drew ?_ | refine blk_alloc ?_ _)); exact BK195.out); (case side2 => repeat (first | exact (Kd.C_below HR0_1.out HB.out) | (with_reducible refine Kd.C_alloc ?_ _) | (with_reducible refine Kd.C_drewN ?_ _) | (with_reducible refine Kd.C_drew ?_))); (case side3 => exact HC0_1.out); rintro e w5 ⟨rfl, hb⟩; refine ⟨_, rfl, ?_⟩; have n0_ := Aside0.mk (blk_below (g := gb195) (o := .cells #[.int .i64 a0_0, .slice A0_1 l0_1.length c0_1] 27 (0, 0)) (by (with_reducible repeat (first | refine blk_drewN ?_ _ | refine blk_drew ?_ | refine blk_alloc ?_ _)); exact BK195.out) hb); have n1_ := Aside0.mk (below_step (by repeat (first | (with_reducible first | exact HB.out | apply below_alloc | apply pw_below_drewN | apply below_drew1 | refine below_set ?_ GE195.out) | exact HB.out)) hb); clear BK195; clear HB; have BK195 := n0_; have HB := n1_; clear n0_ n1_; (try clear hb); (try clear hb2); (try clear hk); (try clear hi)))
    go_loopg [4, 5] k (fun kq v4 v5 w' => ∃ (x4_1 : Int) (x5_1 : Int), v4 = .int .i64 x4_1 ∧ v5 = .int .i64 x5_1 ∧ Aside0 (spec_NeededHolders.l0 kq x4_1 x5_1 a0_0 l0_1 = some (r1, r2)) ∧ Aside0 (kq ≤ k) ∧ Aside0 (w'.heap[gb195]? = some (.cells #[.int .i64 a0_0, (.slice A0_1 l0_1.length c0_1)] 27 (0, 0))) ∧ Aside0 (Below w.heap.size w w'))
    case atStart => exact ⟨(0), (0), (by first | rfl | (simp; done) | (simp [*]; done)), (by first | rfl | (simp; done) | (simp [*]; done)), H', ⟨Nat.le_refl _⟩, ⟨by (with_reducible repeat (first | refine blk_drewN ?_ _ | refine blk_drew ?_ | refine blk_alloc ?_ _)); exact BK195.out⟩, ⟨by repeat (first | (with_reducible first | exact HB.out | apply below_alloc | apply pw_below_drewN | apply below_drew1 | refine below_set ?_ GE195.out) | exact HB.out)⟩⟩
    case round =>
      clear H'
      try clear c1
      try clear p2
      try clear c3
      obtain ⟨x4_1, x5_1, rfl, rfl, HA, HK1, BK195, HB⟩ := hrel
      cases gk with
      | zero => exact absurd HA.out (by simp [spec_NeededHolders.l0])
      | succ k1 =>
        have H := HA.out
        clear HA
        simp only [spec_NeededHolders.l0] at H
        by_cases c6 : x5_1 < (l0_1.length : Int)
        · rw [if_pos c6] at H
          have c6b0 : decide (x5_1 < (l0_1.length : Int)) = true := decide_eq_true c6
          clear c6
          by_cases c7 : 0 ≤ x5_1
          · rw [if_pos c7] at H
            have c7b0 : decide (0 ≤ x5_1) = true := decide_eq_true c7
            clear c7
            replace H := Option.bind_eq_some_iff.mp H
            obtain ⟨t201, A80, H⟩ := H
            replace H : (spec_NeededHolders.l0 k1 (Go.bits .or .i64 x4_1 t201) (wrap64 (x5_1 + 1)) a0_0 l0_1) = some (r1, r2) := H
            have A8 := Aside0.mk A80
            clear A80
            have H' := Aside0.mk H
            clear H
            have hcz9_0 : wr.cell? ⟨gb195, 0, none⟩ = some (.int .i64 a0_0) := (blk_cell BK195.out 0).trans rfl
            have hcz9_1 : wr.cell? ⟨gb195, 1, none⟩ = some (.slice A0_1 l0_1.length c0_1) := (blk_cell BK195.out 1).trans rfl
            have hfz9_0 := blk_frozen BK195.out 0
            have hfz9_1 := blk_frozen BK195.out 1
            have p200 : 0 ≤ (x5_1 : Int) := of_decide_eq_true (by first | (with_reducible assumption) | assumption)
            have q200 : x5_1 < (l0_1.length : Int) := of_decide_eq_true (by first | (with_reducible assumption) | assumption)
            obtain ⟨ad200, A200_0, c200_0, e200, hx200_0, hl200_0, hi200_0⟩ := at_L1 HR0_1.out x5_1 p200 q200
            cases e200
            replace hx200_0 := (HB.out.cell (World.block_lt_of_cell? w _ hx200_0)).trans hx200_0
            have HR200_0 := Aside0.mk hi200_0
            have HC200_0 := Aside0.mk hl200_0
            clear hi200_0 hl200_0
            replace p200 := eq_true p200
            replace q200 := eq_true q200
            go_wp2_with (first | ((with_reducible refine gate_callee (f := 42) rfl ?_); refine goesL_ (some 22) rfl rfl Try.func42 (by kernel_rfl) rfl #[.slice A200_0 (rd_L1 l0_1 x5_1).length c200_0] rfl (by (try simp only [List.map_toArray, List.map_cons, List.map_nil]); first | done | rfl | (simp only [List.length_drop, List.length_take]; rfl)) ?_; (with_reducible refine (spec_l01Bits.calls k1 _ _ (rd_L1 l0_1 x5_1) t201 _ ?side1 ?side2 A8.out).mono ?_); (case side1 => repeat (first | exact (Kd.C_below HR200_0.out HB.out) | (with_reducible refine Kd.C_alloc ?_ _) | (with_reducible refine Kd.C_drewN ?_ _) | (with_reducible refine Kd.C_drew ?_))); (case side2 => exact HC200_0.out); rintro e w' ⟨rfl, ⟨nd, rfl⟩⟩; refine ⟨_, rfl, ?_⟩))
            go_roundg k1
            case measure => have := HK1.out; omega
            case rel => exact ⟨(Go.bits .or .i64 x4_1 t201), (wrap64 (x5_1 + 1)), (by first | rfl | (simp; done) | (simp [*]; done)), (by first | rfl | (simp; done) | (simp [*]; done)), H', ⟨by have := HK1.out; omega⟩, ⟨by (with_reducible repeat (first | refine blk_drewN ?_ _ | refine blk_drew ?_ | refine blk_alloc ?_ _)); exact BK195.out⟩, ⟨by repeat (first | (with_reducible first | exact HB.out | apply below_alloc | apply pw_below_drewN | apply below_drew1 | refine below_set ?_ GE195.out) | exact HB.out)⟩⟩
          · rw [if_neg c7] at H
            exact absurd H (by simp)
        · rw [if_neg c6] at H
          have c6b0 : decide (x5_1 < (l0_1.length : Int)) = false := decide_eq_false c6
          clear c6
          replace H := Option.bind_eq_some_iff.mp H
          obtain ⟨t202, A100, H⟩ := H
          replace H : (some (t202, 0)) = some (r1, r2) := H
          have A10 := Aside0.mk A100
          clear A100
          simp only [Option.some.injEq, Prod.mk.injEq] at H
          obtain ⟨rfl, rfl⟩ := H
          have hcz11_0 : wr.cell? ⟨gb195, 0, none⟩ = some (.int .i64 a0_0) := (blk_cell BK195.out 0).trans rfl
          have hcz11_1 : wr.cell? ⟨gb195, 1, none⟩ = some (.slice A0_1 l0_1.length c0_1) := (blk_cell BK195.out 1).trans rfl
          have hfz11_0 := blk_frozen BK195.out 0
          have hfz11_1 := blk_frozen BK195.out 1
          go_wp2_with (first | ((with_reducible refine gate_callee (f := 43) rfl ?_); refine goesL_ (some 25) rfl rfl Try.func43 (by kernel_rfl) rfl #[.int .i64 x4_1] rfl (by (try simp only [List.map_toArray, List.map_cons, List.map_nil]); first | done | rfl | (simp only [List.length_drop, List.length_take]; rfl)) ?_; (with_reducible refine (spec_l01Of.calls k1 x4_1 t202 _ A10.out).mono ?_); rintro e w12 ⟨v203, rfl, ho0, hb⟩; refine ⟨_, rfl, ?_⟩; have n0_ := Aside0.mk (Kd.R_lower ho0 (below_size (by repeat (first | (with_reducible first | exact HB.out | apply below_alloc | apply pw_below_drewN | apply below_drew1 | refine below_set ?_ GE195.out) | exact HB.out)))); have n1_ := Aside0.mk (blk_below (g := gb195) (o := .cells #[.int .i64 a0_0, .slice A0_1 l0_1.length c0_1] 27 (0, 0)) (by (with_reducible repeat (first | refine blk_drewN ?_ _ | refine blk_drew ?_ | refine blk_alloc ?_ _)); exact BK195.out) hb); have n2_ := Aside0.mk (below_step (by repeat (first | (with_reducible first | exact HB.out | apply below_alloc | apply pw_below_drewN | apply below_drew1 | refine below_set ?_ GE195.out) | exact HB.out)) hb); clear BK195; clear HB; have HO204 := n0_; have BK195 := n1_; have HB := n2_; clear n0_ n1_ n2_; (try clear hb); (try clear hb2); (try clear hk); (try clear hi); (try clear ho0)))
          go_ret2
          exact ⟨_, by first | rfl | (simp [errW_none, errW_some] <;> rfl) | (simp [*, errW_none, errW_some] <;> rfl), by (with_reducible repeat (first | apply Kd.R_alloc | apply Kd.R_drewN | apply Kd.R_drew)); exact HO204.out, by repeat (first | (with_reducible first | exact HB.out | apply below_alloc | apply pw_below_drewN | apply below_drew1 | refine below_set ?_ GE195.out) | exact HB.out)⟩
  · replace c3 := Bool.eq_false_iff.mpr c3
    subst c3
    have H1 : (some ((([] : List Int)), 1)) = some (r1, r2) := by rw [if_neg (show ¬ (false = true) by decide)] at H; exact H
    clear H
    have H := H1
    clear H1
    obtain ⟨y197, hy197⟩ : ∃ y_ : List Int, y_ = (([] : List Int)) := ⟨_, rfl⟩
    replace H : (some (y197, 1)) = some (r1, r2) := by first | (rw [hy197]; with_reducible exact H) | (have H2_ := (Option.bind_some _ _).symm.trans H; rw [hy197]; with_reducible exact H2_) | (have H2_ := (Option.bind_some _ _).symm.trans H; with_reducible exact H2_) | with_reducible exact H | (rw [hy197]; exact H) | exact H
    have Ny197 := Aside0.mk hy197
    clear hy197
    simp only [Option.some.injEq, Prod.mk.injEq] at H
    obtain ⟨rfl, rfl⟩ := H
    go_enter Try.func16, Try.ntmps16
    go_wp2_with (first | ((with_reducible refine gate_dst (N := 1) rfl ?_); refine box_event ?hg (N := 1) ?hd (cs := #[.int .i64 a0_0, .slice A0_1 l0_1.length c0_1]) (t := 27) ?hr ?_; (case hd => rfl); (case hg => rfl); (case hr => first | (go_simp; done) | (go_simp; rfl)); intro gb195 hg w13 hbox hb; have n0_ := Aside0.mk (below_step (by repeat (first | (with_reducible first | exact HB.out | apply below_alloc | apply pw_below_drewN | apply below_drew1) | exact HB.out)) hb); have n1_ := Aside0.mk (hbox); have n2_ := Aside0.mk ((by rw [hg]; exact (below_size (by repeat (first | (with_reducible first | exact HB.out | apply below_alloc | apply pw_below_drewN | apply below_drew1) | exact HB.out))) : w.heap.size ≤ gb195)); have n3_ := Aside0.mk ((by rw [hg]; exact (below_size (by repeat (first | (with_reducible first | exact HB.out | apply below_alloc | apply pw_below_drewN | apply below_drew1) | exact HB.out))) : w.heap.size ≤ gb195)); clear HB; have HB := n0_; have BK195 := n1_; have GW195 := n2_; have GE195 := n3_; clear n0_ n1_ n2_ n3_; clear hb hbox hg) | ((with_reducible refine gate_callee (f := 36) rfl ?_); refine goesL_ (some 6) rfl rfl Try.func36 (by kernel_rfl) rfl #[.pointer (some ⟨gb195, 0, none⟩)] rfl (by (try simp only [List.map_toArray, List.map_cons, List.map_nil]); first | done | rfl | (simp only [List.length_drop, List.length_take]; rfl)) ?_; (with_reducible refine (spec_l01Ok.calls k gb195 a0_0 A0_1 c0_1 l0_1 false _ ?side1 ?side2 ?side3 A2.out).mono ?_); (case side1 => (with_reducible repeat (first | refine blk_drewN ?_ _ | refine blk_drew ?_ | refine blk_alloc ?_ _)); exact BK195.out); (case side2 => repeat (first | exact (Kd.C_below HR0_1.out HB.out) | (with_reducible refine Kd.C_alloc ?_ _) | (with_reducible refine Kd.C_drewN ?_ _) | (with_reducible refine Kd.C_drew ?_))); (case side3 => exact HC0_1.out); rintro e w14 ⟨rfl, hb⟩; refine ⟨_, rfl, ?_⟩; have n0_ := Aside0.mk (blk_below (g := gb195) (o := .cells #[.int .i64 a0_0, .slice A0_1 l0_1.length c0_1] 27 (0, 0)) (by (with_reducible repeat (first | refine blk_drewN ?_ _ | refine blk_drew ?_ | refine blk_alloc ?_ _)); exact BK195.out) hb); have n1_ := Aside0.mk (below_step (by repeat (first | (with_reducible first | exact HB.out | apply below_alloc | apply pw_below_drewN | apply below_drew1 | refine below_set ?_ GE195.out) | exact HB.out)) hb); clear BK195; clear HB; have BK195 := n0_; have HB := n1_; clear n0_ n1_; (try clear hb); (try clear hb2); (try clear hk); (try clear hi)) | ((with_reducible refine gate_dst (N := 8) rfl ?_); refine Kd.R_lit (Kd.int .i64) _ 2 ?hg (N := 8) ?hd (xs := ([] : List Int)) (inner := []) (ok := fun _ => True) (okp := fun _ => True) ?hr ?hp (fun _ hk => hk) trivial (Below.refl _ _) (Nat.le_refl _) (by simp) ?_; (case hd => rfl); (case hg => rfl); (case hr => first | (go_simp; done) | (go_simp; rfl)); (case hp => exact (Reps.none _ _)); intro v198 w15 ho16 hb hg_ hnew_; clear hg_ hnew_; (first | rw [← Ny197.out] at ho16 | (simp only [Int.reduceToNat] at ho16; rw [← Ny197.out] at ho16)); have n0_ := Aside0.mk (Kd.R_lower ho16 (below_size (by repeat (first | (with_reducible first | exact HB.out | apply below_alloc | apply pw_below_drewN | apply below_drew1 | refine below_set ?_ GE195.out) | exact HB.out)))); have n1_ := Aside0.mk (blk_below (g := gb195) (o := .cells #[.int .i64 a0_0, .slice A0_1 l0_1.length c0_1] 27 (0, 0)) (by (with_reducible repeat (first | refine blk_drewN ?_ _ | refine blk_drew ?_ | refine blk_alloc ?_ _)); exact BK195.out) hb); have n2_ := Aside0.mk (below_step (by repeat (first | (with_reducible first | exact HB.out | apply below_alloc | apply pw_below_drewN | apply below_drew1 | refine below_set ?_ GE195.out) | exact HB.out)) hb); clear BK195; clear HB; have HO199 := n0_; have BK195 := n1_; have HB := n2_; clear n0_ n1_ n2_; clear hb ho16))
    go_ret2
    exact ⟨_, by first | rfl | (simp [errW_none, errW_some] <;> rfl) | (simp [*, errW_none, errW_some] <;> rfl), by (with_reducible repeat (first | apply Kd.R_alloc | apply Kd.R_drewN | apply Kd.R_drew)); exact HO199.out, by repeat (first | (with_reducible first | exact HB.out | apply below_alloc | apply pw_below_drewN | apply below_drew1 | refine below_set ?_ GE195.out) | exact HB.out)⟩

end Go.Proofs.Ytenmlpngnpjpjaa.P

namespace Go.Proofs.Ytenmlpngnpjpjaa.P
open Go.RowKit Go.Proofs.YtenmlpngnpjpjaaW.PrintWords Go.Proofs.YtenmlpngnpjpjaaW.PrintLast Go.Proofs.YtenmlpngnpjpjaaW.PrintMore
attribute [local go_sem] max2_int min2_int max_two min_two max_three min_three max_four min_four
set_option linter.unusedVariables false
set_option linter.unusedSimpArgs false

/-! ### impl_Family_needed: function 44 -/
def impl_Family_needed.l0 : Nat → Int → List (List Int) → Int → Int → Option (Int)
  | 0, _, _, _, _ => none
  | k + 1, x3, x7, x8, x9 => if x9 < x8 then (if 0 ≤ x9 then (if x9 < (x7.length : Int) then ((impl_crowdOf.f k (rd_L1 x7 x9)).bind fun t207 => (impl_Family_needed.l0 k (Go.bits .or .u64 x3 t207) x7 x8 (wrap64 (x9 + 1)))) else (none)) else (none)) else (some x3)
def impl_Family_needed.f (k : Nat) (a0_0 : Int) (l0_1 : List (List Int)) : Option (Int) := impl_Family_needed.l0 k 0 l0_1 (l0_1.length : Int) 0
theorem impl_Family_needed.mono_l : ∀ k, (∀ y0 y1 y2 y3, LeO (impl_Family_needed.l0 k y0 y1 y2 y3) (impl_Family_needed.l0 (k + 1) y0 y1 y2 y3))
  | 0 => fun _ _ _ _ r h => by simp [impl_Family_needed.l0] at h
  | k + 1 => by
    have ih0 := impl_Family_needed.mono_l k
    · intro y0 y1 y2 y3
      unfold impl_Family_needed.l0
      repeat' first
      | (with_reducible exact ih0 _ _ _ _)
      | (with_reducible exact impl_crowdOf.mono _ _)
      | (with_reducible exact LeO.refl _)
      | (with_reducible exact LeO.none _)
      | (with_reducible refine LeO.ite ?_ ?_)
      | (with_reducible refine LeO.bind ?_ (fun _ => ?_))
      | exact ih0 _ _ _ _
      | exact impl_crowdOf.mono _ _
      | exact LeO.none _
      | refine LeO.ite ?_ ?_
      | refine LeO.bind ?_ (fun _ => ?_)
theorem impl_Family_needed.mono : ∀ a0 a1 k, LeO (impl_Family_needed.f k a0 a1) (impl_Family_needed.f (k + 1) a0 a1) := by
  intro a0 a1 k
  have ih0 := impl_Family_needed.mono_l k
  unfold impl_Family_needed.f
  repeat' first
      | (with_reducible exact ih0 _ _ _ _)
      | (with_reducible exact impl_crowdOf.mono _ _)
      | (with_reducible exact LeO.refl _)
      | (with_reducible exact LeO.none _)
      | (with_reducible refine LeO.ite ?_ ?_)
      | (with_reducible refine LeO.bind ?_ (fun _ => ?_))
      | exact ih0 _ _ _ _
      | exact impl_crowdOf.mono _ _
      | exact LeO.none _
      | refine LeO.ite ?_ ?_
      | refine LeO.bind ?_ (fun _ => ?_)
set_option maxHeartbeats 8000000 in
set_option maxRecDepth 100000 in
theorem impl_Family_needed.calls (k : Nat) (a0_0 : Int) (A0_1 : Option Addr) (c0_1 : Nat) (l0_1 : List (List Int)) (r : Int) (w : World) (hr0_1 : Kd.C (Kd.slice 2 (Kd.int .i64)) w A0_1 l0_1.length l0_1) (hc0_1 : l0_1.length ≤ c0_1) (h : impl_Family_needed.f k a0_0 l0_1 = some r) :
    Calls Try.prog 44 #[.agg #[.int .i64 a0_0, .slice A0_1 l0_1.length c0_1]] w fun e w' => e = .returned (.int .u64 r) ∧ Below w.heap.size w w' := by
  have hu27 := Try.underlying27
  have HR0_1 := Aside0.mk hr0_1
  have HC0_1 := Aside0.mk hc0_1
  clear hr0_1 hc0_1
  have HB := Aside0.mk (Below.refl w.heap.size w)
  have H : (impl_Family_needed.l0 k 0 l0_1 (l0_1.length : Int) 0) = some r := h
  clear h
  have H' := Aside0.mk H
  clear H
  go_enter Try.func44, Try.ntmps44
  go_wp2_with (first | ((with_reducible refine gate_dst (N := 1) rfl ?_); refine box_event ?hg (N := 1) ?hd (cs := #[.int .i64 a0_0, .slice A0_1 l0_1.length c0_1]) (t := 27) ?hr ?_; (case hd => rfl); (case hg => rfl); (case hr => first | (go_simp; done) | (go_simp; rfl)); intro gb205 hg w2 hbox hb; have n0_ := Aside0.mk (below_step (by repeat (first | (with_reducible first | exact HB.out | apply below_alloc | apply pw_below_drewN | apply below_drew1) | exact HB.out)) hb); have n1_ := Aside0.mk (hbox); have n2_ := Aside0.mk ((by rw [hg]; exact (below_size (by repeat (first | (with_reducible first | exact HB.out | apply below_alloc | apply pw_below_drewN | apply below_drew1) | exact HB.out))) : w.heap.size ≤ gb205)); have n3_ := Aside0.mk ((by rw [hg]; exact (below_size (by repeat (first | (with_reducible first | exact HB.out | apply below_alloc | apply pw_below_drewN | apply below_drew1) | exact HB.out))) : w.heap.size ≤ gb205)); clear HB; have HB := n0_; have BK205 := n1_; have GW205 := n2_; have GE205 := n3_; clear n0_ n1_ n2_ n3_; clear hb hbox hg; have hcz3_0 : w2.cell? ⟨gb205, 0, none⟩ = some (.int .i64 a0_0) := (blk_cell BK205.out 0).trans rfl; have hcz3_1 : w2.cell? ⟨gb205, 1, none⟩ = some (.slice A0_1 l0_1.length c0_1) := (blk_cell BK205.out 1).trans rfl; have hfz3_0 := blk_frozen BK205.out 0; have hfz3_1 := blk_frozen BK205.out 1))
  go_loopg [3, 9] k (fun kq v3 v9 w' => ∃ (x3_1 : Int) (x9_1 : Int), v3 = .int .u64 x3_1 ∧ v9 = .int .i64 x9_1 ∧ Aside0 (impl_Family_needed.l0 kq x3_1 l0_1 (l0_1.length : Int) x9_1 = some r) ∧ Aside0 (kq ≤ k) ∧ Aside0 (w'.heap[gb205]? = some (.cells #[.int .i64 a0_0, (.slice A0_1 l0_1.length c0_1)] 27 (0, 0))) ∧ Aside0 (Below w.heap.size w w'))
  case atStart => exact ⟨(0), (0), (by first | rfl | (simp; done) | (simp [*]; done)), (by first | rfl | (simp; done) | (simp [*]; done)), H', ⟨Nat.le_refl _⟩, ⟨by (with_reducible repeat (first | refine blk_drewN ?_ _ | refine blk_drew ?_ | refine blk_alloc ?_ _)); exact BK205.out⟩, ⟨by repeat (first | (with_reducible first | exact HB.out | apply below_alloc | apply pw_below_drewN | apply below_drew1 | refine below_set ?_ GE205.out) | exact HB.out)⟩⟩
  case round =>
    clear H'
    try clear p2
    try clear hcz3_0
    try clear hcz3_1
    try clear hfz3_0
    try clear hfz3_1
    obtain ⟨x3_1, x9_1, rfl, rfl, HA, HK1, BK205, HB⟩ := hrel
    cases gk with
    | zero => exact absurd HA.out (by simp [impl_Family_needed.l0])
    | succ k1 =>
      have H := HA.out
      clear HA
      simp only [impl_Family_needed.l0] at H
      by_cases c4 : x9_1 < (l0_1.length : Int)
      · rw [if_pos c4] at H
        have c4b0 : decide (x9_1 < (l0_1.length : Int)) = true := decide_eq_true c4
        clear c4
        by_cases c5 : 0 ≤ x9_1
        · rw [if_pos c5] at H
          have c5b0 : decide (0 ≤ x9_1) = true := decide_eq_true c5
          clear c5
          by_cases c6 : x9_1 < (l0_1.length : Int)
          · rw [if_pos c6] at H
            have c6b0 : decide (x9_1 < (l0_1.length : Int)) = true := decide_eq_true c6
            clear c6
            replace H := Option.bind_eq_some_iff.mp H
            obtain ⟨t207, A70, H⟩ := H
            replace H : (impl_Family_needed.l0 k1 (Go.bits .or .u64 x3_1 t207) l0_1 (l0_1.length : Int) (wrap64 (x9_1 + 1))) = some r := H
            have A7 := Aside0.mk A70
            clear A70
            have H' := Aside0.mk H
            clear H
            have p206 : 0 ≤ (x9_1 : Int) := of_decide_eq_true (by first | (with_reducible assumption) | assumption)
            have q206 : x9_1 < (l0_1.length : Int) := of_decide_eq_true (by first | (with_reducible assumption) | assumption)
            obtain ⟨ad206, A206_0, c206_0, e206, hx206_0, hl206_0, hi206_0⟩ := at_L1 HR0_1.out x9_1 p206 q206
            cases e206
            replace hx206_0 := (HB.out.cell (World.block_lt_of_cell? w _ hx206_0)).trans hx206_0
            have HR206_0 := Aside0.mk hi206_0
            have HC206_0 := Aside0.mk hl206_0
            clear hi206_0 hl206_0
            replace p206 := eq_true p206
            replace q206 := eq_true q206
            go_wp2_with (first | ((with_reducible refine gate_callee (f := 40) rfl ?_); refine goesL_ (some 15) rfl rfl Try.func40 (by kernel_rfl) rfl #[.slice A206_0 (rd_L1 l0_1 x9_1).length c206_0] rfl (by (try simp only [List.map_toArray, List.map_cons, List.map_nil]); first | done | rfl | (simp only [List.length_drop, List.length_take]; rfl)) ?_; (with_reducible refine (impl_crowdOf.calls k1 _ _ (rd_L1 l0_1 x9_1) t207 _ ?side1 ?side2 A7.out).mono ?_); (case side1 => repeat (first | exact (Kd.C_below HR206_0.out HB.out) | (with_reducible refine Kd.C_alloc ?_ _) | (with_reducible refine Kd.C_drewN ?_ _) | (with_reducible refine Kd.C_drew ?_))); (case side2 => exact HC206_0.out); rintro e w' ⟨rfl, ⟨nd, rfl⟩⟩; refine ⟨_, rfl, ?_⟩))
            go_roundg k1
            case measure => have := HK1.out; omega
            case rel => exact ⟨(Go.bits .or .u64 x3_1 t207), (wrap64 (x9_1 + 1)), (by first | rfl | (simp; done) | (simp [*]; done)), (by first | rfl | (simp; done) | (simp [*]; done)), H', ⟨by have := HK1.out; omega⟩, ⟨by (with_reducible repeat (first | refine blk_drewN ?_ _ | refine blk_drew ?_ | refine blk_alloc ?_ _)); exact BK205.out⟩, ⟨by repeat (first | (with_reducible first | exact HB.out | apply below_alloc | apply pw_below_drewN | apply below_drew1 | refine below_set ?_ GE205.out) | exact HB.out)⟩⟩
          · rw [if_neg c6] at H
            exact absurd H (by simp)
        · rw [if_neg c5] at H
          exact absurd H (by simp)
      · rw [if_neg c4] at H
        have c4b0 : decide (x9_1 < (l0_1.length : Int)) = false := decide_eq_false c4
        clear c4
        obtain rfl := Option.some.inj H
        go_wp2
        go_ret
        exact ⟨by first | rfl | (simp [errW_none, errW_some] <;> rfl) | (simp [*, errW_none, errW_some] <;> rfl), by repeat (first | (with_reducible first | exact HB.out | apply below_alloc | apply pw_below_drewN | apply below_drew1 | refine below_set ?_ GE205.out) | exact HB.out)⟩

end Go.Proofs.Ytenmlpngnpjpjaa.P

namespace Go.Proofs.Ytenmlpngnpjpjaa.P
open Go.RowKit Go.Proofs.YtenmlpngnpjpjaaW.PrintWords Go.Proofs.YtenmlpngnpjpjaaW.PrintLast Go.Proofs.YtenmlpngnpjpjaaW.PrintMore
attribute [local go_sem] max2_int min2_int max_two min_two max_three min_three max_four min_four
set_option linter.unusedVariables false
set_option linter.unusedSimpArgs false

/-! ### impl_NeededHolders: function 17 -/
def impl_NeededHolders.f (k : Nat) (a0_0 : Int) (l0_1 : List (List Int)) : Option (List Int × Int) := (impl_ValidFamily.f k a0_0 l0_1).bind fun t216 => (if t216 = true then ((impl_Family_needed.f k a0_0 l0_1).bind fun t217 => ((impl_crowd_group.f k t217).bind fun t218 => (some (t218, 0)))) else (some (([] : List Int), 1)))
theorem impl_NeededHolders.mono : ∀ a0 a1 k, LeO (impl_NeededHolders.f k a0 a1) (impl_NeededHolders.f (k + 1) a0 a1) := by
  intro a0 a1 k
  unfold impl_NeededHolders.f
  repeat' first
      | (with_reducible exact impl_Family_needed.mono _ _ _)
      | (with_reducible exact impl_ValidFamily.mono _ _ _)
      | (with_reducible exact impl_crowd_group.mono _ _)
      | (with_reducible exact LeO.refl _)
      | (with_reducible exact LeO.none _)
      | (with_reducible refine LeO.ite ?_ ?_)
      | (with_reducible refine LeO.bind ?_ (fun _ => ?_))
      | exact impl_Family_needed.mono _ _ _
      | exact impl_ValidFamily.mono _ _ _
      | exact impl_crowd_group.mono _ _
      | exact LeO.none _
      | refine LeO.ite ?_ ?_
      | refine LeO.bind ?_ (fun _ => ?_)
set_option maxHeartbeats 8000000 in
set_option maxRecDepth 100000 in
theorem impl_NeededHolders.calls (k : Nat) (a0_0 : Int) (A0_1 : Option Addr) (c0_1 : Nat) (l0_1 : List (List Int)) (r1 : List Int) (r2 : Int) (w : World) (hr0_1 : Kd.C (Kd.slice 2 (Kd.int .i64)) w A0_1 l0_1.length l0_1) (hc0_1 : l0_1.length ≤ c0_1) (h : impl_NeededHolders.f k a0_0 l0_1 = some (r1, r2)) :
    Calls Try.prog 17 #[.agg #[.int .i64 a0_0, .slice A0_1 l0_1.length c0_1]] w fun e w' => ∃ v0_ : Value, e = .returned (.tuple #[v0_, .int .i64 r2]) ∧ Kd.R (Kd.int .i64) 2 w' w.heap.size (fun _ => True) v0_ r1 ∧ Below w.heap.size w w' := by
  have hu27 := Try.underlying27
  have HR0_1 := Aside0.mk hr0_1
  have HC0_1 := Aside0.mk hc0_1
  clear hr0_1 hc0_1
  have HB := Aside0.mk (Below.refl w.heap.size w)
  have H : ((impl_ValidFamily.f k a0_0 l0_1).bind fun t216 => (if t216 = true then ((impl_Family_needed.f k a0_0 l0_1).bind fun t217 => ((impl_crowd_group.f k t217).bind fun t218 => (some (t218, 0)))) else (some (([] : List Int), 1)))) = some (r1, r2) := h
  clear h
  replace H := Option.bind_eq_some_iff.mp H
  obtain ⟨t216, A20, H⟩ := H
  replace H : (if t216 = true then ((impl_Family_needed.f k a0_0 l0_1).bind fun t217 => ((impl_crowd_group.f k t217).bind fun t218 => (some (t218, 0)))) else (some (([] : List Int), 1))) = some (r1, r2) := H
  have A2 := Aside0.mk A20
  clear A20
  by_cases c3 : t216 = true
  · subst c3
    have H1 : ((impl_Family_needed.f k a0_0 l0_1).bind fun t217 => ((impl_crowd_group.f k t217).bind fun t218 => (some (t218, 0)))) = some (r1, r2) := by rw [if_pos rfl] at H; exact H
    clear H
    have H := H1
    clear H1
    replace H := Option.bind_eq_some_iff.mp H
    obtain ⟨t217, A40, H⟩ := H
    replace H : ((impl_crowd_group.f k t217).bind fun t218 => (some (t218, 0))) = some (r1, r2) := H
    have A4 := Aside0.mk A40
    clear A40
    replace H := Option.bind_eq_some_iff.mp H
    obtain ⟨t218, A50, H⟩ := H
    replace H : (some (t218, 0)) = some (r1, r2) := H
    have A5 := Aside0.mk A50
    clear A50
    simp only [Option.some.injEq, Prod.mk.injEq] at H
    obtain ⟨rfl, rfl⟩ := H
    go_enter Try.func17, Try.ntmps17
    go_wp2_with (first | ((with_reducible refine gate_dst (N := 1) rfl ?_); refine box_event ?hg (N := 1) ?hd (cs := #[.int .i64 a0_0, .slice A0_1 l0_1.length c0_1]) (t := 27) ?hr ?_; (case hd => rfl); (case hg => rfl); (case hr => first | (go_simp; done) | (go_simp; rfl)); intro gb215 hg w6 hbox hb; have n0_ := Aside0.mk (below_step (by repeat (first | (with_reducible first | exact HB.out | apply below_alloc | apply pw_below_drewN | apply below_drew1) | exact HB.out)) hb); have n1_ := Aside0.mk (hbox); have n2_ := Aside0.mk ((by rw [hg]; exact (below_size (by repeat (first | (with_reducible first | exact HB.out | apply below_alloc | apply pw_below_drewN | apply below_drew1) | exact HB.out))) : w.heap.size ≤ gb215)); have n3_ := Aside0.mk ((by rw [hg]; exact (below_size (by repeat (first | (with_reducible first | exact HB.out | apply below_alloc | apply pw_below_drewN | apply below_drew1) | exact HB.out))) : w.heap.size ≤ gb215)); clear HB; have HB := n0_; have BK215 := n1_; have GW215 := n2_; have GE215 := n3_; clear n0_ n1_ n2_ n3_; clear hb hbox hg; have hcz7_0 : w6.cell? ⟨gb215, 0, none⟩ = some (.int .i64 a0_0) := (blk_cell BK215.out 0).trans rfl; have hcz7_1 : w6.cell? ⟨gb215, 1, none⟩ = some (.slice A0_1 l0_1.length c0_1) := (blk_cell BK215.out 1).trans rfl; have hfz7_0 := blk_frozen BK215.out 0; have hfz7_1 := blk_frozen BK215.out 1) | ((with_reducible refine gate_callee (f := 15) rfl ?_); refine goesL_ (some 5) rfl rfl Try.func15 (by kernel_rfl) rfl #[.agg #[.int .i64 a0_0, .slice A0_1 l0_1.length c0_1]] rfl (by (try simp only [List.map_toArray, List.map_cons, List.map_nil]); first | done | rfl | (simp only [List.length_drop, List.length_take]; rfl)) ?_; (with_reducible refine (impl_ValidFamily.calls k a0_0 _ _ l0_1 true _ ?side1 ?side2 A2.out).mono ?_); (case side1 => repeat (first | exact (Kd.C_below HR0_1.out HB.out) | (with_reducible refine Kd.C_alloc ?_ _) | (with_reducible refine Kd.C_drewN ?_ _) | (with_reducible refine Kd.C_drew ?_))); (case side2 => exact HC0_1.out); rintro e w8 ⟨rfl, hb⟩; refine ⟨_, rfl, ?_⟩; have n0_ := Aside0.mk (blk_below (g := gb215) (o := .cells #[.int .i64 a0_0, .slice A0_1 l0_1.length c0_1] 27 (0, 0)) (by (with_reducible repeat (first | refine blk_drewN ?_ _ | refine blk_drew ?_ | refine blk_alloc ?_ _)); exact BK215.out) hb); have n1_ := Aside0.mk (below_step (by repeat (first | (with_reducible first | exact HB.out | apply below_alloc | apply pw_below_drewN | apply below_drew1 | refine below_set ?_ GE215.out) | exact HB.out)) hb); clear BK215; clear HB; have BK215 := n0_; have HB := n1_; clear n0_ n1_; (try clear hb); (try clear hb2); (try clear hk); (try clear hi); have hcz9_0 : w8.cell? ⟨gb215, 0, none⟩ = some (.int .i64 a0_0) := (blk_cell BK215.out 0).trans rfl; have hcz9_1 : w8.cell? ⟨gb215, 1, none⟩ = some (.slice A0_1 l0_1.length c0_1) := (blk_cell BK215.out 1).trans rfl; have hfz9_0 := blk_frozen BK215.out 0; have hfz9_1 := blk_frozen BK215.out 1) | ((with_reducible refine gate_callee (f := 44) rfl ?_); refine goesL_ (some 8) rfl rfl Try.func44 (by kernel_rfl) rfl #[.agg #[.int .i64 a0_0, .slice A0_1 l0_1.length c0_1]] rfl (by (try simp only [List.map_toArray, List.map_cons, List.map_nil]); first | done | rfl | (simp only [List.length_drop, List.length_take]; rfl)) ?_; (with_reducible refine (impl_Family_needed.calls k a0_0 _ _ l0_1 t217 _ ?side1 ?side2 A4.out).mono ?_); (case side1 => repeat (first | exact (Kd.C_below HR0_1.out HB.out) | (with_reducible refine Kd.C_alloc ?_ _) | (with_reducible refine Kd.C_drewN ?_ _) | (with_reducible refine Kd.C_drew ?_))); (case side2 => exact HC0_1.out); rintro e w10 ⟨rfl, hb⟩; refine ⟨_, rfl, ?_⟩; have n0_ := Aside0.mk (blk_below (g := gb215) (o := .cells #[.int .i64 a0_0, .slice A0_1 l0_1.length c0_1] 27 (0, 0)) (by (with_reducible repeat (first | refine blk_drewN ?_ _ | refine blk_drew ?_ | refine blk_alloc ?_ _)); exact BK215.out) hb); have n1_ := Aside0.mk (below_step (by repeat (first | (with_reducible first | exact HB.out | apply below_alloc | apply pw_below_drewN | apply below_drew1 | refine below_set ?_ GE215.out) | exact HB.out)) hb); clear BK215; clear HB; have BK215 := n0_; have HB := n1_; clear n0_ n1_; (try clear hb); (try clear hb2); (try clear hk); (try clear hi)) | ((with_reducible refine gate_callee (f := 45) rfl ?_); refine goesL_ (some 9) rfl rfl Try.func45 (by kernel_rfl) rfl #[.int .u64 t217] rfl (by (try simp only [List.map_toArray, List.map_cons, List.map_nil]); first | done | rfl | (simp only [List.length_drop, List.length_take]; rfl)) ?_; (with_reducible refine (impl_crowd_group.calls k t217 t218 _ A5.out).mono ?_); rintro e w11 ⟨v219, rfl, ho0, hb⟩; refine ⟨_, rfl, ?_⟩; have n0_ := Aside0.mk (Kd.R_lower ho0 (below_size (by repeat (first | (with_reducible first | exact HB.out | apply below_alloc | apply pw_below_drewN | apply below_drew1 | refine below_set ?_ GE215.out) | exact HB.out)))); have n1_ := Aside0.mk (blk_below (g := gb215) (o := .cells #[.int .i64 a0_0, .slice A0_1 l0_1.length c0_1] 27 (0, 0)) (by (with_reducible repeat (first | refine blk_drewN ?_ _ | refine blk_drew ?_ | refine blk_alloc ?_ _)); exact BK215.out) hb); have n2_ := Aside0.mk (below_step (by repeat (first | (with_reducible first | exact HB.out | apply below_alloc | apply pw_below_drewN | apply below_drew1 | refine below_set ?_ GE215.out) | exact HB.out)) hb); clear BK215; clear HB; have HO220 := n0_; have BK215 := n1_; have HB := n2_; clear n0_ n1_ n2_; (try clear hb); (try clear hb2); (try clear hk); (try clear hi); (try clear ho0)))
    go_ret2
    exact ⟨_, by first | rfl | (simp [errW_none, errW_some] <;> rfl) | (simp [*, errW_none, errW_some] <;> rfl), by (with_reducible repeat (first | apply Kd.R_alloc | apply Kd.R_drewN | apply Kd.R_drew)); exact HO220.out, by repeat (first | (with_reducible first | exact HB.out | apply below_alloc | apply pw_below_drewN | apply below_drew1 | refine below_set ?_ GE215.out) | exact HB.out)⟩
  · replace c3 := Bool.eq_false_iff.mpr c3
    subst c3
    have H1 : (some (([] : List Int), 1)) = some (r1, r2) := by rw [if_neg (show ¬ (false = true) by decide)] at H; exact H
    clear H
    have H := H1
    clear H1
    simp only [Option.some.injEq, Prod.mk.injEq] at H
    obtain ⟨rfl, rfl⟩ := H
    go_enter Try.func17, Try.ntmps17
    go_wp2_with (first | ((with_reducible refine gate_dst (N := 1) rfl ?_); refine box_event ?hg (N := 1) ?hd (cs := #[.int .i64 a0_0, .slice A0_1 l0_1.length c0_1]) (t := 27) ?hr ?_; (case hd => rfl); (case hg => rfl); (case hr => first | (go_simp; done) | (go_simp; rfl)); intro gb215 hg w12 hbox hb; have n0_ := Aside0.mk (below_step (by repeat (first | (with_reducible first | exact HB.out | apply below_alloc | apply pw_below_drewN | apply below_drew1) | exact HB.out)) hb); have n1_ := Aside0.mk (hbox); have n2_ := Aside0.mk ((by rw [hg]; exact (below_size (by repeat (first | (with_reducible first | exact HB.out | apply below_alloc | apply pw_below_drewN | apply below_drew1) | exact HB.out))) : w.heap.size ≤ gb215)); have n3_ := Aside0.mk ((by rw [hg]; exact (below_size (by repeat (first | (with_reducible first | exact HB.out | apply below_alloc | apply pw_below_drewN | apply below_drew1) | exact HB.out))) : w.heap.size ≤ gb215)); clear HB; have HB := n0_; have BK215 := n1_; have GW215 := n2_; have GE215 := n3_; clear n0_ n1_ n2_ n3_; clear hb hbox hg; have hcz13_0 : w12.cell? ⟨gb215, 0, none⟩ = some (.int .i64 a0_0) := (blk_cell BK215.out 0).trans rfl; have hcz13_1 : w12.cell? ⟨gb215, 1, none⟩ = some (.slice A0_1 l0_1.length c0_1) := (blk_cell BK215.out 1).trans rfl; have hfz13_0 := blk_frozen BK215.out 0; have hfz13_1 := blk_frozen BK215.out 1) | ((with_reducible refine gate_callee (f := 15) rfl ?_); refine goesL_ (some 5) rfl rfl Try.func15 (by kernel_rfl) rfl #[.agg #[.int .i64 a0_0, .slice A0_1 l0_1.length c0_1]] rfl (by (try simp only [List.map_toArray, List.map_cons, List.map_nil]); first | done | rfl | (simp only [List.length_drop, List.length_take]; rfl)) ?_; (with_reducible refine (impl_ValidFamily.calls k a0_0 _ _ l0_1 false _ ?side1 ?side2 A2.out).mono ?_); (case side1 => repeat (first | exact (Kd.C_below HR0_1.out HB.out) | (with_reducible refine Kd.C_alloc ?_ _) | (with_reducible refine Kd.C_drewN ?_ _) | (with_reducible refine Kd.C_drew ?_))); (case side2 => exact HC0_1.out); rintro e w14 ⟨rfl, hb⟩; refine ⟨_, rfl, ?_⟩; have n0_ := Aside0.mk (blk_below (g := gb215) (o := .cells #[.int .i64 a0_0, .slice A0_1 l0_1.length c0_1] 27 (0, 0)) (by (with_reducible repeat (first | refine blk_drewN ?_ _ | refine blk_drew ?_ | refine blk_alloc ?_ _)); exact BK215.out) hb); have n1_ := Aside0.mk (below_step (by repeat (first | (with_reducible first | exact HB.out | apply below_alloc | apply pw_below_drewN | apply below_drew1 | refine below_set ?_ GE215.out) | exact HB.out)) hb); clear BK215; clear HB; have BK215 := n0_; have HB := n1_; clear n0_ n1_; (try clear hb); (try clear hb2); (try clear hk); (try clear hi)))
    go_ret2
    exact ⟨_, by first | rfl | (simp [errW_none, errW_some] <;> rfl) | (simp [*, errW_none, errW_some] <;> rfl), by first | exact Kd.R_nil _ _ _ _ _ | exact Kd.N_nil _ _ _ _ _ | exact Kd.V_nil _ _ _ _ _ | exact Kd.Q_nil _ _ _ _ _ | exact Kd.S_nil _ _ _ _ _, by repeat (first | (with_reducible first | exact HB.out | apply below_alloc | apply pw_below_drewN | apply below_drew1 | refine below_set ?_ GE215.out) | exact HB.out)⟩

end Go.Proofs.Ytenmlpngnpjpjaa.P

namespace Go.Proofs.Ytenmlpngnpjpjaa.P
open Go.RowKit Go.Proofs.YtenmlpngnpjpjaaW.PrintWords Go.Proofs.YtenmlpngnpjpjaaW.PrintLast Go.Proofs.YtenmlpngnpjpjaaW.PrintMore
attribute [local go_sem] max2_int min2_int max_two min_two max_three min_three max_four min_four
set_option linter.unusedVariables false
set_option linter.unusedSimpArgs false

theorem orI0 : ∀ x : Fin 128, ∀ y : Fin 128, Go.bits .or .i64 (x.val : Int) (y.val : Int) = ((x.val ||| y.val : Nat) : Int) := by decide +kernel
theorem orU0 : ∀ x : Fin 128, ∀ y : Fin 128, Go.bits .or .u64 (x.val : Int) (y.val : Int) = ((x.val ||| y.val : Nat) : Int) := by decide +kernel
theorem andI0 : ∀ x : Fin 128, ∀ y : Fin 128, Go.bits .and .i64 (x.val : Int) (y.val : Int) = ((x.val &&& y.val : Nat) : Int) := by decide +kernel
theorem andU0 : ∀ x : Fin 128, ∀ y : Fin 128, Go.bits .and .u64 (x.val : Int) (y.val : Int) = ((x.val &&& y.val : Nat) : Int) := by decide +kernel
theorem orI {x y : Nat} (hx : x < 128) (hy : y < 128) : Go.bits .or .i64 (x : Int) (y : Int) = ((x ||| y : Nat) : Int) := orI0 ⟨x, hx⟩ ⟨y, hy⟩
theorem orU {x y : Nat} (hx : x < 128) (hy : y < 128) : Go.bits .or .u64 (x : Int) (y : Int) = ((x ||| y : Nat) : Int) := orU0 ⟨x, hx⟩ ⟨y, hy⟩
theorem andI {x y : Nat} (hx : x < 128) (hy : y < 128) : Go.bits .and .i64 (x : Int) (y : Int) = ((x &&& y : Nat) : Int) := andI0 ⟨x, hx⟩ ⟨y, hy⟩
theorem andU {x y : Nat} (hx : x < 128) (hy : y < 128) : Go.bits .and .u64 (x : Int) (y : Int) = ((x &&& y : Nat) : Int) := andU0 ⟨x, hx⟩ ⟨y, hy⟩
theorem shlI0 : ∀ h : Fin 7, shl .i64 1 (IntKind.u64.wrap (h.val : Int)) = ((2 ^ h.val : Nat) : Int) := by decide +kernel
theorem shlU0 : ∀ h : Fin 7, shl .u64 1 (h.val : Int) = ((2 ^ h.val : Nat) : Int) := by decide +kernel
theorem wrapU0 : ∀ h : Fin 8, (0 : Int) ≤ IntKind.u64.wrap (h.val : Int) := by decide +kernel
theorem shlI {h : Int} (h0 : 0 ≤ h ∧ h ≤ 6) : shl .i64 1 (IntKind.u64.wrap h) = ((2 ^ h.toNat : Nat) : Int) := by
  have := shlI0 ⟨h.toNat, by omega⟩
  rwa [show ((⟨h.toNat, by omega⟩ : Fin 7).val : Int) = h from by simp; omega] at this
theorem shlU {h : Int} (h0 : 0 ≤ h ∧ h ≤ 6) : shl .u64 1 h = ((2 ^ h.toNat : Nat) : Int) := by
  have := shlU0 ⟨h.toNat, by omega⟩
  rwa [show ((⟨h.toNat, by omega⟩ : Fin 7).val : Int) = h from by simp; omega] at this
theorem wrapU {h : Int} (h0 : 0 ≤ h ∧ h ≤ 7) : (0 : Int) ≤ IntKind.u64.wrap h := by
  have := wrapU0 ⟨h.toNat, by omega⟩
  rwa [show ((⟨h.toNat, by omega⟩ : Fin 8).val : Int) = h from by simp; omega] at this
/-- A group as a number. -/
def maskN (l : List Int) : Nat := l.foldl (fun m h => m ||| 2 ^ h.toNat) 0
theorem maskN_take (l : List Int) (i : Nat) (h : i < l.length) : maskN (l.take (i + 1)) = maskN (l.take i) ||| 2 ^ l[i].toNat := by
  unfold maskN
  rw [List.take_succ_eq_append_getElem h, List.foldl_append]
  rfl
theorem two_lt {h : Int} (h0 : 0 ≤ h ∧ h ≤ 6) : 2 ^ h.toNat < 128 := by
  have : 2 ^ h.toNat ≤ 2 ^ 6 := Nat.pow_le_pow_right (by omega) (by omega)
  omega
theorem or_lt {x y : Nat} (hx : x < 128) (hy : y < 128) : x ||| y < 128 := Nat.or_lt_two_pow (n := 7) hx hy
theorem mask_lt (l : List Int) (h : ∀ x ∈ l, 0 ≤ x ∧ x ≤ 6) : ∀ m, m < 128 → l.foldl (fun m h => m ||| 2 ^ h.toNat) m < 128 := by
  induction l with
  | nil => exact fun m hm => hm
  | cons a l ih =>
    intro m hm
    exact ih (fun x hx => h x (List.mem_cons_of_mem _ hx)) _ (or_lt hm (two_lt (h a (List.mem_cons_self ..))))
theorem maskN_lt (l : List Int) (h : ∀ x ∈ l, 0 ≤ x ∧ x ≤ 6) : maskN l < 128 := mask_lt l h 0 (by omega)
theorem take_small {l : List Int} (h : ∀ x ∈ l, 0 ≤ x ∧ x ≤ 6) (i : Nat) : ∀ x ∈ l.take i, 0 ≤ x ∧ x ≤ 6 := fun x hx => h x (List.mem_of_mem_take hx)
theorem risesB_mem {lo hi : Int} : ∀ (l : List Int) (o : Option Int), risesB lo hi o l = true → ∀ x ∈ l, lo ≤ x ∧ x ≤ hi
  | [], _, _, x, hx => by simp at hx
  | a :: l, o, h, x, hx => by
    have h1 : (lo ≤ a ∧ a ≤ hi) ∧ risesB lo hi (some a) l = true := by
      cases o <;> simp [risesB] at h <;> simp_all
    rcases List.mem_cons.mp hx with rfl | hx
    · exact h1.1
    · exact risesB_mem l (some a) h1.2 x hx
theorem group_small {h : Int} (hh : h ≤ 7) {l : List Int} (hg : groupB h l = true) : ∀ x ∈ l, 0 ≤ x ∧ x ≤ 6 := fun x hx => by
  have := risesB_mem l none hg x hx
  omega
theorem impl_crowdOf_ev (l : List Int) (h : ∀ x ∈ l, 0 ≤ x ∧ x ≤ 6) (hl : l.length ≤ 4611686018427387904) : Ev (fun k => impl_crowdOf.f k l) (maskN l : Int) := by
  unfold impl_crowdOf.f
  have key : ∀ d i : Nat, i + d = l.length → Ev (fun k => impl_crowdOf.l0 k (maskN (l.take i) : Int) l (l.length : Int) (i : Int)) (maskN l : Int) := by
    intro d
    induction d with
    | zero =>
      intro i hi
      refine Ev.step (f := fun _ => some (maskN l : Int)) (fun k => ?_) (Ev.now _)
      simp only [impl_crowdOf.l0]
      rw [if_neg (by omega), List.take_of_length_le (by omega)]
    | succ d ih =>
      intro i hi
      have hlt : i < l.length := by omega
      have hx := h _ (List.getElem_mem hlt)
      refine Ev.step (fun k => ?_) (ih (i + 1) (by omega))
      simp only [impl_crowdOf.l0]
      rw [if_pos (by omega), if_pos (by omega), if_pos (by omega), rd_nat l i hlt, if_pos hx.1, shlU hx, orU (maskN_lt _ (take_small h i)) (two_lt hx), wr (by omega) (by omega), ← maskN_take l i hlt]
      rfl
  exact key l.length 0 (by omega)
theorem spec_l01Bits_ev (l : List Int) (h : ∀ x ∈ l, 0 ≤ x ∧ x ≤ 6) (hl : l.length ≤ 4611686018427387904) : Ev (fun k => spec_l01Bits.f k l) (maskN l : Int) := by
  unfold spec_l01Bits.f
  have key : ∀ d i : Nat, i + d = l.length → Ev (fun k => spec_l01Bits.l0 k l (maskN (l.take i) : Int) (i : Int)) (maskN l : Int) := by
    intro d
    induction d with
    | zero =>
      intro i hi
      refine Ev.step (f := fun _ => some (maskN l : Int)) (fun k => ?_) (Ev.now _)
      simp only [spec_l01Bits.l0]
      rw [if_neg (by omega), List.take_of_length_le (by omega)]
    | succ d ih =>
      intro i hi
      have hlt : i < l.length := by omega
      have hx := h _ (List.getElem_mem hlt)
      refine Ev.step (fun k => ?_) (ih (i + 1) (by omega))
      simp only [spec_l01Bits.l0]
      rw [if_pos (by omega), if_pos (by omega), rd_nat l i hlt, if_pos (wrapU (by omega)), shlI hx, orI (maskN_lt _ (take_small h i)) (two_lt hx), wr (by omega) (by omega), ← maskN_take l i hlt]
      rfl
  exact key l.length 0 (by omega)
/-- The order of lists. -/
def ltB : List Int → List Int → Bool
  | [], [] => false
  | [], _ :: _ => true
  | _ :: _, [] => false
  | x :: a, y :: b => if x = y then ltB a b else decide (x < y)
theorem spec_l01Before_ev (a b : List Int) (ha : a.length ≤ 4611686018427387904) (hb : b.length ≤ 4611686018427387904) : Ev (fun k => spec_l01Before.f k a b) (ltB a b) := by
  unfold spec_l01Before.f
  have key : ∀ d i : Nat, i + d = a.length → i ≤ b.length → Ev (fun k => spec_l01Before.l0 k a b (i : Int)) (ltB (a.drop i) (b.drop i)) := by
    intro d
    induction d with
    | zero =>
      intro i hi hib
      rw [List.drop_eq_nil_of_le (show a.length ≤ i by omega)]
      refine Ev.step (f := fun k => spec_l01Before.j1 k a b (i : Int) false) (fun k => ?_) (Ev.step (f := fun _ => some (decide ((a.length : Int) < (b.length : Int)))) (fun k => ?_) ?_)
      · simp only [spec_l01Before.l0]
        rw [if_neg (by omega)]
      · simp only [spec_l01Before.j1]
        rw [if_neg (by decide)]
      · by_cases hlt : i < b.length
        · rw [List.drop_eq_getElem_cons hlt, decide_eq_true (by omega)]
          exact Ev.now _
        · rw [List.drop_eq_nil_of_le (by omega), decide_eq_false (by omega)]
          exact Ev.now _
    | succ d ih =>
      intro i hi hib
      have h1 : i < a.length := by omega
      rw [List.drop_eq_getElem_cons h1]
      by_cases h2 : i < b.length
      · rw [List.drop_eq_getElem_cons h2]
        refine Ev.step (f := fun k => spec_l01Before.j1 k a b (i : Int) true) (fun k => ?_) ?_
        · simp only [spec_l01Before.l0]
          rw [if_pos (by omega), decide_eq_true (by omega)]
        · unfold ltB
          by_cases e : a[i] = b[i]
          · rw [if_pos e]
            refine Ev.step (fun k => ?_) (ih (i + 1) (by omega) (by omega))
            simp only [spec_l01Before.j1, if_true]
            rw [if_pos (by omega), if_pos (by omega), if_pos (by omega), rd_nat a i h1, rd_nat b i h2, if_pos e, wr (by omega) (by omega)]
            rfl
          · rw [if_neg e]
            refine Ev.step (f := fun _ => some (decide (a[i] < b[i]))) (fun k => ?_) (Ev.now _)
            simp only [spec_l01Before.j1, if_true]
            rw [if_pos (by omega), if_pos (by omega), if_pos (by omega), rd_nat a i h1, rd_nat b i h2, if_neg e]
      · rw [List.drop_eq_nil_of_le (show b.length ≤ i by omega)]
        refine Ev.step (f := fun k => spec_l01Before.j1 k a b (i : Int) false) (fun k => ?_) (Ev.step (f := fun _ => some (decide ((a.length : Int) < (b.length : Int)))) (fun k => ?_) ?_)
        · simp only [spec_l01Before.l0]
          rw [if_pos (by omega), decide_eq_false (by omega)]
        · simp only [spec_l01Before.j1]
          rw [if_neg (by decide)]
        · rw [decide_eq_false (by omega)]
          exact Ev.now _
  exact key a.length 0 (by omega) (by omega)
theorem cmp_lt {x y : Int} (h : x < y) : cmp_Compare_int64.f x y = some (-1) := by
  simp [cmp_Compare_int64.f, cmp_isNaN_int64.f, h]
theorem cmp_gt {x y : Int} (h : y < x) : cmp_Compare_int64.f x y = some 1 := by
  simp [cmp_Compare_int64.f, cmp_isNaN_int64.f, h]
  omega
theorem cmp_eq {x y : Int} (h : x = y) : cmp_Compare_int64.f x y = some 0 := by
  simp [cmp_Compare_int64.f, cmp_isNaN_int64.f, h]
theorem sliceCmp_ev (a b : List Int) (ha : a.length ≤ 4611686018427387904) (hb : b.length ≤ 4611686018427387904) : ∃ t : Int, Ev (fun k => slices_Compare_int64_int64.f k a b) t ∧ decide (t ≥ 0) = !ltB a b := by
  have key : ∀ d i : Nat, i + d = a.length → i ≤ b.length → ∃ t : Int, Ev (fun k => slices_Compare_int64_int64.l0 k a b a (a.length : Int) (i : Int)) t ∧ decide (t ≥ 0) = !ltB (a.drop i) (b.drop i) := by
    intro d
    induction d with
    | zero =>
      intro i hi hib
      rw [List.drop_eq_nil_of_le (show a.length ≤ i by omega)]
      by_cases hlt : i < b.length
      · refine ⟨-1, Ev.step (f := fun _ => some (-1)) (fun k => ?_) (Ev.now _), ?_⟩
        · simp only [slices_Compare_int64_int64.l0]
          rw [if_neg (by omega), if_pos (by omega)]
        · rw [List.drop_eq_getElem_cons hlt]; rfl
      · refine ⟨0, Ev.step (f := fun _ => some 0) (fun k => ?_) (Ev.now _), ?_⟩
        · simp only [slices_Compare_int64_int64.l0]
          rw [if_neg (by omega), if_neg (by omega)]
        · rw [List.drop_eq_nil_of_le (by omega)]; rfl
    | succ d ih =>
      intro i hi hib
      have h1 : i < a.length := by omega
      rw [List.drop_eq_getElem_cons h1]
      by_cases h2 : i < b.length
      · rw [List.drop_eq_getElem_cons h2]
        unfold ltB
        have one : ∀ {t : Int} {f : Nat → Option Int}, (∀ k, (cmp_Compare_int64.f a[i] b[i]).bind (fun t => if t = 0 then slices_Compare_int64_int64.l0 k a b a (a.length : Int) ((i + 1 : Nat) : Int) else some t) = f k) → Ev f t → Ev (fun k => slices_Compare_int64_int64.l0 k a b a (a.length : Int) (i : Int)) t := fun h he => by
          refine Ev.step (fun k => ?_) he
          rw [← h]
          simp only [slices_Compare_int64_int64.l0]
          rw [if_pos (by omega), if_pos (by omega), if_pos (by omega), if_neg (by omega), if_pos (by omega), rd_nat a i h1, rd_nat b i h2, wr (by omega) (by omega)]
          rfl
        by_cases e : a[i] = b[i]
        · rw [if_pos e]
          obtain ⟨t, ht, hd⟩ := ih (i + 1) (by omega) (by omega)
          refine ⟨t, one (fun k => ?_) ht, hd⟩
          rw [cmp_eq e, Option.bind_some, if_pos rfl]
        · rw [if_neg e]
          by_cases hlt : a[i] < b[i]
          · refine ⟨-1, one (f := fun _ => some (-1)) (fun k => ?_) (Ev.now _), ?_⟩
            · rw [cmp_lt hlt, Option.bind_some, if_neg (by decide)]
            · rw [decide_eq_true hlt]; rfl
          · refine ⟨1, one (f := fun _ => some 1) (fun k => ?_) (Ev.now _), ?_⟩
            · rw [cmp_gt (by omega), Option.bind_some, if_neg (by decide)]
            · rw [decide_eq_false hlt]; rfl
      · rw [List.drop_eq_nil_of_le (show b.length ≤ i by omega)]
        refine ⟨1, Ev.step (f := fun _ => some 1) (fun k => ?_) (Ev.now _), rfl⟩
        simp only [slices_Compare_int64_int64.l0]
        rw [if_pos (by omega), if_pos (by omega), if_pos (by omega), if_pos (by omega)]
  exact key a.length 0 (by omega) (by omega)

end Go.Proofs.Ytenmlpngnpjpjaa.P

namespace Go.Proofs.Ytenmlpngnpjpjaa.P
open Go.RowKit Go.Proofs.YtenmlpngnpjpjaaW.PrintWords Go.Proofs.YtenmlpngnpjpjaaW.PrintLast Go.Proofs.YtenmlpngnpjpjaaW.PrintMore
attribute [local go_sem] max2_int min2_int max_two min_two max_three min_three max_four min_four
set_option linter.unusedVariables false
set_option linter.unusedSimpArgs false

/-- A loop that goes on while q says yes; each round knows what the ones before it found. -/
theorem scan2_ev {ρ : Type} {l : Nat → Int → Option ρ} {n : Nat} {q : Nat → Bool} {fin stop : ρ}
    (hgo : ∀ i : Nat, i < n → (∀ j, j < i → q j = true) → q i = true → ∀ r, Ev (fun k => l k ((i + 1 : Nat) : Int)) r → Ev (fun k => l k (i : Int)) r)
    (hstop : ∀ i : Nat, i < n → (∀ j, j < i → q j = true) → q i = false → Ev (fun k => l k (i : Int)) stop)
    (hend : (∀ j, j < n → q j = true) → Ev (fun k => l k (n : Int)) fin) : Ev (fun k => l k 0) (if (List.range n).all q then fin else stop) := by
  have key : ∀ d i : Nat, i + d = n → (∀ j, j < i → q j = true) → Ev (fun k => l k (i : Int)) (if ((List.range n).drop i).all q then fin else stop) := by
    intro d
    induction d with
    | zero =>
      intro i hi hp
      obtain rfl : i = n := by omega
      rw [List.drop_eq_nil_of_le (by simp)]
      exact hend hp
    | succ d ih =>
      intro i hi hp
      rw [List.drop_eq_getElem_cons (by simp; omega), List.getElem_range, List.all_cons]
      cases hq : q i with
      | false => exact hstop i (by omega) hp hq
      | true =>
        rw [Bool.true_and]
        refine hgo i (by omega) hp hq _ (ih (i + 1) (by omega) fun j hj => ?_)
        rcases Nat.lt_succ_iff_lt_or_eq.mp hj with hj | rfl
        · exact hp j hj
        · exact hq
  have := key n 0 (by omega) (by omega)
  rw [List.drop_zero] at this
  exact this
/-- A loop that stops where q says no, if q says no anywhere. -/
theorem stop_ev {ρ : Type} {l : Nat → Int → Option ρ} {n : Nat} {q : Nat → Bool} {stop : ρ}
    (hgo : ∀ i : Nat, i < n → q i = true → ∀ r, Ev (fun k => l k ((i + 1 : Nat) : Int)) r → Ev (fun k => l k (i : Int)) r)
    (hstop : ∀ i : Nat, i < n → q i = false → Ev (fun k => l k (i : Int)) stop)
    (hn : (List.range n).all q = false) : Ev (fun k => l k 0) stop := by
  have key : ∀ d i : Nat, i + d = n → ((List.range n).drop i).all q = false → Ev (fun k => l k (i : Int)) stop := by
    intro d
    induction d with
    | zero =>
      intro i hi h
      rw [List.drop_eq_nil_of_le (by simp; omega)] at h
      simp at h
    | succ d ih =>
      intro i hi h
      rw [List.drop_eq_getElem_cons (by simp; omega), List.getElem_range, List.all_cons] at h
      cases hq : q i with
      | false => exact hstop i (by omega) hq
      | true =>
        rw [hq, Bool.true_and] at h
        exact hgo i (by omega) hq _ (ih (i + 1) (by omega) h)
  exact key n 0 (by omega) (by rwa [List.drop_zero])
def grp (gs : List (List Int)) (i : Nat) : List Int := gs.getD i []
theorem rdL_grp (gs : List (List Int)) (i : Nat) (h : i < gs.length) : rd_L1 gs (i : Int) = grp gs i := by
  rw [rdL_nat gs i h]; simp [grp, h]
theorem grp_len {gs : List (List Int)} {m : Nat} (hr : ∀ r ∈ gs, r.length ≤ m) (i : Nat) : (grp gs i).length ≤ m := by
  unfold grp
  by_cases h : i < gs.length
  · rw [List.getD_eq_getElem?_getD, List.getElem?_eq_getElem h]; exact hr _ (List.getElem_mem h)
  · rw [List.getD_eq_getElem?_getD, List.getElem?_eq_none (by omega)]; exact Nat.zero_le _
def okAt (h : Int) (gs : List (List Int)) (i : Nat) : Bool := groupB h (grp gs i) && (decide (i = 0) || ltB (grp gs (i - 1)) (grp gs i))
def withinB (a b : List Int) : Bool := (maskN a &&& maskN b) == maskN a
def pairB (gs : List (List Int)) (i j : Nat) : Bool := !withinB (grp gs i) (grp gs j) && !withinB (grp gs j) (grp gs i)
def famB (h : Int) (gs : List (List Int)) : Bool := decide (1 ≤ h ∧ h ≤ 7) && (List.range gs.length).all fun i => okAt h gs i && (List.range i).all (pairB gs i)
theorem okAt_group {h : Int} {gs : List (List Int)} {i : Nat} (ho : okAt h gs i = true) : groupB h (grp gs i) = true := by
  unfold okAt at ho
  exact (Bool.and_eq_true _ _ ▸ ho).1
theorem spec_l01Within_ev (a b : List Int) (ha : ∀ x ∈ a, 0 ≤ x ∧ x ≤ 6) (hb : ∀ x ∈ b, 0 ≤ x ∧ x ≤ 6) (hla : a.length ≤ 4611686018427387904) (hlb : b.length ≤ 4611686018427387904) : Ev (fun k => spec_l01Within.f k a b) (withinB a b) := by
  unfold spec_l01Within.f
  refine Ev.bind (spec_l01Bits_ev a ha hla) (Ev.bind (spec_l01Bits_ev b hb hlb) ?_)
  rw [andI (maskN_lt a ha) (maskN_lt b hb)]
  rw [show (((maskN a &&& maskN b : Nat) : Int) == (maskN a : Int)) = withinB a b from by
    unfold withinB
    by_cases e : (maskN a &&& maskN b) = maskN a
    · rw [e]; simp
    · rw [beq_eq_false_iff_ne.mpr (by omega), beq_eq_false_iff_ne.mpr e]]
  exact Ev.now _
theorem contains_eq (a b : List Int) (ha : ∀ x ∈ a, 0 ≤ x ∧ x ≤ 6) (hb : ∀ x ∈ b, 0 ≤ x ∧ x ≤ 6) : impl_crowd_contains.f (maskN a : Int) (maskN b : Int) = some (withinB b a) := by
  unfold impl_crowd_contains.f
  rw [andU (maskN_lt a ha) (maskN_lt b hb)]
  congr 1
  unfold withinB
  by_cases e : (maskN b &&& maskN a) = maskN b
  · rw [Nat.and_comm, e]; simp
  · rw [beq_eq_false_iff_ne.mpr (by rw [Nat.and_comm]; omega), beq_eq_false_iff_ne.mpr e]
theorem impl_ValidFamily_ev (h : Int) (gs : List (List Int)) (hl : gs.length ≤ 4611686018427387904) (hr : ∀ r ∈ gs, r.length ≤ 4611686018427387904) : Ev (fun k => impl_ValidFamily.f k h gs) (famB h gs) := by
  unfold impl_ValidFamily.f famB
  rw [impl_within_eq]
  simp only [Option.bind_some]
  cases hh : decide (1 ≤ h ∧ h ≤ 7) with
  | false => exact Ev.now _
  | true =>
    have hh' := of_decide_eq_true hh
    simp only [if_true, Bool.true_and]
    have inner : ∀ (i : Nat), i < gs.length → (∀ j, j ≤ i → okAt h gs j = true) → ∀ {r : Bool}, ((List.range i).all (pairB gs i) = true → Ev (fun k => impl_ValidFamily.l0 k gs (gs.length : Int) ((i + 1 : Nat) : Int) h gs) r) → Ev (fun k => impl_ValidFamily.j1 k (i : Int) (grp gs i) gs (gs.length : Int) (i : Int) false h gs) (if (List.range i).all (pairB gs i) then r else false) := by
      intro i hi hok r hr'
      have sm : ∀ j, j ≤ i → ∀ x ∈ grp gs j, 0 ≤ x ∧ x ≤ 6 := fun j hj => group_small hh'.2 (okAt_group (hok j hj))
      have hyl : (gs.take i).length = i := by rw [List.length_take]; omega
      refine Ev.step (f := fun k => impl_ValidFamily.l1 k (grp gs i) gs (gs.length : Int) (i : Int) (gs.take i) ((gs.take i).length : Int) 0 h gs) (fun k => ?_) ?_
      · simp only [impl_ValidFamily.j1]
        rw [if_neg (by decide), if_pos (by omega), if_pos (by omega), Option.bind_some, Int.toNat_natCast]
      · have one : ∀ j, j < i → Ev (fun k => impl_ValidFamily.l1 (k + 1) (grp gs i) gs (gs.length : Int) (i : Int) (gs.take i) ((gs.take i).length : Int) (j : Int) h gs) = Ev (fun k => (impl_crowdOf.f k (grp gs j)).bind fun t185 => ((impl_crowdOf.f k (grp gs i)).bind fun t186 => ((impl_crowd_contains.f t185 t186).bind fun t187 => (if t187 = true then (some false) else ((impl_crowd_contains.f t186 t185).bind fun t188 => (if t188 = true then (some false) else (impl_ValidFamily.l1 k (grp gs i) gs (gs.length : Int) (i : Int) (gs.take i) ((gs.take i).length : Int) ((j + 1 : Nat) : Int) h gs))))))) := fun j hj => by
          congr 1
          funext k
          simp only [impl_ValidFamily.l1]
          have hrow : rd_L1 (gs.take i) (j : Int) = grp gs j := by
            rw [rdL_nat _ j (by omega), List.getElem_take]
            simp [grp, show j < gs.length by omega]
          rw [if_pos (by omega), if_pos (by omega), if_pos (by omega), hrow, wr (by omega) (by omega)]
          rfl
        have body : ∀ j, j < i → ∀ {f : Nat → Option Bool} {t : Bool}, (∀ k, (if pairB gs i j then impl_ValidFamily.l1 k (grp gs i) gs (gs.length : Int) (i : Int) (gs.take i) ((gs.take i).length : Int) ((j + 1 : Nat) : Int) h gs else some false) = f k) → Ev f t → Ev (fun k => impl_ValidFamily.l1 k (grp gs i) gs (gs.length : Int) (i : Int) (gs.take i) ((gs.take i).length : Int) (j : Int) h gs) t := by
          intro j hj f t hf he
          refine Ev.step (f := fun k => impl_ValidFamily.l1 (k + 1) (grp gs i) gs (gs.length : Int) (i : Int) (gs.take i) ((gs.take i).length : Int) (j : Int) h gs) (fun k => rfl) ?_
          rw [one j hj]
          refine Ev.bind (impl_crowdOf_ev _ (sm j (by omega)) (grp_len hr j)) (Ev.bind (impl_crowdOf_ev _ (sm i (Nat.le_refl i)) (grp_len hr i)) ?_)
          rw [contains_eq _ _ (sm j (by omega)) (sm i (Nat.le_refl i)), contains_eq _ _ (sm i (Nat.le_refl i)) (sm j (by omega))]
          refine Ev.congr (fun k => ?_) he
          rw [← hf k]
          unfold pairB
          cases withinB (grp gs i) (grp gs j) <;> cases withinB (grp gs j) (grp gs i) <;> rfl
        have hgo : ∀ j : Nat, j < i → pairB gs i j = true → ∀ t, Ev (fun k => impl_ValidFamily.l1 k (grp gs i) gs (gs.length : Int) (i : Int) (gs.take i) ((gs.take i).length : Int) ((j + 1 : Nat) : Int) h gs) t → Ev (fun k => impl_ValidFamily.l1 k (grp gs i) gs (gs.length : Int) (i : Int) (gs.take i) ((gs.take i).length : Int) (j : Int) h gs) t := fun j hj hq t ht => body j hj (fun k => by rw [if_pos hq]) ht
        have hstop : ∀ j : Nat, j < i → pairB gs i j = false → Ev (fun k => impl_ValidFamily.l1 k (grp gs i) gs (gs.length : Int) (i : Int) (gs.take i) ((gs.take i).length : Int) (j : Int) h gs) false := fun j hj hq => body j hj (f := fun _ => some false) (fun k => by rw [hq]; rfl) (Ev.now _)
        cases ha : (List.range i).all (pairB gs i) with
        | false => exact stop_ev (l := fun k j => impl_ValidFamily.l1 k (grp gs i) gs (gs.length : Int) (i : Int) (gs.take i) ((gs.take i).length : Int) j h gs) hgo hstop ha
        | true =>
          have := scan_ev (l := fun k j => impl_ValidFamily.l1 k (grp gs i) gs (gs.length : Int) (i : Int) (gs.take i) ((gs.take i).length : Int) j h gs) (fin := r) (stop := false) hgo hstop (by
            refine Ev.step (fun k => ?_) (hr' ha)
            simp only [impl_ValidFamily.l1]
            rw [if_neg (by omega), wr (by omega) (by omega)]
            rfl)
          rwa [ha] at this
    have hs := scan2_ev (l := fun k i => impl_ValidFamily.l0 k gs (gs.length : Int) i h gs) (n := gs.length) (q := fun i => okAt h gs i && (List.range i).all (pairB gs i)) (fin := true) (stop := false)
      (fun i hi hp hq t ht => by
        have hq' := (Bool.and_eq_true _ _ ▸ hq)
        have hok : ∀ j, j ≤ i → okAt h gs j = true := fun j hj => by
          rcases Nat.lt_or_eq_of_le hj with hj | rfl
          · exact (Bool.and_eq_true _ _ ▸ hp j hj).1
          · exact hq'.1
        have hin := inner i hi hok (r := t) (fun _ => ht)
        rw [hq'.2, if_pos rfl] at hin
        have hg := okAt_group hq'.1
        refine Ev.step (f := fun k => (impl_isGroup.f k h (grp gs i)).bind fun t => if t = true then (if (i : Int) > 0 then (slices_Compare_int64_int64.f k (grp gs (i - 1)) (grp gs i)).bind fun t => impl_ValidFamily.j1 k (i : Int) (grp gs i) gs (gs.length : Int) (i : Int) (decide (t ≥ 0)) h gs else impl_ValidFamily.j1 k (i : Int) (grp gs i) gs (gs.length : Int) (i : Int) false h gs) else impl_ValidFamily.j1 k (i : Int) (grp gs i) gs (gs.length : Int) (i : Int) true h gs) (fun k => ?_) (Ev.bind (impl_group_ev h (grp gs i) (grp_len hr i) (by omega)) ?_)
        · simp only [impl_ValidFamily.l0]
          rw [if_pos (by omega), if_pos (by omega), if_pos (by omega), rdL_grp gs i hi]
          by_cases h0 : (i : Int) > 0
          · simp only [if_pos h0]
            rw [wr (x := (i : Int) - 1) (by omega) (by omega), if_pos (by omega), if_pos (by omega), show ((i : Int) - 1) = ((i - 1 : Nat) : Int) by omega, rdL_grp gs (i - 1) (by omega)]
          · simp only [if_neg h0]
        · simp only [hg, if_true]
          by_cases h0 : (i : Int) > 0
          · simp only [if_pos h0]
            obtain ⟨c, hc, hd⟩ := sliceCmp_ev (grp gs (i - 1)) (grp gs i) (grp_len hr _) (grp_len hr _)
            refine Ev.bind hc ?_
            have : ltB (grp gs (i - 1)) (grp gs i) = true := by
              have h1 := hq'.1
              unfold okAt at h1
              rw [hg, decide_eq_false (show ¬ i = 0 by omega)] at h1
              simpa using h1
            rw [hd, this]
            exact hin
          · simp only [if_neg h0]
            exact hin)
      (fun i hi hp hq => by
        have bad : Ev (fun k => impl_ValidFamily.j1 k (i : Int) (grp gs i) gs (gs.length : Int) (i : Int) true h gs) false := Ev.step (f := fun _ => some false) (fun k => by simp only [impl_ValidFamily.j1, if_true]) (Ev.now _)
        have pre : ∀ j, j < i → okAt h gs j = true := fun j hj => (Bool.and_eq_true _ _ ▸ hp j hj).1
        refine Ev.step (f := fun k => (impl_isGroup.f k h (grp gs i)).bind fun t => if t = true then (if (i : Int) > 0 then (slices_Compare_int64_int64.f k (grp gs (i - 1)) (grp gs i)).bind fun t => impl_ValidFamily.j1 k (i : Int) (grp gs i) gs (gs.length : Int) (i : Int) (decide (t ≥ 0)) h gs else impl_ValidFamily.j1 k (i : Int) (grp gs i) gs (gs.length : Int) (i : Int) false h gs) else impl_ValidFamily.j1 k (i : Int) (grp gs i) gs (gs.length : Int) (i : Int) true h gs) (fun k => ?_) (Ev.bind (impl_group_ev h (grp gs i) (grp_len hr i) (by omega)) ?_)
        · simp only [impl_ValidFamily.l0]
          rw [if_pos (by omega), if_pos (by omega), if_pos (by omega), rdL_grp gs i hi]
          by_cases h0 : (i : Int) > 0
          · simp only [if_pos h0]
            rw [wr (x := (i : Int) - 1) (by omega) (by omega), if_pos (by omega), if_pos (by omega), show ((i : Int) - 1) = ((i - 1 : Nat) : Int) by omega, rdL_grp gs (i - 1) (by omega)]
          · simp only [if_neg h0]
        · cases hg : groupB h (grp gs i) with
          | false => simp only [Bool.false_eq_true, if_false]; exact bad
          | true =>
            simp only [if_true]
            have fin : ∀ {b : Bool}, okAt h gs i = !b → Ev (fun k => impl_ValidFamily.j1 k (i : Int) (grp gs i) gs (gs.length : Int) (i : Int) b h gs) false := by
              intro b hb
              cases b with
              | true => exact bad
              | false =>
                have hok : ∀ j, j ≤ i → okAt h gs j = true := fun j hj => by
                  rcases Nat.lt_or_eq_of_le hj with hj | rfl
                  · exact pre j hj
                  · exact hb
                have hall : (List.range i).all (pairB gs i) = false := by
                  rw [hok i (Nat.le_refl i), Bool.true_and] at hq
                  exact hq
                have := inner i hi hok (r := false) (fun h2 => by rw [hall] at h2; exact absurd h2 (by decide))
                rwa [hall] at this
            by_cases h0 : (i : Int) > 0
            · simp only [if_pos h0]
              obtain ⟨c, hc, hd⟩ := sliceCmp_ev (grp gs (i - 1)) (grp gs i) (grp_len hr _) (grp_len hr _)
              refine Ev.bind hc ?_
              rw [hd]
              refine fin ?_
              unfold okAt
              rw [hg, decide_eq_false (show ¬ i = 0 by omega)]
              simp
            · simp only [if_neg h0]
              refine fin ?_
              unfold okAt
              rw [hg, decide_eq_true (show i = 0 by omega)]
              rfl)
      (fun _ => Ev.step (f := fun _ => some true) (fun k => by
        simp only [impl_ValidFamily.l0]
        rw [if_neg (by omega)]) (Ev.now _))
    rwa [show (if (List.range gs.length).all (fun i => okAt h gs i && (List.range i).all (pairB gs i)) then true else false) = (List.range gs.length).all (fun i => okAt h gs i && (List.range i).all (pairB gs i)) from by cases (List.range gs.length).all (fun i => okAt h gs i && (List.range i).all (pairB gs i)) <;> rfl] at hs

end Go.Proofs.Ytenmlpngnpjpjaa.P

namespace Go.Proofs.Ytenmlpngnpjpjaa.P
open Go.RowKit Go.Proofs.YtenmlpngnpjpjaaW.PrintWords Go.Proofs.YtenmlpngnpjpjaaW.PrintLast Go.Proofs.YtenmlpngnpjpjaaW.PrintMore
attribute [local go_sem] max2_int min2_int max_two min_two max_three min_three max_four min_four
set_option linter.unusedVariables false
set_option linter.unusedSimpArgs false

/-! ### spec_ValidFamily: function 14 -/
def spec_ValidFamily.f (k : Nat) (a0_0 : Int) (l0_1 : List (List Int)) : Option (Bool) := (spec_l01Ok.f k a0_0 l0_1).bind fun t164 => (some t164)
theorem spec_ValidFamily.mono : ∀ a0 a1 k, LeO (spec_ValidFamily.f k a0 a1) (spec_ValidFamily.f (k + 1) a0 a1) := by
  intro a0 a1 k
  unfold spec_ValidFamily.f
  repeat' first
      | (with_reducible exact spec_l01Ok.mono _ _ _)
      | (with_reducible exact LeO.refl _)
      | (with_reducible exact LeO.none _)
      | (with_reducible refine LeO.ite ?_ ?_)
      | (with_reducible refine LeO.bind ?_ (fun _ => ?_))
      | exact spec_l01Ok.mono _ _ _
      | exact LeO.none _
      | refine LeO.ite ?_ ?_
      | refine LeO.bind ?_ (fun _ => ?_)
set_option maxHeartbeats 8000000 in
set_option maxRecDepth 100000 in
theorem spec_ValidFamily.calls (k : Nat) (a0_0 : Int) (A0_1 : Option Addr) (c0_1 : Nat) (l0_1 : List (List Int)) (r : Bool) (w : World) (hr0_1 : Kd.C (Kd.slice 2 (Kd.int .i64)) w A0_1 l0_1.length l0_1) (hc0_1 : l0_1.length ≤ c0_1) (h : spec_ValidFamily.f k a0_0 l0_1 = some r) :
    Calls Try.prog 14 #[.agg #[.int .i64 a0_0, .slice A0_1 l0_1.length c0_1]] w fun e w' => e = .returned (.bool r) ∧ Below w.heap.size w w' := by
  have hu27 := Try.underlying27
  have HR0_1 := Aside0.mk hr0_1
  have HC0_1 := Aside0.mk hc0_1
  clear hr0_1 hc0_1
  have HB := Aside0.mk (Below.refl w.heap.size w)
  have H : ((spec_l01Ok.f k a0_0 l0_1).bind fun t164 => (some t164)) = some r := h
  clear h
  replace H := Option.bind_eq_some_iff.mp H
  obtain ⟨t164, A20, H⟩ := H
  replace H : (some t164) = some r := H
  have A2 := Aside0.mk A20
  clear A20
  obtain rfl := Option.some.inj H
  go_enter Try.func14, Try.ntmps14
  go_wp2_with (first | ((with_reducible refine gate_dst (N := 1) rfl ?_); refine box_event ?hg (N := 1) ?hd (cs := #[.int .i64 a0_0, .slice A0_1 l0_1.length c0_1]) (t := 27) ?hr ?_; (case hd => rfl); (case hg => rfl); (case hr => first | (go_simp; done) | (go_simp; rfl)); intro gb163 hg w3 hbox hb; have n0_ := Aside0.mk (below_step (by repeat (first | (with_reducible first | exact HB.out | apply below_alloc | apply pw_below_drewN | apply below_drew1) | exact HB.out)) hb); have n1_ := Aside0.mk (hbox); have n2_ := Aside0.mk ((by rw [hg]; exact (below_size (by repeat (first | (with_reducible first | exact HB.out | apply below_alloc | apply pw_below_drewN | apply below_drew1) | exact HB.out))) : w.heap.size ≤ gb163)); have n3_ := Aside0.mk ((by rw [hg]; exact (below_size (by repeat (first | (with_reducible first | exact HB.out | apply below_alloc | apply pw_below_drewN | apply below_drew1) | exact HB.out))) : w.heap.size ≤ gb163)); clear HB; have HB := n0_; have BK163 := n1_; have GW163 := n2_; have GE163 := n3_; clear n0_ n1_ n2_ n3_; clear hb hbox hg) | ((with_reducible refine gate_callee (f := 36) rfl ?_); refine goesL_ (some 3) rfl rfl Try.func36 (by kernel_rfl) rfl #[.pointer (some ⟨gb163, 0, none⟩)] rfl (by (try simp only [List.map_toArray, List.map_cons, List.map_nil]); first | done | rfl | (simp only [List.length_drop, List.length_take]; rfl)) ?_; (with_reducible refine (spec_l01Ok.calls k gb163 a0_0 A0_1 c0_1 l0_1 t164 _ ?side1 ?side2 ?side3 A2.out).mono ?_); (case side1 => (with_reducible repeat (first | refine blk_drewN ?_ _ | refine blk_drew ?_ | refine blk_alloc ?_ _)); exact BK163.out); (case side2 => repeat (first | exact (Kd.C_below HR0_1.out HB.out) | (with_reducible refine Kd.C_alloc ?_ _) | (with_reducible refine Kd.C_drewN ?_ _) | (with_reducible refine Kd.C_drew ?_))); (case side3 => exact HC0_1.out); rintro e w4 ⟨rfl, hb⟩; refine ⟨_, rfl, ?_⟩; have n0_ := Aside0.mk (blk_below (g := gb163) (o := .cells #[.int .i64 a0_0, .slice A0_1 l0_1.length c0_1] 27 (0, 0)) (by (with_reducible repeat (first | refine blk_drewN ?_ _ | refine blk_drew ?_ | refine blk_alloc ?_ _)); exact BK163.out) hb); have n1_ := Aside0.mk (below_step (by repeat (first | (with_reducible first | exact HB.out | apply below_alloc | apply pw_below_drewN | apply below_drew1 | refine below_set ?_ GE163.out) | exact HB.out)) hb); clear BK163; clear HB; have BK163 := n0_; have HB := n1_; clear n0_ n1_; (try clear hb); (try clear hb2); (try clear hk); (try clear hi)))
  go_ret
  exact ⟨by first | rfl | (simp [errW_none, errW_some] <;> rfl) | (simp [*, errW_none, errW_some] <;> rfl), by repeat (first | (with_reducible first | exact HB.out | apply below_alloc | apply pw_below_drewN | apply below_drew1 | refine below_set ?_ GE163.out) | exact HB.out)⟩

end Go.Proofs.Ytenmlpngnpjpjaa.P

namespace Go.Proofs.Ytenmlpngnpjpjaa.P
open Go.RowKit Go.Proofs.YtenmlpngnpjpjaaW.PrintWords Go.Proofs.YtenmlpngnpjpjaaW.PrintLast Go.Proofs.YtenmlpngnpjpjaaW.PrintMore
attribute [local go_sem] max2_int min2_int max_two min_two max_three min_three max_four min_four
set_option linter.unusedVariables false
set_option linter.unusedSimpArgs false

theorem and2 {a b : Bool} (h : (a && b) = true) : a = true ∧ b = true := by simpa using h
def apartAt (gs : List (List Int)) (i : Nat) : Bool := (List.range gs.length).all fun k => decide (i = k) || !withinB (grp gs i) (grp gs k)
theorem famB_eq (h : Int) (gs : List (List Int)) : famB h gs = (decide (1 ≤ h ∧ h ≤ 7) && ((List.range gs.length).all (okAt h gs) && (List.range gs.length).all (apartAt gs))) := by
  unfold famB
  congr 1
  rw [Bool.eq_iff_iff, Bool.and_eq_true, List.all_eq_true, List.all_eq_true, List.all_eq_true]
  constructor
  · intro hq
    refine ⟨fun i hi => (Bool.and_eq_true _ _ ▸ hq i hi).1, fun i hi => ?_⟩
    unfold apartAt
    refine List.all_eq_true.mpr fun k hk => ?_
    rcases Nat.lt_trichotomy i k with hlt | rfl | hlt
    · have := List.all_eq_true.mp (Bool.and_eq_true _ _ ▸ hq k hk).2 i (List.mem_range.mpr hlt)
      unfold pairB at this
      rw [(and2 this).2, Bool.or_true]
    · rw [decide_eq_true rfl, Bool.true_or]
    · have := List.all_eq_true.mp (Bool.and_eq_true _ _ ▸ hq i hi).2 k (List.mem_range.mpr hlt)
      unfold pairB at this
      rw [(and2 this).1, Bool.or_true]
  · rintro ⟨h1, h2⟩ i hi
    rw [h1 i hi, Bool.true_and]
    refine List.all_eq_true.mpr fun j hj => ?_
    have hj' := List.mem_range.mp hj
    have hi' := List.mem_range.mp hi
    have a := h2 i hi
    have b := h2 j (List.mem_range.mpr (by omega))
    unfold apartAt at a b
    have a := List.all_eq_true.mp a j (List.mem_range.mpr (by omega))
    have b := List.all_eq_true.mp b i hi
    rw [decide_eq_false (by omega), Bool.false_or] at a b
    unfold pairB
    rw [a, b]; rfl
theorem spec_l01Ok_ev (h : Int) (gs : List (List Int)) (hl : gs.length ≤ 4611686018427387904) (hr : ∀ r ∈ gs, r.length ≤ 4611686018427387904) : Ev (fun k => spec_l01Ok.f k h gs) (famB h gs) := by
  rw [famB_eq]
  unfold spec_l01Ok.f
  rw [spec_l00In_eq]
  simp only [Option.bind_some]
  cases hh : decide (1 ≤ h ∧ h ≤ 7) with
  | false => exact Ev.now _
  | true =>
    have hh' := of_decide_eq_true hh
    simp only [if_true, Bool.true_and]
    have two : (∀ j, j < gs.length → okAt h gs j = true) → Ev (fun k => spec_l01Ok.l1 k 0 h gs) ((List.range gs.length).all (apartAt gs)) := by
      intro hok
      have sm : ∀ j, j < gs.length → ∀ x ∈ grp gs j, 0 ≤ x ∧ x ≤ 6 := fun j hj => group_small hh'.2 (okAt_group (hok j hj))
      have step : ∀ i j, i < gs.length → j < gs.length → ∀ {f : Nat → Option Bool} {t : Bool}, (∀ k, (if (decide (i = j) || !withinB (grp gs i) (grp gs j)) = true then spec_l01Ok.l2 k (i : Int) ((j + 1 : Nat) : Int) h gs else some false) = f k) → Ev f t → Ev (fun k => spec_l01Ok.l2 k (i : Int) (j : Int) h gs) t := by
        intro i j hi hj f t hf he
        by_cases e : i = j
        · refine Ev.step (fun k => ?_) he
          rw [← hf k, decide_eq_true e, Bool.true_or, if_pos rfl]
          simp only [spec_l01Ok.l2]
          rw [if_pos (by omega), if_pos (by omega), wr (by omega) (by omega)]
          rfl
        · refine Ev.step (f := fun k => (spec_l01Within.f k (grp gs i) (grp gs j)).bind fun t => if t = true then some false else spec_l01Ok.l2 k (i : Int) ((j + 1 : Nat) : Int) h gs) (fun k => ?_) (Ev.bind (spec_l01Within_ev _ _ (sm i hi) (sm j hj) (grp_len hr i) (grp_len hr j)) (Ev.congr (fun k => ?_) he))
          · simp only [spec_l01Ok.l2]
            rw [if_pos (by omega), if_neg (by omega), if_pos (by omega), if_pos (by omega), if_pos (by omega), rdL_grp gs i hi, rdL_grp gs j hj, wr (by omega) (by omega)]
            rfl
          · rw [← hf k, decide_eq_false e, Bool.false_or]
            cases withinB (grp gs i) (grp gs j) <;> rfl
      have row : ∀ i, i < gs.length → ∀ {r : Bool}, (apartAt gs i = true → Ev (fun k => spec_l01Ok.l1 k ((i + 1 : Nat) : Int) h gs) r) → Ev (fun k => spec_l01Ok.l1 k (i : Int) h gs) (if apartAt gs i then r else false) := by
        intro i hi r hr'
        refine Ev.step (f := fun k => spec_l01Ok.l2 k (i : Int) 0 h gs) (fun k => ?_) ?_
        · simp only [spec_l01Ok.l1]
          rw [if_pos (by omega)]
        · have hgo : ∀ j : Nat, j < gs.length → (decide (i = j) || !withinB (grp gs i) (grp gs j)) = true → ∀ t, Ev (fun k => spec_l01Ok.l2 k (i : Int) ((j + 1 : Nat) : Int) h gs) t → Ev (fun k => spec_l01Ok.l2 k (i : Int) (j : Int) h gs) t := fun j hj hq t ht => step i j hi hj (fun k => by rw [if_pos hq]) ht
          have hstop : ∀ j : Nat, j < gs.length → (decide (i = j) || !withinB (grp gs i) (grp gs j)) = false → Ev (fun k => spec_l01Ok.l2 k (i : Int) (j : Int) h gs) false := fun j hj hq => step i j hi hj (f := fun _ => some false) (fun k => by rw [hq]; rfl) (Ev.now _)
          cases ha : apartAt gs i with
          | false => exact stop_ev (l := fun k j => spec_l01Ok.l2 k (i : Int) j h gs) hgo hstop ha
          | true =>
            have := scan_ev (l := fun k j => spec_l01Ok.l2 k (i : Int) j h gs) (fin := r) (stop := false) hgo hstop (by
              refine Ev.step (fun k => ?_) (hr' ha)
              simp only [spec_l01Ok.l2]
              rw [if_neg (by omega), wr (by omega) (by omega)]
              rfl)
            rw [show (List.range gs.length).all (fun k => decide (i = k) || !withinB (grp gs i) (grp gs k)) = true from ha] at this
            exact this
      have hs := scan2_ev (l := fun k i => spec_l01Ok.l1 k i h gs) (n := gs.length) (q := apartAt gs) (fin := true) (stop := false)
        (fun i hi _ hq t ht => by
          have := row i hi (r := t) (fun _ => ht)
          rwa [hq] at this)
        (fun i hi _ hq => by
          have := row i hi (r := false) (fun h2 => by rw [hq] at h2; exact absurd h2 (by decide))
          rwa [hq] at this)
        (fun _ => Ev.step (f := fun _ => some true) (fun k => by
          simp only [spec_l01Ok.l1]
          rw [if_neg (by omega)]) (Ev.now _))
      rwa [show (if (List.range gs.length).all (apartAt gs) then true else false) = (List.range gs.length).all (apartAt gs) from by cases (List.range gs.length).all (apartAt gs) <;> rfl] at hs
    have body : ∀ i, i < gs.length → ∀ {f : Nat → Option Bool} {t : Bool}, (∀ k, (if okAt h gs i = true then spec_l01Ok.l0 k ((i + 1 : Nat) : Int) h gs else some false) = f k) → Ev f t → Ev (fun k => spec_l01Ok.l0 k (i : Int) h gs) t := by
      intro i hi f t hf he
      refine Ev.step (f := fun k => (spec_l01Group.f k h (grp gs i)).bind fun t => if t = true then (if (i : Int) > 0 then (spec_l01Before.f k (grp gs (i - 1)) (grp gs i)).bind fun t => if t = true then spec_l01Ok.l0 k ((i + 1 : Nat) : Int) h gs else some false else spec_l01Ok.l0 k ((i + 1 : Nat) : Int) h gs) else some false) (fun k => ?_) (Ev.bind (spec_group_ev h (grp gs i) (grp_len hr i) (by omega)) ?_)
      · simp only [spec_l01Ok.l0]
        rw [if_pos (by omega), if_pos (by omega), rdL_grp gs i hi, wr (x := (i : Int) + 1) (by omega) (by omega)]
        by_cases h0 : (i : Int) > 0
        · simp only [if_pos h0]
          rw [wr (x := (i : Int) - 1) (by omega) (by omega), if_pos (by omega), if_pos (by omega), show ((i : Int) - 1) = ((i - 1 : Nat) : Int) by omega, rdL_grp gs (i - 1) (by omega)]
          rfl
        · simp only [if_neg h0]
          rfl
      · cases hg : groupB h (grp gs i) with
        | false =>
          refine Ev.congr (fun k => ?_) he
          rw [← hf k, show okAt h gs i = false from by unfold okAt; rw [hg]; rfl]
          rfl
        | true =>
          simp only [if_true]
          by_cases h0 : (i : Int) > 0
          · simp only [if_pos h0]
            refine Ev.bind (spec_l01Before_ev _ _ (grp_len hr _) (grp_len hr _)) (Ev.congr (fun k => ?_) he)
            rw [← hf k, show okAt h gs i = ltB (grp gs (i - 1)) (grp gs i) from by unfold okAt; rw [hg, decide_eq_false (show ¬ i = 0 by omega)]; simp]
          · simp only [if_neg h0]
            refine Ev.congr (fun k => ?_) he
            rw [← hf k, show okAt h gs i = true from by unfold okAt; rw [hg, decide_eq_true (show i = 0 by omega)]; rfl]
            rfl
    have hgo : ∀ j : Nat, j < gs.length → okAt h gs j = true → ∀ t, Ev (fun k => spec_l01Ok.l0 k ((j + 1 : Nat) : Int) h gs) t → Ev (fun k => spec_l01Ok.l0 k (j : Int) h gs) t := fun j hj hq t ht => body j hj (fun k => by rw [if_pos hq]) ht
    have hstop : ∀ j : Nat, j < gs.length → okAt h gs j = false → Ev (fun k => spec_l01Ok.l0 k (j : Int) h gs) false := fun j hj hq => body j hj (f := fun _ => some false) (fun k => by rw [hq]; rfl) (Ev.now _)
    cases ha : (List.range gs.length).all (okAt h gs) with
    | false => exact stop_ev (l := fun k j => spec_l01Ok.l0 k j h gs) hgo hstop ha
    | true =>
      have hok : ∀ j, j < gs.length → okAt h gs j = true := fun j hj => List.all_eq_true.mp ha j (List.mem_range.mpr hj)
      have := scan_ev (l := fun k j => spec_l01Ok.l0 k j h gs) (fin := (List.range gs.length).all (apartAt gs)) (stop := false) hgo hstop (by
        refine Ev.step (fun k => ?_) (two hok)
        simp only [spec_l01Ok.l0]
        rw [if_neg (by omega)])
      rw [ha] at this
      rw [Bool.true_and]
      exact this
theorem spec_ValidFamily_ev (h : Int) (gs : List (List Int)) (hl : gs.length ≤ 4611686018427387904) (hr : ∀ r ∈ gs, r.length ≤ 4611686018427387904) : Ev (fun k => spec_ValidFamily.f k h gs) (famB h gs) := by
  unfold spec_ValidFamily.f
  exact Ev.bind (spec_l01Ok_ev h gs hl hr) (Ev.now _)

end Go.Proofs.Ytenmlpngnpjpjaa.P

namespace Go.Proofs.Ytenmlpngnpjpjaa.P
open Go.RowKit Go.Proofs.YtenmlpngnpjpjaaW.PrintWords Go.Proofs.YtenmlpngnpjpjaaW.PrintLast Go.Proofs.YtenmlpngnpjpjaaW.PrintMore
attribute [local go_sem] max2_int min2_int max_two min_two max_three min_three max_four min_four
set_option linter.unusedVariables false
set_option linter.unusedSimpArgs false

/-- The holders of a set. -/
def membersN (x : Nat) : List Int := ((List.range 7).filter fun h => (x >>> h) &&& 1 == 1).map fun h : Nat => (h : Int)
theorem membersN_len (x : Nat) : (membersN x).length ≤ 7 := by
  unfold membersN
  rw [List.length_map]
  exact Nat.le_trans (List.length_filter_le _ _) (by simp)
theorem spec_l01Of_all : ∀ x : Fin 128, spec_l01Of.f 12 (x.val : Int) = some (membersN x.val) := by decide +kernel
theorem impl_group_all : ∀ x : Fin 128, impl_crowd_group.f 12 (x.val : Int) = some (membersN x.val) := by decide +kernel
theorem spec_l01Of_ev {x : Nat} (hx : x < 128) : Ev (fun k => spec_l01Of.f k (x : Int)) (membersN x) := Ev.of (spec_l01Of.mono _) (k := 12) (spec_l01Of_all ⟨x, hx⟩)
theorem impl_crowd_group_ev {x : Nat} (hx : x < 128) : Ev (fun k => impl_crowd_group.f k (x : Int)) (membersN x) := Ev.of (impl_crowd_group.mono _) (k := 12) (impl_group_all ⟨x, hx⟩)
def foldN (op : Nat → Nat → Nat) (x : Nat) (gs : List (List Int)) : Nat := gs.foldl (fun m g => op m (maskN g)) x
theorem foldN_take (op : Nat → Nat → Nat) (x : Nat) (gs : List (List Int)) (i : Nat) (h : i < gs.length) : foldN op x (gs.take (i + 1)) = op (foldN op x (gs.take i)) (maskN (grp gs i)) := by
  unfold foldN
  rw [List.take_succ_eq_append_getElem h, List.foldl_append]
  simp [grp, h]
theorem foldN_lt (op : Nat → Nat → Nat) (hop : ∀ a b, a < 128 → b < 128 → op a b < 128) (gs : List (List Int)) (hg : ∀ g ∈ gs, maskN g < 128) : ∀ x, x < 128 → foldN op x gs < 128 := by
  induction gs with
  | nil => exact fun x hx => hx
  | cons g gs ih =>
    intro x hx
    exact ih (fun g' h => hg g' (List.mem_cons_of_mem _ h)) _ (hop _ _ hx (hg g (List.mem_cons_self ..)))
theorem fam_groups {h : Int} {gs : List (List Int)} (hf : famB h gs = true) : (1 ≤ h ∧ h ≤ 7) ∧ ∀ i, i < gs.length → ∀ x ∈ grp gs i, 0 ≤ x ∧ x ≤ 6 := by
  unfold famB at hf
  have h1 := and2 hf
  have hh := of_decide_eq_true h1.1
  refine ⟨hh, fun i hi => group_small hh.2 (okAt_group (and2 (List.all_eq_true.mp h1.2 i (List.mem_range.mpr hi))).1)⟩
theorem fam_mask {h : Int} {gs : List (List Int)} (hf : famB h gs = true) : ∀ g ∈ gs, maskN g < 128 := fun g hg => by
  obtain ⟨i, hi, rfl⟩ := List.getElem_of_mem hg
  have := maskN_lt _ ((fam_groups hf).2 i hi)
  simpa [grp, hi] using this
theorem and_lt {x y : Nat} (hx : x < 128) : x &&& y < 128 := Nat.lt_of_le_of_lt Nat.and_le_left hx
theorem ands_lt (a b : Nat) (ha : a < 128) (_ : b < 128) : a &&& b < 128 := and_lt ha
theorem ors_lt (a b : Nat) (ha : a < 128) (hb : b < 128) : a ||| b < 128 := or_lt ha hb
def neededB (h : Int) (gs : List (List Int)) : List Int × Int := if famB h gs then (membersN (foldN (· ||| ·) 0 gs), 0) else ([], 1)
theorem foldN_mid {op : Nat → Nat → Nat} (hop : ∀ a b, a < 128 → b < 128 → op a b < 128) {gs : List (List Int)} (hg : ∀ g ∈ gs, maskN g < 128) {x : Nat} (hx : x < 128) (i : Nat) : foldN op x (gs.take i) < 128 := foldN_lt op hop _ (fun g h => hg g (List.mem_of_mem_take h)) x hx
theorem spec_NeededHolders_ev (h : Int) (gs : List (List Int)) (hl : gs.length ≤ 4611686018427387904) (hr : ∀ r ∈ gs, r.length ≤ 4611686018427387904) : Ev (fun k => spec_NeededHolders.f k h gs) (neededB h gs) := by
  unfold spec_NeededHolders.f neededB
  refine Ev.bind (spec_l01Ok_ev h gs hl hr) ?_
  cases hf : famB h gs with
  | false => exact Ev.now _
  | true =>
    simp only [if_true]
    have key : ∀ d i : Nat, i + d = gs.length → Ev (fun k => spec_NeededHolders.l0 k (foldN (· ||| ·) 0 (gs.take i) : Int) (i : Int) h gs) (membersN (foldN (· ||| ·) 0 gs), 0) := by
      intro d
      induction d with
      | zero =>
        intro i hi
        rw [List.take_of_length_le (by omega)]
        refine Ev.step (f := fun k => (spec_l01Of.f k (foldN (· ||| ·) 0 gs : Int)).bind fun t => some (t, 0)) (fun k => ?_) (Ev.bind (spec_l01Of_ev (foldN_lt _ ors_lt gs (fam_mask hf) 0 (by omega))) (Ev.now _))
        simp only [spec_NeededHolders.l0]
        rw [if_neg (by omega)]
      | succ d ih =>
        intro i hi
        have hlt : i < gs.length := by omega
        refine Ev.step (f := fun k => (spec_l01Bits.f k (grp gs i)).bind fun t => spec_NeededHolders.l0 k (Go.bits .or .i64 (foldN (· ||| ·) 0 (gs.take i) : Int) t) ((i + 1 : Nat) : Int) h gs) (fun k => ?_) (Ev.bind (spec_l01Bits_ev _ ((fam_groups hf).2 i hlt) (grp_len hr i)) ?_)
        · simp only [spec_NeededHolders.l0]
          rw [if_pos (by omega), if_pos (by omega), rdL_grp gs i hlt, wr (by omega) (by omega)]
          rfl
        · rw [orI (foldN_mid ors_lt (fam_mask hf) (by omega) i) (maskN_lt _ ((fam_groups hf).2 i hlt)), ← foldN_take (· ||| ·) 0 gs i hlt]
          exact ih (i + 1) (by omega)
    exact key gs.length 0 (by omega)
theorem impl_NeededHolders_ev (h : Int) (gs : List (List Int)) (hl : gs.length ≤ 4611686018427387904) (hr : ∀ r ∈ gs, r.length ≤ 4611686018427387904) : Ev (fun k => impl_NeededHolders.f k h gs) (neededB h gs) := by
  unfold impl_NeededHolders.f neededB
  refine Ev.bind (impl_ValidFamily_ev h gs hl hr) ?_
  cases hf : famB h gs with
  | false => exact Ev.now _
  | true =>
    simp only [if_true]
    have key : ∀ d i : Nat, i + d = gs.length → Ev (fun k => impl_Family_needed.l0 k (foldN (· ||| ·) 0 (gs.take i) : Int) gs (gs.length : Int) (i : Int)) (foldN (· ||| ·) 0 gs : Int) := by
      intro d
      induction d with
      | zero =>
        intro i hi
        rw [List.take_of_length_le (by omega)]
        refine Ev.step (f := fun _ => some (foldN (· ||| ·) 0 gs : Int)) (fun k => ?_) (Ev.now _)
        simp only [impl_Family_needed.l0]
        rw [if_neg (by omega)]
      | succ d ih =>
        intro i hi
        have hlt : i < gs.length := by omega
        refine Ev.step (f := fun k => (impl_crowdOf.f k (grp gs i)).bind fun t => impl_Family_needed.l0 k (Go.bits .or .u64 (foldN (· ||| ·) 0 (gs.take i) : Int) t) gs (gs.length : Int) ((i + 1 : Nat) : Int)) (fun k => ?_) (Ev.bind (impl_crowdOf_ev _ ((fam_groups hf).2 i hlt) (grp_len hr i)) ?_)
        · simp only [impl_Family_needed.l0]
          rw [if_pos (by omega), if_pos (by omega), if_pos (by omega), rdL_grp gs i hlt, wr (by omega) (by omega)]
          rfl
        · rw [orU (foldN_mid ors_lt (fam_mask hf) (by omega) i) (maskN_lt _ ((fam_groups hf).2 i hlt)), ← foldN_take (· ||| ·) 0 gs i hlt]
          exact ih (i + 1) (by omega)
    exact Ev.bind (g := fun k => impl_Family_needed.f k h gs) (key gs.length 0 (by omega)) (Ev.bind (impl_crowd_group_ev (foldN_lt _ ors_lt gs (fam_mask hf) 0 (by omega))) (Ev.now _))
theorem allI0 : ∀ h : Fin 8, wrap64 ((shl .i64 1 (IntKind.u64.wrap (h.val : Int))) - 1) = ((2 ^ h.val - 1 : Nat) : Int) := by decide +kernel
theorem allU0 : ∀ h : Fin 8, IntKind.u64.wrap ((shl .u64 1 (h.val : Int)) - 1) = ((2 ^ h.val - 1 : Nat) : Int) := by decide +kernel
theorem all_lt0 : ∀ h : Fin 8, 2 ^ h.val - 1 < 128 := by decide
def vetoB (h : Int) (gs : List (List Int)) : List Int × Int := if famB h gs then (membersN (foldN (· &&& ·) (2 ^ h.toNat - 1) gs), 0) else ([], 1)
theorem spec_VetoHolders_ev (h : Int) (gs : List (List Int)) (hl : gs.length ≤ 4611686018427387904) (hr : ∀ r ∈ gs, r.length ≤ 4611686018427387904) : Ev (fun k => spec_VetoHolders.f k h gs) (vetoB h gs) := by
  unfold spec_VetoHolders.f vetoB
  refine Ev.bind (spec_l01Ok_ev h gs hl hr) ?_
  cases hf : famB h gs with
  | false => exact Ev.now _
  | true =>
    have hh := (fam_groups hf).1
    have h0 : 2 ^ h.toNat - 1 < 128 := all_lt0 ⟨h.toNat, by omega⟩
    have e0 : wrap64 ((shl .i64 1 (IntKind.u64.wrap h)) - 1) = ((2 ^ h.toNat - 1 : Nat) : Int) := by
      have := allI0 ⟨h.toNat, by omega⟩
      rwa [show ((⟨h.toNat, by omega⟩ : Fin 8).val : Int) = h from by simp; omega] at this
    simp only [if_true, if_pos (wrapU (h := h) (by omega)), e0]
    have key : ∀ d i : Nat, i + d = gs.length → Ev (fun k => spec_VetoHolders.l0 k (foldN (· &&& ·) (2 ^ h.toNat - 1) (gs.take i) : Int) (i : Int) h gs) (membersN (foldN (· &&& ·) (2 ^ h.toNat - 1) gs), 0) := by
      intro d
      induction d with
      | zero =>
        intro i hi
        rw [List.take_of_length_le (by omega)]
        refine Ev.step (f := fun k => (spec_l01Of.f k (foldN (· &&& ·) (2 ^ h.toNat - 1) gs : Int)).bind fun t => some (t, 0)) (fun k => ?_) (Ev.bind (spec_l01Of_ev (foldN_lt _ ands_lt gs (fam_mask hf) _ h0)) (Ev.now _))
        simp only [spec_VetoHolders.l0]
        rw [if_neg (by omega)]
      | succ d ih =>
        intro i hi
        have hlt : i < gs.length := by omega
        refine Ev.step (f := fun k => (spec_l01Bits.f k (grp gs i)).bind fun t => spec_VetoHolders.l0 k (Go.bits .and .i64 (foldN (· &&& ·) (2 ^ h.toNat - 1) (gs.take i) : Int) t) ((i + 1 : Nat) : Int) h gs) (fun k => ?_) (Ev.bind (spec_l01Bits_ev _ ((fam_groups hf).2 i hlt) (grp_len hr i)) ?_)
        · simp only [spec_VetoHolders.l0]
          rw [if_pos (by omega), if_pos (by omega), rdL_grp gs i hlt, wr (by omega) (by omega)]
          rfl
        · rw [andI (foldN_mid ands_lt (fam_mask hf) h0 i) (maskN_lt _ ((fam_groups hf).2 i hlt)), ← foldN_take (· &&& ·) (2 ^ h.toNat - 1) gs i hlt]
          exact ih (i + 1) (by omega)
    exact key gs.length 0 (by omega)
theorem impl_VetoHolders_ev (h : Int) (gs : List (List Int)) (hl : gs.length ≤ 4611686018427387904) (hr : ∀ r ∈ gs, r.length ≤ 4611686018427387904) : Ev (fun k => impl_VetoHolders.f k h gs) (vetoB h gs) := by
  unfold impl_VetoHolders.f vetoB
  refine Ev.bind (impl_ValidFamily_ev h gs hl hr) ?_
  cases hf : famB h gs with
  | false => exact Ev.now _
  | true =>
    have hh := (fam_groups hf).1
    have h0 : 2 ^ h.toNat - 1 < 128 := all_lt0 ⟨h.toNat, by omega⟩
    have e0 : impl_everybody.f h = some ((2 ^ h.toNat - 1 : Nat) : Int) := by
      have := allU0 ⟨h.toNat, by omega⟩
      rw [show ((⟨h.toNat, by omega⟩ : Fin 8).val : Int) = h from by simp; omega] at this
      unfold impl_everybody.f
      rw [if_pos (by omega), this]
    simp only [if_true, e0, Option.bind_some]
    have key : ∀ d i : Nat, i + d = gs.length → Ev (fun k => impl_VetoHolders.l0 k (foldN (· &&& ·) (2 ^ h.toNat - 1) (gs.take i) : Int) gs (gs.length : Int) (i : Int)) (membersN (foldN (· &&& ·) (2 ^ h.toNat - 1) gs), 0) := by
      intro d
      induction d with
      | zero =>
        intro i hi
        rw [List.take_of_length_le (by omega)]
        refine Ev.step (f := fun k => (impl_crowd_group.f k (foldN (· &&& ·) (2 ^ h.toNat - 1) gs : Int)).bind fun t => some (t, 0)) (fun k => ?_) (Ev.bind (impl_crowd_group_ev (foldN_lt _ ands_lt gs (fam_mask hf) _ h0)) (Ev.now _))
        simp only [impl_VetoHolders.l0]
        rw [if_neg (by omega)]
      | succ d ih =>
        intro i hi
        have hlt : i < gs.length := by omega
        refine Ev.step (f := fun k => (impl_crowdOf.f k (grp gs i)).bind fun t => impl_VetoHolders.l0 k (Go.bits .and .u64 (foldN (· &&& ·) (2 ^ h.toNat - 1) (gs.take i) : Int) t) gs (gs.length : Int) ((i + 1 : Nat) : Int)) (fun k => ?_) (Ev.bind (impl_crowdOf_ev _ ((fam_groups hf).2 i hlt) (grp_len hr i)) ?_)
        · simp only [impl_VetoHolders.l0]
          rw [if_pos (by omega), if_pos (by omega), if_pos (by omega), rdL_grp gs i hlt, wr (by omega) (by omega)]
          rfl
        · rw [andU (foldN_mid ands_lt (fam_mask hf) h0 i) (maskN_lt _ ((fam_groups hf).2 i hlt)), ← foldN_take (· &&& ·) (2 ^ h.toNat - 1) gs i hlt]
          exact ih (i + 1) (by omega)
    exact key gs.length 0 (by omega)

end Go.Proofs.Ytenmlpngnpjpjaa.P

/- For every family the program's VetoHolders and the reference's answer alike, the argument stays, and the result is memory of its own. -/
namespace Go.Proofs.Ytenmlpngnpjpjaa.Pure
open Go.RowKit Go.Proofs.Ytenmlpngnpjpjaa.P Go.Proofs.YtenmlpngnpjpjaaW.PrintWords Go.Proofs.YtenmlpngnpjpjaaW.PrintLast Go.Proofs.YtenmlpngnpjpjaaW.PrintMore
set_option linter.unusedVariables false
set_option linter.unusedSimpArgs false

theorem FnExactVetoHolders : laws_FnExactVetoHolders.Pure := by
  intro x hx
  obtain ⟨xp, xs⟩ := x
  have hl : xs.length ≤ 9223372036854775807 := hx.2.1
  have hr : ∀ r ∈ xs, r.length ≤ 9223372036854775807 := fun r h => (hx.2.2 r h).1
  have s1 := szFamily_ev xp xs 1048576 (by omega) hl hr
  by_cases h : (bulk xs : Int) ≤ 1048576
  · rw [if_pos h] at s1
    obtain ⟨h1, h2⟩ := bulk_len (rows := xs) (n := 1048576) (by omega)
    have h4 : xs.length ≤ 4611686018427387904 := by omega
    have h3 : ∀ r ∈ xs, r.length ≤ 4611686018427387904 := fun r hr => Nat.le_trans (h2 r hr) (by omega)
    have h5 : allLen xs ≤ 1048576 := by unfold bulk at h; unfold allLen; omega
    obtain ⟨r1, r2, er, z⟩ : ∃ r1 r2, vetoB xp xs = (r1, r2) ∧ r1.length ≤ 7 := by
      unfold vetoB
      split
      · exact ⟨_, _, rfl, membersN_len _⟩
      · exact ⟨_, _, rfl, by simp⟩
    have e1 := spec_VetoHolders_ev xp xs h4 h3
    have e2 := impl_VetoHolders_ev xp xs h4 h3
    rw [er] at e1 e2
    obtain ⟨k, a1, a2, a3, a4, a5, a6, a7, a8, a9⟩ := From.now (From.and s1 (From.and (toFamily_ev xp xs h1 h2) (From.and e1 (From.and e2 (From.and (eqInt64S_same r1 (by omega)) (From.and (eqFamily_same xp xs h1 h2) (From.and (markFamily_ev xp xs 1 (by omega) (by omega) (by omega)) (From.and (markInt64S_ev r1 1 (by omega) (by omega)) (heldInt64S_ev 1 r1.length (by omega) (by omega))))))))))
    exact Or.inr ⟨k, _, r1, r2, _, _, _, _, a1, decide_eq_false (by omega), a2, a3, a2, a4, a5, a2, a6, a7, decide_eq_false (by omega), a5, a8, a9, decide_eq_false (by omega), a2, a4, a5, a9, decide_eq_false (by omega)⟩
  · rw [if_neg h] at s1
    obtain ⟨k, a1⟩ := From.now s1
    exact Or.inl ⟨k, _, a1, by decide⟩

end Go.Proofs.Ytenmlpngnpjpjaa.Pure

/- The row of the law FnExactVetoHolders: whatever its arguments, it answers true, and they read as before. No condition. -/
namespace Go.Proofs.Ytenmlpngnpjpjaa.fnExactVetoHolders
open Go.ChangeShapes Go.WideShapes Go.ChangeAt Go.RowKit Go.Proofs.Ytenmlpngnpjpjaa.P Go.Proofs.YtenmlpngnpjpjaaW.PrintWords Go.Proofs.YtenmlpngnpjpjaaW.PrintLast Go.Proofs.YtenmlpngnpjpjaaW.PrintMore
open Go.ChangeMaps (open_string shut_string)
set_option linter.unusedVariables false
theorem own : ownKnob Try.prog.godebug = none := by kernel_rfl
theorem laidOut : laidOutB Try.prog = true := by kernel_rfl
set_option maxRecDepth 100000 in
theorem lifted (os : Os) (started : os.Started) (H : Type) (enc : TypeId × Value → H) :
    ReturnsInHanded {} Try.checked os 6 .any (Rows.fnExactVetoHoldersSpec.pre6 enc Try.prog Try.f6 Rows.fnExactVetoHoldersRow.domain false) (Rows.fnExactVetoHoldersSpec.post enc Try.prog Try.f6 false true false false) := by
  refine returnsInHanded_of_change_sized (C := Try.checked) own started (by kernel_rfl) Try.func6
    (ChangeSpec.witness6 (enc := enc) (C := Try.checked) false ⟨#[], #[.agg #[.int .i64 0, .slice none 0 0]], []⟩ 8 (by kernel_rfl) (by kernel_rfl) (by kernel_rfl) (by kernel_rfl)) ?_
  intro W base args ds gs before hval0 hW hcnd hsz0 _
  have hval : ∀ (j : Nat) t v, Try.f6.params[j]? = some t → args[j]? = some v → Value.okWide Try.prog W .any base t v := hval0
  have hW' := hW
  obtain ⟨p, q, hA0, hV, rfl, hfz, hnd⟩ := hW
  have hA : DataW.TrodAll enc Try.prog W 0 (fun _ => true) true Try.f6.params.toList args.toList ds p := hA0
  rw [Try.params6] at hA hval
  obtain ⟨v0, vs0, d0, ds0, p0, q0, hargs, rfl, rfl, h0, r0⟩ := trodAll_cons hA
  obtain ⟨rfl, rfl, rfl⟩ := trodAll_nil r0
  obtain rfl : args = #[v0] := by cases args; simp_all
  obtain ⟨rfl, rfl⟩ := trodVars_none hV
  have k0 := h0
  have lt0 : ∀ x ∈ p0, x.block < W.heap.size := by obtain ⟨m, hm⟩ := k0; exact DataW.trod_lt m _ _ _ hm
  obtain ⟨cs0, rfl, _⟩ := okWide_struct Try.underlying24 (hval 0 24 v0 rfl rfl)
  obtain ⟨x0, hK0, wf0⟩ := OpensAt.any opensS24 h0
  obtain ⟨A0_1, c0_1, e0, l0_1, g0_1⟩ := k24_open hK0
  obtain rfl : cs0 = #[.int .i64 x0.f0, .slice A0_1 x0.f1.length c0_1] := by cases cs0; simpa [Value.cells] using e0
  clear hA0 hval0 hsz0
  refine (P.laws_FnExactVetoHolders.walk Pure.FnExactVetoHolders x0 _ _ W g0_1 l0_1 wf0).mono fun e W' ⟨he, bel⟩ => ?_
  subst he
  exact ⟨_, rfl, _, _, _, [], _, [], hW', trodAll_mk1 (shut_bool Try.underlying4 _), (trodAll_cons_mk (Below.trod laidOut (by kernel_rfl) (of_decide_eq_true (by kernel_rfl)) k0 bel lt0) trodAll_mk0), rfl, bel.frame _, fun h => by cases h⟩
theorem over : Rows.fnExactVetoHoldersRow.holds Try.pinned (OpenSpec.ofChange Rows.fnExactVetoHoldersSpec) :=
  OpenClaim.holds_of_wide 6 Try.f6 rfl rfl rfl rfl rfl rfl rfl ⟨rfl, rfl, rfl, rfl, rfl⟩ rfl rfl rfl rfl rfl (by kernel_rfl) Try.func6 (by kernel_rfl)
    (of_decide_eq_true (by kernel_rfl)) (by unfold Func.isWrapper; first | (rw [if_pos (by decide +kernel)]; kernel_rfl) | (rw [if_neg (by decide +kernel)]; exact ⟨rfl, rfl⟩))
    (fun os started H enc _ => lifted os started H enc)
theorem proved : Rows.FnExactVetoHoldersSaid := over
#print axioms proved
end Go.Proofs.Ytenmlpngnpjpjaa.fnExactVetoHolders
namespace Go.Proofs.Ytenmlpngnpjpjaa
/-- The row, under a short name, for the claim. -/
theorem fnExactVetoHolders_holds : Rows.FnExactVetoHoldersSaid := fnExactVetoHolders.proved
end Go.Proofs.Ytenmlpngnpjpjaa
