/- For every family the program's FamilyText and the reference's answer alike, and the argument stays. This text: the theorem of the row, and part 4 of what it rests on. -/
import Derived.Test.YtijmdlhcidjpmaaDoorCFnExactFamilyTextc
import Derived.Below
import Derived.Carry
import Derived.ChangeOld
import Derived.LaidMore
import Derived.OpenShut
import Derived.ProofKit
import Derived.SevenTiedAt
import Derived.ShutString
import Derived.SizedLaws
import Derived.Stop.Joined
import Derived.Test.YtijmdlhcidjpmaaDoorCards
import Derived.Test.YtijmdlhcidjpmaaDoorRows
import Derived.Test.YtijmdlhcidjpmaaDoorTie
import Derived.WalkKit
namespace Go.Proofs.YtijmdlhcidjpmaaDoor.P
open Go.RowKit Go.Proofs.YtijmdlhcidjpmaaDoorW.PrintWords Go.Proofs.YtijmdlhcidjpmaaDoorW.PrintLast Go.Proofs.YtijmdlhcidjpmaaDoorW.PrintMore
attribute [local go_sem] max2_int min2_int max_two min_two max_three min_three max_four min_four
set_option linter.unusedVariables false
set_option linter.unusedSimpArgs false

/-! ### laws_eqMatrix: function 13 -/
def laws_eqMatrix.f (k : Nat) (a0_0 : Int) (a0_1 : Int) (l0_2 : List (List Int)) (a1_0 : Int) (a1_1 : Int) (l1_2 : List (List Int)) : Option (Bool) := if a0_0 = a1_0 then (if a0_1 = a1_1 then ((laws_eqInt64SS.f k l0_2 l1_2).bind fun t184 => (if t184 = true then (some true) else (some false))) else (some false)) else (some false)
theorem laws_eqMatrix.mono : ∀ a0 a1 a2 a3 a4 a5 k, LeO (laws_eqMatrix.f k a0 a1 a2 a3 a4 a5) (laws_eqMatrix.f (k + 1) a0 a1 a2 a3 a4 a5) := by
  intro a0 a1 a2 a3 a4 a5 k
  unfold laws_eqMatrix.f
  repeat' first
      | (with_reducible exact laws_eqInt64SS.mono _ _ _)
      | (with_reducible exact LeO.refl _)
      | (with_reducible exact LeO.none _)
      | (with_reducible refine LeO.ite ?_ ?_)
      | (with_reducible refine LeO.bind ?_ (fun _ => ?_))
      | exact laws_eqInt64SS.mono _ _ _
      | exact LeO.none _
      | refine LeO.ite ?_ ?_
      | refine LeO.bind ?_ (fun _ => ?_)
set_option maxHeartbeats 8000000 in
set_option maxRecDepth 100000 in
theorem laws_eqMatrix.calls (k : Nat) (a0_0 : Int) (a0_1 : Int) (A0_2 : Option Addr) (c0_2 : Nat) (l0_2 : List (List Int)) (a1_0 : Int) (a1_1 : Int) (A1_2 : Option Addr) (c1_2 : Nat) (l1_2 : List (List Int)) (r : Bool) (w : World) (hr0_2 : Kd.C (Kd.slice 2 (Kd.int .i64)) w A0_2 l0_2.length l0_2) (hc0_2 : l0_2.length ≤ c0_2) (hr1_2 : Kd.C (Kd.slice 2 (Kd.int .i64)) w A1_2 l1_2.length l1_2) (hc1_2 : l1_2.length ≤ c1_2) (h : laws_eqMatrix.f k a0_0 a0_1 l0_2 a1_0 a1_1 l1_2 = some r) :
    Calls Tryd.prog 13 #[.agg #[.int .i64 a0_0, .int .i64 a0_1, .slice A0_2 l0_2.length c0_2], .agg #[.int .i64 a1_0, .int .i64 a1_1, .slice A1_2 l1_2.length c1_2]] w fun e w' => e = .returned (.bool r) ∧ Below w.heap.size w w' := by
  have hu27 := Tryd.underlying27
  have HR0_2 := Aside0.mk hr0_2
  have HC0_2 := Aside0.mk hc0_2
  clear hr0_2 hc0_2
  have HR1_2 := Aside0.mk hr1_2
  have HC1_2 := Aside0.mk hc1_2
  clear hr1_2 hc1_2
  have HB := Aside0.mk (Below.refl w.heap.size w)
  have H : (if a0_0 = a1_0 then (if a0_1 = a1_1 then ((laws_eqInt64SS.f k l0_2 l1_2).bind fun t184 => (if t184 = true then (some true) else (some false))) else (some false)) else (some false)) = some r := h
  clear h
  by_cases c3 : a0_0 = a1_0
  · rw [if_pos c3] at H
    have c3b0 : (a0_0 == a1_0) = true := beq_iff_eq.mpr c3
    have c3b1 : (a0_0 != a1_0) = false := bne_eq_false_iff_eq.mpr c3
    clear c3
    by_cases c4 : a0_1 = a1_1
    · rw [if_pos c4] at H
      have c4b0 : (a0_1 == a1_1) = true := beq_iff_eq.mpr c4
      have c4b1 : (a0_1 != a1_1) = false := bne_eq_false_iff_eq.mpr c4
      clear c4
      replace H := Option.bind_eq_some_iff.mp H
      obtain ⟨t184, A50, H⟩ := H
      replace H : (if t184 = true then (some true) else (some false)) = some r := H
      have A5 := Aside0.mk A50
      clear A50
      by_cases c6 : t184 = true
      · subst c6
        have H1 : (some true) = some r := by rw [if_pos rfl] at H; exact H
        clear H
        have H := H1
        clear H1
        obtain rfl := Option.some.inj H
        go_enter Tryd.func13, Tryd.ntmps13
        go_wp2_with (first | ((with_reducible refine gate_dst (N := 2) rfl ?_); refine box_event ?hg (N := 2) ?hd (cs := #[.int .i64 a0_0, .int .i64 a0_1, .slice A0_2 l0_2.length c0_2]) (t := 27) ?hr ?_; (case hd => rfl); (case hg => rfl); (case hr => first | (go_simp; done) | (go_simp; rfl)); intro gb182 hg w7 hbox hb; have n0_ := Aside0.mk (below_step (by repeat (first | (with_reducible first | exact HB.out | apply below_alloc | apply pw_below_drewN | apply below_drew1) | exact HB.out)) hb); have n1_ := Aside0.mk (hbox); have n2_ := Aside0.mk ((by rw [hg]; exact (below_size (by repeat (first | (with_reducible first | exact HB.out | apply below_alloc | apply pw_below_drewN | apply below_drew1) | exact HB.out))) : w.heap.size ≤ gb182)); have n3_ := Aside0.mk ((by rw [hg]; exact (below_size (by repeat (first | (with_reducible first | exact HB.out | apply below_alloc | apply pw_below_drewN | apply below_drew1) | exact HB.out))) : w.heap.size ≤ gb182)); clear HB; have HB := n0_; have BK182 := n1_; have GW182 := n2_; have GE182 := n3_; clear n0_ n1_ n2_ n3_; clear hb hbox hg) | ((with_reducible refine gate_dst (N := 3) rfl ?_); refine box_event ?hg (N := 3) ?hd (cs := #[.int .i64 a1_0, .int .i64 a1_1, .slice A1_2 l1_2.length c1_2]) (t := 27) ?hr ?_; (case hd => rfl); (case hg => rfl); (case hr => first | (go_simp; done) | (go_simp; rfl)); intro gb183 hg w8 hbox hb; have n0_ := Aside0.mk (blk_below (g := gb182) (o := .cells #[.int .i64 a0_0, .int .i64 a0_1, .slice A0_2 l0_2.length c0_2] 27 (0, 0)) (by (with_reducible repeat (first | refine blk_drewN ?_ _ | refine blk_drew ?_ | refine blk_alloc ?_ _)); exact BK182.out) hb); have n1_ := Aside0.mk (below_step (by repeat (first | (with_reducible first | exact HB.out | apply below_alloc | apply pw_below_drewN | apply below_drew1 | refine below_set ?_ GE182.out) | exact HB.out)) hb); have n2_ := Aside0.mk (hbox); have n3_ := Aside0.mk ((by rw [hg]; exact (below_size (by repeat (first | (with_reducible first | exact HB.out | apply below_alloc | apply pw_below_drewN | apply below_drew1 | refine below_set ?_ GE182.out) | exact HB.out))) : w.heap.size ≤ gb183)); have n4_ := Aside0.mk ((by rw [hg]; exact (below_size (by repeat (first | (with_reducible first | exact HB.out | apply below_alloc | apply pw_below_drewN | apply below_drew1 | refine below_set ?_ GE182.out) | exact HB.out))) : w.heap.size ≤ gb183)); have n5_ := Aside0.mk ((by rw [hg]; exact Nat.ne_of_lt (blk_lt (g := gb182) (o := .cells #[.int .i64 a0_0, .int .i64 a0_1, .slice A0_2 l0_2.length c0_2] 27 (0, 0)) (by (with_reducible repeat (first | refine blk_drewN ?_ _ | refine blk_drew ?_ | refine blk_alloc ?_ _)); exact BK182.out)) : gb182 ≠ gb183)); have n6_ := Aside0.mk ((by rw [hg]; exact Nat.ne_of_gt (blk_lt (g := gb182) (o := .cells #[.int .i64 a0_0, .int .i64 a0_1, .slice A0_2 l0_2.length c0_2] 27 (0, 0)) (by (with_reducible repeat (first | refine blk_drewN ?_ _ | refine blk_drew ?_ | refine blk_alloc ?_ _)); exact BK182.out)) : gb183 ≠ gb182)); clear BK182; clear HB; have BK182 := n0_; have HB := n1_; have BK183 := n2_; have GW183 := n3_; have GE183 := n4_; have NB182_183 := n5_; have NB183_182 := n6_; clear n0_ n1_ n2_ n3_ n4_ n5_ n6_; clear hb hbox hg; have hnb9 := NB182_183.out; have hnc9 := NB183_182.out; have hcz10_0 : w8.cell? ⟨gb182, 0, none⟩ = some (.int .i64 a0_0) := (blk_cell BK182.out 0).trans rfl; have hcz10_1 : w8.cell? ⟨gb182, 1, none⟩ = some (.int .i64 a0_1) := (blk_cell BK182.out 1).trans rfl; have hcz10_2 : w8.cell? ⟨gb182, 2, none⟩ = some (.slice A0_2 l0_2.length c0_2) := (blk_cell BK182.out 2).trans rfl; have hfz10_0 := blk_frozen BK182.out 0; have hfz10_1 := blk_frozen BK182.out 1; have hfz10_2 := blk_frozen BK182.out 2; have hcz11_0 : w8.cell? ⟨gb183, 0, none⟩ = some (.int .i64 a1_0) := (blk_cell BK183.out 0).trans rfl; have hcz11_1 : w8.cell? ⟨gb183, 1, none⟩ = some (.int .i64 a1_1) := (blk_cell BK183.out 1).trans rfl; have hcz11_2 : w8.cell? ⟨gb183, 2, none⟩ = some (.slice A1_2 l1_2.length c1_2) := (blk_cell BK183.out 2).trans rfl; have hfz11_0 := blk_frozen BK183.out 0; have hfz11_1 := blk_frozen BK183.out 1; have hfz11_2 := blk_frozen BK183.out 2) | ((with_reducible refine gate_callee (f := 42) rfl ?_); refine goesL_ (some 19) rfl rfl Tryd.func42 (by kernel_rfl) rfl #[.slice A0_2 l0_2.length c0_2, .slice A1_2 l1_2.length c1_2] rfl (by (try simp only [List.map_toArray, List.map_cons, List.map_nil]); first | done | rfl | (simp only [List.length_drop, List.length_take]; rfl)) ?_; (with_reducible refine (laws_eqInt64SS.calls k _ _ l0_2 _ _ l1_2 true _ ?side1 ?side2 ?side3 ?side4 A5.out).mono ?_); (case side1 => repeat (first | exact (Kd.C_below HR0_2.out HB.out) | (with_reducible refine Kd.C_alloc ?_ _) | (with_reducible refine Kd.C_drewN ?_ _) | (with_reducible refine Kd.C_drew ?_))); (case side2 => exact HC0_2.out); (case side3 => repeat (first | exact (Kd.C_below HR1_2.out HB.out) | (with_reducible refine Kd.C_alloc ?_ _) | (with_reducible refine Kd.C_drewN ?_ _) | (with_reducible refine Kd.C_drew ?_))); (case side4 => exact HC1_2.out); rintro e w' ⟨rfl, ⟨nd, rfl⟩⟩; refine ⟨_, rfl, ?_⟩))
        go_ret
        exact ⟨by first | rfl | (simp [errW_none, errW_some] <;> rfl) | (simp [*, errW_none, errW_some] <;> rfl), by repeat (first | (with_reducible first | exact HB.out | apply below_alloc | apply pw_below_drewN | apply below_drew1 | refine below_set ?_ GE182.out | refine below_set ?_ GE183.out) | exact HB.out)⟩
      · replace c6 := Bool.eq_false_iff.mpr c6
        subst c6
        have H1 : (some false) = some r := by rw [if_neg (show ¬ (false = true) by decide)] at H; exact H
        clear H
        have H := H1
        clear H1
        obtain rfl := Option.some.inj H
        go_enter Tryd.func13, Tryd.ntmps13
        go_wp2_with (first | ((with_reducible refine gate_dst (N := 2) rfl ?_); refine box_event ?hg (N := 2) ?hd (cs := #[.int .i64 a0_0, .int .i64 a0_1, .slice A0_2 l0_2.length c0_2]) (t := 27) ?hr ?_; (case hd => rfl); (case hg => rfl); (case hr => first | (go_simp; done) | (go_simp; rfl)); intro gb182 hg w12 hbox hb; have n0_ := Aside0.mk (below_step (by repeat (first | (with_reducible first | exact HB.out | apply below_alloc | apply pw_below_drewN | apply below_drew1) | exact HB.out)) hb); have n1_ := Aside0.mk (hbox); have n2_ := Aside0.mk ((by rw [hg]; exact (below_size (by repeat (first | (with_reducible first | exact HB.out | apply below_alloc | apply pw_below_drewN | apply below_drew1) | exact HB.out))) : w.heap.size ≤ gb182)); have n3_ := Aside0.mk ((by rw [hg]; exact (below_size (by repeat (first | (with_reducible first | exact HB.out | apply below_alloc | apply pw_below_drewN | apply below_drew1) | exact HB.out))) : w.heap.size ≤ gb182)); clear HB; have HB := n0_; have BK182 := n1_; have GW182 := n2_; have GE182 := n3_; clear n0_ n1_ n2_ n3_; clear hb hbox hg) | ((with_reducible refine gate_dst (N := 3) rfl ?_); refine box_event ?hg (N := 3) ?hd (cs := #[.int .i64 a1_0, .int .i64 a1_1, .slice A1_2 l1_2.length c1_2]) (t := 27) ?hr ?_; (case hd => rfl); (case hg => rfl); (case hr => first | (go_simp; done) | (go_simp; rfl)); intro gb183 hg w13 hbox hb; have n0_ := Aside0.mk (blk_below (g := gb182) (o := .cells #[.int .i64 a0_0, .int .i64 a0_1, .slice A0_2 l0_2.length c0_2] 27 (0, 0)) (by (with_reducible repeat (first | refine blk_drewN ?_ _ | refine blk_drew ?_ | refine blk_alloc ?_ _)); exact BK182.out) hb); have n1_ := Aside0.mk (below_step (by repeat (first | (with_reducible first | exact HB.out | apply below_alloc | apply pw_below_drewN | apply below_drew1 | refine below_set ?_ GE182.out) | exact HB.out)) hb); have n2_ := Aside0.mk (hbox); have n3_ := Aside0.mk ((by rw [hg]; exact (below_size (by repeat (first | (with_reducible first | exact HB.out | apply below_alloc | apply pw_below_drewN | apply below_drew1 | refine below_set ?_ GE182.out) | exact HB.out))) : w.heap.size ≤ gb183)); have n4_ := Aside0.mk ((by rw [hg]; exact (below_size (by repeat (first | (with_reducible first | exact HB.out | apply below_alloc | apply pw_below_drewN | apply below_drew1 | refine below_set ?_ GE182.out) | exact HB.out))) : w.heap.size ≤ gb183)); have n5_ := Aside0.mk ((by rw [hg]; exact Nat.ne_of_lt (blk_lt (g := gb182) (o := .cells #[.int .i64 a0_0, .int .i64 a0_1, .slice A0_2 l0_2.length c0_2] 27 (0, 0)) (by (with_reducible repeat (first | refine blk_drewN ?_ _ | refine blk_drew ?_ | refine blk_alloc ?_ _)); exact BK182.out)) : gb182 ≠ gb183)); have n6_ := Aside0.mk ((by rw [hg]; exact Nat.ne_of_gt (blk_lt (g := gb182) (o := .cells #[.int .i64 a0_0, .int .i64 a0_1, .slice A0_2 l0_2.length c0_2] 27 (0, 0)) (by (with_reducible repeat (first | refine blk_drewN ?_ _ | refine blk_drew ?_ | refine blk_alloc ?_ _)); exact BK182.out)) : gb183 ≠ gb182)); clear BK182; clear HB; have BK182 := n0_; have HB := n1_; have BK183 := n2_; have GW183 := n3_; have GE183 := n4_; have NB182_183 := n5_; have NB183_182 := n6_; clear n0_ n1_ n2_ n3_ n4_ n5_ n6_; clear hb hbox hg; have hnb14 := NB182_183.out; have hnc14 := NB183_182.out; have hcz15_0 : w13.cell? ⟨gb182, 0, none⟩ = some (.int .i64 a0_0) := (blk_cell BK182.out 0).trans rfl; have hcz15_1 : w13.cell? ⟨gb182, 1, none⟩ = some (.int .i64 a0_1) := (blk_cell BK182.out 1).trans rfl; have hcz15_2 : w13.cell? ⟨gb182, 2, none⟩ = some (.slice A0_2 l0_2.length c0_2) := (blk_cell BK182.out 2).trans rfl; have hfz15_0 := blk_frozen BK182.out 0; have hfz15_1 := blk_frozen BK182.out 1; have hfz15_2 := blk_frozen BK182.out 2; have hcz16_0 : w13.cell? ⟨gb183, 0, none⟩ = some (.int .i64 a1_0) := (blk_cell BK183.out 0).trans rfl; have hcz16_1 : w13.cell? ⟨gb183, 1, none⟩ = some (.int .i64 a1_1) := (blk_cell BK183.out 1).trans rfl; have hcz16_2 : w13.cell? ⟨gb183, 2, none⟩ = some (.slice A1_2 l1_2.length c1_2) := (blk_cell BK183.out 2).trans rfl; have hfz16_0 := blk_frozen BK183.out 0; have hfz16_1 := blk_frozen BK183.out 1; have hfz16_2 := blk_frozen BK183.out 2) | ((with_reducible refine gate_callee (f := 42) rfl ?_); refine goesL_ (some 19) rfl rfl Tryd.func42 (by kernel_rfl) rfl #[.slice A0_2 l0_2.length c0_2, .slice A1_2 l1_2.length c1_2] rfl (by (try simp only [List.map_toArray, List.map_cons, List.map_nil]); first | done | rfl | (simp only [List.length_drop, List.length_take]; rfl)) ?_; (with_reducible refine (laws_eqInt64SS.calls k _ _ l0_2 _ _ l1_2 false _ ?side1 ?side2 ?side3 ?side4 A5.out).mono ?_); (case side1 => repeat (first | exact (Kd.C_below HR0_2.out HB.out) | (with_reducible refine Kd.C_alloc ?_ _) | (with_reducible refine Kd.C_drewN ?_ _) | (with_reducible refine Kd.C_drew ?_))); (case side2 => exact HC0_2.out); (case side3 => repeat (first | exact (Kd.C_below HR1_2.out HB.out) | (with_reducible refine Kd.C_alloc ?_ _) | (with_reducible refine Kd.C_drewN ?_ _) | (with_reducible refine Kd.C_drew ?_))); (case side4 => exact HC1_2.out); rintro e w' ⟨rfl, ⟨nd, rfl⟩⟩; refine ⟨_, rfl, ?_⟩))
        go_ret
        exact ⟨by first | rfl | (simp [errW_none, errW_some] <;> rfl) | (simp [*, errW_none, errW_some] <;> rfl), by repeat (first | (with_reducible first | exact HB.out | apply below_alloc | apply pw_below_drewN | apply below_drew1 | refine below_set ?_ GE182.out | refine below_set ?_ GE183.out) | exact HB.out)⟩
    · rw [if_neg c4] at H
      have c4b0 : (a0_1 == a1_1) = false := beq_eq_false_iff_ne.mpr c4
      have c4b1 : (a0_1 != a1_1) = true := bne_iff_ne.mpr c4
      obtain rfl := Option.some.inj H
      go_enter Tryd.func13, Tryd.ntmps13
      go_wp2_with (first | ((with_reducible refine gate_dst (N := 2) rfl ?_); refine box_event ?hg (N := 2) ?hd (cs := #[.int .i64 a0_0, .int .i64 a0_1, .slice A0_2 l0_2.length c0_2]) (t := 27) ?hr ?_; (case hd => rfl); (case hg => rfl); (case hr => first | (go_simp; done) | (go_simp; rfl)); intro gb182 hg w17 hbox hb; have n0_ := Aside0.mk (below_step (by repeat (first | (with_reducible first | exact HB.out | apply below_alloc | apply pw_below_drewN | apply below_drew1) | exact HB.out)) hb); have n1_ := Aside0.mk (hbox); have n2_ := Aside0.mk ((by rw [hg]; exact (below_size (by repeat (first | (with_reducible first | exact HB.out | apply below_alloc | apply pw_below_drewN | apply below_drew1) | exact HB.out))) : w.heap.size ≤ gb182)); have n3_ := Aside0.mk ((by rw [hg]; exact (below_size (by repeat (first | (with_reducible first | exact HB.out | apply below_alloc | apply pw_below_drewN | apply below_drew1) | exact HB.out))) : w.heap.size ≤ gb182)); clear HB; have HB := n0_; have BK182 := n1_; have GW182 := n2_; have GE182 := n3_; clear n0_ n1_ n2_ n3_; clear hb hbox hg) | ((with_reducible refine gate_dst (N := 3) rfl ?_); refine box_event ?hg (N := 3) ?hd (cs := #[.int .i64 a1_0, .int .i64 a1_1, .slice A1_2 l1_2.length c1_2]) (t := 27) ?hr ?_; (case hd => rfl); (case hg => rfl); (case hr => first | (go_simp; done) | (go_simp; rfl)); intro gb183 hg w18 hbox hb; have n0_ := Aside0.mk (blk_below (g := gb182) (o := .cells #[.int .i64 a0_0, .int .i64 a0_1, .slice A0_2 l0_2.length c0_2] 27 (0, 0)) (by (with_reducible repeat (first | refine blk_drewN ?_ _ | refine blk_drew ?_ | refine blk_alloc ?_ _)); exact BK182.out) hb); have n1_ := Aside0.mk (below_step (by repeat (first | (with_reducible first | exact HB.out | apply below_alloc | apply pw_below_drewN | apply below_drew1 | refine below_set ?_ GE182.out) | exact HB.out)) hb); have n2_ := Aside0.mk (hbox); have n3_ := Aside0.mk ((by rw [hg]; exact (below_size (by repeat (first | (with_reducible first | exact HB.out | apply below_alloc | apply pw_below_drewN | apply below_drew1 | refine below_set ?_ GE182.out) | exact HB.out))) : w.heap.size ≤ gb183)); have n4_ := Aside0.mk ((by rw [hg]; exact (below_size (by repeat (first | (with_reducible first | exact HB.out | apply below_alloc | apply pw_below_drewN | apply below_drew1 | refine below_set ?_ GE182.out) | exact HB.out))) : w.heap.size ≤ gb183)); have n5_ := Aside0.mk ((by rw [hg]; exact Nat.ne_of_lt (blk_lt (g := gb182) (o := .cells #[.int .i64 a0_0, .int .i64 a0_1, .slice A0_2 l0_2.length c0_2] 27 (0, 0)) (by (with_reducible repeat (first | refine blk_drewN ?_ _ | refine blk_drew ?_ | refine blk_alloc ?_ _)); exact BK182.out)) : gb182 ≠ gb183)); have n6_ := Aside0.mk ((by rw [hg]; exact Nat.ne_of_gt (blk_lt (g := gb182) (o := .cells #[.int .i64 a0_0, .int .i64 a0_1, .slice A0_2 l0_2.length c0_2] 27 (0, 0)) (by (with_reducible repeat (first | refine blk_drewN ?_ _ | refine blk_drew ?_ | refine blk_alloc ?_ _)); exact BK182.out)) : gb183 ≠ gb182)); clear BK182; clear HB; have BK182 := n0_; have HB := n1_; have BK183 := n2_; have GW183 := n3_; have GE183 := n4_; have NB182_183 := n5_; have NB183_182 := n6_; clear n0_ n1_ n2_ n3_ n4_ n5_ n6_; clear hb hbox hg; have hnb19 := NB182_183.out; have hnc19 := NB183_182.out; have hcz20_0 : w18.cell? ⟨gb182, 0, none⟩ = some (.int .i64 a0_0) := (blk_cell BK182.out 0).trans rfl; have hcz20_1 : w18.cell? ⟨gb182, 1, none⟩ = some (.int .i64 a0_1) := (blk_cell BK182.out 1).trans rfl; have hcz20_2 : w18.cell? ⟨gb182, 2, none⟩ = some (.slice A0_2 l0_2.length c0_2) := (blk_cell BK182.out 2).trans rfl; have hfz20_0 := blk_frozen BK182.out 0; have hfz20_1 := blk_frozen BK182.out 1; have hfz20_2 := blk_frozen BK182.out 2; have hcz21_0 : w18.cell? ⟨gb183, 0, none⟩ = some (.int .i64 a1_0) := (blk_cell BK183.out 0).trans rfl; have hcz21_1 : w18.cell? ⟨gb183, 1, none⟩ = some (.int .i64 a1_1) := (blk_cell BK183.out 1).trans rfl; have hcz21_2 : w18.cell? ⟨gb183, 2, none⟩ = some (.slice A1_2 l1_2.length c1_2) := (blk_cell BK183.out 2).trans rfl; have hfz21_0 := blk_frozen BK183.out 0; have hfz21_1 := blk_frozen BK183.out 1; have hfz21_2 := blk_frozen BK183.out 2))
      go_ret
      exact ⟨by first | rfl | (simp [errW_none, errW_some] <;> rfl) | (simp [*, errW_none, errW_some] <;> rfl), by repeat (first | (with_reducible first | exact HB.out | apply below_alloc | apply pw_below_drewN | apply below_drew1 | refine below_set ?_ GE182.out | refine below_set ?_ GE183.out) | exact HB.out)⟩
  · rw [if_neg c3] at H
    have c3b0 : (a0_0 == a1_0) = false := beq_eq_false_iff_ne.mpr c3
    have c3b1 : (a0_0 != a1_0) = true := bne_iff_ne.mpr c3
    obtain rfl := Option.some.inj H
    go_enter Tryd.func13, Tryd.ntmps13
    go_wp2_with (first | ((with_reducible refine gate_dst (N := 2) rfl ?_); refine box_event ?hg (N := 2) ?hd (cs := #[.int .i64 a0_0, .int .i64 a0_1, .slice A0_2 l0_2.length c0_2]) (t := 27) ?hr ?_; (case hd => rfl); (case hg => rfl); (case hr => first | (go_simp; done) | (go_simp; rfl)); intro gb182 hg w22 hbox hb; have n0_ := Aside0.mk (below_step (by repeat (first | (with_reducible first | exact HB.out | apply below_alloc | apply pw_below_drewN | apply below_drew1) | exact HB.out)) hb); have n1_ := Aside0.mk (hbox); have n2_ := Aside0.mk ((by rw [hg]; exact (below_size (by repeat (first | (with_reducible first | exact HB.out | apply below_alloc | apply pw_below_drewN | apply below_drew1) | exact HB.out))) : w.heap.size ≤ gb182)); have n3_ := Aside0.mk ((by rw [hg]; exact (below_size (by repeat (first | (with_reducible first | exact HB.out | apply below_alloc | apply pw_below_drewN | apply below_drew1) | exact HB.out))) : w.heap.size ≤ gb182)); clear HB; have HB := n0_; have BK182 := n1_; have GW182 := n2_; have GE182 := n3_; clear n0_ n1_ n2_ n3_; clear hb hbox hg) | ((with_reducible refine gate_dst (N := 3) rfl ?_); refine box_event ?hg (N := 3) ?hd (cs := #[.int .i64 a1_0, .int .i64 a1_1, .slice A1_2 l1_2.length c1_2]) (t := 27) ?hr ?_; (case hd => rfl); (case hg => rfl); (case hr => first | (go_simp; done) | (go_simp; rfl)); intro gb183 hg w23 hbox hb; have n0_ := Aside0.mk (blk_below (g := gb182) (o := .cells #[.int .i64 a0_0, .int .i64 a0_1, .slice A0_2 l0_2.length c0_2] 27 (0, 0)) (by (with_reducible repeat (first | refine blk_drewN ?_ _ | refine blk_drew ?_ | refine blk_alloc ?_ _)); exact BK182.out) hb); have n1_ := Aside0.mk (below_step (by repeat (first | (with_reducible first | exact HB.out | apply below_alloc | apply pw_below_drewN | apply below_drew1 | refine below_set ?_ GE182.out) | exact HB.out)) hb); have n2_ := Aside0.mk (hbox); have n3_ := Aside0.mk ((by rw [hg]; exact (below_size (by repeat (first | (with_reducible first | exact HB.out | apply below_alloc | apply pw_below_drewN | apply below_drew1 | refine below_set ?_ GE182.out) | exact HB.out))) : w.heap.size ≤ gb183)); have n4_ := Aside0.mk ((by rw [hg]; exact (below_size (by repeat (first | (with_reducible first | exact HB.out | apply below_alloc | apply pw_below_drewN | apply below_drew1 | refine below_set ?_ GE182.out) | exact HB.out))) : w.heap.size ≤ gb183)); have n5_ := Aside0.mk ((by rw [hg]; exact Nat.ne_of_lt (blk_lt (g := gb182) (o := .cells #[.int .i64 a0_0, .int .i64 a0_1, .slice A0_2 l0_2.length c0_2] 27 (0, 0)) (by (with_reducible repeat (first | refine blk_drewN ?_ _ | refine blk_drew ?_ | refine blk_alloc ?_ _)); exact BK182.out)) : gb182 ≠ gb183)); have n6_ := Aside0.mk ((by rw [hg]; exact Nat.ne_of_gt (blk_lt (g := gb182) (o := .cells #[.int .i64 a0_0, .int .i64 a0_1, .slice A0_2 l0_2.length c0_2] 27 (0, 0)) (by (with_reducible repeat (first | refine blk_drewN ?_ _ | refine blk_drew ?_ | refine blk_alloc ?_ _)); exact BK182.out)) : gb183 ≠ gb182)); clear BK182; clear HB; have BK182 := n0_; have HB := n1_; have BK183 := n2_; have GW183 := n3_; have GE183 := n4_; have NB182_183 := n5_; have NB183_182 := n6_; clear n0_ n1_ n2_ n3_ n4_ n5_ n6_; clear hb hbox hg; have hnb24 := NB182_183.out; have hnc24 := NB183_182.out; have hcz25_0 : w23.cell? ⟨gb182, 0, none⟩ = some (.int .i64 a0_0) := (blk_cell BK182.out 0).trans rfl; have hcz25_1 : w23.cell? ⟨gb182, 1, none⟩ = some (.int .i64 a0_1) := (blk_cell BK182.out 1).trans rfl; have hcz25_2 : w23.cell? ⟨gb182, 2, none⟩ = some (.slice A0_2 l0_2.length c0_2) := (blk_cell BK182.out 2).trans rfl; have hfz25_0 := blk_frozen BK182.out 0; have hfz25_1 := blk_frozen BK182.out 1; have hfz25_2 := blk_frozen BK182.out 2; have hcz26_0 : w23.cell? ⟨gb183, 0, none⟩ = some (.int .i64 a1_0) := (blk_cell BK183.out 0).trans rfl; have hcz26_1 : w23.cell? ⟨gb183, 1, none⟩ = some (.int .i64 a1_1) := (blk_cell BK183.out 1).trans rfl; have hcz26_2 : w23.cell? ⟨gb183, 2, none⟩ = some (.slice A1_2 l1_2.length c1_2) := (blk_cell BK183.out 2).trans rfl; have hfz26_0 := blk_frozen BK183.out 0; have hfz26_1 := blk_frozen BK183.out 1; have hfz26_2 := blk_frozen BK183.out 2))
    go_ret
    exact ⟨by first | rfl | (simp [errW_none, errW_some] <;> rfl) | (simp [*, errW_none, errW_some] <;> rfl), by repeat (first | (with_reducible first | exact HB.out | apply below_alloc | apply pw_below_drewN | apply below_drew1 | refine below_set ?_ GE182.out | refine below_set ?_ GE183.out) | exact HB.out)⟩

end Go.Proofs.YtijmdlhcidjpmaaDoor.P

namespace Go.Proofs.YtijmdlhcidjpmaaDoor.P
open Go.RowKit Go.Proofs.YtijmdlhcidjpmaaDoorW.PrintWords Go.Proofs.YtijmdlhcidjpmaaDoorW.PrintLast Go.Proofs.YtijmdlhcidjpmaaDoorW.PrintMore
attribute [local go_sem] max2_int min2_int max_two min_two max_three min_three max_four min_four
set_option linter.unusedVariables false
set_option linter.unusedSimpArgs false

/-! ### laws_szMatrix: function 9 -/
def laws_szMatrix.f (k : Nat) (a0_0 : Int) (a0_1 : Int) (l0_2 : List (List Int)) (a1 : Int) : Option (Int) := (laws_szInt64SS.f k l0_2 a1).bind fun t104 => (if t104 < 0 then (some (-1)) else (some t104))
theorem laws_szMatrix.mono : ∀ a0 a1 a2 a3 k, LeO (laws_szMatrix.f k a0 a1 a2 a3) (laws_szMatrix.f (k + 1) a0 a1 a2 a3) := by
  intro a0 a1 a2 a3 k
  unfold laws_szMatrix.f
  repeat' first
      | (with_reducible exact laws_szInt64SS.mono _ _ _)
      | (with_reducible exact LeO.refl _)
      | (with_reducible exact LeO.none _)
      | (with_reducible refine LeO.ite ?_ ?_)
      | (with_reducible refine LeO.bind ?_ (fun _ => ?_))
      | exact laws_szInt64SS.mono _ _ _
      | exact LeO.none _
      | refine LeO.ite ?_ ?_
      | refine LeO.bind ?_ (fun _ => ?_)
set_option maxHeartbeats 8000000 in
set_option maxRecDepth 100000 in
theorem laws_szMatrix.calls (k : Nat) (a0_0 : Int) (a0_1 : Int) (A0_2 : Option Addr) (c0_2 : Nat) (l0_2 : List (List Int)) (a1 : Int) (r : Int) (w : World) (hr0_2 : Kd.C (Kd.slice 2 (Kd.int .i64)) w A0_2 l0_2.length l0_2) (hc0_2 : l0_2.length ≤ c0_2) (h : laws_szMatrix.f k a0_0 a0_1 l0_2 a1 = some r) :
    Calls Tryd.prog 9 #[.agg #[.int .i64 a0_0, .int .i64 a0_1, .slice A0_2 l0_2.length c0_2], .int .i64 a1] w fun e w' => e = .returned (.int .i64 r) ∧ Below w.heap.size w w' := by
  have hu24 := Tryd.underlying24
  have HR0_2 := Aside0.mk hr0_2
  have HC0_2 := Aside0.mk hc0_2
  clear hr0_2 hc0_2
  have HB := Aside0.mk (Below.refl w.heap.size w)
  have H : ((laws_szInt64SS.f k l0_2 a1).bind fun t104 => (if t104 < 0 then (some (-1)) else (some t104))) = some r := h
  clear h
  replace H := Option.bind_eq_some_iff.mp H
  obtain ⟨t104, A30, H⟩ := H
  replace H : (if t104 < 0 then (some (-1)) else (some t104)) = some r := H
  have A3 := Aside0.mk A30
  clear A30
  by_cases c4 : t104 < 0
  · rw [if_pos c4] at H
    have c4b0 : decide (t104 < 0) = true := decide_eq_true c4
    clear c4
    obtain rfl := Option.some.inj H
    go_enter Tryd.func9, Tryd.ntmps9
    go_wp2_with (first | ((with_reducible refine gate_dst (N := 2) rfl ?_); refine box_event ?hg (N := 2) ?hd (cs := #[.int .i64 a0_0, .int .i64 a0_1, .slice A0_2 l0_2.length c0_2]) (t := 24) ?hr ?_; (case hd => rfl); (case hg => rfl); (case hr => first | (go_simp; done) | (go_simp; rfl)); intro gb103 hg w5 hbox hb; have n0_ := Aside0.mk (below_step (by repeat (first | (with_reducible first | exact HB.out | apply below_alloc | apply pw_below_drewN | apply below_drew1) | exact HB.out)) hb); have n1_ := Aside0.mk (hbox); have n2_ := Aside0.mk ((by rw [hg]; exact (below_size (by repeat (first | (with_reducible first | exact HB.out | apply below_alloc | apply pw_below_drewN | apply below_drew1) | exact HB.out))) : w.heap.size ≤ gb103)); have n3_ := Aside0.mk ((by rw [hg]; exact (below_size (by repeat (first | (with_reducible first | exact HB.out | apply below_alloc | apply pw_below_drewN | apply below_drew1) | exact HB.out))) : w.heap.size ≤ gb103)); clear HB; have HB := n0_; have BK103 := n1_; have GW103 := n2_; have GE103 := n3_; clear n0_ n1_ n2_ n3_; clear hb hbox hg; have hcz6_0 : w5.cell? ⟨gb103, 0, none⟩ = some (.int .i64 a0_0) := (blk_cell BK103.out 0).trans rfl; have hcz6_1 : w5.cell? ⟨gb103, 1, none⟩ = some (.int .i64 a0_1) := (blk_cell BK103.out 1).trans rfl; have hcz6_2 : w5.cell? ⟨gb103, 2, none⟩ = some (.slice A0_2 l0_2.length c0_2) := (blk_cell BK103.out 2).trans rfl; have hfz6_0 := blk_frozen BK103.out 0; have hfz6_1 := blk_frozen BK103.out 1; have hfz6_2 := blk_frozen BK103.out 2) | ((with_reducible refine gate_callee (f := 36) rfl ?_); refine goesL_ (some 8) rfl rfl Tryd.func36 (by kernel_rfl) rfl #[.slice A0_2 l0_2.length c0_2, .int .i64 a1] rfl (by (try simp only [List.map_toArray, List.map_cons, List.map_nil]); first | done | rfl | (simp only [List.length_drop, List.length_take]; rfl)) ?_; (with_reducible refine (laws_szInt64SS.calls k _ _ l0_2 a1 t104 _ ?side1 ?side2 A3.out).mono ?_); (case side1 => repeat (first | exact (Kd.C_below HR0_2.out HB.out) | (with_reducible refine Kd.C_alloc ?_ _) | (with_reducible refine Kd.C_drewN ?_ _) | (with_reducible refine Kd.C_drew ?_))); (case side2 => exact HC0_2.out); rintro e w' ⟨rfl, ⟨nd, rfl⟩⟩; refine ⟨_, rfl, ?_⟩))
    go_ret
    exact ⟨by first | rfl | (simp [errW_none, errW_some] <;> rfl) | (simp [*, errW_none, errW_some] <;> rfl), by repeat (first | (with_reducible first | exact HB.out | apply below_alloc | apply pw_below_drewN | apply below_drew1 | refine below_set ?_ GE103.out) | exact HB.out)⟩
  · rw [if_neg c4] at H
    have c4b0 : decide (t104 < 0) = false := decide_eq_false c4
    clear c4
    obtain rfl := Option.some.inj H
    go_enter Tryd.func9, Tryd.ntmps9
    go_wp2_with (first | ((with_reducible refine gate_dst (N := 2) rfl ?_); refine box_event ?hg (N := 2) ?hd (cs := #[.int .i64 a0_0, .int .i64 a0_1, .slice A0_2 l0_2.length c0_2]) (t := 24) ?hr ?_; (case hd => rfl); (case hg => rfl); (case hr => first | (go_simp; done) | (go_simp; rfl)); intro gb103 hg w7 hbox hb; have n0_ := Aside0.mk (below_step (by repeat (first | (with_reducible first | exact HB.out | apply below_alloc | apply pw_below_drewN | apply below_drew1) | exact HB.out)) hb); have n1_ := Aside0.mk (hbox); have n2_ := Aside0.mk ((by rw [hg]; exact (below_size (by repeat (first | (with_reducible first | exact HB.out | apply below_alloc | apply pw_below_drewN | apply below_drew1) | exact HB.out))) : w.heap.size ≤ gb103)); have n3_ := Aside0.mk ((by rw [hg]; exact (below_size (by repeat (first | (with_reducible first | exact HB.out | apply below_alloc | apply pw_below_drewN | apply below_drew1) | exact HB.out))) : w.heap.size ≤ gb103)); clear HB; have HB := n0_; have BK103 := n1_; have GW103 := n2_; have GE103 := n3_; clear n0_ n1_ n2_ n3_; clear hb hbox hg; have hcz8_0 : w7.cell? ⟨gb103, 0, none⟩ = some (.int .i64 a0_0) := (blk_cell BK103.out 0).trans rfl; have hcz8_1 : w7.cell? ⟨gb103, 1, none⟩ = some (.int .i64 a0_1) := (blk_cell BK103.out 1).trans rfl; have hcz8_2 : w7.cell? ⟨gb103, 2, none⟩ = some (.slice A0_2 l0_2.length c0_2) := (blk_cell BK103.out 2).trans rfl; have hfz8_0 := blk_frozen BK103.out 0; have hfz8_1 := blk_frozen BK103.out 1; have hfz8_2 := blk_frozen BK103.out 2) | ((with_reducible refine gate_callee (f := 36) rfl ?_); refine goesL_ (some 8) rfl rfl Tryd.func36 (by kernel_rfl) rfl #[.slice A0_2 l0_2.length c0_2, .int .i64 a1] rfl (by (try simp only [List.map_toArray, List.map_cons, List.map_nil]); first | done | rfl | (simp only [List.length_drop, List.length_take]; rfl)) ?_; (with_reducible refine (laws_szInt64SS.calls k _ _ l0_2 a1 t104 _ ?side1 ?side2 A3.out).mono ?_); (case side1 => repeat (first | exact (Kd.C_below HR0_2.out HB.out) | (with_reducible refine Kd.C_alloc ?_ _) | (with_reducible refine Kd.C_drewN ?_ _) | (with_reducible refine Kd.C_drew ?_))); (case side2 => exact HC0_2.out); rintro e w' ⟨rfl, ⟨nd, rfl⟩⟩; refine ⟨_, rfl, ?_⟩))
    go_ret
    exact ⟨by first | rfl | (simp [errW_none, errW_some] <;> rfl) | (simp [*, errW_none, errW_some] <;> rfl), by repeat (first | (with_reducible first | exact HB.out | apply below_alloc | apply pw_below_drewN | apply below_drew1 | refine below_set ?_ GE103.out) | exact HB.out)⟩

end Go.Proofs.YtijmdlhcidjpmaaDoor.P

namespace Go.Proofs.YtijmdlhcidjpmaaDoor.P
open Go.RowKit Go.Proofs.YtijmdlhcidjpmaaDoorW.PrintWords Go.Proofs.YtijmdlhcidjpmaaDoorW.PrintLast Go.Proofs.YtijmdlhcidjpmaaDoorW.PrintMore
attribute [local go_sem] max2_int min2_int max_two min_two max_three min_three max_four min_four
set_option linter.unusedVariables false
set_option linter.unusedSimpArgs false

/-- A loop that goes on while q says yes, and ends with stop where it says no. -/
theorem scan_ev {ρ : Type} {l : Nat → Int → Option ρ} {n : Nat} {q : Nat → Bool} {fin stop : ρ}
    (hgo : ∀ i : Nat, i < n → q i = true → ∀ r, Ev (fun k => l k ((i + 1 : Nat) : Int)) r → Ev (fun k => l k (i : Int)) r)
    (hstop : ∀ i : Nat, i < n → q i = false → Ev (fun k => l k (i : Int)) stop)
    (hend : Ev (fun k => l k (n : Int)) fin) : Ev (fun k => l k 0) (if (List.range n).all q then fin else stop) := by
  have key : ∀ d i : Nat, i + d = n → Ev (fun k => l k (i : Int)) (if ((List.range n).drop i).all q then fin else stop) := by
    intro d
    induction d with
    | zero =>
      intro i hi
      obtain rfl : i = n := by omega
      rw [List.drop_eq_nil_of_le (by simp)]
      exact hend
    | succ d ih =>
      intro i hi
      rw [List.drop_eq_getElem_cons (by simp; omega), List.getElem_range, List.all_cons]
      cases hq : q i with
      | false => exact hstop i (by omega) hq
      | true => rw [Bool.true_and]; exact hgo i (by omega) hq _ (ih (i + 1) (by omega))
  have := key n 0 (by omega)
  rw [List.drop_zero] at this
  exact this
theorem range_all {α : Type} (xs : List α) (p : α → Bool) (q : Nat → Bool) (h : ∀ (i : Nat) (hi : i < xs.length), q i = p xs[i]) : (List.range xs.length).all q = xs.all p := by
  rw [Bool.eq_iff_iff, List.all_eq_true, List.all_eq_true]
  constructor
  · intro hq x hx
    obtain ⟨i, hi, rfl⟩ := List.getElem_of_mem hx
    rw [← h i hi]
    exact hq i (by simpa using hi)
  · intro hp i hi
    have hi' : i < xs.length := by simpa using hi
    rw [h i hi']
    exact hp _ (List.getElem_mem hi')
theorem rdL_nat (xs : List (List Int)) (i : Nat) (h : i < xs.length) : rd_L1 xs (i : Int) = xs[i] := by
  simp [rd_L1, h]
/-- How many values a list of lists holds, the lists themselves counted. -/
def bulk (rows : List (List Int)) : Nat := rows.length + (rows.map List.length).sum
theorem sum_take_le (l : List Nat) (i : Nat) : (l.take i).sum ≤ l.sum := by
  conv => rhs; rw [← List.take_append_drop i l, List.sum_append]
  omega
theorem sum_take_succ (l : List Nat) (i : Nat) (h : i < l.length) : (l.take (i + 1)).sum = (l.take i).sum + l[i] := by
  rw [List.take_succ_eq_append_getElem h, List.sum_append]; simp
theorem sum_mem_le (l : List Nat) (x : Nat) (h : x ∈ l) : x ≤ l.sum := by
  obtain ⟨i, hi, rfl⟩ := List.getElem_of_mem h
  have := sum_take_succ l i hi
  have := sum_take_le l (i + 1)
  omega
theorem szInt64S_eq (l : List Int) (a : Int) (ha : 0 ≤ a ∧ a ≤ 1048576) (hl : l.length ≤ 9223372036854775807) : laws_szInt64S.f l a = some (if (l.length : Int) ≤ a then a - l.length else -1) := by
  unfold laws_szInt64S.f
  rw [wr (by omega) (by omega)]
  by_cases h : (l.length : Int) ≤ a
  · rw [if_neg (by omega), if_pos h]
  · rw [if_pos (by omega), if_neg h]
theorem szInt64SS_ev (rows : List (List Int)) (a : Int) (ha : 0 ≤ a ∧ a ≤ 1048576) (hl : rows.length ≤ 9223372036854775807) (hr : ∀ r ∈ rows, r.length ≤ 9223372036854775807) :
    Ev (fun k => laws_szInt64SS.f k rows a) (if (bulk rows : Int) ≤ a then a - bulk rows else -1) := by
  unfold laws_szInt64SS.f
  rw [wr (by omega) (by omega)]
  by_cases h0 : a - (rows.length : Int) < 0
  · simp only [if_pos h0]
    rw [if_neg (by unfold bulk; omega)]
    exact Ev.now _
  · simp only [if_neg h0]
    have key : ∀ d i : Nat, i + d = rows.length → ∀ b : Int, 0 ≤ b → b = a - rows.length - ((rows.map List.length).take i).sum → Ev (fun k => laws_szInt64SS.l0 k rows b (i : Int)) (if (bulk rows : Int) ≤ a then a - bulk rows else -1) := by
      intro d
      induction d with
      | zero =>
        intro i hi b hb hbe
        rw [List.take_of_length_le (by simp; omega)] at hbe
        rw [if_pos (by unfold bulk; omega), show a - ((bulk rows : Nat) : Int) = b from by unfold bulk; omega]
        refine Ev.step (f := fun _ => some b) (fun k => ?_) (Ev.now _)
        simp only [laws_szInt64SS.l0]
        rw [if_neg (by omega)]
      | succ d ih =>
        intro i hi b hb hbe
        have hlt : i < rows.length := by omega
        have hs := sum_take_succ (rows.map List.length) i (by simpa using hlt)
        rw [List.getElem_map] at hs
        have hs2 := sum_take_le (rows.map List.length) (i + 1)
        have hri := hr _ (List.getElem_mem hlt)
        by_cases hc : ((rows[i]).length : Int) ≤ b
        · refine Ev.step (fun k => ?_) (ih (i + 1) (by omega) (b - (rows[i]).length) (by omega) (by omega))
          simp only [laws_szInt64SS.l0]
          rw [if_pos (by omega), if_pos (by omega), rdL_nat rows i hlt, szInt64S_eq _ _ (by omega) hri, if_pos hc, wr (x := (i : Int) + 1) (by omega) (by omega)]
          simp only [Option.bind_some]
          rw [if_neg (by omega)]
          rfl
        · refine Ev.step (f := fun _ => some (-1)) (fun k => ?_) ?_
          · simp only [laws_szInt64SS.l0]
            rw [if_pos (by omega), if_pos (by omega), rdL_nat rows i hlt, szInt64S_eq _ _ (by omega) hri, if_neg hc]
            rfl
          · rw [if_neg (by unfold bulk; omega)]
            exact Ev.now _
    exact key rows.length 0 (by omega) _ (by omega) (by simp)
theorem bulk_len {rows : List (List Int)} {n : Nat} (h : bulk rows ≤ n) : rows.length ≤ n ∧ ∀ r ∈ rows, r.length ≤ n := by
  unfold bulk at h
  refine ⟨by omega, fun r hr => ?_⟩
  have := sum_mem_le (rows.map List.length) r.length (List.mem_map_of_mem hr)
  omega
theorem toInt64SS_ev (l : List (List Int)) (hl : l.length ≤ 1048576) (hr : ∀ r ∈ l, r.length ≤ 1048576) : Ev (fun k => laws_toInt64SS.f k l) l := by
  unfold laws_toInt64SS.f
  simp only [if_pos (show (0 : Int) ≤ (l.length : Int) by omega), if_pos (show ((l.length : Int)).toNat ≤ 11728124029610 by omega)]
  have go : ∀ (d i : Nat), i + d = l.length → Ev (fun k => laws_toInt64SS.l0 k l (l.take i ++ List.replicate d []) (i : Int)) l := by
    intro d
    induction d with
    | zero =>
      intro i hi
      refine Ev.step (f := fun _ => some l) (fun k => ?_) (Ev.now _)
      simp only [laws_toInt64SS.l0]
      rw [if_neg (by omega)]
      simp [List.take_of_length_le (show l.length ≤ i by omega)]
    | succ d ih =>
      intro i hi
      have hlt : i < l.length := by omega
      refine Ev.step (f := fun k => (laws_toInt64S.f k l[i]).bind fun t => laws_toInt64SS.l0 k l ((l.take i ++ List.replicate (d + 1) []).set i t) ((i + 1 : Nat) : Int)) (fun k => ?_) ?_
      · simp only [laws_toInt64SS.l0]
        rw [if_pos (by omega), if_pos (by omega), rdL_nat l i hlt, wr (by omega) (by omega)]
        simp only [if_pos (show (i : Int) < ((l.take i ++ List.replicate (d + 1) ([] : List Int)).length : Int) by simp; omega), Int.toNat_natCast]
        rfl
      · refine Ev.bind (toInt64S_ev _ (hr _ (List.getElem_mem hlt))) ?_
        have e0 : (l.take i).length = i := by rw [List.length_take]; omega
        have e : (l.take i ++ List.replicate (d + 1) []).set i l[i] = l.take (i + 1) ++ List.replicate d [] := by
          rw [List.set_append_right _ _ (by omega), e0, Nat.sub_self, List.replicate_succ, List.set_cons_zero, List.take_succ_eq_append_getElem hlt, List.append_assoc]
          rfl
        rw [e]
        exact ih (i + 1) (by omega)
  have := go l.length 0 (by omega)
  rw [List.take_zero, List.nil_append] at this
  rw [Int.toNat_natCast]
  exact this
theorem eqInt64SS_ev (a b : List (List Int)) (hl : a.length ≤ 1048576) (hr : ∀ r ∈ a, r.length ≤ 1048576) : Ev (fun k => laws_eqInt64SS.f k a b) (decide (a = b)) := by
  unfold laws_eqInt64SS.f
  by_cases h : a.length = b.length
  · simp only [if_pos (show (a.length : Int) = (b.length : Int) by omega)]
    have key : ∀ (d i : Nat), i + d = a.length → Ev (fun k => laws_eqInt64SS.l0 k a b (i : Int)) (decide (a.drop i = b.drop i)) := by
      intro d
      induction d with
      | zero =>
        intro i hi
        refine Ev.step (f := fun _ => some true) (fun k => ?_) ?_
        · simp only [laws_eqInt64SS.l0]
          rw [if_neg (by omega)]
        · rw [List.drop_eq_nil_of_le (by omega), List.drop_eq_nil_of_le (by omega), decide_eq_true rfl]
          exact Ev.now _
      | succ d ih =>
        intro i hi
        have h1 : i < a.length := by omega
        have h2 : i < b.length := by omega
        have ed : (a.drop i = b.drop i) ↔ (a[i] = b[i] ∧ a.drop (i + 1) = b.drop (i + 1)) := by
          rw [List.drop_eq_getElem_cons h1, List.drop_eq_getElem_cons h2, List.cons.injEq]
        refine Ev.step (f := fun k => (laws_eqInt64S.f k a[i] b[i]).bind fun t => if t = true then laws_eqInt64SS.l0 k a b ((i + 1 : Nat) : Int) else some false) (fun k => ?_) ?_
        · simp only [laws_eqInt64SS.l0]
          rw [if_pos (by omega), if_pos (by omega), if_pos (by omega), rdL_nat a i h1, rdL_nat b i h2, wr (by omega) (by omega)]
          rfl
        · refine Ev.bind (eqInt64S_ev _ _ (hr _ (List.getElem_mem h1))) ?_
          by_cases e : a[i] = b[i]
          · rw [decide_eq_true e, show decide (a.drop i = b.drop i) = decide (a.drop (i + 1) = b.drop (i + 1)) from by simp only [ed, e, true_and]]
            exact ih (i + 1) (by omega)
          · rw [decide_eq_false e, decide_eq_false (by rw [ed]; simp [e])]
            exact Ev.now _
    have := key a.length 0 (by omega)
    rw [List.drop_zero, List.drop_zero] at this
    exact this
  · simp only [if_neg (show ¬ (a.length : Int) = (b.length : Int) by omega)]
    rw [decide_eq_false (by intro e; exact h (by rw [e]))]
    exact Ev.now _
theorem eqInt64SS_same (a : List (List Int)) (hl : a.length ≤ 1048576) (hr : ∀ r ∈ a, r.length ≤ 1048576) : Ev (fun k => laws_eqInt64SS.f k a a) true := by
  have := eqInt64SS_ev a a hl hr
  rwa [decide_eq_true rfl] at this
theorem szMatrix_ev (p c : Int) (rows : List (List Int)) (a : Int) (ha : 0 ≤ a ∧ a ≤ 1048576) (hl : rows.length ≤ 9223372036854775807) (hr : ∀ r ∈ rows, r.length ≤ 9223372036854775807) :
    Ev (fun k => laws_szMatrix.f k p c rows a) (if (bulk rows : Int) ≤ a then a - bulk rows else -1) := by
  unfold laws_szMatrix.f
  refine Ev.bind (szInt64SS_ev rows a ha hl hr) ?_
  by_cases h : (bulk rows : Int) ≤ a
  · simp only [if_pos h, if_neg (show ¬ (a - (bulk rows : Int) < 0) by omega)]
    exact Ev.now _
  · simp only [if_neg h]
    exact Ev.now _
theorem toMatrix_ev (p c : Int) (l : List (List Int)) (hl : l.length ≤ 1048576) (hr : ∀ r ∈ l, r.length ≤ 1048576) : Ev (fun k => laws_toMatrix.f k p c l) (p, c, l) := by
  unfold laws_toMatrix.f
  exact Ev.bind (toInt64SS_ev l hl hr) (Ev.now _)
theorem eqMatrix_same (p c : Int) (l : List (List Int)) (hl : l.length ≤ 1048576) (hr : ∀ r ∈ l, r.length ≤ 1048576) : Ev (fun k => laws_eqMatrix.f k p c l p c l) true := by
  unfold laws_eqMatrix.f
  simp only [if_true]
  refine Ev.bind (eqInt64SS_same l hl hr) ?_
  simp only [if_true]
  exact Ev.now _

end Go.Proofs.YtijmdlhcidjpmaaDoor.P

namespace Go.Proofs.YtijmdlhcidjpmaaDoor.P
open Go.RowKit Go.Proofs.YtijmdlhcidjpmaaDoorW.PrintWords Go.Proofs.YtijmdlhcidjpmaaDoorW.PrintLast Go.Proofs.YtijmdlhcidjpmaaDoorW.PrintMore
attribute [local go_sem] max2_int min2_int max_two min_two max_three min_three max_four min_four
set_option linter.unusedVariables false
set_option linter.unusedSimpArgs false

/-- A loop that goes on while q says yes; each round knows what the ones before it found. -/
theorem scan2_ev {ρ : Type} {l : Nat → Int → Option ρ} {n : Nat} {q : Nat → Bool} {fin stop : ρ}
    (hgo : ∀ i : Nat, i < n → (∀ j, j < i → q j = true) → q i = true → ∀ r, Ev (fun k => l k ((i + 1 : Nat) : Int)) r → Ev (fun k => l k (i : Int)) r)
    (hstop : ∀ i : Nat, i < n → (∀ j, j < i → q j = true) → q i = false → Ev (fun k => l k (i : Int)) stop)
    (hend : (∀ j, j < n → q j = true) → Ev (fun k => l k (n : Int)) fin) : Ev (fun k => l k 0) (if (List.range n).all q then fin else stop) := by
  have key : ∀ d i : Nat, i + d = n → (∀ j, j < i → q j = true) → Ev (fun k => l k (i : Int)) (if ((List.range n).drop i).all q then fin else stop) := by
    intro d
    induction d with
    | zero =>
      intro i hi hp
      obtain rfl : i = n := by omega
      rw [List.drop_eq_nil_of_le (by simp)]
      exact hend hp
    | succ d ih =>
      intro i hi hp
      rw [List.drop_eq_getElem_cons (by simp; omega), List.getElem_range, List.all_cons]
      cases hq : q i with
      | false => exact hstop i (by omega) hp hq
      | true =>
        rw [Bool.true_and]
        refine hgo i (by omega) hp hq _ (ih (i + 1) (by omega) fun j hj => ?_)
        rcases Nat.lt_succ_iff_lt_or_eq.mp hj with hj | rfl
        · exact hp j hj
        · exact hq
  have := key n 0 (by omega) (by omega)
  rw [List.drop_zero] at this
  exact this
/-- A loop that stops where q says no, if q says no anywhere. -/
theorem stop_ev {ρ : Type} {l : Nat → Int → Option ρ} {n : Nat} {q : Nat → Bool} {stop : ρ}
    (hgo : ∀ i : Nat, i < n → q i = true → ∀ r, Ev (fun k => l k ((i + 1 : Nat) : Int)) r → Ev (fun k => l k (i : Int)) r)
    (hstop : ∀ i : Nat, i < n → q i = false → Ev (fun k => l k (i : Int)) stop)
    (hn : (List.range n).all q = false) : Ev (fun k => l k 0) stop := by
  have key : ∀ d i : Nat, i + d = n → ((List.range n).drop i).all q = false → Ev (fun k => l k (i : Int)) stop := by
    intro d
    induction d with
    | zero =>
      intro i hi h
      rw [List.drop_eq_nil_of_le (by simp; omega)] at h
      simp at h
    | succ d ih =>
      intro i hi h
      rw [List.drop_eq_getElem_cons (by simp; omega), List.getElem_range, List.all_cons] at h
      cases hq : q i with
      | false => exact hstop i (by omega) hq
      | true =>
        rw [hq, Bool.true_and] at h
        exact hgo i (by omega) hq _ (ih (i + 1) (by omega) h)
  exact key n 0 (by omega) (by rwa [List.drop_zero])
def grp (gs : List (List Int)) (i : Nat) : List Int := gs.getD i []
theorem rdL_grp (gs : List (List Int)) (i : Nat) (h : i < gs.length) : rd_L1 gs (i : Int) = grp gs i := by
  rw [rdL_nat gs i h]; simp [grp, h]
theorem grp_len {gs : List (List Int)} {m : Nat} (hr : ∀ r ∈ gs, r.length ≤ m) (i : Nat) : (grp gs i).length ≤ m := by
  unfold grp
  by_cases h : i < gs.length
  · rw [List.getD_eq_getElem?_getD, List.getElem?_eq_getElem h]; exact hr _ (List.getElem_mem h)
  · rw [List.getD_eq_getElem?_getD, List.getElem?_eq_none (by omega)]; exact Nat.zero_le _

end Go.Proofs.YtijmdlhcidjpmaaDoor.P

namespace Go.Proofs.YtijmdlhcidjpmaaDoor.P
open Go.RowKit Go.Proofs.YtijmdlhcidjpmaaDoorW.PrintWords Go.Proofs.YtijmdlhcidjpmaaDoorW.PrintLast Go.Proofs.YtijmdlhcidjpmaaDoorW.PrintMore
attribute [local go_sem] max2_int min2_int max_two min_two max_three min_three max_four min_four
set_option linter.unusedVariables false
set_option linter.unusedSimpArgs false

theorem orI0 : ∀ x : Fin 128, ∀ y : Fin 128, Go.bits .or .i64 (x.val : Int) (y.val : Int) = ((x.val ||| y.val : Nat) : Int) := by decide +kernel
theorem orU0 : ∀ x : Fin 128, ∀ y : Fin 128, Go.bits .or .u64 (x.val : Int) (y.val : Int) = ((x.val ||| y.val : Nat) : Int) := by decide +kernel
theorem andI0 : ∀ x : Fin 128, ∀ y : Fin 128, Go.bits .and .i64 (x.val : Int) (y.val : Int) = ((x.val &&& y.val : Nat) : Int) := by decide +kernel
theorem andU0 : ∀ x : Fin 128, ∀ y : Fin 128, Go.bits .and .u64 (x.val : Int) (y.val : Int) = ((x.val &&& y.val : Nat) : Int) := by decide +kernel
theorem orI {x y : Nat} (hx : x < 128) (hy : y < 128) : Go.bits .or .i64 (x : Int) (y : Int) = ((x ||| y : Nat) : Int) := orI0 ⟨x, hx⟩ ⟨y, hy⟩
theorem orU {x y : Nat} (hx : x < 128) (hy : y < 128) : Go.bits .or .u64 (x : Int) (y : Int) = ((x ||| y : Nat) : Int) := orU0 ⟨x, hx⟩ ⟨y, hy⟩
theorem andI {x y : Nat} (hx : x < 128) (hy : y < 128) : Go.bits .and .i64 (x : Int) (y : Int) = ((x &&& y : Nat) : Int) := andI0 ⟨x, hx⟩ ⟨y, hy⟩
theorem andU {x y : Nat} (hx : x < 128) (hy : y < 128) : Go.bits .and .u64 (x : Int) (y : Int) = ((x &&& y : Nat) : Int) := andU0 ⟨x, hx⟩ ⟨y, hy⟩
theorem shlI0 : ∀ h : Fin 7, shl .i64 1 (IntKind.u64.wrap (h.val : Int)) = ((2 ^ h.val : Nat) : Int) := by decide +kernel
theorem shlU0 : ∀ h : Fin 7, shl .u64 1 (h.val : Int) = ((2 ^ h.val : Nat) : Int) := by decide +kernel
theorem wrapU0 : ∀ h : Fin 8, (0 : Int) ≤ IntKind.u64.wrap (h.val : Int) := by decide +kernel
theorem shlI {h : Int} (h0 : 0 ≤ h ∧ h ≤ 6) : shl .i64 1 (IntKind.u64.wrap h) = ((2 ^ h.toNat : Nat) : Int) := by
  have := shlI0 ⟨h.toNat, by omega⟩
  rwa [show ((⟨h.toNat, by omega⟩ : Fin 7).val : Int) = h from by simp; omega] at this
theorem shlU {h : Int} (h0 : 0 ≤ h ∧ h ≤ 6) : shl .u64 1 h = ((2 ^ h.toNat : Nat) : Int) := by
  have := shlU0 ⟨h.toNat, by omega⟩
  rwa [show ((⟨h.toNat, by omega⟩ : Fin 7).val : Int) = h from by simp; omega] at this
theorem wrapU {h : Int} (h0 : 0 ≤ h ∧ h ≤ 7) : (0 : Int) ≤ IntKind.u64.wrap h := by
  have := wrapU0 ⟨h.toNat, by omega⟩
  rwa [show ((⟨h.toNat, by omega⟩ : Fin 8).val : Int) = h from by simp; omega] at this
/-- A group as a number. -/
def maskN (l : List Int) : Nat := l.foldl (fun m h => m ||| 2 ^ h.toNat) 0
theorem maskN_take (l : List Int) (i : Nat) (h : i < l.length) : maskN (l.take (i + 1)) = maskN (l.take i) ||| 2 ^ l[i].toNat := by
  unfold maskN
  rw [List.take_succ_eq_append_getElem h, List.foldl_append]
  rfl
theorem two_lt {h : Int} (h0 : 0 ≤ h ∧ h ≤ 6) : 2 ^ h.toNat < 128 := by
  have : 2 ^ h.toNat ≤ 2 ^ 6 := Nat.pow_le_pow_right (by omega) (by omega)
  omega
theorem or_lt {x y : Nat} (hx : x < 128) (hy : y < 128) : x ||| y < 128 := Nat.or_lt_two_pow (n := 7) hx hy
theorem mask_lt (l : List Int) (h : ∀ x ∈ l, 0 ≤ x ∧ x ≤ 6) : ∀ m, m < 128 → l.foldl (fun m h => m ||| 2 ^ h.toNat) m < 128 := by
  induction l with
  | nil => exact fun m hm => hm
  | cons a l ih =>
    intro m hm
    exact ih (fun x hx => h x (List.mem_cons_of_mem _ hx)) _ (or_lt hm (two_lt (h a (List.mem_cons_self ..))))
theorem maskN_lt (l : List Int) (h : ∀ x ∈ l, 0 ≤ x ∧ x ≤ 6) : maskN l < 128 := mask_lt l h 0 (by omega)
theorem take_small {l : List Int} (h : ∀ x ∈ l, 0 ≤ x ∧ x ≤ 6) (i : Nat) : ∀ x ∈ l.take i, 0 ≤ x ∧ x ≤ 6 := fun x hx => h x (List.mem_of_mem_take hx)
theorem risesB_mem {lo hi : Int} : ∀ (l : List Int) (o : Option Int), risesB lo hi o l = true → ∀ x ∈ l, lo ≤ x ∧ x ≤ hi
  | [], _, _, x, hx => by simp at hx
  | a :: l, o, h, x, hx => by
    have h1 : (lo ≤ a ∧ a ≤ hi) ∧ risesB lo hi (some a) l = true := by
      cases o <;> simp [risesB] at h <;> simp_all
    rcases List.mem_cons.mp hx with rfl | hx
    · exact h1.1
    · exact risesB_mem l (some a) h1.2 x hx
theorem group_small {h : Int} (hh : h ≤ 7) {l : List Int} (hg : groupB h l = true) : ∀ x ∈ l, 0 ≤ x ∧ x ≤ 6 := fun x hx => by
  have := risesB_mem l none hg x hx
  omega
theorem impl_crowdOf_ev (l : List Int) (h : ∀ x ∈ l, 0 ≤ x ∧ x ≤ 6) (hl : l.length ≤ 4611686018427387904) : Ev (fun k => impl_crowdOf.f k l) (maskN l : Int) := by
  unfold impl_crowdOf.f
  have key : ∀ d i : Nat, i + d = l.length → Ev (fun k => impl_crowdOf.l0 k (maskN (l.take i) : Int) l (l.length : Int) (i : Int)) (maskN l : Int) := by
    intro d
    induction d with
    | zero =>
      intro i hi
      refine Ev.step (f := fun _ => some (maskN l : Int)) (fun k => ?_) (Ev.now _)
      simp only [impl_crowdOf.l0]
      rw [if_neg (by omega), List.take_of_length_le (by omega)]
    | succ d ih =>
      intro i hi
      have hlt : i < l.length := by omega
      have hx := h _ (List.getElem_mem hlt)
      refine Ev.step (fun k => ?_) (ih (i + 1) (by omega))
      simp only [impl_crowdOf.l0]
      rw [if_pos (by omega), if_pos (by omega), if_pos (by omega), rd_nat l i hlt, if_pos hx.1, shlU hx, orU (maskN_lt _ (take_small h i)) (two_lt hx), wr (by omega) (by omega), ← maskN_take l i hlt]
      rfl
  exact key l.length 0 (by omega)
theorem spec_l01Bits_ev (l : List Int) (h : ∀ x ∈ l, 0 ≤ x ∧ x ≤ 6) (hl : l.length ≤ 4611686018427387904) : Ev (fun k => spec_l01Bits.f k l) (maskN l : Int) := by
  unfold spec_l01Bits.f
  have key : ∀ d i : Nat, i + d = l.length → Ev (fun k => spec_l01Bits.l0 k l (maskN (l.take i) : Int) (i : Int)) (maskN l : Int) := by
    intro d
    induction d with
    | zero =>
      intro i hi
      refine Ev.step (f := fun _ => some (maskN l : Int)) (fun k => ?_) (Ev.now _)
      simp only [spec_l01Bits.l0]
      rw [if_neg (by omega), List.take_of_length_le (by omega)]
    | succ d ih =>
      intro i hi
      have hlt : i < l.length := by omega
      have hx := h _ (List.getElem_mem hlt)
      refine Ev.step (fun k => ?_) (ih (i + 1) (by omega))
      simp only [spec_l01Bits.l0]
      rw [if_pos (by omega), if_pos (by omega), rd_nat l i hlt, if_pos (wrapU (by omega)), shlI hx, orI (maskN_lt _ (take_small h i)) (two_lt hx), wr (by omega) (by omega), ← maskN_take l i hlt]
      rfl
  exact key l.length 0 (by omega)
/-- The order of lists. -/
def ltB : List Int → List Int → Bool
  | [], [] => false
  | [], _ :: _ => true
  | _ :: _, [] => false
  | x :: a, y :: b => if x = y then ltB a b else decide (x < y)
theorem spec_l01Before_ev (a b : List Int) (ha : a.length ≤ 4611686018427387904) (hb : b.length ≤ 4611686018427387904) : Ev (fun k => spec_l01Before.f k a b) (ltB a b) := by
  unfold spec_l01Before.f
  have key : ∀ d i : Nat, i + d = a.length → i ≤ b.length → Ev (fun k => spec_l01Before.l0 k a b (i : Int)) (ltB (a.drop i) (b.drop i)) := by
    intro d
    induction d with
    | zero =>
      intro i hi hib
      rw [List.drop_eq_nil_of_le (show a.length ≤ i by omega)]
      refine Ev.step (f := fun k => spec_l01Before.j1 k a b (i : Int) false) (fun k => ?_) (Ev.step (f := fun _ => some (decide ((a.length : Int) < (b.length : Int)))) (fun k => ?_) ?_)
      · simp only [spec_l01Before.l0]
        rw [if_neg (by omega)]
      · simp only [spec_l01Before.j1]
        rw [if_neg (by decide)]
      · by_cases hlt : i < b.length
        · rw [List.drop_eq_getElem_cons hlt, decide_eq_true (by omega)]
          exact Ev.now _
        · rw [List.drop_eq_nil_of_le (by omega), decide_eq_false (by omega)]
          exact Ev.now _
    | succ d ih =>
      intro i hi hib
      have h1 : i < a.length := by omega
      rw [List.drop_eq_getElem_cons h1]
      by_cases h2 : i < b.length
      · rw [List.drop_eq_getElem_cons h2]
        refine Ev.step (f := fun k => spec_l01Before.j1 k a b (i : Int) true) (fun k => ?_) ?_
        · simp only [spec_l01Before.l0]
          rw [if_pos (by omega), decide_eq_true (by omega)]
        · unfold ltB
          by_cases e : a[i] = b[i]
          · rw [if_pos e]
            refine Ev.step (fun k => ?_) (ih (i + 1) (by omega) (by omega))
            simp only [spec_l01Before.j1, if_true]
            rw [if_pos (by omega), if_pos (by omega), if_pos (by omega), rd_nat a i h1, rd_nat b i h2, if_pos e, wr (by omega) (by omega)]
            rfl
          · rw [if_neg e]
            refine Ev.step (f := fun _ => some (decide (a[i] < b[i]))) (fun k => ?_) (Ev.now _)
            simp only [spec_l01Before.j1, if_true]
            rw [if_pos (by omega), if_pos (by omega), if_pos (by omega), rd_nat a i h1, rd_nat b i h2, if_neg e]
      · rw [List.drop_eq_nil_of_le (show b.length ≤ i by omega)]
        refine Ev.step (f := fun k => spec_l01Before.j1 k a b (i : Int) false) (fun k => ?_) (Ev.step (f := fun _ => some (decide ((a.length : Int) < (b.length : Int)))) (fun k => ?_) ?_)
        · simp only [spec_l01Before.l0]
          rw [if_pos (by omega), decide_eq_false (by omega)]
        · simp only [spec_l01Before.j1]
          rw [if_neg (by decide)]
        · rw [decide_eq_false (by omega)]
          exact Ev.now _
  exact key a.length 0 (by omega) (by omega)
theorem cmp_lt {x y : Int} (h : x < y) : cmp_Compare_int64.f x y = some (-1) := by
  simp [cmp_Compare_int64.f, cmp_isNaN_int64.f, h]
theorem cmp_gt {x y : Int} (h : y < x) : cmp_Compare_int64.f x y = some 1 := by
  simp [cmp_Compare_int64.f, cmp_isNaN_int64.f, h]
  omega
theorem cmp_eq {x y : Int} (h : x = y) : cmp_Compare_int64.f x y = some 0 := by
  simp [cmp_Compare_int64.f, cmp_isNaN_int64.f, h]
theorem sliceCmp_ev (a b : List Int) (ha : a.length ≤ 4611686018427387904) (hb : b.length ≤ 4611686018427387904) : ∃ t : Int, Ev (fun k => slices_Compare_int64_int64.f k a b) t ∧ decide (t ≥ 0) = !ltB a b := by
  have key : ∀ d i : Nat, i + d = a.length → i ≤ b.length → ∃ t : Int, Ev (fun k => slices_Compare_int64_int64.l0 k a b a (a.length : Int) (i : Int)) t ∧ decide (t ≥ 0) = !ltB (a.drop i) (b.drop i) := by
    intro d
    induction d with
    | zero =>
      intro i hi hib
      rw [List.drop_eq_nil_of_le (show a.length ≤ i by omega)]
      by_cases hlt : i < b.length
      · refine ⟨-1, Ev.step (f := fun _ => some (-1)) (fun k => ?_) (Ev.now _), ?_⟩
        · simp only [slices_Compare_int64_int64.l0]
          rw [if_neg (by omega), if_pos (by omega)]
        · rw [List.drop_eq_getElem_cons hlt]; rfl
      · refine ⟨0, Ev.step (f := fun _ => some 0) (fun k => ?_) (Ev.now _), ?_⟩
        · simp only [slices_Compare_int64_int64.l0]
          rw [if_neg (by omega), if_neg (by omega)]
        · rw [List.drop_eq_nil_of_le (by omega)]; rfl
    | succ d ih =>
      intro i hi hib
      have h1 : i < a.length := by omega
      rw [List.drop_eq_getElem_cons h1]
      by_cases h2 : i < b.length
      · rw [List.drop_eq_getElem_cons h2]
        unfold ltB
        have one : ∀ {t : Int} {f : Nat → Option Int}, (∀ k, (cmp_Compare_int64.f a[i] b[i]).bind (fun t => if t = 0 then slices_Compare_int64_int64.l0 k a b a (a.length : Int) ((i + 1 : Nat) : Int) else some t) = f k) → Ev f t → Ev (fun k => slices_Compare_int64_int64.l0 k a b a (a.length : Int) (i : Int)) t := fun h he => by
          refine Ev.step (fun k => ?_) he
          rw [← h]
          simp only [slices_Compare_int64_int64.l0]
          rw [if_pos (by omega), if_pos (by omega), if_pos (by omega), if_neg (by omega), if_pos (by omega), rd_nat a i h1, rd_nat b i h2, wr (by omega) (by omega)]
          rfl
        by_cases e : a[i] = b[i]
        · rw [if_pos e]
          obtain ⟨t, ht, hd⟩ := ih (i + 1) (by omega) (by omega)
          refine ⟨t, one (fun k => ?_) ht, hd⟩
          rw [cmp_eq e, Option.bind_some, if_pos rfl]
        · rw [if_neg e]
          by_cases hlt : a[i] < b[i]
          · refine ⟨-1, one (f := fun _ => some (-1)) (fun k => ?_) (Ev.now _), ?_⟩
            · rw [cmp_lt hlt, Option.bind_some, if_neg (by decide)]
            · rw [decide_eq_true hlt]; rfl
          · refine ⟨1, one (f := fun _ => some 1) (fun k => ?_) (Ev.now _), ?_⟩
            · rw [cmp_gt (by omega), Option.bind_some, if_neg (by decide)]
            · rw [decide_eq_false hlt]; rfl
      · rw [List.drop_eq_nil_of_le (show b.length ≤ i by omega)]
        refine ⟨1, Ev.step (f := fun _ => some 1) (fun k => ?_) (Ev.now _), rfl⟩
        simp only [slices_Compare_int64_int64.l0]
        rw [if_pos (by omega), if_pos (by omega), if_pos (by omega), if_pos (by omega)]
  exact key a.length 0 (by omega) (by omega)

end Go.Proofs.YtijmdlhcidjpmaaDoor.P

namespace Go.Proofs.YtijmdlhcidjpmaaDoor.P
open Go.RowKit Go.Proofs.YtijmdlhcidjpmaaDoorW.PrintWords Go.Proofs.YtijmdlhcidjpmaaDoorW.PrintLast Go.Proofs.YtijmdlhcidjpmaaDoorW.PrintMore
attribute [local go_sem] max2_int min2_int max_two min_two max_three min_three max_four min_four
set_option linter.unusedVariables false
set_option linter.unusedSimpArgs false

def okAt (h : Int) (gs : List (List Int)) (i : Nat) : Bool := groupB h (grp gs i) && (decide (i = 0) || ltB (grp gs (i - 1)) (grp gs i))
def withinB (a b : List Int) : Bool := (maskN a &&& maskN b) == maskN a
def pairB (gs : List (List Int)) (i j : Nat) : Bool := !withinB (grp gs i) (grp gs j) && !withinB (grp gs j) (grp gs i)
def famB (h : Int) (gs : List (List Int)) : Bool := decide (1 ≤ h ∧ h ≤ 7) && (List.range gs.length).all fun i => okAt h gs i && (List.range i).all (pairB gs i)
theorem okAt_group {h : Int} {gs : List (List Int)} {i : Nat} (ho : okAt h gs i = true) : groupB h (grp gs i) = true := by
  unfold okAt at ho
  exact (Bool.and_eq_true _ _ ▸ ho).1
theorem spec_l01Within_ev (a b : List Int) (ha : ∀ x ∈ a, 0 ≤ x ∧ x ≤ 6) (hb : ∀ x ∈ b, 0 ≤ x ∧ x ≤ 6) (hla : a.length ≤ 4611686018427387904) (hlb : b.length ≤ 4611686018427387904) : Ev (fun k => spec_l01Within.f k a b) (withinB a b) := by
  unfold spec_l01Within.f
  refine Ev.bind (spec_l01Bits_ev a ha hla) (Ev.bind (spec_l01Bits_ev b hb hlb) ?_)
  rw [andI (maskN_lt a ha) (maskN_lt b hb)]
  rw [show (((maskN a &&& maskN b : Nat) : Int) == (maskN a : Int)) = withinB a b from by
    unfold withinB
    by_cases e : (maskN a &&& maskN b) = maskN a
    · rw [e]; simp
    · rw [beq_eq_false_iff_ne.mpr (by omega), beq_eq_false_iff_ne.mpr e]]
  exact Ev.now _
theorem contains_eq (a b : List Int) (ha : ∀ x ∈ a, 0 ≤ x ∧ x ≤ 6) (hb : ∀ x ∈ b, 0 ≤ x ∧ x ≤ 6) : impl_crowd_contains.f (maskN a : Int) (maskN b : Int) = some (withinB b a) := by
  unfold impl_crowd_contains.f
  rw [andU (maskN_lt a ha) (maskN_lt b hb)]
  congr 1
  unfold withinB
  by_cases e : (maskN b &&& maskN a) = maskN b
  · rw [Nat.and_comm, e]; simp
  · rw [beq_eq_false_iff_ne.mpr (by rw [Nat.and_comm]; omega), beq_eq_false_iff_ne.mpr e]
theorem impl_ValidFamily_ev (h : Int) (gs : List (List Int)) (hl : gs.length ≤ 4611686018427387904) (hr : ∀ r ∈ gs, r.length ≤ 4611686018427387904) : Ev (fun k => impl_ValidFamily.f k h gs) (famB h gs) := by
  unfold impl_ValidFamily.f famB
  rw [impl_within_eq]
  simp only [Option.bind_some]
  cases hh : decide (1 ≤ h ∧ h ≤ 7) with
  | false => exact Ev.now _
  | true =>
    have hh' := of_decide_eq_true hh
    simp only [if_true, Bool.true_and]
    have inner : ∀ (i : Nat), i < gs.length → (∀ j, j ≤ i → okAt h gs j = true) → ∀ {r : Bool}, ((List.range i).all (pairB gs i) = true → Ev (fun k => impl_ValidFamily.l0 k gs (gs.length : Int) ((i + 1 : Nat) : Int) h gs) r) → Ev (fun k => impl_ValidFamily.j1 k (i : Int) (grp gs i) gs (gs.length : Int) (i : Int) false h gs) (if (List.range i).all (pairB gs i) then r else false) := by
      intro i hi hok r hr'
      have sm : ∀ j, j ≤ i → ∀ x ∈ grp gs j, 0 ≤ x ∧ x ≤ 6 := fun j hj => group_small hh'.2 (okAt_group (hok j hj))
      have hyl : (gs.take i).length = i := by rw [List.length_take]; omega
      refine Ev.step (f := fun k => impl_ValidFamily.l1 k (grp gs i) gs (gs.length : Int) (i : Int) (gs.take i) ((gs.take i).length : Int) 0 h gs) (fun k => ?_) ?_
      · simp only [impl_ValidFamily.j1]
        rw [if_neg (by decide), if_pos (by omega), if_pos (by omega), Option.bind_some, Int.toNat_natCast]
      · have one : ∀ j, j < i → Ev (fun k => impl_ValidFamily.l1 (k + 1) (grp gs i) gs (gs.length : Int) (i : Int) (gs.take i) ((gs.take i).length : Int) (j : Int) h gs) = Ev (fun k => (impl_crowdOf.f k (grp gs j)).bind fun t185 => ((impl_crowdOf.f k (grp gs i)).bind fun t186 => ((impl_crowd_contains.f t185 t186).bind fun t187 => (if t187 = true then (some false) else ((impl_crowd_contains.f t186 t185).bind fun t188 => (if t188 = true then (some false) else (impl_ValidFamily.l1 k (grp gs i) gs (gs.length : Int) (i : Int) (gs.take i) ((gs.take i).length : Int) ((j + 1 : Nat) : Int) h gs))))))) := fun j hj => by
          congr 1
          funext k
          simp only [impl_ValidFamily.l1]
          have hrow : rd_L1 (gs.take i) (j : Int) = grp gs j := by
            rw [rdL_nat _ j (by omega), List.getElem_take]
            simp [grp, show j < gs.length by omega]
          rw [if_pos (by omega), if_pos (by omega), if_pos (by omega), hrow, wr (by omega) (by omega)]
          rfl
        have body : ∀ j, j < i → ∀ {f : Nat → Option Bool} {t : Bool}, (∀ k, (if pairB gs i j then impl_ValidFamily.l1 k (grp gs i) gs (gs.length : Int) (i : Int) (gs.take i) ((gs.take i).length : Int) ((j + 1 : Nat) : Int) h gs else some false) = f k) → Ev f t → Ev (fun k => impl_ValidFamily.l1 k (grp gs i) gs (gs.length : Int) (i : Int) (gs.take i) ((gs.take i).length : Int) (j : Int) h gs) t := by
          intro j hj f t hf he
          refine Ev.step (f := fun k => impl_ValidFamily.l1 (k + 1) (grp gs i) gs (gs.length : Int) (i : Int) (gs.take i) ((gs.take i).length : Int) (j : Int) h gs) (fun k => rfl) ?_
          rw [one j hj]
          refine Ev.bind (impl_crowdOf_ev _ (sm j (by omega)) (grp_len hr j)) (Ev.bind (impl_crowdOf_ev _ (sm i (Nat.le_refl i)) (grp_len hr i)) ?_)
          rw [contains_eq _ _ (sm j (by omega)) (sm i (Nat.le_refl i)), contains_eq _ _ (sm i (Nat.le_refl i)) (sm j (by omega))]
          refine Ev.congr (fun k => ?_) he
          rw [← hf k]
          unfold pairB
          cases withinB (grp gs i) (grp gs j) <;> cases withinB (grp gs j) (grp gs i) <;> rfl
        have hgo : ∀ j : Nat, j < i → pairB gs i j = true → ∀ t, Ev (fun k => impl_ValidFamily.l1 k (grp gs i) gs (gs.length : Int) (i : Int) (gs.take i) ((gs.take i).length : Int) ((j + 1 : Nat) : Int) h gs) t → Ev (fun k => impl_ValidFamily.l1 k (grp gs i) gs (gs.length : Int) (i : Int) (gs.take i) ((gs.take i).length : Int) (j : Int) h gs) t := fun j hj hq t ht => body j hj (fun k => by rw [if_pos hq]) ht
        have hstop : ∀ j : Nat, j < i → pairB gs i j = false → Ev (fun k => impl_ValidFamily.l1 k (grp gs i) gs (gs.length : Int) (i : Int) (gs.take i) ((gs.take i).length : Int) (j : Int) h gs) false := fun j hj hq => body j hj (f := fun _ => some false) (fun k => by rw [hq]; rfl) (Ev.now _)
        cases ha : (List.range i).all (pairB gs i) with
        | false => exact stop_ev (l := fun k j => impl_ValidFamily.l1 k (grp gs i) gs (gs.length : Int) (i : Int) (gs.take i) ((gs.take i).length : Int) j h gs) hgo hstop ha
        | true =>
          have := scan_ev (l := fun k j => impl_ValidFamily.l1 k (grp gs i) gs (gs.length : Int) (i : Int) (gs.take i) ((gs.take i).length : Int) j h gs) (fin := r) (stop := false) hgo hstop (by
            refine Ev.step (fun k => ?_) (hr' ha)
            simp only [impl_ValidFamily.l1]
            rw [if_neg (by omega), wr (by omega) (by omega)]
            rfl)
          rwa [ha] at this
    have hs := scan2_ev (l := fun k i => impl_ValidFamily.l0 k gs (gs.length : Int) i h gs) (n := gs.length) (q := fun i => okAt h gs i && (List.range i).all (pairB gs i)) (fin := true) (stop := false)
      (fun i hi hp hq t ht => by
        have hq' := (Bool.and_eq_true _ _ ▸ hq)
        have hok : ∀ j, j ≤ i → okAt h gs j = true := fun j hj => by
          rcases Nat.lt_or_eq_of_le hj with hj | rfl
          · exact (Bool.and_eq_true _ _ ▸ hp j hj).1
          · exact hq'.1
        have hin := inner i hi hok (r := t) (fun _ => ht)
        rw [hq'.2, if_pos rfl] at hin
        have hg := okAt_group hq'.1
        refine Ev.step (f := fun k => (impl_isGroup.f k h (grp gs i)).bind fun t => if t = true then (if (i : Int) > 0 then (slices_Compare_int64_int64.f k (grp gs (i - 1)) (grp gs i)).bind fun t => impl_ValidFamily.j1 k (i : Int) (grp gs i) gs (gs.length : Int) (i : Int) (decide (t ≥ 0)) h gs else impl_ValidFamily.j1 k (i : Int) (grp gs i) gs (gs.length : Int) (i : Int) false h gs) else impl_ValidFamily.j1 k (i : Int) (grp gs i) gs (gs.length : Int) (i : Int) true h gs) (fun k => ?_) (Ev.bind (impl_group_ev h (grp gs i) (grp_len hr i) (by omega)) ?_)
        · simp only [impl_ValidFamily.l0]
          rw [if_pos (by omega), if_pos (by omega), if_pos (by omega), rdL_grp gs i hi]
          by_cases h0 : (i : Int) > 0
          · simp only [if_pos h0]
            rw [wr (x := (i : Int) - 1) (by omega) (by omega), if_pos (by omega), if_pos (by omega), show ((i : Int) - 1) = ((i - 1 : Nat) : Int) by omega, rdL_grp gs (i - 1) (by omega)]
          · simp only [if_neg h0]
        · simp only [hg, if_true]
          by_cases h0 : (i : Int) > 0
          · simp only [if_pos h0]
            obtain ⟨c, hc, hd⟩ := sliceCmp_ev (grp gs (i - 1)) (grp gs i) (grp_len hr _) (grp_len hr _)
            refine Ev.bind hc ?_
            have : ltB (grp gs (i - 1)) (grp gs i) = true := by
              have h1 := hq'.1
              unfold okAt at h1
              rw [hg, decide_eq_false (show ¬ i = 0 by omega)] at h1
              simpa using h1
            rw [hd, this]
            exact hin
          · simp only [if_neg h0]
            exact hin)
      (fun i hi hp hq => by
        have bad : Ev (fun k => impl_ValidFamily.j1 k (i : Int) (grp gs i) gs (gs.length : Int) (i : Int) true h gs) false := Ev.step (f := fun _ => some false) (fun k => by simp only [impl_ValidFamily.j1, if_true]) (Ev.now _)
        have pre : ∀ j, j < i → okAt h gs j = true := fun j hj => (Bool.and_eq_true _ _ ▸ hp j hj).1
        refine Ev.step (f := fun k => (impl_isGroup.f k h (grp gs i)).bind fun t => if t = true then (if (i : Int) > 0 then (slices_Compare_int64_int64.f k (grp gs (i - 1)) (grp gs i)).bind fun t => impl_ValidFamily.j1 k (i : Int) (grp gs i) gs (gs.length : Int) (i : Int) (decide (t ≥ 0)) h gs else impl_ValidFamily.j1 k (i : Int) (grp gs i) gs (gs.length : Int) (i : Int) false h gs) else impl_ValidFamily.j1 k (i : Int) (grp gs i) gs (gs.length : Int) (i : Int) true h gs) (fun k => ?_) (Ev.bind (impl_group_ev h (grp gs i) (grp_len hr i) (by omega)) ?_)
        · simp only [impl_ValidFamily.l0]
          rw [if_pos (by omega), if_pos (by omega), if_pos (by omega), rdL_grp gs i hi]
          by_cases h0 : (i : Int) > 0
          · simp only [if_pos h0]
            rw [wr (x := (i : Int) - 1) (by omega) (by omega), if_pos (by omega), if_pos (by omega), show ((i : Int) - 1) = ((i - 1 : Nat) : Int) by omega, rdL_grp gs (i - 1) (by omega)]
          · simp only [if_neg h0]
        · cases hg : groupB h (grp gs i) with
          | false => simp only [Bool.false_eq_true, if_false]; exact bad
          | true =>
            simp only [if_true]
            have fin : ∀ {b : Bool}, okAt h gs i = !b → Ev (fun k => impl_ValidFamily.j1 k (i : Int) (grp gs i) gs (gs.length : Int) (i : Int) b h gs) false := by
              intro b hb
              cases b with
              | true => exact bad
              | false =>
                have hok : ∀ j, j ≤ i → okAt h gs j = true := fun j hj => by
                  rcases Nat.lt_or_eq_of_le hj with hj | rfl
                  · exact pre j hj
                  · exact hb
                have hall : (List.range i).all (pairB gs i) = false := by
                  rw [hok i (Nat.le_refl i), Bool.true_and] at hq
                  exact hq
                have := inner i hi hok (r := false) (fun h2 => by rw [hall] at h2; exact absurd h2 (by decide))
                rwa [hall] at this
            by_cases h0 : (i : Int) > 0
            · simp only [if_pos h0]
              obtain ⟨c, hc, hd⟩ := sliceCmp_ev (grp gs (i - 1)) (grp gs i) (grp_len hr _) (grp_len hr _)
              refine Ev.bind hc ?_
              rw [hd]
              refine fin ?_
              unfold okAt
              rw [hg, decide_eq_false (show ¬ i = 0 by omega)]
              simp
            · simp only [if_neg h0]
              refine fin ?_
              unfold okAt
              rw [hg, decide_eq_true (show i = 0 by omega)]
              rfl)
      (fun _ => Ev.step (f := fun _ => some true) (fun k => by
        simp only [impl_ValidFamily.l0]
        rw [if_neg (by omega)]) (Ev.now _))
    rwa [show (if (List.range gs.length).all (fun i => okAt h gs i && (List.range i).all (pairB gs i)) then true else false) = (List.range gs.length).all (fun i => okAt h gs i && (List.range i).all (pairB gs i)) from by cases (List.range gs.length).all (fun i => okAt h gs i && (List.range i).all (pairB gs i)) <;> rfl] at hs

end Go.Proofs.YtijmdlhcidjpmaaDoor.P

namespace Go.Proofs.YtijmdlhcidjpmaaDoor.P
open Go.RowKit Go.Proofs.YtijmdlhcidjpmaaDoorW.PrintWords Go.Proofs.YtijmdlhcidjpmaaDoorW.PrintLast Go.Proofs.YtijmdlhcidjpmaaDoorW.PrintMore
attribute [local go_sem] max2_int min2_int max_two min_two max_three min_three max_four min_four
set_option linter.unusedVariables false
set_option linter.unusedSimpArgs false

theorem and2 {a b : Bool} (h : (a && b) = true) : a = true ∧ b = true := by simpa using h
def apartAt (gs : List (List Int)) (i : Nat) : Bool := (List.range gs.length).all fun k => decide (i = k) || !withinB (grp gs i) (grp gs k)
theorem famB_eq (h : Int) (gs : List (List Int)) : famB h gs = (decide (1 ≤ h ∧ h ≤ 7) && ((List.range gs.length).all (okAt h gs) && (List.range gs.length).all (apartAt gs))) := by
  unfold famB
  congr 1
  rw [Bool.eq_iff_iff, Bool.and_eq_true, List.all_eq_true, List.all_eq_true, List.all_eq_true]
  constructor
  · intro hq
    refine ⟨fun i hi => (Bool.and_eq_true _ _ ▸ hq i hi).1, fun i hi => ?_⟩
    unfold apartAt
    refine List.all_eq_true.mpr fun k hk => ?_
    rcases Nat.lt_trichotomy i k with hlt | rfl | hlt
    · have := List.all_eq_true.mp (Bool.and_eq_true _ _ ▸ hq k hk).2 i (List.mem_range.mpr hlt)
      unfold pairB at this
      rw [(and2 this).2, Bool.or_true]
    · rw [decide_eq_true rfl, Bool.true_or]
    · have := List.all_eq_true.mp (Bool.and_eq_true _ _ ▸ hq i hi).2 k (List.mem_range.mpr hlt)
      unfold pairB at this
      rw [(and2 this).1, Bool.or_true]
  · rintro ⟨h1, h2⟩ i hi
    rw [h1 i hi, Bool.true_and]
    refine List.all_eq_true.mpr fun j hj => ?_
    have hj' := List.mem_range.mp hj
    have hi' := List.mem_range.mp hi
    have a := h2 i hi
    have b := h2 j (List.mem_range.mpr (by omega))
    unfold apartAt at a b
    have a := List.all_eq_true.mp a j (List.mem_range.mpr (by omega))
    have b := List.all_eq_true.mp b i hi
    rw [decide_eq_false (by omega), Bool.false_or] at a b
    unfold pairB
    rw [a, b]; rfl
theorem spec_l01Ok_ev (h : Int) (gs : List (List Int)) (hl : gs.length ≤ 4611686018427387904) (hr : ∀ r ∈ gs, r.length ≤ 4611686018427387904) : Ev (fun k => spec_l01Ok.f k h gs) (famB h gs) := by
  rw [famB_eq]
  unfold spec_l01Ok.f
  rw [spec_l00In_eq]
  simp only [Option.bind_some]
  cases hh : decide (1 ≤ h ∧ h ≤ 7) with
  | false => exact Ev.now _
  | true =>
    have hh' := of_decide_eq_true hh
    simp only [if_true, Bool.true_and]
    have two : (∀ j, j < gs.length → okAt h gs j = true) → Ev (fun k => spec_l01Ok.l1 k 0 h gs) ((List.range gs.length).all (apartAt gs)) := by
      intro hok
      have sm : ∀ j, j < gs.length → ∀ x ∈ grp gs j, 0 ≤ x ∧ x ≤ 6 := fun j hj => group_small hh'.2 (okAt_group (hok j hj))
      have step : ∀ i j, i < gs.length → j < gs.length → ∀ {f : Nat → Option Bool} {t : Bool}, (∀ k, (if (decide (i = j) || !withinB (grp gs i) (grp gs j)) = true then spec_l01Ok.l2 k (i : Int) ((j + 1 : Nat) : Int) h gs else some false) = f k) → Ev f t → Ev (fun k => spec_l01Ok.l2 k (i : Int) (j : Int) h gs) t := by
        intro i j hi hj f t hf he
        by_cases e : i = j
        · refine Ev.step (fun k => ?_) he
          rw [← hf k, decide_eq_true e, Bool.true_or, if_pos rfl]
          simp only [spec_l01Ok.l2]
          rw [if_pos (by omega), if_pos (by omega), wr (by omega) (by omega)]
          rfl
        · refine Ev.step (f := fun k => (spec_l01Within.f k (grp gs i) (grp gs j)).bind fun t => if t = true then some false else spec_l01Ok.l2 k (i : Int) ((j + 1 : Nat) : Int) h gs) (fun k => ?_) (Ev.bind (spec_l01Within_ev _ _ (sm i hi) (sm j hj) (grp_len hr i) (grp_len hr j)) (Ev.congr (fun k => ?_) he))
          · simp only [spec_l01Ok.l2]
            rw [if_pos (by omega), if_neg (by omega), if_pos (by omega), if_pos (by omega), if_pos (by omega), rdL_grp gs i hi, rdL_grp gs j hj, wr (by omega) (by omega)]
            rfl
          · rw [← hf k, decide_eq_false e, Bool.false_or]
            cases withinB (grp gs i) (grp gs j) <;> rfl
      have row : ∀ i, i < gs.length → ∀ {r : Bool}, (apartAt gs i = true → Ev (fun k => spec_l01Ok.l1 k ((i + 1 : Nat) : Int) h gs) r) → Ev (fun k => spec_l01Ok.l1 k (i : Int) h gs) (if apartAt gs i then r else false) := by
        intro i hi r hr'
        refine Ev.step (f := fun k => spec_l01Ok.l2 k (i : Int) 0 h gs) (fun k => ?_) ?_
        · simp only [spec_l01Ok.l1]
          rw [if_pos (by omega)]
        · have hgo : ∀ j : Nat, j < gs.length → (decide (i = j) || !withinB (grp gs i) (grp gs j)) = true → ∀ t, Ev (fun k => spec_l01Ok.l2 k (i : Int) ((j + 1 : Nat) : Int) h gs) t → Ev (fun k => spec_l01Ok.l2 k (i : Int) (j : Int) h gs) t := fun j hj hq t ht => step i j hi hj (fun k => by rw [if_pos hq]) ht
          have hstop : ∀ j : Nat, j < gs.length → (decide (i = j) || !withinB (grp gs i) (grp gs j)) = false → Ev (fun k => spec_l01Ok.l2 k (i : Int) (j : Int) h gs) false := fun j hj hq => step i j hi hj (f := fun _ => some false) (fun k => by rw [hq]; rfl) (Ev.now _)
          cases ha : apartAt gs i with
          | false => exact stop_ev (l := fun k j => spec_l01Ok.l2 k (i : Int) j h gs) hgo hstop ha
          | true =>
            have := scan_ev (l := fun k j => spec_l01Ok.l2 k (i : Int) j h gs) (fin := r) (stop := false) hgo hstop (by
              refine Ev.step (fun k => ?_) (hr' ha)
              simp only [spec_l01Ok.l2]
              rw [if_neg (by omega), wr (by omega) (by omega)]
              rfl)
            rw [show (List.range gs.length).all (fun k => decide (i = k) || !withinB (grp gs i) (grp gs k)) = true from ha] at this
            exact this
      have hs := scan2_ev (l := fun k i => spec_l01Ok.l1 k i h gs) (n := gs.length) (q := apartAt gs) (fin := true) (stop := false)
        (fun i hi _ hq t ht => by
          have := row i hi (r := t) (fun _ => ht)
          rwa [hq] at this)
        (fun i hi _ hq => by
          have := row i hi (r := false) (fun h2 => by rw [hq] at h2; exact absurd h2 (by decide))
          rwa [hq] at this)
        (fun _ => Ev.step (f := fun _ => some true) (fun k => by
          simp only [spec_l01Ok.l1]
          rw [if_neg (by omega)]) (Ev.now _))
      rwa [show (if (List.range gs.length).all (apartAt gs) then true else false) = (List.range gs.length).all (apartAt gs) from by cases (List.range gs.length).all (apartAt gs) <;> rfl] at hs
    have body : ∀ i, i < gs.length → ∀ {f : Nat → Option Bool} {t : Bool}, (∀ k, (if okAt h gs i = true then spec_l01Ok.l0 k ((i + 1 : Nat) : Int) h gs else some false) = f k) → Ev f t → Ev (fun k => spec_l01Ok.l0 k (i : Int) h gs) t := by
      intro i hi f t hf he
      refine Ev.step (f := fun k => (spec_l01Group.f k h (grp gs i)).bind fun t => if t = true then (if (i : Int) > 0 then (spec_l01Before.f k (grp gs (i - 1)) (grp gs i)).bind fun t => if t = true then spec_l01Ok.l0 k ((i + 1 : Nat) : Int) h gs else some false else spec_l01Ok.l0 k ((i + 1 : Nat) : Int) h gs) else some false) (fun k => ?_) (Ev.bind (spec_group_ev h (grp gs i) (grp_len hr i) (by omega)) ?_)
      · simp only [spec_l01Ok.l0]
        rw [if_pos (by omega), if_pos (by omega), rdL_grp gs i hi, wr (x := (i : Int) + 1) (by omega) (by omega)]
        by_cases h0 : (i : Int) > 0
        · simp only [if_pos h0]
          rw [wr (x := (i : Int) - 1) (by omega) (by omega), if_pos (by omega), if_pos (by omega), show ((i : Int) - 1) = ((i - 1 : Nat) : Int) by omega, rdL_grp gs (i - 1) (by omega)]
          rfl
        · simp only [if_neg h0]
          rfl
      · cases hg : groupB h (grp gs i) with
        | false =>
          refine Ev.congr (fun k => ?_) he
          rw [← hf k, show okAt h gs i = false from by unfold okAt; rw [hg]; rfl]
          rfl
        | true =>
          simp only [if_true]
          by_cases h0 : (i : Int) > 0
          · simp only [if_pos h0]
            refine Ev.bind (spec_l01Before_ev _ _ (grp_len hr _) (grp_len hr _)) (Ev.congr (fun k => ?_) he)
            rw [← hf k, show okAt h gs i = ltB (grp gs (i - 1)) (grp gs i) from by unfold okAt; rw [hg, decide_eq_false (show ¬ i = 0 by omega)]; simp]
          · simp only [if_neg h0]
            refine Ev.congr (fun k => ?_) he
            rw [← hf k, show okAt h gs i = true from by unfold okAt; rw [hg, decide_eq_true (show i = 0 by omega)]; rfl]
            rfl
    have hgo : ∀ j : Nat, j < gs.length → okAt h gs j = true → ∀ t, Ev (fun k => spec_l01Ok.l0 k ((j + 1 : Nat) : Int) h gs) t → Ev (fun k => spec_l01Ok.l0 k (j : Int) h gs) t := fun j hj hq t ht => body j hj (fun k => by rw [if_pos hq]) ht
    have hstop : ∀ j : Nat, j < gs.length → okAt h gs j = false → Ev (fun k => spec_l01Ok.l0 k (j : Int) h gs) false := fun j hj hq => body j hj (f := fun _ => some false) (fun k => by rw [hq]; rfl) (Ev.now _)
    cases ha : (List.range gs.length).all (okAt h gs) with
    | false => exact stop_ev (l := fun k j => spec_l01Ok.l0 k j h gs) hgo hstop ha
    | true =>
      have hok : ∀ j, j < gs.length → okAt h gs j = true := fun j hj => List.all_eq_true.mp ha j (List.mem_range.mpr hj)
      have := scan_ev (l := fun k j => spec_l01Ok.l0 k j h gs) (fin := (List.range gs.length).all (apartAt gs)) (stop := false) hgo hstop (by
        refine Ev.step (fun k => ?_) (two hok)
        simp only [spec_l01Ok.l0]
        rw [if_neg (by omega)])
      rw [ha] at this
      rw [Bool.true_and]
      exact this

end Go.Proofs.YtijmdlhcidjpmaaDoor.P

namespace Go.Proofs.YtijmdlhcidjpmaaDoor.P
open Go.RowKit Go.Proofs.YtijmdlhcidjpmaaDoorW.PrintWords Go.Proofs.YtijmdlhcidjpmaaDoorW.PrintLast Go.Proofs.YtijmdlhcidjpmaaDoorW.PrintMore
attribute [local go_sem] max2_int min2_int max_two min_two max_three min_three max_four min_four
set_option linter.unusedVariables false
set_option linter.unusedSimpArgs false

/-- The holders of a set. -/
def membersN (x : Nat) : List Int := ((List.range 7).filter fun h => (x >>> h) &&& 1 == 1).map fun h : Nat => (h : Int)
theorem membersN_len (x : Nat) : (membersN x).length ≤ 7 := by
  unfold membersN
  rw [List.length_map]
  exact Nat.le_trans (List.length_filter_le _ _) (by simp)
def foldN (op : Nat → Nat → Nat) (x : Nat) (gs : List (List Int)) : Nat := gs.foldl (fun m g => op m (maskN g)) x
theorem foldN_take (op : Nat → Nat → Nat) (x : Nat) (gs : List (List Int)) (i : Nat) (h : i < gs.length) : foldN op x (gs.take (i + 1)) = op (foldN op x (gs.take i)) (maskN (grp gs i)) := by
  unfold foldN
  rw [List.take_succ_eq_append_getElem h, List.foldl_append]
  simp [grp, h]
theorem foldN_lt (op : Nat → Nat → Nat) (hop : ∀ a b, a < 128 → b < 128 → op a b < 128) (gs : List (List Int)) (hg : ∀ g ∈ gs, maskN g < 128) : ∀ x, x < 128 → foldN op x gs < 128 := by
  induction gs with
  | nil => exact fun x hx => hx
  | cons g gs ih =>
    intro x hx
    exact ih (fun g' h => hg g' (List.mem_cons_of_mem _ h)) _ (hop _ _ hx (hg g (List.mem_cons_self ..)))
theorem fam_groups {h : Int} {gs : List (List Int)} (hf : famB h gs = true) : (1 ≤ h ∧ h ≤ 7) ∧ ∀ i, i < gs.length → ∀ x ∈ grp gs i, 0 ≤ x ∧ x ≤ 6 := by
  unfold famB at hf
  have h1 := and2 hf
  have hh := of_decide_eq_true h1.1
  refine ⟨hh, fun i hi => group_small hh.2 (okAt_group (and2 (List.all_eq_true.mp h1.2 i (List.mem_range.mpr hi))).1)⟩
theorem fam_mask {h : Int} {gs : List (List Int)} (hf : famB h gs = true) : ∀ g ∈ gs, maskN g < 128 := fun g hg => by
  obtain ⟨i, hi, rfl⟩ := List.getElem_of_mem hg
  have := maskN_lt _ ((fam_groups hf).2 i hi)
  simpa [grp, hi] using this
theorem and_lt {x y : Nat} (hx : x < 128) : x &&& y < 128 := Nat.lt_of_le_of_lt Nat.and_le_left hx
theorem ands_lt (a b : Nat) (ha : a < 128) (_ : b < 128) : a &&& b < 128 := and_lt ha
theorem ors_lt (a b : Nat) (ha : a < 128) (hb : b < 128) : a ||| b < 128 := or_lt ha hb
def neededB (h : Int) (gs : List (List Int)) : List Int × Int := if famB h gs then (membersN (foldN (· ||| ·) 0 gs), 0) else ([], 1)
theorem foldN_mid {op : Nat → Nat → Nat} (hop : ∀ a b, a < 128 → b < 128 → op a b < 128) {gs : List (List Int)} (hg : ∀ g ∈ gs, maskN g < 128) {x : Nat} (hx : x < 128) (i : Nat) : foldN op x (gs.take i) < 128 := foldN_lt op hop _ (fun g h => hg g (List.mem_of_mem_take h)) x hx
theorem allI0 : ∀ h : Fin 8, wrap64 ((shl .i64 1 (IntKind.u64.wrap (h.val : Int))) - 1) = ((2 ^ h.val - 1 : Nat) : Int) := by decide +kernel
theorem allU0 : ∀ h : Fin 8, IntKind.u64.wrap ((shl .u64 1 (h.val : Int)) - 1) = ((2 ^ h.val - 1 : Nat) : Int) := by decide +kernel
theorem all_lt0 : ∀ h : Fin 8, 2 ^ h.val - 1 < 128 := by decide
def vetoB (h : Int) (gs : List (List Int)) : List Int × Int := if famB h gs then (membersN (foldN (· &&& ·) (2 ^ h.toNat - 1) gs), 0) else ([], 1)

end Go.Proofs.YtijmdlhcidjpmaaDoor.P

namespace Go.Proofs.YtijmdlhcidjpmaaDoor.P
open Go.RowKit Go.Proofs.YtijmdlhcidjpmaaDoorW.PrintWords Go.Proofs.YtijmdlhcidjpmaaDoorW.PrintLast Go.Proofs.YtijmdlhcidjpmaaDoorW.PrintMore
attribute [local go_sem] max2_int min2_int max_two min_two max_three min_three max_four min_four
set_option linter.unusedVariables false
set_option linter.unusedSimpArgs false

/-- A small number in decimal. -/
def decS (n : Int) : ByteArray := (impl_decimal.f n).getD (⟨#[]⟩ : ByteArray)
theorem dec_both : ∀ n : Fin 100, (spec_Decimal.f 3 (n.val : Int)).map (fun b => b.data.toList) = (impl_decimal.f (n.val : Int)).map (fun b => b.data.toList) ∧ (impl_decimal.f (n.val : Int)).isSome = true ∧ ((impl_decimal.f (n.val : Int)).getD (⟨#[]⟩ : ByteArray)).data.toList.length ≤ 2 := by decide +kernel
theorem bytes_ext {a b : ByteArray} (h : a.data.toList = b.data.toList) : a = b := by
  cases a with
  | mk a =>
    cases b with
    | mk b => exact congrArg ByteArray.mk (Array.toList_inj.mp h)
theorem impl_decimal_eq {n : Int} (h0 : 0 ≤ n) (h1 : n < 100) : impl_decimal.f n = some (decS n) := by
  have h := (dec_both ⟨n.toNat, by omega⟩).2.1
  rw [show (((⟨n.toNat, by omega⟩ : Fin 100).val : Nat) : Int) = n from by simp; omega] at h
  unfold decS
  cases e : impl_decimal.f n with
  | none => rw [e] at h; cases h
  | some r => rfl
theorem spec_Decimal_ev {n : Int} (h0 : 0 ≤ n) (h1 : n < 100) : Ev (fun k => spec_Decimal.f k n) (decS n) := by
  refine Ev.of (spec_Decimal.mono _) (k := 3) ?_
  have h := (dec_both ⟨n.toNat, by omega⟩).1
  rw [show (((⟨n.toNat, by omega⟩ : Fin 100).val : Nat) : Int) = n from by simp; omega, impl_decimal_eq h0 h1] at h
  cases e : spec_Decimal.f 3 n with
  | none => rw [e] at h; cases h
  | some r =>
    rw [e] at h
    exact congrArg some (bytes_ext (Option.some.inj h))
theorem decS_size {n : Int} (h0 : 0 ≤ n) (h1 : n < 100) : (decS n).size ≤ 2 := by
  have h := (dec_both ⟨n.toNat, by omega⟩).2.2
  rw [show (((⟨n.toNat, by omega⟩ : Fin 100).val : Nat) : Int) = n from by simp; omega] at h
  exact h
theorem strOfNums_size (l : List Int) : (strOfNums l).size = l.length := by simp [strOfNums, ByteArray.size]
theorem groupTextB_size (l : List Int) : (groupTextB l).size ≤ l.length + 1 := by
  unfold groupTextB
  by_cases h : l = []
  · rw [if_pos h]; exact Nat.succ_le_succ (Nat.zero_le _)
  · rw [if_neg h, strOfNums_size, letters_length]; omega
theorem risesB_wide {lo hi hi' : Int} (hh : hi ≤ hi') : ∀ (l : List Int) (o : Option Int), risesB lo hi o l = true → risesB lo hi' o l = true
  | [], _, _ => by simp [risesB]
  | a :: l, o, h => by
    cases o with
    | none =>
      simp only [risesB, Bool.and_eq_true, decide_eq_true_eq] at h ⊢
      exact ⟨⟨h.1.1, by omega⟩, risesB_wide hh l _ h.2⟩
    | some y =>
      simp only [risesB, Bool.and_eq_true, decide_eq_true_eq] at h ⊢
      exact ⟨⟨h.1.1, by omega⟩, h.2.1, risesB_wide hh l _ h.2.2⟩
theorem fam_group {h : Int} {gs : List (List Int)} (hf : famB h gs = true) (i : Nat) (hi : i < gs.length) : groupB 7 (grp gs i) = true := by
  have hh := (fam_groups hf).1
  unfold famB at hf
  have h1 := and2 hf
  exact risesB_wide (by omega) _ _ (okAt_group (and2 (List.all_eq_true.mp h1.2 i (List.mem_range.mpr hi))).1)
/-- The lines of the first groups. -/
def famTx (acc : ByteArray) (gs : List (List Int)) : ByteArray := gs.foldl (fun x g => x ++ (groupTextB g ++ (⟨#[10]⟩ : ByteArray))) acc
theorem famTx_take (acc : ByteArray) (gs : List (List Int)) (i : Nat) (h : i < gs.length) : famTx acc (gs.take (i + 1)) = famTx acc (gs.take i) ++ (groupTextB (grp gs i) ++ (⟨#[10]⟩ : ByteArray)) := by
  unfold famTx
  rw [List.take_succ_eq_append_getElem h, List.foldl_append]
  simp [grp, h]
theorem famTx_size (acc : ByteArray) (gs : List (List Int)) (hr : ∀ r ∈ gs, r.length ≤ 1048576) : (famTx acc gs).size ≤ acc.size + gs.length * 1048578 := by
  induction gs generalizing acc with
  | nil => simp [famTx]
  | cons g gs ih =>
    have h1 := ih (acc ++ (groupTextB g ++ (⟨#[10]⟩ : ByteArray))) (fun r h => hr r (List.mem_cons_of_mem _ h))
    have h2 := groupTextB_size g
    have h3 := hr g (List.mem_cons_self ..)
    have h4 : (acc ++ (groupTextB g ++ (⟨#[10]⟩ : ByteArray))).size = acc.size + ((groupTextB g).size + 1) := by simp only [ByteArray.size_append]; rfl
    show (famTx (acc ++ (groupTextB g ++ (⟨#[10]⟩ : ByteArray))) gs).size ≤ _
    rw [List.length_cons, Nat.succ_mul]
    omega
def famHead (h : Int) : ByteArray := (((⟨#[102, 97, 109, 105, 108, 121, 32]⟩ : ByteArray) ++ decS h) ++ (⟨#[10]⟩ : ByteArray))
def famTextB (h : Int) (gs : List (List Int)) : ByteArray := if famB h gs then famTx (famHead h) gs else (⟨#[]⟩ : ByteArray)
theorem famHead_size {h : Int} (hh : 1 ≤ h ∧ h ≤ 7) : (famHead h).size ≤ 10 := by
  have := decS_size (n := h) (by omega) (by omega)
  unfold famHead
  simp only [ByteArray.size_append]
  have e1 : (⟨#[102, 97, 109, 105, 108, 121, 32]⟩ : ByteArray).size = 7 := rfl
  have e2 : (⟨#[10]⟩ : ByteArray).size = 1 := rfl
  omega
theorem step_size {acc : ByteArray} {g : List Int} (ha : acc.size ≤ 4611686018427387904) (hg : g.length ≤ 1048576) : (groupTextB g).size + 1 ≤ 9223372036854775807 ∧ acc.size + (groupTextB g ++ (⟨#[10]⟩ : ByteArray)).size ≤ 9223372036854775807 := by
  have h2 := groupTextB_size g
  have h4 : (groupTextB g ++ (⟨#[10]⟩ : ByteArray)).size = (groupTextB g).size + 1 := by simp only [ByteArray.size_append]; rfl
  omega
theorem head_ifs {α : Type} {h : Int} (hh : 1 ≤ h ∧ h ≤ 7) (x y z : Option α) : (if 7 + (decS h).size ≤ 9223372036854775807 then (if ((⟨#[102, 97, 109, 105, 108, 121, 32]⟩ : ByteArray) ++ decS h).size + 1 ≤ 9223372036854775807 then x else y) else z) = x := by
  have hd := decS_size (n := h) (by omega) (by omega)
  have h4 : ((⟨#[102, 97, 109, 105, 108, 121, 32]⟩ : ByteArray) ++ decS h).size = 7 + (decS h).size := by simp only [ByteArray.size_append]; rfl
  rw [if_pos (by omega), if_pos (by omega)]
theorem mid_size {h : Int} {gs : List (List Int)} (hh : 1 ≤ h ∧ h ≤ 7) (hl : gs.length ≤ 1048576) (hr : ∀ r ∈ gs, r.length ≤ 1048576) (i : Nat) : (famTx (famHead h) (gs.take i)).size ≤ 4611686018427387904 := by
  have h1 := famTx_size (famHead h) (gs.take i) (fun r h => hr r (List.mem_of_mem_take h))
  have h2 := famHead_size hh
  have h3 : (gs.take i).length ≤ 1048576 := by rw [List.length_take]; omega
  have h4 : (gs.take i).length * 1048578 ≤ 1048576 * 1048578 := Nat.mul_le_mul_right _ h3
  omega
theorem spec_FamilyText_ev (h : Int) (gs : List (List Int)) (hl : gs.length ≤ 1048576) (hr : ∀ r ∈ gs, r.length ≤ 1048576) : Ev (fun k => spec_FamilyText.f k h gs) (famTextB h gs) := by
  unfold spec_FamilyText.f famTextB
  refine Ev.bind (spec_l01Ok_ev h gs (by omega) (fun r hx => Nat.le_trans (hr r hx) (by omega))) ?_
  cases hf : famB h gs with
  | false => exact Ev.now _
  | true =>
    have hh := (fam_groups hf).1
    simp only [if_true]
    refine Ev.bind (spec_Decimal_ev (n := h) (by omega) (by omega)) ?_
    simp only [head_ifs hh]
    have key : ∀ d i : Nat, i + d = gs.length → Ev (fun k => spec_FamilyText.l0 k (famTx (famHead h) (gs.take i)) (i : Int) h gs) (famTx (famHead h) gs) := by
      intro d
      induction d with
      | zero =>
        intro i hi
        rw [List.take_of_length_le (by omega)]
        refine Ev.step (f := fun _ => some (famTx (famHead h) gs)) (fun k => ?_) (Ev.now _)
        simp only [spec_FamilyText.l0]
        rw [if_neg (by omega)]
      | succ d ih =>
        intro i hi
        have hlt : i < gs.length := by omega
        have hn := ih (i + 1) (by omega)
        rw [famTx_take _ _ _ hlt] at hn
        have hs := step_size (acc := famTx (famHead h) (gs.take i)) (g := grp gs i) (mid_size hh hl hr i) (grp_len hr i)
        have hg := spec_GroupText_ev (grp gs i) (grp_len hr i)
        rw [fam_group hf i hlt, if_pos rfl] at hg
        refine Ev.step (f := fun k => (spec_GroupText.f k (grp gs i)).bind fun t => if t.size + 1 ≤ 9223372036854775807 then (if (famTx (famHead h) (gs.take i)).size + (t ++ (⟨#[10]⟩ : ByteArray)).size ≤ 9223372036854775807 then spec_FamilyText.l0 k (famTx (famHead h) (gs.take i) ++ (t ++ (⟨#[10]⟩ : ByteArray))) ((i + 1 : Nat) : Int) h gs else none) else none) (fun k => ?_) (Ev.bind hg ?_)
        · simp only [spec_FamilyText.l0]
          rw [if_pos (by omega), if_pos (by omega), rdL_grp gs i hlt, wr (by omega) (by omega)]
          rfl
        · simp only [if_pos hs.1, if_pos hs.2]
          exact hn
    exact key gs.length 0 (by omega)
theorem impl_FamilyText_ev (h : Int) (gs : List (List Int)) (hl : gs.length ≤ 1048576) (hr : ∀ r ∈ gs, r.length ≤ 1048576) : Ev (fun k => impl_FamilyText.f k h gs) (famTextB h gs) := by
  unfold impl_FamilyText.f famTextB
  refine Ev.bind (impl_ValidFamily_ev h gs (by omega) (fun r hx => Nat.le_trans (hr r hx) (by omega))) ?_
  cases hf : famB h gs with
  | false => exact Ev.now _
  | true =>
    have hh := (fam_groups hf).1
    simp only [if_true, impl_decimal_eq (n := h) (by omega) (by omega), Option.bind_some, head_ifs hh]
    have key : ∀ d i : Nat, i + d = gs.length → Ev (fun k => impl_FamilyText.l0 k (famTx (famHead h) (gs.take i)) gs (gs.length : Int) (i : Int)) (famTx (famHead h) gs) := by
      intro d
      induction d with
      | zero =>
        intro i hi
        rw [List.take_of_length_le (by omega)]
        refine Ev.step (f := fun _ => some (famTx (famHead h) gs)) (fun k => ?_) (Ev.now _)
        simp only [impl_FamilyText.l0]
        rw [if_neg (by omega)]
      | succ d ih =>
        intro i hi
        have hlt : i < gs.length := by omega
        have hn := ih (i + 1) (by omega)
        rw [famTx_take _ _ _ hlt] at hn
        have hs := step_size (acc := famTx (famHead h) (gs.take i)) (g := grp gs i) (mid_size hh hl hr i) (grp_len hr i)
        refine Ev.step (f := fun k => (impl_groupText.f k (grp gs i)).bind fun t => if t.size + 1 ≤ 9223372036854775807 then (if (famTx (famHead h) (gs.take i)).size + (t ++ (⟨#[10]⟩ : ByteArray)).size ≤ 9223372036854775807 then impl_FamilyText.l0 k (famTx (famHead h) (gs.take i) ++ (t ++ (⟨#[10]⟩ : ByteArray))) gs (gs.length : Int) ((i + 1 : Nat) : Int) else none) else none) (fun k => ?_) (Ev.bind (impl_groupText_ev (grp gs i) (grp_len hr i)) ?_)
        · simp only [impl_FamilyText.l0]
          rw [if_pos (by omega), if_pos (by omega), if_pos (by omega), rdL_grp gs i hlt, wr (by omega) (by omega)]
          rfl
        · simp only [if_pos hs.1, if_pos hs.2]
          exact hn
    exact key gs.length 0 (by omega)

end Go.Proofs.YtijmdlhcidjpmaaDoor.P

namespace Go.Proofs.YtijmdlhcidjpmaaDoor.P
open Go.RowKit Go.Proofs.YtijmdlhcidjpmaaDoorW.PrintWords Go.Proofs.YtijmdlhcidjpmaaDoorW.PrintLast Go.Proofs.YtijmdlhcidjpmaaDoorW.PrintMore
attribute [local go_sem] max2_int min2_int max_two min_two max_three min_three max_four min_four
set_option linter.unusedVariables false
set_option linter.unusedSimpArgs false

/-- What holds from some number of rounds on. -/
def From (P : Nat → Prop) : Prop := ∃ K, ∀ k, K ≤ k → P k
theorem From.and {P Q : Nat → Prop} (hp : From P) (hq : From Q) : From fun k => P k ∧ Q k := by
  obtain ⟨K, hK⟩ := hp
  obtain ⟨L, hL⟩ := hq
  exact ⟨max K L, fun k h => ⟨hK k (by omega), hL k (by omega)⟩⟩
theorem From.ever {P : Prop} (h : P) : From fun _ => P := ⟨0, fun _ _ => h⟩
theorem From.now {P : Nat → Prop} (h : From P) : ∃ k, P k := by
  obtain ⟨K, hK⟩ := h
  exact ⟨K, hK K (Nat.le_refl _)⟩
theorem range_same {α : Type} [DecidableEq α] (a b : List α) (h : a.length = b.length) : (List.range a.length).all (fun i => decide (a[i]? = b[i]?)) = decide (a = b) := by
  rw [Bool.eq_iff_iff, List.all_eq_true, decide_eq_true_iff]
  constructor
  · intro hq
    refine List.ext_getElem? fun i => ?_
    by_cases hi : i < a.length
    · exact of_decide_eq_true (hq i (by simpa using hi))
    · rw [List.getElem?_eq_none (by omega), List.getElem?_eq_none (by omega)]
  · rintro rfl i _
    exact decide_eq_true rfl
/-- A loop that compares two lists of one length, place by place. -/
theorem same_ev {α : Type} [DecidableEq α] (a b : List α) (hab : a.length = b.length) {l : Nat → Int → Option Bool}
    (hgo : ∀ (i : Nat) (h1 : i < a.length) (h2 : i < b.length), a[i] = b[i] → ∀ r, Ev (fun k => l k ((i + 1 : Nat) : Int)) r → Ev (fun k => l k (i : Int)) r)
    (hstop : ∀ (i : Nat) (h1 : i < a.length) (h2 : i < b.length), a[i] ≠ b[i] → Ev (fun k => l k (i : Int)) false)
    (hend : Ev (fun k => l k (a.length : Int)) true) : Ev (fun k => l k 0) (decide (a = b)) := by
  have h := scan_ev (l := l) (n := a.length) (q := fun i => decide (a[i]? = b[i]?)) (fin := true) (stop := false)
    (fun i hi hq t ht => by
      have h2 : i < b.length := by omega
      have hq' := of_decide_eq_true hq
      rw [List.getElem?_eq_getElem hi, List.getElem?_eq_getElem h2, Option.some.injEq] at hq'
      exact hgo i hi h2 hq' t ht)
    (fun i hi hq => by
      have h2 : i < b.length := by omega
      have hq' := of_decide_eq_false hq
      rw [List.getElem?_eq_getElem hi, List.getElem?_eq_getElem h2, Option.some.injEq] at hq'
      exact hstop i hi h2 hq')
    hend
  rw [range_same a b hab] at h
  have e : (if decide (a = b) = true then true else false) = decide (a = b) := by cases decide (a = b) <;> rfl
  rwa [e] at h

end Go.Proofs.YtijmdlhcidjpmaaDoor.P

namespace Go.Proofs.YtijmdlhcidjpmaaDoor.P
open Go.RowKit Go.Proofs.YtijmdlhcidjpmaaDoorW.PrintWords Go.Proofs.YtijmdlhcidjpmaaDoorW.PrintLast Go.Proofs.YtijmdlhcidjpmaaDoorW.PrintMore
attribute [local go_sem] max2_int min2_int max_two min_two max_three min_three max_four min_four
set_option linter.unusedVariables false
set_option linter.unusedSimpArgs false

theorem szFamily_ev (p : Int) (rows : List (List Int)) (a : Int) (ha : 0 ≤ a ∧ a ≤ 1048576) (hl : rows.length ≤ 9223372036854775807) (hr : ∀ r ∈ rows, r.length ≤ 9223372036854775807) :
    Ev (fun k => laws_szFamily.f k p rows a) (if (bulk rows : Int) ≤ a then a - bulk rows else -1) := by
  unfold laws_szFamily.f
  refine Ev.bind (szInt64SS_ev rows a ha hl hr) ?_
  by_cases h : (bulk rows : Int) ≤ a
  · simp only [if_pos h, if_neg (show ¬ (a - (bulk rows : Int) < 0) by omega)]
    exact Ev.now _
  · simp only [if_neg h]
    exact Ev.now _
theorem toFamily_ev (p : Int) (l : List (List Int)) (hl : l.length ≤ 1048576) (hr : ∀ r ∈ l, r.length ≤ 1048576) : Ev (fun k => laws_toFamily.f k p l) (p, l) := by
  unfold laws_toFamily.f
  exact Ev.bind (toInt64SS_ev l hl hr) (Ev.now _)
theorem eqFamily_same (p : Int) (l : List (List Int)) (hl : l.length ≤ 1048576) (hr : ∀ r ∈ l, r.length ≤ 1048576) : Ev (fun k => laws_eqFamily.f k p l p l) true := by
  unfold laws_eqFamily.f
  simp only [if_true]
  refine Ev.bind (eqInt64SS_same l hl hr) ?_
  simp only [if_true]
  exact Ev.now _

end Go.Proofs.YtijmdlhcidjpmaaDoor.P

/- For every family the program's FamilyText and the reference's answer alike, and the argument stays. -/
namespace Go.Proofs.YtijmdlhcidjpmaaDoor.Pure
open Go.RowKit Go.Proofs.YtijmdlhcidjpmaaDoor.P Go.Proofs.YtijmdlhcidjpmaaDoorW.PrintWords Go.Proofs.YtijmdlhcidjpmaaDoorW.PrintLast Go.Proofs.YtijmdlhcidjpmaaDoorW.PrintMore
set_option linter.unusedVariables false
set_option linter.unusedSimpArgs false

theorem FnExactFamilyText : laws_FnExactFamilyText.Pure := by
  intro x hx
  obtain ⟨xp, xs⟩ := x
  have hl : xs.length ≤ 9223372036854775807 := hx.2.1
  have hr : ∀ r ∈ xs, r.length ≤ 9223372036854775807 := fun r h => (hx.2.2 r h).1
  have s1 := szFamily_ev xp xs 1048576 (by omega) hl hr
  by_cases h : (bulk xs : Int) ≤ 1048576
  · rw [if_pos h] at s1
    obtain ⟨h1, h2⟩ := bulk_len (rows := xs) (n := 1048576) (by omega)
    have h4 : xs.length ≤ 4611686018427387904 := by omega
    have h3 : ∀ r ∈ xs, r.length ≤ 4611686018427387904 := fun r hr => Nat.le_trans (h2 r hr) (by omega)
    obtain ⟨k, a1, a2, a3, a4, a5⟩ := From.now (From.and s1 (From.and (toFamily_ev xp xs h1 h2) (From.and (spec_FamilyText_ev xp xs h1 h2) (From.and (impl_FamilyText_ev xp xs h1 h2) (eqFamily_same xp xs h1 h2)))))
    exact Or.inr ⟨k, _, _, a1, decide_eq_false (by omega), a2, a3, a2, a4, a2, a5⟩
  · rw [if_neg h] at s1
    obtain ⟨k, a1⟩ := From.now s1
    exact Or.inl ⟨k, _, a1, by decide⟩

end Go.Proofs.YtijmdlhcidjpmaaDoor.Pure

/- The row of the law FnExactFamilyText: whatever its arguments, it answers true, and they read as before. No condition. -/
namespace Go.Proofs.YtijmdlhcidjpmaaDoor.fnExactFamilyText
open Go.ChangeShapes Go.WideShapes Go.ChangeAt Go.RowKit Go.Proofs.YtijmdlhcidjpmaaDoor.P Go.Proofs.YtijmdlhcidjpmaaDoorW.PrintWords Go.Proofs.YtijmdlhcidjpmaaDoorW.PrintLast Go.Proofs.YtijmdlhcidjpmaaDoorW.PrintMore
open Go.ChangeMaps (open_string shut_string)
set_option linter.unusedVariables false
theorem own : ownKnob Tryd.prog.godebug = none := by kernel_rfl
def laids : List (String × DataW Unit) := Rows.fnExactFamilyTextRow.laid
theorem door_met (os : Os) (args : Array Value) : laidMetH Tryd.prog laids ((World.doorLaid Tryd.prog 400 os).forCall (fun _ _ => 0) ⟨#[], args, []⟩).memory :=
  laidMetH_of_parts3 (fuel := 8) (laidMet_of_run' 8 (by kernel_rfl) (by kernel_rfl)) (by kernel_rfl) (by kernel_rfl)
theorem laidOut : laidOutB Tryd.prog = true := by kernel_rfl
set_option maxRecDepth 100000 in
theorem lifted (os : Os) (started : os.Started) (H : Type) (enc : TypeId × Value → H) :
    ReturnsInHanded {} Tryd.checked os 4 .any (fun w args => (Rows.fnExactFamilyTextSpec.pre enc Tryd.prog Tryd.f4 Rows.fnExactFamilyTextRow.domain false w args ∧ laidMetH Tryd.prog laids w) ∧ sizedMet enc Tryd.prog Tryd.f4 (OpenSpec.ofChange Rows.fnExactFamilyTextSpec) false w args) (Rows.fnExactFamilyTextSpec.post enc Tryd.prog Tryd.f4 false true false false) := by
  refine returnsInHanded_of_change_and (C := Tryd.checked) (X := fun w _ => laidMetH Tryd.prog laids w) (fun _ _ _ hh h => h.of_heap hh) own started (by kernel_rfl) Tryd.func4
    (ChangeSpec.witness_shaped (enc := enc) (C := Tryd.checked) (os := os) (X := fun w _ => laidMetH Tryd.prog laids w) false (World.doorLaid Tryd.prog 400 os) #[.agg #[.int .i64 0, .slice none 0 0]] 8 rfl (World.shaped_of_RefB (by kernel_rfl) (by kernel_rfl)) (by kernel_rfl) (by kernel_rfl) (by kernel_rfl) (door_met os _)) ?_
  intro W base args ds gs before hval0 hW _ _ hL _
  have hval : ∀ (j : Nat) t v, Tryd.f4.params[j]? = some t → args[j]? = some v → Value.okWide Tryd.prog W .any base t v := hval0
  have hW' := hW
  obtain ⟨p, q, hA0, hV, rfl, hfz, hnd⟩ := hW
  have hA : DataW.TrodAll enc Tryd.prog W 0 (fun _ => true) true Tryd.f4.params.toList args.toList ds p := hA0
  rw [Tryd.params4] at hA hval
  obtain ⟨v0, vs0, d0, ds0, p0, q0, hargs, rfl, rfl, h0, r0⟩ := trodAll_cons hA
  obtain ⟨rfl, rfl, rfl⟩ := trodAll_nil r0
  obtain rfl : args = #[v0] := by cases args; simp_all
  obtain ⟨rfl, rfl⟩ := trodVars_none hV
  have k0 := h0
  have lt0 : ∀ x ∈ p0, x.block < W.heap.size := by obtain ⟨m, hm⟩ := k0; exact DataW.trod_lt m _ _ _ hm
  obtain ⟨cs0, rfl, _⟩ := okWide_struct Tryd.underlying32 (hval 0 32 v0 rfl rfl)
  obtain ⟨x0, hK0, wf0⟩ := OpensAt.any opensS32 h0
  obtain ⟨A0_1, c0_1, e0, l0_1, g0_1⟩ := k32_open hK0
  obtain rfl : cs0 = #[.int .i64 x0.f0, .slice A0_1 x0.f1.length c0_1] := by cases cs0; simpa [Value.cells] using e0
  clear hA0 hval0
  refine (P.laws_FnExactFamilyText.walk Pure.FnExactFamilyText x0 _ _ W g0_1 l0_1 wf0).mono fun e W' ⟨he, bel⟩ => ?_
  subst he
  exact ⟨_, rfl, _, _, _, [], _, [], hW', trodAll_mk1 (shut_bool Tryd.underlying4 _), (trodAll_cons_mk (Below.trod laidOut (by kernel_rfl) (of_decide_eq_true (by kernel_rfl)) k0 bel lt0) trodAll_mk0), rfl, bel.frame _, fun h => by cases h⟩
theorem over : Rows.fnExactFamilyTextRow.holds Tryd.pinned (OpenSpec.ofChange Rows.fnExactFamilyTextSpec) :=
  OpenClaim.holds_of_wide 4 Tryd.f4 rfl rfl rfl rfl rfl rfl rfl ⟨rfl, rfl, rfl, rfl, rfl⟩ rfl rfl rfl rfl rfl (by kernel_rfl) Tryd.func4 (by kernel_rfl)
    (of_decide_eq_true (by kernel_rfl)) (by unfold Func.isWrapper; first | (rw [if_pos (by decide +kernel)]; kernel_rfl) | (rw [if_neg (by decide +kernel)]; exact ⟨rfl, rfl⟩))
    (fun os started H enc _ => lifted os started H enc)
theorem proved : Rows.FnExactFamilyTextSaid := over
#print axioms proved
end Go.Proofs.YtijmdlhcidjpmaaDoor.fnExactFamilyText
namespace Go.Proofs.YtijmdlhcidjpmaaDoor
/-- The row, under a short name, for the claim. -/
theorem fnExactFamilyText_holds : Rows.FnExactFamilyTextCardSaid :=
  Claim7.holds_tied_plain_at .later [] [.data, .data, .data] true (true, "76b177948d0ae43f40923df544757246c1822bc94295df3ba3acdd2cf38c500f") true
    fnExactFamilyText.proved (fun _ h => by cases h) (by kernel_rfl) (fun _ h => by cases h) fnExactFamilyText_row_tie rfl ⟨rfl, rfl⟩ (by kernel_rfl) rfl
    (fun f fn hf hfn => by
      obtain rfl : f = 4 := Option.some.inj ((show Tryd.prog.funcNamed "loop.example/g01117/laws.FnExactFamilyText" = some 4 by kernel_rfl).symm.trans hf) |>.symm
      obtain rfl : fn = Tryd.f4 := (Option.some.inj (Tryd.func4.symm.trans hfn)).symm
      exact ⟨by kernel_rfl, fun j t ht => by
        rw [Tryd.params4] at ht
        have hm : t ∈ [32] := by simpa using Array.mem_of_getElem? ht
        have hall : ([32].all fun u => !Tryd.prog.wantsStandIn u) = true := by kernel_rfl
        exact (show Tryd.prog.wantsStandIn t = false by simpa using List.all_eq_true.1 hall t hm)⟩)
    (by kernel_rfl)
#print axioms fnExactFamilyText_holds
end Go.Proofs.YtijmdlhcidjpmaaDoor
