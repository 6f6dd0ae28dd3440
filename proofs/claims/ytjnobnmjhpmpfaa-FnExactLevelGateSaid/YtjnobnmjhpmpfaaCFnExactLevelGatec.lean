/- For all sizes and leasts the program's LevelGate and the reference's answer alike, the arguments stay, and the result is memory of its own. This text: the theorem of the row, and part 3 of what it rests on. -/
import Derived.Test.YtjnobnmjhpmpfaaCFnExactLevelGateb
import Derived.Below
import Derived.Carry
import Derived.ChangeArms
import Derived.ChangeOld
import Derived.Deep.Slices
import Derived.OpenShut
import Derived.ProofKit
import Derived.ShutString
import Derived.SizedLaws
import Derived.Test.YtjnobnmjhpmpfaaRows
import Derived.WalkKit
import Derived.WideShapes
namespace Go.Proofs.Ytjnobnmjhpmpfaa.P
open Go.RowKit Go.Proofs.YtjnobnmjhpmpfaaW.PrintWords Go.Proofs.YtjnobnmjhpmpfaaW.PrintLast Go.Proofs.YtjnobnmjhpmpfaaW.PrintMore
attribute [local go_sem] max2_int min2_int max_two min_two max_three min_three max_four min_four
set_option linter.unusedVariables false
set_option linter.unusedSimpArgs false

/-! ### laws_eqGateS: function 46 -/
mutual
def laws_eqGateS.l0 : Nat → List (S29) → List (S29) → Int → Option (Bool)
  | 0, _, _, _ => none
  | k + 1, x0, x1, x5 => if x5 < (x0.length : Int) then (if 0 ≤ x5 then (if x5 < (x1.length : Int) then ((laws_eqGate.f k ((rd_T29 x0 x5).f0) ((rd_T29 x0 x5).f1) ((rd_T29 x0 x5).f2) ((rd_T29 x1 x5).f0) ((rd_T29 x1 x5).f1) ((rd_T29 x1 x5).f2)).bind fun t124 => (if t124 = true then (laws_eqGateS.l0 k x0 x1 (wrap64 (x5 + 1))) else (some false))) else (none)) else (none)) else (some true)
def laws_eqGateS.f : Nat → List (S29) → List (S29) → Option (Bool)
  | 0, _, _ => none
  | k + 1, l0, l1 => if (l0.length : Int) = (l1.length : Int) then (laws_eqGateS.l0 k l0 l1 0) else (some false)
def laws_eqGate.f : Nat → Int → Int → (List (S29)) → Int → Int → (List (S29)) → Option (Bool)
  | 0, _, _, _, _, _, _ => none
  | k + 1, a0_0, a0_1, l0_2, a1_0, a1_1, l1_2 => if a0_0 = a1_0 then (if a0_1 = a1_1 then ((laws_eqGateS.f k l0_2 l1_2).bind fun t121 => (if t121 = true then (some true) else (some false))) else (some false)) else (some false)
end
def laws_eqGateS.T6 : Bool × List (List Nat × List Nat) := (true, [([], []), ([], []), ([0, 1], [0, 1]), ([2], [2]), ([], []), ([], []), ([4, 5], [4, 5]), ([6], [6]), ([3, 7], [3, 7]), ([8], [8])])
def laws_eqGateS.B6 : List Nat := [0, 0, 3, 7, 0, 0, 48, 112, 255, 511]
theorem laws_eqGateS.tab6 : rtab .any (opsOf Try.f46 6) = laws_eqGateS.T6 := by kernel_rfl
theorem laws_eqGateS.bits6 : waitsOk laws_eqGateS.T6.2 laws_eqGateS.B6 = true := by kernel_rfl
set_option maxHeartbeats 8000000 in
set_option maxRecDepth 100000 in
theorem laws_eqGate.calls_of (k : Nat) (IH : ∀ (A0 : Option Addr) (c0 : Nat) (l0 : List (S29)) (A1 : Option Addr) (c1 : Nat) (l1 : List (S29)) (r : Bool) (w : World) (hr0 : Kd.C k29 w A0 l0.length l0) (hc0 : l0.length ≤ c0) (hr1 : Kd.C k29 w A1 l1.length l1) (hc1 : l1.length ≤ c1) (h : laws_eqGateS.f k l0 l1 = some r), Calls Try.prog 46 #[.slice A0 l0.length c0, .slice A1 l1.length c1] w fun e w' => e = .returned (.bool r) ∧ Below w.heap.size w w') (a0_0 : Int) (a0_1 : Int) (A0_2 : Option Addr) (c0_2 : Nat) (l0_2 : List (S29)) (a1_0 : Int) (a1_1 : Int) (A1_2 : Option Addr) (c1_2 : Nat) (l1_2 : List (S29)) (r : Bool) (w : World) (hr0_2 : Kd.C k29 w A0_2 l0_2.length l0_2) (hc0_2 : l0_2.length ≤ c0_2) (hr1_2 : Kd.C k29 w A1_2 l1_2.length l1_2) (hc1_2 : l1_2.length ≤ c1_2) (h : laws_eqGate.f (k + 1) a0_0 a0_1 l0_2 a1_0 a1_1 l1_2 = some r) :
    Calls Try.prog 16 #[.agg #[.int .i64 a0_0, .int .i64 a0_1, .slice A0_2 l0_2.length c0_2], .agg #[.int .i64 a1_0, .int .i64 a1_1, .slice A1_2 l1_2.length c1_2]] w fun e w' => e = .returned (.bool r) ∧ Below w.heap.size w w' := by
  simp only [laws_eqGate.f] at h
  have hu29 := Try.underlying29
  have HR0_2 := Aside0.mk hr0_2
  have HC0_2 := Aside0.mk hc0_2
  clear hr0_2 hc0_2
  have HR1_2 := Aside0.mk hr1_2
  have HC1_2 := Aside0.mk hc1_2
  clear hr1_2 hc1_2
  have HB := Aside0.mk (Below.refl w.heap.size w)
  have H : (if a0_0 = a1_0 then (if a0_1 = a1_1 then ((laws_eqGateS.f k l0_2 l1_2).bind fun t121 => (if t121 = true then (some true) else (some false))) else (some false)) else (some false)) = some r := h
  clear h
  by_cases c3 : a0_0 = a1_0
  · rw [if_pos c3] at H
    have c3b0 : (a0_0 == a1_0) = true := beq_iff_eq.mpr c3
    have c3b1 : (a0_0 != a1_0) = false := bne_eq_false_iff_eq.mpr c3
    clear c3
    by_cases c4 : a0_1 = a1_1
    · rw [if_pos c4] at H
      have c4b0 : (a0_1 == a1_1) = true := beq_iff_eq.mpr c4
      have c4b1 : (a0_1 != a1_1) = false := bne_eq_false_iff_eq.mpr c4
      clear c4
      replace H := Option.bind_eq_some_iff.mp H
      obtain ⟨t121, A50, H⟩ := H
      replace H : (if t121 = true then (some true) else (some false)) = some r := H
      have A5 := Aside0.mk A50
      clear A50
      by_cases c6 : t121 = true
      · subst c6
        have H1 : (some true) = some r := by rw [if_pos rfl] at H; exact H
        clear H
        have H := H1
        clear H1
        obtain rfl := Option.some.inj H
        go_enter Try.func16, Try.ntmps16
        go_wp2_with (first | ((with_reducible refine gate_dst (N := 2) rfl ?_); refine box_event ?hg (N := 2) ?hd (cs := #[.int .i64 a0_0, .int .i64 a0_1, .slice A0_2 l0_2.length c0_2]) (t := 29) ?hr ?_; (case hd => rfl); (case hg => rfl); (case hr => first | (go_simp; done) | (go_simp; rfl)); intro gb119 hg w7 hbox hb; have n0_ := Aside0.mk (below_step (by repeat (first | (with_reducible first | exact HB.out | apply below_alloc | apply pw_below_drewN | apply below_drew1) | exact HB.out)) hb); have n1_ := Aside0.mk (hbox); have n2_ := Aside0.mk ((by rw [hg]; exact (below_size (by repeat (first | (with_reducible first | exact HB.out | apply below_alloc | apply pw_below_drewN | apply below_drew1) | exact HB.out))) : w.heap.size ≤ gb119)); have n3_ := Aside0.mk ((by rw [hg]; exact (below_size (by repeat (first | (with_reducible first | exact HB.out | apply below_alloc | apply pw_below_drewN | apply below_drew1) | exact HB.out))) : w.heap.size ≤ gb119)); clear HB; have HB := n0_; have BK119 := n1_; have GW119 := n2_; have GE119 := n3_; clear n0_ n1_ n2_ n3_; clear hb hbox hg) | ((with_reducible refine gate_dst (N := 3) rfl ?_); refine box_event ?hg (N := 3) ?hd (cs := #[.int .i64 a1_0, .int .i64 a1_1, .slice A1_2 l1_2.length c1_2]) (t := 29) ?hr ?_; (case hd => rfl); (case hg => rfl); (case hr => first | (go_simp; done) | (go_simp; rfl)); intro gb120 hg w8 hbox hb; have n0_ := Aside0.mk (blk_below (g := gb119) (o := .cells #[.int .i64 a0_0, .int .i64 a0_1, .slice A0_2 l0_2.length c0_2] 29 (0, 0)) (by (with_reducible repeat (first | refine blk_drewN ?_ _ | refine blk_drew ?_ | refine blk_alloc ?_ _)); exact BK119.out) hb); have n1_ := Aside0.mk (below_step (by repeat (first | (with_reducible first | exact HB.out | apply below_alloc | apply pw_below_drewN | apply below_drew1 | refine below_set ?_ GE119.out) | exact HB.out)) hb); have n2_ := Aside0.mk (hbox); have n3_ := Aside0.mk ((by rw [hg]; exact (below_size (by repeat (first | (with_reducible first | exact HB.out | apply below_alloc | apply pw_below_drewN | apply below_drew1 | refine below_set ?_ GE119.out) | exact HB.out))) : w.heap.size ≤ gb120)); have n4_ := Aside0.mk ((by rw [hg]; exact (below_size (by repeat (first | (with_reducible first | exact HB.out | apply below_alloc | apply pw_below_drewN | apply below_drew1 | refine below_set ?_ GE119.out) | exact HB.out))) : w.heap.size ≤ gb120)); have n5_ := Aside0.mk ((by rw [hg]; exact Nat.ne_of_lt (blk_lt (g := gb119) (o := .cells #[.int .i64 a0_0, .int .i64 a0_1, .slice A0_2 l0_2.length c0_2] 29 (0, 0)) (by (with_reducible repeat (first | refine blk_drewN ?_ _ | refine blk_drew ?_ | refine blk_alloc ?_ _)); exact BK119.out)) : gb119 ≠ gb120)); have n6_ := Aside0.mk ((by rw [hg]; exact Nat.ne_of_gt (blk_lt (g := gb119) (o := .cells #[.int .i64 a0_0, .int .i64 a0_1, .slice A0_2 l0_2.length c0_2] 29 (0, 0)) (by (with_reducible repeat (first | refine blk_drewN ?_ _ | refine blk_drew ?_ | refine blk_alloc ?_ _)); exact BK119.out)) : gb120 ≠ gb119)); clear BK119; clear HB; have BK119 := n0_; have HB := n1_; have BK120 := n2_; have GW120 := n3_; have GE120 := n4_; have NB119_120 := n5_; have NB120_119 := n6_; clear n0_ n1_ n2_ n3_ n4_ n5_ n6_; clear hb hbox hg; have hnb9 := NB119_120.out; have hnc9 := NB120_119.out; have hcz10_0 : w8.cell? ⟨gb119, 0, none⟩ = some (.int .i64 a0_0) := (blk_cell BK119.out 0).trans rfl; have hcz10_1 : w8.cell? ⟨gb119, 1, none⟩ = some (.int .i64 a0_1) := (blk_cell BK119.out 1).trans rfl; have hcz10_2 : w8.cell? ⟨gb119, 2, none⟩ = some (.slice A0_2 l0_2.length c0_2) := (blk_cell BK119.out 2).trans rfl; have hfz10_0 := blk_frozen BK119.out 0; have hfz10_1 := blk_frozen BK119.out 1; have hfz10_2 := blk_frozen BK119.out 2; have hcz11_0 : w8.cell? ⟨gb120, 0, none⟩ = some (.int .i64 a1_0) := (blk_cell BK120.out 0).trans rfl; have hcz11_1 : w8.cell? ⟨gb120, 1, none⟩ = some (.int .i64 a1_1) := (blk_cell BK120.out 1).trans rfl; have hcz11_2 : w8.cell? ⟨gb120, 2, none⟩ = some (.slice A1_2 l1_2.length c1_2) := (blk_cell BK120.out 2).trans rfl; have hfz11_0 := blk_frozen BK120.out 0; have hfz11_1 := blk_frozen BK120.out 1; have hfz11_2 := blk_frozen BK120.out 2) | ((with_reducible refine gate_callee (f := 46) rfl ?_); refine goesL_ (some 19) rfl rfl Try.func46 (by kernel_rfl) rfl #[.slice A0_2 l0_2.length c0_2, .slice A1_2 l1_2.length c1_2] rfl (by (try simp only [List.map_toArray, List.map_cons, List.map_nil]); first | done | rfl | (simp only [List.length_drop, List.length_take]; rfl)) ?_; (with_reducible refine (IH _ _ l0_2 _ _ l1_2 true _ ?side1 ?side2 ?side3 ?side4 A5.out).mono ?_); (case side1 => repeat (first | exact (Kd.C_below HR0_2.out HB.out) | (with_reducible refine Kd.C_alloc ?_ _) | (with_reducible refine Kd.C_drewN ?_ _) | (with_reducible refine Kd.C_drew ?_))); (case side2 => exact HC0_2.out); (case side3 => repeat (first | exact (Kd.C_below HR1_2.out HB.out) | (with_reducible refine Kd.C_alloc ?_ _) | (with_reducible refine Kd.C_drewN ?_ _) | (with_reducible refine Kd.C_drew ?_))); (case side4 => exact HC1_2.out); rintro e w12 ⟨rfl, hb⟩; refine ⟨_, rfl, ?_⟩; have n0_ := Aside0.mk (blk_below (g := gb119) (o := .cells #[.int .i64 a0_0, .int .i64 a0_1, .slice A0_2 l0_2.length c0_2] 29 (0, 0)) (by (with_reducible repeat (first | refine blk_drewN ?_ _ | refine blk_drew ?_ | refine blk_alloc ?_ _)); exact BK119.out) hb); have n1_ := Aside0.mk (blk_below (g := gb120) (o := .cells #[.int .i64 a1_0, .int .i64 a1_1, .slice A1_2 l1_2.length c1_2] 29 (0, 0)) (by (with_reducible repeat (first | refine blk_drewN ?_ _ | refine blk_drew ?_ | refine blk_alloc ?_ _)); exact BK120.out) hb); have n2_ := Aside0.mk (below_step (by repeat (first | (with_reducible first | exact HB.out | apply below_alloc | apply pw_below_drewN | apply below_drew1 | refine below_set ?_ GE119.out | refine below_set ?_ GE120.out) | exact HB.out)) hb); clear BK119; clear BK120; clear HB; have BK119 := n0_; have BK120 := n1_; have HB := n2_; clear n0_ n1_ n2_; (try clear hb); (try clear hb2); (try clear hk); (try clear hi)))
        go_ret
        exact ⟨by first | rfl | (simp [errW_none, errW_some] <;> rfl) | (simp [*, errW_none, errW_some] <;> rfl), by repeat (first | (with_reducible first | exact HB.out | apply below_alloc | apply pw_below_drewN | apply below_drew1 | refine below_set ?_ GE119.out | refine below_set ?_ GE120.out) | exact HB.out)⟩
      · replace c6 := Bool.eq_false_iff.mpr c6
        subst c6
        have H1 : (some false) = some r := by rw [if_neg (show ¬ (false = true) by decide)] at H; exact H
        clear H
        have H := H1
        clear H1
        obtain rfl := Option.some.inj H
        go_enter Try.func16, Try.ntmps16
        go_wp2_with (first | ((with_reducible refine gate_dst (N := 2) rfl ?_); refine box_event ?hg (N := 2) ?hd (cs := #[.int .i64 a0_0, .int .i64 a0_1, .slice A0_2 l0_2.length c0_2]) (t := 29) ?hr ?_; (case hd => rfl); (case hg => rfl); (case hr => first | (go_simp; done) | (go_simp; rfl)); intro gb119 hg w13 hbox hb; have n0_ := Aside0.mk (below_step (by repeat (first | (with_reducible first | exact HB.out | apply below_alloc | apply pw_below_drewN | apply below_drew1) | exact HB.out)) hb); have n1_ := Aside0.mk (hbox); have n2_ := Aside0.mk ((by rw [hg]; exact (below_size (by repeat (first | (with_reducible first | exact HB.out | apply below_alloc | apply pw_below_drewN | apply below_drew1) | exact HB.out))) : w.heap.size ≤ gb119)); have n3_ := Aside0.mk ((by rw [hg]; exact (below_size (by repeat (first | (with_reducible first | exact HB.out | apply below_alloc | apply pw_below_drewN | apply below_drew1) | exact HB.out))) : w.heap.size ≤ gb119)); clear HB; have HB := n0_; have BK119 := n1_; have GW119 := n2_; have GE119 := n3_; clear n0_ n1_ n2_ n3_; clear hb hbox hg) | ((with_reducible refine gate_dst (N := 3) rfl ?_); refine box_event ?hg (N := 3) ?hd (cs := #[.int .i64 a1_0, .int .i64 a1_1, .slice A1_2 l1_2.length c1_2]) (t := 29) ?hr ?_; (case hd => rfl); (case hg => rfl); (case hr => first | (go_simp; done) | (go_simp; rfl)); intro gb120 hg w14 hbox hb; have n0_ := Aside0.mk (blk_below (g := gb119) (o := .cells #[.int .i64 a0_0, .int .i64 a0_1, .slice A0_2 l0_2.length c0_2] 29 (0, 0)) (by (with_reducible repeat (first | refine blk_drewN ?_ _ | refine blk_drew ?_ | refine blk_alloc ?_ _)); exact BK119.out) hb); have n1_ := Aside0.mk (below_step (by repeat (first | (with_reducible first | exact HB.out | apply below_alloc | apply pw_below_drewN | apply below_drew1 | refine below_set ?_ GE119.out) | exact HB.out)) hb); have n2_ := Aside0.mk (hbox); have n3_ := Aside0.mk ((by rw [hg]; exact (below_size (by repeat (first | (with_reducible first | exact HB.out | apply below_alloc | apply pw_below_drewN | apply below_drew1 | refine below_set ?_ GE119.out) | exact HB.out))) : w.heap.size ≤ gb120)); have n4_ := Aside0.mk ((by rw [hg]; exact (below_size (by repeat (first | (with_reducible first | exact HB.out | apply below_alloc | apply pw_below_drewN | apply below_drew1 | refine below_set ?_ GE119.out) | exact HB.out))) : w.heap.size ≤ gb120)); have n5_ := Aside0.mk ((by rw [hg]; exact Nat.ne_of_lt (blk_lt (g := gb119) (o := .cells #[.int .i64 a0_0, .int .i64 a0_1, .slice A0_2 l0_2.length c0_2] 29 (0, 0)) (by (with_reducible repeat (first | refine blk_drewN ?_ _ | refine blk_drew ?_ | refine blk_alloc ?_ _)); exact BK119.out)) : gb119 ≠ gb120)); have n6_ := Aside0.mk ((by rw [hg]; exact Nat.ne_of_gt (blk_lt (g := gb119) (o := .cells #[.int .i64 a0_0, .int .i64 a0_1, .slice A0_2 l0_2.length c0_2] 29 (0, 0)) (by (with_reducible repeat (first | refine blk_drewN ?_ _ | refine blk_drew ?_ | refine blk_alloc ?_ _)); exact BK119.out)) : gb120 ≠ gb119)); clear BK119; clear HB; have BK119 := n0_; have HB := n1_; have BK120 := n2_; have GW120 := n3_; have GE120 := n4_; have NB119_120 := n5_; have NB120_119 := n6_; clear n0_ n1_ n2_ n3_ n4_ n5_ n6_; clear hb hbox hg; have hnb15 := NB119_120.out; have hnc15 := NB120_119.out; have hcz16_0 : w14.cell? ⟨gb119, 0, none⟩ = some (.int .i64 a0_0) := (blk_cell BK119.out 0).trans rfl; have hcz16_1 : w14.cell? ⟨gb119, 1, none⟩ = some (.int .i64 a0_1) := (blk_cell BK119.out 1).trans rfl; have hcz16_2 : w14.cell? ⟨gb119, 2, none⟩ = some (.slice A0_2 l0_2.length c0_2) := (blk_cell BK119.out 2).trans rfl; have hfz16_0 := blk_frozen BK119.out 0; have hfz16_1 := blk_frozen BK119.out 1; have hfz16_2 := blk_frozen BK119.out 2; have hcz17_0 : w14.cell? ⟨gb120, 0, none⟩ = some (.int .i64 a1_0) := (blk_cell BK120.out 0).trans rfl; have hcz17_1 : w14.cell? ⟨gb120, 1, none⟩ = some (.int .i64 a1_1) := (blk_cell BK120.out 1).trans rfl; have hcz17_2 : w14.cell? ⟨gb120, 2, none⟩ = some (.slice A1_2 l1_2.length c1_2) := (blk_cell BK120.out 2).trans rfl; have hfz17_0 := blk_frozen BK120.out 0; have hfz17_1 := blk_frozen BK120.out 1; have hfz17_2 := blk_frozen BK120.out 2) | ((with_reducible refine gate_callee (f := 46) rfl ?_); refine goesL_ (some 19) rfl rfl Try.func46 (by kernel_rfl) rfl #[.slice A0_2 l0_2.length c0_2, .slice A1_2 l1_2.length c1_2] rfl (by (try simp only [List.map_toArray, List.map_cons, List.map_nil]); first | done | rfl | (simp only [List.length_drop, List.length_take]; rfl)) ?_; (with_reducible refine (IH _ _ l0_2 _ _ l1_2 false _ ?side1 ?side2 ?side3 ?side4 A5.out).mono ?_); (case side1 => repeat (first | exact (Kd.C_below HR0_2.out HB.out) | (with_reducible refine Kd.C_alloc ?_ _) | (with_reducible refine Kd.C_drewN ?_ _) | (with_reducible refine Kd.C_drew ?_))); (case side2 => exact HC0_2.out); (case side3 => repeat (first | exact (Kd.C_below HR1_2.out HB.out) | (with_reducible refine Kd.C_alloc ?_ _) | (with_reducible refine Kd.C_drewN ?_ _) | (with_reducible refine Kd.C_drew ?_))); (case side4 => exact HC1_2.out); rintro e w18 ⟨rfl, hb⟩; refine ⟨_, rfl, ?_⟩; have n0_ := Aside0.mk (blk_below (g := gb119) (o := .cells #[.int .i64 a0_0, .int .i64 a0_1, .slice A0_2 l0_2.length c0_2] 29 (0, 0)) (by (with_reducible repeat (first | refine blk_drewN ?_ _ | refine blk_drew ?_ | refine blk_alloc ?_ _)); exact BK119.out) hb); have n1_ := Aside0.mk (blk_below (g := gb120) (o := .cells #[.int .i64 a1_0, .int .i64 a1_1, .slice A1_2 l1_2.length c1_2] 29 (0, 0)) (by (with_reducible repeat (first | refine blk_drewN ?_ _ | refine blk_drew ?_ | refine blk_alloc ?_ _)); exact BK120.out) hb); have n2_ := Aside0.mk (below_step (by repeat (first | (with_reducible first | exact HB.out | apply below_alloc | apply pw_below_drewN | apply below_drew1 | refine below_set ?_ GE119.out | refine below_set ?_ GE120.out) | exact HB.out)) hb); clear BK119; clear BK120; clear HB; have BK119 := n0_; have BK120 := n1_; have HB := n2_; clear n0_ n1_ n2_; (try clear hb); (try clear hb2); (try clear hk); (try clear hi)))
        go_ret
        exact ⟨by first | rfl | (simp [errW_none, errW_some] <;> rfl) | (simp [*, errW_none, errW_some] <;> rfl), by repeat (first | (with_reducible first | exact HB.out | apply below_alloc | apply pw_below_drewN | apply below_drew1 | refine below_set ?_ GE119.out | refine below_set ?_ GE120.out) | exact HB.out)⟩
    · rw [if_neg c4] at H
      have c4b0 : (a0_1 == a1_1) = false := beq_eq_false_iff_ne.mpr c4
      have c4b1 : (a0_1 != a1_1) = true := bne_iff_ne.mpr c4
      obtain rfl := Option.some.inj H
      go_enter Try.func16, Try.ntmps16
      go_wp2_with (first | ((with_reducible refine gate_dst (N := 2) rfl ?_); refine box_event ?hg (N := 2) ?hd (cs := #[.int .i64 a0_0, .int .i64 a0_1, .slice A0_2 l0_2.length c0_2]) (t := 29) ?hr ?_; (case hd => rfl); (case hg => rfl); (case hr => first | (go_simp; done) | (go_simp; rfl)); intro gb119 hg w19 hbox hb; have n0_ := Aside0.mk (below_step (by repeat (first | (with_reducible first | exact HB.out | apply below_alloc | apply pw_below_drewN | apply below_drew1) | exact HB.out)) hb); have n1_ := Aside0.mk (hbox); have n2_ := Aside0.mk ((by rw [hg]; exact (below_size (by repeat (first | (with_reducible first | exact HB.out | apply below_alloc | apply pw_below_drewN | apply below_drew1) | exact HB.out))) : w.heap.size ≤ gb119)); have n3_ := Aside0.mk ((by rw [hg]; exact (below_size (by repeat (first | (with_reducible first | exact HB.out | apply below_alloc | apply pw_below_drewN | apply below_drew1) | exact HB.out))) : w.heap.size ≤ gb119)); clear HB; have HB := n0_; have BK119 := n1_; have GW119 := n2_; have GE119 := n3_; clear n0_ n1_ n2_ n3_; clear hb hbox hg) | ((with_reducible refine gate_dst (N := 3) rfl ?_); refine box_event ?hg (N := 3) ?hd (cs := #[.int .i64 a1_0, .int .i64 a1_1, .slice A1_2 l1_2.length c1_2]) (t := 29) ?hr ?_; (case hd => rfl); (case hg => rfl); (case hr => first | (go_simp; done) | (go_simp; rfl)); intro gb120 hg w20 hbox hb; have n0_ := Aside0.mk (blk_below (g := gb119) (o := .cells #[.int .i64 a0_0, .int .i64 a0_1, .slice A0_2 l0_2.length c0_2] 29 (0, 0)) (by (with_reducible repeat (first | refine blk_drewN ?_ _ | refine blk_drew ?_ | refine blk_alloc ?_ _)); exact BK119.out) hb); have n1_ := Aside0.mk (below_step (by repeat (first | (with_reducible first | exact HB.out | apply below_alloc | apply pw_below_drewN | apply below_drew1 | refine below_set ?_ GE119.out) | exact HB.out)) hb); have n2_ := Aside0.mk (hbox); have n3_ := Aside0.mk ((by rw [hg]; exact (below_size (by repeat (first | (with_reducible first | exact HB.out | apply below_alloc | apply pw_below_drewN | apply below_drew1 | refine below_set ?_ GE119.out) | exact HB.out))) : w.heap.size ≤ gb120)); have n4_ := Aside0.mk ((by rw [hg]; exact (below_size (by repeat (first | (with_reducible first | exact HB.out | apply below_alloc | apply pw_below_drewN | apply below_drew1 | refine below_set ?_ GE119.out) | exact HB.out))) : w.heap.size ≤ gb120)); have n5_ := Aside0.mk ((by rw [hg]; exact Nat.ne_of_lt (blk_lt (g := gb119) (o := .cells #[.int .i64 a0_0, .int .i64 a0_1, .slice A0_2 l0_2.length c0_2] 29 (0, 0)) (by (with_reducible repeat (first | refine blk_drewN ?_ _ | refine blk_drew ?_ | refine blk_alloc ?_ _)); exact BK119.out)) : gb119 ≠ gb120)); have n6_ := Aside0.mk ((by rw [hg]; exact Nat.ne_of_gt (blk_lt (g := gb119) (o := .cells #[.int .i64 a0_0, .int .i64 a0_1, .slice A0_2 l0_2.length c0_2] 29 (0, 0)) (by (with_reducible repeat (first | refine blk_drewN ?_ _ | refine blk_drew ?_ | refine blk_alloc ?_ _)); exact BK119.out)) : gb120 ≠ gb119)); clear BK119; clear HB; have BK119 := n0_; have HB := n1_; have BK120 := n2_; have GW120 := n3_; have GE120 := n4_; have NB119_120 := n5_; have NB120_119 := n6_; clear n0_ n1_ n2_ n3_ n4_ n5_ n6_; clear hb hbox hg; have hnb21 := NB119_120.out; have hnc21 := NB120_119.out; have hcz22_0 : w20.cell? ⟨gb119, 0, none⟩ = some (.int .i64 a0_0) := (blk_cell BK119.out 0).trans rfl; have hcz22_1 : w20.cell? ⟨gb119, 1, none⟩ = some (.int .i64 a0_1) := (blk_cell BK119.out 1).trans rfl; have hcz22_2 : w20.cell? ⟨gb119, 2, none⟩ = some (.slice A0_2 l0_2.length c0_2) := (blk_cell BK119.out 2).trans rfl; have hfz22_0 := blk_frozen BK119.out 0; have hfz22_1 := blk_frozen BK119.out 1; have hfz22_2 := blk_frozen BK119.out 2; have hcz23_0 : w20.cell? ⟨gb120, 0, none⟩ = some (.int .i64 a1_0) := (blk_cell BK120.out 0).trans rfl; have hcz23_1 : w20.cell? ⟨gb120, 1, none⟩ = some (.int .i64 a1_1) := (blk_cell BK120.out 1).trans rfl; have hcz23_2 : w20.cell? ⟨gb120, 2, none⟩ = some (.slice A1_2 l1_2.length c1_2) := (blk_cell BK120.out 2).trans rfl; have hfz23_0 := blk_frozen BK120.out 0; have hfz23_1 := blk_frozen BK120.out 1; have hfz23_2 := blk_frozen BK120.out 2))
      go_ret
      exact ⟨by first | rfl | (simp [errW_none, errW_some] <;> rfl) | (simp [*, errW_none, errW_some] <;> rfl), by repeat (first | (with_reducible first | exact HB.out | apply below_alloc | apply pw_below_drewN | apply below_drew1 | refine below_set ?_ GE119.out | refine below_set ?_ GE120.out) | exact HB.out)⟩
  · rw [if_neg c3] at H
    have c3b0 : (a0_0 == a1_0) = false := beq_eq_false_iff_ne.mpr c3
    have c3b1 : (a0_0 != a1_0) = true := bne_iff_ne.mpr c3
    obtain rfl := Option.some.inj H
    go_enter Try.func16, Try.ntmps16
    go_wp2_with (first | ((with_reducible refine gate_dst (N := 2) rfl ?_); refine box_event ?hg (N := 2) ?hd (cs := #[.int .i64 a0_0, .int .i64 a0_1, .slice A0_2 l0_2.length c0_2]) (t := 29) ?hr ?_; (case hd => rfl); (case hg => rfl); (case hr => first | (go_simp; done) | (go_simp; rfl)); intro gb119 hg w24 hbox hb; have n0_ := Aside0.mk (below_step (by repeat (first | (with_reducible first | exact HB.out | apply below_alloc | apply pw_below_drewN | apply below_drew1) | exact HB.out)) hb); have n1_ := Aside0.mk (hbox); have n2_ := Aside0.mk ((by rw [hg]; exact (below_size (by repeat (first | (with_reducible first | exact HB.out | apply below_alloc | apply pw_below_drewN | apply below_drew1) | exact HB.out))) : w.heap.size ≤ gb119)); have n3_ := Aside0.mk ((by rw [hg]; exact (below_size (by repeat (first | (with_reducible first | exact HB.out | apply below_alloc | apply pw_below_drewN | apply below_drew1) | exact HB.out))) : w.heap.size ≤ gb119)); clear HB; have HB := n0_; have BK119 := n1_; have GW119 := n2_; have GE119 := n3_; clear n0_ n1_ n2_ n3_; clear hb hbox hg) | ((with_reducible refine gate_dst (N := 3) rfl ?_); refine box_event ?hg (N := 3) ?hd (cs := #[.int .i64 a1_0, .int .i64 a1_1, .slice A1_2 l1_2.length c1_2]) (t := 29) ?hr ?_; (case hd => rfl); (case hg => rfl); (case hr => first | (go_simp; done) | (go_simp; rfl)); intro gb120 hg w25 hbox hb; have n0_ := Aside0.mk (blk_below (g := gb119) (o := .cells #[.int .i64 a0_0, .int .i64 a0_1, .slice A0_2 l0_2.length c0_2] 29 (0, 0)) (by (with_reducible repeat (first | refine blk_drewN ?_ _ | refine blk_drew ?_ | refine blk_alloc ?_ _)); exact BK119.out) hb); have n1_ := Aside0.mk (below_step (by repeat (first | (with_reducible first | exact HB.out | apply below_alloc | apply pw_below_drewN | apply below_drew1 | refine below_set ?_ GE119.out) | exact HB.out)) hb); have n2_ := Aside0.mk (hbox); have n3_ := Aside0.mk ((by rw [hg]; exact (below_size (by repeat (first | (with_reducible first | exact HB.out | apply below_alloc | apply pw_below_drewN | apply below_drew1 | refine below_set ?_ GE119.out) | exact HB.out))) : w.heap.size ≤ gb120)); have n4_ := Aside0.mk ((by rw [hg]; exact (below_size (by repeat (first | (with_reducible first | exact HB.out | apply below_alloc | apply pw_below_drewN | apply below_drew1 | refine below_set ?_ GE119.out) | exact HB.out))) : w.heap.size ≤ gb120)); have n5_ := Aside0.mk ((by rw [hg]; exact Nat.ne_of_lt (blk_lt (g := gb119) (o := .cells #[.int .i64 a0_0, .int .i64 a0_1, .slice A0_2 l0_2.length c0_2] 29 (0, 0)) (by (with_reducible repeat (first | refine blk_drewN ?_ _ | refine blk_drew ?_ | refine blk_alloc ?_ _)); exact BK119.out)) : gb119 ≠ gb120)); have n6_ := Aside0.mk ((by rw [hg]; exact Nat.ne_of_gt (blk_lt (g := gb119) (o := .cells #[.int .i64 a0_0, .int .i64 a0_1, .slice A0_2 l0_2.length c0_2] 29 (0, 0)) (by (with_reducible repeat (first | refine blk_drewN ?_ _ | refine blk_drew ?_ | refine blk_alloc ?_ _)); exact BK119.out)) : gb120 ≠ gb119)); clear BK119; clear HB; have BK119 := n0_; have HB := n1_; have BK120 := n2_; have GW120 := n3_; have GE120 := n4_; have NB119_120 := n5_; have NB120_119 := n6_; clear n0_ n1_ n2_ n3_ n4_ n5_ n6_; clear hb hbox hg; have hnb26 := NB119_120.out; have hnc26 := NB120_119.out; have hcz27_0 : w25.cell? ⟨gb119, 0, none⟩ = some (.int .i64 a0_0) := (blk_cell BK119.out 0).trans rfl; have hcz27_1 : w25.cell? ⟨gb119, 1, none⟩ = some (.int .i64 a0_1) := (blk_cell BK119.out 1).trans rfl; have hcz27_2 : w25.cell? ⟨gb119, 2, none⟩ = some (.slice A0_2 l0_2.length c0_2) := (blk_cell BK119.out 2).trans rfl; have hfz27_0 := blk_frozen BK119.out 0; have hfz27_1 := blk_frozen BK119.out 1; have hfz27_2 := blk_frozen BK119.out 2; have hcz28_0 : w25.cell? ⟨gb120, 0, none⟩ = some (.int .i64 a1_0) := (blk_cell BK120.out 0).trans rfl; have hcz28_1 : w25.cell? ⟨gb120, 1, none⟩ = some (.int .i64 a1_1) := (blk_cell BK120.out 1).trans rfl; have hcz28_2 : w25.cell? ⟨gb120, 2, none⟩ = some (.slice A1_2 l1_2.length c1_2) := (blk_cell BK120.out 2).trans rfl; have hfz28_0 := blk_frozen BK120.out 0; have hfz28_1 := blk_frozen BK120.out 1; have hfz28_2 := blk_frozen BK120.out 2))
    go_ret
    exact ⟨by first | rfl | (simp [errW_none, errW_some] <;> rfl) | (simp [*, errW_none, errW_some] <;> rfl), by repeat (first | (with_reducible first | exact HB.out | apply below_alloc | apply pw_below_drewN | apply below_drew1 | refine below_set ?_ GE119.out | refine below_set ?_ GE120.out) | exact HB.out)⟩
set_option maxHeartbeats 8000000 in
set_option maxRecDepth 100000 in
theorem laws_eqGateS.calls (k : Nat) : ∀ (A0 : Option Addr) (c0 : Nat) (l0 : List (S29)) (A1 : Option Addr) (c1 : Nat) (l1 : List (S29)) (r : Bool) (w : World) (hr0 : Kd.C k29 w A0 l0.length l0) (hc0 : l0.length ≤ c0) (hr1 : Kd.C k29 w A1 l1.length l1) (hc1 : l1.length ≤ c1) (h : laws_eqGateS.f k l0 l1 = some r),
    Calls Try.prog 46 #[.slice A0 l0.length c0, .slice A1 l1.length c1] w fun e w' => e = .returned (.bool r) ∧ Below w.heap.size w w' := by
  induction k using Nat.strongRecOn with
  | _ k ih =>
  have ihG : ∀ m, m < k → ∀ (a0_0 : Int) (a0_1 : Int) (A0_2 : Option Addr) (c0_2 : Nat) (l0_2 : List (S29)) (a1_0 : Int) (a1_1 : Int) (A1_2 : Option Addr) (c1_2 : Nat) (l1_2 : List (S29)) (r : Bool) (w : World) (hr0_2 : Kd.C k29 w A0_2 l0_2.length l0_2) (hc0_2 : l0_2.length ≤ c0_2) (hr1_2 : Kd.C k29 w A1_2 l1_2.length l1_2) (hc1_2 : l1_2.length ≤ c1_2) (h : laws_eqGate.f m a0_0 a0_1 l0_2 a1_0 a1_1 l1_2 = some r), Calls Try.prog 16 #[.agg #[.int .i64 a0_0, .int .i64 a0_1, .slice A0_2 l0_2.length c0_2], .agg #[.int .i64 a1_0, .int .i64 a1_1, .slice A1_2 l1_2.length c1_2]] w fun e w' => e = .returned (.bool r) ∧ Below w.heap.size w w' := by
    intro m hm
    cases m with
    | zero => intro a0_0 a0_1 A0_2 c0_2 l0_2 a1_0 a1_1 A1_2 c1_2 l1_2 r w hr0_2 hc0_2 hr1_2 hc1_2 h; exact absurd h (by simp [laws_eqGate.f])
    | succ m => exact fun a0_0 a0_1 A0_2 c0_2 l0_2 a1_0 a1_1 A1_2 c1_2 l1_2 r w hr0_2 hc0_2 hr1_2 hc1_2 h => laws_eqGate.calls_of m (ih m (by omega)) a0_0 a0_1 A0_2 c0_2 l0_2 a1_0 a1_1 A1_2 c1_2 l1_2 r w hr0_2 hc0_2 hr1_2 hc1_2 h
  intro A0 c0 l0 A1 c1 l1 r w hr0 hc0 hr1 hc1 h
  cases k with
  | zero => exact absurd h (by simp [laws_eqGateS.f])
  | succ k =>
  simp only [laws_eqGateS.f] at h
  have hu29 := Try.underlying29
  have HR0 := Aside0.mk hr0
  have HC0 := Aside0.mk hc0
  clear hr0 hc0
  have HR1 := Aside0.mk hr1
  have HC1 := Aside0.mk hc1
  clear hr1 hc1
  have HB := Aside0.mk (Below.refl w.heap.size w)
  have H : (if (l0.length : Int) = (l1.length : Int) then (laws_eqGateS.l0 k l0 l1 0) else (some false)) = some r := h
  clear h
  by_cases c3 : (l0.length : Int) = (l1.length : Int)
  · rw [if_pos c3] at H
    have c3b0 : ((l0.length : Int) == (l1.length : Int)) = true := beq_iff_eq.mpr c3
    have c3b1 : ((l0.length : Int) != (l1.length : Int)) = false := bne_eq_false_iff_eq.mpr c3
    have c3b2 : (l0.length == l1.length) = true := by first | simpa using c3 | (simp at c3 ⊢; omega)
    clear c3
    have H' := Aside0.mk H
    clear H
    go_enter Try.func46, Try.ntmps46
    go_wp2
    go_loopg [5] k (fun kq v5 w' => ∃ (x5_1 : Int), v5 = .int .i64 x5_1 ∧ Aside0 (laws_eqGateS.l0 kq l0 l1 x5_1 = some r) ∧ Aside0 (kq ≤ k) ∧ Aside0 (Below w.heap.size w w'))
    case atStart => exact ⟨(0), (by first | rfl | (simp; done) | (simp [*]; done)), H', ⟨Nat.le_refl _⟩, ⟨by repeat (first | (with_reducible first | exact HB.out | apply below_alloc | apply pw_below_drewN | apply below_drew1) | exact HB.out)⟩⟩
    case round =>
      clear H'
      try clear c1
      try clear p2
      try clear c3
      try clear c3b0
      try clear c3b1
      try clear c3b2
      obtain ⟨x5_1, rfl, HA, HK1, HB⟩ := hrel
      cases gk with
      | zero => exact absurd HA.out (by simp [laws_eqGateS.l0])
      | succ k1 =>
        have H := HA.out
        clear HA
        simp only [laws_eqGateS.l0] at H
        by_cases c4 : x5_1 < (l0.length : Int)
        · rw [if_pos c4] at H
          have c4b0 : decide (x5_1 < (l0.length : Int)) = true := decide_eq_true c4
          clear c4
          by_cases c5 : 0 ≤ x5_1
          · rw [if_pos c5] at H
            have c5b0 : decide (0 ≤ x5_1) = true := decide_eq_true c5
            clear c5
            by_cases c6 : x5_1 < (l1.length : Int)
            · rw [if_pos c6] at H
              have c6b0 : decide (x5_1 < (l1.length : Int)) = true := decide_eq_true c6
              clear c6
              replace H := Option.bind_eq_some_iff.mp H
              obtain ⟨t124, A70, H⟩ := H
              replace H : (if t124 = true then (laws_eqGateS.l0 k1 l0 l1 (wrap64 (x5_1 + 1))) else (some false)) = some r := H
              have A7 := Aside0.mk A70
              clear A70
              by_cases c8 : t124 = true
              · subst c8
                have H1 : (laws_eqGateS.l0 k1 l0 l1 (wrap64 (x5_1 + 1))) = some r := by rw [if_pos rfl] at H; exact H
                clear H
                have H := H1
                clear H1
                have H' := Aside0.mk H
                clear H
                try go_wp2
                have n0_ := Aside0.mk (below_drew1 HB.out)
                clear HB
                have HB := n0_
                clear n0_
                have p122 : 0 ≤ (x5_1 : Int) := of_decide_eq_true (by first | (with_reducible assumption) | assumption)
                have q122 : x5_1 < (l0.length : Int) := of_decide_eq_true (by first | (with_reducible assumption) | assumption)
                obtain ⟨ad122, A122_2, c122_2, e122, hx122_0, hx122_1, hx122_2, hl122_2, hi122_2⟩ := at_T29 HR0.out x5_1 p122 q122
                have hw122_2 := hx122_2
                have hw122_1 := hx122_1
                have hw122_0 := hx122_0
                cases e122
                replace hx122_0 := (HB.out.cell (World.block_lt_of_cell? w _ hx122_0)).trans hx122_0
                replace hx122_1 := (HB.out.cell (World.block_lt_of_cell? w _ hx122_1)).trans hx122_1
                replace hx122_2 := (HB.out.cell (World.block_lt_of_cell? w _ hx122_2)).trans hx122_2
                have HR122_2 := Aside0.mk hi122_2
                have HC122_2 := Aside0.mk hl122_2
                clear hi122_2 hl122_2
                replace p122 := eq_true p122
                replace q122 := eq_true q122
                have p123 : 0 ≤ (x5_1 : Int) := of_decide_eq_true (by first | (with_reducible assumption) | assumption)
                have q123 : x5_1 < (l1.length : Int) := of_decide_eq_true (by first | (with_reducible assumption) | assumption)
                obtain ⟨ad123, A123_2, c123_2, e123, hx123_0, hx123_1, hx123_2, hl123_2, hi123_2⟩ := at_T29 HR1.out x5_1 p123 q123
                have hw123_2 := hx123_2
                have hw123_1 := hx123_1
                have hw123_0 := hx123_0
                cases e123
                replace hx123_0 := (HB.out.cell (World.block_lt_of_cell? w _ hx123_0)).trans hx123_0
                replace hx123_1 := (HB.out.cell (World.block_lt_of_cell? w _ hx123_1)).trans hx123_1
                replace hx123_2 := (HB.out.cell (World.block_lt_of_cell? w _ hx123_2)).trans hx123_2
                have HR123_2 := Aside0.mk hi123_2
                have HC123_2 := Aside0.mk hl123_2
                clear hi123_2 hl123_2
                replace p123 := eq_true p123
                replace q123 := eq_true q123
                refine start_ (n := 10) (S := fun w' => w'.cell? (ad122.add ((x5_1).toNat * 3)) = some (.int .i64 ((rd_T29 l0 x5_1).f0)) ∧ w'.cell? ⟨(ad122.add ((x5_1).toNat * 3)).block, (ad122.add ((x5_1).toNat * 3)).off + 1, none⟩ = some (.int .i64 ((rd_T29 l0 x5_1).f1)) ∧ w'.cell? ⟨(ad122.add ((x5_1).toNat * 3)).block, (ad122.add ((x5_1).toNat * 3)).off + 2, none⟩ = some (.slice A122_2 ((rd_T29 l0 x5_1).f2).length c122_2) ∧ w'.cell? (ad123.add ((x5_1).toNat * 3)) = some (.int .i64 ((rd_T29 l1 x5_1).f0)) ∧ w'.cell? ⟨(ad123.add ((x5_1).toNat * 3)).block, (ad123.add ((x5_1).toNat * 3)).off + 1, none⟩ = some (.int .i64 ((rd_T29 l1 x5_1).f1)) ∧ w'.cell? ⟨(ad123.add ((x5_1).toNat * 3)).block, (ad123.add ((x5_1).toNat * 3)).off + 2, none⟩ = some (.slice A123_2 ((rd_T29 l1 x5_1).f2).length c123_2)) (ds := []) #[false, false, false, false, false, false, false, false, false, false] (by kernel_rfl) rfl rfl ⟨((HB.out.cell (World.block_lt_of_cell? w _ hw122_0)).trans hw122_0), ((HB.out.cell (World.block_lt_of_cell? w _ hw122_1)).trans hw122_1), ((HB.out.cell (World.block_lt_of_cell? w _ hw122_2)).trans hw122_2), ((HB.out.cell (World.block_lt_of_cell? w _ hw123_0)).trans hw123_0), ((HB.out.cell (World.block_lt_of_cell? w _ hw123_1)).trans hw123_1), ((HB.out.cell (World.block_lt_of_cell? w _ hw123_2)).trans hw123_2)⟩ (fun hHeld => ?_); refine with_tabW laws_eqGateS.tab6 laws_eqGateS.bits6 (fun HT_ HW_ => ?_)
                generalize wr.drew = w9 at HB HR122_2 HR123_2 hx122_0 hx122_1 hx122_2 hx123_0 hx123_1 hx123_2 hHeld ⊢
                refine pure_ (i := 0) (N := some 17) (v := ?_) (a' := ?_) #[true, false, false, false, false, false, false, false, false, false] rfl rfl (any_of HT_.out (by kernel_rfl)) (fun _ _ _ h => h) (Or.inl ⟨by rfl, ?_⟩) ?_ ?_
                rotate_left
                · intro w'
                  first | (go_simp; with_reducible rfl) | (simp [go_sem, Instr.field, asAgg] <;> with_reducible rfl)
                rotate_left
                · simp only [Act.put, List.setIfInBounds_toArray, List.set_cons_zero, List.set_cons_succ, i64_w, i32_w]
                  rfl
                refine pure_ (i := 1) (N := some 18) (v := ?_) (a' := ?_) #[true, true, false, false, false, false, false, false, false, false] rfl rfl (any_of HT_.out (by kernel_rfl)) (fun _ _ _ h => h) (Or.inl ⟨by rfl, ?_⟩) ?_ ?_
                rotate_left
                · intro w'
                  first | (go_simp; with_reducible rfl) | (simp [go_sem, Instr.field, asAgg] <;> with_reducible rfl)
                rotate_left
                · simp only [Act.put, List.setIfInBounds_toArray, List.set_cons_zero, List.set_cons_succ, i64_w, i32_w]
                  rfl
                refine pure_ (i := 2) (N := some 19) (v := ?_) (a' := ?_) #[true, true, true, false, false, false, false, false, false, false] rfl rfl (any_of HT_.out (by kernel_rfl)) (fun _ _ _ h => h) (Or.inl ⟨by rfl, ?_⟩) ?_ ?_
                rotate_left
                · intro w'
                  first | (go_simp; with_reducible rfl) | (simp [go_sem, Instr.field, asAgg] <;> with_reducible rfl)
                rotate_left
                · simp only [Act.put, List.setIfInBounds_toArray, List.set_cons_zero, List.set_cons_succ, i64_w, i32_w]
                  rfl
                refine pure_ (i := 4) (N := some 21) (v := ?_) (a' := ?_) #[true, true, true, false, true, false, false, false, false, false] rfl rfl (any_of HT_.out (by kernel_rfl)) (fun _ _ _ h => h) (Or.inl ⟨by rfl, ?_⟩) ?_ ?_
                rotate_left
                · intro w'
                  first | (go_simp; with_reducible rfl) | (simp [go_sem, Instr.field, asAgg] <;> with_reducible rfl)
                rotate_left
                · simp only [Act.put, List.setIfInBounds_toArray, List.set_cons_zero, List.set_cons_succ, i64_w, i32_w]
                  rfl
                refine pure_ (i := 5) (N := some 22) (v := ?_) (a' := ?_) #[true, true, true, false, true, true, false, false, false, false] rfl rfl (any_of HT_.out (by kernel_rfl)) (fun _ _ _ h => h) (Or.inl ⟨by rfl, ?_⟩) ?_ ?_
                rotate_left
                · intro w'
                  first | (go_simp; with_reducible rfl) | (simp [go_sem, Instr.field, asAgg] <;> with_reducible rfl)
                rotate_left
                · simp only [Act.put, List.setIfInBounds_toArray, List.set_cons_zero, List.set_cons_succ, i64_w, i32_w]
                  rfl
                refine pure_ (i := 6) (N := some 23) (v := ?_) (a' := ?_) #[true, true, true, false, true, true, true, false, false, false] rfl rfl (any_of HT_.out (by kernel_rfl)) (fun _ _ _ h => h) (Or.inl ⟨by rfl, ?_⟩) ?_ ?_
                rotate_left
                · intro w'
                  first | (go_simp; with_reducible rfl) | (simp [go_sem, Instr.field, asAgg] <;> with_reducible rfl)
                rotate_left
                · simp only [Act.put, List.setIfInBounds_toArray, List.set_cons_zero, List.set_cons_succ, i64_w, i32_w]
                  rfl
                refine take_ (i := 3) (N := some 20) (v := ?_) (a' := ?_) #[true, true, true, true, true, true, true, false, false, false] rfl rfl (take_ofW HT_.out HW_.out (by kernel_rfl)) (fun _ _ _ h => h) (Or.inl ⟨by rfl, ?_⟩) hHeld ?_ ?_
                rotate_left
                · rintro w' ⟨s0, s1, s2, s3, s4, s5⟩
                  go_simp
                  with_reducible rfl
                rotate_left
                · simp only [Act.put, List.setIfInBounds_toArray, List.set_cons_zero, List.set_cons_succ, i64_w, i32_w]
                  rfl
                refine take_ (i := 7) (N := some 24) (v := ?_) (a' := ?_) #[true, true, true, true, true, true, true, true, false, false] rfl rfl (take_ofW HT_.out HW_.out (by kernel_rfl)) (fun _ _ _ h => h) (Or.inl ⟨by rfl, ?_⟩) hHeld ?_ ?_
                rotate_left
                · rintro w' ⟨s0, s1, s2, s3, s4, s5⟩
                  go_simp
                  with_reducible rfl
                rotate_left
                · simp only [Act.put, List.setIfInBounds_toArray, List.set_cons_zero, List.set_cons_succ, i64_w, i32_w]
                  rfl
                refine one_ (i := 8) (N := some 25) #[true, true, true, true, true, true, true, true, true, false] rfl rfl (one_of HT_.out (by kernel_rfl)) (by decide) (fun K hK => ?_)
                refine goes_ Try.func16 (by kernel_rfl) rfl #[.agg #[.int .i64 ((rd_T29 l0 x5_1).f0), .int .i64 ((rd_T29 l0 x5_1).f1), .slice A122_2 ((rd_T29 l0 x5_1).f2).length c122_2], .agg #[.int .i64 ((rd_T29 l1 x5_1).f0), .int .i64 ((rd_T29 l1 x5_1).f1), .slice A123_2 ((rd_T29 l1 x5_1).f2).length c123_2]] (by rfl) rfl rfl (by (try simp only [List.map_toArray, List.map_cons, List.map_nil]); first | done | rfl | (simp only [List.length_drop, List.length_take]; rfl)) ?_
                with_reducible refine (ihG k1 (by have := HK1.out; omega) ((rd_T29 l0 x5_1).f0) ((rd_T29 l0 x5_1).f1) _ _ ((rd_T29 l0 x5_1).f2) ((rd_T29 l1 x5_1).f0) ((rd_T29 l1 x5_1).f1) _ _ ((rd_T29 l1 x5_1).f2) true _ ?side1 ?side2 ?side3 ?side4 A7.out).mono ?_
                (case side1 => repeat (first | exact (Kd.C_below HR122_2.out HB.out) | (with_reducible refine Kd.C_alloc ?_ _) | (with_reducible refine Kd.C_drewN ?_ _) | (with_reducible refine Kd.C_drew ?_)))
                (case side2 => exact HC122_2.out)
                (case side3 => repeat (first | exact (Kd.C_below HR123_2.out HB.out) | (with_reducible refine Kd.C_alloc ?_ _) | (with_reducible refine Kd.C_drewN ?_ _) | (with_reducible refine Kd.C_drew ?_)))
                (case side4 => exact HC123_2.out)
                rintro e w10 ⟨rfl, hb⟩
                refine ⟨_, rfl, ?_⟩
                have n0_ := Aside0.mk (below_step (by repeat (first | (with_reducible first | exact HB.out | apply below_alloc | apply pw_below_drewN | apply below_drew1) | exact HB.out)) hb)
                clear HB
                have HB := n0_
                clear n0_
                (try clear hb)
                (try clear hb2)
                (try clear hk)
                (try clear hi)
                refine hK.out _ _ ⟨((HB.out.cell (World.block_lt_of_cell? w _ hw122_0)).trans hw122_0), ((HB.out.cell (World.block_lt_of_cell? w _ hw122_1)).trans hw122_1), ((HB.out.cell (World.block_lt_of_cell? w _ hw122_2)).trans hw122_2), ((HB.out.cell (World.block_lt_of_cell? w _ hw123_0)).trans hw123_0), ((HB.out.cell (World.block_lt_of_cell? w _ hw123_1)).trans hw123_1), ((HB.out.cell (World.block_lt_of_cell? w _ hw123_2)).trans hw123_2)⟩ (fun hHeld => ?_)
                clear hK K
                refine norm_ (a' := ?_) ?_ ?_
                rotate_left
                · show Act.put _ (some 25) _ = _
                  simp only [Act.put, List.setIfInBounds_toArray, List.set_cons_zero, List.set_cons_succ, i64_w, i32_w]
                  rfl
                refine pure_ (i := 9) (N := some 26) (v := ?_) (a' := ?_) #[true, true, true, true, true, true, true, true, true, true] rfl rfl (any_of HT_.out (by kernel_rfl)) (fun _ _ _ h => h) (Or.inl ⟨by rfl, ?_⟩) ?_ ?_
                rotate_left
                · intro w'
                  first | (go_simp; with_reducible rfl) | (simp [go_sem, Instr.field, asAgg] <;> with_reducible rfl)
                rotate_left
                · simp only [Act.put, List.setIfInBounds_toArray, List.set_cons_zero, List.set_cons_succ, i64_w, i32_w]
                  rfl
                refine done_ (done_of HT_.out (by kernel_rfl)) ?_
                try go_wp2
                go_roundg k1
                case measure => have := HK1.out; omega
                case rel => exact ⟨(wrap64 (x5_1 + 1)), (by first | rfl | (simp; done) | (simp [*]; done)), H', ⟨by have := HK1.out; omega⟩, ⟨by repeat (first | (with_reducible first | exact HB.out | apply below_alloc | apply pw_below_drewN | apply below_drew1) | exact HB.out)⟩⟩
              · replace c8 := Bool.eq_false_iff.mpr c8
                subst c8
                have H1 : (some false) = some r := by rw [if_neg (show ¬ (false = true) by decide)] at H; exact H
                clear H
                have H := H1
                clear H1
                obtain rfl := Option.some.inj H
                try go_wp2
                have n0_ := Aside0.mk (below_drew1 HB.out)
                clear HB
                have HB := n0_
                clear n0_
                have p122 : 0 ≤ (x5_1 : Int) := of_decide_eq_true (by first | (with_reducible assumption) | assumption)
                have q122 : x5_1 < (l0.length : Int) := of_decide_eq_true (by first | (with_reducible assumption) | assumption)
                obtain ⟨ad122, A122_2, c122_2, e122, hx122_0, hx122_1, hx122_2, hl122_2, hi122_2⟩ := at_T29 HR0.out x5_1 p122 q122
                have hw122_2 := hx122_2
                have hw122_1 := hx122_1
                have hw122_0 := hx122_0
                cases e122
                replace hx122_0 := (HB.out.cell (World.block_lt_of_cell? w _ hx122_0)).trans hx122_0
                replace hx122_1 := (HB.out.cell (World.block_lt_of_cell? w _ hx122_1)).trans hx122_1
                replace hx122_2 := (HB.out.cell (World.block_lt_of_cell? w _ hx122_2)).trans hx122_2
                have HR122_2 := Aside0.mk hi122_2
                have HC122_2 := Aside0.mk hl122_2
                clear hi122_2 hl122_2
                replace p122 := eq_true p122
                replace q122 := eq_true q122
                have p123 : 0 ≤ (x5_1 : Int) := of_decide_eq_true (by first | (with_reducible assumption) | assumption)
                have q123 : x5_1 < (l1.length : Int) := of_decide_eq_true (by first | (with_reducible assumption) | assumption)
                obtain ⟨ad123, A123_2, c123_2, e123, hx123_0, hx123_1, hx123_2, hl123_2, hi123_2⟩ := at_T29 HR1.out x5_1 p123 q123
                have hw123_2 := hx123_2
                have hw123_1 := hx123_1
                have hw123_0 := hx123_0
                cases e123
                replace hx123_0 := (HB.out.cell (World.block_lt_of_cell? w _ hx123_0)).trans hx123_0
                replace hx123_1 := (HB.out.cell (World.block_lt_of_cell? w _ hx123_1)).trans hx123_1
                replace hx123_2 := (HB.out.cell (World.block_lt_of_cell? w _ hx123_2)).trans hx123_2
                have HR123_2 := Aside0.mk hi123_2
                have HC123_2 := Aside0.mk hl123_2
                clear hi123_2 hl123_2
                replace p123 := eq_true p123
                replace q123 := eq_true q123
                refine start_ (n := 10) (S := fun w' => w'.cell? (ad122.add ((x5_1).toNat * 3)) = some (.int .i64 ((rd_T29 l0 x5_1).f0)) ∧ w'.cell? ⟨(ad122.add ((x5_1).toNat * 3)).block, (ad122.add ((x5_1).toNat * 3)).off + 1, none⟩ = some (.int .i64 ((rd_T29 l0 x5_1).f1)) ∧ w'.cell? ⟨(ad122.add ((x5_1).toNat * 3)).block, (ad122.add ((x5_1).toNat * 3)).off + 2, none⟩ = some (.slice A122_2 ((rd_T29 l0 x5_1).f2).length c122_2) ∧ w'.cell? (ad123.add ((x5_1).toNat * 3)) = some (.int .i64 ((rd_T29 l1 x5_1).f0)) ∧ w'.cell? ⟨(ad123.add ((x5_1).toNat * 3)).block, (ad123.add ((x5_1).toNat * 3)).off + 1, none⟩ = some (.int .i64 ((rd_T29 l1 x5_1).f1)) ∧ w'.cell? ⟨(ad123.add ((x5_1).toNat * 3)).block, (ad123.add ((x5_1).toNat * 3)).off + 2, none⟩ = some (.slice A123_2 ((rd_T29 l1 x5_1).f2).length c123_2)) (ds := []) #[false, false, false, false, false, false, false, false, false, false] (by kernel_rfl) rfl rfl ⟨((HB.out.cell (World.block_lt_of_cell? w _ hw122_0)).trans hw122_0), ((HB.out.cell (World.block_lt_of_cell? w _ hw122_1)).trans hw122_1), ((HB.out.cell (World.block_lt_of_cell? w _ hw122_2)).trans hw122_2), ((HB.out.cell (World.block_lt_of_cell? w _ hw123_0)).trans hw123_0), ((HB.out.cell (World.block_lt_of_cell? w _ hw123_1)).trans hw123_1), ((HB.out.cell (World.block_lt_of_cell? w _ hw123_2)).trans hw123_2)⟩ (fun hHeld => ?_); refine with_tabW laws_eqGateS.tab6 laws_eqGateS.bits6 (fun HT_ HW_ => ?_)
                generalize wr.drew = w11 at HB HR122_2 HR123_2 hx122_0 hx122_1 hx122_2 hx123_0 hx123_1 hx123_2 hHeld ⊢
                refine pure_ (i := 0) (N := some 17) (v := ?_) (a' := ?_) #[true, false, false, false, false, false, false, false, false, false] rfl rfl (any_of HT_.out (by kernel_rfl)) (fun _ _ _ h => h) (Or.inl ⟨by rfl, ?_⟩) ?_ ?_
                rotate_left
                · intro w'
                  first | (go_simp; with_reducible rfl) | (simp [go_sem, Instr.field, asAgg] <;> with_reducible rfl)
                rotate_left
                · simp only [Act.put, List.setIfInBounds_toArray, List.set_cons_zero, List.set_cons_succ, i64_w, i32_w]
                  rfl
                refine pure_ (i := 1) (N := some 18) (v := ?_) (a' := ?_) #[true, true, false, false, false, false, false, false, false, false] rfl rfl (any_of HT_.out (by kernel_rfl)) (fun _ _ _ h => h) (Or.inl ⟨by rfl, ?_⟩) ?_ ?_
                rotate_left
                · intro w'
                  first | (go_simp; with_reducible rfl) | (simp [go_sem, Instr.field, asAgg] <;> with_reducible rfl)
                rotate_left
                · simp only [Act.put, List.setIfInBounds_toArray, List.set_cons_zero, List.set_cons_succ, i64_w, i32_w]
                  rfl
                refine pure_ (i := 2) (N := some 19) (v := ?_) (a' := ?_) #[true, true, true, false, false, false, false, false, false, false] rfl rfl (any_of HT_.out (by kernel_rfl)) (fun _ _ _ h => h) (Or.inl ⟨by rfl, ?_⟩) ?_ ?_
                rotate_left
                · intro w'
                  first | (go_simp; with_reducible rfl) | (simp [go_sem, Instr.field, asAgg] <;> with_reducible rfl)
                rotate_left
                · simp only [Act.put, List.setIfInBounds_toArray, List.set_cons_zero, List.set_cons_succ, i64_w, i32_w]
                  rfl
                refine pure_ (i := 4) (N := some 21) (v := ?_) (a' := ?_) #[true, true, true, false, true, false, false, false, false, false] rfl rfl (any_of HT_.out (by kernel_rfl)) (fun _ _ _ h => h) (Or.inl ⟨by rfl, ?_⟩) ?_ ?_
                rotate_left
                · intro w'
                  first | (go_simp; with_reducible rfl) | (simp [go_sem, Instr.field, asAgg] <;> with_reducible rfl)
                rotate_left
                · simp only [Act.put, List.setIfInBounds_toArray, List.set_cons_zero, List.set_cons_succ, i64_w, i32_w]
                  rfl
                refine pure_ (i := 5) (N := some 22) (v := ?_) (a' := ?_) #[true, true, true, false, true, true, false, false, false, false] rfl rfl (any_of HT_.out (by kernel_rfl)) (fun _ _ _ h => h) (Or.inl ⟨by rfl, ?_⟩) ?_ ?_
                rotate_left
                · intro w'
                  first | (go_simp; with_reducible rfl) | (simp [go_sem, Instr.field, asAgg] <;> with_reducible rfl)
                rotate_left
                · simp only [Act.put, List.setIfInBounds_toArray, List.set_cons_zero, List.set_cons_succ, i64_w, i32_w]
                  rfl
                refine pure_ (i := 6) (N := some 23) (v := ?_) (a' := ?_) #[true, true, true, false, true, true, true, false, false, false] rfl rfl (any_of HT_.out (by kernel_rfl)) (fun _ _ _ h => h) (Or.inl ⟨by rfl, ?_⟩) ?_ ?_
                rotate_left
                · intro w'
                  first | (go_simp; with_reducible rfl) | (simp [go_sem, Instr.field, asAgg] <;> with_reducible rfl)
                rotate_left
                · simp only [Act.put, List.setIfInBounds_toArray, List.set_cons_zero, List.set_cons_succ, i64_w, i32_w]
                  rfl
                refine take_ (i := 3) (N := some 20) (v := ?_) (a' := ?_) #[true, true, true, true, true, true, true, false, false, false] rfl rfl (take_ofW HT_.out HW_.out (by kernel_rfl)) (fun _ _ _ h => h) (Or.inl ⟨by rfl, ?_⟩) hHeld ?_ ?_
                rotate_left
                · rintro w' ⟨s0, s1, s2, s3, s4, s5⟩
                  go_simp
                  with_reducible rfl
                rotate_left
                · simp only [Act.put, List.setIfInBounds_toArray, List.set_cons_zero, List.set_cons_succ, i64_w, i32_w]
                  rfl
                refine take_ (i := 7) (N := some 24) (v := ?_) (a' := ?_) #[true, true, true, true, true, true, true, true, false, false] rfl rfl (take_ofW HT_.out HW_.out (by kernel_rfl)) (fun _ _ _ h => h) (Or.inl ⟨by rfl, ?_⟩) hHeld ?_ ?_
                rotate_left
                · rintro w' ⟨s0, s1, s2, s3, s4, s5⟩
                  go_simp
                  with_reducible rfl
                rotate_left
                · simp only [Act.put, List.setIfInBounds_toArray, List.set_cons_zero, List.set_cons_succ, i64_w, i32_w]
                  rfl
                refine one_ (i := 8) (N := some 25) #[true, true, true, true, true, true, true, true, true, false] rfl rfl (one_of HT_.out (by kernel_rfl)) (by decide) (fun K hK => ?_)
                refine goes_ Try.func16 (by kernel_rfl) rfl #[.agg #[.int .i64 ((rd_T29 l0 x5_1).f0), .int .i64 ((rd_T29 l0 x5_1).f1), .slice A122_2 ((rd_T29 l0 x5_1).f2).length c122_2], .agg #[.int .i64 ((rd_T29 l1 x5_1).f0), .int .i64 ((rd_T29 l1 x5_1).f1), .slice A123_2 ((rd_T29 l1 x5_1).f2).length c123_2]] (by rfl) rfl rfl (by (try simp only [List.map_toArray, List.map_cons, List.map_nil]); first | done | rfl | (simp only [List.length_drop, List.length_take]; rfl)) ?_
                with_reducible refine (ihG k1 (by have := HK1.out; omega) ((rd_T29 l0 x5_1).f0) ((rd_T29 l0 x5_1).f1) _ _ ((rd_T29 l0 x5_1).f2) ((rd_T29 l1 x5_1).f0) ((rd_T29 l1 x5_1).f1) _ _ ((rd_T29 l1 x5_1).f2) false _ ?side1 ?side2 ?side3 ?side4 A7.out).mono ?_
                (case side1 => repeat (first | exact (Kd.C_below HR122_2.out HB.out) | (with_reducible refine Kd.C_alloc ?_ _) | (with_reducible refine Kd.C_drewN ?_ _) | (with_reducible refine Kd.C_drew ?_)))
                (case side2 => exact HC122_2.out)
                (case side3 => repeat (first | exact (Kd.C_below HR123_2.out HB.out) | (with_reducible refine Kd.C_alloc ?_ _) | (with_reducible refine Kd.C_drewN ?_ _) | (with_reducible refine Kd.C_drew ?_)))
                (case side4 => exact HC123_2.out)
                rintro e w12 ⟨rfl, hb⟩
                refine ⟨_, rfl, ?_⟩
                have n0_ := Aside0.mk (below_step (by repeat (first | (with_reducible first | exact HB.out | apply below_alloc | apply pw_below_drewN | apply below_drew1) | exact HB.out)) hb)
                clear HB
                have HB := n0_
                clear n0_
                (try clear hb)
                (try clear hb2)
                (try clear hk)
                (try clear hi)
                refine hK.out _ _ ⟨((HB.out.cell (World.block_lt_of_cell? w _ hw122_0)).trans hw122_0), ((HB.out.cell (World.block_lt_of_cell? w _ hw122_1)).trans hw122_1), ((HB.out.cell (World.block_lt_of_cell? w _ hw122_2)).trans hw122_2), ((HB.out.cell (World.block_lt_of_cell? w _ hw123_0)).trans hw123_0), ((HB.out.cell (World.block_lt_of_cell? w _ hw123_1)).trans hw123_1), ((HB.out.cell (World.block_lt_of_cell? w _ hw123_2)).trans hw123_2)⟩ (fun hHeld => ?_)
                clear hK K
                refine norm_ (a' := ?_) ?_ ?_
                rotate_left
                · show Act.put _ (some 25) _ = _
                  simp only [Act.put, List.setIfInBounds_toArray, List.set_cons_zero, List.set_cons_succ, i64_w, i32_w]
                  rfl
                refine pure_ (i := 9) (N := some 26) (v := ?_) (a' := ?_) #[true, true, true, true, true, true, true, true, true, true] rfl rfl (any_of HT_.out (by kernel_rfl)) (fun _ _ _ h => h) (Or.inl ⟨by rfl, ?_⟩) ?_ ?_
                rotate_left
                · intro w'
                  first | (go_simp; with_reducible rfl) | (simp [go_sem, Instr.field, asAgg] <;> with_reducible rfl)
                rotate_left
                · simp only [Act.put, List.setIfInBounds_toArray, List.set_cons_zero, List.set_cons_succ, i64_w, i32_w]
                  rfl
                refine done_ (done_of HT_.out (by kernel_rfl)) ?_
                try go_wp2
                go_ret
                exact ⟨by first | rfl | (simp [errW_none, errW_some] <;> rfl) | (simp [*, errW_none, errW_some] <;> rfl), by repeat (first | (with_reducible first | exact HB.out | apply below_alloc | apply pw_below_drewN | apply below_drew1) | exact HB.out)⟩
            · rw [if_neg c6] at H
              exact absurd H (by simp)
          · rw [if_neg c5] at H
            exact absurd H (by simp)
        · rw [if_neg c4] at H
          have c4b0 : decide (x5_1 < (l0.length : Int)) = false := decide_eq_false c4
          clear c4
          obtain rfl := Option.some.inj H
          go_wp2
          go_ret
          exact ⟨by first | rfl | (simp [errW_none, errW_some] <;> rfl) | (simp [*, errW_none, errW_some] <;> rfl), by repeat (first | (with_reducible first | exact HB.out | apply below_alloc | apply pw_below_drewN | apply below_drew1) | exact HB.out)⟩
  · rw [if_neg c3] at H
    have c3b0 : ((l0.length : Int) == (l1.length : Int)) = false := beq_eq_false_iff_ne.mpr c3
    have c3b1 : ((l0.length : Int) != (l1.length : Int)) = true := bne_iff_ne.mpr c3
    have c3b2 : (l0.length == l1.length) = false := by first | simpa using c3 | (simp at c3 ⊢; omega)
    obtain rfl := Option.some.inj H
    go_enter Try.func46, Try.ntmps46
    go_wp2
    go_ret
    exact ⟨by first | rfl | (simp [errW_none, errW_some] <;> rfl) | (simp [*, errW_none, errW_some] <;> rfl), by repeat (first | (with_reducible first | exact HB.out | apply below_alloc | apply pw_below_drewN | apply below_drew1) | exact HB.out)⟩
theorem laws_eqGate.calls (k : Nat) (a0_0 : Int) (a0_1 : Int) (A0_2 : Option Addr) (c0_2 : Nat) (l0_2 : List (S29)) (a1_0 : Int) (a1_1 : Int) (A1_2 : Option Addr) (c1_2 : Nat) (l1_2 : List (S29)) (r : Bool) (w : World) (hr0_2 : Kd.C k29 w A0_2 l0_2.length l0_2) (hc0_2 : l0_2.length ≤ c0_2) (hr1_2 : Kd.C k29 w A1_2 l1_2.length l1_2) (hc1_2 : l1_2.length ≤ c1_2) (h : laws_eqGate.f k a0_0 a0_1 l0_2 a1_0 a1_1 l1_2 = some r) :
    Calls Try.prog 16 #[.agg #[.int .i64 a0_0, .int .i64 a0_1, .slice A0_2 l0_2.length c0_2], .agg #[.int .i64 a1_0, .int .i64 a1_1, .slice A1_2 l1_2.length c1_2]] w fun e w' => e = .returned (.bool r) ∧ Below w.heap.size w w' := by
  cases k with
  | zero => exact absurd h (by simp [laws_eqGate.f])
  | succ k => exact laws_eqGate.calls_of k (laws_eqGateS.calls k) a0_0 a0_1 A0_2 c0_2 l0_2 a1_0 a1_1 A1_2 c1_2 l1_2 r w hr0_2 hc0_2 hr1_2 hc1_2 h

end Go.Proofs.Ytjnobnmjhpmpfaa.P

namespace Go.Proofs.Ytjnobnmjhpmpfaa.P
open Go.RowKit Go.Proofs.YtjnobnmjhpmpfaaW.PrintWords Go.Proofs.YtjnobnmjhpmpfaaW.PrintLast Go.Proofs.YtjnobnmjhpmpfaaW.PrintMore
attribute [local go_sem] max2_int min2_int max_two min_two max_three min_three max_four min_four
set_option linter.unusedVariables false
set_option linter.unusedSimpArgs false

/-! ### laws_markInt64SS: function 82 (by hand) -/
/-- The mark of a flat row, in one form for all marks: it writes into the row's own blocks alone. -/
theorem laws_markInt64S.callsM (k : Nat) (P0_ : Nat → Prop) (u : Value) (l0 : List Int) (a1 : Int) (r1 : Int) (r2 : List Int) (w0 w : World) (hB : Below w0.heap.size w0 w) (ho0 : Kd.R (Kd.int .i64) 2 w w0.heap.size P0_ u l0) (h : laws_markInt64S.f k l0 a1 = some (r1, r2)) :
    Calls Try.prog 28 #[u, .int .i64 a1] w fun e w' => e = .returned (.int .i64 r1) ∧ Kd.R (Kd.int .i64) 2 w' w0.heap.size P0_ u r2 ∧ Below w0.heap.size w0 w' ∧ Kept w w' P0_ := by
  refine (laws_markInt64S.calls k P0_ u l0 a1 r1 r2 w0 w hB ho0 h).mono ?_
  rintro e w' ⟨he, hr, hb, hk⟩
  exact ⟨he, Kd.R_reok rfl hr (fun k_ e_ => ho0.1 k_ e_), hb, hk⟩
end Go.Proofs.Ytjnobnmjhpmpfaa.P

namespace Go.Proofs.Ytjnobnmjhpmpfaa.P
open Go.RowKit Go.Proofs.YtjnobnmjhpmpfaaW.PrintWords Go.Proofs.YtjnobnmjhpmpfaaW.PrintLast Go.Proofs.YtjnobnmjhpmpfaaW.PrintMore
attribute [local go_sem] max2_int min2_int max_two min_two max_three min_three max_four min_four
set_option linter.unusedVariables false
set_option linter.unusedSimpArgs false

/-! ### laws_FnExactLevelGate: function 8 (the law's walk, by a program of this session) -/
set_option maxHeartbeats 8000000 in
set_option maxRecDepth 100000 in
theorem laws_FnExactLevelGate.way0 (k : Nat) (A0 : Option Addr) (c0 : Nat) (l0 : List Int) (A1 : Option Addr) (c1 : Nat) (l1 : List Int)  (w : World) (hr0 : Kd.C (Kd.int .i64) w A0 l0.length l0) (hc0 : l0.length ≤ c0) (hr1 : Kd.C (Kd.int .i64) w A1 l1.length l1) (hc1 : l1.length ≤ c1) (t1 : decide (1048576 < (l0.length : Int)) = true) (t2 : decide (1048576 < l0.length) = true) :
    Calls Try.prog 8 #[.slice A0 l0.length c0, .slice A1 l1.length c1] w fun e w' => e = .returned (.bool true) ∧ Below w.heap.size w w' := by
  have HR0 := Aside0.mk hr0
  have HC0 := Aside0.mk hc0
  clear hr0 hc0
  have HR1 := Aside0.mk hr1
  have HC1 := Aside0.mk hc1
  clear hr1 hc1
  have HB := Aside0.mk (Below.refl w.heap.size w)
  go_enter Try.func8, Try.ntmps8
  go_wp2
  go_ret
  exact ⟨rfl, by repeat (first | (with_reducible first | exact HB.out | apply below_alloc | apply pw_below_drewN | apply below_drew1) | exact HB.out)⟩
set_option maxHeartbeats 8000000 in
set_option maxRecDepth 100000 in
theorem laws_FnExactLevelGate.way1 (k : Nat) (A0 : Option Addr) (c0 : Nat) (l0 : List Int) (A1 : Option Addr) (c1 : Nat) (l1 : List Int)  (w : World) (hr0 : Kd.C (Kd.int .i64) w A0 l0.length l0) (hc0 : l0.length ≤ c0) (hr1 : Kd.C (Kd.int .i64) w A1 l1.length l1) (hc1 : l1.length ≤ c1) (t1 : decide (1048576 < (l0.length : Int)) = false) (t2 : decide (1048576 < l0.length) = false) (t3 : decide (1048576 < (l1.length : Int)) = true) (t4 : decide (1048576 < l1.length) = true) :
    Calls Try.prog 8 #[.slice A0 l0.length c0, .slice A1 l1.length c1] w fun e w' => e = .returned (.bool true) ∧ Below w.heap.size w w' := by
  have HR0 := Aside0.mk hr0
  have HC0 := Aside0.mk hc0
  clear hr0 hc0
  have HR1 := Aside0.mk hr1
  have HC1 := Aside0.mk hc1
  clear hr1 hc1
  have HB := Aside0.mk (Below.refl w.heap.size w)
  go_enter Try.func8, Try.ntmps8
  go_wp2
  go_ret
  exact ⟨rfl, by repeat (first | (with_reducible first | exact HB.out | apply below_alloc | apply pw_below_drewN | apply below_drew1) | exact HB.out)⟩
set_option maxHeartbeats 8000000 in
set_option maxRecDepth 100000 in
theorem laws_FnExactLevelGate.way2 (k : Nat) (A0 : Option Addr) (c0 : Nat) (l0 : List Int) (A1 : Option Addr) (c1 : Nat) (l1 : List Int) (r13 : Int) (r14 : Int) (r15 : List (S29)) (r16 : Int) (m83 : Int) (ys84 : List Int) (m95 : Int) (ys96 : List Int) (m118 : Int) (ys119 : List (S29)) (w : World) (hr0 : Kd.C (Kd.int .i64) w A0 l0.length l0) (hc0 : l0.length ≤ c0) (hr1 : Kd.C (Kd.int .i64) w A1 l1.length l1) (hc1 : l1.length ≤ c1) (t1 : decide (1048576 < (l0.length : Int)) = false) (t2 : decide (1048576 < l0.length) = false) (t3 : decide (1048576 < (l1.length : Int)) = false) (t4 : decide (1048576 < l1.length) = false) (A5 : laws_toInt64S.f k l0 = some l0) (A9 : laws_toInt64S.f k l1 = some l1) (A17 : spec_LevelGate.f k l0 l1 = some (r13, r14, r15, r16)) (A22 : laws_toInt64S.f k l0 = some l0) (A30 : laws_toInt64S.f k l1 = some l1) (A38 : impl_LevelGate.f k l0 l1 = some (r13, r14, r15, r16)) (A47 : laws_eqGate.f k r13 r14 r15 r13 r14 r15 = some true) (A57 : laws_toInt64S.f k l0 = some l0) (A69 : laws_eqInt64S.f k l0 l0 = some true) (A70 : laws_toInt64S.f k l1 = some l1) (A82 : laws_eqInt64S.f k l1 l1 = some true) (A85 : laws_markInt64S.f k l0 1 = some (m83, ys84)) (A97 : laws_markInt64S.f k l1 m83 = some (m95, ys96)) (t107 : decide (m95 < 0) = false) (A108 : laws_eqGate.f k r13 r14 r15 r13 r14 r15 = some true) (A120 : laws_markGate.f k r13 r14 r15 1 = some (m118, ys119)) (A130 : laws_heldGate.f k r13 r14 ys119 1 = some m118) (t140 : decide (m118 < 0) = false) (A141 : laws_toInt64S.f k l0 = some l0) (A153 : laws_toInt64S.f k l1 = some l1) (A165 : impl_LevelGate.f k l0 l1 = some (r13, r14, r15, r16)) (A178 : laws_eqGate.f k r13 r14 r15 r13 r14 r15 = some true) (A192 : laws_heldGate.f k r13 r14 ys119 1 = some m118) (t206 : decide (m118 < 0) = false) :
    Calls Try.prog 8 #[.slice A0 l0.length c0, .slice A1 l1.length c1] w fun e w' => e = .returned (.bool true) ∧ Below w.heap.size w w' := by
  have hu29 := Try.underlying29
  have HR0 := Aside0.mk hr0
  have HC0 := Aside0.mk hc0
  clear hr0 hc0
  have HR1 := Aside0.mk hr1
  have HC1 := Aside0.mk hc1
  clear hr1 hc1
  have HB := Aside0.mk (Below.refl w.heap.size w)
  replace A5 := Aside0.mk A5
  replace A9 := Aside0.mk A9
  replace A17 := Aside0.mk A17
  replace A22 := Aside0.mk A22
  replace A30 := Aside0.mk A30
  replace A38 := Aside0.mk A38
  replace A47 := Aside0.mk A47
  replace A57 := Aside0.mk A57
  replace A69 := Aside0.mk A69
  replace A70 := Aside0.mk A70
  replace A82 := Aside0.mk A82
  replace A85 := Aside0.mk A85
  replace A97 := Aside0.mk A97
  replace A108 := Aside0.mk A108
  replace A120 := Aside0.mk A120
  replace A130 := Aside0.mk A130
  replace A141 := Aside0.mk A141
  replace A153 := Aside0.mk A153
  replace A165 := Aside0.mk A165
  replace A178 := Aside0.mk A178
  replace A192 := Aside0.mk A192
  go_enter Try.func8, Try.ntmps8
  go_wp2_with (first | ((with_reducible refine gate_callee (f := 31) rfl ?_); refine goesL_ (some 24) rfl rfl Try.func31 (by kernel_rfl) rfl #[.slice A0 l0.length c0] rfl (by (try simp only [List.map_toArray, List.map_cons, List.map_nil]); first | done | rfl | (simp only [List.length_drop, List.length_take]; rfl)) ?_; (with_reducible refine (laws_toInt64S.calls k _ _ l0 l0 _ ?side1 ?side2 A5.out).mono ?_); (case side1 => exact Kd.C_below HR0.out (by repeat (first | (with_reducible first | exact HB.out | apply below_alloc | apply pw_below_drewN | apply below_drew1) | exact HB.out))); (case side2 => exact HC0.out); rintro e w1 ⟨v100_, rfl, ho0_, hb⟩; refine ⟨_, rfl, ?_⟩; have n1_ := Aside0.mk (below_step (by repeat (first | (with_reducible first | exact HB.out | apply below_alloc | apply pw_below_drewN | apply below_drew1) | exact HB.out)) hb); have C6 : Aside0 (w.heap.size ≤ w1.heap.size) := ⟨by have h_ := hb.size; (try simp at h_); omega⟩; have CC := Aside0.mk C6.out; clear HB; have HB := n1_; clear n1_; have HO7 := Aside0.mk (Kd.R_lower (base' := w.heap.size) (Kd.R_mono (Kd.R_bound ho0_) (ok' := fun k_ => w.heap.size ≤ k_ ∧ k_ < w1.heap.size) (fun k_ hk_ => ⟨by have h_ := hk_.2.1; (try simp at h_); omega, hk_.2.2.1⟩)) (by have := CC.out; first | omega | (simp; done) | (simp; omega))); obtain ⟨Az8, cz8, ez8⟩ := Kd.R_slice HO7.out; subst ez8; (try clear hb); (try clear ho0_)) | ((with_reducible refine gate_callee (f := 31) rfl ?_); refine goesL_ (some 26) rfl rfl Try.func31 (by kernel_rfl) rfl #[.slice A1 l1.length c1] rfl (by (try simp only [List.map_toArray, List.map_cons, List.map_nil]); first | done | rfl | (simp only [List.length_drop, List.length_take]; rfl)) ?_; (with_reducible refine (laws_toInt64S.calls k _ _ l1 l1 _ ?side1 ?side2 A9.out).mono ?_); (case side1 => exact Kd.C_below HR1.out (by repeat (first | (with_reducible first | exact HB.out | apply below_alloc | apply pw_below_drewN | apply below_drew1) | exact HB.out))); (case side2 => exact HC1.out); rintro e w2 ⟨v100_, rfl, ho0_, hb⟩; refine ⟨_, rfl, ?_⟩; have n1_ := Aside0.mk (Kd.R_below (by (with_reducible repeat (first | apply Kd.R_alloc | apply Kd.R_drewN | apply Kd.R_drew)); exact HO7.out) hb); have n2_ := Aside0.mk (below_step (by repeat (first | (with_reducible first | exact HB.out | apply below_alloc | apply pw_below_drewN | apply below_drew1) | exact HB.out)) hb); have C10 : Aside0 (w1.heap.size ≤ w2.heap.size) := ⟨by have h_ := hb.size; (try simp at h_); omega⟩; have CCn_ := Aside0.mk (And.intro CC.out C10.out); clear CC; have CC := CCn_; clear CCn_; clear HO7; clear HB; have HO7 := n1_; clear n1_; have HB := n2_; clear n2_; have HO11 := Aside0.mk (Kd.R_lower (base' := w.heap.size) (Kd.R_mono (Kd.R_bound ho0_) (ok' := fun k_ => w1.heap.size ≤ k_ ∧ k_ < w2.heap.size) (fun k_ hk_ => ⟨by have h_ := hk_.2.1; (try simp at h_); omega, hk_.2.2.1⟩)) (by have := CC.out; first | omega | (simp; done) | (simp; omega))); obtain ⟨Az12, cz12, ez12⟩ := Kd.R_slice HO11.out; subst ez12; (try clear hb); (try clear ho0_)) | ((with_reducible refine gate_callee (f := 30) rfl ?_); refine goesL_ (some 27) rfl rfl Try.func30 (by kernel_rfl) rfl #[.slice Az8 l0.length cz8, .slice Az12 l1.length cz12] rfl (by (try simp only [List.map_toArray, List.map_cons, List.map_nil]); first | done | rfl | (simp only [List.length_drop, List.length_take]; rfl)) ?_; (with_reducible refine (spec_LevelGate.calls k _ _ l0 _ _ l1 r13 r14 r15 r16 _ ?side1 ?side2 ?side3 ?side4 A17.out).mono ?_); (case side1 => exact (Kd.R_reads' (n := l0.length) (A := Az8) (c := cz8) (by (with_reducible repeat (first | apply Kd.R_alloc | apply Kd.R_drewN | apply Kd.R_drew)); exact HO7.out)).2.2); (case side2 => exact (Kd.R_reads' (n := l0.length) (A := Az8) (c := cz8) HO7.out).2.1); (case side3 => exact (Kd.R_reads' (n := l1.length) (A := Az12) (c := cz12) (by (with_reducible repeat (first | apply Kd.R_alloc | apply Kd.R_drewN | apply Kd.R_drew)); exact HO11.out)).2.2); (case side4 => exact (Kd.R_reads' (n := l1.length) (A := Az12) (c := cz12) HO11.out).2.1); rintro e w3 ⟨v100_, rfl, ho0_, hb⟩; refine ⟨_, rfl, ?_⟩; have n1_ := Aside0.mk (Kd.R_below (by (with_reducible repeat (first | apply Kd.R_alloc | apply Kd.R_drewN | apply Kd.R_drew)); exact HO7.out) hb); have n2_ := Aside0.mk (Kd.R_below (by (with_reducible repeat (first | apply Kd.R_alloc | apply Kd.R_drewN | apply Kd.R_drew)); exact HO11.out) hb); have n3_ := Aside0.mk (below_step (by repeat (first | (with_reducible first | exact HB.out | apply below_alloc | apply pw_below_drewN | apply below_drew1) | exact HB.out)) hb); have C18 : Aside0 (w2.heap.size ≤ w3.heap.size) := ⟨by have h_ := hb.size; (try simp at h_); omega⟩; have CCn_ := Aside0.mk (And.intro CC.out C18.out); clear CC; have CC := CCn_; clear CCn_; clear HO7; clear HO11; clear HB; have HO7 := n1_; clear n1_; have HO11 := n2_; clear n2_; have HB := n3_; clear n3_; have HO19 := Aside0.mk (Kd.G_lower (base' := w.heap.size) (Kd.G_mono (Kd.G_bound ho0_) (ok' := fun k_ => w2.heap.size ≤ k_ ∧ k_ < w3.heap.size) (fun k_ hk_ => ⟨by have h_ := hk_.2.1; (try simp at h_); omega, hk_.2.2.1⟩)) (by have := CC.out; first | omega | (simp; done) | (simp; omega))); obtain ⟨Az20, cz20, ez20⟩ := Kd.G_slice HO19.out; subst ez20; (try clear hb); (try clear ho0_)) | ((with_reducible refine gate_callee (f := 31) rfl ?_); refine goesL_ (some 31) rfl rfl Try.func31 (by kernel_rfl) rfl #[.slice A0 l0.length c0] rfl (by (try simp only [List.map_toArray, List.map_cons, List.map_nil]); first | done | rfl | (simp only [List.length_drop, List.length_take]; rfl)) ?_; (with_reducible refine (laws_toInt64S.calls k _ _ l0 l0 _ ?side1 ?side2 A22.out).mono ?_); (case side1 => exact Kd.C_below HR0.out (by repeat (first | (with_reducible first | exact HB.out | apply below_alloc | apply pw_below_drewN | apply below_drew1) | exact HB.out))); (case side2 => exact HC0.out); rintro e w4 ⟨v100_, rfl, ho0_, hb⟩; refine ⟨_, rfl, ?_⟩; have n1_ := Aside0.mk (Kd.G_below (by (with_reducible repeat (first | apply Kd.G_alloc | apply Kd.G_drewN | apply Kd.G_drew)); exact HO19.out) hb); have n2_ := Aside0.mk (blk_below (g := w3.heap.size) (o := .cells #[.int .i64 r13, .int .i64 r14, .slice Az20 r15.length cz20] 29 (0, 0)) (by repeat (first | exact blk_new_at (by simp) | (with_reducible refine blk_drewN ?_ _) | (with_reducible refine blk_drew ?_) | (with_reducible refine blk_alloc ?_ _))) hb); have n3_ := Aside0.mk (below_step (by repeat (first | (with_reducible first | exact HB.out | apply below_alloc | apply pw_below_drewN | apply below_drew1) | exact HB.out)) hb); have C23 : Aside0 (w3.heap.size + 1 ≤ w4.heap.size) := ⟨by have h_ := hb.size; (try simp at h_); omega⟩; have CCn_ := Aside0.mk (And.intro CC.out C23.out); clear CC; have CC := CCn_; clear CCn_; clear HO19; clear HB; have HO19 := n1_; clear n1_; have HX21 := n2_; clear n2_; have HB := n3_; clear n3_; have HO24 := Aside0.mk (Kd.R_lower (base' := w.heap.size) (Kd.R_mono (Kd.R_bound ho0_) (ok' := fun k_ => w3.heap.size + 1 ≤ k_ ∧ k_ < w4.heap.size) (fun k_ hk_ => ⟨by have h_ := hk_.2.1; (try simp at h_); omega, hk_.2.2.1⟩)) (by have := CC.out; first | omega | (simp; done) | (simp; omega))); obtain ⟨Az25, cz25, ez25⟩ := Kd.R_slice HO24.out; subst ez25; (try clear hb); (try clear ho0_); have hl26 : w3.heap.size < w4.heap.size := blk_lt HX21.out; have hx27 : w4.cell? ⟨w3.heap.size, 0, none⟩ = some (.int .i64 r13) := (blk_cell HX21.out 0).trans rfl; have hx28 : w4.cell? ⟨w3.heap.size, 1, none⟩ = some (.int .i64 r14) := (blk_cell HX21.out 1).trans rfl; have hx29 : w4.cell? ⟨w3.heap.size, 2, none⟩ = some (.slice Az20 r15.length cz20) := (blk_cell HX21.out 2).trans rfl) | ((with_reducible refine gate_callee (f := 31) rfl ?_); refine goesL_ (some 33) rfl rfl Try.func31 (by kernel_rfl) rfl #[.slice A1 l1.length c1] rfl (by (try simp only [List.map_toArray, List.map_cons, List.map_nil]); first | done | rfl | (simp only [List.length_drop, List.length_take]; rfl)) ?_; (with_reducible refine (laws_toInt64S.calls k _ _ l1 l1 _ ?side1 ?side2 A30.out).mono ?_); (case side1 => exact Kd.C_below HR1.out (by repeat (first | (with_reducible first | exact HB.out | apply below_alloc | apply pw_below_drewN | apply below_drew1) | exact HB.out))); (case side2 => exact HC1.out); rintro e w5 ⟨v100_, rfl, ho0_, hb⟩; refine ⟨_, rfl, ?_⟩; have n1_ := Aside0.mk (Kd.G_below (by (with_reducible repeat (first | apply Kd.G_alloc | apply Kd.G_drewN | apply Kd.G_drew)); exact HO19.out) hb); have n2_ := Aside0.mk (Kd.R_below (by (with_reducible repeat (first | apply Kd.R_alloc | apply Kd.R_drewN | apply Kd.R_drew)); exact HO24.out) hb); have n3_ := Aside0.mk (blk_below (g := w3.heap.size) (o := .cells #[.int .i64 r13, .int .i64 r14, .slice Az20 r15.length cz20] 29 (0, 0)) (by (with_reducible repeat (first | refine blk_drewN ?_ _ | refine blk_drew ?_ | refine blk_alloc ?_ _)); exact HX21.out) hb); have n4_ := Aside0.mk (below_step (by repeat (first | (with_reducible first | exact HB.out | apply below_alloc | apply pw_below_drewN | apply below_drew1) | exact HB.out)) hb); have C31 : Aside0 (w4.heap.size ≤ w5.heap.size) := ⟨by have h_ := hb.size; (try simp at h_); omega⟩; have CCn_ := Aside0.mk (And.intro CC.out C31.out); clear CC; have CC := CCn_; clear CCn_; clear HO19; clear HO24; clear HX21; clear HB; clear hl26; clear hx27; clear hx28; clear hx29; have HO19 := n1_; clear n1_; have HO24 := n2_; clear n2_; have HX21 := n3_; clear n3_; have HB := n4_; clear n4_; have HO32 := Aside0.mk (Kd.R_lower (base' := w.heap.size) (Kd.R_mono (Kd.R_bound ho0_) (ok' := fun k_ => w4.heap.size ≤ k_ ∧ k_ < w5.heap.size) (fun k_ hk_ => ⟨by have h_ := hk_.2.1; (try simp at h_); omega, hk_.2.2.1⟩)) (by have := CC.out; first | omega | (simp; done) | (simp; omega))); obtain ⟨Az33, cz33, ez33⟩ := Kd.R_slice HO32.out; subst ez33; (try clear hb); (try clear ho0_); have hl34 : w3.heap.size < w5.heap.size := blk_lt HX21.out; have hx35 : w5.cell? ⟨w3.heap.size, 0, none⟩ = some (.int .i64 r13) := (blk_cell HX21.out 0).trans rfl; have hx36 : w5.cell? ⟨w3.heap.size, 1, none⟩ = some (.int .i64 r14) := (blk_cell HX21.out 1).trans rfl; have hx37 : w5.cell? ⟨w3.heap.size, 2, none⟩ = some (.slice Az20 r15.length cz20) := (blk_cell HX21.out 2).trans rfl) | ((with_reducible refine gate_callee (f := 32) rfl ?_); refine goesL_ (some 37) rfl rfl Try.func32 (by kernel_rfl) rfl #[.slice Az25 l0.length cz25, .slice Az33 l1.length cz33] rfl (by (try simp only [List.map_toArray, List.map_cons, List.map_nil]); first | done | rfl | (simp only [List.length_drop, List.length_take]; rfl)) ?_; (with_reducible refine (impl_LevelGate.calls k _ _ l0 _ _ l1 r13 r14 r15 r16 _ ?side1 ?side2 ?side3 ?side4 A38.out).mono ?_); (case side1 => exact (Kd.R_reads' (n := l0.length) (A := Az25) (c := cz25) (by (with_reducible repeat (first | apply Kd.R_alloc | apply Kd.R_drewN | apply Kd.R_drew)); exact HO24.out)).2.2); (case side2 => exact (Kd.R_reads' (n := l0.length) (A := Az25) (c := cz25) HO24.out).2.1); (case side3 => exact (Kd.R_reads' (n := l1.length) (A := Az33) (c := cz33) (by (with_reducible repeat (first | apply Kd.R_alloc | apply Kd.R_drewN | apply Kd.R_drew)); exact HO32.out)).2.2); (case side4 => exact (Kd.R_reads' (n := l1.length) (A := Az33) (c := cz33) HO32.out).2.1); rintro e w6 ⟨v100_, rfl, ho0_, hb⟩; refine ⟨_, rfl, ?_⟩; have n1_ := Aside0.mk (Kd.G_below (by (with_reducible repeat (first | apply Kd.G_alloc | apply Kd.G_drewN | apply Kd.G_drew)); exact HO19.out) hb); have n2_ := Aside0.mk (Kd.R_below (by (with_reducible repeat (first | apply Kd.R_alloc | apply Kd.R_drewN | apply Kd.R_drew)); exact HO24.out) hb); have n3_ := Aside0.mk (Kd.R_below (by (with_reducible repeat (first | apply Kd.R_alloc | apply Kd.R_drewN | apply Kd.R_drew)); exact HO32.out) hb); have n4_ := Aside0.mk (blk_below (g := w3.heap.size) (o := .cells #[.int .i64 r13, .int .i64 r14, .slice Az20 r15.length cz20] 29 (0, 0)) (by (with_reducible repeat (first | refine blk_drewN ?_ _ | refine blk_drew ?_ | refine blk_alloc ?_ _)); exact HX21.out) hb); have n5_ := Aside0.mk (below_step (by repeat (first | (with_reducible first | exact HB.out | apply below_alloc | apply pw_below_drewN | apply below_drew1) | exact HB.out)) hb); have C39 : Aside0 (w5.heap.size ≤ w6.heap.size) := ⟨by have h_ := hb.size; (try simp at h_); omega⟩; have CCn_ := Aside0.mk (And.intro CC.out C39.out); clear CC; have CC := CCn_; clear CCn_; clear HO19; clear HO24; clear HO32; clear HX21; clear HB; clear hl34; clear hx35; clear hx36; clear hx37; have HO19 := n1_; clear n1_; have HO24 := n2_; clear n2_; have HO32 := n3_; clear n3_; have HX21 := n4_; clear n4_; have HB := n5_; clear n5_; have HO40 := Aside0.mk (Kd.G_lower (base' := w.heap.size) (Kd.G_mono (Kd.G_bound ho0_) (ok' := fun k_ => w5.heap.size ≤ k_ ∧ k_ < w6.heap.size) (fun k_ hk_ => ⟨by have h_ := hk_.2.1; (try simp at h_); omega, hk_.2.2.1⟩)) (by have := CC.out; first | omega | (simp; done) | (simp; omega))); obtain ⟨Az41, cz41, ez41⟩ := Kd.G_slice HO40.out; subst ez41; (try clear hb); (try clear ho0_); have hl42 : w3.heap.size < w6.heap.size := blk_lt HX21.out; have hx43 : w6.cell? ⟨w3.heap.size, 0, none⟩ = some (.int .i64 r13) := (blk_cell HX21.out 0).trans rfl; have hx44 : w6.cell? ⟨w3.heap.size, 1, none⟩ = some (.int .i64 r14) := (blk_cell HX21.out 1).trans rfl; have hx45 : w6.cell? ⟨w3.heap.size, 2, none⟩ = some (.slice Az20 r15.length cz20) := (blk_cell HX21.out 2).trans rfl) | ((with_reducible refine gate_callee (f := 16) rfl ?_); refine goesL_ (some 42) rfl rfl Try.func16 (by kernel_rfl) rfl #[.agg #[.int .i64 r13, .int .i64 r14, .slice Az41 r15.length cz41], .agg #[.int .i64 r13, .int .i64 r14, .slice Az20 r15.length cz20]] rfl (by (try simp only [List.map_toArray, List.map_cons, List.map_nil]); first | done | rfl | (simp only [List.length_drop, List.length_take]; rfl)) ?_; (with_reducible refine (laws_eqGate.calls k r13 r14 _ _ r15 r13 r14 _ _ r15 true _ ?side1 ?side2 ?side3 ?side4 A47.out).mono ?_); (case side1 => exact (Kd.G_reads' (n := r15.length) (A := Az41) (c := cz41) (by (with_reducible repeat (first | apply Kd.G_alloc | apply Kd.G_drewN | apply Kd.G_drew)); exact HO40.out)).2.2); (case side2 => exact (Kd.G_reads' (n := r15.length) (A := Az41) (c := cz41) HO40.out).2.1); (case side3 => exact (Kd.G_reads' (n := r15.length) (A := Az20) (c := cz20) (by (with_reducible repeat (first | apply Kd.G_alloc | apply Kd.G_drewN | apply Kd.G_drew)); exact HO19.out)).2.2); (case side4 => exact (Kd.G_reads' (n := r15.length) (A := Az20) (c := cz20) HO19.out).2.1); rintro e w7 ⟨rfl, hb⟩; refine ⟨_, rfl, ?_⟩; have n1_ := Aside0.mk (Kd.G_below (by (with_reducible repeat (first | apply Kd.G_alloc | apply Kd.G_drewN | apply Kd.G_drew)); exact HO19.out) hb); have n2_ := Aside0.mk (Kd.R_below (by (with_reducible repeat (first | apply Kd.R_alloc | apply Kd.R_drewN | apply Kd.R_drew)); exact HO24.out) hb); have n3_ := Aside0.mk (Kd.R_below (by (with_reducible repeat (first | apply Kd.R_alloc | apply Kd.R_drewN | apply Kd.R_drew)); exact HO32.out) hb); have n4_ := Aside0.mk (Kd.G_below (by (with_reducible repeat (first | apply Kd.G_alloc | apply Kd.G_drewN | apply Kd.G_drew)); exact HO40.out) hb); have n5_ := Aside0.mk (blk_below (g := w3.heap.size) (o := .cells #[.int .i64 r13, .int .i64 r14, .slice Az20 r15.length cz20] 29 (0, 0)) (by (with_reducible repeat (first | refine blk_drewN ?_ _ | refine blk_drew ?_ | refine blk_alloc ?_ _)); exact HX21.out) hb); have n6_ := Aside0.mk (blk_below (g := w6.heap.size) (o := .cells #[.int .i64 r13, .int .i64 r14, .slice Az41 r15.length cz41] 29 (0, 0)) (by repeat (first | exact blk_new_at (by simp) | (with_reducible refine blk_drewN ?_ _) | (with_reducible refine blk_drew ?_) | (with_reducible refine blk_alloc ?_ _))) hb); have n7_ := Aside0.mk (below_step (by repeat (first | (with_reducible first | exact HB.out | apply below_alloc | apply pw_below_drewN | apply below_drew1) | exact HB.out)) hb); have C48 : Aside0 (w6.heap.size + 1 ≤ w7.heap.size) := ⟨by have h_ := hb.size; (try simp at h_); omega⟩; have CCn_ := Aside0.mk (And.intro CC.out C48.out); clear CC; have CC := CCn_; clear CCn_; clear HO19; clear HO24; clear HO32; clear HO40; clear HX21; clear HB; clear hl42; clear hx43; clear hx44; clear hx45; have HO19 := n1_; clear n1_; have HO24 := n2_; clear n2_; have HO32 := n3_; clear n3_; have HO40 := n4_; clear n4_; have HX21 := n5_; clear n5_; have HX46 := n6_; clear n6_; have HB := n7_; clear n7_; (try clear hb); have hl49 : w3.heap.size < w7.heap.size := blk_lt HX21.out; have hx50 : w7.cell? ⟨w3.heap.size, 0, none⟩ = some (.int .i64 r13) := (blk_cell HX21.out 0).trans rfl; have hx51 : w7.cell? ⟨w3.heap.size, 1, none⟩ = some (.int .i64 r14) := (blk_cell HX21.out 1).trans rfl; have hx52 : w7.cell? ⟨w3.heap.size, 2, none⟩ = some (.slice Az20 r15.length cz20) := (blk_cell HX21.out 2).trans rfl; have hl53 : w6.heap.size < w7.heap.size := blk_lt HX46.out; have hx54 : w7.cell? ⟨w6.heap.size, 0, none⟩ = some (.int .i64 r13) := (blk_cell HX46.out 0).trans rfl; have hx55 : w7.cell? ⟨w6.heap.size, 1, none⟩ = some (.int .i64 r14) := (blk_cell HX46.out 1).trans rfl; have hx56 : w7.cell? ⟨w6.heap.size, 2, none⟩ = some (.slice Az41 r15.length cz41) := (blk_cell HX46.out 2).trans rfl) | ((with_reducible refine gate_callee (f := 31) rfl ?_); refine goesL_ (some 51) rfl rfl Try.func31 (by kernel_rfl) rfl #[.slice A0 l0.length c0] rfl (by (try simp only [List.map_toArray, List.map_cons, List.map_nil]); first | done | rfl | (simp only [List.length_drop, List.length_take]; rfl)) ?_; (with_reducible refine (laws_toInt64S.calls k _ _ l0 l0 _ ?side1 ?side2 A57.out).mono ?_); (case side1 => exact Kd.C_below HR0.out (by repeat (first | (with_reducible first | exact HB.out | apply below_alloc | apply pw_below_drewN | apply below_drew1) | exact HB.out))); (case side2 => exact HC0.out); rintro e w8 ⟨v100_, rfl, ho0_, hb⟩; refine ⟨_, rfl, ?_⟩; have n1_ := Aside0.mk (Kd.G_below (by (with_reducible repeat (first | apply Kd.G_alloc | apply Kd.G_drewN | apply Kd.G_drew)); exact HO19.out) hb); have n2_ := Aside0.mk (Kd.R_below (by (with_reducible repeat (first | apply Kd.R_alloc | apply Kd.R_drewN | apply Kd.R_drew)); exact HO24.out) hb); have n3_ := Aside0.mk (Kd.R_below (by (with_reducible repeat (first | apply Kd.R_alloc | apply Kd.R_drewN | apply Kd.R_drew)); exact HO32.out) hb); have n4_ := Aside0.mk (Kd.G_below (by (with_reducible repeat (first | apply Kd.G_alloc | apply Kd.G_drewN | apply Kd.G_drew)); exact HO40.out) hb); have n5_ := Aside0.mk (blk_below (g := w3.heap.size) (o := .cells #[.int .i64 r13, .int .i64 r14, .slice Az20 r15.length cz20] 29 (0, 0)) (by (with_reducible repeat (first | refine blk_drewN ?_ _ | refine blk_drew ?_ | refine blk_alloc ?_ _)); exact HX21.out) hb); have n6_ := Aside0.mk (blk_below (g := w6.heap.size) (o := .cells #[.int .i64 r13, .int .i64 r14, .slice Az41 r15.length cz41] 29 (0, 0)) (by (with_reducible repeat (first | refine blk_drewN ?_ _ | refine blk_drew ?_ | refine blk_alloc ?_ _)); exact HX46.out) hb); have n7_ := Aside0.mk (below_step (by repeat (first | (with_reducible first | exact HB.out | apply below_alloc | apply pw_below_drewN | apply below_drew1) | exact HB.out)) hb); have C58 : Aside0 (w7.heap.size ≤ w8.heap.size) := ⟨by have h_ := hb.size; (try simp at h_); omega⟩; have CCn_ := Aside0.mk (And.intro CC.out C58.out); clear CC; have CC := CCn_; clear CCn_; clear HO19; clear HO24; clear HO32; clear HO40; clear HX21; clear HX46; clear HB; clear hl49; clear hx50; clear hx51; clear hx52; clear hl53; clear hx54; clear hx55; clear hx56; have HO19 := n1_; clear n1_; have HO24 := n2_; clear n2_; have HO32 := n3_; clear n3_; have HO40 := n4_; clear n4_; have HX21 := n5_; clear n5_; have HX46 := n6_; clear n6_; have HB := n7_; clear n7_; have HO59 := Aside0.mk (Kd.R_lower (base' := w.heap.size) (Kd.R_mono (Kd.R_bound ho0_) (ok' := fun k_ => w7.heap.size ≤ k_ ∧ k_ < w8.heap.size) (fun k_ hk_ => ⟨by have h_ := hk_.2.1; (try simp at h_); omega, hk_.2.2.1⟩)) (by have := CC.out; first | omega | (simp; done) | (simp; omega))); obtain ⟨Az60, cz60, ez60⟩ := Kd.R_slice HO59.out; subst ez60; (try clear hb); (try clear ho0_); have hl61 : w3.heap.size < w8.heap.size := blk_lt HX21.out; have hx62 : w8.cell? ⟨w3.heap.size, 0, none⟩ = some (.int .i64 r13) := (blk_cell HX21.out 0).trans rfl; have hx63 : w8.cell? ⟨w3.heap.size, 1, none⟩ = some (.int .i64 r14) := (blk_cell HX21.out 1).trans rfl; have hx64 : w8.cell? ⟨w3.heap.size, 2, none⟩ = some (.slice Az20 r15.length cz20) := (blk_cell HX21.out 2).trans rfl; have hl65 : w6.heap.size < w8.heap.size := blk_lt HX46.out; have hx66 : w8.cell? ⟨w6.heap.size, 0, none⟩ = some (.int .i64 r13) := (blk_cell HX46.out 0).trans rfl; have hx67 : w8.cell? ⟨w6.heap.size, 1, none⟩ = some (.int .i64 r14) := (blk_cell HX46.out 1).trans rfl; have hx68 : w8.cell? ⟨w6.heap.size, 2, none⟩ = some (.slice Az41 r15.length cz41) := (blk_cell HX46.out 2).trans rfl) | ((with_reducible refine gate_callee (f := 27) rfl ?_); refine goesL_ (some 52) rfl rfl Try.func27 (by kernel_rfl) rfl #[.slice Az25 l0.length cz25, .slice Az60 l0.length cz60] rfl (by (try simp only [List.map_toArray, List.map_cons, List.map_nil]); first | done | rfl | (simp only [List.length_drop, List.length_take]; rfl)) ?_; (with_reducible refine (laws_eqInt64S.calls k _ _ l0 _ _ l0 true _ ?side1 ?side2 ?side3 ?side4 A69.out).mono ?_); (case side1 => exact (Kd.R_reads' (n := l0.length) (A := Az25) (c := cz25) (by (with_reducible repeat (first | apply Kd.R_alloc | apply Kd.R_drewN | apply Kd.R_drew)); exact HO24.out)).2.2); (case side2 => exact (Kd.R_reads' (n := l0.length) (A := Az25) (c := cz25) HO24.out).2.1); (case side3 => exact (Kd.R_reads' (n := l0.length) (A := Az60) (c := cz60) (by (with_reducible repeat (first | apply Kd.R_alloc | apply Kd.R_drewN | apply Kd.R_drew)); exact HO59.out)).2.2); (case side4 => exact (Kd.R_reads' (n := l0.length) (A := Az60) (c := cz60) HO59.out).2.1); rintro e w' ⟨rfl, ⟨nd, rfl⟩⟩; refine ⟨_, rfl, ?_⟩) | ((with_reducible refine gate_callee (f := 31) rfl ?_); refine goesL_ (some 56) rfl rfl Try.func31 (by kernel_rfl) rfl #[.slice A1 l1.length c1] rfl (by (try simp only [List.map_toArray, List.map_cons, List.map_nil]); first | done | rfl | (simp only [List.length_drop, List.length_take]; rfl)) ?_; (with_reducible refine (laws_toInt64S.calls k _ _ l1 l1 _ ?side1 ?side2 A70.out).mono ?_); (case side1 => exact Kd.C_below HR1.out (by repeat (first | (with_reducible first | exact HB.out | apply below_alloc | apply pw_below_drewN | apply below_drew1) | exact HB.out))); (case side2 => exact HC1.out); rintro e w9 ⟨v100_, rfl, ho0_, hb⟩; refine ⟨_, rfl, ?_⟩; have n1_ := Aside0.mk (Kd.G_below (by (with_reducible repeat (first | apply Kd.G_alloc | apply Kd.G_drewN | apply Kd.G_drew)); exact HO19.out) hb); have n2_ := Aside0.mk (Kd.R_below (by (with_reducible repeat (first | apply Kd.R_alloc | apply Kd.R_drewN | apply Kd.R_drew)); exact HO24.out) hb); have n3_ := Aside0.mk (Kd.R_below (by (with_reducible repeat (first | apply Kd.R_alloc | apply Kd.R_drewN | apply Kd.R_drew)); exact HO32.out) hb); have n4_ := Aside0.mk (Kd.G_below (by (with_reducible repeat (first | apply Kd.G_alloc | apply Kd.G_drewN | apply Kd.G_drew)); exact HO40.out) hb); have n5_ := Aside0.mk (blk_below (g := w3.heap.size) (o := .cells #[.int .i64 r13, .int .i64 r14, .slice Az20 r15.length cz20] 29 (0, 0)) (by (with_reducible repeat (first | refine blk_drewN ?_ _ | refine blk_drew ?_ | refine blk_alloc ?_ _)); exact HX21.out) hb); have n6_ := Aside0.mk (blk_below (g := w6.heap.size) (o := .cells #[.int .i64 r13, .int .i64 r14, .slice Az41 r15.length cz41] 29 (0, 0)) (by (with_reducible repeat (first | refine blk_drewN ?_ _ | refine blk_drew ?_ | refine blk_alloc ?_ _)); exact HX46.out) hb); have n7_ := Aside0.mk (below_step (by repeat (first | (with_reducible first | exact HB.out | apply below_alloc | apply pw_below_drewN | apply below_drew1) | exact HB.out)) hb); have C71 : Aside0 (w8.heap.size ≤ w9.heap.size) := ⟨by have h_ := hb.size; (try simp at h_); omega⟩; have CCn_ := Aside0.mk (And.intro CC.out C71.out); clear CC; have CC := CCn_; clear CCn_; clear HO19; clear HO24; clear HO32; clear HO40; clear HX21; clear HX46; clear HB; clear hl61; clear hx62; clear hx63; clear hx64; clear hl65; clear hx66; clear hx67; clear hx68; have HO19 := n1_; clear n1_; have HO24 := n2_; clear n2_; have HO32 := n3_; clear n3_; have HO40 := n4_; clear n4_; have HX21 := n5_; clear n5_; have HX46 := n6_; clear n6_; have HB := n7_; clear n7_; have HO72 := Aside0.mk (Kd.R_lower (base' := w.heap.size) (Kd.R_mono (Kd.R_bound ho0_) (ok' := fun k_ => w8.heap.size ≤ k_ ∧ k_ < w9.heap.size) (fun k_ hk_ => ⟨by have h_ := hk_.2.1; (try simp at h_); omega, hk_.2.2.1⟩)) (by have := CC.out; first | omega | (simp; done) | (simp; omega))); obtain ⟨Az73, cz73, ez73⟩ := Kd.R_slice HO72.out; subst ez73; (try clear hb); (try clear ho0_); have hl74 : w3.heap.size < w9.heap.size := blk_lt HX21.out; have hx75 : w9.cell? ⟨w3.heap.size, 0, none⟩ = some (.int .i64 r13) := (blk_cell HX21.out 0).trans rfl; have hx76 : w9.cell? ⟨w3.heap.size, 1, none⟩ = some (.int .i64 r14) := (blk_cell HX21.out 1).trans rfl; have hx77 : w9.cell? ⟨w3.heap.size, 2, none⟩ = some (.slice Az20 r15.length cz20) := (blk_cell HX21.out 2).trans rfl; have hl78 : w6.heap.size < w9.heap.size := blk_lt HX46.out; have hx79 : w9.cell? ⟨w6.heap.size, 0, none⟩ = some (.int .i64 r13) := (blk_cell HX46.out 0).trans rfl; have hx80 : w9.cell? ⟨w6.heap.size, 1, none⟩ = some (.int .i64 r14) := (blk_cell HX46.out 1).trans rfl; have hx81 : w9.cell? ⟨w6.heap.size, 2, none⟩ = some (.slice Az41 r15.length cz41) := (blk_cell HX46.out 2).trans rfl) | ((with_reducible refine gate_callee (f := 27) rfl ?_); refine goesL_ (some 57) rfl rfl Try.func27 (by kernel_rfl) rfl #[.slice Az33 l1.length cz33, .slice Az73 l1.length cz73] rfl (by (try simp only [List.map_toArray, List.map_cons, List.map_nil]); first | done | rfl | (simp only [List.length_drop, List.length_take]; rfl)) ?_; (with_reducible refine (laws_eqInt64S.calls k _ _ l1 _ _ l1 true _ ?side1 ?side2 ?side3 ?side4 A82.out).mono ?_); (case side1 => exact (Kd.R_reads' (n := l1.length) (A := Az33) (c := cz33) (by (with_reducible repeat (first | apply Kd.R_alloc | apply Kd.R_drewN | apply Kd.R_drew)); exact HO32.out)).2.2); (case side2 => exact (Kd.R_reads' (n := l1.length) (A := Az33) (c := cz33) HO32.out).2.1); (case side3 => exact (Kd.R_reads' (n := l1.length) (A := Az73) (c := cz73) (by (with_reducible repeat (first | apply Kd.R_alloc | apply Kd.R_drewN | apply Kd.R_drew)); exact HO72.out)).2.2); (case side4 => exact (Kd.R_reads' (n := l1.length) (A := Az73) (c := cz73) HO72.out).2.1); rintro e w' ⟨rfl, ⟨nd, rfl⟩⟩; refine ⟨_, rfl, ?_⟩) | ((with_reducible refine gate_callee (f := 28) rfl ?_); refine goesL_ (some 61) rfl rfl Try.func28 (by kernel_rfl) rfl #[.slice Az25 l0.length cz25, .int .i64 1] rfl (by (try simp only [List.map_toArray, List.map_cons, List.map_nil]); first | done | rfl | (simp only [List.length_drop, List.length_take]; rfl)) ?_; (with_reducible refine (laws_markInt64S.callsM k (fun k_ => w3.heap.size + 1 ≤ k_ ∧ k_ < w4.heap.size) (.slice Az25 l0.length cz25) l0 1 m83 ys84 w _ ?side1 ?side2 A85.out).mono ?_); (case side1 => repeat (first | (with_reducible first | exact HB.out | apply below_alloc | apply pw_below_drewN | apply below_drew1) | exact HB.out)); (case side2 => exact (by (with_reducible repeat (first | apply Kd.R_alloc | apply Kd.R_drewN | apply Kd.R_drew)); exact HO24.out)); rintro e w10 ⟨rfl, hm0_, hbk, hk⟩; refine ⟨_, rfl, ?_⟩; have n1_ := Aside0.mk (Kd.G_kept (by (with_reducible repeat (first | apply Kd.G_alloc | apply Kd.G_drewN | apply Kd.G_drew)); exact HO19.out) hk (fun k_ hk_ hs_ => by have := CC.out; have h1_ := hk_; have h2_ := hs_; omega)); have n2_ := Aside0.mk (Kd.R_kept (by (with_reducible repeat (first | apply Kd.R_alloc | apply Kd.R_drewN | apply Kd.R_drew)); exact HO32.out) hk (fun k_ hk_ hs_ => by have := CC.out; have h1_ := hk_; have h2_ := hs_; omega)); have n3_ := Aside0.mk (Kd.G_kept (by (with_reducible repeat (first | apply Kd.G_alloc | apply Kd.G_drewN | apply Kd.G_drew)); exact HO40.out) hk (fun k_ hk_ hs_ => by have := CC.out; have h1_ := hk_; have h2_ := hs_; omega)); have n4_ := Aside0.mk (blk_kept (g := w3.heap.size) (o := .cells #[.int .i64 r13, .int .i64 r14, .slice Az20 r15.length cz20] 29 (0, 0)) (by (with_reducible repeat (first | refine blk_drewN ?_ _ | refine blk_drew ?_ | refine blk_alloc ?_ _)); exact HX21.out) hk (fun hs_ => by have := CC.out; have h2_ := hs_; omega)); have n5_ := Aside0.mk (blk_kept (g := w6.heap.size) (o := .cells #[.int .i64 r13, .int .i64 r14, .slice Az41 r15.length cz41] 29 (0, 0)) (by (with_reducible repeat (first | refine blk_drewN ?_ _ | refine blk_drew ?_ | refine blk_alloc ?_ _)); exact HX46.out) hk (fun hs_ => by have := CC.out; have h2_ := hs_; omega)); have n6_ := Aside0.mk (hbk); have C86 : Aside0 (w9.heap.size ≤ w10.heap.size) := ⟨by have h_ := hk.1; (try simp at h_); omega⟩; have CCn_ := Aside0.mk (And.intro CC.out C86.out); clear CC; have CC := CCn_; clear CCn_; clear HO19; clear HO32; clear HO40; clear HX21; clear HX46; clear HB; clear hl74; clear hx75; clear hx76; clear hx77; clear hl78; clear hx79; clear hx80; clear hx81; have HO19 := n1_; clear n1_; have HO32 := n2_; clear n2_; have HO40 := n3_; clear n3_; have HX21 := n4_; clear n4_; have HX46 := n5_; clear n5_; have HB := n6_; clear n6_; clear HO24; have HO24 := Aside0.mk hm0_; (try clear hk); (try clear hbk); (try clear hm0_); have hl87 : w3.heap.size < w10.heap.size := blk_lt HX21.out; have hx88 : w10.cell? ⟨w3.heap.size, 0, none⟩ = some (.int .i64 r13) := (blk_cell HX21.out 0).trans rfl; have hx89 : w10.cell? ⟨w3.heap.size, 1, none⟩ = some (.int .i64 r14) := (blk_cell HX21.out 1).trans rfl; have hx90 : w10.cell? ⟨w3.heap.size, 2, none⟩ = some (.slice Az20 r15.length cz20) := (blk_cell HX21.out 2).trans rfl; have hl91 : w6.heap.size < w10.heap.size := blk_lt HX46.out; have hx92 : w10.cell? ⟨w6.heap.size, 0, none⟩ = some (.int .i64 r13) := (blk_cell HX46.out 0).trans rfl; have hx93 : w10.cell? ⟨w6.heap.size, 1, none⟩ = some (.int .i64 r14) := (blk_cell HX46.out 1).trans rfl; have hx94 : w10.cell? ⟨w6.heap.size, 2, none⟩ = some (.slice Az41 r15.length cz41) := (blk_cell HX46.out 2).trans rfl) | ((with_reducible refine gate_callee (f := 28) rfl ?_); refine goesL_ (some 64) rfl rfl Try.func28 (by kernel_rfl) rfl #[.slice Az33 l1.length cz33, .int .i64 m83] rfl (by (try simp only [List.map_toArray, List.map_cons, List.map_nil]); first | done | rfl | (simp only [List.length_drop, List.length_take]; rfl)) ?_; (with_reducible refine (laws_markInt64S.callsM k (fun k_ => w4.heap.size ≤ k_ ∧ k_ < w5.heap.size) (.slice Az33 l1.length cz33) l1 m83 m95 ys96 w _ ?side1 ?side2 A97.out).mono ?_); (case side1 => repeat (first | (with_reducible first | exact HB.out | apply below_alloc | apply pw_below_drewN | apply below_drew1) | exact HB.out)); (case side2 => exact (by (with_reducible repeat (first | apply Kd.R_alloc | apply Kd.R_drewN | apply Kd.R_drew)); exact HO32.out)); rintro e w11 ⟨rfl, hm0_, hbk, hk⟩; refine ⟨_, rfl, ?_⟩; have n1_ := Aside0.mk (Kd.G_kept (by (with_reducible repeat (first | apply Kd.G_alloc | apply Kd.G_drewN | apply Kd.G_drew)); exact HO19.out) hk (fun k_ hk_ hs_ => by have := CC.out; have h1_ := hk_; have h2_ := hs_; omega)); have n2_ := Aside0.mk (Kd.R_kept (by (with_reducible repeat (first | apply Kd.R_alloc | apply Kd.R_drewN | apply Kd.R_drew)); exact HO24.out) hk (fun k_ hk_ hs_ => by have := CC.out; have h1_ := hk_; have h2_ := hs_; omega)); have n3_ := Aside0.mk (Kd.G_kept (by (with_reducible repeat (first | apply Kd.G_alloc | apply Kd.G_drewN | apply Kd.G_drew)); exact HO40.out) hk (fun k_ hk_ hs_ => by have := CC.out; have h1_ := hk_; have h2_ := hs_; omega)); have n4_ := Aside0.mk (blk_kept (g := w3.heap.size) (o := .cells #[.int .i64 r13, .int .i64 r14, .slice Az20 r15.length cz20] 29 (0, 0)) (by (with_reducible repeat (first | refine blk_drewN ?_ _ | refine blk_drew ?_ | refine blk_alloc ?_ _)); exact HX21.out) hk (fun hs_ => by have := CC.out; have h2_ := hs_; omega)); have n5_ := Aside0.mk (blk_kept (g := w6.heap.size) (o := .cells #[.int .i64 r13, .int .i64 r14, .slice Az41 r15.length cz41] 29 (0, 0)) (by (with_reducible repeat (first | refine blk_drewN ?_ _ | refine blk_drew ?_ | refine blk_alloc ?_ _)); exact HX46.out) hk (fun hs_ => by have := CC.out; have h2_ := hs_; omega)); have n6_ := Aside0.mk (hbk); have C98 : Aside0 (w10.heap.size ≤ w11.heap.size) := ⟨by have h_ := hk.1; (try simp at h_); omega⟩; have CCn_ := Aside0.mk (And.intro CC.out C98.out); clear CC; have CC := CCn_; clear CCn_; clear HO19; clear HO24; clear HO40; clear HX21; clear HX46; clear HB; clear hl87; clear hx88; clear hx89; clear hx90; clear hl91; clear hx92; clear hx93; clear hx94; have HO19 := n1_; clear n1_; have HO24 := n2_; clear n2_; have HO40 := n3_; clear n3_; have HX21 := n4_; clear n4_; have HX46 := n5_; clear n5_; have HB := n6_; clear n6_; clear HO32; have HO32 := Aside0.mk hm0_; (try clear hk); (try clear hbk); (try clear hm0_); have hl99 : w3.heap.size < w11.heap.size := blk_lt HX21.out; have hx100 : w11.cell? ⟨w3.heap.size, 0, none⟩ = some (.int .i64 r13) := (blk_cell HX21.out 0).trans rfl; have hx101 : w11.cell? ⟨w3.heap.size, 1, none⟩ = some (.int .i64 r14) := (blk_cell HX21.out 1).trans rfl; have hx102 : w11.cell? ⟨w3.heap.size, 2, none⟩ = some (.slice Az20 r15.length cz20) := (blk_cell HX21.out 2).trans rfl; have hl103 : w6.heap.size < w11.heap.size := blk_lt HX46.out; have hx104 : w11.cell? ⟨w6.heap.size, 0, none⟩ = some (.int .i64 r13) := (blk_cell HX46.out 0).trans rfl; have hx105 : w11.cell? ⟨w6.heap.size, 1, none⟩ = some (.int .i64 r14) := (blk_cell HX46.out 1).trans rfl; have hx106 : w11.cell? ⟨w6.heap.size, 2, none⟩ = some (.slice Az41 r15.length cz41) := (blk_cell HX46.out 2).trans rfl) | (go_at_call 16; (with_reducible refine (laws_eqGate.calls k r13 r14 _ _ r15 r13 r14 _ _ r15 true _ ?side1 ?side2 ?side3 ?side4 A108.out).mono ?_); (case side1 => exact (Kd.G_reads' (n := r15.length) (A := Az41) (c := cz41) (by (with_reducible repeat (first | apply Kd.G_alloc | apply Kd.G_drewN | apply Kd.G_drew)); exact HO40.out)).2.2); (case side2 => exact (Kd.G_reads' (n := r15.length) (A := Az41) (c := cz41) HO40.out).2.1); (case side3 => exact (Kd.G_reads' (n := r15.length) (A := Az20) (c := cz20) (by (with_reducible repeat (first | apply Kd.G_alloc | apply Kd.G_drewN | apply Kd.G_drew)); exact HO19.out)).2.2); (case side4 => exact (Kd.G_reads' (n := r15.length) (A := Az20) (c := cz20) HO19.out).2.1); rintro e w12 ⟨rfl, hb⟩; have n1_ := Aside0.mk (Kd.G_below (by (with_reducible repeat (first | apply Kd.G_alloc | apply Kd.G_drewN | apply Kd.G_drew)); exact HO19.out) hb); have n2_ := Aside0.mk (Kd.R_below (by (with_reducible repeat (first | apply Kd.R_alloc | apply Kd.R_drewN | apply Kd.R_drew)); exact HO24.out) hb); have n3_ := Aside0.mk (Kd.R_below (by (with_reducible repeat (first | apply Kd.R_alloc | apply Kd.R_drewN | apply Kd.R_drew)); exact HO32.out) hb); have n4_ := Aside0.mk (Kd.G_below (by (with_reducible repeat (first | apply Kd.G_alloc | apply Kd.G_drewN | apply Kd.G_drew)); exact HO40.out) hb); have n5_ := Aside0.mk (blk_below (g := w3.heap.size) (o := .cells #[.int .i64 r13, .int .i64 r14, .slice Az20 r15.length cz20] 29 (0, 0)) (by (with_reducible repeat (first | refine blk_drewN ?_ _ | refine blk_drew ?_ | refine blk_alloc ?_ _)); exact HX21.out) hb); have n6_ := Aside0.mk (blk_below (g := w6.heap.size) (o := .cells #[.int .i64 r13, .int .i64 r14, .slice Az41 r15.length cz41] 29 (0, 0)) (by (with_reducible repeat (first | refine blk_drewN ?_ _ | refine blk_drew ?_ | refine blk_alloc ?_ _)); exact HX46.out) hb); have n7_ := Aside0.mk (below_step (by repeat (first | (with_reducible first | exact HB.out | apply below_alloc | apply pw_below_drewN | apply below_drew1) | exact HB.out)) hb); have C109 : Aside0 (w11.heap.size ≤ w12.heap.size) := ⟨by have h_ := hb.size; (try simp at h_); omega⟩; have CCn_ := Aside0.mk (And.intro CC.out C109.out); clear CC; have CC := CCn_; clear CCn_; clear HO19; clear HO24; clear HO32; clear HO40; clear HX21; clear HX46; clear HB; clear hl99; clear hx100; clear hx101; clear hx102; clear hl103; clear hx104; clear hx105; clear hx106; have HO19 := n1_; clear n1_; have HO24 := n2_; clear n2_; have HO32 := n3_; clear n3_; have HO40 := n4_; clear n4_; have HX21 := n5_; clear n5_; have HX46 := n6_; clear n6_; have HB := n7_; clear n7_; (try clear hb); have hl110 : w3.heap.size < w12.heap.size := blk_lt HX21.out; have hx111 : w12.cell? ⟨w3.heap.size, 0, none⟩ = some (.int .i64 r13) := (blk_cell HX21.out 0).trans rfl; have hx112 : w12.cell? ⟨w3.heap.size, 1, none⟩ = some (.int .i64 r14) := (blk_cell HX21.out 1).trans rfl; have hx113 : w12.cell? ⟨w3.heap.size, 2, none⟩ = some (.slice Az20 r15.length cz20) := (blk_cell HX21.out 2).trans rfl; have hl114 : w6.heap.size < w12.heap.size := blk_lt HX46.out; have hx115 : w12.cell? ⟨w6.heap.size, 0, none⟩ = some (.int .i64 r13) := (blk_cell HX46.out 0).trans rfl; have hx116 : w12.cell? ⟨w6.heap.size, 1, none⟩ = some (.int .i64 r14) := (blk_cell HX46.out 1).trans rfl; have hx117 : w12.cell? ⟨w6.heap.size, 2, none⟩ = some (.slice Az41 r15.length cz41) := (blk_cell HX46.out 2).trans rfl) | ((with_reducible refine gate_callee (f := 23) rfl ?_); refine goesL_ (some 80) rfl rfl Try.func23 (by kernel_rfl) rfl #[.agg #[.int .i64 r13, .int .i64 r14, .slice Az41 r15.length cz41], .int .i64 1] rfl (by (try simp only [List.map_toArray, List.map_cons, List.map_nil]); first | done | rfl | (simp only [List.length_drop, List.length_take]; rfl)) ?_; (with_reducible refine (laws_markGate.callsM k r13 r14 (fun k_ => w5.heap.size ≤ k_ ∧ k_ < w6.heap.size) (.slice Az41 r15.length cz41) r15 1 m118 ys119 w _ ?side1 ?side2 A120.out).mono ?_); (case side1 => repeat (first | (with_reducible first | exact HB.out | apply below_alloc | apply pw_below_drewN | apply below_drew1) | exact HB.out)); (case side2 => exact (by (with_reducible repeat (first | apply Kd.G_alloc | apply Kd.G_drewN | apply Kd.G_drew)); exact HO40.out)); rintro e w13 ⟨rfl, hm0_, hbk, hk⟩; refine ⟨_, rfl, ?_⟩; have n1_ := Aside0.mk (Kd.G_kept (by (with_reducible repeat (first | apply Kd.G_alloc | apply Kd.G_drewN | apply Kd.G_drew)); exact HO19.out) hk (fun k_ hk_ hs_ => by have := CC.out; have h1_ := hk_; have h2_ := hs_; omega)); have n2_ := Aside0.mk (Kd.R_kept (by (with_reducible repeat (first | apply Kd.R_alloc | apply Kd.R_drewN | apply Kd.R_drew)); exact HO24.out) hk (fun k_ hk_ hs_ => by have := CC.out; have h1_ := hk_; have h2_ := hs_; omega)); have n3_ := Aside0.mk (Kd.R_kept (by (with_reducible repeat (first | apply Kd.R_alloc | apply Kd.R_drewN | apply Kd.R_drew)); exact HO32.out) hk (fun k_ hk_ hs_ => by have := CC.out; have h1_ := hk_; have h2_ := hs_; omega)); have n4_ := Aside0.mk (blk_kept (g := w3.heap.size) (o := .cells #[.int .i64 r13, .int .i64 r14, .slice Az20 r15.length cz20] 29 (0, 0)) (by (with_reducible repeat (first | refine blk_drewN ?_ _ | refine blk_drew ?_ | refine blk_alloc ?_ _)); exact HX21.out) hk (fun hs_ => by have := CC.out; have h2_ := hs_; omega)); have n5_ := Aside0.mk (blk_kept (g := w6.heap.size) (o := .cells #[.int .i64 r13, .int .i64 r14, .slice Az41 r15.length cz41] 29 (0, 0)) (by (with_reducible repeat (first | refine blk_drewN ?_ _ | refine blk_drew ?_ | refine blk_alloc ?_ _)); exact HX46.out) hk (fun hs_ => by have := CC.out; have h2_ := hs_; omega)); have n6_ := Aside0.mk (hbk); have C121 : Aside0 (w12.heap.size ≤ w13.heap.size) := ⟨by have h_ := hk.1; (try simp at h_); omega⟩; have CCn_ := Aside0.mk (And.intro CC.out C121.out); clear CC; have CC := CCn_; clear CCn_; clear HO19; clear HO24; clear HO32; clear HX21; clear HX46; clear HB; clear hl110; clear hx111; clear hx112; clear hx113; clear hl114; clear hx115; clear hx116; clear hx117; have HO19 := n1_; clear n1_; have HO24 := n2_; clear n2_; have HO32 := n3_; clear n3_; have HX21 := n4_; clear n4_; have HX46 := n5_; clear n5_; have HB := n6_; clear n6_; clear HO40; have HO40 := Aside0.mk hm0_; (try clear hk); (try clear hbk); (try clear hm0_); have hl122 : w3.heap.size < w13.heap.size := blk_lt HX21.out; have hx123 : w13.cell? ⟨w3.heap.size, 0, none⟩ = some (.int .i64 r13) := (blk_cell HX21.out 0).trans rfl; have hx124 : w13.cell? ⟨w3.heap.size, 1, none⟩ = some (.int .i64 r14) := (blk_cell HX21.out 1).trans rfl; have hx125 : w13.cell? ⟨w3.heap.size, 2, none⟩ = some (.slice Az20 r15.length cz20) := (blk_cell HX21.out 2).trans rfl; have hl126 : w6.heap.size < w13.heap.size := blk_lt HX46.out; have hx127 : w13.cell? ⟨w6.heap.size, 0, none⟩ = some (.int .i64 r13) := (blk_cell HX46.out 0).trans rfl; have hx128 : w13.cell? ⟨w6.heap.size, 1, none⟩ = some (.int .i64 r14) := (blk_cell HX46.out 1).trans rfl; have hx129 : w13.cell? ⟨w6.heap.size, 2, none⟩ = some (.slice Az41 r15.length cz41) := (blk_cell HX46.out 2).trans rfl) | ((with_reducible refine gate_callee (f := 24) rfl ?_); refine goesL_ (some 83) rfl rfl Try.func24 (by kernel_rfl) rfl #[.agg #[.int .i64 r13, .int .i64 r14, .slice Az41 r15.length cz41], .int .i64 1] rfl (by (try simp only [List.map_toArray, List.map_cons, List.map_nil]); first | done | rfl | (simp only [List.length_drop, List.length_take]; rfl)) ?_; (with_reducible refine (calls_as ?eq_ (laws_heldGate.calls k r13 r14 Az41 cz41 ys119 1 m118 _ ?side1 ?side2 A130.out)).mono ?_); (case eq_ => rw [show ys119.length = r15.length from (Kd.G_reads' HO40.out).1.symm]); (case side1 => exact (Kd.G_reads' (n := r15.length) (A := Az41) (c := cz41) (by (with_reducible repeat (first | apply Kd.G_alloc | apply Kd.G_drewN | apply Kd.G_drew)); exact HO40.out)).2.2); (case side2 => exact Nat.le_trans (Nat.le_of_eq (Kd.G_reads' HO40.out).1.symm) (Kd.G_reads' HO40.out).2.1); rintro e w14 ⟨rfl, hb⟩; refine ⟨_, rfl, ?_⟩; have n1_ := Aside0.mk (Kd.G_below (by (with_reducible repeat (first | apply Kd.G_alloc | apply Kd.G_drewN | apply Kd.G_drew)); exact HO19.out) hb); have n2_ := Aside0.mk (Kd.R_below (by (with_reducible repeat (first | apply Kd.R_alloc | apply Kd.R_drewN | apply Kd.R_drew)); exact HO24.out) hb); have n3_ := Aside0.mk (Kd.R_below (by (with_reducible repeat (first | apply Kd.R_alloc | apply Kd.R_drewN | apply Kd.R_drew)); exact HO32.out) hb); have n4_ := Aside0.mk (Kd.G_below (by (with_reducible repeat (first | apply Kd.G_alloc | apply Kd.G_drewN | apply Kd.G_drew)); exact HO40.out) hb); have n5_ := Aside0.mk (blk_below (g := w3.heap.size) (o := .cells #[.int .i64 r13, .int .i64 r14, .slice Az20 r15.length cz20] 29 (0, 0)) (by (with_reducible repeat (first | refine blk_drewN ?_ _ | refine blk_drew ?_ | refine blk_alloc ?_ _)); exact HX21.out) hb); have n6_ := Aside0.mk (blk_below (g := w6.heap.size) (o := .cells #[.int .i64 r13, .int .i64 r14, .slice Az41 r15.length cz41] 29 (0, 0)) (by (with_reducible repeat (first | refine blk_drewN ?_ _ | refine blk_drew ?_ | refine blk_alloc ?_ _)); exact HX46.out) hb); have n7_ := Aside0.mk (below_step (by repeat (first | (with_reducible first | exact HB.out | apply below_alloc | apply pw_below_drewN | apply below_drew1) | exact HB.out)) hb); have C131 : Aside0 (w13.heap.size ≤ w14.heap.size) := ⟨by have h_ := hb.size; (try simp at h_); omega⟩; have CCn_ := Aside0.mk (And.intro CC.out C131.out); clear CC; have CC := CCn_; clear CCn_; clear HO19; clear HO24; clear HO32; clear HO40; clear HX21; clear HX46; clear HB; clear hl122; clear hx123; clear hx124; clear hx125; clear hl126; clear hx127; clear hx128; clear hx129; have HO19 := n1_; clear n1_; have HO24 := n2_; clear n2_; have HO32 := n3_; clear n3_; have HO40 := n4_; clear n4_; have HX21 := n5_; clear n5_; have HX46 := n6_; clear n6_; have HB := n7_; clear n7_; (try clear hb); have hl132 : w3.heap.size < w14.heap.size := blk_lt HX21.out; have hx133 : w14.cell? ⟨w3.heap.size, 0, none⟩ = some (.int .i64 r13) := (blk_cell HX21.out 0).trans rfl; have hx134 : w14.cell? ⟨w3.heap.size, 1, none⟩ = some (.int .i64 r14) := (blk_cell HX21.out 1).trans rfl; have hx135 : w14.cell? ⟨w3.heap.size, 2, none⟩ = some (.slice Az20 r15.length cz20) := (blk_cell HX21.out 2).trans rfl; have hl136 : w6.heap.size < w14.heap.size := blk_lt HX46.out; have hx137 : w14.cell? ⟨w6.heap.size, 0, none⟩ = some (.int .i64 r13) := (blk_cell HX46.out 0).trans rfl; have hx138 : w14.cell? ⟨w6.heap.size, 1, none⟩ = some (.int .i64 r14) := (blk_cell HX46.out 1).trans rfl; have hx139 : w14.cell? ⟨w6.heap.size, 2, none⟩ = some (.slice Az41 r15.length cz41) := (blk_cell HX46.out 2).trans rfl) | ((with_reducible refine gate_callee (f := 31) rfl ?_); refine goesL_ (some 91) rfl rfl Try.func31 (by kernel_rfl) rfl #[.slice A0 l0.length c0] rfl (by (try simp only [List.map_toArray, List.map_cons, List.map_nil]); first | done | rfl | (simp only [List.length_drop, List.length_take]; rfl)) ?_; (with_reducible refine (laws_toInt64S.calls k _ _ l0 l0 _ ?side1 ?side2 A141.out).mono ?_); (case side1 => exact Kd.C_below HR0.out (by repeat (first | (with_reducible first | exact HB.out | apply below_alloc | apply pw_below_drewN | apply below_drew1) | exact HB.out))); (case side2 => exact HC0.out); rintro e w15 ⟨v100_, rfl, ho0_, hb⟩; refine ⟨_, rfl, ?_⟩; have n1_ := Aside0.mk (Kd.G_below (by (with_reducible repeat (first | apply Kd.G_alloc | apply Kd.G_drewN | apply Kd.G_drew)); exact HO19.out) hb); have n2_ := Aside0.mk (Kd.R_below (by (with_reducible repeat (first | apply Kd.R_alloc | apply Kd.R_drewN | apply Kd.R_drew)); exact HO24.out) hb); have n3_ := Aside0.mk (Kd.R_below (by (with_reducible repeat (first | apply Kd.R_alloc | apply Kd.R_drewN | apply Kd.R_drew)); exact HO32.out) hb); have n4_ := Aside0.mk (Kd.G_below (by (with_reducible repeat (first | apply Kd.G_alloc | apply Kd.G_drewN | apply Kd.G_drew)); exact HO40.out) hb); have n5_ := Aside0.mk (blk_below (g := w3.heap.size) (o := .cells #[.int .i64 r13, .int .i64 r14, .slice Az20 r15.length cz20] 29 (0, 0)) (by (with_reducible repeat (first | refine blk_drewN ?_ _ | refine blk_drew ?_ | refine blk_alloc ?_ _)); exact HX21.out) hb); have n6_ := Aside0.mk (blk_below (g := w6.heap.size) (o := .cells #[.int .i64 r13, .int .i64 r14, .slice Az41 r15.length cz41] 29 (0, 0)) (by (with_reducible repeat (first | refine blk_drewN ?_ _ | refine blk_drew ?_ | refine blk_alloc ?_ _)); exact HX46.out) hb); have n7_ := Aside0.mk (below_step (by repeat (first | (with_reducible first | exact HB.out | apply below_alloc | apply pw_below_drewN | apply below_drew1) | exact HB.out)) hb); have C142 : Aside0 (w14.heap.size ≤ w15.heap.size) := ⟨by have h_ := hb.size; (try simp at h_); omega⟩; have CCn_ := Aside0.mk (And.intro CC.out C142.out); clear CC; have CC := CCn_; clear CCn_; clear HO19; clear HO24; clear HO32; clear HO40; clear HX21; clear HX46; clear HB; clear hl132; clear hx133; clear hx134; clear hx135; clear hl136; clear hx137; clear hx138; clear hx139; have HO19 := n1_; clear n1_; have HO24 := n2_; clear n2_; have HO32 := n3_; clear n3_; have HO40 := n4_; clear n4_; have HX21 := n5_; clear n5_; have HX46 := n6_; clear n6_; have HB := n7_; clear n7_; have HO143 := Aside0.mk (Kd.R_lower (base' := w.heap.size) (Kd.R_mono (Kd.R_bound ho0_) (ok' := fun k_ => w14.heap.size ≤ k_ ∧ k_ < w15.heap.size) (fun k_ hk_ => ⟨by have h_ := hk_.2.1; (try simp at h_); omega, hk_.2.2.1⟩)) (by have := CC.out; first | omega | (simp; done) | (simp; omega))); obtain ⟨Az144, cz144, ez144⟩ := Kd.R_slice HO143.out; subst ez144; (try clear hb); (try clear ho0_); have hl145 : w3.heap.size < w15.heap.size := blk_lt HX21.out; have hx146 : w15.cell? ⟨w3.heap.size, 0, none⟩ = some (.int .i64 r13) := (blk_cell HX21.out 0).trans rfl; have hx147 : w15.cell? ⟨w3.heap.size, 1, none⟩ = some (.int .i64 r14) := (blk_cell HX21.out 1).trans rfl; have hx148 : w15.cell? ⟨w3.heap.size, 2, none⟩ = some (.slice Az20 r15.length cz20) := (blk_cell HX21.out 2).trans rfl; have hl149 : w6.heap.size < w15.heap.size := blk_lt HX46.out; have hx150 : w15.cell? ⟨w6.heap.size, 0, none⟩ = some (.int .i64 r13) := (blk_cell HX46.out 0).trans rfl; have hx151 : w15.cell? ⟨w6.heap.size, 1, none⟩ = some (.int .i64 r14) := (blk_cell HX46.out 1).trans rfl; have hx152 : w15.cell? ⟨w6.heap.size, 2, none⟩ = some (.slice Az41 r15.length cz41) := (blk_cell HX46.out 2).trans rfl) | ((with_reducible refine gate_callee (f := 31) rfl ?_); refine goesL_ (some 93) rfl rfl Try.func31 (by kernel_rfl) rfl #[.slice A1 l1.length c1] rfl (by (try simp only [List.map_toArray, List.map_cons, List.map_nil]); first | done | rfl | (simp only [List.length_drop, List.length_take]; rfl)) ?_; (with_reducible refine (laws_toInt64S.calls k _ _ l1 l1 _ ?side1 ?side2 A153.out).mono ?_); (case side1 => exact Kd.C_below HR1.out (by repeat (first | (with_reducible first | exact HB.out | apply below_alloc | apply pw_below_drewN | apply below_drew1) | exact HB.out))); (case side2 => exact HC1.out); rintro e w16 ⟨v100_, rfl, ho0_, hb⟩; refine ⟨_, rfl, ?_⟩; have n1_ := Aside0.mk (Kd.G_below (by (with_reducible repeat (first | apply Kd.G_alloc | apply Kd.G_drewN | apply Kd.G_drew)); exact HO19.out) hb); have n2_ := Aside0.mk (Kd.R_below (by (with_reducible repeat (first | apply Kd.R_alloc | apply Kd.R_drewN | apply Kd.R_drew)); exact HO24.out) hb); have n3_ := Aside0.mk (Kd.R_below (by (with_reducible repeat (first | apply Kd.R_alloc | apply Kd.R_drewN | apply Kd.R_drew)); exact HO32.out) hb); have n4_ := Aside0.mk (Kd.G_below (by (with_reducible repeat (first | apply Kd.G_alloc | apply Kd.G_drewN | apply Kd.G_drew)); exact HO40.out) hb); have n5_ := Aside0.mk (Kd.R_below (by (with_reducible repeat (first | apply Kd.R_alloc | apply Kd.R_drewN | apply Kd.R_drew)); exact HO143.out) hb); have n6_ := Aside0.mk (blk_below (g := w3.heap.size) (o := .cells #[.int .i64 r13, .int .i64 r14, .slice Az20 r15.length cz20] 29 (0, 0)) (by (with_reducible repeat (first | refine blk_drewN ?_ _ | refine blk_drew ?_ | refine blk_alloc ?_ _)); exact HX21.out) hb); have n7_ := Aside0.mk (blk_below (g := w6.heap.size) (o := .cells #[.int .i64 r13, .int .i64 r14, .slice Az41 r15.length cz41] 29 (0, 0)) (by (with_reducible repeat (first | refine blk_drewN ?_ _ | refine blk_drew ?_ | refine blk_alloc ?_ _)); exact HX46.out) hb); have n8_ := Aside0.mk (below_step (by repeat (first | (with_reducible first | exact HB.out | apply below_alloc | apply pw_below_drewN | apply below_drew1) | exact HB.out)) hb); have C154 : Aside0 (w15.heap.size ≤ w16.heap.size) := ⟨by have h_ := hb.size; (try simp at h_); omega⟩; have CCn_ := Aside0.mk (And.intro CC.out C154.out); clear CC; have CC := CCn_; clear CCn_; clear HO19; clear HO24; clear HO32; clear HO40; clear HO143; clear HX21; clear HX46; clear HB; clear hl145; clear hx146; clear hx147; clear hx148; clear hl149; clear hx150; clear hx151; clear hx152; have HO19 := n1_; clear n1_; have HO24 := n2_; clear n2_; have HO32 := n3_; clear n3_; have HO40 := n4_; clear n4_; have HO143 := n5_; clear n5_; have HX21 := n6_; clear n6_; have HX46 := n7_; clear n7_; have HB := n8_; clear n8_; have HO155 := Aside0.mk (Kd.R_lower (base' := w.heap.size) (Kd.R_mono (Kd.R_bound ho0_) (ok' := fun k_ => w15.heap.size ≤ k_ ∧ k_ < w16.heap.size) (fun k_ hk_ => ⟨by have h_ := hk_.2.1; (try simp at h_); omega, hk_.2.2.1⟩)) (by have := CC.out; first | omega | (simp; done) | (simp; omega))); obtain ⟨Az156, cz156, ez156⟩ := Kd.R_slice HO155.out; subst ez156; (try clear hb); (try clear ho0_); have hl157 : w3.heap.size < w16.heap.size := blk_lt HX21.out; have hx158 : w16.cell? ⟨w3.heap.size, 0, none⟩ = some (.int .i64 r13) := (blk_cell HX21.out 0).trans rfl; have hx159 : w16.cell? ⟨w3.heap.size, 1, none⟩ = some (.int .i64 r14) := (blk_cell HX21.out 1).trans rfl; have hx160 : w16.cell? ⟨w3.heap.size, 2, none⟩ = some (.slice Az20 r15.length cz20) := (blk_cell HX21.out 2).trans rfl; have hl161 : w6.heap.size < w16.heap.size := blk_lt HX46.out; have hx162 : w16.cell? ⟨w6.heap.size, 0, none⟩ = some (.int .i64 r13) := (blk_cell HX46.out 0).trans rfl; have hx163 : w16.cell? ⟨w6.heap.size, 1, none⟩ = some (.int .i64 r14) := (blk_cell HX46.out 1).trans rfl; have hx164 : w16.cell? ⟨w6.heap.size, 2, none⟩ = some (.slice Az41 r15.length cz41) := (blk_cell HX46.out 2).trans rfl) | ((with_reducible refine gate_callee (f := 32) rfl ?_); refine goesL_ (some 94) rfl rfl Try.func32 (by kernel_rfl) rfl #[.slice Az144 l0.length cz144, .slice Az156 l1.length cz156] rfl (by (try simp only [List.map_toArray, List.map_cons, List.map_nil]); first | done | rfl | (simp only [List.length_drop, List.length_take]; rfl)) ?_; (with_reducible refine (impl_LevelGate.calls k _ _ l0 _ _ l1 r13 r14 r15 r16 _ ?side1 ?side2 ?side3 ?side4 A165.out).mono ?_); (case side1 => exact (Kd.R_reads' (n := l0.length) (A := Az144) (c := cz144) (by (with_reducible repeat (first | apply Kd.R_alloc | apply Kd.R_drewN | apply Kd.R_drew)); exact HO143.out)).2.2); (case side2 => exact (Kd.R_reads' (n := l0.length) (A := Az144) (c := cz144) HO143.out).2.1); (case side3 => exact (Kd.R_reads' (n := l1.length) (A := Az156) (c := cz156) (by (with_reducible repeat (first | apply Kd.R_alloc | apply Kd.R_drewN | apply Kd.R_drew)); exact HO155.out)).2.2); (case side4 => exact (Kd.R_reads' (n := l1.length) (A := Az156) (c := cz156) HO155.out).2.1); rintro e w17 ⟨v100_, rfl, ho0_, hb⟩; refine ⟨_, rfl, ?_⟩; have n1_ := Aside0.mk (Kd.G_below (by (with_reducible repeat (first | apply Kd.G_alloc | apply Kd.G_drewN | apply Kd.G_drew)); exact HO19.out) hb); have n2_ := Aside0.mk (Kd.R_below (by (with_reducible repeat (first | apply Kd.R_alloc | apply Kd.R_drewN | apply Kd.R_drew)); exact HO24.out) hb); have n3_ := Aside0.mk (Kd.R_below (by (with_reducible repeat (first | apply Kd.R_alloc | apply Kd.R_drewN | apply Kd.R_drew)); exact HO32.out) hb); have n4_ := Aside0.mk (Kd.G_below (by (with_reducible repeat (first | apply Kd.G_alloc | apply Kd.G_drewN | apply Kd.G_drew)); exact HO40.out) hb); have n5_ := Aside0.mk (Kd.R_below (by (with_reducible repeat (first | apply Kd.R_alloc | apply Kd.R_drewN | apply Kd.R_drew)); exact HO143.out) hb); have n6_ := Aside0.mk (Kd.R_below (by (with_reducible repeat (first | apply Kd.R_alloc | apply Kd.R_drewN | apply Kd.R_drew)); exact HO155.out) hb); have n7_ := Aside0.mk (blk_below (g := w3.heap.size) (o := .cells #[.int .i64 r13, .int .i64 r14, .slice Az20 r15.length cz20] 29 (0, 0)) (by (with_reducible repeat (first | refine blk_drewN ?_ _ | refine blk_drew ?_ | refine blk_alloc ?_ _)); exact HX21.out) hb); have n8_ := Aside0.mk (blk_below (g := w6.heap.size) (o := .cells #[.int .i64 r13, .int .i64 r14, .slice Az41 r15.length cz41] 29 (0, 0)) (by (with_reducible repeat (first | refine blk_drewN ?_ _ | refine blk_drew ?_ | refine blk_alloc ?_ _)); exact HX46.out) hb); have n9_ := Aside0.mk (below_step (by repeat (first | (with_reducible first | exact HB.out | apply below_alloc | apply pw_below_drewN | apply below_drew1) | exact HB.out)) hb); have C166 : Aside0 (w16.heap.size ≤ w17.heap.size) := ⟨by have h_ := hb.size; (try simp at h_); omega⟩; have CCn_ := Aside0.mk (And.intro CC.out C166.out); clear CC; have CC := CCn_; clear CCn_; clear HO19; clear HO24; clear HO32; clear HO40; clear HO143; clear HO155; clear HX21; clear HX46; clear HB; clear hl157; clear hx158; clear hx159; clear hx160; clear hl161; clear hx162; clear hx163; clear hx164; have HO19 := n1_; clear n1_; have HO24 := n2_; clear n2_; have HO32 := n3_; clear n3_; have HO40 := n4_; clear n4_; have HO143 := n5_; clear n5_; have HO155 := n6_; clear n6_; have HX21 := n7_; clear n7_; have HX46 := n8_; clear n8_; have HB := n9_; clear n9_; have HO167 := Aside0.mk (Kd.G_lower (base' := w.heap.size) (Kd.G_mono (Kd.G_bound ho0_) (ok' := fun k_ => w16.heap.size ≤ k_ ∧ k_ < w17.heap.size) (fun k_ hk_ => ⟨by have h_ := hk_.2.1; (try simp at h_); omega, hk_.2.2.1⟩)) (by have := CC.out; first | omega | (simp; done) | (simp; omega))); obtain ⟨Az168, cz168, ez168⟩ := Kd.G_slice HO167.out; subst ez168; (try clear hb); (try clear ho0_); have hl169 : w3.heap.size < w17.heap.size := blk_lt HX21.out; have hx170 : w17.cell? ⟨w3.heap.size, 0, none⟩ = some (.int .i64 r13) := (blk_cell HX21.out 0).trans rfl; have hx171 : w17.cell? ⟨w3.heap.size, 1, none⟩ = some (.int .i64 r14) := (blk_cell HX21.out 1).trans rfl; have hx172 : w17.cell? ⟨w3.heap.size, 2, none⟩ = some (.slice Az20 r15.length cz20) := (blk_cell HX21.out 2).trans rfl; have hl173 : w6.heap.size < w17.heap.size := blk_lt HX46.out; have hx174 : w17.cell? ⟨w6.heap.size, 0, none⟩ = some (.int .i64 r13) := (blk_cell HX46.out 0).trans rfl; have hx175 : w17.cell? ⟨w6.heap.size, 1, none⟩ = some (.int .i64 r14) := (blk_cell HX46.out 1).trans rfl; have hx176 : w17.cell? ⟨w6.heap.size, 2, none⟩ = some (.slice Az41 r15.length cz41) := (blk_cell HX46.out 2).trans rfl) | ((with_reducible refine gate_callee (f := 16) rfl ?_); refine goesL_ (some 99) rfl rfl Try.func16 (by kernel_rfl) rfl #[.agg #[.int .i64 r13, .int .i64 r14, .slice Az168 r15.length cz168], .agg #[.int .i64 r13, .int .i64 r14, .slice Az20 r15.length cz20]] rfl (by (try simp only [List.map_toArray, List.map_cons, List.map_nil]); first | done | rfl | (simp only [List.length_drop, List.length_take]; rfl)) ?_; (with_reducible refine (laws_eqGate.calls k r13 r14 _ _ r15 r13 r14 _ _ r15 true _ ?side1 ?side2 ?side3 ?side4 A178.out).mono ?_); (case side1 => exact (Kd.G_reads' (n := r15.length) (A := Az168) (c := cz168) (by (with_reducible repeat (first | apply Kd.G_alloc | apply Kd.G_drewN | apply Kd.G_drew)); exact HO167.out)).2.2); (case side2 => exact (Kd.G_reads' (n := r15.length) (A := Az168) (c := cz168) HO167.out).2.1); (case side3 => exact (Kd.G_reads' (n := r15.length) (A := Az20) (c := cz20) (by (with_reducible repeat (first | apply Kd.G_alloc | apply Kd.G_drewN | apply Kd.G_drew)); exact HO19.out)).2.2); (case side4 => exact (Kd.G_reads' (n := r15.length) (A := Az20) (c := cz20) HO19.out).2.1); rintro e w18 ⟨rfl, hb⟩; refine ⟨_, rfl, ?_⟩; have n1_ := Aside0.mk (Kd.G_below (by (with_reducible repeat (first | apply Kd.G_alloc | apply Kd.G_drewN | apply Kd.G_drew)); exact HO19.out) hb); have n2_ := Aside0.mk (Kd.R_below (by (with_reducible repeat (first | apply Kd.R_alloc | apply Kd.R_drewN | apply Kd.R_drew)); exact HO24.out) hb); have n3_ := Aside0.mk (Kd.R_below (by (with_reducible repeat (first | apply Kd.R_alloc | apply Kd.R_drewN | apply Kd.R_drew)); exact HO32.out) hb); have n4_ := Aside0.mk (Kd.G_below (by (with_reducible repeat (first | apply Kd.G_alloc | apply Kd.G_drewN | apply Kd.G_drew)); exact HO40.out) hb); have n5_ := Aside0.mk (Kd.G_below (by (with_reducible repeat (first | apply Kd.G_alloc | apply Kd.G_drewN | apply Kd.G_drew)); exact HO167.out) hb); have n6_ := Aside0.mk (blk_below (g := w3.heap.size) (o := .cells #[.int .i64 r13, .int .i64 r14, .slice Az20 r15.length cz20] 29 (0, 0)) (by (with_reducible repeat (first | refine blk_drewN ?_ _ | refine blk_drew ?_ | refine blk_alloc ?_ _)); exact HX21.out) hb); have n7_ := Aside0.mk (blk_below (g := w6.heap.size) (o := .cells #[.int .i64 r13, .int .i64 r14, .slice Az41 r15.length cz41] 29 (0, 0)) (by (with_reducible repeat (first | refine blk_drewN ?_ _ | refine blk_drew ?_ | refine blk_alloc ?_ _)); exact HX46.out) hb); have n8_ := Aside0.mk (blk_below (g := w17.heap.size) (o := .cells #[.int .i64 r13, .int .i64 r14, .slice Az168 r15.length cz168] 29 (0, 0)) (by repeat (first | exact blk_new_at (by simp) | (with_reducible refine blk_drewN ?_ _) | (with_reducible refine blk_drew ?_) | (with_reducible refine blk_alloc ?_ _))) hb); have n9_ := Aside0.mk (below_step (by repeat (first | (with_reducible first | exact HB.out | apply below_alloc | apply pw_below_drewN | apply below_drew1) | exact HB.out)) hb); have C179 : Aside0 (w17.heap.size + 1 ≤ w18.heap.size) := ⟨by have h_ := hb.size; (try simp at h_); omega⟩; have CCn_ := Aside0.mk (And.intro CC.out C179.out); clear CC; have CC := CCn_; clear CCn_; clear HO19; clear HO24; clear HO32; clear HO40; clear HO167; clear HX21; clear HX46; clear HB; clear hl169; clear hx170; clear hx171; clear hx172; clear hl173; clear hx174; clear hx175; clear hx176; have HO19 := n1_; clear n1_; have HO24 := n2_; clear n2_; have HO32 := n3_; clear n3_; have HO40 := n4_; clear n4_; have HO167 := n5_; clear n5_; have HX21 := n6_; clear n6_; have HX46 := n7_; clear n7_; have HX177 := n8_; clear n8_; have HB := n9_; clear n9_; (try clear hb); have hl180 : w3.heap.size < w18.heap.size := blk_lt HX21.out; have hx181 : w18.cell? ⟨w3.heap.size, 0, none⟩ = some (.int .i64 r13) := (blk_cell HX21.out 0).trans rfl; have hx182 : w18.cell? ⟨w3.heap.size, 1, none⟩ = some (.int .i64 r14) := (blk_cell HX21.out 1).trans rfl; have hx183 : w18.cell? ⟨w3.heap.size, 2, none⟩ = some (.slice Az20 r15.length cz20) := (blk_cell HX21.out 2).trans rfl; have hl184 : w6.heap.size < w18.heap.size := blk_lt HX46.out; have hx185 : w18.cell? ⟨w6.heap.size, 0, none⟩ = some (.int .i64 r13) := (blk_cell HX46.out 0).trans rfl; have hx186 : w18.cell? ⟨w6.heap.size, 1, none⟩ = some (.int .i64 r14) := (blk_cell HX46.out 1).trans rfl; have hx187 : w18.cell? ⟨w6.heap.size, 2, none⟩ = some (.slice Az41 r15.length cz41) := (blk_cell HX46.out 2).trans rfl; have hl188 : w17.heap.size < w18.heap.size := blk_lt HX177.out; have hx189 : w18.cell? ⟨w17.heap.size, 0, none⟩ = some (.int .i64 r13) := (blk_cell HX177.out 0).trans rfl; have hx190 : w18.cell? ⟨w17.heap.size, 1, none⟩ = some (.int .i64 r14) := (blk_cell HX177.out 1).trans rfl; have hx191 : w18.cell? ⟨w17.heap.size, 2, none⟩ = some (.slice Az168 r15.length cz168) := (blk_cell HX177.out 2).trans rfl) | ((with_reducible refine gate_callee (f := 24) rfl ?_); refine goesL_ (some 108) rfl rfl Try.func24 (by kernel_rfl) rfl #[.agg #[.int .i64 r13, .int .i64 r14, .slice Az41 r15.length cz41], .int .i64 1] rfl (by (try simp only [List.map_toArray, List.map_cons, List.map_nil]); first | done | rfl | (simp only [List.length_drop, List.length_take]; rfl)) ?_; (with_reducible refine (calls_as ?eq_ (laws_heldGate.calls k r13 r14 Az41 cz41 ys119 1 m118 _ ?side1 ?side2 A192.out)).mono ?_); (case eq_ => rw [show ys119.length = r15.length from (Kd.G_reads' HO40.out).1.symm]); (case side1 => exact (Kd.G_reads' (n := r15.length) (A := Az41) (c := cz41) (by (with_reducible repeat (first | apply Kd.G_alloc | apply Kd.G_drewN | apply Kd.G_drew)); exact HO40.out)).2.2); (case side2 => exact Nat.le_trans (Nat.le_of_eq (Kd.G_reads' HO40.out).1.symm) (Kd.G_reads' HO40.out).2.1); rintro e w19 ⟨rfl, hb⟩; refine ⟨_, rfl, ?_⟩; have n1_ := Aside0.mk (Kd.G_below (by (with_reducible repeat (first | apply Kd.G_alloc | apply Kd.G_drewN | apply Kd.G_drew)); exact HO19.out) hb); have n2_ := Aside0.mk (Kd.R_below (by (with_reducible repeat (first | apply Kd.R_alloc | apply Kd.R_drewN | apply Kd.R_drew)); exact HO24.out) hb); have n3_ := Aside0.mk (Kd.R_below (by (with_reducible repeat (first | apply Kd.R_alloc | apply Kd.R_drewN | apply Kd.R_drew)); exact HO32.out) hb); have n4_ := Aside0.mk (Kd.G_below (by (with_reducible repeat (first | apply Kd.G_alloc | apply Kd.G_drewN | apply Kd.G_drew)); exact HO40.out) hb); have n5_ := Aside0.mk (Kd.G_below (by (with_reducible repeat (first | apply Kd.G_alloc | apply Kd.G_drewN | apply Kd.G_drew)); exact HO167.out) hb); have n6_ := Aside0.mk (blk_below (g := w3.heap.size) (o := .cells #[.int .i64 r13, .int .i64 r14, .slice Az20 r15.length cz20] 29 (0, 0)) (by (with_reducible repeat (first | refine blk_drewN ?_ _ | refine blk_drew ?_ | refine blk_alloc ?_ _)); exact HX21.out) hb); have n7_ := Aside0.mk (blk_below (g := w6.heap.size) (o := .cells #[.int .i64 r13, .int .i64 r14, .slice Az41 r15.length cz41] 29 (0, 0)) (by (with_reducible repeat (first | refine blk_drewN ?_ _ | refine blk_drew ?_ | refine blk_alloc ?_ _)); exact HX46.out) hb); have n8_ := Aside0.mk (blk_below (g := w17.heap.size) (o := .cells #[.int .i64 r13, .int .i64 r14, .slice Az168 r15.length cz168] 29 (0, 0)) (by (with_reducible repeat (first | refine blk_drewN ?_ _ | refine blk_drew ?_ | refine blk_alloc ?_ _)); exact HX177.out) hb); have n9_ := Aside0.mk (below_step (by repeat (first | (with_reducible first | exact HB.out | apply below_alloc | apply pw_below_drewN | apply below_drew1) | exact HB.out)) hb); have C193 : Aside0 (w18.heap.size ≤ w19.heap.size) := ⟨by have h_ := hb.size; (try simp at h_); omega⟩; have CCn_ := Aside0.mk (And.intro CC.out C193.out); clear CC; have CC := CCn_; clear CCn_; clear HO19; clear HO24; clear HO32; clear HO40; clear HO167; clear HX21; clear HX46; clear HX177; clear HB; clear hl180; clear hx181; clear hx182; clear hx183; clear hl184; clear hx185; clear hx186; clear hx187; clear hl188; clear hx189; clear hx190; clear hx191; have HO19 := n1_; clear n1_; have HO24 := n2_; clear n2_; have HO32 := n3_; clear n3_; have HO40 := n4_; clear n4_; have HO167 := n5_; clear n5_; have HX21 := n6_; clear n6_; have HX46 := n7_; clear n7_; have HX177 := n8_; clear n8_; have HB := n9_; clear n9_; (try clear hb); have hl194 : w3.heap.size < w19.heap.size := blk_lt HX21.out; have hx195 : w19.cell? ⟨w3.heap.size, 0, none⟩ = some (.int .i64 r13) := (blk_cell HX21.out 0).trans rfl; have hx196 : w19.cell? ⟨w3.heap.size, 1, none⟩ = some (.int .i64 r14) := (blk_cell HX21.out 1).trans rfl; have hx197 : w19.cell? ⟨w3.heap.size, 2, none⟩ = some (.slice Az20 r15.length cz20) := (blk_cell HX21.out 2).trans rfl; have hl198 : w6.heap.size < w19.heap.size := blk_lt HX46.out; have hx199 : w19.cell? ⟨w6.heap.size, 0, none⟩ = some (.int .i64 r13) := (blk_cell HX46.out 0).trans rfl; have hx200 : w19.cell? ⟨w6.heap.size, 1, none⟩ = some (.int .i64 r14) := (blk_cell HX46.out 1).trans rfl; have hx201 : w19.cell? ⟨w6.heap.size, 2, none⟩ = some (.slice Az41 r15.length cz41) := (blk_cell HX46.out 2).trans rfl; have hl202 : w17.heap.size < w19.heap.size := blk_lt HX177.out; have hx203 : w19.cell? ⟨w17.heap.size, 0, none⟩ = some (.int .i64 r13) := (blk_cell HX177.out 0).trans rfl; have hx204 : w19.cell? ⟨w17.heap.size, 1, none⟩ = some (.int .i64 r14) := (blk_cell HX177.out 1).trans rfl; have hx205 : w19.cell? ⟨w17.heap.size, 2, none⟩ = some (.slice Az168 r15.length cz168) := (blk_cell HX177.out 2).trans rfl))
  go_ret
  exact ⟨rfl, by repeat (first | (with_reducible first | exact HB.out | apply below_alloc | apply pw_below_drewN | apply below_drew1) | exact HB.out)⟩

end Go.Proofs.Ytjnobnmjhpmpfaa.P

namespace Go.Proofs.Ytjnobnmjhpmpfaa.P
open Go.RowKit Go.Proofs.YtjnobnmjhpmpfaaW.PrintWords Go.Proofs.YtjnobnmjhpmpfaaW.PrintLast Go.Proofs.YtjnobnmjhpmpfaaW.PrintMore
attribute [local go_sem] max2_int min2_int max_two min_two max_three min_three max_four min_four
set_option linter.unusedVariables false
set_option linter.unusedSimpArgs false

def laws_FnExactLevelGate.Way0 (l0 : List Int) (l1 : List Int) : Prop := ∃ k : Nat, (decide (1048576 < (l0.length : Int)) = true) ∧ (decide (1048576 < l0.length) = true)
def laws_FnExactLevelGate.Way1 (l0 : List Int) (l1 : List Int) : Prop := ∃ k : Nat, (decide (1048576 < (l0.length : Int)) = false) ∧ (decide (1048576 < l0.length) = false) ∧ (decide (1048576 < (l1.length : Int)) = true) ∧ (decide (1048576 < l1.length) = true)
def laws_FnExactLevelGate.Way2 (l0 : List Int) (l1 : List Int) : Prop := ∃ k : Nat, ∃ (r13 : Int) (r14 : Int) (r15 : List (S29)) (r16 : Int) (m83 : Int) (ys84 : List Int) (m95 : Int) (ys96 : List Int) (m118 : Int) (ys119 : List (S29)), (decide (1048576 < (l0.length : Int)) = false) ∧ (decide (1048576 < l0.length) = false) ∧ (decide (1048576 < (l1.length : Int)) = false) ∧ (decide (1048576 < l1.length) = false) ∧ (laws_toInt64S.f k l0 = some l0) ∧ (laws_toInt64S.f k l1 = some l1) ∧ (spec_LevelGate.f k l0 l1 = some (r13, r14, r15, r16)) ∧ (laws_toInt64S.f k l0 = some l0) ∧ (laws_toInt64S.f k l1 = some l1) ∧ (impl_LevelGate.f k l0 l1 = some (r13, r14, r15, r16)) ∧ (laws_eqGate.f k r13 r14 r15 r13 r14 r15 = some true) ∧ (laws_toInt64S.f k l0 = some l0) ∧ (laws_eqInt64S.f k l0 l0 = some true) ∧ (laws_toInt64S.f k l1 = some l1) ∧ (laws_eqInt64S.f k l1 l1 = some true) ∧ (laws_markInt64S.f k l0 1 = some (m83, ys84)) ∧ (laws_markInt64S.f k l1 m83 = some (m95, ys96)) ∧ (decide (m95 < 0) = false) ∧ (laws_eqGate.f k r13 r14 r15 r13 r14 r15 = some true) ∧ (laws_markGate.f k r13 r14 r15 1 = some (m118, ys119)) ∧ (laws_heldGate.f k r13 r14 ys119 1 = some m118) ∧ (decide (m118 < 0) = false) ∧ (laws_toInt64S.f k l0 = some l0) ∧ (laws_toInt64S.f k l1 = some l1) ∧ (impl_LevelGate.f k l0 l1 = some (r13, r14, r15, r16)) ∧ (laws_eqGate.f k r13 r14 r15 r13 r14 r15 = some true) ∧ (laws_heldGate.f k r13 r14 ys119 1 = some m118) ∧ (decide (m118 < 0) = false)
def laws_FnExactLevelGate.Pure : Prop := ∀ (l0 : List Int) (l1 : List Int), (l0.length ≤ 9223372036854775807 ∧ ∀ y7_ ∈ l0, (Lit.int .i64 y7_).wf = true) → (l1.length ≤ 9223372036854775807 ∧ ∀ y7_ ∈ l1, (Lit.int .i64 y7_).wf = true) → laws_FnExactLevelGate.Way0 l0 l1 ∨ laws_FnExactLevelGate.Way1 l0 l1 ∨ laws_FnExactLevelGate.Way2 l0 l1
theorem laws_FnExactLevelGate.walk (P : laws_FnExactLevelGate.Pure) (l0 : List Int) (l1 : List Int) (A0 : Option Addr) (c0 : Nat) (A1 : Option Addr) (c1 : Nat) (w : World) (hr0 : Kd.C (Kd.int .i64) w A0 l0.length l0) (hc0 : l0.length ≤ c0) (hr1 : Kd.C (Kd.int .i64) w A1 l1.length l1) (hc1 : l1.length ≤ c1) (wf0 : (l0.length ≤ 9223372036854775807 ∧ ∀ y7_ ∈ l0, (Lit.int .i64 y7_).wf = true)) (wf1 : (l1.length ≤ 9223372036854775807 ∧ ∀ y7_ ∈ l1, (Lit.int .i64 y7_).wf = true)) :
    Calls Try.prog 8 #[.slice A0 l0.length c0, .slice A1 l1.length c1] w fun e w' => e = .returned (.bool true) ∧ Below w.heap.size w w' := by
  rcases P l0 l1 wf0 wf1 with h | h | h
  · obtain ⟨k, t1, t2⟩ := h
    exact laws_FnExactLevelGate.way0 k _ _ l0 _ _ l1  w hr0 hc0 hr1 hc1 t1 t2
  · obtain ⟨k, t1, t2, t3, t4⟩ := h
    exact laws_FnExactLevelGate.way1 k _ _ l0 _ _ l1  w hr0 hc0 hr1 hc1 t1 t2 t3 t4
  · obtain ⟨k, r13, r14, r15, r16, m83, ys84, m95, ys96, m118, ys119, t1, t2, t3, t4, A5, A9, A17, A22, A30, A38, A47, A57, A69, A70, A82, A85, A97, t107, A108, A120, A130, t140, A141, A153, A165, A178, A192, t206⟩ := h
    exact laws_FnExactLevelGate.way2 k _ _ l0 _ _ l1 r13 r14 r15 r16 m83 ys84 m95 ys96 m118 ys119 w hr0 hc0 hr1 hc1 t1 t2 t3 t4 A5 A9 A17 A22 A30 A38 A47 A57 A69 A70 A82 A85 A97 t107 A108 A120 A130 t140 A141 A153 A165 A178 A192 t206

end Go.Proofs.Ytjnobnmjhpmpfaa.P

namespace Go.Proofs.Ytjnobnmjhpmpfaa.P
open Go.RowKit Go.Proofs.YtjnobnmjhpmpfaaW.PrintWords Go.Proofs.YtjnobnmjhpmpfaaW.PrintLast Go.Proofs.YtjnobnmjhpmpfaaW.PrintMore
attribute [local go_sem] max2_int min2_int max_two min_two max_three min_three max_four min_four
set_option linter.unusedVariables false
set_option linter.unusedSimpArgs false

section
variable {H : Type} {enc : TypeId × Value → H} {P : Program} {w : World} {base : Nat} {held : Bool} {α : Type}
/-- Whatever reads as a datum of type t (at this depth) is a value of kind d. -/
def OpensAt (enc : TypeId × Value → H) (P : Program) (w : World) (base : Nat) (held : Bool) (n : Nat) (t : TypeId) (d : Kd α) (wf : α → Prop) : Prop :=
  ∀ cs x, DataW.trod enc P w base (fun _ => true) held n t cs = some x → ∃ a, d.K w a cs ∧ wf a
theorem opens_int (n : Nat) {t : TypeId} {k : IntKind} (ht : P.underlying t = some (.int k)) : OpensAt enc P w base held n t (Kd.int k) (fun a => (Lit.int k a).wf = true) := fun cs x h => by
  obtain ⟨a, rfl, _, hw⟩ := DataW.trod_int ht h
  exact ⟨a, rfl, hw⟩
theorem list_upto {Q : Nat → α → Prop} : ∀ n, (∀ i, i < n → ∃ y, Q i y) → ∃ xs : List α, xs.length = n ∧ ∀ (i : Nat) (y : α), xs[i]? = some y → Q i y
  | 0, _ => ⟨[], rfl, fun i y h => by simp at h⟩
  | n + 1, h => by
    obtain ⟨xs, hl, hx⟩ := list_upto n (fun i hi => h i (by omega))
    obtain ⟨y, hy⟩ := h n (by omega)
    refine ⟨xs ++ [y], by simp [hl], fun i z hz => ?_⟩
    by_cases e : i < xs.length
    · rw [List.getElem?_append_left e] at hz
      exact hx i z hz
    · rw [List.getElem?_append_right (by omega)] at hz
      have : i - xs.length = 0 := by
        have := (List.getElem?_eq_some_iff.1 hz).1
        simp at this
        omega
      rw [this] at hz
      obtain rfl : y = z := by simpa using hz
      obtain rfl : i = n := by omega
      exact hy
theorem opens_slice (n : Nat) {t e : TypeId} {d : Kd α} {wf : α → Prop} (ht : P.underlying t = some (.slice e)) (hc : P.cellsOf e = d.sz) (he : OpensAt enc P w base held n e d wf) :
    OpensAt enc P w base held (n + 1) t (Kd.slice e d) (fun xs => xs.length ≤ 9223372036854775807 ∧ ∀ x ∈ xs, wf x) := fun cs x h => by
  rcases DataW.trod_slice ht h with ⟨rfl, _⟩ | ⟨a, len, cap, elems, rest, m, hn, rfl, _, _, hl, hm, hlen, hel, _, _⟩
  · exact ⟨[], ⟨none, 0, rfl, Nat.le_refl _, ⟨rfl, by simp, fun h => absurd h (by simp)⟩⟩, by simp⟩
  · obtain rfl : n = m := by omega
    obtain ⟨xs, hxl, hx⟩ := list_upto (Q := fun i y => (∃ c : List Value, c.length = d.sz ∧ d.K w y c ∧ ∀ j u, c[j]? = some u → w.cell? (a.add (i * d.sz + j)) = some u) ∧ wf y) len (fun i hi => by
      have h1 := hel i hi
      rw [List.getElem?_eq_getElem (by omega)] at h1
      obtain ⟨c, hc1, hc2⟩ := Option.bind_eq_some_iff.1 h1
      obtain ⟨y, hy, hw⟩ := he c _ hc2
      obtain ⟨_, hcl, hcc⟩ := World.cells?_some hc1
      refine ⟨y, ⟨c, by rw [hcl, hc], hy, fun j u hu => ?_⟩, hw⟩
      have hj : j < P.cellsOf e := by rw [← hcl]; exact (List.getElem?_eq_some_iff.1 hu).1
      have h2 := hcc j hj
      rw [hu, hc] at h2
      rw [← h2, Addr.add_add])
    subst hxl
    unfold maxLen at hm
    refine ⟨xs, ⟨some a, cap, rfl, hl, ⟨rfl, by omega, fun _ => ⟨a, rfl, fun j p hj => (hx j p hj).1⟩⟩⟩, by omega, fun y hy => ?_⟩
    obtain ⟨i, hi⟩ := List.mem_iff_getElem?.1 hy
    exact (hx i y hi).2
/-- At any depth. -/
theorem OpensAt.any {t : TypeId} {d : Kd α} {wf : α → Prop} (h : ∀ n, OpensAt enc P w base held n t d wf) {v : Value} {y : DataW H} {p : List MemPlace} (hv : DataW.Trod enc P w base (fun _ => true) held t v y p) : ∃ a, d.K w a v.cells.toList ∧ wf a := by
  obtain ⟨fuel, hf⟩ := hv
  exact h fuel _ _ hf
theorem opens_slice_any {t e : TypeId} {d : Kd α} {wf : α → Prop} (ht : P.underlying t = some (.slice e)) (hc : P.cellsOf e = d.sz) (he : ∀ n, OpensAt enc P w base held n e d wf) : ∀ n, OpensAt enc P w base held n t (Kd.slice e d) (fun xs => xs.length ≤ 9223372036854775807 ∧ ∀ x ∈ xs, wf x)
  | 0 => fun cs x h => by simp [DataW.trod] at h
  | n + 1 => opens_slice n ht hc (he n)
end

end Go.Proofs.Ytjnobnmjhpmpfaa.P

namespace Go.Proofs.Ytjnobnmjhpmpfaa.P
open Go.RowKit Go.Proofs.YtjnobnmjhpmpfaaW.PrintWords Go.Proofs.YtjnobnmjhpmpfaaW.PrintLast Go.Proofs.YtjnobnmjhpmpfaaW.PrintMore
attribute [local go_sem] max2_int min2_int max_two min_two max_three min_three max_four min_four
set_option linter.unusedVariables false
set_option linter.unusedSimpArgs false

/-! ### laws_szGateS: function 43 -/
end Go.Proofs.Ytjnobnmjhpmpfaa.P

namespace Go.Proofs.Ytjnobnmjhpmpfaa.P
open Go.RowKit Go.Proofs.YtjnobnmjhpmpfaaW.PrintWords Go.Proofs.YtjnobnmjhpmpfaaW.PrintLast Go.Proofs.YtjnobnmjhpmpfaaW.PrintMore
attribute [local go_sem] max2_int min2_int max_two min_two max_three min_three max_four min_four
set_option linter.unusedVariables false
set_option linter.unusedSimpArgs false

/-! ### laws_toGateS: function 45 (by hand) -/
end Go.Proofs.Ytjnobnmjhpmpfaa.P

namespace Go.Proofs.Ytjnobnmjhpmpfaa.P
open Go.RowKit Go.Proofs.YtjnobnmjhpmpfaaW.PrintWords Go.Proofs.YtjnobnmjhpmpfaaW.PrintLast Go.Proofs.YtjnobnmjhpmpfaaW.PrintMore
attribute [local go_sem] max2_int min2_int max_two min_two max_three min_three max_four min_four
set_option linter.unusedVariables false
set_option linter.unusedSimpArgs false

end Go.Proofs.Ytjnobnmjhpmpfaa.P

namespace Go.Proofs.Ytjnobnmjhpmpfaa.P
open Go.RowKit Go.Proofs.YtjnobnmjhpmpfaaW.PrintWords Go.Proofs.YtjnobnmjhpmpfaaW.PrintLast Go.Proofs.YtjnobnmjhpmpfaaW.PrintMore
attribute [local go_sem] max2_int min2_int max_two min_two max_three min_three max_four min_four
set_option linter.unusedVariables false
set_option linter.unusedSimpArgs false

mutual
def mT : S29 → Nat
  | ⟨_, _, l⟩ => mL l
def mL : List S29 → Nat
  | [] => 0
  | x :: l => 1 + mT x + mL l
end
theorem mT_kids (x : S29) : mT x = mL x.f2 := by cases x; simp [mT]
theorem mL_mem {l : List S29} {x : S29} (h : x ∈ l) : mT x < mL l := by
  induction l with
  | nil => simp at h
  | cons y l ih =>
    simp only [mL]
    rcases List.mem_cons.mp h with rfl | h
    · omega
    · have := ih h; omega
theorem mL_len : ∀ l : List S29, l.length ≤ mL l
  | [] => by simp [mL]
  | x :: l => by have := mL_len l; simp only [mL, List.length_cons]; omega
theorem rdT_impl (xs : List S29) (i : Nat) (h : i < xs.length) : rd_T29 xs (i : Int) = xs[i] := by simp [rd_T29, h]
/-- Lists that are no longer than a list may be. -/
inductive wfG : S24 → Prop
  | mk (x : S24) : x.f2.length ≤ 9223372036854775807 → (∀ y ∈ x.f2, wfG y) → wfG x
theorem eqGateS_same : ∀ (n : Nat) (l : List S29), mL l ≤ n → n ≤ 1048576 → Ev (fun k => laws_eqGateS.f k l l) true := by
  intro n
  induction n with
  | zero =>
    intro l hn hm
    have hs := mL_len l
    obtain rfl : l = [] := List.eq_nil_of_length_eq_zero (by omega)
    exact Ev.step (f := fun k => laws_eqGateS.l0 k [] [] 0) (fun k => by simp [laws_eqGateS.f]) (Ev.step (f := fun _ => some true) (fun k => by simp [laws_eqGateS.l0]) (Ev.now _))
  | succ n ih =>
    intro l hn hm
    have hs := mL_len l
    have key : ∀ d i : Nat, i + d = l.length → Ev (fun k => laws_eqGateS.l0 k l l (i : Int)) true := by
      intro d
      induction d with
      | zero =>
        intro i hi
        refine Ev.step (f := fun _ => some true) (fun k => ?_) (Ev.now _)
        simp only [laws_eqGateS.l0]
        rw [if_neg (by omega)]
      | succ d ihd =>
        intro i hi
        have hlt : i < l.length := by omega
        have hx := mL_mem (List.getElem_mem hlt)
        have hk := mT_kids l[i]
        have e1 : Ev (fun k => laws_eqGate.f k l[i].f0 l[i].f1 l[i].f2 l[i].f0 l[i].f1 l[i].f2) true :=
          Ev.step (f := fun k => (laws_eqGateS.f k l[i].f2 l[i].f2).bind fun t => if t = true then some true else some false) (fun k => by simp only [laws_eqGate.f, if_true]) (Ev.bind (ih l[i].f2 (by omega) (by omega)) (by simp only [if_true]; exact Ev.now _))
        refine Ev.step (f := fun k => (laws_eqGate.f k l[i].f0 l[i].f1 l[i].f2 l[i].f0 l[i].f1 l[i].f2).bind fun t => if t = true then laws_eqGateS.l0 k l l ((i + 1 : Nat) : Int) else some false) (fun k => ?_) (Ev.bind e1 ?_)
        · simp only [laws_eqGateS.l0]
          rw [if_pos (by omega), if_pos (by omega), if_pos (by omega), rdT_impl l i hlt, wr (by omega) (by omega)]
          rfl
        · exact ihd (i + 1) (by omega)
    exact Ev.step (f := fun k => laws_eqGateS.l0 k l l 0) (fun k => by simp only [laws_eqGateS.f, if_true]) (key l.length 0 (by omega))
theorem eqGate_same (a b : Int) (l : List S29) (h : mL l ≤ 1048576) : Ev (fun k => laws_eqGate.f k a b l a b l) true :=
  Ev.step (f := fun k => (laws_eqGateS.f k l l).bind fun t => if t = true then some true else some false) (fun k => by simp only [laws_eqGate.f, if_true]) (Ev.bind (eqGateS_same _ l (Nat.le_refl _) h) (by simp only [if_true]; exact Ev.now _))

end Go.Proofs.Ytjnobnmjhpmpfaa.P

namespace Go.Proofs.Ytjnobnmjhpmpfaa.P
open Go.RowKit Go.Proofs.YtjnobnmjhpmpfaaW.PrintWords Go.Proofs.YtjnobnmjhpmpfaaW.PrintLast Go.Proofs.YtjnobnmjhpmpfaaW.PrintMore
attribute [local go_sem] max2_int min2_int max_two min_two max_three min_three max_four min_four
set_option linter.unusedVariables false
set_option linter.unusedSimpArgs false

/-! ### spec_l00Rises: function 101 -/
end Go.Proofs.Ytjnobnmjhpmpfaa.P

namespace Go.Proofs.Ytjnobnmjhpmpfaa.P
open Go.RowKit Go.Proofs.YtjnobnmjhpmpfaaW.PrintWords Go.Proofs.YtjnobnmjhpmpfaaW.PrintLast Go.Proofs.YtjnobnmjhpmpfaaW.PrintMore
attribute [local go_sem] max2_int min2_int max_two min_two max_three min_three max_four min_four
set_option linter.unusedVariables false
set_option linter.unusedSimpArgs false

/-! ### spec_l01Group: function 92 -/
end Go.Proofs.Ytjnobnmjhpmpfaa.P

namespace Go.Proofs.Ytjnobnmjhpmpfaa.P
open Go.RowKit Go.Proofs.YtjnobnmjhpmpfaaW.PrintWords Go.Proofs.YtjnobnmjhpmpfaaW.PrintLast Go.Proofs.YtjnobnmjhpmpfaaW.PrintMore
attribute [local go_sem] max2_int min2_int max_two min_two max_three min_three max_four min_four
set_option linter.unusedVariables false
set_option linter.unusedSimpArgs false

/-! ### impl_isGroup: function 95 -/
end Go.Proofs.Ytjnobnmjhpmpfaa.P

namespace Go.Proofs.Ytjnobnmjhpmpfaa.P
open Go.RowKit Go.Proofs.YtjnobnmjhpmpfaaW.PrintWords Go.Proofs.YtjnobnmjhpmpfaaW.PrintLast Go.Proofs.YtjnobnmjhpmpfaaW.PrintMore
attribute [local go_sem] max2_int min2_int max_two min_two max_three min_three max_four min_four
set_option linter.unusedVariables false
set_option linter.unusedSimpArgs false

theorem toInt64S_loop (l : List Int) (hl : l.length ≤ 1048576) : ∀ (d i : Nat), i + d = l.length → Ev (fun k => laws_toInt64S.l0 k l (l.take i ++ List.replicate d 0) (i : Int)) l := by
  intro d
  induction d with
  | zero =>
    intro i hi
    refine Ev.step (f := fun _ => some l) (fun k => ?_) (Ev.now _)
    simp only [laws_toInt64S.l0]
    rw [if_neg (by omega)]
    simp [List.take_of_length_le (show l.length ≤ i by omega)]
  | succ d ih =>
    intro i hi
    have hlt : i < l.length := by omega
    refine Ev.step (fun k => ?_) (ih (i + 1) (by omega))
    simp only [laws_toInt64S.l0]
    rw [if_pos (by omega), if_pos (by omega), if_pos (by simp; omega), wr (by omega) (by omega), rd_nat l i hlt]
    have e : (l.take i ++ List.replicate (d + 1) 0).set ((i : Int)).toNat l[i] = l.take (i + 1) ++ List.replicate d 0 := by
      have e0 : (l.take i).length = i := by rw [List.length_take]; omega
      rw [Int.toNat_natCast, List.set_append_right _ _ (by omega), e0, Nat.sub_self, List.replicate_succ, List.set_cons_zero, List.take_succ_eq_append_getElem hlt, List.append_assoc]
      rfl
    rw [e]
    rfl
theorem toInt64S_ev (l : List Int) (hl : l.length ≤ 1048576) : Ev (fun k => laws_toInt64S.f k l) l := by
  unfold laws_toInt64S.f
  simp only [if_pos (show (0 : Int) ≤ (l.length : Int) by omega), if_pos (show ((l.length : Int)).toNat ≤ 35184372088832 by omega)]
  have := toInt64S_loop l hl l.length 0 (by omega)
  rw [List.take_zero, List.nil_append] at this
  rw [Int.toNat_natCast]
  exact this
theorem eqInt64S_loop (a b : List Int) (hl : a.length ≤ 1048576) (hab : a.length = b.length) : ∀ (d i : Nat), i + d = a.length → Ev (fun k => laws_eqInt64S.l0 k a b (i : Int)) (decide (a.drop i = b.drop i)) := by
  intro d
  induction d with
  | zero =>
    intro i hi
    refine Ev.step (f := fun _ => some true) (fun k => ?_) ?_
    · simp only [laws_eqInt64S.l0]
      rw [if_neg (by omega)]
    · rw [List.drop_eq_nil_of_le (by omega), List.drop_eq_nil_of_le (by omega), decide_eq_true rfl]
      exact Ev.now _
  | succ d ih =>
    intro i hi
    have h1 : i < a.length := by omega
    have h2 : i < b.length := by omega
    have ed : (a.drop i = b.drop i) ↔ (a[i] = b[i] ∧ a.drop (i + 1) = b.drop (i + 1)) := by
      rw [List.drop_eq_getElem_cons h1, List.drop_eq_getElem_cons h2, List.cons.injEq]
    by_cases e : a[i] = b[i]
    · rw [show decide (a.drop i = b.drop i) = decide (a.drop (i + 1) = b.drop (i + 1)) from by simp only [ed, e, true_and]]
      refine Ev.step (fun k => ?_) (ih (i + 1) (by omega))
      simp only [laws_eqInt64S.l0]
      rw [if_pos (by omega), if_pos (by omega), if_pos (by omega), rd_nat a i h1, rd_nat b i h2, if_pos e, wr (by omega) (by omega)]
      rfl
    · refine Ev.step (f := fun _ => some false) (fun k => ?_) ?_
      · simp only [laws_eqInt64S.l0]
        rw [if_pos (by omega), if_pos (by omega), if_pos (by omega), rd_nat a i h1, rd_nat b i h2, if_neg e]
      · rw [decide_eq_false (by rw [ed]; simp [e])]
        exact Ev.now _
theorem eqInt64S_ev (a b : List Int) (hl : a.length ≤ 1048576) : Ev (fun k => laws_eqInt64S.f k a b) (decide (a = b)) := by
  unfold laws_eqInt64S.f
  by_cases h : a.length = b.length
  · simp only [if_pos (show (a.length : Int) = (b.length : Int) by omega)]
    have := eqInt64S_loop a b hl h a.length 0 (by omega)
    rw [List.drop_zero, List.drop_zero] at this
    exact this
  · simp only [if_neg (show ¬ (a.length : Int) = (b.length : Int) by omega)]
    rw [decide_eq_false (by intro e; exact h (by rw [e]))]
    exact Ev.now _
theorem eqInt64S_same (a : List Int) (hl : a.length ≤ 1048576) : Ev (fun k => laws_eqInt64S.f k a a) true := by
  have := eqInt64S_ev a a hl
  rwa [decide_eq_true rfl] at this
def before (l : List Int) (i : Nat) : Option Int := if i = 0 then none else l[i - 1]?
end Go.Proofs.Ytjnobnmjhpmpfaa.P

namespace Go.Proofs.Ytjnobnmjhpmpfaa.P
open Go.RowKit Go.Proofs.YtjnobnmjhpmpfaaW.PrintWords Go.Proofs.YtjnobnmjhpmpfaaW.PrintLast Go.Proofs.YtjnobnmjhpmpfaaW.PrintMore
attribute [local go_sem] max2_int min2_int max_two min_two max_three min_three max_four min_four
set_option linter.unusedVariables false
set_option linter.unusedSimpArgs false

/-! ### laws_szInt64S: function 91 -/
end Go.Proofs.Ytjnobnmjhpmpfaa.P

namespace Go.Proofs.Ytjnobnmjhpmpfaa.P
open Go.RowKit Go.Proofs.YtjnobnmjhpmpfaaW.PrintWords Go.Proofs.YtjnobnmjhpmpfaaW.PrintLast Go.Proofs.YtjnobnmjhpmpfaaW.PrintMore
attribute [local go_sem] max2_int min2_int max_two min_two max_three min_three max_four min_four
set_option linter.unusedVariables false
set_option linter.unusedSimpArgs false

/-! ### laws_szInt64SS: function 77 -/
end Go.Proofs.Ytjnobnmjhpmpfaa.P

namespace Go.Proofs.Ytjnobnmjhpmpfaa.P
open Go.RowKit Go.Proofs.YtjnobnmjhpmpfaaW.PrintWords Go.Proofs.YtjnobnmjhpmpfaaW.PrintLast Go.Proofs.YtjnobnmjhpmpfaaW.PrintMore
attribute [local go_sem] max2_int min2_int max_two min_two max_three min_three max_four min_four
set_option linter.unusedVariables false
set_option linter.unusedSimpArgs false

/-! ### laws_toInt64SS: function 79 -/
end Go.Proofs.Ytjnobnmjhpmpfaa.P

namespace Go.Proofs.Ytjnobnmjhpmpfaa.P
open Go.RowKit Go.Proofs.YtjnobnmjhpmpfaaW.PrintWords Go.Proofs.YtjnobnmjhpmpfaaW.PrintLast Go.Proofs.YtjnobnmjhpmpfaaW.PrintMore
attribute [local go_sem] max2_int min2_int max_two min_two max_three min_three max_four min_four
set_option linter.unusedVariables false
set_option linter.unusedSimpArgs false

/-! ### laws_eqInt64SS: function 81 -/
end Go.Proofs.Ytjnobnmjhpmpfaa.P

namespace Go.Proofs.Ytjnobnmjhpmpfaa.P
open Go.RowKit Go.Proofs.YtjnobnmjhpmpfaaW.PrintWords Go.Proofs.YtjnobnmjhpmpfaaW.PrintLast Go.Proofs.YtjnobnmjhpmpfaaW.PrintMore
attribute [local go_sem] max2_int min2_int max_two min_two max_three min_three max_four min_four
set_option linter.unusedVariables false
set_option linter.unusedSimpArgs false

end Go.Proofs.Ytjnobnmjhpmpfaa.P

namespace Go.Proofs.Ytjnobnmjhpmpfaa.P
open Go.RowKit Go.Proofs.YtjnobnmjhpmpfaaW.PrintWords Go.Proofs.YtjnobnmjhpmpfaaW.PrintLast Go.Proofs.YtjnobnmjhpmpfaaW.PrintMore
attribute [local go_sem] max2_int min2_int max_two min_two max_three min_three max_four min_four
set_option linter.unusedVariables false
set_option linter.unusedSimpArgs false

/-- What holds from some number of rounds on. -/
def From (P : Nat → Prop) : Prop := ∃ K, ∀ k, K ≤ k → P k
theorem From.and {P Q : Nat → Prop} (hp : From P) (hq : From Q) : From fun k => P k ∧ Q k := by
  obtain ⟨K, hK⟩ := hp
  obtain ⟨L, hL⟩ := hq
  exact ⟨max K L, fun k h => ⟨hK k (by omega), hL k (by omega)⟩⟩
theorem From.now {P : Nat → Prop} (h : From P) : ∃ k, P k := by
  obtain ⟨K, hK⟩ := h
  exact ⟨K, hK K (Nat.le_refl _)⟩
end Go.Proofs.Ytjnobnmjhpmpfaa.P

namespace Go.Proofs.Ytjnobnmjhpmpfaa.P
open Go.RowKit Go.Proofs.YtjnobnmjhpmpfaaW.PrintWords Go.Proofs.YtjnobnmjhpmpfaaW.PrintLast Go.Proofs.YtjnobnmjhpmpfaaW.PrintMore
attribute [local go_sem] max2_int min2_int max_two min_two max_three min_three max_four min_four
set_option linter.unusedVariables false
set_option linter.unusedSimpArgs false

mutual
/-- A gate's kids, marked from m on. -/
def mkT : Int → S29 → S29
  | m, ⟨_, _, l⟩ => ⟨m, m + 1, mkL (m + 2) l⟩
def mkL : Int → List S29 → List S29
  | _, [] => []
  | m, x :: l => mkT m x :: mkL (m + 2 + 2 * (mT x : Int)) l
end
theorem mkT_parts (m : Int) (x : S29) : mkT m x = ⟨m, m + 1, mkL (m + 2) x.f2⟩ := by cases x; simp only [mkT]
theorem mkL_cons (m : Int) (x : S29) (l : List S29) : mkL m (x :: l) = ⟨m, m + 1, mkL (m + 2) x.f2⟩ :: mkL (m + 2 + 2 * (mT x : Int)) l := by rw [← mkT_parts]; simp only [mkL]
theorem rdT_mid (pre r : List S29) (y : S29) : rd_T29 (pre ++ y :: r) (pre.length : Int) = y := by simp [rd_T29]
theorem mL_cons (x : S29) (l : List S29) : mL (x :: l) = 1 + mT x + mL l := by simp only [mL]
theorem markGS_ev : ∀ (n : Nat) (rest : List S29), mL rest ≤ n → n ≤ 1048576 → ∀ (pre : List S29) (m : Int), 0 ≤ m → m + 2 * (mL rest : Int) ≤ 4611686018427387904 → pre.length + rest.length ≤ 4611686018427387904 → Ev (fun k => laws_markGateS.l0 k (pre ++ rest) m (pre.length : Int)) (m + 2 * (mL rest : Int), pre ++ mkL m rest) := by
  intro n
  induction n with
  | zero =>
    intro rest hn hm pre m h0 h1 hp
    cases rest with
    | cons x r => rw [mL_cons] at hn; omega
    | nil =>
      refine Ev.step (f := fun _ => some (m, pre ++ [])) (fun k => ?_) ?_
      · simp only [laws_markGateS.l0]
        rw [if_neg (show ¬ ((pre.length : Int) < ((pre ++ ([] : List S29)).length : Int)) by simp)]
      · rw [show m + 2 * ((mL ([] : List S29) : Nat) : Int) = m by simp [mL], show mkL m [] = [] by simp only [mkL]]
        exact Ev.now _
  | succ n ih =>
    intro rest hn hm pre m h0 h1 hp
    cases rest with
    | nil =>
      refine Ev.step (f := fun _ => some (m, pre ++ [])) (fun k => ?_) ?_
      · simp only [laws_markGateS.l0]
        rw [if_neg (show ¬ ((pre.length : Int) < ((pre ++ ([] : List S29)).length : Int)) by simp)]
      · rw [show m + 2 * ((mL ([] : List S29) : Nat) : Int) = m by simp [mL], show mkL m [] = [] by simp only [mkL]]
        exact Ev.now _
    | cons x r =>
      rw [mL_cons] at hn h1
      rw [List.length_cons] at hp
      have hk := mT_kids x
      have hlx := mL_len x.f2
      have e1 : Ev (fun k => laws_markGateS.f k x.f2 (m + 2)) (m + 2 + 2 * (mL x.f2 : Int), mkL (m + 2) x.f2) :=
        Ev.step (f := fun k => laws_markGateS.l0 k x.f2 (m + 2) 0) (fun k => by simp only [laws_markGateS.f]) (ih x.f2 (by omega) (by omega) [] (m + 2) (by omega) (by omega) (by rw [List.length_nil]; omega))
      refine Ev.step (f := fun k => (laws_markGateS.f k x.f2 (m + 2)).bind fun t => laws_markGateS.l0 k ((pre ++ x :: r).set pre.length ⟨m, m + 1, t.2⟩) t.1 ((pre.length + 1 : Nat) : Int)) (fun k => ?_) (Ev.bind e1 ?_)
      · simp only [laws_markGateS.l0]
        rw [if_pos (by simp; omega), if_pos (by omega), rdT_mid, wr (x := m + 1) (by omega) (by omega), wr (x := m + 1 + 1) (by omega) (by omega), wr (x := (pre.length : Int) + 1) (by omega) (by omega), Int.toNat_natCast, show m + 1 + 1 = m + 2 by omega]
        rfl
      · dsimp only
        have e : (pre ++ x :: r).set pre.length (⟨m, m + 1, mkL (m + 2) x.f2⟩ : S29) = (pre ++ [⟨m, m + 1, mkL (m + 2) x.f2⟩]) ++ r := by
          rw [List.set_append_right _ _ (Nat.le_refl _), Nat.sub_self, List.set_cons_zero, List.append_assoc]; rfl
        have hl := mL_len r
        have h3 := ih r (by omega) (by omega) (pre ++ [⟨m, m + 1, mkL (m + 2) x.f2⟩]) (m + 2 + 2 * (mL x.f2 : Int)) (by omega) (by omega) (by rw [List.length_append, List.length_singleton]; omega)
        rw [List.length_append, List.length_singleton] at h3
        rw [e, mkL_cons, mL_cons, hk, show m + 2 * (((1 + mL x.f2 + mL r : Nat)) : Int) = m + 2 + 2 * (mL x.f2 : Int) + 2 * (mL r : Int) by omega, show pre ++ (⟨m, m + 1, mkL (m + 2) x.f2⟩ : S29) :: mkL (m + 2 + 2 * ((mL x.f2 : Nat) : Int)) r = (pre ++ [⟨m, m + 1, mkL (m + 2) x.f2⟩]) ++ mkL (m + 2 + 2 * ((mL x.f2 : Nat) : Int)) r by rw [List.append_assoc]; rfl]
        exact h3
theorem markGate_ev (a b : Int) (l : List S29) (h : mL l ≤ 1048576) : Ev (fun k => laws_markGate.f k a b l 1) (1 + 2 * (mL l : Int), mkL 1 l) :=
  Ev.step (f := fun k => laws_markGateS.l0 k l 1 0) (fun k => by simp only [laws_markGate.f, laws_markGateS.f]) (markGS_ev 1048576 l h (Nat.le_refl _) [] 1 (by omega) (by omega) (by have := mL_len l; rw [List.length_nil]; omega))
theorem heldGS_ev : ∀ (n : Nat) (rest : List S29), mL rest ≤ n → n ≤ 1048576 → ∀ (pre : List S29) (m : Int), 0 ≤ m → m + 2 * (mL rest : Int) ≤ 4611686018427387904 → pre.length + rest.length ≤ 4611686018427387904 → Ev (fun k => laws_heldGateS.l0 k (pre ++ mkL m rest) m (pre.length : Int)) (m + 2 * (mL rest : Int)) := by
  intro n
  induction n with
  | zero =>
    intro rest hn hm pre m h0 h1 hp
    cases rest with
    | cons x r => rw [mL_cons] at hn; omega
    | nil =>
      refine Ev.step (f := fun _ => some m) (fun k => ?_) ?_
      · rw [show mkL m ([] : List S29) = [] by simp only [mkL]]
        simp only [laws_heldGateS.l0]
        rw [if_neg (show ¬ ((pre.length : Int) < ((pre ++ ([] : List S29)).length : Int)) by simp)]
      · rw [show m + 2 * ((mL ([] : List S29) : Nat) : Int) = m by simp [mL]]
        exact Ev.now _
  | succ n ih =>
    intro rest hn hm pre m h0 h1 hp
    cases rest with
    | nil =>
      refine Ev.step (f := fun _ => some m) (fun k => ?_) ?_
      · rw [show mkL m ([] : List S29) = [] by simp only [mkL]]
        simp only [laws_heldGateS.l0]
        rw [if_neg (show ¬ ((pre.length : Int) < ((pre ++ ([] : List S29)).length : Int)) by simp)]
      · rw [show m + 2 * ((mL ([] : List S29) : Nat) : Int) = m by simp [mL]]
        exact Ev.now _
    | cons x r =>
      rw [mL_cons] at hn h1
      rw [List.length_cons] at hp
      have hk := mT_kids x
      have hlx := mL_len x.f2
      have e1 : Ev (fun k => laws_heldGateS.f k (mkL (m + 2) x.f2) (m + 2)) (m + 2 + 2 * (mL x.f2 : Int)) :=
        Ev.step (f := fun k => laws_heldGateS.l0 k (mkL (m + 2) x.f2) (m + 2) 0) (fun k => by simp only [laws_heldGateS.f]) (ih x.f2 (by omega) (by omega) [] (m + 2) (by omega) (by omega) (by rw [List.length_nil]; omega))
      rw [mkL_cons]
      refine Ev.step (f := fun k => (laws_heldGateS.f k (mkL (m + 2) x.f2) (m + 2)).bind fun t => if t < 0 then some (-1) else laws_heldGateS.l0 k (pre ++ ⟨m, m + 1, mkL (m + 2) x.f2⟩ :: mkL (m + 2 + 2 * (mT x : Int)) r) t ((pre.length + 1 : Nat) : Int)) (fun k => ?_) (Ev.bind e1 ?_)
      · simp only [laws_heldGateS.l0]
        rw [if_pos (by simp; omega), if_pos (by omega), rdT_mid]
        dsimp only
        rw [if_pos rfl, wr (x := m + 1) (by omega) (by omega), if_pos rfl, wr (x := m + 1 + 1) (by omega) (by omega), wr (x := (pre.length : Int) + 1) (by omega) (by omega), show m + 1 + 1 = m + 2 by omega]
        rfl
      · simp only [if_neg (show ¬ (m + 2 + 2 * ((mL x.f2 : Nat) : Int) < 0) by omega)]
        have hl := mL_len r
        have h3 := ih r (by omega) (by omega) (pre ++ [⟨m, m + 1, mkL (m + 2) x.f2⟩]) (m + 2 + 2 * (mL x.f2 : Int)) (by omega) (by omega) (by rw [List.length_append, List.length_singleton]; omega)
        rw [List.length_append, List.length_singleton] at h3
        rw [mL_cons, hk, show m + 2 * (((1 + mL x.f2 + mL r : Nat)) : Int) = m + 2 + 2 * (mL x.f2 : Int) + 2 * (mL r : Int) by omega, show pre ++ (⟨m, m + 1, mkL (m + 2) x.f2⟩ : S29) :: mkL (m + 2 + 2 * ((mL x.f2 : Nat) : Int)) r = (pre ++ [⟨m, m + 1, mkL (m + 2) x.f2⟩]) ++ mkL (m + 2 + 2 * ((mL x.f2 : Nat) : Int)) r by rw [List.append_assoc]; rfl]
        exact h3
theorem heldGate_ev (a b : Int) (l : List S29) (h : mL l ≤ 1048576) : Ev (fun k => laws_heldGate.f k a b (mkL 1 l) 1) (1 + 2 * (mL l : Int)) := by
  unfold laws_heldGate.f
  refine Ev.bind (Ev.step (f := fun k => laws_heldGateS.l0 k (mkL 1 l) 1 0) (fun k => by simp only [laws_heldGateS.f]) (heldGS_ev 1048576 l h (Nat.le_refl _) [] 1 (by omega) (by omega) (by have := mL_len l; rw [List.length_nil]; omega))) ?_
  simp only [if_neg (show ¬ (1 + 2 * ((mL l : Nat) : Int) < 0) by omega)]
  exact Ev.now _

end Go.Proofs.Ytjnobnmjhpmpfaa.P

namespace Go.Proofs.Ytjnobnmjhpmpfaa.P
open Go.RowKit Go.Proofs.YtjnobnmjhpmpfaaW.PrintWords Go.Proofs.YtjnobnmjhpmpfaaW.PrintLast Go.Proofs.YtjnobnmjhpmpfaaW.PrintMore
attribute [local go_sem] max2_int min2_int max_two min_two max_three min_three max_four min_four
set_option linter.unusedVariables false
set_option linter.unusedSimpArgs false

/-! ### spec_l01Before: function 93 -/
end Go.Proofs.Ytjnobnmjhpmpfaa.P

namespace Go.Proofs.Ytjnobnmjhpmpfaa.P
open Go.RowKit Go.Proofs.YtjnobnmjhpmpfaaW.PrintWords Go.Proofs.YtjnobnmjhpmpfaaW.PrintLast Go.Proofs.YtjnobnmjhpmpfaaW.PrintMore
attribute [local go_sem] max2_int min2_int max_two min_two max_three min_three max_four min_four
set_option linter.unusedVariables false
set_option linter.unusedSimpArgs false

/-! ### spec_l01Bits: function 102 -/
end Go.Proofs.Ytjnobnmjhpmpfaa.P

namespace Go.Proofs.Ytjnobnmjhpmpfaa.P
open Go.RowKit Go.Proofs.YtjnobnmjhpmpfaaW.PrintWords Go.Proofs.YtjnobnmjhpmpfaaW.PrintLast Go.Proofs.YtjnobnmjhpmpfaaW.PrintMore
attribute [local go_sem] max2_int min2_int max_two min_two max_three min_three max_four min_four
set_option linter.unusedVariables false
set_option linter.unusedSimpArgs false

/-! ### spec_l01Within: function 94 -/
end Go.Proofs.Ytjnobnmjhpmpfaa.P

namespace Go.Proofs.Ytjnobnmjhpmpfaa.P
open Go.RowKit Go.Proofs.YtjnobnmjhpmpfaaW.PrintWords Go.Proofs.YtjnobnmjhpmpfaaW.PrintLast Go.Proofs.YtjnobnmjhpmpfaaW.PrintMore
attribute [local go_sem] max2_int min2_int max_two min_two max_three min_three max_four min_four
set_option linter.unusedVariables false
set_option linter.unusedSimpArgs false

/-! ### spec_l01Ok: function 78 -/
end Go.Proofs.Ytjnobnmjhpmpfaa.P

namespace Go.Proofs.Ytjnobnmjhpmpfaa.P
open Go.RowKit Go.Proofs.YtjnobnmjhpmpfaaW.PrintWords Go.Proofs.YtjnobnmjhpmpfaaW.PrintLast Go.Proofs.YtjnobnmjhpmpfaaW.PrintMore
attribute [local go_sem] max2_int min2_int max_two min_two max_three min_three max_four min_four
set_option linter.unusedVariables false
set_option linter.unusedSimpArgs false

/-! ### spec_GateOfFamily: function 38 (by hand) -/
end Go.Proofs.Ytjnobnmjhpmpfaa.P

namespace Go.Proofs.Ytjnobnmjhpmpfaa.P
open Go.RowKit Go.Proofs.YtjnobnmjhpmpfaaW.PrintWords Go.Proofs.YtjnobnmjhpmpfaaW.PrintLast Go.Proofs.YtjnobnmjhpmpfaaW.PrintMore
attribute [local go_sem] max2_int min2_int max_two min_two max_three min_three max_four min_four
set_option linter.unusedVariables false
set_option linter.unusedSimpArgs false

/-! ### cmp_isNaN_int64: function 104 -/
end Go.Proofs.Ytjnobnmjhpmpfaa.P

namespace Go.Proofs.Ytjnobnmjhpmpfaa.P
open Go.RowKit Go.Proofs.YtjnobnmjhpmpfaaW.PrintWords Go.Proofs.YtjnobnmjhpmpfaaW.PrintLast Go.Proofs.YtjnobnmjhpmpfaaW.PrintMore
attribute [local go_sem] max2_int min2_int max_two min_two max_three min_three max_four min_four
set_option linter.unusedVariables false
set_option linter.unusedSimpArgs false

/-! ### cmp_Compare_int64: function 103 -/
end Go.Proofs.Ytjnobnmjhpmpfaa.P

namespace Go.Proofs.Ytjnobnmjhpmpfaa.P
open Go.RowKit Go.Proofs.YtjnobnmjhpmpfaaW.PrintWords Go.Proofs.YtjnobnmjhpmpfaaW.PrintLast Go.Proofs.YtjnobnmjhpmpfaaW.PrintMore
attribute [local go_sem] max2_int min2_int max_two min_two max_three min_three max_four min_four
set_option linter.unusedVariables false
set_option linter.unusedSimpArgs false

/-! ### slices_Compare_int64_int64: function 96 -/
end Go.Proofs.Ytjnobnmjhpmpfaa.P

namespace Go.Proofs.Ytjnobnmjhpmpfaa.P
open Go.RowKit Go.Proofs.YtjnobnmjhpmpfaaW.PrintWords Go.Proofs.YtjnobnmjhpmpfaaW.PrintLast Go.Proofs.YtjnobnmjhpmpfaaW.PrintMore
attribute [local go_sem] max2_int min2_int max_two min_two max_three min_three max_four min_four
set_option linter.unusedVariables false
set_option linter.unusedSimpArgs false

/-! ### impl_crowdOf: function 97 -/
end Go.Proofs.Ytjnobnmjhpmpfaa.P

namespace Go.Proofs.Ytjnobnmjhpmpfaa.P
open Go.RowKit Go.Proofs.YtjnobnmjhpmpfaaW.PrintWords Go.Proofs.YtjnobnmjhpmpfaaW.PrintLast Go.Proofs.YtjnobnmjhpmpfaaW.PrintMore
attribute [local go_sem] max2_int min2_int max_two min_two max_three min_three max_four min_four
set_option linter.unusedVariables false
set_option linter.unusedSimpArgs false

/-! ### impl_crowd_contains: function 98 -/
end Go.Proofs.Ytjnobnmjhpmpfaa.P

namespace Go.Proofs.Ytjnobnmjhpmpfaa.P
open Go.RowKit Go.Proofs.YtjnobnmjhpmpfaaW.PrintWords Go.Proofs.YtjnobnmjhpmpfaaW.PrintLast Go.Proofs.YtjnobnmjhpmpfaaW.PrintMore
attribute [local go_sem] max2_int min2_int max_two min_two max_three min_three max_four min_four
set_option linter.unusedVariables false
set_option linter.unusedSimpArgs false

/-! ### impl_ValidFamily: function 80 -/
end Go.Proofs.Ytjnobnmjhpmpfaa.P

namespace Go.Proofs.Ytjnobnmjhpmpfaa.P
open Go.RowKit Go.Proofs.YtjnobnmjhpmpfaaW.PrintWords Go.Proofs.YtjnobnmjhpmpfaaW.PrintLast Go.Proofs.YtjnobnmjhpmpfaaW.PrintMore
attribute [local go_sem] max2_int min2_int max_two min_two max_three min_three max_four min_four
set_option linter.unusedVariables false
set_option linter.unusedSimpArgs false

/-! ### impl_GateOfFamily: function 40 (by hand) -/
end Go.Proofs.Ytjnobnmjhpmpfaa.P

namespace Go.Proofs.Ytjnobnmjhpmpfaa.P
open Go.RowKit Go.Proofs.YtjnobnmjhpmpfaaW.PrintWords Go.Proofs.YtjnobnmjhpmpfaaW.PrintLast Go.Proofs.YtjnobnmjhpmpfaaW.PrintMore
attribute [local go_sem] max2_int min2_int max_two min_two max_three min_three max_four min_four
set_option linter.unusedVariables false
set_option linter.unusedSimpArgs false

/-! ### spec_ValidGate: function 19 (by hand) -/
end Go.Proofs.Ytjnobnmjhpmpfaa.P

namespace Go.Proofs.Ytjnobnmjhpmpfaa.P
open Go.RowKit Go.Proofs.YtjnobnmjhpmpfaaW.PrintWords Go.Proofs.YtjnobnmjhpmpfaaW.PrintLast Go.Proofs.YtjnobnmjhpmpfaaW.PrintMore
attribute [local go_sem] max2_int min2_int max_two min_two max_three min_three max_four min_four
set_option linter.unusedVariables false
set_option linter.unusedSimpArgs false

/-! ### spec_l02Size: function 44 (by hand) -/
end Go.Proofs.Ytjnobnmjhpmpfaa.P

namespace Go.Proofs.Ytjnobnmjhpmpfaa.P
open Go.RowKit Go.Proofs.YtjnobnmjhpmpfaaW.PrintWords Go.Proofs.YtjnobnmjhpmpfaaW.PrintLast Go.Proofs.YtjnobnmjhpmpfaaW.PrintMore
attribute [local go_sem] max2_int min2_int max_two min_two max_three min_three max_four min_four
set_option linter.unusedVariables false
set_option linter.unusedSimpArgs false

/-! ### spec_GateSize: function 13 (by hand) -/
end Go.Proofs.Ytjnobnmjhpmpfaa.P

namespace Go.Proofs.Ytjnobnmjhpmpfaa.P
open Go.RowKit Go.Proofs.YtjnobnmjhpmpfaaW.PrintWords Go.Proofs.YtjnobnmjhpmpfaaW.PrintLast Go.Proofs.YtjnobnmjhpmpfaaW.PrintMore
attribute [local go_sem] max2_int min2_int max_two min_two max_three min_three max_four min_four
set_option linter.unusedVariables false
set_option linter.unusedSimpArgs false

def rT : List S29 → Nat
  | [] => 0
  | x :: l => (1 + mT x) + rT l
theorem rT_mL : ∀ l : List S29, rT l = mL l
  | [] => rfl
  | x :: l => by simp only [rT, mL, rT_mL l]
theorem impl_GateSize_ev : ∀ (n : Nat) (a b : Int) (l : List S29), mL l ≤ n → n ≤ 1048576 → Ev (fun k => impl_GateSize.f k a b l) ((1 + mL l : Nat) : Int) := by
  intro n
  induction n using Nat.strongRecOn with
  | _ n ih =>
    intro a0 a1 l hn hm
    have hr := rT_mL l
    have hl := mL_len l
    have key : ∀ d i : Nat, i + d = l.length → ∀ b : Nat, b + rT (l.drop i) ≤ 1048577 → Ev (fun k => impl_GateSize.l0 k (b : Int) l (l.length : Int) (i : Int)) ((b + rT (l.drop i) : Nat) : Int) := by
      intro d
      induction d with
      | zero =>
        intro i hi b hb
        rw [List.drop_eq_nil_of_le (by omega), show b + rT [] = b from rfl]
        refine Ev.step (f := fun _ => some (b : Int)) (fun k => ?_) (Ev.now _)
        simp only [impl_GateSize.l0]
        rw [if_neg (by omega)]
      | succ d ihd =>
        intro i hi b hb
        have hlt : i < l.length := by omega
        have hx := mL_mem (List.getElem_mem hlt)
        have hk := mT_kids l[i]
        rw [List.drop_eq_getElem_cons hlt, show rT (l[i] :: l.drop (i + 1)) = (1 + mT l[i]) + rT (l.drop (i + 1)) from rfl] at hb ⊢
        have hnext := ihd (i + 1) (by omega) (b + (1 + mT l[i])) (by omega)
        refine Ev.step (f := fun k => (impl_GateSize.f k l[i].f0 l[i].f1 l[i].f2).bind fun t => impl_GateSize.l0 k (wrap64 ((b : Int) + t)) l (l.length : Int) ((i + 1 : Nat) : Int)) (fun k => ?_) (Ev.bind (ih (mL l[i].f2) (by omega) _ _ _ (Nat.le_refl _) (by omega)) ?_)
        · simp only [impl_GateSize.l0]
          rw [if_pos (by omega), if_pos (by omega), if_pos (by omega), rdT_impl _ i hlt, wr (x := (i : Int) + 1) (by omega) (by omega)]
          rfl
        · rw [← hk, wr (by omega) (by omega), show (b : Int) + ((1 + mT l[i] : Nat) : Int) = ((b + (1 + mT l[i]) : Nat) : Int) by omega, show b + (1 + mT l[i] + rT (l.drop (i + 1))) = b + (1 + mT l[i]) + rT (l.drop (i + 1)) by omega]
          exact hnext
    have h := key l.length 0 (by omega) 1 (by rw [List.drop_zero]; omega)
    rw [List.drop_zero, hr] at h
    exact Ev.step (f := fun k => impl_GateSize.l0 k 1 l (l.length : Int) 0) (fun k => by simp only [impl_GateSize.f]) h
end Go.Proofs.Ytjnobnmjhpmpfaa.P

namespace Go.Proofs.Ytjnobnmjhpmpfaa.P
open Go.RowKit Go.Proofs.YtjnobnmjhpmpfaaW.PrintWords Go.Proofs.YtjnobnmjhpmpfaaW.PrintLast Go.Proofs.YtjnobnmjhpmpfaaW.PrintMore
attribute [local go_sem] max2_int min2_int max_two min_two max_three min_three max_four min_four
set_option linter.unusedVariables false
set_option linter.unusedSimpArgs false

theorem idxG_ev (p : Nat → S29 → Option Bool) (q : S29 → Bool) (xs : List S29) (hlen : xs.length ≤ 4611686018427387904) (hp : ∀ x ∈ xs, Ev (fun k => p k x) (q x)) (hm : ∀ x k, LeO (p k x) (p (k + 1) x)) :
    ∀ d i : Nat, i + d = xs.length → ∃ r : Int, Ev (fun k => idxG.l0 k (p k) xs (i : Int)) r ∧ decide (0 ≤ r) = (xs.drop i).any q := by
  have up : ∀ {r : Int} {i : Int}, Ev (fun k => idxG.l0 k (p k) xs i) r → Ev (fun k => idxG.l0 k (p (k + 1)) xs i) r := by
    rintro r i ⟨K, h⟩
    exact ⟨K, fun k hk => idxG.mono_p _ _ _ _ _ (fun x => hm x k) r (h k hk)⟩
  have one : ∀ x ∈ xs, Ev (fun k => p (k + 1) x) (q x) := fun x hx => by
    obtain ⟨K, h⟩ := hp x hx
    exact ⟨K, fun k hk => h (k + 1) (by omega)⟩
  intro d
  induction d with
  | zero =>
    intro i hi
    refine ⟨-1, Ev.step (f := fun _ => some (-1)) (fun k => ?_) (Ev.now _), ?_⟩
    · simp only [idxG.l0]
      rw [if_neg (by omega)]
    · rw [List.drop_eq_nil_of_le (by omega)]; rfl
  | succ d ih =>
    intro i hi
    have hlt : i < xs.length := by omega
    obtain ⟨r, hr, hd⟩ := ih (i + 1) (by omega)
    have hx := one _ (List.getElem_mem hlt)
    rw [List.drop_eq_getElem_cons hlt, List.any_cons]
    have step : ∀ {r : Int}, Ev (fun k => (p (k + 1) xs[i]).bind fun t => if t = true then some (i : Int) else idxG.l0 k (p (k + 1)) xs ((i + 1 : Nat) : Int)) r → Ev (fun k => idxG.l0 k (p k) xs (i : Int)) r := fun h => by
      refine Ev.step (g := fun k => idxG.l0 k (p k) xs (i : Int)) (fun k => ?_) h
      simp only [idxG.l0]
      rw [if_pos (by omega), if_pos (by omega), rdT_impl xs i hlt, wr (by omega) (by omega)]
      rfl
    cases hq : q xs[i] with
    | true =>
      refine ⟨i, step (Ev.bind hx ?_), ?_⟩
      · simp only [hq, if_true]; exact Ev.now _
      · rw [Bool.true_or]; exact decide_eq_true (by omega)
    | false =>
      refine ⟨r, step (Ev.bind hx ?_), ?_⟩
      · simp only [hq]; exact up hr
      · rw [Bool.false_or]; exact hd
theorem hasG_ev (p : Nat → S29 → Option Bool) (q : S29 → Bool) (xs : List S29) (hlen : xs.length ≤ 4611686018427387904) (hp : ∀ x ∈ xs, Ev (fun k => p k x) (q x)) (hm : ∀ x k, LeO (p k x) (p (k + 1) x)) : Ev (fun k => hasG.f k (p k) xs) (xs.any q) := by
  obtain ⟨r, hr, hd⟩ := idxG_ev p q xs hlen hp hm xs.length 0 (by omega)
  rw [List.drop_zero] at hd
  rw [← hd]
  exact Ev.bind hr (Ev.now _)
theorem not_any_allG {α : Type} (l : List α) (q : α → Bool) : (!(l.any fun a => !q a)) = l.all q := by
  induction l with
  | nil => rfl
  | cons a l ih => rw [List.any_cons, List.all_cons, ← ih, Bool.not_or, Bool.not_not]
mutual
/-- How deep a gate is. -/
def dT : S29 → Nat
  | ⟨_, _, l⟩ => 1 + dL l
def dL : List S29 → Nat
  | [] => 0
  | x :: l => max (dT x) (dL l)
end
mutual
/-- Has a gate the form of one? -/
def fT (h : Int) : S29 → Bool
  | ⟨a, b, l⟩ => if l.isEmpty then (decide (b = 0) && decide (0 ≤ a ∧ a ≤ h - 1)) else (fL h l && (decide (a = -1) && decide (1 ≤ b ∧ b ≤ (l.length : Int))))
def fL (h : Int) : List S29 → Bool
  | [] => true
  | x :: l => fT h x && fL h l
end
theorem dT_parts (x : S29) : dT x = 1 + dL x.f2 := by cases x; simp only [dT]
theorem fT_parts (h : Int) (x : S29) : fT h x = if x.f2.isEmpty then (decide (x.f1 = 0) && decide (0 ≤ x.f0 ∧ x.f0 ≤ h - 1)) else (fL h x.f2 && (decide (x.f0 = -1) && decide (1 ≤ x.f1 ∧ x.f1 ≤ (x.f2.length : Int)))) := by cases x; simp only [fT]
theorem fL_all (h : Int) : ∀ l : List S29, fL h l = l.all (fT h)
  | [] => by simp only [fL, List.all_nil]
  | x :: l => by simp only [fL, List.all_cons, fL_all h l]
theorem dL_le : ∀ (l : List S29) (n : Nat), decide (dL l ≤ n) = l.all fun x => decide (dT x ≤ n)
  | [], n => by simp [dL]
  | x :: l, n => by
    have e : dL (x :: l) = max (dT x) (dL l) := by simp only [dL]
    rw [List.all_cons, ← dL_le l n]
    by_cases h1 : dT x ≤ n
    · by_cases h2 : dL l ≤ n
      · rw [decide_eq_true h1, decide_eq_true h2, decide_eq_true (show dL (x :: l) ≤ n by omega)]; rfl
      · rw [decide_eq_false h2, Bool.and_false, decide_eq_false (show ¬ dL (x :: l) ≤ n by omega)]
    · rw [decide_eq_false h1, Bool.false_and, decide_eq_false (show ¬ dL (x :: l) ≤ n by omega)]
theorem all_and {α : Type} (p q : α → Bool) (l : List α) : (l.all fun y => p y && q y) = (l.all p && l.all q) := by
  induction l with
  | nil => rfl
  | cons x l ih =>
    rw [List.all_cons, List.all_cons, List.all_cons, ih]
    cases p x <;> cases q x <;> simp
theorem dL_nil : dL [] = 0 := by simp only [dL]
theorem dL_cons (x : S29) (l : List S29) : dL (x :: l) = max (dT x) (dL l) := by simp only [dL]
theorem dL_mL : ∀ n, ∀ l : List S29, mL l ≤ n → dL l ≤ mL l := by
  intro n
  induction n with
  | zero =>
    intro l h
    cases l with
    | nil => rw [dL_nil]; exact Nat.zero_le _
    | cons x l => simp only [mL] at h; omega
  | succ n ih =>
    intro l h
    induction l with
    | nil => rw [dL_nil]; exact Nat.zero_le _
    | cons x l ihl =>
      rw [dL_cons, dT_parts]
      simp only [mL] at h ⊢
      have hk := mT_kids x
      have h1 := ih x.f2 (by omega)
      have h2 := ihl (by omega)
      exact Nat.max_le.mpr ⟨by omega, by omega⟩
/-- What is left: exact where it suffices, and less than 0 elsewhere. -/
theorem spec_l02Left_ev : ∀ (n : Nat) (x : S29), mT x ≤ n → n ≤ 1048576 → ∀ left : Int, 0 ≤ left → left ≤ 1048576 → ∃ t : Int, Ev (fun k => spec_l02Left.f k x left) t ∧ (((1 + mT x : Nat) : Int) ≤ left → t = left - ((1 + mT x : Nat) : Int)) ∧ (¬ ((1 + mT x : Nat) : Int) ≤ left → t < 0) ∧ -1 ≤ t := by
  intro n
  induction n using Nat.strongRecOn with
  | _ n ih =>
    intro x hn hm left h0 h1
    have hk := mT_kids x
    have hr := rT_mL x.f2
    have hl := mL_len x.f2
    have key : ∀ d i : Nat, i + d = x.f2.length → ∀ b : Int, -1 ≤ b → b ≤ 1048576 → ∃ t : Int, Ev (fun k => spec_l02Left.l0 k x b (i : Int)) t ∧ ((rT (x.f2.drop i) : Int) ≤ b → t = b - rT (x.f2.drop i)) ∧ (¬ (rT (x.f2.drop i) : Int) ≤ b → t < 0) ∧ -1 ≤ t := by
      intro d
      induction d with
      | zero =>
        intro i hi b hb0 hb1
        rw [List.drop_eq_nil_of_le (by omega), show rT [] = 0 from rfl]
        refine ⟨b, Ev.step (f := fun _ => some b) (fun k => ?_) (Ev.now _), fun _ => by omega, fun _ => by omega, hb0⟩
        simp only [spec_l02Left.l0]
        rw [if_neg (by omega)]
      | succ d ihd =>
        intro i hi b hb0 hb1
        have hlt : i < x.f2.length := by omega
        have hx := mL_mem (List.getElem_mem hlt)
        rw [List.drop_eq_getElem_cons hlt, show rT (x.f2[i] :: x.f2.drop (i + 1)) = (1 + mT x.f2[i]) + rT (x.f2.drop (i + 1)) from rfl]
        by_cases hb : b ≥ 0
        · obtain ⟨t, ht, h2, h3, h4⟩ := ih (mT x.f2[i]) (by omega) x.f2[i] (Nat.le_refl _) (by omega) b hb hb1
          have hle : t ≤ 1048576 := by
            by_cases q : ((1 + mT x.f2[i] : Nat) : Int) ≤ b
            · have := h2 q; omega
            · have := h3 q; omega
          obtain ⟨u, hu, g2, g3, g4⟩ := ihd (i + 1) (by omega) t h4 hle
          refine ⟨u, Ev.step (f := fun k => (spec_l02Left.f k x.f2[i] b).bind fun t => spec_l02Left.l0 k x t ((i + 1 : Nat) : Int)) (fun k => ?_) (Ev.bind ht hu), fun q => ?_, fun q => ?_, g4⟩
          · simp only [spec_l02Left.l0]
            rw [if_pos (by omega), if_pos hb, if_pos (by omega), rdT_impl _ i hlt, wr (x := (i : Int) + 1) (by omega) (by omega)]
            rfl
          · have e := h2 (by omega)
            have := g2 (by omega)
            omega
          · by_cases q2 : ((1 + mT x.f2[i] : Nat) : Int) ≤ b
            · have e := h2 q2
              exact g3 (by omega)
            · have e := h3 q2
              exact g3 (by omega)
        · refine ⟨b, Ev.step (f := fun _ => some b) (fun k => ?_) (Ev.now _), fun q => by omega, fun q => by omega, hb0⟩
          simp only [spec_l02Left.l0]
          rw [if_pos (by omega), if_neg hb]
    obtain ⟨t, ht, h2, h3, h4⟩ := key x.f2.length 0 (by omega) (left - 1) (by omega) (by omega)
    rw [List.drop_zero, hr, ← hk] at h2 h3
    refine ⟨t, Ev.step (f := fun k => spec_l02Left.l0 k x (left - 1) 0) (fun k => by simp only [spec_l02Left.f]; rw [wr (by omega) (by omega)]) ht, fun q => ?_, fun q => ?_, h4⟩
    · have := h2 (by omega); omega
    · exact h3 (by omega)
theorem max_eq (a b : Int) : spec_l00Max.f a b = some (max a b) := by
  unfold spec_l00Max.f
  by_cases h : a > b
  · rw [if_pos h]; exact congrArg some (by omega)
  · rw [if_neg h]; exact congrArg some (by omega)
theorem spec_l02Depth_ev : ∀ (n : Nat) (x : S29), mT x ≤ n → n ≤ 1048576 → Ev (fun k => spec_l02Depth.f k x) (dT x : Int) := by
  intro n
  induction n using Nat.strongRecOn with
  | _ n ih =>
    intro x hn hm
    have hk := mT_kids x
    have hl := mL_len x.f2
    have hd := dL_mL _ x.f2 (Nat.le_refl _)
    have key : ∀ d i : Nat, i + d = x.f2.length → ∀ b : Nat, b ≤ 1048577 → dL (x.f2.drop i) ≤ 1048577 → Ev (fun k => spec_l02Depth.l0 k x (b : Int) (i : Int)) ((1 + max b (dL (x.f2.drop i)) : Nat) : Int) := by
      intro d
      induction d with
      | zero =>
        intro i hi b hb _
        rw [List.drop_eq_nil_of_le (by omega), dL_nil]
        refine Ev.step (f := fun _ => some ((1 + max b 0 : Nat) : Int)) (fun k => ?_) (Ev.now _)
        simp only [spec_l02Depth.l0]
        rw [if_neg (by omega), wr (by omega) (by omega)]
        exact congrArg some (by omega)
      | succ d ihd =>
        intro i hi b hb hdl
        have hlt : i < x.f2.length := by omega
        have hx := mL_mem (List.getElem_mem hlt)
        rw [List.drop_eq_getElem_cons hlt, dL_cons] at hdl ⊢
        have hn2 := ihd (i + 1) (by omega) (max b (dT x.f2[i])) (by omega) (by omega)
        refine Ev.step (f := fun k => (spec_l02Depth.f k x.f2[i]).bind fun t => spec_l02Depth.l0 k x (max (b : Int) t) ((i + 1 : Nat) : Int)) (fun k => ?_) (Ev.bind (ih (mT x.f2[i]) (by omega) _ (Nat.le_refl _) (by omega)) ?_)
        · simp only [spec_l02Depth.l0, max_eq, Option.bind_some]
          rw [if_pos (by omega), if_pos (by omega), rdT_impl _ i hlt, wr (x := (i : Int) + 1) (by omega) (by omega)]
          rfl
        · rw [show max (b : Int) ((dT x.f2[i] : Nat) : Int) = ((max b (dT x.f2[i]) : Nat) : Int) by omega, show max b (max (dT x.f2[i]) (dL (x.f2.drop (i + 1)))) = max (max b (dT x.f2[i])) (dL (x.f2.drop (i + 1))) by omega]
          exact hn2
    have h := key x.f2.length 0 (by omega) 0 (by omega) (by rw [List.drop_zero]; omega)
    rw [List.drop_zero, Nat.zero_max, ← dT_parts] at h
    exact Ev.step (f := fun k => spec_l02Depth.l0 k x 0 0) (fun k => by simp only [spec_l02Depth.f]) h
theorem spec_l02Form_ev (h : Int) (hh : 1 ≤ h ∧ h ≤ 7) : ∀ (n : Nat) (x : S29), mT x ≤ n → n ≤ 1048576 → Ev (fun k => spec_l02Form.f k h x) (fT h x) := by
  intro n
  induction n using Nat.strongRecOn with
  | _ n ih =>
    intro x hn hm
    have hk := mT_kids x
    have hl := mL_len x.f2
    rw [fT_parts]
    by_cases c1 : (x.f2.length : Int) = 0
    · have e0 : x.f2.isEmpty = true := by
        rw [List.isEmpty_iff]
        exact List.eq_nil_of_length_eq_zero (by omega)
      rw [if_pos e0]
      refine Ev.step (f := fun _ => some (decide (x.f1 = 0) && decide (0 ≤ x.f0 ∧ x.f0 ≤ h - 1))) (fun k => ?_) (Ev.now _)
      simp only [spec_l02Form.f]
      rw [if_pos c1, wr (by omega) (by omega)]
      by_cases c2 : x.f1 = 0
      · rw [if_pos c2, spec_l00In_eq, decide_eq_true c2, Bool.true_and]
      · rw [if_neg c2, decide_eq_false c2, Bool.false_and]
    · have e0 : ¬ x.f2.isEmpty = true := by
        rw [List.isEmpty_iff]
        intro e
        rw [e] at c1
        exact c1 rfl
      rw [if_neg e0]
      have key : ∀ d i : Nat, i + d = x.f2.length → Ev (fun k => spec_l02Form.l0 k h x (i : Int)) (fL h (x.f2.drop i) && (decide (x.f0 = -1) && decide (1 ≤ x.f1 ∧ x.f1 ≤ (x.f2.length : Int)))) := by
        intro d
        induction d with
        | zero =>
          intro i hi
          rw [List.drop_eq_nil_of_le (by omega), show fL h [] = true from by simp only [fL], Bool.true_and]
          refine Ev.step (f := fun _ => some (decide (x.f0 = -1) && decide (1 ≤ x.f1 ∧ x.f1 ≤ (x.f2.length : Int)))) (fun k => ?_) (Ev.now _)
          simp only [spec_l02Form.l0]
          rw [if_neg (by omega)]
          by_cases c2 : x.f0 = -1
          · rw [if_pos c2, spec_l00In_eq, decide_eq_true c2, Bool.true_and]
          · rw [if_neg c2, decide_eq_false c2, Bool.false_and]
        | succ d ihd =>
          intro i hi
          have hlt : i < x.f2.length := by omega
          have hx := mL_mem (List.getElem_mem hlt)
          rw [List.drop_eq_getElem_cons hlt, show fL h (x.f2[i] :: x.f2.drop (i + 1)) = (fT h x.f2[i] && fL h (x.f2.drop (i + 1))) from by simp only [fL]]
          refine Ev.step (f := fun k => (spec_l02Form.f k h x.f2[i]).bind fun t => if t = true then spec_l02Form.l0 k h x ((i + 1 : Nat) : Int) else some false) (fun k => ?_) (Ev.bind (ih (mT x.f2[i]) (by omega) _ (Nat.le_refl _) (by omega)) ?_)
          · simp only [spec_l02Form.l0]
            rw [if_pos (by omega), if_pos (by omega), rdT_impl _ i hlt, wr (x := (i : Int) + 1) (by omega) (by omega)]
            rfl
          · cases fT h x.f2[i] with
            | true => rw [Bool.true_and]; exact ihd (i + 1) (by omega)
            | false => exact Ev.now _
      have hq := key x.f2.length 0 (by omega)
      rw [List.drop_zero] at hq
      exact Ev.step (f := fun k => spec_l02Form.l0 k h x 0) (fun k => by simp only [spec_l02Form.f]; rw [if_neg c1]) hq
theorem isFormed_ev (h : Int) (hh : 1 ≤ h ∧ h ≤ 7) : ∀ (d : Nat), d ≤ 1000 → ∀ x : S29, mT x ≤ 1048576 → Ev (fun k => impl_Gate_isFormed.f k x.f0 x.f1 x.f2 h (d : Int)) (decide (dT x ≤ d) && fT h x) := by
  intro d
  induction d with
  | zero =>
    intro hd x hm
    rw [decide_eq_false (by rw [dT_parts]; omega), Bool.false_and]
    exact Ev.step (f := fun _ => some false) (fun k => by simp only [impl_Gate_isFormed.f]; rw [if_pos (by omega)]) (Ev.now _)
  | succ d ih =>
    intro hd x hm
    have hk := mT_kids x
    have hl := mL_len x.f2
    rw [fT_parts]
    by_cases c1 : (x.f2.length : Int) = 0
    · have e1 : x.f2 = [] := List.eq_nil_of_length_eq_zero (by omega)
      have e0 : x.f2.isEmpty = true := by rw [List.isEmpty_iff]; exact e1
      rw [if_pos e0, decide_eq_true (by rw [dT_parts, e1, dL_nil]; omega), Bool.true_and]
      refine Ev.step (f := fun _ => some (decide (x.f1 = 0) && decide (0 ≤ x.f0 ∧ x.f0 ≤ h - 1))) (fun k => ?_) (Ev.now _)
      simp only [impl_Gate_isFormed.f]
      rw [if_neg (by omega), if_pos c1, impl_within_eq, wr (by omega) (by omega)]
      simp only [Option.bind_some]
      by_cases c2 : x.f1 = 0
      · rw [decide_eq_true c2, Bool.true_and, beq_iff_eq.mpr c2]
        cases decide (0 ≤ x.f0 ∧ x.f0 ≤ h - 1) <;> rfl
      · rw [decide_eq_false c2, Bool.false_and, beq_eq_false_iff_ne.mpr c2]
        cases decide (0 ≤ x.f0 ∧ x.f0 ≤ h - 1) <;> rfl
    · have e0 : ¬ x.f2.isEmpty = true := by
        rw [List.isEmpty_iff]
        intro e
        rw [e] at c1
        exact c1 rfl
      rw [if_neg e0, show decide (dT x ≤ d + 1) = decide (dL x.f2 ≤ d) from by rw [dT_parts]; by_cases q : dL x.f2 ≤ d; rw [decide_eq_true q, decide_eq_true (by omega)]; rw [decide_eq_false q, decide_eq_false (by omega)]]
      by_cases c2 : x.f0 = -1
      · cases hw : decide (1 ≤ x.f1 ∧ x.f1 ≤ (x.f2.length : Int)) with
        | false =>
          rw [Bool.and_false, Bool.and_false, Bool.and_false]
          refine Ev.step (f := fun _ => some false) (fun k => ?_) (Ev.now _)
          simp only [impl_Gate_isFormed.f]
          rw [if_neg (by omega), if_neg c1, if_pos c2, impl_within_eq, hw]
          rfl
        | true =>
          rw [decide_eq_true c2, Bool.true_and, Bool.and_true, dL_le, fL_all]
          have hb := hasG_ev (fun k y => (impl_Gate_isFormed.f k y.f0 y.f1 y.f2 h (d : Int)).bind fun t => some (!t)) (fun y => !(decide (dT y ≤ d) && fT h y)) x.f2 (by omega) (fun y hy => Ev.bind (ih (by omega) y (by have := mL_mem hy; omega)) (Ev.now _)) (fun y k => LeO.bind (impl_Gate_isFormed.mono_l k _ _ _ _ _) (fun _ => LeO.refl _))
          refine Ev.step (f := fun k => (hasG.f k (fun y => (impl_Gate_isFormed.f k y.f0 y.f1 y.f2 h (d : Int)).bind fun t => some (!t)) x.f2).bind fun v => some (!v)) (fun k => ?_) (Ev.bind hb ?_)
          · simp only [impl_Gate_isFormed.f]
            rw [if_neg (by omega), if_neg c1, if_pos c2, impl_within_eq, hw, wr (by omega) (by omega), show ((d + 1 : Nat) : Int) - 1 = (d : Int) by omega]
            rfl
          · rw [not_any_allG, show (x.f2.all fun y => decide (dT y ≤ d) && fT h y) = (x.f2.all (fun x => decide (dT x ≤ d)) && x.f2.all (fT h)) from all_and _ _ _]
            exact Ev.now _
      · rw [decide_eq_false c2, Bool.false_and, Bool.and_false, Bool.and_false]
        exact Ev.step (f := fun _ => some false) (fun k => by simp only [impl_Gate_isFormed.f]; rw [if_neg (by omega), if_neg c1, if_neg c2]) (Ev.now _)
/-- Is a gate valid? -/
def okT (h : Int) (x : S29) : Bool := decide (1 ≤ h ∧ h ≤ 7) && (decide (1 + mT x ≤ 60) && (decide (dT x ≤ 12) && fT h x))
theorem spec_l02Ok_ev (h : Int) (x : S29) (hx : mT x ≤ 1048576) : Ev (fun k => spec_l02Ok.f k h x) (okT h x) := by
  unfold spec_l02Ok.f okT
  rw [spec_l00In_eq]
  simp only [Option.bind_some]
  cases h1 : decide (1 ≤ h ∧ h ≤ 7) with
  | false => exact Ev.now _
  | true =>
    have hh := of_decide_eq_true h1
    simp only [if_true, Bool.true_and]
    obtain ⟨t, ht, g1, g2, _⟩ := spec_l02Left_ev _ x (Nat.le_refl _) hx 60 (by omega) (by omega)
    refine Ev.bind ht ?_
    by_cases c1 : 1 + mT x ≤ 60
    · have := g1 (by omega)
      simp only [if_pos (show t ≥ 0 by omega), decide_eq_true c1, Bool.true_and]
      refine Ev.bind (spec_l02Depth_ev _ x (Nat.le_refl _) hx) ?_
      by_cases c2 : dT x ≤ 12
      · simp only [if_pos (show (dT x : Int) ≤ 12 by omega), decide_eq_true c2, Bool.true_and]
        exact spec_l02Form_ev h hh _ x (Nat.le_refl _) hx
      · simp only [if_neg (show ¬ (dT x : Int) ≤ 12 by omega), decide_eq_false c2, Bool.false_and]
        exact Ev.now _
    · have := g2 (by omega)
      simp only [if_neg (show ¬ t ≥ 0 by omega), decide_eq_false c1, Bool.false_and]
      exact Ev.now _
theorem impl_ValidGate_ev (h a b : Int) (l : List S29) (hm : mL l ≤ 1048576) : Ev (fun k => impl_ValidGate.f k h a b l) (okT h ⟨a, b, l⟩) := by
  have hx : mT (⟨a, b, l⟩ : S29) ≤ 1048576 := by rw [mT_kids]; exact hm
  have hk : mT (⟨a, b, l⟩ : S29) = mL l := by rw [mT_kids]
  unfold impl_ValidGate.f okT
  rw [impl_within_eq]
  simp only [Option.bind_some]
  cases h1 : decide (1 ≤ h ∧ h ≤ 7) with
  | false => exact Ev.now _
  | true =>
    have hh := of_decide_eq_true h1
    simp only [if_true, Bool.true_and]
    refine Ev.bind (isFormed_ev h hh 12 (by omega) ⟨a, b, l⟩ hx) ?_
    cases decide (dT (⟨a, b, l⟩ : S29) ≤ 12) && fT h ⟨a, b, l⟩ with
    | false => rw [Bool.and_false]; exact Ev.now _
    | true =>
      rw [Bool.and_true, hk]
      simp only [if_true]
      refine Ev.bind (impl_GateSize_ev _ a b l (Nat.le_refl _) hm) ?_
      rw [show decide (((1 + mL l : Nat) : Int) ≤ 60) = decide (1 + mL l ≤ 60) from by by_cases q : 1 + mL l ≤ 60; rw [decide_eq_true q, decide_eq_true (by omega)]; rw [decide_eq_false q, decide_eq_false (by omega)]]
      exact Ev.now _

end Go.Proofs.Ytjnobnmjhpmpfaa.P

namespace Go.Proofs.Ytjnobnmjhpmpfaa.P
open Go.RowKit Go.Proofs.YtjnobnmjhpmpfaaW.PrintWords Go.Proofs.YtjnobnmjhpmpfaaW.PrintLast Go.Proofs.YtjnobnmjhpmpfaaW.PrintMore
attribute [local go_sem] max2_int min2_int max_two min_two max_three min_three max_four min_four
set_option linter.unusedVariables false
set_option linter.unusedSimpArgs false

end Go.Proofs.Ytjnobnmjhpmpfaa.P

namespace Go.Proofs.Ytjnobnmjhpmpfaa.P
open Go.RowKit Go.Proofs.YtjnobnmjhpmpfaaW.PrintWords Go.Proofs.YtjnobnmjhpmpfaaW.PrintLast Go.Proofs.YtjnobnmjhpmpfaaW.PrintMore
attribute [local go_sem] max2_int min2_int max_two min_two max_three min_three max_four min_four
set_option linter.unusedVariables false
set_option linter.unusedSimpArgs false

end Go.Proofs.Ytjnobnmjhpmpfaa.P

namespace Go.Proofs.Ytjnobnmjhpmpfaa.P
open Go.RowKit Go.Proofs.YtjnobnmjhpmpfaaW.PrintWords Go.Proofs.YtjnobnmjhpmpfaaW.PrintLast Go.Proofs.YtjnobnmjhpmpfaaW.PrintMore
attribute [local go_sem] max2_int min2_int max_two min_two max_three min_three max_four min_four
set_option linter.unusedVariables false
set_option linter.unusedSimpArgs false

end Go.Proofs.Ytjnobnmjhpmpfaa.P

namespace Go.Proofs.Ytjnobnmjhpmpfaa.P
open Go.RowKit Go.Proofs.YtjnobnmjhpmpfaaW.PrintWords Go.Proofs.YtjnobnmjhpmpfaaW.PrintLast Go.Proofs.YtjnobnmjhpmpfaaW.PrintMore
attribute [local go_sem] max2_int min2_int max_two min_two max_three min_three max_four min_four
set_option linter.unusedVariables false
set_option linter.unusedSimpArgs false

end Go.Proofs.Ytjnobnmjhpmpfaa.P

namespace Go.Proofs.Ytjnobnmjhpmpfaa.P
open Go.RowKit Go.Proofs.YtjnobnmjhpmpfaaW.PrintWords Go.Proofs.YtjnobnmjhpmpfaaW.PrintLast Go.Proofs.YtjnobnmjhpmpfaaW.PrintMore
attribute [local go_sem] max2_int min2_int max_two min_two max_three min_three max_four min_four
set_option linter.unusedVariables false
set_option linter.unusedSimpArgs false

def lfs (g : List Int) : List S29 := g.map fun h => ⟨h, 0, []⟩
theorem lfs_snoc (pre : List Int) (a : Int) : lfs (pre ++ [a]) = lfs pre ++ [⟨a, 0, []⟩] := by simp [lfs]
theorem lfs_len (g : List Int) : (lfs g).length = g.length := by simp [lfs]
theorem rd_midI (pre r : List Int) (a : Int) : rd (pre ++ a :: r) (pre.length : Int) = a := by simp [rd]
theorem mL_lfs : ∀ g : List Int, mL (lfs g) = g.length
  | [] => by simp [lfs, mL]
  | a :: g => by
    show mL ((⟨a, 0, []⟩ : S29) :: lfs g) = _
    rw [mL_cons, mL_lfs g, mT_kids, List.length_cons]
    simp only [mL]
    omega
theorem impl_leaves_ev (l : List Int) (hl : l.length ≤ 1048576) : Ev (fun k => impl_leaves.f k l) (lfs l) := by
  have key : ∀ (r pre : List Int), pre ++ r = l → Ev (fun k => impl_leaves.l0 k (lfs pre) l (l.length : Int) (pre.length : Int)) (lfs l) := by
    intro r
    induction r with
    | nil =>
      intro pre hp
      rw [List.append_nil] at hp
      subst hp
      refine Ev.step (f := fun _ => some (lfs pre)) (fun k => ?_) (Ev.now _)
      simp only [impl_leaves.l0]
      rw [if_neg (by omega)]
    | cons a r ihr =>
      intro pre hp
      have hll : l.length = pre.length + (r.length + 1) := by rw [← hp, List.length_append, List.length_cons]
      have e3 := ihr (pre ++ [a]) (by rw [← hp, List.append_assoc]; rfl)
      rw [List.length_append, List.length_singleton, lfs_snoc] at e3
      refine Ev.step (f := fun k => impl_leaves.l0 k (lfs pre ++ [⟨a, 0, []⟩]) l (l.length : Int) ((pre.length + 1 : Nat) : Int)) (fun k => ?_) e3
      simp only [impl_leaves.l0]
      rw [if_pos (by omega), if_pos (by omega), if_pos (by omega), if_pos (by rw [lfs_len]; omega), show rd l (pre.length : Int) = a by rw [← hp]; exact rd_midI pre r a, wr (x := (pre.length : Int) + 1) (by omega) (by omega)]
      rfl
  exact key l [] rfl
def endB (h : Int) (kids : List S29) : Int × Int × List S29 × Int := if okT h ⟨-1, 1, kids⟩ = true then (-1, 1, kids, 0) else (0, 0, [], 3)
theorem impl_orLimit_ev (h : Int) (kids : List S29) (hm : mL kids ≤ 1048576) : Ev (fun k => impl_orLimit.f k h (-1) 1 kids) (endB h kids) := by
  unfold impl_orLimit.f endB
  refine Ev.bind (impl_ValidGate_ev h (-1) 1 kids hm) ?_
  by_cases e : okT h ⟨-1, 1, kids⟩ = true
  · simp only [if_pos e]; exact Ev.now _
  · simp only [if_neg e]; exact Ev.now _
theorem spec_l02Told_ev (h : Int) (kids : List S29) (hm : mL kids ≤ 1048576) : Ev (fun k => spec_l02Told.f k h (-1) 1 kids) (endB h kids) := by
  unfold spec_l02Told.f endB
  refine Ev.bind (spec_l02Ok_ev h ⟨-1, 1, kids⟩ (by rw [mT_kids]; exact hm)) ?_
  by_cases e : okT h ⟨-1, 1, kids⟩ = true
  · simp only [if_pos e]; exact Ev.now _
  · simp only [if_neg e]; exact Ev.now _
theorem endB_size (h : Int) (kids : List S29) (hm : mL kids ≤ 1048576) : mL (endB h kids).2.2.1 ≤ 1048576 := by
  unfold endB
  split
  · exact hm
  · simp [mL]
end Go.Proofs.Ytjnobnmjhpmpfaa.P

namespace Go.Proofs.Ytjnobnmjhpmpfaa.P
open Go.RowKit Go.Proofs.YtjnobnmjhpmpfaaW.PrintWords Go.Proofs.YtjnobnmjhpmpfaaW.PrintLast Go.Proofs.YtjnobnmjhpmpfaaW.PrintMore
attribute [local go_sem] max2_int min2_int max_two min_two max_three min_three max_four min_four
set_option linter.unusedVariables false
set_option linter.unusedSimpArgs false

/-- The holders of a set. -/
def membersN (x : Nat) : List Int := ((List.range 7).filter fun h => (x >>> h) &&& 1 == 1).map fun h : Nat => (h : Int)
theorem impl_group_all : ∀ x : Fin 128, impl_crowd_group.f 12 (x.val : Int) = some (membersN x.val) := by decide +kernel
theorem impl_crowd_group_ev {x : Nat} (hx : x < 128) : Ev (fun k => impl_crowd_group.f k (x : Int)) (membersN x) := Ev.of (impl_crowd_group.mono _) (k := 12) (impl_group_all ⟨x, hx⟩)
theorem allU0 : ∀ h : Fin 8, IntKind.u64.wrap ((shl .u64 1 (h.val : Int)) - 1) = ((2 ^ h.val - 1 : Nat) : Int) := by decide +kernel
theorem all_lt0 : ∀ h : Fin 8, 2 ^ h.val - 1 < 128 := by decide
end Go.Proofs.Ytjnobnmjhpmpfaa.P

namespace Go.Proofs.Ytjnobnmjhpmpfaa.P
open Go.RowKit Go.Proofs.YtjnobnmjhpmpfaaW.PrintWords Go.Proofs.YtjnobnmjhpmpfaaW.PrintLast Go.Proofs.YtjnobnmjhpmpfaaW.PrintMore
attribute [local go_sem] max2_int min2_int max_two min_two max_three min_three max_four min_four
set_option linter.unusedVariables false
set_option linter.unusedSimpArgs false

def levT : Int → List Int → List Int → Option Int
  | h, n :: a, m :: b => if (1 ≤ n ∧ n ≤ 7 - h) ∧ (1 ≤ m ∧ m ≤ h + n) then levT (h + n) a b else none
  | h, _, _ => some h
def upTo (h : Int) : List Int := (List.range h.toNat).map fun i : Nat => (i : Int)
def lvs (h : Int) : List S29 := lfs (upTo h)
def levK : Int → List Int → List Int → List S29
  | h, n :: a, m :: b => ⟨-1, m, lvs (h + n)⟩ :: levK (h + n) a b
  | _, _, _ => []
theorem upTo_len {h : Int} (h0 : 0 ≤ h) : ((upTo h).length : Int) = h := by simp [upTo]; omega
theorem lvs_len {h : Int} (h0 : 0 ≤ h) : ((lvs h).length : Int) = h := by rw [lvs, lfs_len]; exact upTo_len h0
theorem lvs_snoc {h : Int} (h0 : 0 ≤ h) : lvs (h + 1) = lvs h ++ [⟨h, 0, []⟩] := by
  have : upTo (h + 1) = upTo h ++ [h] := by
    unfold upTo
    rw [show (h + 1).toNat = h.toNat + 1 by omega, List.range_succ, List.map_append]
    simp
    omega
  rw [lvs, this, lfs_snoc]
  rfl
theorem members_all : ∀ h : Fin 8, membersN (2 ^ h.val - 1) = upTo (h.val : Int) := by decide +kernel
theorem everybody_ev {h : Int} (h0 : 0 ≤ h) (h7 : h ≤ 7) : impl_everybody.f h = some ((2 ^ h.toNat - 1 : Nat) : Int) := by
  have := allU0 ⟨h.toNat, by omega⟩
  rw [show ((⟨h.toNat, by omega⟩ : Fin 8).val : Int) = h from by simp; omega] at this
  unfold impl_everybody.f
  rw [if_pos h0, this]
theorem crowd_all {h : Int} (h0 : 0 ≤ h) (h7 : h ≤ 7) : Ev (fun k => impl_crowd_group.f k ((2 ^ h.toNat - 1 : Nat) : Int)) (upTo h) := by
  have h1 := members_all ⟨h.toNat, by omega⟩
  rw [show ((⟨h.toNat, by omega⟩ : Fin 8).val : Int) = h from by simp; omega] at h1
  rw [← h1]
  exact impl_crowd_group_ev (all_lt0 ⟨h.toNat, by omega⟩)
theorem rd_pre (pre r : List Int) (a : Int) : rd (pre ++ a :: r) (pre.length : Int) = a := by simp [rd]
theorem levI_ev (l0 l1 : List Int) (hl : l0.length ≤ 1048576) : ∀ (r0 r1 p0 p1 : List Int) (h : Int) (out : List S29), p0 ++ r0 = l0 → p1 ++ r1 = l1 → p0.length = p1.length → r0.length = r1.length → 0 ≤ h → h ≤ 7 → out.length = p0.length →
    Ev (fun k => levI.l0 k l0 l1 h out (p0.length : Int)) ((levT h r0 r1).map fun t => (t, out ++ levK h r0 r1)) := by
  intro r0
  induction r0 with
  | nil =>
    intro r1 p0 p1 h out e0 e1 hp hr h0 h7 ho
    rw [List.append_nil] at e0
    subst e0
    refine Ev.step (f := fun _ => some (some (h, out))) (fun k => ?_) ?_
    · simp only [levI.l0]
      rw [if_neg (by omega)]
    · simp only [levT, levK, Option.map_some, List.append_nil]
      exact Ev.now _
  | cons n r0 ih =>
    intro r1 p0 p1 h out e0 e1 hp hr h0 h7 ho
    cases r1 with
    | nil => exact absurd hr (by simp)
    | cons m r1 =>
      have hl0 : l0.length = p0.length + (r0.length + 1) := by rw [← e0, List.length_append, List.length_cons]
      have hl1 : l1.length = p1.length + (r1.length + 1) := by rw [← e1, List.length_append, List.length_cons]
      have en : rd l0 (p0.length : Int) = n := by rw [← e0]; exact rd_pre p0 r0 n
      have em : rd l1 (p0.length : Int) = m := by rw [← e1, hp]; exact rd_pre p1 r1 m
      have w7 : wrap64 (7 - h) = 7 - h := wr (by omega) (by omega)
      by_cases c1 : 1 ≤ n ∧ n ≤ 7 - h
      · have wn : wrap64 (h + n) = h + n := wr (by omega) (by omega)
        by_cases c2 : 1 ≤ m ∧ m ≤ h + n
        · simp only [levT, if_pos (And.intro c1 c2), levK]
          have e3 := ih r1 (p0 ++ [n]) (p1 ++ [m]) (h + n) (out ++ [⟨-1, m, lvs (h + n)⟩]) (by rw [← e0, List.append_assoc]; rfl) (by rw [← e1, List.append_assoc]; rfl) (by simp [hp]) (by simpa using hr) (by omega) (by omega) (by simp [ho])
          rw [List.length_append, List.length_singleton, List.append_assoc] at e3
          refine Ev.step (f := fun k => (impl_crowd_group.f k ((2 ^ (h + n).toNat - 1 : Nat) : Int)).bind fun gr => (impl_leaves.f k gr).bind fun ls => levI.l0 k l0 l1 (h + n) (out ++ [⟨-1, m, ls⟩]) ((p0.length + 1 : Nat) : Int)) (fun k => ?_) (Ev.bind (crowd_all (by omega) (by omega)) (Ev.bind (impl_leaves_ev (upTo (h + n)) (by have := upTo_len (h := h + n) (by omega); omega)) e3))
          simp only [levI.l0]
          rw [if_pos (by omega), if_pos (by omega), en, em, w7, impl_within_eq, decide_eq_true c1, wn, impl_within_eq, decide_eq_true c2, everybody_ev (by omega) (by omega), wr (x := (p0.length : Int) + 1) (by omega) (by omega)]
          simp only [Option.bind_some, if_true, if_pos (show (p0.length : Int) < (l1.length : Int) by omega), if_pos (show out.length < 1048576 by omega)]
          rfl
        · simp only [levT, if_neg (fun h_ : (1 ≤ n ∧ n ≤ 7 - h) ∧ (1 ≤ m ∧ m ≤ h + n) => c2 h_.2), Option.map_none]
          refine Ev.step (f := fun _ => some none) (fun k => ?_) (Ev.now _)
          simp only [levI.l0]
          rw [if_pos (by omega), if_pos (by omega), en, em, w7, impl_within_eq, decide_eq_true c1, wn, impl_within_eq, decide_eq_false c2]
          simp only [Option.bind_some, if_true, if_pos (show (p0.length : Int) < (l1.length : Int) by omega)]
          rfl
      · simp only [levT, if_neg (fun h_ : (1 ≤ n ∧ n ≤ 7 - h) ∧ (1 ≤ m ∧ m ≤ h + n) => c1 h_.1), Option.map_none]
        refine Ev.step (f := fun _ => some none) (fun k => ?_) (Ev.now _)
        simp only [levI.l0]
        rw [if_pos (by omega), if_pos (by omega), en, w7, impl_within_eq, decide_eq_false c1]
        rfl
theorem levS0_ev (l0 l1 : List Int) (hl : l0.length ≤ 1048576) : ∀ (r0 r1 p0 p1 : List Int) (h : Int), p0 ++ r0 = l0 → p1 ++ r1 = l1 → p0.length = p1.length → r0.length = r1.length → 0 ≤ h → h ≤ 7 →
    Ev (fun k => levS.l0 k l0 l1 h (p0.length : Int)) (levT h r0 r1) := by
  intro r0
  induction r0 with
  | nil =>
    intro r1 p0 p1 h e0 e1 hp hr h0 h7
    rw [List.append_nil] at e0
    subst e0
    refine Ev.step (f := fun _ => some (some h)) (fun k => ?_) (by simp only [levT]; exact Ev.now _)
    simp only [levS.l0]
    rw [if_neg (by omega)]
  | cons n r0 ih =>
    intro r1 p0 p1 h e0 e1 hp hr h0 h7
    cases r1 with
    | nil => exact absurd hr (by simp)
    | cons m r1 =>
      have hl0 : l0.length = p0.length + (r0.length + 1) := by rw [← e0, List.length_append, List.length_cons]
      have hl1 : l1.length = p1.length + (r1.length + 1) := by rw [← e1, List.length_append, List.length_cons]
      have en : rd l0 (p0.length : Int) = n := by rw [← e0]; exact rd_pre p0 r0 n
      have em : rd l1 (p0.length : Int) = m := by rw [← e1, hp]; exact rd_pre p1 r1 m
      by_cases c0 : 1 ≤ n ∧ n ≤ 7
      · have wn : wrap64 (h + n) = h + n := wr (by omega) (by omega)
        by_cases c1 : 7 < h + n
        · simp only [levT, if_neg (fun h_ : (1 ≤ n ∧ n ≤ 7 - h) ∧ (1 ≤ m ∧ m ≤ h + n) => by omega)]
          refine Ev.step (f := fun _ => some none) (fun k => ?_) (Ev.now _)
          simp only [levS.l0]
          rw [if_pos (by omega), if_pos (by omega), en, spec_l00In_eq, decide_eq_true c0, wn]
          simp only [Option.bind_some, if_true, if_pos c1]
        · by_cases c2 : 1 ≤ m ∧ m ≤ h + n
          · simp only [levT, if_pos (And.intro (show 1 ≤ n ∧ n ≤ 7 - h by omega) c2)]
            have e3 := ih r1 (p0 ++ [n]) (p1 ++ [m]) (h + n) (by rw [← e0, List.append_assoc]; rfl) (by rw [← e1, List.append_assoc]; rfl) (by simp [hp]) (by simpa using hr) (by omega) (by omega)
            rw [List.length_append, List.length_singleton] at e3
            refine Ev.step (f := fun k => levS.l0 k l0 l1 (h + n) ((p0.length + 1 : Nat) : Int)) (fun k => ?_) e3
            simp only [levS.l0]
            rw [if_pos (by omega), if_pos (by omega), en, em, spec_l00In_eq, decide_eq_true c0, wn, wr (x := (p0.length : Int) + 1) (by omega) (by omega)]
            simp only [Option.bind_some, if_true, if_neg c1, if_pos (show (p0.length : Int) < (l1.length : Int) by omega), spec_l00In_eq, decide_eq_true c2]
            rfl
          · simp only [levT, if_neg (fun h_ : (1 ≤ n ∧ n ≤ 7 - h) ∧ (1 ≤ m ∧ m ≤ h + n) => c2 h_.2)]
            refine Ev.step (f := fun _ => some none) (fun k => ?_) (Ev.now _)
            simp only [levS.l0]
            rw [if_pos (by omega), if_pos (by omega), en, em, spec_l00In_eq, decide_eq_true c0, wn]
            simp only [Option.bind_some, if_true, if_neg c1, if_pos (show (p0.length : Int) < (l1.length : Int) by omega), spec_l00In_eq, decide_eq_false c2]
            rfl
      · simp only [levT, if_neg (fun h_ : (1 ≤ n ∧ n ≤ 7 - h) ∧ (1 ≤ m ∧ m ≤ h + n) => by omega)]
        refine Ev.step (f := fun _ => some none) (fun k => ?_) (Ev.now _)
        simp only [levS.l0]
        rw [if_pos (by omega), if_pos (by omega), en, spec_l00In_eq, decide_eq_false c0]
        rfl
theorem levS2_ev (s n : Int) (h0 : 0 ≤ s) (hn : 0 ≤ n) (h7 : s + n ≤ 7) : Ev (fun k => levS.l2 k n (lvs s) 0) (lvs (s + n)) := by
  have key : ∀ (d : Nat) (j : Int), 0 ≤ j → j + (d : Int) = n → Ev (fun k => levS.l2 k n (lvs (s + j)) j) (lvs (s + n)) := by
    intro d
    induction d with
    | zero =>
      intro j hj e
      have : j = n := by omega
      subst this
      refine Ev.step (f := fun _ => some (lvs (s + j))) (fun k => ?_) (Ev.now _)
      simp only [levS.l2]
      rw [if_neg (by omega)]
    | succ d ih =>
      intro j hj e
      have e3 := ih (j + 1) (by omega) (by omega)
      have hl := lvs_len (h := s + j) (by omega)
      refine Ev.step (f := fun k => levS.l2 k n (lvs (s + (j + 1))) (j + 1)) (fun k => ?_) e3
      simp only [levS.l2]
      rw [if_pos (by omega), if_pos (by omega), wr (x := j + 1) (by omega) (by omega), hl, show s + (j + 1) = (s + j) + 1 by omega, lvs_snoc (h := s + j) (by omega)]
  have := key n.toNat 0 (by omega) (by omega)
  rwa [Int.add_zero] at this
theorem levS1_ev (l0 l1 : List Int) (hl : l0.length ≤ 1048576) (t : Int) : ∀ (r0 r1 p0 p1 : List Int) (h : Int) (out : List S29), p0 ++ r0 = l0 → p1 ++ r1 = l1 → p0.length = p1.length → r0.length = r1.length → 0 ≤ h → h ≤ 7 → out.length = p0.length → levT h r0 r1 = some t →
    Ev (fun k => levS.l1 k l0 l1 out (lvs h) (p0.length : Int)) (out ++ levK h r0 r1) := by
  intro r0
  induction r0 with
  | nil =>
    intro r1 p0 p1 h out e0 e1 hp hr h0 h7 ho ht
    rw [List.append_nil] at e0
    subst e0
    refine Ev.step (f := fun _ => some out) (fun k => ?_) (by simp only [levK, List.append_nil]; exact Ev.now _)
    simp only [levS.l1]
    rw [if_neg (by omega)]
  | cons n r0 ih =>
    intro r1 p0 p1 h out e0 e1 hp hr h0 h7 ho ht
    cases r1 with
    | nil => exact absurd hr (by simp)
    | cons m r1 =>
      have hl0 : l0.length = p0.length + (r0.length + 1) := by rw [← e0, List.length_append, List.length_cons]
      have hl1 : l1.length = p1.length + (r1.length + 1) := by rw [← e1, List.length_append, List.length_cons]
      have en : rd l0 (p0.length : Int) = n := by rw [← e0]; exact rd_pre p0 r0 n
      have em : rd l1 (p0.length : Int) = m := by rw [← e1, hp]; exact rd_pre p1 r1 m
      simp only [levT] at ht
      by_cases c1 : (1 ≤ n ∧ n ≤ 7 - h) ∧ (1 ≤ m ∧ m ≤ h + n)
      · rw [if_pos c1] at ht
        have e3 := ih r1 (p0 ++ [n]) (p1 ++ [m]) (h + n) (out ++ [⟨-1, m, lvs (h + n)⟩]) (by rw [← e0, List.append_assoc]; rfl) (by rw [← e1, List.append_assoc]; rfl) (by simp [hp]) (by simpa using hr) (by omega) (by omega) (by simp [ho]) ht
        rw [List.length_append, List.length_singleton, List.append_assoc] at e3
        refine Ev.step (f := fun k => (levS.l2 k n (lvs h) 0).bind fun ls => if ls.length < 1048576 then levS.l1 k l0 l1 (out ++ [⟨-1, m, ls⟩]) ls ((p0.length + 1 : Nat) : Int) else none) (fun k => ?_) (Ev.bind (levS2_ev h n h0 (by omega) (by omega)) ?_)
        · simp only [levS.l1]
          rw [if_pos (by omega), if_pos (by omega), en, em, wr (x := (p0.length : Int) + 1) (by omega) (by omega)]
          simp only [if_pos (show (p0.length : Int) < (l1.length : Int) by omega), if_pos (show out.length < 1048576 by omega)]
          rfl
        · simp only [if_pos (show (lvs (h + n)).length < 1048576 by have := lvs_len (h := h + n) (by omega); omega)]
          exact e3
      · rw [if_neg c1] at ht; exact absurd ht (by simp)
theorem levT_size : ∀ (r0 r1 : List Int) (h t : Int), 0 ≤ h → h ≤ 7 → levT h r0 r1 = some t → h ≤ t ∧ t ≤ 7 ∧ (mL (levK h r0 r1) : Int) ≤ 8 * (t - h)
  | [], _, h, t, h0, h7, e => by
    simp only [levT, Option.some.injEq] at e
    subst e
    simp [levK, mL, h7]
  | _ :: _, [], h, t, h0, h7, e => by
    simp only [levT, Option.some.injEq] at e
    subst e
    simp [levK, mL, h7]
  | n :: r0, m :: r1, h, t, h0, h7, e => by
    simp only [levT] at e
    by_cases c1 : (1 ≤ n ∧ n ≤ 7 - h) ∧ (1 ≤ m ∧ m ≤ h + n)
    · rw [if_pos c1] at e
      obtain ⟨h1, h2, h3⟩ := levT_size r0 r1 (h + n) t (by omega) (by omega) e
      refine ⟨by omega, h2, ?_⟩
      simp only [levK]
      rw [mL_cons, mT_kids]
      have h4 : mL (lvs (h + n)) = (upTo (h + n)).length := mL_lfs _
      have h5 := upTo_len (h := h + n) (by omega)
      show ((1 + mL (lvs (h + n)) + mL (levK (h + n) r0 r1) : Nat) : Int) ≤ _
      rw [h4]
      omega
    · rw [if_neg c1] at e; exact absurd e (by simp)
def levE (l0 l1 : List Int) : Option Int → Int × Int × List S29 × Int
  | none => (0, 0, [], 2)
  | some t => endB t (levK 0 l0 l1)
def LevRes (l0 l1 : List Int) : Int × Int × List S29 × Int := if (l0.length : Int) = 0 then (0, 0, [], 2) else if (l1.length : Int) = (l0.length : Int) then levE l0 l1 (levT 0 l0 l1) else (0, 0, [], 2)
theorem lev_mL {l0 l1 : List Int} {t : Int} (e : levT 0 l0 l1 = some t) : mL (levK 0 l0 l1) ≤ 1048576 := by
  obtain ⟨_, h2, h3⟩ := levT_size l0 l1 0 t (by omega) (by omega) e
  omega
theorem impl_LevelGate_ev (l0 l1 : List Int) (hl : l0.length ≤ 1048576) : Ev (fun k => impl_LevelGate.f k l0 l1) (LevRes l0 l1) := by
  unfold impl_LevelGate.f LevRes
  by_cases c1 : (l0.length : Int) = 0
  · simp only [if_pos c1]; exact Ev.now _
  · simp only [if_neg c1]
    by_cases c2 : (l1.length : Int) = (l0.length : Int)
    · simp only [if_pos c2]
      have e1 := levI_ev l0 l1 hl l0 l1 [] [] 0 [] rfl rfl rfl (by omega) (by omega) (by omega) rfl
      refine Ev.bind e1 ?_
      cases e : levT 0 l0 l1 with
      | none => simp only [Option.map_none, levI.fin, levE]; exact Ev.now _
      | some t => simp only [Option.map_some, levI.fin, levE, List.nil_append]; exact impl_orLimit_ev t _ (lev_mL e)
    · simp only [if_neg c2]; exact Ev.now _
theorem spec_LevelGate_ev (l0 l1 : List Int) (hl : l0.length ≤ 1048576) : Ev (fun k => spec_LevelGate.f k l0 l1) (LevRes l0 l1) := by
  unfold spec_LevelGate.f LevRes
  by_cases c1 : (l0.length : Int) = 0
  · simp only [if_pos c1]; exact Ev.now _
  · simp only [if_neg c1]
    by_cases c2 : (l1.length : Int) = (l0.length : Int)
    · simp only [if_pos c2]
      refine Ev.bind (levS0_ev l0 l1 hl l0 l1 [] [] 0 rfl rfl rfl (by omega) (by omega) (by omega)) ?_
      cases e : levT 0 l0 l1 with
      | none => simp only [levS.fin, levE]; exact Ev.now _
      | some t =>
        simp only [levS.fin, levE]
        have e1 := levS1_ev l0 l1 hl t l0 l1 [] [] 0 [] rfl rfl rfl (by omega) (by omega) (by omega) rfl e
        exact Ev.bind e1 (spec_l02Told_ev t _ (lev_mL e))
    · simp only [if_neg c2]; exact Ev.now _
theorem LevRes_size (l0 l1 : List Int) : mL (LevRes l0 l1).2.2.1 ≤ 1048576 := by
  unfold LevRes
  split
  · simp [mL]
  · split
    · cases e : levT 0 l0 l1 with
      | none => simp [levE, mL]
      | some t => exact endB_size t _ (lev_mL e)
    · simp [mL]

end Go.Proofs.Ytjnobnmjhpmpfaa.P

namespace Go.Proofs.Ytjnobnmjhpmpfaa.P
open Go.RowKit Go.Proofs.YtjnobnmjhpmpfaaW.PrintWords Go.Proofs.YtjnobnmjhpmpfaaW.PrintLast Go.Proofs.YtjnobnmjhpmpfaaW.PrintMore
attribute [local go_sem] max2_int min2_int max_two min_two max_three min_three max_four min_four
set_option linter.unusedVariables false
set_option linter.unusedSimpArgs false

/-! ### laws_heldInt64S: function 29 -/
end Go.Proofs.Ytjnobnmjhpmpfaa.P

namespace Go.Proofs.Ytjnobnmjhpmpfaa.P
open Go.RowKit Go.Proofs.YtjnobnmjhpmpfaaW.PrintWords Go.Proofs.YtjnobnmjhpmpfaaW.PrintLast Go.Proofs.YtjnobnmjhpmpfaaW.PrintMore
attribute [local go_sem] max2_int min2_int max_two min_two max_three min_three max_four min_four
set_option linter.unusedVariables false
set_option linter.unusedSimpArgs false

/-! ### laws_markFamily: function 42 (by hand) -/
end Go.Proofs.Ytjnobnmjhpmpfaa.P

namespace Go.Proofs.Ytjnobnmjhpmpfaa.P
open Go.RowKit Go.Proofs.YtjnobnmjhpmpfaaW.PrintWords Go.Proofs.YtjnobnmjhpmpfaaW.PrintLast Go.Proofs.YtjnobnmjhpmpfaaW.PrintMore
attribute [local go_sem] max2_int min2_int max_two min_two max_three min_three max_four min_four
set_option linter.unusedVariables false
set_option linter.unusedSimpArgs false

/-- The numbers from a on, n of them: what a mark leaves. -/
def upFrom (a : Int) (n : Nat) : List Int := (List.range n).map fun i : Nat => a + (i : Int)
theorem upFrom_length (a : Int) (n : Nat) : (upFrom a n).length = n := by simp [upFrom]
theorem upFrom_succ (a : Int) (n : Nat) : upFrom a (n + 1) = upFrom a n ++ [a + (n : Int)] := by simp [upFrom, List.range_succ]
/-- A loop that writes one place after another. -/
theorem markInt64S_ev (l : List Int) (a : Int) (ha : 0 ≤ a ∧ a ≤ 2147483648) (hl : l.length ≤ 4611686018427387904) : Ev (fun k => laws_markInt64S.f k l a) (a + (l.length : Int), upFrom a l.length) := by
  unfold laws_markInt64S.f
  have key : ∀ d i : Nat, i + d = l.length → Ev (fun k => laws_markInt64S.l0 k (upFrom a i ++ l.drop i) (a + (i : Int)) (i : Int)) (a + (l.length : Int), upFrom a l.length) := by
    intro d
    induction d with
    | zero =>
      intro i hi
      obtain rfl : i = l.length := by omega
      refine Ev.step (f := fun _ => some (a + (l.length : Int), upFrom a l.length)) (fun k => ?_) (Ev.now _)
      simp only [laws_markInt64S.l0]
      rw [if_neg (by simp [upFrom_length]), List.drop_length, List.append_nil]
    | succ d ih =>
      intro i hi
      have hlt : i < l.length := by omega
      refine Ev.step (fun k => ?_) (ih (i + 1) (by omega))
      simp only [laws_markInt64S.l0]
      rw [if_pos (by simp [upFrom_length]; omega), if_pos (by omega), wr (by omega) (by omega), wr (by omega) (by omega), Int.toNat_natCast, List.set_append_right _ _ (by rw [upFrom_length]; exact Nat.le_refl _), upFrom_length, Nat.sub_self, List.drop_eq_getElem_cons hlt, List.set_cons_zero, upFrom_succ, List.append_assoc]
      rw [show a + (i : Int) + 1 = a + ((i + 1 : Nat) : Int) by omega]
      rfl
  have := key l.length 0 (by omega)
  simpa [upFrom] using this
end Go.Proofs.Ytjnobnmjhpmpfaa.P

/- For all sizes and leasts the program's LevelGate and the reference's answer alike, the arguments stay, and the result is memory of its own. -/
namespace Go.Proofs.Ytjnobnmjhpmpfaa.Pure
open Go.RowKit Go.Proofs.Ytjnobnmjhpmpfaa.P Go.Proofs.YtjnobnmjhpmpfaaW.PrintWords Go.Proofs.YtjnobnmjhpmpfaaW.PrintLast Go.Proofs.YtjnobnmjhpmpfaaW.PrintMore
set_option linter.unusedVariables false
set_option linter.unusedSimpArgs false

theorem FnExactLevelGate : laws_FnExactLevelGate.Pure := by
  intro l0 l1 hw0 hw1
  by_cases h0 : 1048576 < (l0.length : Int)
  · exact Or.inl ⟨0, decide_eq_true h0, decide_eq_true (by omega)⟩
  · by_cases h1 : 1048576 < (l1.length : Int)
    · exact Or.inr (Or.inl ⟨0, decide_eq_false h0, decide_eq_false (by omega), decide_eq_true h1, decide_eq_true (by omega)⟩)
    · have hl0 : l0.length ≤ 1048576 := by omega
      have hl1 : l1.length ≤ 1048576 := by omega
      have z := LevRes_size l0 l1
      have e1 := spec_LevelGate_ev l0 l1 hl0
      have e2 := impl_LevelGate_ev l0 l1 hl0
      obtain ⟨⟨r1, r2, r3, r4⟩, er⟩ : ∃ r, r = LevRes l0 l1 := ⟨_, rfl⟩
      rw [← er] at e1 e2 z
      dsimp only at z
      obtain ⟨k, a1, a2, a3, a4, a5, a6, a7, a8, a9, b1, b2⟩ := From.now (From.and (toInt64S_ev l0 hl0) (From.and (toInt64S_ev l1 hl1) (From.and e1 (From.and e2 (From.and (eqGate_same r1 r2 r3 z) (From.and (eqInt64S_same l0 hl0) (From.and (eqInt64S_same l1 hl1) (From.and (markInt64S_ev l0 1 (by omega) (by omega)) (From.and (markInt64S_ev l1 (1 + (l0.length : Int)) (by omega) (by omega)) (From.and (markGate_ev r1 r2 r3 z) (heldGate_ev r1 r2 r3 z)))))))))))
      exact Or.inr (Or.inr ⟨k, r1, r2, r3, r4, _, _, _, _, _, _, decide_eq_false h0, decide_eq_false (by omega), decide_eq_false h1, decide_eq_false (by omega), a1, a2, a3, a1, a2, a4, a5, a1, a6, a2, a7, a8, a9, decide_eq_false (by omega), a5, b1, b2, decide_eq_false (by omega), a1, a2, a4, a5, b2, decide_eq_false (by omega)⟩)

end Go.Proofs.Ytjnobnmjhpmpfaa.Pure

/- The row of the law FnExactLevelGate: whatever its arguments, it answers true, and they read as before. No condition. -/
namespace Go.Proofs.Ytjnobnmjhpmpfaa.fnExactLevelGate
open Go.ChangeShapes Go.WideShapes Go.ChangeAt Go.RowKit Go.Proofs.Ytjnobnmjhpmpfaa.P Go.Proofs.YtjnobnmjhpmpfaaW.PrintWords Go.Proofs.YtjnobnmjhpmpfaaW.PrintLast Go.Proofs.YtjnobnmjhpmpfaaW.PrintMore
open Go.ChangeMaps (open_string shut_string)
set_option linter.unusedVariables false
theorem own : ownKnob Try.prog.godebug = none := by kernel_rfl
theorem laidOut : laidOutB Try.prog = true := by kernel_rfl
set_option maxRecDepth 100000 in
theorem lifted (os : Os) (started : os.Started) (H : Type) (enc : TypeId × Value → H) :
    ReturnsInHanded {} Try.checked os 8 .any (Rows.fnExactLevelGateSpec.pre6 enc Try.prog Try.f8 Rows.fnExactLevelGateRow.domain false) (Rows.fnExactLevelGateSpec.post enc Try.prog Try.f8 false true false false) := by
  refine returnsInHanded_of_change_sized (C := Try.checked) own started (by kernel_rfl) Try.func8
    (ChangeSpec.witness6 (enc := enc) (C := Try.checked) false ⟨#[], #[.slice none 0 0, .slice none 0 0], []⟩ 8 (by kernel_rfl) (by kernel_rfl) (by kernel_rfl) (by kernel_rfl)) ?_
  intro W base args ds gs before hval0 hW hcnd hsz0 _
  have hval : ∀ (j : Nat) t v, Try.f8.params[j]? = some t → args[j]? = some v → Value.okWide Try.prog W .any base t v := hval0
  have hW' := hW
  obtain ⟨p, q, hA0, hV, rfl, hfz, hnd⟩ := hW
  have hA : DataW.TrodAll enc Try.prog W 0 (fun _ => true) true Try.f8.params.toList args.toList ds p := hA0
  rw [Try.params8] at hA hval
  obtain ⟨v0, vs0, d0, ds0, p0, q0, hargs, rfl, rfl, h0, r0⟩ := trodAll_cons hA
  obtain ⟨v1, vs1, d1, ds1, p1, q1, rfl, rfl, rfl, h1, r1⟩ := trodAll_cons r0
  obtain ⟨rfl, rfl, rfl⟩ := trodAll_nil r1
  obtain rfl : args = #[v0, v1] := by cases args; simp_all
  obtain ⟨rfl, rfl⟩ := trodVars_none hV
  have k0 := h0
  have lt0 : ∀ x ∈ p0, x.block < W.heap.size := by obtain ⟨m, hm⟩ := k0; exact DataW.trod_lt m _ _ _ hm
  obtain ⟨a0, len0, cap0, rfl⟩ := okWide_slice Try.underlying39 (hval 0 39 v0 rfl rfl)
  obtain ⟨l0, ⟨A0, c0, e0, b0, g0⟩, wf0⟩ := OpensAt.any (opens_slice_any Try.underlying39 (by kernel_rfl) (fun n => opens_int n Try.underlying2)) h0
  simp [Value.cells] at e0
  obtain ⟨rfl, rfl, rfl⟩ := e0
  have k1 := h1
  have lt1 : ∀ x ∈ p1, x.block < W.heap.size := by obtain ⟨m, hm⟩ := k1; exact DataW.trod_lt m _ _ _ hm
  obtain ⟨a1, len1, cap1, rfl⟩ := okWide_slice Try.underlying39 (hval 1 39 v1 rfl rfl)
  obtain ⟨l1, ⟨A1, c1, e1, b1, g1⟩, wf1⟩ := OpensAt.any (opens_slice_any Try.underlying39 (by kernel_rfl) (fun n => opens_int n Try.underlying2)) h1
  simp [Value.cells] at e1
  obtain ⟨rfl, rfl, rfl⟩ := e1
  clear hA0 hval0 hsz0
  refine (P.laws_FnExactLevelGate.walk Pure.FnExactLevelGate l0 l1 _ _ _ _ W g0 b0 g1 b1 wf0 wf1).mono fun e W' ⟨he, bel⟩ => ?_
  subst he
  exact ⟨_, rfl, _, _, _, [], _, [], hW', trodAll_mk1 (shut_bool Try.underlying4 _), (trodAll_cons_mk (Below.trod laidOut (by kernel_rfl) (of_decide_eq_true (by kernel_rfl)) k0 bel lt0) (trodAll_cons_mk (Below.trod laidOut (by kernel_rfl) (of_decide_eq_true (by kernel_rfl)) k1 bel lt1) trodAll_mk0)), rfl, bel.frame _, fun h => by cases h⟩
theorem over : Rows.fnExactLevelGateRow.holds Try.pinned (OpenSpec.ofChange Rows.fnExactLevelGateSpec) :=
  OpenClaim.holds_of_wide 8 Try.f8 rfl rfl rfl rfl rfl rfl rfl ⟨rfl, rfl, rfl, rfl, rfl⟩ rfl rfl rfl rfl rfl (by kernel_rfl) Try.func8 (by kernel_rfl)
    (of_decide_eq_true (by kernel_rfl)) (by unfold Func.isWrapper; first | (rw [if_pos (by decide +kernel)]; kernel_rfl) | (rw [if_neg (by decide +kernel)]; exact ⟨rfl, rfl⟩))
    (fun os started H enc _ => lifted os started H enc)
theorem proved : Rows.FnExactLevelGateSaid := over
#print axioms proved
end Go.Proofs.Ytjnobnmjhpmpfaa.fnExactLevelGate
namespace Go.Proofs.Ytjnobnmjhpmpfaa
/-- The row, under a short name, for the claim. -/
theorem fnExactLevelGate_holds : Rows.FnExactLevelGateSaid := fnExactLevelGate.proved
end Go.Proofs.Ytjnobnmjhpmpfaa
