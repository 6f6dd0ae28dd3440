/- For all arguments the program's TidyGate and the reference's answer alike, the argument stays, and the result is memory of its own. This text: part 2 of what it rests on: functions of the translation as plain Lean functions, and that the machine's calls come to their answers. -/
import Derived.Test.YtjnobnmjhpmpfaaCFnExactTidyGatea
namespace Go.Proofs.Ytjnobnmjhpmpfaa.P
open Go.RowKit Go.Proofs.YtjnobnmjhpmpfaaW.PrintWords Go.Proofs.YtjnobnmjhpmpfaaW.PrintLast Go.Proofs.YtjnobnmjhpmpfaaW.PrintMore
attribute [local go_sem] max2_int min2_int max_two min_two max_three min_three max_four min_four
set_option linter.unusedVariables false
set_option linter.unusedSimpArgs false

/-! ### laws_eqGateS: function 46 -/
mutual
def laws_eqGateS.l0 : Nat → List (S29) → List (S29) → Int → Option (Bool)
  | 0, _, _, _ => none
  | k + 1, x0, x1, x5 => if x5 < (x0.length : Int) then (if 0 ≤ x5 then (if x5 < (x1.length : Int) then ((laws_eqGate.f k ((rd_T29 x0 x5).f0) ((rd_T29 x0 x5).f1) ((rd_T29 x0 x5).f2) ((rd_T29 x1 x5).f0) ((rd_T29 x1 x5).f1) ((rd_T29 x1 x5).f2)).bind fun t124 => (if t124 = true then (laws_eqGateS.l0 k x0 x1 (wrap64 (x5 + 1))) else (some false))) else (none)) else (none)) else (some true)
def laws_eqGateS.f : Nat → List (S29) → List (S29) → Option (Bool)
  | 0, _, _ => none
  | k + 1, l0, l1 => if (l0.length : Int) = (l1.length : Int) then (laws_eqGateS.l0 k l0 l1 0) else (some false)
def laws_eqGate.f : Nat → Int → Int → (List (S29)) → Int → Int → (List (S29)) → Option (Bool)
  | 0, _, _, _, _, _, _ => none
  | k + 1, a0_0, a0_1, l0_2, a1_0, a1_1, l1_2 => if a0_0 = a1_0 then (if a0_1 = a1_1 then ((laws_eqGateS.f k l0_2 l1_2).bind fun t121 => (if t121 = true then (some true) else (some false))) else (some false)) else (some false)
end
def laws_eqGateS.T6 : Bool × List (List Nat × List Nat) := (true, [([], []), ([], []), ([0, 1], [0, 1]), ([2], [2]), ([], []), ([], []), ([4, 5], [4, 5]), ([6], [6]), ([3, 7], [3, 7]), ([8], [8])])
def laws_eqGateS.B6 : List Nat := [0, 0, 3, 7, 0, 0, 48, 112, 255, 511]
theorem laws_eqGateS.tab6 : rtab .any (opsOf Try.f46 6) = laws_eqGateS.T6 := by kernel_rfl
theorem laws_eqGateS.bits6 : waitsOk laws_eqGateS.T6.2 laws_eqGateS.B6 = true := by kernel_rfl
set_option maxHeartbeats 8000000 in
set_option maxRecDepth 100000 in
theorem laws_eqGate.calls_of (k : Nat) (IH : ∀ (A0 : Option Addr) (c0 : Nat) (l0 : List (S29)) (A1 : Option Addr) (c1 : Nat) (l1 : List (S29)) (r : Bool) (w : World) (hr0 : Kd.C k29 w A0 l0.length l0) (hc0 : l0.length ≤ c0) (hr1 : Kd.C k29 w A1 l1.length l1) (hc1 : l1.length ≤ c1) (h : laws_eqGateS.f k l0 l1 = some r), Calls Try.prog 46 #[.slice A0 l0.length c0, .slice A1 l1.length c1] w fun e w' => e = .returned (.bool r) ∧ Below w.heap.size w w') (a0_0 : Int) (a0_1 : Int) (A0_2 : Option Addr) (c0_2 : Nat) (l0_2 : List (S29)) (a1_0 : Int) (a1_1 : Int) (A1_2 : Option Addr) (c1_2 : Nat) (l1_2 : List (S29)) (r : Bool) (w : World) (hr0_2 : Kd.C k29 w A0_2 l0_2.length l0_2) (hc0_2 : l0_2.length ≤ c0_2) (hr1_2 : Kd.C k29 w A1_2 l1_2.length l1_2) (hc1_2 : l1_2.length ≤ c1_2) (h : laws_eqGate.f (k + 1) a0_0 a0_1 l0_2 a1_0 a1_1 l1_2 = some r) :
    Calls Try.prog 16 #[.agg #[.int .i64 a0_0, .int .i64 a0_1, .slice A0_2 l0_2.length c0_2], .agg #[.int .i64 a1_0, .int .i64 a1_1, .slice A1_2 l1_2.length c1_2]] w fun e w' => e = .returned (.bool r) ∧ Below w.heap.size w w' := by
  simp only [laws_eqGate.f] at h
  have hu29 := Try.underlying29
  have HR0_2 := Aside0.mk hr0_2
  have HC0_2 := Aside0.mk hc0_2
  clear hr0_2 hc0_2
  have HR1_2 := Aside0.mk hr1_2
  have HC1_2 := Aside0.mk hc1_2
  clear hr1_2 hc1_2
  have HB := Aside0.mk (Below.refl w.heap.size w)
  have H : (if a0_0 = a1_0 then (if a0_1 = a1_1 then ((laws_eqGateS.f k l0_2 l1_2).bind fun t121 => (if t121 = true then (some true) else (some false))) else (some false)) else (some false)) = some r := h
  clear h
  by_cases c3 : a0_0 = a1_0
  · rw [if_pos c3] at H
    have c3b0 : (a0_0 == a1_0) = true := beq_iff_eq.mpr c3
    have c3b1 : (a0_0 != a1_0) = false := bne_eq_false_iff_eq.mpr c3
    clear c3
    by_cases c4 : a0_1 = a1_1
    · rw [if_pos c4] at H
      have c4b0 : (a0_1 == a1_1) = true := beq_iff_eq.mpr c4
      have c4b1 : (a0_1 != a1_1) = false := bne_eq_false_iff_eq.mpr c4
      clear c4
      replace H := Option.bind_eq_some_iff.mp H
      obtain ⟨t121, A50, H⟩ := H
      replace H : (if t121 = true then (some true) else (some false)) = some r := H
      have A5 := Aside0.mk A50
      clear A50
      by_cases c6 : t121 = true
      · subst c6
        have H1 : (some true) = some r := by rw [if_pos rfl] at H; exact H
        clear H
        have H := H1
        clear H1
        obtain rfl := Option.some.inj H
        go_enter Try.func16, Try.ntmps16
        go_wp2_with (first | ((with_reducible refine gate_dst (N := 2) rfl ?_); refine box_event ?hg (N := 2) ?hd (cs := #[.int .i64 a0_0, .int .i64 a0_1, .slice A0_2 l0_2.length c0_2]) (t := 29) ?hr ?_; (case hd => rfl); (case hg => rfl); (case hr => first | (go_simp; done) | (go_simp; rfl)); intro gb119 hg w7 hbox hb; have n0_ := Aside0.mk (below_step (by repeat (first | (with_reducible first | exact HB.out | apply below_alloc | apply pw_below_drewN | apply below_drew1) | exact HB.out)) hb); have n1_ := Aside0.mk (hbox); have n2_ := Aside0.mk ((by rw [hg]; exact (below_size (by repeat (first | (with_reducible first | exact HB.out | apply below_alloc | apply pw_below_drewN | apply below_drew1) | exact HB.out))) : w.heap.size ≤ gb119)); have n3_ := Aside0.mk ((by rw [hg]; exact (below_size (by repeat (first | (with_reducible first | exact HB.out | apply below_alloc | apply pw_below_drewN | apply below_drew1) | exact HB.out))) : w.heap.size ≤ gb119)); clear HB; have HB := n0_; have BK119 := n1_; have GW119 := n2_; have GE119 := n3_; clear n0_ n1_ n2_ n3_; clear hb hbox hg) | ((with_reducible refine gate_dst (N := 3) rfl ?_); refine box_event ?hg (N := 3) ?hd (cs := #[.int .i64 a1_0, .int .i64 a1_1, .slice A1_2 l1_2.length c1_2]) (t := 29) ?hr ?_; (case hd => rfl); (case hg => rfl); (case hr => first | (go_simp; done) | (go_simp; rfl)); intro gb120 hg w8 hbox hb; have n0_ := Aside0.mk (blk_below (g := gb119) (o := .cells #[.int .i64 a0_0, .int .i64 a0_1, .slice A0_2 l0_2.length c0_2] 29 (0, 0)) (by (with_reducible repeat (first | refine blk_drewN ?_ _ | refine blk_drew ?_ | refine blk_alloc ?_ _)); exact BK119.out) hb); have n1_ := Aside0.mk (below_step (by repeat (first | (with_reducible first | exact HB.out | apply below_alloc | apply pw_below_drewN | apply below_drew1 | refine below_set ?_ GE119.out) | exact HB.out)) hb); have n2_ := Aside0.mk (hbox); have n3_ := Aside0.mk ((by rw [hg]; exact (below_size (by repeat (first | (with_reducible first | exact HB.out | apply below_alloc | apply pw_below_drewN | apply below_drew1 | refine below_set ?_ GE119.out) | exact HB.out))) : w.heap.size ≤ gb120)); have n4_ := Aside0.mk ((by rw [hg]; exact (below_size (by repeat (first | (with_reducible first | exact HB.out | apply below_alloc | apply pw_below_drewN | apply below_drew1 | refine below_set ?_ GE119.out) | exact HB.out))) : w.heap.size ≤ gb120)); have n5_ := Aside0.mk ((by rw [hg]; exact Nat.ne_of_lt (blk_lt (g := gb119) (o := .cells #[.int .i64 a0_0, .int .i64 a0_1, .slice A0_2 l0_2.length c0_2] 29 (0, 0)) (by (with_reducible repeat (first | refine blk_drewN ?_ _ | refine blk_drew ?_ | refine blk_alloc ?_ _)); exact BK119.out)) : gb119 ≠ gb120)); have n6_ := Aside0.mk ((by rw [hg]; exact Nat.ne_of_gt (blk_lt (g := gb119) (o := .cells #[.int .i64 a0_0, .int .i64 a0_1, .slice A0_2 l0_2.length c0_2] 29 (0, 0)) (by (with_reducible repeat (first | refine blk_drewN ?_ _ | refine blk_drew ?_ | refine blk_alloc ?_ _)); exact BK119.out)) : gb120 ≠ gb119)); clear BK119; clear HB; have BK119 := n0_; have HB := n1_; have BK120 := n2_; have GW120 := n3_; have GE120 := n4_; have NB119_120 := n5_; have NB120_119 := n6_; clear n0_ n1_ n2_ n3_ n4_ n5_ n6_; clear hb hbox hg; have hnb9 := NB119_120.out; have hnc9 := NB120_119.out; have hcz10_0 : w8.cell? ⟨gb119, 0, none⟩ = some (.int .i64 a0_0) := (blk_cell BK119.out 0).trans rfl; have hcz10_1 : w8.cell? ⟨gb119, 1, none⟩ = some (.int .i64 a0_1) := (blk_cell BK119.out 1).trans rfl; have hcz10_2 : w8.cell? ⟨gb119, 2, none⟩ = some (.slice A0_2 l0_2.length c0_2) := (blk_cell BK119.out 2).trans rfl; have hfz10_0 := blk_frozen BK119.out 0; have hfz10_1 := blk_frozen BK119.out 1; have hfz10_2 := blk_frozen BK119.out 2; have hcz11_0 : w8.cell? ⟨gb120, 0, none⟩ = some (.int .i64 a1_0) := (blk_cell BK120.out 0).trans rfl; have hcz11_1 : w8.cell? ⟨gb120, 1, none⟩ = some (.int .i64 a1_1) := (blk_cell BK120.out 1).trans rfl; have hcz11_2 : w8.cell? ⟨gb120, 2, none⟩ = some (.slice A1_2 l1_2.length c1_2) := (blk_cell BK120.out 2).trans rfl; have hfz11_0 := blk_frozen BK120.out 0; have hfz11_1 := blk_frozen BK120.out 1; have hfz11_2 := blk_frozen BK120.out 2) | ((with_reducible refine gate_callee (f := 46) rfl ?_); refine goesL_ (some 19) rfl rfl Try.func46 (by kernel_rfl) rfl #[.slice A0_2 l0_2.length c0_2, .slice A1_2 l1_2.length c1_2] rfl (by (try simp only [List.map_toArray, List.map_cons, List.map_nil]); first | done | rfl | (simp only [List.length_drop, List.length_take]; rfl)) ?_; (with_reducible refine (IH _ _ l0_2 _ _ l1_2 true _ ?side1 ?side2 ?side3 ?side4 A5.out).mono ?_); (case side1 => repeat (first | exact (Kd.C_below HR0_2.out HB.out) | (with_reducible refine Kd.C_alloc ?_ _) | (with_reducible refine Kd.C_drewN ?_ _) | (with_reducible refine Kd.C_drew ?_))); (case side2 => exact HC0_2.out); (case side3 => repeat (first | exact (Kd.C_below HR1_2.out HB.out) | (with_reducible refine Kd.C_alloc ?_ _) | (with_reducible refine Kd.C_drewN ?_ _) | (with_reducible refine Kd.C_drew ?_))); (case side4 => exact HC1_2.out); rintro e w12 ⟨rfl, hb⟩; refine ⟨_, rfl, ?_⟩; have n0_ := Aside0.mk (blk_below (g := gb119) (o := .cells #[.int .i64 a0_0, .int .i64 a0_1, .slice A0_2 l0_2.length c0_2] 29 (0, 0)) (by (with_reducible repeat (first | refine blk_drewN ?_ _ | refine blk_drew ?_ | refine blk_alloc ?_ _)); exact BK119.out) hb); have n1_ := Aside0.mk (blk_below (g := gb120) (o := .cells #[.int .i64 a1_0, .int .i64 a1_1, .slice A1_2 l1_2.length c1_2] 29 (0, 0)) (by (with_reducible repeat (first | refine blk_drewN ?_ _ | refine blk_drew ?_ | refine blk_alloc ?_ _)); exact BK120.out) hb); have n2_ := Aside0.mk (below_step (by repeat (first | (with_reducible first | exact HB.out | apply below_alloc | apply pw_below_drewN | apply below_drew1 | refine below_set ?_ GE119.out | refine below_set ?_ GE120.out) | exact HB.out)) hb); clear BK119; clear BK120; clear HB; have BK119 := n0_; have BK120 := n1_; have HB := n2_; clear n0_ n1_ n2_; (try clear hb); (try clear hb2); (try clear hk); (try clear hi)))
        go_ret
        exact ⟨by first | rfl | (simp [errW_none, errW_some] <;> rfl) | (simp [*, errW_none, errW_some] <;> rfl), by repeat (first | (with_reducible first | exact HB.out | apply below_alloc | apply pw_below_drewN | apply below_drew1 | refine below_set ?_ GE119.out | refine below_set ?_ GE120.out) | exact HB.out)⟩
      · replace c6 := Bool.eq_false_iff.mpr c6
        subst c6
        have H1 : (some false) = some r := by rw [if_neg (show ¬ (false = true) by decide)] at H; exact H
        clear H
        have H := H1
        clear H1
        obtain rfl := Option.some.inj H
        go_enter Try.func16, Try.ntmps16
        go_wp2_with (first | ((with_reducible refine gate_dst (N := 2) rfl ?_); refine box_event ?hg (N := 2) ?hd (cs := #[.int .i64 a0_0, .int .i64 a0_1, .slice A0_2 l0_2.length c0_2]) (t := 29) ?hr ?_; (case hd => rfl); (case hg => rfl); (case hr => first | (go_simp; done) | (go_simp; rfl)); intro gb119 hg w13 hbox hb; have n0_ := Aside0.mk (below_step (by repeat (first | (with_reducible first | exact HB.out | apply below_alloc | apply pw_below_drewN | apply below_drew1) | exact HB.out)) hb); have n1_ := Aside0.mk (hbox); have n2_ := Aside0.mk ((by rw [hg]; exact (below_size (by repeat (first | (with_reducible first | exact HB.out | apply below_alloc | apply pw_below_drewN | apply below_drew1) | exact HB.out))) : w.heap.size ≤ gb119)); have n3_ := Aside0.mk ((by rw [hg]; exact (below_size (by repeat (first | (with_reducible first | exact HB.out | apply below_alloc | apply pw_below_drewN | apply below_drew1) | exact HB.out))) : w.heap.size ≤ gb119)); clear HB; have HB := n0_; have BK119 := n1_; have GW119 := n2_; have GE119 := n3_; clear n0_ n1_ n2_ n3_; clear hb hbox hg) | ((with_reducible refine gate_dst (N := 3) rfl ?_); refine box_event ?hg (N := 3) ?hd (cs := #[.int .i64 a1_0, .int .i64 a1_1, .slice A1_2 l1_2.length c1_2]) (t := 29) ?hr ?_; (case hd => rfl); (case hg => rfl); (case hr => first | (go_simp; done) | (go_simp; rfl)); intro gb120 hg w14 hbox hb; have n0_ := Aside0.mk (blk_below (g := gb119) (o := .cells #[.int .i64 a0_0, .int .i64 a0_1, .slice A0_2 l0_2.length c0_2] 29 (0, 0)) (by (with_reducible repeat (first | refine blk_drewN ?_ _ | refine blk_drew ?_ | refine blk_alloc ?_ _)); exact BK119.out) hb); have n1_ := Aside0.mk (below_step (by repeat (first | (with_reducible first | exact HB.out | apply below_alloc | apply pw_below_drewN | apply below_drew1 | refine below_set ?_ GE119.out) | exact HB.out)) hb); have n2_ := Aside0.mk (hbox); have n3_ := Aside0.mk ((by rw [hg]; exact (below_size (by repeat (first | (with_reducible first | exact HB.out | apply below_alloc | apply pw_below_drewN | apply below_drew1 | refine below_set ?_ GE119.out) | exact HB.out))) : w.heap.size ≤ gb120)); have n4_ := Aside0.mk ((by rw [hg]; exact (below_size (by repeat (first | (with_reducible first | exact HB.out | apply below_alloc | apply pw_below_drewN | apply below_drew1 | refine below_set ?_ GE119.out) | exact HB.out))) : w.heap.size ≤ gb120)); have n5_ := Aside0.mk ((by rw [hg]; exact Nat.ne_of_lt (blk_lt (g := gb119) (o := .cells #[.int .i64 a0_0, .int .i64 a0_1, .slice A0_2 l0_2.length c0_2] 29 (0, 0)) (by (with_reducible repeat (first | refine blk_drewN ?_ _ | refine blk_drew ?_ | refine blk_alloc ?_ _)); exact BK119.out)) : gb119 ≠ gb120)); have n6_ := Aside0.mk ((by rw [hg]; exact Nat.ne_of_gt (blk_lt (g := gb119) (o := .cells #[.int .i64 a0_0, .int .i64 a0_1, .slice A0_2 l0_2.length c0_2] 29 (0, 0)) (by (with_reducible repeat (first | refine blk_drewN ?_ _ | refine blk_drew ?_ | refine blk_alloc ?_ _)); exact BK119.out)) : gb120 ≠ gb119)); clear BK119; clear HB; have BK119 := n0_; have HB := n1_; have BK120 := n2_; have GW120 := n3_; have GE120 := n4_; have NB119_120 := n5_; have NB120_119 := n6_; clear n0_ n1_ n2_ n3_ n4_ n5_ n6_; clear hb hbox hg; have hnb15 := NB119_120.out; have hnc15 := NB120_119.out; have hcz16_0 : w14.cell? ⟨gb119, 0, none⟩ = some (.int .i64 a0_0) := (blk_cell BK119.out 0).trans rfl; have hcz16_1 : w14.cell? ⟨gb119, 1, none⟩ = some (.int .i64 a0_1) := (blk_cell BK119.out 1).trans rfl; have hcz16_2 : w14.cell? ⟨gb119, 2, none⟩ = some (.slice A0_2 l0_2.length c0_2) := (blk_cell BK119.out 2).trans rfl; have hfz16_0 := blk_frozen BK119.out 0; have hfz16_1 := blk_frozen BK119.out 1; have hfz16_2 := blk_frozen BK119.out 2; have hcz17_0 : w14.cell? ⟨gb120, 0, none⟩ = some (.int .i64 a1_0) := (blk_cell BK120.out 0).trans rfl; have hcz17_1 : w14.cell? ⟨gb120, 1, none⟩ = some (.int .i64 a1_1) := (blk_cell BK120.out 1).trans rfl; have hcz17_2 : w14.cell? ⟨gb120, 2, none⟩ = some (.slice A1_2 l1_2.length c1_2) := (blk_cell BK120.out 2).trans rfl; have hfz17_0 := blk_frozen BK120.out 0; have hfz17_1 := blk_frozen BK120.out 1; have hfz17_2 := blk_frozen BK120.out 2) | ((with_reducible refine gate_callee (f := 46) rfl ?_); refine goesL_ (some 19) rfl rfl Try.func46 (by kernel_rfl) rfl #[.slice A0_2 l0_2.length c0_2, .slice A1_2 l1_2.length c1_2] rfl (by (try simp only [List.map_toArray, List.map_cons, List.map_nil]); first | done | rfl | (simp only [List.length_drop, List.length_take]; rfl)) ?_; (with_reducible refine (IH _ _ l0_2 _ _ l1_2 false _ ?side1 ?side2 ?side3 ?side4 A5.out).mono ?_); (case side1 => repeat (first | exact (Kd.C_below HR0_2.out HB.out) | (with_reducible refine Kd.C_alloc ?_ _) | (with_reducible refine Kd.C_drewN ?_ _) | (with_reducible refine Kd.C_drew ?_))); (case side2 => exact HC0_2.out); (case side3 => repeat (first | exact (Kd.C_below HR1_2.out HB.out) | (with_reducible refine Kd.C_alloc ?_ _) | (with_reducible refine Kd.C_drewN ?_ _) | (with_reducible refine Kd.C_drew ?_))); (case side4 => exact HC1_2.out); rintro e w18 ⟨rfl, hb⟩; refine ⟨_, rfl, ?_⟩; have n0_ := Aside0.mk (blk_below (g := gb119) (o := .cells #[.int .i64 a0_0, .int .i64 a0_1, .slice A0_2 l0_2.length c0_2] 29 (0, 0)) (by (with_reducible repeat (first | refine blk_drewN ?_ _ | refine blk_drew ?_ | refine blk_alloc ?_ _)); exact BK119.out) hb); have n1_ := Aside0.mk (blk_below (g := gb120) (o := .cells #[.int .i64 a1_0, .int .i64 a1_1, .slice A1_2 l1_2.length c1_2] 29 (0, 0)) (by (with_reducible repeat (first | refine blk_drewN ?_ _ | refine blk_drew ?_ | refine blk_alloc ?_ _)); exact BK120.out) hb); have n2_ := Aside0.mk (below_step (by repeat (first | (with_reducible first | exact HB.out | apply below_alloc | apply pw_below_drewN | apply below_drew1 | refine below_set ?_ GE119.out | refine below_set ?_ GE120.out) | exact HB.out)) hb); clear BK119; clear BK120; clear HB; have BK119 := n0_; have BK120 := n1_; have HB := n2_; clear n0_ n1_ n2_; (try clear hb); (try clear hb2); (try clear hk); (try clear hi)))
        go_ret
        exact ⟨by first | rfl | (simp [errW_none, errW_some] <;> rfl) | (simp [*, errW_none, errW_some] <;> rfl), by repeat (first | (with_reducible first | exact HB.out | apply below_alloc | apply pw_below_drewN | apply below_drew1 | refine below_set ?_ GE119.out | refine below_set ?_ GE120.out) | exact HB.out)⟩
    · rw [if_neg c4] at H
      have c4b0 : (a0_1 == a1_1) = false := beq_eq_false_iff_ne.mpr c4
      have c4b1 : (a0_1 != a1_1) = true := bne_iff_ne.mpr c4
      obtain rfl := Option.some.inj H
      go_enter Try.func16, Try.ntmps16
      go_wp2_with (first | ((with_reducible refine gate_dst (N := 2) rfl ?_); refine box_event ?hg (N := 2) ?hd (cs := #[.int .i64 a0_0, .int .i64 a0_1, .slice A0_2 l0_2.length c0_2]) (t := 29) ?hr ?_; (case hd => rfl); (case hg => rfl); (case hr => first | (go_simp; done) | (go_simp; rfl)); intro gb119 hg w19 hbox hb; have n0_ := Aside0.mk (below_step (by repeat (first | (with_reducible first | exact HB.out | apply below_alloc | apply pw_below_drewN | apply below_drew1) | exact HB.out)) hb); have n1_ := Aside0.mk (hbox); have n2_ := Aside0.mk ((by rw [hg]; exact (below_size (by repeat (first | (with_reducible first | exact HB.out | apply below_alloc | apply pw_below_drewN | apply below_drew1) | exact HB.out))) : w.heap.size ≤ gb119)); have n3_ := Aside0.mk ((by rw [hg]; exact (below_size (by repeat (first | (with_reducible first | exact HB.out | apply below_alloc | apply pw_below_drewN | apply below_drew1) | exact HB.out))) : w.heap.size ≤ gb119)); clear HB; have HB := n0_; have BK119 := n1_; have GW119 := n2_; have GE119 := n3_; clear n0_ n1_ n2_ n3_; clear hb hbox hg) | ((with_reducible refine gate_dst (N := 3) rfl ?_); refine box_event ?hg (N := 3) ?hd (cs := #[.int .i64 a1_0, .int .i64 a1_1, .slice A1_2 l1_2.length c1_2]) (t := 29) ?hr ?_; (case hd => rfl); (case hg => rfl); (case hr => first | (go_simp; done) | (go_simp; rfl)); intro gb120 hg w20 hbox hb; have n0_ := Aside0.mk (blk_below (g := gb119) (o := .cells #[.int .i64 a0_0, .int .i64 a0_1, .slice A0_2 l0_2.length c0_2] 29 (0, 0)) (by (with_reducible repeat (first | refine blk_drewN ?_ _ | refine blk_drew ?_ | refine blk_alloc ?_ _)); exact BK119.out) hb); have n1_ := Aside0.mk (below_step (by repeat (first | (with_reducible first | exact HB.out | apply below_alloc | apply pw_below_drewN | apply below_drew1 | refine below_set ?_ GE119.out) | exact HB.out)) hb); have n2_ := Aside0.mk (hbox); have n3_ := Aside0.mk ((by rw [hg]; exact (below_size (by repeat (first | (with_reducible first | exact HB.out | apply below_alloc | apply pw_below_drewN | apply below_drew1 | refine below_set ?_ GE119.out) | exact HB.out))) : w.heap.size ≤ gb120)); have n4_ := Aside0.mk ((by rw [hg]; exact (below_size (by repeat (first | (with_reducible first | exact HB.out | apply below_alloc | apply pw_below_drewN | apply below_drew1 | refine below_set ?_ GE119.out) | exact HB.out))) : w.heap.size ≤ gb120)); have n5_ := Aside0.mk ((by rw [hg]; exact Nat.ne_of_lt (blk_lt (g := gb119) (o := .cells #[.int .i64 a0_0, .int .i64 a0_1, .slice A0_2 l0_2.length c0_2] 29 (0, 0)) (by (with_reducible repeat (first | refine blk_drewN ?_ _ | refine blk_drew ?_ | refine blk_alloc ?_ _)); exact BK119.out)) : gb119 ≠ gb120)); have n6_ := Aside0.mk ((by rw [hg]; exact Nat.ne_of_gt (blk_lt (g := gb119) (o := .cells #[.int .i64 a0_0, .int .i64 a0_1, .slice A0_2 l0_2.length c0_2] 29 (0, 0)) (by (with_reducible repeat (first | refine blk_drewN ?_ _ | refine blk_drew ?_ | refine blk_alloc ?_ _)); exact BK119.out)) : gb120 ≠ gb119)); clear BK119; clear HB; have BK119 := n0_; have HB := n1_; have BK120 := n2_; have GW120 := n3_; have GE120 := n4_; have NB119_120 := n5_; have NB120_119 := n6_; clear n0_ n1_ n2_ n3_ n4_ n5_ n6_; clear hb hbox hg; have hnb21 := NB119_120.out; have hnc21 := NB120_119.out; have hcz22_0 : w20.cell? ⟨gb119, 0, none⟩ = some (.int .i64 a0_0) := (blk_cell BK119.out 0).trans rfl; have hcz22_1 : w20.cell? ⟨gb119, 1, none⟩ = some (.int .i64 a0_1) := (blk_cell BK119.out 1).trans rfl; have hcz22_2 : w20.cell? ⟨gb119, 2, none⟩ = some (.slice A0_2 l0_2.length c0_2) := (blk_cell BK119.out 2).trans rfl; have hfz22_0 := blk_frozen BK119.out 0; have hfz22_1 := blk_frozen BK119.out 1; have hfz22_2 := blk_frozen BK119.out 2; have hcz23_0 : w20.cell? ⟨gb120, 0, none⟩ = some (.int .i64 a1_0) := (blk_cell BK120.out 0).trans rfl; have hcz23_1 : w20.cell? ⟨gb120, 1, none⟩ = some (.int .i64 a1_1) := (blk_cell BK120.out 1).trans rfl; have hcz23_2 : w20.cell? ⟨gb120, 2, none⟩ = some (.slice A1_2 l1_2.length c1_2) := (blk_cell BK120.out 2).trans rfl; have hfz23_0 := blk_frozen BK120.out 0; have hfz23_1 := blk_frozen BK120.out 1; have hfz23_2 := blk_frozen BK120.out 2))
      go_ret
      exact ⟨by first | rfl | (simp [errW_none, errW_some] <;> rfl) | (simp [*, errW_none, errW_some] <;> rfl), by repeat (first | (with_reducible first | exact HB.out | apply below_alloc | apply pw_below_drewN | apply below_drew1 | refine below_set ?_ GE119.out | refine below_set ?_ GE120.out) | exact HB.out)⟩
  · rw [if_neg c3] at H
    have c3b0 : (a0_0 == a1_0) = false := beq_eq_false_iff_ne.mpr c3
    have c3b1 : (a0_0 != a1_0) = true := bne_iff_ne.mpr c3
    obtain rfl := Option.some.inj H
    go_enter Try.func16, Try.ntmps16
    go_wp2_with (first | ((with_reducible refine gate_dst (N := 2) rfl ?_); refine box_event ?hg (N := 2) ?hd (cs := #[.int .i64 a0_0, .int .i64 a0_1, .slice A0_2 l0_2.length c0_2]) (t := 29) ?hr ?_; (case hd => rfl); (case hg => rfl); (case hr => first | (go_simp; done) | (go_simp; rfl)); intro gb119 hg w24 hbox hb; have n0_ := Aside0.mk (below_step (by repeat (first | (with_reducible first | exact HB.out | apply below_alloc | apply pw_below_drewN | apply below_drew1) | exact HB.out)) hb); have n1_ := Aside0.mk (hbox); have n2_ := Aside0.mk ((by rw [hg]; exact (below_size (by repeat (first | (with_reducible first | exact HB.out | apply below_alloc | apply pw_below_drewN | apply below_drew1) | exact HB.out))) : w.heap.size ≤ gb119)); have n3_ := Aside0.mk ((by rw [hg]; exact (below_size (by repeat (first | (with_reducible first | exact HB.out | apply below_alloc | apply pw_below_drewN | apply below_drew1) | exact HB.out))) : w.heap.size ≤ gb119)); clear HB; have HB := n0_; have BK119 := n1_; have GW119 := n2_; have GE119 := n3_; clear n0_ n1_ n2_ n3_; clear hb hbox hg) | ((with_reducible refine gate_dst (N := 3) rfl ?_); refine box_event ?hg (N := 3) ?hd (cs := #[.int .i64 a1_0, .int .i64 a1_1, .slice A1_2 l1_2.length c1_2]) (t := 29) ?hr ?_; (case hd => rfl); (case hg => rfl); (case hr => first | (go_simp; done) | (go_simp; rfl)); intro gb120 hg w25 hbox hb; have n0_ := Aside0.mk (blk_below (g := gb119) (o := .cells #[.int .i64 a0_0, .int .i64 a0_1, .slice A0_2 l0_2.length c0_2] 29 (0, 0)) (by (with_reducible repeat (first | refine blk_drewN ?_ _ | refine blk_drew ?_ | refine blk_alloc ?_ _)); exact BK119.out) hb); have n1_ := Aside0.mk (below_step (by repeat (first | (with_reducible first | exact HB.out | apply below_alloc | apply pw_below_drewN | apply below_drew1 | refine below_set ?_ GE119.out) | exact HB.out)) hb); have n2_ := Aside0.mk (hbox); have n3_ := Aside0.mk ((by rw [hg]; exact (below_size (by repeat (first | (with_reducible first | exact HB.out | apply below_alloc | apply pw_below_drewN | apply below_drew1 | refine below_set ?_ GE119.out) | exact HB.out))) : w.heap.size ≤ gb120)); have n4_ := Aside0.mk ((by rw [hg]; exact (below_size (by repeat (first | (with_reducible first | exact HB.out | apply below_alloc | apply pw_below_drewN | apply below_drew1 | refine below_set ?_ GE119.out) | exact HB.out))) : w.heap.size ≤ gb120)); have n5_ := Aside0.mk ((by rw [hg]; exact Nat.ne_of_lt (blk_lt (g := gb119) (o := .cells #[.int .i64 a0_0, .int .i64 a0_1, .slice A0_2 l0_2.length c0_2] 29 (0, 0)) (by (with_reducible repeat (first | refine blk_drewN ?_ _ | refine blk_drew ?_ | refine blk_alloc ?_ _)); exact BK119.out)) : gb119 ≠ gb120)); have n6_ := Aside0.mk ((by rw [hg]; exact Nat.ne_of_gt (blk_lt (g := gb119) (o := .cells #[.int .i64 a0_0, .int .i64 a0_1, .slice A0_2 l0_2.length c0_2] 29 (0, 0)) (by (with_reducible repeat (first | refine blk_drewN ?_ _ | refine blk_drew ?_ | refine blk_alloc ?_ _)); exact BK119.out)) : gb120 ≠ gb119)); clear BK119; clear HB; have BK119 := n0_; have HB := n1_; have BK120 := n2_; have GW120 := n3_; have GE120 := n4_; have NB119_120 := n5_; have NB120_119 := n6_; clear n0_ n1_ n2_ n3_ n4_ n5_ n6_; clear hb hbox hg; have hnb26 := NB119_120.out; have hnc26 := NB120_119.out; have hcz27_0 : w25.cell? ⟨gb119, 0, none⟩ = some (.int .i64 a0_0) := (blk_cell BK119.out 0).trans rfl; have hcz27_1 : w25.cell? ⟨gb119, 1, none⟩ = some (.int .i64 a0_1) := (blk_cell BK119.out 1).trans rfl; have hcz27_2 : w25.cell? ⟨gb119, 2, none⟩ = some (.slice A0_2 l0_2.length c0_2) := (blk_cell BK119.out 2).trans rfl; have hfz27_0 := blk_frozen BK119.out 0; have hfz27_1 := blk_frozen BK119.out 1; have hfz27_2 := blk_frozen BK119.out 2; have hcz28_0 : w25.cell? ⟨gb120, 0, none⟩ = some (.int .i64 a1_0) := (blk_cell BK120.out 0).trans rfl; have hcz28_1 : w25.cell? ⟨gb120, 1, none⟩ = some (.int .i64 a1_1) := (blk_cell BK120.out 1).trans rfl; have hcz28_2 : w25.cell? ⟨gb120, 2, none⟩ = some (.slice A1_2 l1_2.length c1_2) := (blk_cell BK120.out 2).trans rfl; have hfz28_0 := blk_frozen BK120.out 0; have hfz28_1 := blk_frozen BK120.out 1; have hfz28_2 := blk_frozen BK120.out 2))
    go_ret
    exact ⟨by first | rfl | (simp [errW_none, errW_some] <;> rfl) | (simp [*, errW_none, errW_some] <;> rfl), by repeat (first | (with_reducible first | exact HB.out | apply below_alloc | apply pw_below_drewN | apply below_drew1 | refine below_set ?_ GE119.out | refine below_set ?_ GE120.out) | exact HB.out)⟩
set_option maxHeartbeats 8000000 in
set_option maxRecDepth 100000 in
theorem laws_eqGateS.calls (k : Nat) : ∀ (A0 : Option Addr) (c0 : Nat) (l0 : List (S29)) (A1 : Option Addr) (c1 : Nat) (l1 : List (S29)) (r : Bool) (w : World) (hr0 : Kd.C k29 w A0 l0.length l0) (hc0 : l0.length ≤ c0) (hr1 : Kd.C k29 w A1 l1.length l1) (hc1 : l1.length ≤ c1) (h : laws_eqGateS.f k l0 l1 = some r),
    Calls Try.prog 46 #[.slice A0 l0.length c0, .slice A1 l1.length c1] w fun e w' => e = .returned (.bool r) ∧ Below w.heap.size w w' := by
  induction k using Nat.strongRecOn with
  | _ k ih =>
  have ihG : ∀ m, m < k → ∀ (a0_0 : Int) (a0_1 : Int) (A0_2 : Option Addr) (c0_2 : Nat) (l0_2 : List (S29)) (a1_0 : Int) (a1_1 : Int) (A1_2 : Option Addr) (c1_2 : Nat) (l1_2 : List (S29)) (r : Bool) (w : World) (hr0_2 : Kd.C k29 w A0_2 l0_2.length l0_2) (hc0_2 : l0_2.length ≤ c0_2) (hr1_2 : Kd.C k29 w A1_2 l1_2.length l1_2) (hc1_2 : l1_2.length ≤ c1_2) (h : laws_eqGate.f m a0_0 a0_1 l0_2 a1_0 a1_1 l1_2 = some r), Calls Try.prog 16 #[.agg #[.int .i64 a0_0, .int .i64 a0_1, .slice A0_2 l0_2.length c0_2], .agg #[.int .i64 a1_0, .int .i64 a1_1, .slice A1_2 l1_2.length c1_2]] w fun e w' => e = .returned (.bool r) ∧ Below w.heap.size w w' := by
    intro m hm
    cases m with
    | zero => intro a0_0 a0_1 A0_2 c0_2 l0_2 a1_0 a1_1 A1_2 c1_2 l1_2 r w hr0_2 hc0_2 hr1_2 hc1_2 h; exact absurd h (by simp [laws_eqGate.f])
    | succ m => exact fun a0_0 a0_1 A0_2 c0_2 l0_2 a1_0 a1_1 A1_2 c1_2 l1_2 r w hr0_2 hc0_2 hr1_2 hc1_2 h => laws_eqGate.calls_of m (ih m (by omega)) a0_0 a0_1 A0_2 c0_2 l0_2 a1_0 a1_1 A1_2 c1_2 l1_2 r w hr0_2 hc0_2 hr1_2 hc1_2 h
  intro A0 c0 l0 A1 c1 l1 r w hr0 hc0 hr1 hc1 h
  cases k with
  | zero => exact absurd h (by simp [laws_eqGateS.f])
  | succ k =>
  simp only [laws_eqGateS.f] at h
  have hu29 := Try.underlying29
  have HR0 := Aside0.mk hr0
  have HC0 := Aside0.mk hc0
  clear hr0 hc0
  have HR1 := Aside0.mk hr1
  have HC1 := Aside0.mk hc1
  clear hr1 hc1
  have HB := Aside0.mk (Below.refl w.heap.size w)
  have H : (if (l0.length : Int) = (l1.length : Int) then (laws_eqGateS.l0 k l0 l1 0) else (some false)) = some r := h
  clear h
  by_cases c3 : (l0.length : Int) = (l1.length : Int)
  · rw [if_pos c3] at H
    have c3b0 : ((l0.length : Int) == (l1.length : Int)) = true := beq_iff_eq.mpr c3
    have c3b1 : ((l0.length : Int) != (l1.length : Int)) = false := bne_eq_false_iff_eq.mpr c3
    have c3b2 : (l0.length == l1.length) = true := by first | simpa using c3 | (simp at c3 ⊢; omega)
    clear c3
    have H' := Aside0.mk H
    clear H
    go_enter Try.func46, Try.ntmps46
    go_wp2
    go_loopg [5] k (fun kq v5 w' => ∃ (x5_1 : Int), v5 = .int .i64 x5_1 ∧ Aside0 (laws_eqGateS.l0 kq l0 l1 x5_1 = some r) ∧ Aside0 (kq ≤ k) ∧ Aside0 (Below w.heap.size w w'))
    case atStart => exact ⟨(0), (by first | rfl | (simp; done) | (simp [*]; done)), H', ⟨Nat.le_refl _⟩, ⟨by repeat (first | (with_reducible first | exact HB.out | apply below_alloc | apply pw_below_drewN | apply below_drew1) | exact HB.out)⟩⟩
    case round =>
      clear H'
      try clear c1
      try clear p2
      try clear c3
      try clear c3b0
      try clear c3b1
      try clear c3b2
      obtain ⟨x5_1, rfl, HA, HK1, HB⟩ := hrel
      cases gk with
      | zero => exact absurd HA.out (by simp [laws_eqGateS.l0])
      | succ k1 =>
        have H := HA.out
        clear HA
        simp only [laws_eqGateS.l0] at H
        by_cases c4 : x5_1 < (l0.length : Int)
        · rw [if_pos c4] at H
          have c4b0 : decide (x5_1 < (l0.length : Int)) = true := decide_eq_true c4
          clear c4
          by_cases c5 : 0 ≤ x5_1
          · rw [if_pos c5] at H
            have c5b0 : decide (0 ≤ x5_1) = true := decide_eq_true c5
            clear c5
            by_cases c6 : x5_1 < (l1.length : Int)
            · rw [if_pos c6] at H
              have c6b0 : decide (x5_1 < (l1.length : Int)) = true := decide_eq_true c6
              clear c6
              replace H := Option.bind_eq_some_iff.mp H
              obtain ⟨t124, A70, H⟩ := H
              replace H : (if t124 = true then (laws_eqGateS.l0 k1 l0 l1 (wrap64 (x5_1 + 1))) else (some false)) = some r := H
              have A7 := Aside0.mk A70
              clear A70
              by_cases c8 : t124 = true
              · subst c8
                have H1 : (laws_eqGateS.l0 k1 l0 l1 (wrap64 (x5_1 + 1))) = some r := by rw [if_pos rfl] at H; exact H
                clear H
                have H := H1
                clear H1
                have H' := Aside0.mk H
                clear H
                try go_wp2
                have n0_ := Aside0.mk (below_drew1 HB.out)
                clear HB
                have HB := n0_
                clear n0_
                have p122 : 0 ≤ (x5_1 : Int) := of_decide_eq_true (by first | (with_reducible assumption) | assumption)
                have q122 : x5_1 < (l0.length : Int) := of_decide_eq_true (by first | (with_reducible assumption) | assumption)
                obtain ⟨ad122, A122_2, c122_2, e122, hx122_0, hx122_1, hx122_2, hl122_2, hi122_2⟩ := at_T29 HR0.out x5_1 p122 q122
                have hw122_2 := hx122_2
                have hw122_1 := hx122_1
                have hw122_0 := hx122_0
                cases e122
                replace hx122_0 := (HB.out.cell (World.block_lt_of_cell? w _ hx122_0)).trans hx122_0
                replace hx122_1 := (HB.out.cell (World.block_lt_of_cell? w _ hx122_1)).trans hx122_1
                replace hx122_2 := (HB.out.cell (World.block_lt_of_cell? w _ hx122_2)).trans hx122_2
                have HR122_2 := Aside0.mk hi122_2
                have HC122_2 := Aside0.mk hl122_2
                clear hi122_2 hl122_2
                replace p122 := eq_true p122
                replace q122 := eq_true q122
                have p123 : 0 ≤ (x5_1 : Int) := of_decide_eq_true (by first | (with_reducible assumption) | assumption)
                have q123 : x5_1 < (l1.length : Int) := of_decide_eq_true (by first | (with_reducible assumption) | assumption)
                obtain ⟨ad123, A123_2, c123_2, e123, hx123_0, hx123_1, hx123_2, hl123_2, hi123_2⟩ := at_T29 HR1.out x5_1 p123 q123
                have hw123_2 := hx123_2
                have hw123_1 := hx123_1
                have hw123_0 := hx123_0
                cases e123
                replace hx123_0 := (HB.out.cell (World.block_lt_of_cell? w _ hx123_0)).trans hx123_0
                replace hx123_1 := (HB.out.cell (World.block_lt_of_cell? w _ hx123_1)).trans hx123_1
                replace hx123_2 := (HB.out.cell (World.block_lt_of_cell? w _ hx123_2)).trans hx123_2
                have HR123_2 := Aside0.mk hi123_2
                have HC123_2 := Aside0.mk hl123_2
                clear hi123_2 hl123_2
                replace p123 := eq_true p123
                replace q123 := eq_true q123
                refine start_ (n := 10) (S := fun w' => w'.cell? (ad122.add ((x5_1).toNat * 3)) = some (.int .i64 ((rd_T29 l0 x5_1).f0)) ∧ w'.cell? ⟨(ad122.add ((x5_1).toNat * 3)).block, (ad122.add ((x5_1).toNat * 3)).off + 1, none⟩ = some (.int .i64 ((rd_T29 l0 x5_1).f1)) ∧ w'.cell? ⟨(ad122.add ((x5_1).toNat * 3)).block, (ad122.add ((x5_1).toNat * 3)).off + 2, none⟩ = some (.slice A122_2 ((rd_T29 l0 x5_1).f2).length c122_2) ∧ w'.cell? (ad123.add ((x5_1).toNat * 3)) = some (.int .i64 ((rd_T29 l1 x5_1).f0)) ∧ w'.cell? ⟨(ad123.add ((x5_1).toNat * 3)).block, (ad123.add ((x5_1).toNat * 3)).off + 1, none⟩ = some (.int .i64 ((rd_T29 l1 x5_1).f1)) ∧ w'.cell? ⟨(ad123.add ((x5_1).toNat * 3)).block, (ad123.add ((x5_1).toNat * 3)).off + 2, none⟩ = some (.slice A123_2 ((rd_T29 l1 x5_1).f2).length c123_2)) (ds := []) #[false, false, false, false, false, false, false, false, false, false] (by kernel_rfl) rfl rfl ⟨((HB.out.cell (World.block_lt_of_cell? w _ hw122_0)).trans hw122_0), ((HB.out.cell (World.block_lt_of_cell? w _ hw122_1)).trans hw122_1), ((HB.out.cell (World.block_lt_of_cell? w _ hw122_2)).trans hw122_2), ((HB.out.cell (World.block_lt_of_cell? w _ hw123_0)).trans hw123_0), ((HB.out.cell (World.block_lt_of_cell? w _ hw123_1)).trans hw123_1), ((HB.out.cell (World.block_lt_of_cell? w _ hw123_2)).trans hw123_2)⟩ (fun hHeld => ?_); refine with_tabW laws_eqGateS.tab6 laws_eqGateS.bits6 (fun HT_ HW_ => ?_)
                generalize wr.drew = w9 at HB HR122_2 HR123_2 hx122_0 hx122_1 hx122_2 hx123_0 hx123_1 hx123_2 hHeld ⊢
                refine pure_ (i := 0) (N := some 17) (v := ?_) (a' := ?_) #[true, false, false, false, false, false, false, false, false, false] rfl rfl (any_of HT_.out (by kernel_rfl)) (fun _ _ _ h => h) (Or.inl ⟨by rfl, ?_⟩) ?_ ?_
                rotate_left
                · intro w'
                  first | (go_simp; with_reducible rfl) | (simp [go_sem, Instr.field, asAgg] <;> with_reducible rfl)
                rotate_left
                · simp only [Act.put, List.setIfInBounds_toArray, List.set_cons_zero, List.set_cons_succ, i64_w, i32_w]
                  rfl
                refine pure_ (i := 1) (N := some 18) (v := ?_) (a' := ?_) #[true, true, false, false, false, false, false, false, false, false] rfl rfl (any_of HT_.out (by kernel_rfl)) (fun _ _ _ h => h) (Or.inl ⟨by rfl, ?_⟩) ?_ ?_
                rotate_left
                · intro w'
                  first | (go_simp; with_reducible rfl) | (simp [go_sem, Instr.field, asAgg] <;> with_reducible rfl)
                rotate_left
                · simp only [Act.put, List.setIfInBounds_toArray, List.set_cons_zero, List.set_cons_succ, i64_w, i32_w]
                  rfl
                refine pure_ (i := 2) (N := some 19) (v := ?_) (a' := ?_) #[true, true, true, false, false, false, false, false, false, false] rfl rfl (any_of HT_.out (by kernel_rfl)) (fun _ _ _ h => h) (Or.inl ⟨by rfl, ?_⟩) ?_ ?_
                rotate_left
                · intro w'
                  first | (go_simp; with_reducible rfl) | (simp [go_sem, Instr.field, asAgg] <;> with_reducible rfl)
                rotate_left
                · simp only [Act.put, List.setIfInBounds_toArray, List.set_cons_zero, List.set_cons_succ, i64_w, i32_w]
                  rfl
                refine pure_ (i := 4) (N := some 21) (v := ?_) (a' := ?_) #[true, true, true, false, true, false, false, false, false, false] rfl rfl (any_of HT_.out (by kernel_rfl)) (fun _ _ _ h => h) (Or.inl ⟨by rfl, ?_⟩) ?_ ?_
                rotate_left
                · intro w'
                  first | (go_simp; with_reducible rfl) | (simp [go_sem, Instr.field, asAgg] <;> with_reducible rfl)
                rotate_left
                · simp only [Act.put, List.setIfInBounds_toArray, List.set_cons_zero, List.set_cons_succ, i64_w, i32_w]
                  rfl
                refine pure_ (i := 5) (N := some 22) (v := ?_) (a' := ?_) #[true, true, true, false, true, true, false, false, false, false] rfl rfl (any_of HT_.out (by kernel_rfl)) (fun _ _ _ h => h) (Or.inl ⟨by rfl, ?_⟩) ?_ ?_
                rotate_left
                · intro w'
                  first | (go_simp; with_reducible rfl) | (simp [go_sem, Instr.field, asAgg] <;> with_reducible rfl)
                rotate_left
                · simp only [Act.put, List.setIfInBounds_toArray, List.set_cons_zero, List.set_cons_succ, i64_w, i32_w]
                  rfl
                refine pure_ (i := 6) (N := some 23) (v := ?_) (a' := ?_) #[true, true, true, false, true, true, true, false, false, false] rfl rfl (any_of HT_.out (by kernel_rfl)) (fun _ _ _ h => h) (Or.inl ⟨by rfl, ?_⟩) ?_ ?_
                rotate_left
                · intro w'
                  first | (go_simp; with_reducible rfl) | (simp [go_sem, Instr.field, asAgg] <;> with_reducible rfl)
                rotate_left
                · simp only [Act.put, List.setIfInBounds_toArray, List.set_cons_zero, List.set_cons_succ, i64_w, i32_w]
                  rfl
                refine take_ (i := 3) (N := some 20) (v := ?_) (a' := ?_) #[true, true, true, true, true, true, true, false, false, false] rfl rfl (take_ofW HT_.out HW_.out (by kernel_rfl)) (fun _ _ _ h => h) (Or.inl ⟨by rfl, ?_⟩) hHeld ?_ ?_
                rotate_left
                · rintro w' ⟨s0, s1, s2, s3, s4, s5⟩
                  go_simp
                  with_reducible rfl
                rotate_left
                · simp only [Act.put, List.setIfInBounds_toArray, List.set_cons_zero, List.set_cons_succ, i64_w, i32_w]
                  rfl
                refine take_ (i := 7) (N := some 24) (v := ?_) (a' := ?_) #[true, true, true, true, true, true, true, true, false, false] rfl rfl (take_ofW HT_.out HW_.out (by kernel_rfl)) (fun _ _ _ h => h) (Or.inl ⟨by rfl, ?_⟩) hHeld ?_ ?_
                rotate_left
                · rintro w' ⟨s0, s1, s2, s3, s4, s5⟩
                  go_simp
                  with_reducible rfl
                rotate_left
                · simp only [Act.put, List.setIfInBounds_toArray, List.set_cons_zero, List.set_cons_succ, i64_w, i32_w]
                  rfl
                refine one_ (i := 8) (N := some 25) #[true, true, true, true, true, true, true, true, true, false] rfl rfl (one_of HT_.out (by kernel_rfl)) (by decide) (fun K hK => ?_)
                refine goes_ Try.func16 (by kernel_rfl) rfl #[.agg #[.int .i64 ((rd_T29 l0 x5_1).f0), .int .i64 ((rd_T29 l0 x5_1).f1), .slice A122_2 ((rd_T29 l0 x5_1).f2).length c122_2], .agg #[.int .i64 ((rd_T29 l1 x5_1).f0), .int .i64 ((rd_T29 l1 x5_1).f1), .slice A123_2 ((rd_T29 l1 x5_1).f2).length c123_2]] (by rfl) rfl rfl (by (try simp only [List.map_toArray, List.map_cons, List.map_nil]); first | done | rfl | (simp only [List.length_drop, List.length_take]; rfl)) ?_
                with_reducible refine (ihG k1 (by have := HK1.out; omega) ((rd_T29 l0 x5_1).f0) ((rd_T29 l0 x5_1).f1) _ _ ((rd_T29 l0 x5_1).f2) ((rd_T29 l1 x5_1).f0) ((rd_T29 l1 x5_1).f1) _ _ ((rd_T29 l1 x5_1).f2) true _ ?side1 ?side2 ?side3 ?side4 A7.out).mono ?_
                (case side1 => repeat (first | exact (Kd.C_below HR122_2.out HB.out) | (with_reducible refine Kd.C_alloc ?_ _) | (with_reducible refine Kd.C_drewN ?_ _) | (with_reducible refine Kd.C_drew ?_)))
                (case side2 => exact HC122_2.out)
                (case side3 => repeat (first | exact (Kd.C_below HR123_2.out HB.out) | (with_reducible refine Kd.C_alloc ?_ _) | (with_reducible refine Kd.C_drewN ?_ _) | (with_reducible refine Kd.C_drew ?_)))
                (case side4 => exact HC123_2.out)
                rintro e w10 ⟨rfl, hb⟩
                refine ⟨_, rfl, ?_⟩
                have n0_ := Aside0.mk (below_step (by repeat (first | (with_reducible first | exact HB.out | apply below_alloc | apply pw_below_drewN | apply below_drew1) | exact HB.out)) hb)
                clear HB
                have HB := n0_
                clear n0_
                (try clear hb)
                (try clear hb2)
                (try clear hk)
                (try clear hi)
                refine hK.out _ _ ⟨((HB.out.cell (World.block_lt_of_cell? w _ hw122_0)).trans hw122_0), ((HB.out.cell (World.block_lt_of_cell? w _ hw122_1)).trans hw122_1), ((HB.out.cell (World.block_lt_of_cell? w _ hw122_2)).trans hw122_2), ((HB.out.cell (World.block_lt_of_cell? w _ hw123_0)).trans hw123_0), ((HB.out.cell (World.block_lt_of_cell? w _ hw123_1)).trans hw123_1), ((HB.out.cell (World.block_lt_of_cell? w _ hw123_2)).trans hw123_2)⟩ (fun hHeld => ?_)
                clear hK K
                refine norm_ (a' := ?_) ?_ ?_
                rotate_left
                · show Act.put _ (some 25) _ = _
                  simp only [Act.put, List.setIfInBounds_toArray, List.set_cons_zero, List.set_cons_succ, i64_w, i32_w]
                  rfl
                refine pure_ (i := 9) (N := some 26) (v := ?_) (a' := ?_) #[true, true, true, true, true, true, true, true, true, true] rfl rfl (any_of HT_.out (by kernel_rfl)) (fun _ _ _ h => h) (Or.inl ⟨by rfl, ?_⟩) ?_ ?_
                rotate_left
                · intro w'
                  first | (go_simp; with_reducible rfl) | (simp [go_sem, Instr.field, asAgg] <;> with_reducible rfl)
                rotate_left
                · simp only [Act.put, List.setIfInBounds_toArray, List.set_cons_zero, List.set_cons_succ, i64_w, i32_w]
                  rfl
                refine done_ (done_of HT_.out (by kernel_rfl)) ?_
                try go_wp2
                go_roundg k1
                case measure => have := HK1.out; omega
                case rel => exact ⟨(wrap64 (x5_1 + 1)), (by first | rfl | (simp; done) | (simp [*]; done)), H', ⟨by have := HK1.out; omega⟩, ⟨by repeat (first | (with_reducible first | exact HB.out | apply below_alloc | apply pw_below_drewN | apply below_drew1) | exact HB.out)⟩⟩
              · replace c8 := Bool.eq_false_iff.mpr c8
                subst c8
                have H1 : (some false) = some r := by rw [if_neg (show ¬ (false = true) by decide)] at H; exact H
                clear H
                have H := H1
                clear H1
                obtain rfl := Option.some.inj H
                try go_wp2
                have n0_ := Aside0.mk (below_drew1 HB.out)
                clear HB
                have HB := n0_
                clear n0_
                have p122 : 0 ≤ (x5_1 : Int) := of_decide_eq_true (by first | (with_reducible assumption) | assumption)
                have q122 : x5_1 < (l0.length : Int) := of_decide_eq_true (by first | (with_reducible assumption) | assumption)
                obtain ⟨ad122, A122_2, c122_2, e122, hx122_0, hx122_1, hx122_2, hl122_2, hi122_2⟩ := at_T29 HR0.out x5_1 p122 q122
                have hw122_2 := hx122_2
                have hw122_1 := hx122_1
                have hw122_0 := hx122_0
                cases e122
                replace hx122_0 := (HB.out.cell (World.block_lt_of_cell? w _ hx122_0)).trans hx122_0
                replace hx122_1 := (HB.out.cell (World.block_lt_of_cell? w _ hx122_1)).trans hx122_1
                replace hx122_2 := (HB.out.cell (World.block_lt_of_cell? w _ hx122_2)).trans hx122_2
                have HR122_2 := Aside0.mk hi122_2
                have HC122_2 := Aside0.mk hl122_2
                clear hi122_2 hl122_2
                replace p122 := eq_true p122
                replace q122 := eq_true q122
                have p123 : 0 ≤ (x5_1 : Int) := of_decide_eq_true (by first | (with_reducible assumption) | assumption)
                have q123 : x5_1 < (l1.length : Int) := of_decide_eq_true (by first | (with_reducible assumption) | assumption)
                obtain ⟨ad123, A123_2, c123_2, e123, hx123_0, hx123_1, hx123_2, hl123_2, hi123_2⟩ := at_T29 HR1.out x5_1 p123 q123
                have hw123_2 := hx123_2
                have hw123_1 := hx123_1
                have hw123_0 := hx123_0
                cases e123
                replace hx123_0 := (HB.out.cell (World.block_lt_of_cell? w _ hx123_0)).trans hx123_0
                replace hx123_1 := (HB.out.cell (World.block_lt_of_cell? w _ hx123_1)).trans hx123_1
                replace hx123_2 := (HB.out.cell (World.block_lt_of_cell? w _ hx123_2)).trans hx123_2
                have HR123_2 := Aside0.mk hi123_2
                have HC123_2 := Aside0.mk hl123_2
                clear hi123_2 hl123_2
                replace p123 := eq_true p123
                replace q123 := eq_true q123
                refine start_ (n := 10) (S := fun w' => w'.cell? (ad122.add ((x5_1).toNat * 3)) = some (.int .i64 ((rd_T29 l0 x5_1).f0)) ∧ w'.cell? ⟨(ad122.add ((x5_1).toNat * 3)).block, (ad122.add ((x5_1).toNat * 3)).off + 1, none⟩ = some (.int .i64 ((rd_T29 l0 x5_1).f1)) ∧ w'.cell? ⟨(ad122.add ((x5_1).toNat * 3)).block, (ad122.add ((x5_1).toNat * 3)).off + 2, none⟩ = some (.slice A122_2 ((rd_T29 l0 x5_1).f2).length c122_2) ∧ w'.cell? (ad123.add ((x5_1).toNat * 3)) = some (.int .i64 ((rd_T29 l1 x5_1).f0)) ∧ w'.cell? ⟨(ad123.add ((x5_1).toNat * 3)).block, (ad123.add ((x5_1).toNat * 3)).off + 1, none⟩ = some (.int .i64 ((rd_T29 l1 x5_1).f1)) ∧ w'.cell? ⟨(ad123.add ((x5_1).toNat * 3)).block, (ad123.add ((x5_1).toNat * 3)).off + 2, none⟩ = some (.slice A123_2 ((rd_T29 l1 x5_1).f2).length c123_2)) (ds := []) #[false, false, false, false, false, false, false, false, false, false] (by kernel_rfl) rfl rfl ⟨((HB.out.cell (World.block_lt_of_cell? w _ hw122_0)).trans hw122_0), ((HB.out.cell (World.block_lt_of_cell? w _ hw122_1)).trans hw122_1), ((HB.out.cell (World.block_lt_of_cell? w _ hw122_2)).trans hw122_2), ((HB.out.cell (World.block_lt_of_cell? w _ hw123_0)).trans hw123_0), ((HB.out.cell (World.block_lt_of_cell? w _ hw123_1)).trans hw123_1), ((HB.out.cell (World.block_lt_of_cell? w _ hw123_2)).trans hw123_2)⟩ (fun hHeld => ?_); refine with_tabW laws_eqGateS.tab6 laws_eqGateS.bits6 (fun HT_ HW_ => ?_)
                generalize wr.drew = w11 at HB HR122_2 HR123_2 hx122_0 hx122_1 hx122_2 hx123_0 hx123_1 hx123_2 hHeld ⊢
                refine pure_ (i := 0) (N := some 17) (v := ?_) (a' := ?_) #[true, false, false, false, false, false, false, false, false, false] rfl rfl (any_of HT_.out (by kernel_rfl)) (fun _ _ _ h => h) (Or.inl ⟨by rfl, ?_⟩) ?_ ?_
                rotate_left
                · intro w'
                  first | (go_simp; with_reducible rfl) | (simp [go_sem, Instr.field, asAgg] <;> with_reducible rfl)
                rotate_left
                · simp only [Act.put, List.setIfInBounds_toArray, List.set_cons_zero, List.set_cons_succ, i64_w, i32_w]
                  rfl
                refine pure_ (i := 1) (N := some 18) (v := ?_) (a' := ?_) #[true, true, false, false, false, false, false, false, false, false] rfl rfl (any_of HT_.out (by kernel_rfl)) (fun _ _ _ h => h) (Or.inl ⟨by rfl, ?_⟩) ?_ ?_
                rotate_left
                · intro w'
                  first | (go_simp; with_reducible rfl) | (simp [go_sem, Instr.field, asAgg] <;> with_reducible rfl)
                rotate_left
                · simp only [Act.put, List.setIfInBounds_toArray, List.set_cons_zero, List.set_cons_succ, i64_w, i32_w]
                  rfl
                refine pure_ (i := 2) (N := some 19) (v := ?_) (a' := ?_) #[true, true, true, false, false, false, false, false, false, false] rfl rfl (any_of HT_.out (by kernel_rfl)) (fun _ _ _ h => h) (Or.inl ⟨by rfl, ?_⟩) ?_ ?_
                rotate_left
                · intro w'
                  first | (go_simp; with_reducible rfl) | (simp [go_sem, Instr.field, asAgg] <;> with_reducible rfl)
                rotate_left
                · simp only [Act.put, List.setIfInBounds_toArray, List.set_cons_zero, List.set_cons_succ, i64_w, i32_w]
                  rfl
                refine pure_ (i := 4) (N := some 21) (v := ?_) (a' := ?_) #[true, true, true, false, true, false, false, false, false, false] rfl rfl (any_of HT_.out (by kernel_rfl)) (fun _ _ _ h => h) (Or.inl ⟨by rfl, ?_⟩) ?_ ?_
                rotate_left
                · intro w'
                  first | (go_simp; with_reducible rfl) | (simp [go_sem, Instr.field, asAgg] <;> with_reducible rfl)
                rotate_left
                · simp only [Act.put, List.setIfInBounds_toArray, List.set_cons_zero, List.set_cons_succ, i64_w, i32_w]
                  rfl
                refine pure_ (i := 5) (N := some 22) (v := ?_) (a' := ?_) #[true, true, true, false, true, true, false, false, false, false] rfl rfl (any_of HT_.out (by kernel_rfl)) (fun _ _ _ h => h) (Or.inl ⟨by rfl, ?_⟩) ?_ ?_
                rotate_left
                · intro w'
                  first | (go_simp; with_reducible rfl) | (simp [go_sem, Instr.field, asAgg] <;> with_reducible rfl)
                rotate_left
                · simp only [Act.put, List.setIfInBounds_toArray, List.set_cons_zero, List.set_cons_succ, i64_w, i32_w]
                  rfl
                refine pure_ (i := 6) (N := some 23) (v := ?_) (a' := ?_) #[true, true, true, false, true, true, true, false, false, false] rfl rfl (any_of HT_.out (by kernel_rfl)) (fun _ _ _ h => h) (Or.inl ⟨by rfl, ?_⟩) ?_ ?_
                rotate_left
                · intro w'
                  first | (go_simp; with_reducible rfl) | (simp [go_sem, Instr.field, asAgg] <;> with_reducible rfl)
                rotate_left
                · simp only [Act.put, List.setIfInBounds_toArray, List.set_cons_zero, List.set_cons_succ, i64_w, i32_w]
                  rfl
                refine take_ (i := 3) (N := some 20) (v := ?_) (a' := ?_) #[true, true, true, true, true, true, true, false, false, false] rfl rfl (take_ofW HT_.out HW_.out (by kernel_rfl)) (fun _ _ _ h => h) (Or.inl ⟨by rfl, ?_⟩) hHeld ?_ ?_
                rotate_left
                · rintro w' ⟨s0, s1, s2, s3, s4, s5⟩
                  go_simp
                  with_reducible rfl
                rotate_left
                · simp only [Act.put, List.setIfInBounds_toArray, List.set_cons_zero, List.set_cons_succ, i64_w, i32_w]
                  rfl
                refine take_ (i := 7) (N := some 24) (v := ?_) (a' := ?_) #[true, true, true, true, true, true, true, true, false, false] rfl rfl (take_ofW HT_.out HW_.out (by kernel_rfl)) (fun _ _ _ h => h) (Or.inl ⟨by rfl, ?_⟩) hHeld ?_ ?_
                rotate_left
                · rintro w' ⟨s0, s1, s2, s3, s4, s5⟩
                  go_simp
                  with_reducible rfl
                rotate_left
                · simp only [Act.put, List.setIfInBounds_toArray, List.set_cons_zero, List.set_cons_succ, i64_w, i32_w]
                  rfl
                refine one_ (i := 8) (N := some 25) #[true, true, true, true, true, true, true, true, true, false] rfl rfl (one_of HT_.out (by kernel_rfl)) (by decide) (fun K hK => ?_)
                refine goes_ Try.func16 (by kernel_rfl) rfl #[.agg #[.int .i64 ((rd_T29 l0 x5_1).f0), .int .i64 ((rd_T29 l0 x5_1).f1), .slice A122_2 ((rd_T29 l0 x5_1).f2).length c122_2], .agg #[.int .i64 ((rd_T29 l1 x5_1).f0), .int .i64 ((rd_T29 l1 x5_1).f1), .slice A123_2 ((rd_T29 l1 x5_1).f2).length c123_2]] (by rfl) rfl rfl (by (try simp only [List.map_toArray, List.map_cons, List.map_nil]); first | done | rfl | (simp only [List.length_drop, List.length_take]; rfl)) ?_
                with_reducible refine (ihG k1 (by have := HK1.out; omega) ((rd_T29 l0 x5_1).f0) ((rd_T29 l0 x5_1).f1) _ _ ((rd_T29 l0 x5_1).f2) ((rd_T29 l1 x5_1).f0) ((rd_T29 l1 x5_1).f1) _ _ ((rd_T29 l1 x5_1).f2) false _ ?side1 ?side2 ?side3 ?side4 A7.out).mono ?_
                (case side1 => repeat (first | exact (Kd.C_below HR122_2.out HB.out) | (with_reducible refine Kd.C_alloc ?_ _) | (with_reducible refine Kd.C_drewN ?_ _) | (with_reducible refine Kd.C_drew ?_)))
                (case side2 => exact HC122_2.out)
                (case side3 => repeat (first | exact (Kd.C_below HR123_2.out HB.out) | (with_reducible refine Kd.C_alloc ?_ _) | (with_reducible refine Kd.C_drewN ?_ _) | (with_reducible refine Kd.C_drew ?_)))
                (case side4 => exact HC123_2.out)
                rintro e w12 ⟨rfl, hb⟩
                refine ⟨_, rfl, ?_⟩
                have n0_ := Aside0.mk (below_step (by repeat (first | (with_reducible first | exact HB.out | apply below_alloc | apply pw_below_drewN | apply below_drew1) | exact HB.out)) hb)
                clear HB
                have HB := n0_
                clear n0_
                (try clear hb)
                (try clear hb2)
                (try clear hk)
                (try clear hi)
                refine hK.out _ _ ⟨((HB.out.cell (World.block_lt_of_cell? w _ hw122_0)).trans hw122_0), ((HB.out.cell (World.block_lt_of_cell? w _ hw122_1)).trans hw122_1), ((HB.out.cell (World.block_lt_of_cell? w _ hw122_2)).trans hw122_2), ((HB.out.cell (World.block_lt_of_cell? w _ hw123_0)).trans hw123_0), ((HB.out.cell (World.block_lt_of_cell? w _ hw123_1)).trans hw123_1), ((HB.out.cell (World.block_lt_of_cell? w _ hw123_2)).trans hw123_2)⟩ (fun hHeld => ?_)
                clear hK K
                refine norm_ (a' := ?_) ?_ ?_
                rotate_left
                · show Act.put _ (some 25) _ = _
                  simp only [Act.put, List.setIfInBounds_toArray, List.set_cons_zero, List.set_cons_succ, i64_w, i32_w]
                  rfl
                refine pure_ (i := 9) (N := some 26) (v := ?_) (a' := ?_) #[true, true, true, true, true, true, true, true, true, true] rfl rfl (any_of HT_.out (by kernel_rfl)) (fun _ _ _ h => h) (Or.inl ⟨by rfl, ?_⟩) ?_ ?_
                rotate_left
                · intro w'
                  first | (go_simp; with_reducible rfl) | (simp [go_sem, Instr.field, asAgg] <;> with_reducible rfl)
                rotate_left
                · simp only [Act.put, List.setIfInBounds_toArray, List.set_cons_zero, List.set_cons_succ, i64_w, i32_w]
                  rfl
                refine done_ (done_of HT_.out (by kernel_rfl)) ?_
                try go_wp2
                go_ret
                exact ⟨by first | rfl | (simp [errW_none, errW_some] <;> rfl) | (simp [*, errW_none, errW_some] <;> rfl), by repeat (first | (with_reducible first | exact HB.out | apply below_alloc | apply pw_below_drewN | apply below_drew1) | exact HB.out)⟩
            · rw [if_neg c6] at H
              exact absurd H (by simp)
          · rw [if_neg c5] at H
            exact absurd H (by simp)
        · rw [if_neg c4] at H
          have c4b0 : decide (x5_1 < (l0.length : Int)) = false := decide_eq_false c4
          clear c4
          obtain rfl := Option.some.inj H
          go_wp2
          go_ret
          exact ⟨by first | rfl | (simp [errW_none, errW_some] <;> rfl) | (simp [*, errW_none, errW_some] <;> rfl), by repeat (first | (with_reducible first | exact HB.out | apply below_alloc | apply pw_below_drewN | apply below_drew1) | exact HB.out)⟩
  · rw [if_neg c3] at H
    have c3b0 : ((l0.length : Int) == (l1.length : Int)) = false := beq_eq_false_iff_ne.mpr c3
    have c3b1 : ((l0.length : Int) != (l1.length : Int)) = true := bne_iff_ne.mpr c3
    have c3b2 : (l0.length == l1.length) = false := by first | simpa using c3 | (simp at c3 ⊢; omega)
    obtain rfl := Option.some.inj H
    go_enter Try.func46, Try.ntmps46
    go_wp2
    go_ret
    exact ⟨by first | rfl | (simp [errW_none, errW_some] <;> rfl) | (simp [*, errW_none, errW_some] <;> rfl), by repeat (first | (with_reducible first | exact HB.out | apply below_alloc | apply pw_below_drewN | apply below_drew1) | exact HB.out)⟩
theorem laws_eqGate.calls (k : Nat) (a0_0 : Int) (a0_1 : Int) (A0_2 : Option Addr) (c0_2 : Nat) (l0_2 : List (S29)) (a1_0 : Int) (a1_1 : Int) (A1_2 : Option Addr) (c1_2 : Nat) (l1_2 : List (S29)) (r : Bool) (w : World) (hr0_2 : Kd.C k29 w A0_2 l0_2.length l0_2) (hc0_2 : l0_2.length ≤ c0_2) (hr1_2 : Kd.C k29 w A1_2 l1_2.length l1_2) (hc1_2 : l1_2.length ≤ c1_2) (h : laws_eqGate.f k a0_0 a0_1 l0_2 a1_0 a1_1 l1_2 = some r) :
    Calls Try.prog 16 #[.agg #[.int .i64 a0_0, .int .i64 a0_1, .slice A0_2 l0_2.length c0_2], .agg #[.int .i64 a1_0, .int .i64 a1_1, .slice A1_2 l1_2.length c1_2]] w fun e w' => e = .returned (.bool r) ∧ Below w.heap.size w w' := by
  cases k with
  | zero => exact absurd h (by simp [laws_eqGate.f])
  | succ k => exact laws_eqGate.calls_of k (laws_eqGateS.calls k) a0_0 a0_1 A0_2 c0_2 l0_2 a1_0 a1_1 A1_2 c1_2 l1_2 r w hr0_2 hc0_2 hr1_2 hc1_2 h

end Go.Proofs.Ytjnobnmjhpmpfaa.P

namespace Go.Proofs.Ytjnobnmjhpmpfaa.P
open Go.RowKit Go.Proofs.YtjnobnmjhpmpfaaW.PrintWords Go.Proofs.YtjnobnmjhpmpfaaW.PrintLast Go.Proofs.YtjnobnmjhpmpfaaW.PrintMore
attribute [local go_sem] max2_int min2_int max_two min_two max_three min_three max_four min_four
set_option linter.unusedVariables false
set_option linter.unusedSimpArgs false

mutual
/-- A tree as the program's own type. -/
def cvT : S24 → S29
  | ⟨a, b, l⟩ => ⟨a, b, cvL l⟩
def cvL : List S24 → List S29
  | [] => []
  | x :: l => cvT x :: cvL l
end

end Go.Proofs.Ytjnobnmjhpmpfaa.P

namespace Go.Proofs.Ytjnobnmjhpmpfaa.P
open Go.RowKit Go.Proofs.YtjnobnmjhpmpfaaW.PrintWords Go.Proofs.YtjnobnmjhpmpfaaW.PrintLast Go.Proofs.YtjnobnmjhpmpfaaW.PrintMore
attribute [local go_sem] max2_int min2_int max_two min_two max_three min_three max_four min_four
set_option linter.unusedVariables false
set_option linter.unusedSimpArgs false

mutual
/-- How many nodes lie below a gate. -/
def nT : S24 → Nat
  | ⟨_, _, l⟩ => nL l
def nL : List S24 → Nat
  | [] => 0
  | x :: l => 1 + nT x + nL l
end
mutual
def mT : S29 → Nat
  | ⟨_, _, l⟩ => mL l
def mL : List S29 → Nat
  | [] => 0
  | x :: l => 1 + mT x + mL l
end
def sT : List S24 → Nat
  | [] => 0
  | x :: l => nT x + sT l
theorem nT_kids (x : S24) : nT x = nL x.f2 := by cases x; simp [nT]
theorem mT_kids (x : S29) : mT x = mL x.f2 := by cases x; simp [mT]
theorem nL_sum : ∀ l : List S24, nL l = l.length + sT l
  | [] => by simp [nL, sT]
  | x :: l => by simp only [nL, sT, List.length_cons, nL_sum l]; omega
theorem nL_mem {l : List S24} {x : S24} (h : x ∈ l) : nT x < nL l := by
  induction l with
  | nil => simp at h
  | cons y l ih =>
    simp only [nL]
    rcases List.mem_cons.mp h with rfl | h
    · omega
    · have := ih h; omega
theorem mL_mem {l : List S29} {x : S29} (h : x ∈ l) : mT x < mL l := by
  induction l with
  | nil => simp at h
  | cons y l ih =>
    simp only [mL]
    rcases List.mem_cons.mp h with rfl | h
    · omega
    · have := ih h; omega
theorem mL_len : ∀ l : List S29, l.length ≤ mL l
  | [] => by simp [mL]
  | x :: l => by have := mL_len l; simp only [mL, List.length_cons]; omega
theorem cvL_map : ∀ l : List S24, cvL l = l.map cvT
  | [] => rfl
  | x :: l => by simp only [cvL, List.map_cons, cvL_map l]
mutual
theorem mT_cv : ∀ x : S24, mT (cvT x) = nT x
  | ⟨a, b, l⟩ => by simp only [cvT, mT, nT, mL_cv l]
theorem mL_cv : ∀ l : List S24, mL (cvL l) = nL l
  | [] => rfl
  | x :: l => by simp only [cvL, mL, nL, mT_cv x, mL_cv l]
end
theorem cvT_parts (x : S24) : cvT x = ⟨x.f0, x.f1, cvL x.f2⟩ := by cases x; simp only [cvT]
theorem rdT_law (xs : List S24) (i : Nat) (h : i < xs.length) : rd_T24 xs (i : Int) = xs[i] := by simp [rd_T24, h]
theorem rdT_impl (xs : List S29) (i : Nat) (h : i < xs.length) : rd_T29 xs (i : Int) = xs[i] := by simp [rd_T29, h]
/-- Lists that are no longer than a list may be. -/
inductive wfG : S24 → Prop
  | mk (x : S24) : x.f2.length ≤ 9223372036854775807 → (∀ y ∈ x.f2, wfG y) → wfG x
def wfL (l : List S24) : Prop := l.length ≤ 9223372036854775807 ∧ ∀ y ∈ l, wfG y
theorem wfL_kids {x : S24} (h : wfG x) : wfL x.f2 := by
  cases h with
  | mk _ h3 h4 => exact ⟨h3, h4⟩
def szV (left : Int) (m : Nat) : Int := if (m : Int) ≤ left then left - m else -1
theorem szGateS_ev : ∀ (n : Nat) (l : List S24), nL l ≤ n → wfL l → ∀ left : Int, 0 ≤ left → left ≤ 1048576 → Ev (fun k => laws_szGateS.f k l left) (szV left (nL l)) := by
  intro n
  induction n with
  | zero =>
    intro l hn hw left h0 h1
    have hs := nL_sum l
    refine Ev.step (f := fun k => laws_szGateS.l0 k l left 0) (fun k => ?_) (Ev.step (f := fun _ => some left) (fun k => ?_) ?_)
    · simp only [laws_szGateS.f]
      rw [wr (by omega) (by omega), if_neg (by omega), show left - (l.length : Int) = left by omega]
    · simp only [laws_szGateS.l0]
      rw [if_neg (by omega)]
    · rw [show szV left (nL l) = left from by unfold szV; rw [if_pos (by omega)]; omega]
      exact Ev.now _
  | succ n ih =>
    intro l hn hw left h0 h1
    have hs := nL_sum l
    have hlen := hw.1
    by_cases hc : left - (l.length : Int) < 0
    · refine Ev.step (f := fun _ => some (-1)) (fun k => ?_) ?_
      · simp only [laws_szGateS.f]
        rw [wr (by omega) (by omega), if_pos hc]
      · rw [show szV left (nL l) = -1 from by unfold szV; rw [if_neg (by omega)]]
        exact Ev.now _
    · have key : ∀ d i : Nat, i + d = l.length → ∀ b : Int, 0 ≤ b → b ≤ 1048576 → Ev (fun k => laws_szGateS.l0 k l b (i : Int)) (szV b (sT (l.drop i))) := by
        intro d
        induction d with
        | zero =>
          intro i hi b hb0 hb1
          rw [List.drop_eq_nil_of_le (by omega), show szV b (sT []) = b from by unfold szV sT; rw [if_pos (by omega)]; omega]
          refine Ev.step (f := fun _ => some b) (fun k => ?_) (Ev.now _)
          simp only [laws_szGateS.l0]
          rw [if_neg (by omega)]
        | succ d ihd =>
          intro i hi b hb0 hb1
          have hlt : i < l.length := by omega
          have hmem := List.getElem_mem hlt
          have hx := nL_mem hmem
          have hk := nT_kids l[i]
          have e1 : Ev (fun k => laws_szGate.f k l[i].f0 l[i].f1 l[i].f2 b) (szV b (nT l[i])) := by
            refine Ev.step (f := fun k => (laws_szGateS.f k l[i].f2 b).bind fun t => if t < 0 then some (-1) else some t) (fun k => by simp only [laws_szGate.f]) ?_
            refine Ev.bind (ih _ (by omega) (wfL_kids (hw.2 _ hmem)) b hb0 hb1) ?_
            rw [← hk]
            unfold szV
            by_cases hq : (nT l[i] : Int) ≤ b
            · rw [if_pos hq, if_neg (by omega)]; exact Ev.now _
            · rw [if_neg hq, if_pos (by omega)]; exact Ev.now _
          rw [List.drop_eq_getElem_cons hlt, show sT (l[i] :: l.drop (i + 1)) = nT l[i] + sT (l.drop (i + 1)) from rfl]
          refine Ev.step (f := fun k => (laws_szGate.f k l[i].f0 l[i].f1 l[i].f2 b).bind fun t => if t < 0 then some (-1) else laws_szGateS.l0 k l t ((i + 1 : Nat) : Int)) (fun k => ?_) (Ev.bind e1 ?_)
          · simp only [laws_szGateS.l0]
            rw [if_pos (by omega), if_pos (by omega), rdT_law l i hlt, wr (x := (i : Int) + 1) (by omega) (by omega)]
            rfl
          · by_cases hq : (nT l[i] : Int) ≤ b
            · have hv : szV b (nT l[i]) = b - nT l[i] := by unfold szV; rw [if_pos hq]
              rw [hv, show szV b (nT l[i] + sT (l.drop (i + 1))) = szV (b - nT l[i]) (sT (l.drop (i + 1))) from by unfold szV; by_cases h : ((sT (l.drop (i + 1)) : Nat) : Int) ≤ b - nT l[i]; rw [if_pos h, if_pos (by omega)]; omega; rw [if_neg h, if_neg (by omega)]]
              simp only [if_neg (show ¬ b - (nT l[i] : Int) < 0 by omega)]
              exact ihd (i + 1) (by omega) _ (by omega) (by omega)
            · have hv : szV b (nT l[i]) = -1 := by unfold szV; rw [if_neg hq]
              rw [hv, show szV b (nT l[i] + sT (l.drop (i + 1))) = -1 from by unfold szV; rw [if_neg (by omega)]]
              simp only [if_pos (show (-1 : Int) < 0 by omega)]
              exact Ev.now _
      have h := key l.length 0 (by omega) (left - (l.length : Int)) (by omega) (by omega)
      rw [List.drop_zero] at h
      refine Ev.step (f := fun k => laws_szGateS.l0 k l (left - (l.length : Int)) 0) (fun k => ?_) ?_
      · simp only [laws_szGateS.f]
        rw [wr (by omega) (by omega), if_neg hc]
      · rw [show szV left (nL l) = szV (left - (l.length : Int)) (sT l) from by unfold szV; rw [hs]; by_cases h : ((sT l : Nat) : Int) ≤ left - (l.length : Int); rw [if_pos h, if_pos (by omega)]; omega; rw [if_neg h, if_neg (by omega)]]
        exact h
theorem szGate_ev (a b : Int) (l : List S24) (hw : wfL l) (left : Int) (h0 : 0 ≤ left) (h1 : left ≤ 1048576) : Ev (fun k => laws_szGate.f k a b l left) (szV left (nL l)) := by
  refine Ev.step (f := fun k => (laws_szGateS.f k l left).bind fun t => if t < 0 then some (-1) else some t) (fun k => by simp only [laws_szGate.f]) ?_
  refine Ev.bind (szGateS_ev _ l (Nat.le_refl _) hw left h0 h1) ?_
  unfold szV
  by_cases hq : (nL l : Int) ≤ left
  · rw [if_pos hq, if_neg (by omega)]; exact Ev.now _
  · rw [if_neg hq, if_pos (by omega)]; exact Ev.now _
theorem toGateS_ev : ∀ (n : Nat) (l : List S24), nL l ≤ n → n ≤ 1048576 → Ev (fun k => laws_toGateS.f k l) (cvL l) := by
  intro n
  induction n with
  | zero =>
    intro l hn hm
    have hs := nL_sum l
    obtain rfl : l = [] := List.eq_nil_of_length_eq_zero (by omega)
    refine Ev.step (f := fun k => laws_toGateS.l0 k [] [] 0) (fun k => by simp [laws_toGateS.f]) (Ev.step (f := fun _ => some []) (fun k => by simp [laws_toGateS.l0]) (Ev.now _))
  | succ n ih =>
    intro l hn hm
    have hs := nL_sum l
    have key : ∀ d i : Nat, i + d = l.length → Ev (fun k => laws_toGateS.l0 k l ((l.take i).map cvT ++ List.replicate d z29) (i : Int)) (cvL l) := by
      intro d
      induction d with
      | zero =>
        intro i hi
        rw [List.take_of_length_le (by omega), List.replicate_zero, List.append_nil, ← cvL_map]
        refine Ev.step (f := fun _ => some (cvL l)) (fun k => ?_) (Ev.now _)
        simp only [laws_toGateS.l0]
        rw [if_neg (by omega)]
      | succ d ihd =>
        intro i hi
        have hlt : i < l.length := by omega
        have hmem := List.getElem_mem hlt
        have hx := nL_mem hmem
        have hk := nT_kids l[i]
        have e1 : Ev (fun k => laws_toGate.f k l[i].f0 l[i].f1 l[i].f2) (l[i].f0, l[i].f1, cvL l[i].f2) :=
          Ev.step (f := fun k => (laws_toGateS.f k l[i].f2).bind fun t => some (l[i].f0, l[i].f1, t)) (fun k => by simp only [laws_toGate.f]) (Ev.bind (ih l[i].f2 (by omega) (by omega)) (Ev.now _))
        refine Ev.step (f := fun k => (laws_toGate.f k l[i].f0 l[i].f1 l[i].f2).bind fun b => laws_toGateS.l0 k l (((l.take i).map cvT ++ List.replicate (d + 1) z29).set i ⟨b.1, b.2.1, b.2.2⟩) ((i + 1 : Nat) : Int)) (fun k => ?_) (Ev.bind e1 ?_)
        · simp only [laws_toGateS.l0]
          rw [if_pos (by omega), if_pos (by omega), rdT_law l i hlt, wr (by omega) (by omega)]
          simp only [if_pos (show (i : Int) < (((l.take i).map cvT ++ List.replicate (d + 1) z29).length : Int) by simp; omega), Int.toNat_natCast]
          rfl
        · have e0 : ((l.take i).map cvT).length = i := by rw [List.length_map, List.length_take]; omega
          have e : (((l.take i).map cvT) ++ List.replicate (d + 1) z29).set i ⟨l[i].f0, l[i].f1, cvL l[i].f2⟩ = (l.take (i + 1)).map cvT ++ List.replicate d z29 := by
            rw [List.set_append_right _ _ (by omega), e0, Nat.sub_self, List.replicate_succ, List.set_cons_zero, List.take_succ_eq_append_getElem hlt, List.map_append, List.append_assoc, ← cvT_parts]
            rfl
          dsimp only
          rw [e]
          exact ihd (i + 1) (by omega)
    have h := key l.length 0 (by omega)
    rw [List.take_zero, List.map_nil, List.nil_append] at h
    refine Ev.step (f := fun k => laws_toGateS.l0 k l (List.replicate l.length z29) 0) (fun k => ?_) h
    simp only [laws_toGateS.f]
    rw [if_pos (by omega), Int.toNat_natCast]
theorem toGate_ev (a b : Int) (l : List S24) (h : nL l ≤ 1048576) : Ev (fun k => laws_toGate.f k a b l) (a, b, cvL l) :=
  Ev.step (f := fun k => (laws_toGateS.f k l).bind fun t => some (a, b, t)) (fun k => by simp only [laws_toGate.f]) (Ev.bind (toGateS_ev _ l (Nat.le_refl _) h) (Ev.now _))
theorem eqGateS_same : ∀ (n : Nat) (l : List S29), mL l ≤ n → n ≤ 1048576 → Ev (fun k => laws_eqGateS.f k l l) true := by
  intro n
  induction n with
  | zero =>
    intro l hn hm
    have hs := mL_len l
    obtain rfl : l = [] := List.eq_nil_of_length_eq_zero (by omega)
    exact Ev.step (f := fun k => laws_eqGateS.l0 k [] [] 0) (fun k => by simp [laws_eqGateS.f]) (Ev.step (f := fun _ => some true) (fun k => by simp [laws_eqGateS.l0]) (Ev.now _))
  | succ n ih =>
    intro l hn hm
    have hs := mL_len l
    have key : ∀ d i : Nat, i + d = l.length → Ev (fun k => laws_eqGateS.l0 k l l (i : Int)) true := by
      intro d
      induction d with
      | zero =>
        intro i hi
        refine Ev.step (f := fun _ => some true) (fun k => ?_) (Ev.now _)
        simp only [laws_eqGateS.l0]
        rw [if_neg (by omega)]
      | succ d ihd =>
        intro i hi
        have hlt : i < l.length := by omega
        have hx := mL_mem (List.getElem_mem hlt)
        have hk := mT_kids l[i]
        have e1 : Ev (fun k => laws_eqGate.f k l[i].f0 l[i].f1 l[i].f2 l[i].f0 l[i].f1 l[i].f2) true :=
          Ev.step (f := fun k => (laws_eqGateS.f k l[i].f2 l[i].f2).bind fun t => if t = true then some true else some false) (fun k => by simp only [laws_eqGate.f, if_true]) (Ev.bind (ih l[i].f2 (by omega) (by omega)) (by simp only [if_true]; exact Ev.now _))
        refine Ev.step (f := fun k => (laws_eqGate.f k l[i].f0 l[i].f1 l[i].f2 l[i].f0 l[i].f1 l[i].f2).bind fun t => if t = true then laws_eqGateS.l0 k l l ((i + 1 : Nat) : Int) else some false) (fun k => ?_) (Ev.bind e1 ?_)
        · simp only [laws_eqGateS.l0]
          rw [if_pos (by omega), if_pos (by omega), if_pos (by omega), rdT_impl l i hlt, wr (by omega) (by omega)]
          rfl
        · exact ihd (i + 1) (by omega)
    exact Ev.step (f := fun k => laws_eqGateS.l0 k l l 0) (fun k => by simp only [laws_eqGateS.f, if_true]) (key l.length 0 (by omega))
theorem eqGate_same (a b : Int) (l : List S29) (h : mL l ≤ 1048576) : Ev (fun k => laws_eqGate.f k a b l a b l) true :=
  Ev.step (f := fun k => (laws_eqGateS.f k l l).bind fun t => if t = true then some true else some false) (fun k => by simp only [laws_eqGate.f, if_true]) (Ev.bind (eqGateS_same _ l (Nat.le_refl _) h) (by simp only [if_true]; exact Ev.now _))

end Go.Proofs.Ytjnobnmjhpmpfaa.P

namespace Go.Proofs.Ytjnobnmjhpmpfaa.P
open Go.RowKit Go.Proofs.YtjnobnmjhpmpfaaW.PrintWords Go.Proofs.YtjnobnmjhpmpfaaW.PrintLast Go.Proofs.YtjnobnmjhpmpfaaW.PrintMore
attribute [local go_sem] max2_int min2_int max_two min_two max_three min_three max_four min_four
set_option linter.unusedVariables false
set_option linter.unusedSimpArgs false

/-! ### spec_l02Size: function 44 (by hand) -/
end Go.Proofs.Ytjnobnmjhpmpfaa.P

namespace Go.Proofs.Ytjnobnmjhpmpfaa.P
open Go.RowKit Go.Proofs.YtjnobnmjhpmpfaaW.PrintWords Go.Proofs.YtjnobnmjhpmpfaaW.PrintLast Go.Proofs.YtjnobnmjhpmpfaaW.PrintMore
attribute [local go_sem] max2_int min2_int max_two min_two max_three min_three max_four min_four
set_option linter.unusedVariables false
set_option linter.unusedSimpArgs false

/-! ### spec_GateSize: function 13 (by hand) -/
end Go.Proofs.Ytjnobnmjhpmpfaa.P

namespace Go.Proofs.Ytjnobnmjhpmpfaa.P
open Go.RowKit Go.Proofs.YtjnobnmjhpmpfaaW.PrintWords Go.Proofs.YtjnobnmjhpmpfaaW.PrintLast Go.Proofs.YtjnobnmjhpmpfaaW.PrintMore
attribute [local go_sem] max2_int min2_int max_two min_two max_three min_three max_four min_four
set_option linter.unusedVariables false
set_option linter.unusedSimpArgs false

def rT : List S29 → Nat
  | [] => 0
  | x :: l => (1 + mT x) + rT l
theorem rT_mL : ∀ l : List S29, rT l = mL l
  | [] => rfl
  | x :: l => by simp only [rT, mL, rT_mL l]
theorem impl_GateSize_ev : ∀ (n : Nat) (a b : Int) (l : List S29), mL l ≤ n → n ≤ 1048576 → Ev (fun k => impl_GateSize.f k a b l) ((1 + mL l : Nat) : Int) := by
  intro n
  induction n using Nat.strongRecOn with
  | _ n ih =>
    intro a0 a1 l hn hm
    have hr := rT_mL l
    have hl := mL_len l
    have key : ∀ d i : Nat, i + d = l.length → ∀ b : Nat, b + rT (l.drop i) ≤ 1048577 → Ev (fun k => impl_GateSize.l0 k (b : Int) l (l.length : Int) (i : Int)) ((b + rT (l.drop i) : Nat) : Int) := by
      intro d
      induction d with
      | zero =>
        intro i hi b hb
        rw [List.drop_eq_nil_of_le (by omega), show b + rT [] = b from rfl]
        refine Ev.step (f := fun _ => some (b : Int)) (fun k => ?_) (Ev.now _)
        simp only [impl_GateSize.l0]
        rw [if_neg (by omega)]
      | succ d ihd =>
        intro i hi b hb
        have hlt : i < l.length := by omega
        have hx := mL_mem (List.getElem_mem hlt)
        have hk := mT_kids l[i]
        rw [List.drop_eq_getElem_cons hlt, show rT (l[i] :: l.drop (i + 1)) = (1 + mT l[i]) + rT (l.drop (i + 1)) from rfl] at hb ⊢
        have hnext := ihd (i + 1) (by omega) (b + (1 + mT l[i])) (by omega)
        refine Ev.step (f := fun k => (impl_GateSize.f k l[i].f0 l[i].f1 l[i].f2).bind fun t => impl_GateSize.l0 k (wrap64 ((b : Int) + t)) l (l.length : Int) ((i + 1 : Nat) : Int)) (fun k => ?_) (Ev.bind (ih (mL l[i].f2) (by omega) _ _ _ (Nat.le_refl _) (by omega)) ?_)
        · simp only [impl_GateSize.l0]
          rw [if_pos (by omega), if_pos (by omega), if_pos (by omega), rdT_impl _ i hlt, wr (x := (i : Int) + 1) (by omega) (by omega)]
          rfl
        · rw [← hk, wr (by omega) (by omega), show (b : Int) + ((1 + mT l[i] : Nat) : Int) = ((b + (1 + mT l[i]) : Nat) : Int) by omega, show b + (1 + mT l[i] + rT (l.drop (i + 1))) = b + (1 + mT l[i]) + rT (l.drop (i + 1)) by omega]
          exact hnext
    have h := key l.length 0 (by omega) 1 (by rw [List.drop_zero]; omega)
    rw [List.drop_zero, hr] at h
    exact Ev.step (f := fun k => impl_GateSize.l0 k 1 l (l.length : Int) 0) (fun k => by simp only [impl_GateSize.f]) h
end Go.Proofs.Ytjnobnmjhpmpfaa.P

namespace Go.Proofs.Ytjnobnmjhpmpfaa.P
open Go.RowKit Go.Proofs.YtjnobnmjhpmpfaaW.PrintWords Go.Proofs.YtjnobnmjhpmpfaaW.PrintLast Go.Proofs.YtjnobnmjhpmpfaaW.PrintMore
attribute [local go_sem] max2_int min2_int max_two min_two max_three min_three max_four min_four
set_option linter.unusedVariables false
set_option linter.unusedSimpArgs false

theorem idxG_ev (p : Nat → S29 → Option Bool) (q : S29 → Bool) (xs : List S29) (hlen : xs.length ≤ 4611686018427387904) (hp : ∀ x ∈ xs, Ev (fun k => p k x) (q x)) (hm : ∀ x k, LeO (p k x) (p (k + 1) x)) :
    ∀ d i : Nat, i + d = xs.length → ∃ r : Int, Ev (fun k => idxG.l0 k (p k) xs (i : Int)) r ∧ decide (0 ≤ r) = (xs.drop i).any q := by
  have up : ∀ {r : Int} {i : Int}, Ev (fun k => idxG.l0 k (p k) xs i) r → Ev (fun k => idxG.l0 k (p (k + 1)) xs i) r := by
    rintro r i ⟨K, h⟩
    exact ⟨K, fun k hk => idxG.mono_p _ _ _ _ _ (fun x => hm x k) r (h k hk)⟩
  have one : ∀ x ∈ xs, Ev (fun k => p (k + 1) x) (q x) := fun x hx => by
    obtain ⟨K, h⟩ := hp x hx
    exact ⟨K, fun k hk => h (k + 1) (by omega)⟩
  intro d
  induction d with
  | zero =>
    intro i hi
    refine ⟨-1, Ev.step (f := fun _ => some (-1)) (fun k => ?_) (Ev.now _), ?_⟩
    · simp only [idxG.l0]
      rw [if_neg (by omega)]
    · rw [List.drop_eq_nil_of_le (by omega)]; rfl
  | succ d ih =>
    intro i hi
    have hlt : i < xs.length := by omega
    obtain ⟨r, hr, hd⟩ := ih (i + 1) (by omega)
    have hx := one _ (List.getElem_mem hlt)
    rw [List.drop_eq_getElem_cons hlt, List.any_cons]
    have step : ∀ {r : Int}, Ev (fun k => (p (k + 1) xs[i]).bind fun t => if t = true then some (i : Int) else idxG.l0 k (p (k + 1)) xs ((i + 1 : Nat) : Int)) r → Ev (fun k => idxG.l0 k (p k) xs (i : Int)) r := fun h => by
      refine Ev.step (g := fun k => idxG.l0 k (p k) xs (i : Int)) (fun k => ?_) h
      simp only [idxG.l0]
      rw [if_pos (by omega), if_pos (by omega), rdT_impl xs i hlt, wr (by omega) (by omega)]
      rfl
    cases hq : q xs[i] with
    | true =>
      refine ⟨i, step (Ev.bind hx ?_), ?_⟩
      · simp only [hq, if_true]; exact Ev.now _
      · rw [Bool.true_or]; exact decide_eq_true (by omega)
    | false =>
      refine ⟨r, step (Ev.bind hx ?_), ?_⟩
      · simp only [hq]; exact up hr
      · rw [Bool.false_or]; exact hd
theorem hasG_ev (p : Nat → S29 → Option Bool) (q : S29 → Bool) (xs : List S29) (hlen : xs.length ≤ 4611686018427387904) (hp : ∀ x ∈ xs, Ev (fun k => p k x) (q x)) (hm : ∀ x k, LeO (p k x) (p (k + 1) x)) : Ev (fun k => hasG.f k (p k) xs) (xs.any q) := by
  obtain ⟨r, hr, hd⟩ := idxG_ev p q xs hlen hp hm xs.length 0 (by omega)
  rw [List.drop_zero] at hd
  rw [← hd]
  exact Ev.bind hr (Ev.now _)
theorem not_any_allG {α : Type} (l : List α) (q : α → Bool) : (!(l.any fun a => !q a)) = l.all q := by
  induction l with
  | nil => rfl
  | cons a l ih => rw [List.any_cons, List.all_cons, ← ih, Bool.not_or, Bool.not_not]
mutual
/-- How deep a gate is. -/
def dT : S29 → Nat
  | ⟨_, _, l⟩ => 1 + dL l
def dL : List S29 → Nat
  | [] => 0
  | x :: l => max (dT x) (dL l)
end
mutual
/-- Has a gate the form of one? -/
def fT (h : Int) : S29 → Bool
  | ⟨a, b, l⟩ => if l.isEmpty then (decide (b = 0) && decide (0 ≤ a ∧ a ≤ h - 1)) else (fL h l && (decide (a = -1) && decide (1 ≤ b ∧ b ≤ (l.length : Int))))
def fL (h : Int) : List S29 → Bool
  | [] => true
  | x :: l => fT h x && fL h l
end
theorem dT_parts (x : S29) : dT x = 1 + dL x.f2 := by cases x; simp only [dT]
theorem fT_parts (h : Int) (x : S29) : fT h x = if x.f2.isEmpty then (decide (x.f1 = 0) && decide (0 ≤ x.f0 ∧ x.f0 ≤ h - 1)) else (fL h x.f2 && (decide (x.f0 = -1) && decide (1 ≤ x.f1 ∧ x.f1 ≤ (x.f2.length : Int)))) := by cases x; simp only [fT]
theorem fL_all (h : Int) : ∀ l : List S29, fL h l = l.all (fT h)
  | [] => by simp only [fL, List.all_nil]
  | x :: l => by simp only [fL, List.all_cons, fL_all h l]
theorem dL_le : ∀ (l : List S29) (n : Nat), decide (dL l ≤ n) = l.all fun x => decide (dT x ≤ n)
  | [], n => by simp [dL]
  | x :: l, n => by
    have e : dL (x :: l) = max (dT x) (dL l) := by simp only [dL]
    rw [List.all_cons, ← dL_le l n]
    by_cases h1 : dT x ≤ n
    · by_cases h2 : dL l ≤ n
      · rw [decide_eq_true h1, decide_eq_true h2, decide_eq_true (show dL (x :: l) ≤ n by omega)]; rfl
      · rw [decide_eq_false h2, Bool.and_false, decide_eq_false (show ¬ dL (x :: l) ≤ n by omega)]
    · rw [decide_eq_false h1, Bool.false_and, decide_eq_false (show ¬ dL (x :: l) ≤ n by omega)]
theorem all_and {α : Type} (p q : α → Bool) (l : List α) : (l.all fun y => p y && q y) = (l.all p && l.all q) := by
  induction l with
  | nil => rfl
  | cons x l ih =>
    rw [List.all_cons, List.all_cons, List.all_cons, ih]
    cases p x <;> cases q x <;> simp
theorem dL_nil : dL [] = 0 := by simp only [dL]
theorem dL_cons (x : S29) (l : List S29) : dL (x :: l) = max (dT x) (dL l) := by simp only [dL]
theorem dL_mL : ∀ n, ∀ l : List S29, mL l ≤ n → dL l ≤ mL l := by
  intro n
  induction n with
  | zero =>
    intro l h
    cases l with
    | nil => rw [dL_nil]; exact Nat.zero_le _
    | cons x l => simp only [mL] at h; omega
  | succ n ih =>
    intro l h
    induction l with
    | nil => rw [dL_nil]; exact Nat.zero_le _
    | cons x l ihl =>
      rw [dL_cons, dT_parts]
      simp only [mL] at h ⊢
      have hk := mT_kids x
      have h1 := ih x.f2 (by omega)
      have h2 := ihl (by omega)
      exact Nat.max_le.mpr ⟨by omega, by omega⟩
/-- What is left: exact where it suffices, and less than 0 elsewhere. -/
theorem spec_l02Left_ev : ∀ (n : Nat) (x : S29), mT x ≤ n → n ≤ 1048576 → ∀ left : Int, 0 ≤ left → left ≤ 1048576 → ∃ t : Int, Ev (fun k => spec_l02Left.f k x left) t ∧ (((1 + mT x : Nat) : Int) ≤ left → t = left - ((1 + mT x : Nat) : Int)) ∧ (¬ ((1 + mT x : Nat) : Int) ≤ left → t < 0) ∧ -1 ≤ t := by
  intro n
  induction n using Nat.strongRecOn with
  | _ n ih =>
    intro x hn hm left h0 h1
    have hk := mT_kids x
    have hr := rT_mL x.f2
    have hl := mL_len x.f2
    have key : ∀ d i : Nat, i + d = x.f2.length → ∀ b : Int, -1 ≤ b → b ≤ 1048576 → ∃ t : Int, Ev (fun k => spec_l02Left.l0 k x b (i : Int)) t ∧ ((rT (x.f2.drop i) : Int) ≤ b → t = b - rT (x.f2.drop i)) ∧ (¬ (rT (x.f2.drop i) : Int) ≤ b → t < 0) ∧ -1 ≤ t := by
      intro d
      induction d with
      | zero =>
        intro i hi b hb0 hb1
        rw [List.drop_eq_nil_of_le (by omega), show rT [] = 0 from rfl]
        refine ⟨b, Ev.step (f := fun _ => some b) (fun k => ?_) (Ev.now _), fun _ => by omega, fun _ => by omega, hb0⟩
        simp only [spec_l02Left.l0]
        rw [if_neg (by omega)]
      | succ d ihd =>
        intro i hi b hb0 hb1
        have hlt : i < x.f2.length := by omega
        have hx := mL_mem (List.getElem_mem hlt)
        rw [List.drop_eq_getElem_cons hlt, show rT (x.f2[i] :: x.f2.drop (i + 1)) = (1 + mT x.f2[i]) + rT (x.f2.drop (i + 1)) from rfl]
        by_cases hb : b ≥ 0
        · obtain ⟨t, ht, h2, h3, h4⟩ := ih (mT x.f2[i]) (by omega) x.f2[i] (Nat.le_refl _) (by omega) b hb hb1
          have hle : t ≤ 1048576 := by
            by_cases q : ((1 + mT x.f2[i] : Nat) : Int) ≤ b
            · have := h2 q; omega
            · have := h3 q; omega
          obtain ⟨u, hu, g2, g3, g4⟩ := ihd (i + 1) (by omega) t h4 hle
          refine ⟨u, Ev.step (f := fun k => (spec_l02Left.f k x.f2[i] b).bind fun t => spec_l02Left.l0 k x t ((i + 1 : Nat) : Int)) (fun k => ?_) (Ev.bind ht hu), fun q => ?_, fun q => ?_, g4⟩
          · simp only [spec_l02Left.l0]
            rw [if_pos (by omega), if_pos hb, if_pos (by omega), rdT_impl _ i hlt, wr (x := (i : Int) + 1) (by omega) (by omega)]
            rfl
          · have e := h2 (by omega)
            have := g2 (by omega)
            omega
          · by_cases q2 : ((1 + mT x.f2[i] : Nat) : Int) ≤ b
            · have e := h2 q2
              exact g3 (by omega)
            · have e := h3 q2
              exact g3 (by omega)
        · refine ⟨b, Ev.step (f := fun _ => some b) (fun k => ?_) (Ev.now _), fun q => by omega, fun q => by omega, hb0⟩
          simp only [spec_l02Left.l0]
          rw [if_pos (by omega), if_neg hb]
    obtain ⟨t, ht, h2, h3, h4⟩ := key x.f2.length 0 (by omega) (left - 1) (by omega) (by omega)
    rw [List.drop_zero, hr, ← hk] at h2 h3
    refine ⟨t, Ev.step (f := fun k => spec_l02Left.l0 k x (left - 1) 0) (fun k => by simp only [spec_l02Left.f]; rw [wr (by omega) (by omega)]) ht, fun q => ?_, fun q => ?_, h4⟩
    · have := h2 (by omega); omega
    · exact h3 (by omega)
theorem max_eq (a b : Int) : spec_l00Max.f a b = some (max a b) := by
  unfold spec_l00Max.f
  by_cases h : a > b
  · rw [if_pos h]; exact congrArg some (by omega)
  · rw [if_neg h]; exact congrArg some (by omega)
theorem spec_l02Depth_ev : ∀ (n : Nat) (x : S29), mT x ≤ n → n ≤ 1048576 → Ev (fun k => spec_l02Depth.f k x) (dT x : Int) := by
  intro n
  induction n using Nat.strongRecOn with
  | _ n ih =>
    intro x hn hm
    have hk := mT_kids x
    have hl := mL_len x.f2
    have hd := dL_mL _ x.f2 (Nat.le_refl _)
    have key : ∀ d i : Nat, i + d = x.f2.length → ∀ b : Nat, b ≤ 1048577 → dL (x.f2.drop i) ≤ 1048577 → Ev (fun k => spec_l02Depth.l0 k x (b : Int) (i : Int)) ((1 + max b (dL (x.f2.drop i)) : Nat) : Int) := by
      intro d
      induction d with
      | zero =>
        intro i hi b hb _
        rw [List.drop_eq_nil_of_le (by omega), dL_nil]
        refine Ev.step (f := fun _ => some ((1 + max b 0 : Nat) : Int)) (fun k => ?_) (Ev.now _)
        simp only [spec_l02Depth.l0]
        rw [if_neg (by omega), wr (by omega) (by omega)]
        exact congrArg some (by omega)
      | succ d ihd =>
        intro i hi b hb hdl
        have hlt : i < x.f2.length := by omega
        have hx := mL_mem (List.getElem_mem hlt)
        rw [List.drop_eq_getElem_cons hlt, dL_cons] at hdl ⊢
        have hn2 := ihd (i + 1) (by omega) (max b (dT x.f2[i])) (by omega) (by omega)
        refine Ev.step (f := fun k => (spec_l02Depth.f k x.f2[i]).bind fun t => spec_l02Depth.l0 k x (max (b : Int) t) ((i + 1 : Nat) : Int)) (fun k => ?_) (Ev.bind (ih (mT x.f2[i]) (by omega) _ (Nat.le_refl _) (by omega)) ?_)
        · simp only [spec_l02Depth.l0, max_eq, Option.bind_some]
          rw [if_pos (by omega), if_pos (by omega), rdT_impl _ i hlt, wr (x := (i : Int) + 1) (by omega) (by omega)]
          rfl
        · rw [show max (b : Int) ((dT x.f2[i] : Nat) : Int) = ((max b (dT x.f2[i]) : Nat) : Int) by omega, show max b (max (dT x.f2[i]) (dL (x.f2.drop (i + 1)))) = max (max b (dT x.f2[i])) (dL (x.f2.drop (i + 1))) by omega]
          exact hn2
    have h := key x.f2.length 0 (by omega) 0 (by omega) (by rw [List.drop_zero]; omega)
    rw [List.drop_zero, Nat.zero_max, ← dT_parts] at h
    exact Ev.step (f := fun k => spec_l02Depth.l0 k x 0 0) (fun k => by simp only [spec_l02Depth.f]) h
theorem spec_l02Form_ev (h : Int) (hh : 1 ≤ h ∧ h ≤ 7) : ∀ (n : Nat) (x : S29), mT x ≤ n → n ≤ 1048576 → Ev (fun k => spec_l02Form.f k h x) (fT h x) := by
  intro n
  induction n using Nat.strongRecOn with
  | _ n ih =>
    intro x hn hm
    have hk := mT_kids x
    have hl := mL_len x.f2
    rw [fT_parts]
    by_cases c1 : (x.f2.length : Int) = 0
    · have e0 : x.f2.isEmpty = true := by
        rw [List.isEmpty_iff]
        exact List.eq_nil_of_length_eq_zero (by omega)
      rw [if_pos e0]
      refine Ev.step (f := fun _ => some (decide (x.f1 = 0) && decide (0 ≤ x.f0 ∧ x.f0 ≤ h - 1))) (fun k => ?_) (Ev.now _)
      simp only [spec_l02Form.f]
      rw [if_pos c1, wr (by omega) (by omega)]
      by_cases c2 : x.f1 = 0
      · rw [if_pos c2, spec_l00In_eq, decide_eq_true c2, Bool.true_and]
      · rw [if_neg c2, decide_eq_false c2, Bool.false_and]
    · have e0 : ¬ x.f2.isEmpty = true := by
        rw [List.isEmpty_iff]
        intro e
        rw [e] at c1
        exact c1 rfl
      rw [if_neg e0]
      have key : ∀ d i : Nat, i + d = x.f2.length → Ev (fun k => spec_l02Form.l0 k h x (i : Int)) (fL h (x.f2.drop i) && (decide (x.f0 = -1) && decide (1 ≤ x.f1 ∧ x.f1 ≤ (x.f2.length : Int)))) := by
        intro d
        induction d with
        | zero =>
          intro i hi
          rw [List.drop_eq_nil_of_le (by omega), show fL h [] = true from by simp only [fL], Bool.true_and]
          refine Ev.step (f := fun _ => some (decide (x.f0 = -1) && decide (1 ≤ x.f1 ∧ x.f1 ≤ (x.f2.length : Int)))) (fun k => ?_) (Ev.now _)
          simp only [spec_l02Form.l0]
          rw [if_neg (by omega)]
          by_cases c2 : x.f0 = -1
          · rw [if_pos c2, spec_l00In_eq, decide_eq_true c2, Bool.true_and]
          · rw [if_neg c2, decide_eq_false c2, Bool.false_and]
        | succ d ihd =>
          intro i hi
          have hlt : i < x.f2.length := by omega
          have hx := mL_mem (List.getElem_mem hlt)
          rw [List.drop_eq_getElem_cons hlt, show fL h (x.f2[i] :: x.f2.drop (i + 1)) = (fT h x.f2[i] && fL h (x.f2.drop (i + 1))) from by simp only [fL]]
          refine Ev.step (f := fun k => (spec_l02Form.f k h x.f2[i]).bind fun t => if t = true then spec_l02Form.l0 k h x ((i + 1 : Nat) : Int) else some false) (fun k => ?_) (Ev.bind (ih (mT x.f2[i]) (by omega) _ (Nat.le_refl _) (by omega)) ?_)
          · simp only [spec_l02Form.l0]
            rw [if_pos (by omega), if_pos (by omega), rdT_impl _ i hlt, wr (x := (i : Int) + 1) (by omega) (by omega)]
            rfl
          · cases fT h x.f2[i] with
            | true => rw [Bool.true_and]; exact ihd (i + 1) (by omega)
            | false => exact Ev.now _
      have hq := key x.f2.length 0 (by omega)
      rw [List.drop_zero] at hq
      exact Ev.step (f := fun k => spec_l02Form.l0 k h x 0) (fun k => by simp only [spec_l02Form.f]; rw [if_neg c1]) hq
theorem isFormed_ev (h : Int) (hh : 1 ≤ h ∧ h ≤ 7) : ∀ (d : Nat), d ≤ 1000 → ∀ x : S29, mT x ≤ 1048576 → Ev (fun k => impl_Gate_isFormed.f k x.f0 x.f1 x.f2 h (d : Int)) (decide (dT x ≤ d) && fT h x) := by
  intro d
  induction d with
  | zero =>
    intro hd x hm
    rw [decide_eq_false (by rw [dT_parts]; omega), Bool.false_and]
    exact Ev.step (f := fun _ => some false) (fun k => by simp only [impl_Gate_isFormed.f]; rw [if_pos (by omega)]) (Ev.now _)
  | succ d ih =>
    intro hd x hm
    have hk := mT_kids x
    have hl := mL_len x.f2
    rw [fT_parts]
    by_cases c1 : (x.f2.length : Int) = 0
    · have e1 : x.f2 = [] := List.eq_nil_of_length_eq_zero (by omega)
      have e0 : x.f2.isEmpty = true := by rw [List.isEmpty_iff]; exact e1
      rw [if_pos e0, decide_eq_true (by rw [dT_parts, e1, dL_nil]; omega), Bool.true_and]
      refine Ev.step (f := fun _ => some (decide (x.f1 = 0) && decide (0 ≤ x.f0 ∧ x.f0 ≤ h - 1))) (fun k => ?_) (Ev.now _)
      simp only [impl_Gate_isFormed.f]
      rw [if_neg (by omega), if_pos c1, impl_within_eq, wr (by omega) (by omega)]
      simp only [Option.bind_some]
      by_cases c2 : x.f1 = 0
      · rw [decide_eq_true c2, Bool.true_and, beq_iff_eq.mpr c2]
        cases decide (0 ≤ x.f0 ∧ x.f0 ≤ h - 1) <;> rfl
      · rw [decide_eq_false c2, Bool.false_and, beq_eq_false_iff_ne.mpr c2]
        cases decide (0 ≤ x.f0 ∧ x.f0 ≤ h - 1) <;> rfl
    · have e0 : ¬ x.f2.isEmpty = true := by
        rw [List.isEmpty_iff]
        intro e
        rw [e] at c1
        exact c1 rfl
      rw [if_neg e0, show decide (dT x ≤ d + 1) = decide (dL x.f2 ≤ d) from by rw [dT_parts]; by_cases q : dL x.f2 ≤ d; rw [decide_eq_true q, decide_eq_true (by omega)]; rw [decide_eq_false q, decide_eq_false (by omega)]]
      by_cases c2 : x.f0 = -1
      · cases hw : decide (1 ≤ x.f1 ∧ x.f1 ≤ (x.f2.length : Int)) with
        | false =>
          rw [Bool.and_false, Bool.and_false, Bool.and_false]
          refine Ev.step (f := fun _ => some false) (fun k => ?_) (Ev.now _)
          simp only [impl_Gate_isFormed.f]
          rw [if_neg (by omega), if_neg c1, if_pos c2, impl_within_eq, hw]
          rfl
        | true =>
          rw [decide_eq_true c2, Bool.true_and, Bool.and_true, dL_le, fL_all]
          have hb := hasG_ev (fun k y => (impl_Gate_isFormed.f k y.f0 y.f1 y.f2 h (d : Int)).bind fun t => some (!t)) (fun y => !(decide (dT y ≤ d) && fT h y)) x.f2 (by omega) (fun y hy => Ev.bind (ih (by omega) y (by have := mL_mem hy; omega)) (Ev.now _)) (fun y k => LeO.bind (impl_Gate_isFormed.mono_l k _ _ _ _ _) (fun _ => LeO.refl _))
          refine Ev.step (f := fun k => (hasG.f k (fun y => (impl_Gate_isFormed.f k y.f0 y.f1 y.f2 h (d : Int)).bind fun t => some (!t)) x.f2).bind fun v => some (!v)) (fun k => ?_) (Ev.bind hb ?_)
          · simp only [impl_Gate_isFormed.f]
            rw [if_neg (by omega), if_neg c1, if_pos c2, impl_within_eq, hw, wr (by omega) (by omega), show ((d + 1 : Nat) : Int) - 1 = (d : Int) by omega]
            rfl
          · rw [not_any_allG, show (x.f2.all fun y => decide (dT y ≤ d) && fT h y) = (x.f2.all (fun x => decide (dT x ≤ d)) && x.f2.all (fT h)) from all_and _ _ _]
            exact Ev.now _
      · rw [decide_eq_false c2, Bool.false_and, Bool.and_false, Bool.and_false]
        exact Ev.step (f := fun _ => some false) (fun k => by simp only [impl_Gate_isFormed.f]; rw [if_neg (by omega), if_neg c1, if_neg c2]) (Ev.now _)
/-- Is a gate valid? -/
def okT (h : Int) (x : S29) : Bool := decide (1 ≤ h ∧ h ≤ 7) && (decide (1 + mT x ≤ 60) && (decide (dT x ≤ 12) && fT h x))
theorem spec_l02Ok_ev (h : Int) (x : S29) (hx : mT x ≤ 1048576) : Ev (fun k => spec_l02Ok.f k h x) (okT h x) := by
  unfold spec_l02Ok.f okT
  rw [spec_l00In_eq]
  simp only [Option.bind_some]
  cases h1 : decide (1 ≤ h ∧ h ≤ 7) with
  | false => exact Ev.now _
  | true =>
    have hh := of_decide_eq_true h1
    simp only [if_true, Bool.true_and]
    obtain ⟨t, ht, g1, g2, _⟩ := spec_l02Left_ev _ x (Nat.le_refl _) hx 60 (by omega) (by omega)
    refine Ev.bind ht ?_
    by_cases c1 : 1 + mT x ≤ 60
    · have := g1 (by omega)
      simp only [if_pos (show t ≥ 0 by omega), decide_eq_true c1, Bool.true_and]
      refine Ev.bind (spec_l02Depth_ev _ x (Nat.le_refl _) hx) ?_
      by_cases c2 : dT x ≤ 12
      · simp only [if_pos (show (dT x : Int) ≤ 12 by omega), decide_eq_true c2, Bool.true_and]
        exact spec_l02Form_ev h hh _ x (Nat.le_refl _) hx
      · simp only [if_neg (show ¬ (dT x : Int) ≤ 12 by omega), decide_eq_false c2, Bool.false_and]
        exact Ev.now _
    · have := g2 (by omega)
      simp only [if_neg (show ¬ t ≥ 0 by omega), decide_eq_false c1, Bool.false_and]
      exact Ev.now _
theorem impl_ValidGate_ev (h a b : Int) (l : List S29) (hm : mL l ≤ 1048576) : Ev (fun k => impl_ValidGate.f k h a b l) (okT h ⟨a, b, l⟩) := by
  have hx : mT (⟨a, b, l⟩ : S29) ≤ 1048576 := by rw [mT_kids]; exact hm
  have hk : mT (⟨a, b, l⟩ : S29) = mL l := by rw [mT_kids]
  unfold impl_ValidGate.f okT
  rw [impl_within_eq]
  simp only [Option.bind_some]
  cases h1 : decide (1 ≤ h ∧ h ≤ 7) with
  | false => exact Ev.now _
  | true =>
    have hh := of_decide_eq_true h1
    simp only [if_true, Bool.true_and]
    refine Ev.bind (isFormed_ev h hh 12 (by omega) ⟨a, b, l⟩ hx) ?_
    cases decide (dT (⟨a, b, l⟩ : S29) ≤ 12) && fT h ⟨a, b, l⟩ with
    | false => rw [Bool.and_false]; exact Ev.now _
    | true =>
      rw [Bool.and_true, hk]
      simp only [if_true]
      refine Ev.bind (impl_GateSize_ev _ a b l (Nat.le_refl _) hm) ?_
      rw [show decide (((1 + mL l : Nat) : Int) ≤ 60) = decide (1 + mL l ≤ 60) from by by_cases q : 1 + mL l ≤ 60; rw [decide_eq_true q, decide_eq_true (by omega)]; rw [decide_eq_false q, decide_eq_false (by omega)]]
      exact Ev.now _

end Go.Proofs.Ytjnobnmjhpmpfaa.P

namespace Go.Proofs.Ytjnobnmjhpmpfaa.P
open Go.RowKit Go.Proofs.YtjnobnmjhpmpfaaW.PrintWords Go.Proofs.YtjnobnmjhpmpfaaW.PrintLast Go.Proofs.YtjnobnmjhpmpfaaW.PrintMore
attribute [local go_sem] max2_int min2_int max_two min_two max_three min_three max_four min_four
set_option linter.unusedVariables false
set_option linter.unusedSimpArgs false

/-! ### spec_l02Tidy: function 69 (by hand) -/
def tidyC (x t : S29) : Bool := decide (0 < (t.f2.length : Int)) && ((x.f1 == 1 && t.f1 == 1) || (x.f1 == (x.f2.length : Int) && t.f1 == (t.f2.length : Int)))
def tidyE (x : S29) (out : List S29) : S29 := ⟨-1, if (x.f1 == (x.f2.length : Int)) = true then (out.length : Int) else x.f1, out⟩
mutual
def spec_l02Tidy.l0 : Nat → S29 → List S29 → Int → Option S29
  | 0, _, _, _ => none
  | k + 1, x, out, i => if i < (x.f2.length : Int) then (if 0 ≤ i then ((spec_l02Tidy.f k (rd_T29 x.f2 i)).bind fun t => if tidyC x t = true then (if out.length + t.f2.length < 1048576 then spec_l02Tidy.l0 k x (out ++ t.f2) (wrap64 (i + 1)) else none) else (if out.length < 1048576 then spec_l02Tidy.l0 k x (out ++ [t]) (wrap64 (i + 1)) else none)) else none) else some (tidyE x out)
def spec_l02Tidy.f : Nat → S29 → Option S29
  | 0, _ => none
  | k + 1, x => if (x.f2.length : Int) = 0 then some ⟨x.f0, 0, []⟩ else (if (x.f2.length : Int) = 1 then spec_l02Tidy.f k (rd_T29 x.f2 0) else spec_l02Tidy.l0 k x [] 0)
end
set_option maxHeartbeats 8000000 in
set_option maxRecDepth 100000 in
theorem spec_l02Tidy.calls (k : Nat) : ∀ (ad : Addr) (x y : S29) (w : World) (hp : Kd.C k29 w (some ad) 1 [x]) (h : spec_l02Tidy.f k x = some y),
    Calls Try.prog 69 #[.pointer (some ad)] w fun e w' => ∃ v, e = .returned (.agg #[.int .i64 y.f0, .int .i64 y.f1, v]) ∧ Kd.S kG 29 w' w.heap.size (fun _ => True) v y.f2 ∧ Below w.heap.size w w' := by
  induction k using Nat.strongRecOn with
  | _ k ih =>
  intro ad x y w hp h
  cases k with
  | zero => exact absurd h (by simp [spec_l02Tidy.f])
  | succ k =>
  simp only [spec_l02Tidy.f] at h
  obtain ⟨A, c, hx0, hx1, hx2, hl, hC⟩ := gate_at hp
  have hq0 := Aside0.mk hx0
  have hq1 := Aside0.mk hx1
  have hq2 := Aside0.mk hx2
  have HC := Aside0.mk hC
  have IH := Aside0.mk ih
  have HB := Aside0.mk (Below.refl w.heap.size w)
  have hu29 := Try.underlying29
  clear hp hC hl ih
  by_cases c0 : (x.f2.length : Int) = 0
  · rw [if_pos c0] at h
    obtain rfl := Option.some.inj h
    clear h
    have c0b : ((x.f2.length : Int) == 0) = true := beq_iff_eq.mpr c0
    replace c0 := Aside0.mk c0
    go_enter Try.func69, Try.ntmps69
    go_wp2_with (first | ((with_reducible refine gate_dst (N := 2) rfl ?_); refine box_event ?hg (N := 2) ?hd (cs := #[.int .i64 0, .int .i64 0, .slice none 0 0]) (t := 29) ?hr ?_; (case hd => rfl); (case hg => rfl); (case hr => first | (go_simp; done) | (go_simp; rfl)); intro g2 hg w1 hbox hb; have n0_ := Aside0.mk (below_step (by repeat (first | (with_reducible first | exact HB.out | apply below_alloc | apply pw_below_drewN | apply below_drew1) | exact HB.out)) hb); have GW_g2 := Aside0.mk ((by rw [hg]; exact below_size (by repeat (first | (with_reducible first | exact HB.out | apply below_alloc | apply pw_below_drewN | apply below_drew1) | exact HB.out))) : w.heap.size ≤ g2); clear hx0 hx1 hx2; clear HB ; have HB := n0_; clear n0_; have BK_g2 := Aside0.mk hbox; clear hbox hb hg; have hz_g20 : w1.cell? ⟨g2, 0, none⟩ = some (.int .i64 0) := (blk_cell BK_g2.out 0).trans rfl; have hz_g2f0 := blk_frozen BK_g2.out 0; have hz_g21 : w1.cell? ⟨g2, 1, none⟩ = some (.int .i64 0) := (blk_cell BK_g2.out 1).trans rfl; have hz_g2f1 := blk_frozen BK_g2.out 1; have hz_g22 : w1.cell? ⟨g2, 2, none⟩ = some (.slice none 0 0) := (blk_cell BK_g2.out 2).trans rfl; have hz_g2f2 := blk_frozen BK_g2.out 2; have hx0 : w1.cell? ad = some (.int .i64 x.f0) := (HB.out.cell (World.block_lt_of_cell? w _ hq0.out)).trans hq0.out; have hx1 : w1.cell? ⟨ad.block, ad.off + 1, none⟩ = some (.int .i64 x.f1) := (HB.out.cell (World.block_lt_of_cell? w _ hq1.out)).trans hq1.out; have hx2 : w1.cell? ⟨ad.block, ad.off + 2, none⟩ = some (.slice A x.f2.length c) := (HB.out.cell (World.block_lt_of_cell? w _ hq2.out)).trans hq2.out) | (go_at_call 62; (with_reducible refine (spec_l02Leaf.callsT x.f0 _).mono ?_); rintro e w3 ⟨rfl, hb⟩; have n0_ := Aside0.mk (below_step (by repeat (first | (with_reducible first | exact HB.out | apply below_alloc | apply pw_below_drewN | apply below_drew1) | exact HB.out)) hb); have n1_ := Aside0.mk (blk_below (g := g2) (o := .cells #[.int .i64 0, .int .i64 0, .slice none 0 0] 29 (0, 0)) (by (with_reducible repeat (first | refine blk_drewN ?_ _ | refine blk_drew ?_ | refine blk_alloc ?_ _)); exact BK_g2.out) hb); clear HB BK_g2 hz_g20 hz_g2f0 hz_g21 hz_g2f1 hz_g22 hz_g2f2 hx0 hx1 hx2 hb; have HB := n0_; have BK_g2 := n1_; clear n0_ n1_; have hx0 : w3.cell? ad = some (.int .i64 x.f0) := (HB.out.cell (World.block_lt_of_cell? w _ hq0.out)).trans hq0.out; have hx1 : w3.cell? ⟨ad.block, ad.off + 1, none⟩ = some (.int .i64 x.f1) := (HB.out.cell (World.block_lt_of_cell? w _ hq1.out)).trans hq1.out; have hx2 : w3.cell? ⟨ad.block, ad.off + 2, none⟩ = some (.slice A x.f2.length c) := (HB.out.cell (World.block_lt_of_cell? w _ hq2.out)).trans hq2.out; have hz_g20 : w3.cell? ⟨g2, 0, none⟩ = some (.int .i64 0) := (blk_cell BK_g2.out 0).trans rfl; have hz_g2f0 := blk_frozen BK_g2.out 0; have hz_g21 : w3.cell? ⟨g2, 1, none⟩ = some (.int .i64 0) := (blk_cell BK_g2.out 1).trans rfl; have hz_g2f1 := blk_frozen BK_g2.out 1; have hz_g22 : w3.cell? ⟨g2, 2, none⟩ = some (.slice none 0 0) := (blk_cell BK_g2.out 2).trans rfl; have hz_g2f2 := blk_frozen BK_g2.out 2))
    refine bodyPost_ret (results_cell_row rfl _ _ g2 29 #[.int .i64 x.f0, .int .i64 0, .slice none 0 0] (0, 0) _ rfl (by (with_reducible repeat (first | refine blk_drewN ?_ _ | refine blk_drew ?_ | refine blk_alloc ?_ _)); refine blk_put (cs := #[.int .i64 x.f0, .int .i64 0, .slice none 0 0]) ?_ 2 _ rfl; (with_reducible repeat (first | refine blk_drewN ?_ _ | refine blk_drew ?_ | refine blk_alloc ?_ _)); refine blk_put (cs := #[.int .i64 x.f0, .int .i64 0, .slice none 0 0]) ?_ 1 _ rfl; (with_reducible repeat (first | refine blk_drewN ?_ _ | refine blk_drew ?_ | refine blk_alloc ?_ _)); refine blk_put (cs := #[.int .i64 0, .int .i64 0, .slice none 0 0]) ?_ 0 _ rfl; (with_reducible repeat (first | refine blk_drewN ?_ _ | refine blk_drew ?_ | refine blk_alloc ?_ _)); exact BK_g2.out) Try.underlying29 rfl (by kernel_rfl)) rfl ?_
    exact ⟨_, rfl, Kd.S_nil _ _ _ _ _, (by repeat (first | (with_reducible first | exact HB.out | apply below_alloc | apply pw_below_drewN | apply below_drew1 | refine below_set ?_ GW_g2.out) | exact HB.out))⟩
  · rw [if_neg c0] at h
    by_cases c1 : (x.f2.length : Int) = 1
    · rw [if_pos c1] at h
      have A1 := Aside0.mk h
      clear h
      obtain ⟨ad2, A2, c2, e2, _⟩ := at_T29 HC.out 0 (by omega) (by omega)
      cases e2
      have HE := Aside0.mk (show Kd.C k29 w (some ad2) 1 [rd_T29 x.f2 0] from gate_el HC.out 0 (by omega) (by omega))
      have c0b : ((x.f2.length : Int) == 0) = false := beq_eq_false_iff_ne.mpr c0
      have c1b : ((x.f2.length : Int) == 1) = true := beq_iff_eq.mpr c1
      have c1n := eq_true (show 0 < x.f2.length by omega)
      replace c0 := Aside0.mk c0
      replace c1 := Aside0.mk c1
      go_enter Try.func69, Try.ntmps69
      go_wp2_with (first | ((with_reducible refine gate_dst (N := 2) rfl ?_); refine box_event ?hg (N := 2) ?hd (cs := #[.int .i64 0, .int .i64 0, .slice none 0 0]) (t := 29) ?hr ?_; (case hd => rfl); (case hg => rfl); (case hr => first | (go_simp; done) | (go_simp; rfl)); intro g2 hg w1 hbox hb; have n0_ := Aside0.mk (below_step (by repeat (first | (with_reducible first | exact HB.out | apply below_alloc | apply pw_below_drewN | apply below_drew1) | exact HB.out)) hb); have GW_g2 := Aside0.mk ((by rw [hg]; exact below_size (by repeat (first | (with_reducible first | exact HB.out | apply below_alloc | apply pw_below_drewN | apply below_drew1) | exact HB.out))) : w.heap.size ≤ g2); clear hx0 hx1 hx2; clear HB ; have HB := n0_; clear n0_; have BK_g2 := Aside0.mk hbox; clear hbox hb hg; have hz_g20 : w1.cell? ⟨g2, 0, none⟩ = some (.int .i64 0) := (blk_cell BK_g2.out 0).trans rfl; have hz_g2f0 := blk_frozen BK_g2.out 0; have hz_g21 : w1.cell? ⟨g2, 1, none⟩ = some (.int .i64 0) := (blk_cell BK_g2.out 1).trans rfl; have hz_g2f1 := blk_frozen BK_g2.out 1; have hz_g22 : w1.cell? ⟨g2, 2, none⟩ = some (.slice none 0 0) := (blk_cell BK_g2.out 2).trans rfl; have hz_g2f2 := blk_frozen BK_g2.out 2; have hx0 : w1.cell? ad = some (.int .i64 x.f0) := (HB.out.cell (World.block_lt_of_cell? w _ hq0.out)).trans hq0.out; have hx1 : w1.cell? ⟨ad.block, ad.off + 1, none⟩ = some (.int .i64 x.f1) := (HB.out.cell (World.block_lt_of_cell? w _ hq1.out)).trans hq1.out; have hx2 : w1.cell? ⟨ad.block, ad.off + 2, none⟩ = some (.slice (some ad2) x.f2.length c) := (HB.out.cell (World.block_lt_of_cell? w _ hq2.out)).trans hq2.out) | (go_at_call 69; (with_reducible refine (IH.out k (by omega) _ (rd_T29 x.f2 0) y _ ?sP A1.out).mono ?_); (case sP => exact Kd.C_below HE.out (by repeat (first | (with_reducible first | exact HB.out | apply below_alloc | apply pw_below_drewN | apply below_drew1) | exact HB.out))); rintro e w3 ⟨v, rfl, hS, hb⟩; have HSv := Aside0.mk (Kd.S_lower (base' := w.heap.size) (Kd.S_mono (Kd.S_bound hS) (ok' := fun k_ => g2 < k_) (fun k_ hk_ => Nat.lt_of_lt_of_le (blk_lt (o := .cells #[.int .i64 0, .int .i64 0, .slice none 0 0] 29 (0, 0)) (by (with_reducible repeat (first | refine blk_drewN ?_ _ | refine blk_drew ?_ | refine blk_alloc ?_ _)); exact BK_g2.out)) hk_.2.1)) (below_size (by repeat (first | (with_reducible first | exact HB.out | apply below_alloc | apply pw_below_drewN | apply below_drew1) | exact HB.out)))); obtain ⟨Av, cv, ev⟩ := Kd.S_slice HSv.out; subst ev; clear hS; have n0_ := Aside0.mk (below_step (by repeat (first | (with_reducible first | exact HB.out | apply below_alloc | apply pw_below_drewN | apply below_drew1) | exact HB.out)) hb); have n1_ := Aside0.mk (blk_below (g := g2) (o := .cells #[.int .i64 0, .int .i64 0, .slice none 0 0] 29 (0, 0)) (by (with_reducible repeat (first | refine blk_drewN ?_ _ | refine blk_drew ?_ | refine blk_alloc ?_ _)); exact BK_g2.out) hb); clear HB BK_g2 hz_g20 hz_g2f0 hz_g21 hz_g2f1 hz_g22 hz_g2f2 hx0 hx1 hx2 hb; have HB := n0_; have BK_g2 := n1_; clear n0_ n1_; have hx0 : w3.cell? ad = some (.int .i64 x.f0) := (HB.out.cell (World.block_lt_of_cell? w _ hq0.out)).trans hq0.out; have hx1 : w3.cell? ⟨ad.block, ad.off + 1, none⟩ = some (.int .i64 x.f1) := (HB.out.cell (World.block_lt_of_cell? w _ hq1.out)).trans hq1.out; have hx2 : w3.cell? ⟨ad.block, ad.off + 2, none⟩ = some (.slice (some ad2) x.f2.length c) := (HB.out.cell (World.block_lt_of_cell? w _ hq2.out)).trans hq2.out; have hz_g20 : w3.cell? ⟨g2, 0, none⟩ = some (.int .i64 0) := (blk_cell BK_g2.out 0).trans rfl; have hz_g2f0 := blk_frozen BK_g2.out 0; have hz_g21 : w3.cell? ⟨g2, 1, none⟩ = some (.int .i64 0) := (blk_cell BK_g2.out 1).trans rfl; have hz_g2f1 := blk_frozen BK_g2.out 1; have hz_g22 : w3.cell? ⟨g2, 2, none⟩ = some (.slice none 0 0) := (blk_cell BK_g2.out 2).trans rfl; have hz_g2f2 := blk_frozen BK_g2.out 2))
      refine bodyPost_ret (results_cell_row rfl _ _ g2 29 #[.int .i64 y.f0, .int .i64 y.f1, .slice Av y.f2.length cv] (0, 0) _ rfl (by (with_reducible repeat (first | refine blk_drewN ?_ _ | refine blk_drew ?_ | refine blk_alloc ?_ _)); refine blk_put (cs := #[.int .i64 y.f0, .int .i64 y.f1, .slice none 0 0]) ?_ 2 _ rfl; (with_reducible repeat (first | refine blk_drewN ?_ _ | refine blk_drew ?_ | refine blk_alloc ?_ _)); refine blk_put (cs := #[.int .i64 y.f0, .int .i64 0, .slice none 0 0]) ?_ 1 _ rfl; (with_reducible repeat (first | refine blk_drewN ?_ _ | refine blk_drew ?_ | refine blk_alloc ?_ _)); refine blk_put (cs := #[.int .i64 0, .int .i64 0, .slice none 0 0]) ?_ 0 _ rfl; (with_reducible repeat (first | refine blk_drewN ?_ _ | refine blk_drew ?_ | refine blk_alloc ?_ _)); exact BK_g2.out) Try.underlying29 rfl (by kernel_rfl)) rfl ?_
      exact ⟨_, rfl, Kd.S_mono (Kd.S_far (p := ⟨g2, 2, none⟩) (Kd.S_far (p := ⟨g2, 1, none⟩) (Kd.S_far (p := ⟨g2, 0, none⟩) HSv.out (fun k_ hk_ => by have h_ : g2 < k_ := hk_; show k_ ≠ g2; omega) _) (fun k_ hk_ => by have h_ : g2 < k_ := hk_; show k_ ≠ g2; omega) _) (fun k_ hk_ => by have h_ : g2 < k_ := hk_; show k_ ≠ g2; omega) _) (fun _ _ => trivial), (by repeat (first | (with_reducible first | exact HB.out | apply below_alloc | apply pw_below_drewN | apply below_drew1 | refine below_set ?_ GW_g2.out) | exact HB.out))⟩
    · rw [if_neg c1] at h
      have A1 := Aside0.mk h
      clear h
      have c0b : ((x.f2.length : Int) == 0) = false := beq_eq_false_iff_ne.mpr c0
      have c1b : ((x.f2.length : Int) == 1) = false := beq_eq_false_iff_ne.mpr c1
      have C1 := Aside0.mk c1
      clear c0 c1
      go_enter Try.func69, Try.ntmps69
      go_wp2_with (first | ((with_reducible refine gate_dst (N := 2) rfl ?_); refine box_event ?hg (N := 2) ?hd (cs := #[.int .i64 0, .int .i64 0, .slice none 0 0]) (t := 29) ?hr ?_; (case hd => rfl); (case hg => rfl); (case hr => first | (go_simp; done) | (go_simp; rfl)); intro g2 hg w1 hbox hb; have n0_ := Aside0.mk (below_step (by repeat (first | (with_reducible first | exact HB.out | apply below_alloc | apply pw_below_drewN | apply below_drew1) | exact HB.out)) hb); have GW_g2 := Aside0.mk ((by rw [hg]; exact below_size (by repeat (first | (with_reducible first | exact HB.out | apply below_alloc | apply pw_below_drewN | apply below_drew1) | exact HB.out))) : w.heap.size ≤ g2); clear hx0 hx1 hx2; clear HB ; have HB := n0_; clear n0_; have BK_g2 := Aside0.mk hbox; clear hbox hb hg; have hz_g20 : w1.cell? ⟨g2, 0, none⟩ = some (.int .i64 0) := (blk_cell BK_g2.out 0).trans rfl; have hz_g2f0 := blk_frozen BK_g2.out 0; have hz_g21 : w1.cell? ⟨g2, 1, none⟩ = some (.int .i64 0) := (blk_cell BK_g2.out 1).trans rfl; have hz_g2f1 := blk_frozen BK_g2.out 1; have hz_g22 : w1.cell? ⟨g2, 2, none⟩ = some (.slice none 0 0) := (blk_cell BK_g2.out 2).trans rfl; have hz_g2f2 := blk_frozen BK_g2.out 2; have hx0 : w1.cell? ad = some (.int .i64 x.f0) := (HB.out.cell (World.block_lt_of_cell? w _ hq0.out)).trans hq0.out; have hx1 : w1.cell? ⟨ad.block, ad.off + 1, none⟩ = some (.int .i64 x.f1) := (HB.out.cell (World.block_lt_of_cell? w _ hq1.out)).trans hq1.out; have hx2 : w1.cell? ⟨ad.block, ad.off + 2, none⟩ = some (.slice A x.f2.length c) := (HB.out.cell (World.block_lt_of_cell? w _ hq2.out)).trans hq2.out))
      have HB0 : Aside0 (Below w.heap.size w w1.drew) := ⟨(by repeat (first | (with_reducible first | exact HB.out | apply below_alloc | apply pw_below_drewN | apply below_drew1) | exact HB.out))⟩
      have B20 : Aside0 (w1.drew.heap[g2]? = some (.cells #[.int .i64 0, .int .i64 0, .slice none 0 0] 29 (0, 0))) := ⟨(by (with_reducible repeat (first | refine blk_drewN ?_ _ | refine blk_drew ?_ | refine blk_alloc ?_ _)); exact BK_g2.out)⟩
      clear HB BK_g2 hx0 hx1 hx2 hz_g20 hz_g2f0 hz_g21 hz_g2f1 hz_g22 hz_g2f2
      refine start_ (n := 11) (S := fun w' => w'.cell? ⟨ad.block, ad.off + 1, none⟩ = some (.int .i64 x.f1) ∧ w'.cell? ⟨ad.block, ad.off + 2, none⟩ = some (.slice A x.f2.length c)) (ds := []) #[false, false, false, false, false, false, false, false, false, false, false] (by kernel_rfl) rfl rfl ⟨((show Below w.heap.size w _ from (by repeat (first | (with_reducible first | exact HB0.out | apply below_alloc | apply pw_below_drewN | apply below_drew1) | exact HB0.out))).cell (World.block_lt_of_cell? w _ hq1.out)).trans hq1.out, ((show Below w.heap.size w _ from (by repeat (first | (with_reducible first | exact HB0.out | apply below_alloc | apply pw_below_drewN | apply below_drew1) | exact HB0.out))).cell (World.block_lt_of_cell? w _ hq2.out)).trans hq2.out⟩ (fun hHeld => ?_)
      generalize w1.drew = w8x at HB0 B20 hHeld ⊢
      refine pure_ (i := 0) (N := some 31) (v := ?_) (a' := ?_) #[true, false, false, false, false, false, false, false, false, false, false] rfl rfl (by kernel_rfl) (fun _ _ _ h => h) (Or.inl ⟨by rfl, ?_⟩) ?_ ?_
      rotate_left
      · intro w'
        first | (go_simp; with_reducible rfl) | (simp [go_sem, Instr.field, asAgg] <;> with_reducible rfl)
      rotate_left
      · simp only [Act.put, List.setIfInBounds_toArray, List.set_cons_zero, List.set_cons_succ, i64_w, i32_w]
        rfl
      refine pure_ (i := 1) (N := some 32) (v := ?_) (a' := ?_) #[true, true, false, false, false, false, false, false, false, false, false] rfl rfl (by kernel_rfl) (fun _ _ _ h => h) (Or.inl ⟨by rfl, ?_⟩) ?_ ?_
      rotate_left
      · intro w'
        first | (go_simp; with_reducible rfl) | (simp [go_sem, Instr.field, asAgg] <;> with_reducible rfl)
      rotate_left
      · simp only [Act.put, List.setIfInBounds_toArray, List.set_cons_zero, List.set_cons_succ, i64_w, i32_w]
        rfl
      refine pure_ (i := 2) (N := some 33) (v := ?_) (a' := ?_) #[true, true, true, false, false, false, false, false, false, false, false] rfl rfl (by kernel_rfl) (fun _ _ _ h => h) (Or.inl ⟨by rfl, ?_⟩) ?_ ?_
      rotate_left
      · intro w'
        first | (go_simp; with_reducible rfl) | (simp [go_sem, Instr.field, asAgg] <;> with_reducible rfl)
      rotate_left
      · simp only [Act.put, List.setIfInBounds_toArray, List.set_cons_zero, List.set_cons_succ, i64_w, i32_w]
        rfl
      refine pure_ (i := 4) (N := some 35) (v := ?_) (a' := ?_) #[true, true, true, false, true, false, false, false, false, false, false] rfl rfl (by kernel_rfl) (fun _ _ _ h => h) (Or.inl ⟨by rfl, ?_⟩) ?_ ?_
      rotate_left
      · intro w'
        first | (go_simp; with_reducible rfl) | (simp [go_sem, Instr.field, asAgg] <;> with_reducible rfl)
      rotate_left
      · simp only [Act.put, List.setIfInBounds_toArray, List.set_cons_zero, List.set_cons_succ, i64_w, i32_w]
        rfl
      refine pure_ (i := 5) (N := some 36) (v := ?_) (a' := ?_) #[true, true, true, false, true, true, false, false, false, false, false] rfl rfl (by kernel_rfl) (fun _ _ _ h => h) (Or.inl ⟨by rfl, ?_⟩) ?_ ?_
      rotate_left
      · intro w'
        first | (go_simp; with_reducible rfl) | (simp [go_sem, Instr.field, asAgg] <;> with_reducible rfl)
      rotate_left
      · simp only [Act.put, List.setIfInBounds_toArray, List.set_cons_zero, List.set_cons_succ, i64_w, i32_w]
        rfl
      refine pure_ (i := 6) (N := some 37) (v := ?_) (a' := ?_) #[true, true, true, false, true, true, true, false, false, false, false] rfl rfl (by kernel_rfl) (fun _ _ _ h => h) (Or.inl ⟨by rfl, ?_⟩) ?_ ?_
      rotate_left
      · intro w'
        first | (go_simp; with_reducible rfl) | (simp [go_sem, Instr.field, asAgg] <;> with_reducible rfl)
      rotate_left
      · simp only [Act.put, List.setIfInBounds_toArray, List.set_cons_zero, List.set_cons_succ, i64_w, i32_w]
        rfl
      refine take_ (i := 3) (N := some 34) (v := ?_) (a' := ?_) #[true, true, true, true, true, true, true, false, false, false, false] rfl rfl (by kernel_rfl) (fun _ _ _ h => h) (Or.inl ⟨by rfl, ?_⟩) hHeld ?_ ?_
      rotate_left
      · rintro w' ⟨s0, s1⟩
        go_simp
        with_reducible rfl
      rotate_left
      · simp only [Act.put, List.setIfInBounds_toArray, List.set_cons_zero, List.set_cons_succ, i64_w, i32_w]
        rfl
      refine take_ (i := 7) (N := some 38) (v := ?_) (a' := ?_) #[true, true, true, true, true, true, true, true, false, false, false] rfl rfl (by kernel_rfl) (fun _ _ _ h => h) (Or.inl ⟨by rfl, ?_⟩) hHeld ?_ ?_
      rotate_left
      · rintro w' ⟨s0, s1⟩
        go_simp
        with_reducible rfl
      rotate_left
      · simp only [Act.put, List.setIfInBounds_toArray, List.set_cons_zero, List.set_cons_succ, i64_w, i32_w]
        rfl
      refine pure_ (i := 8) (N := some 39) (v := ?_) (a' := ?_) #[true, true, true, true, true, true, true, true, true, false, false] rfl rfl (by kernel_rfl) (fun _ _ _ h => h) (Or.inl ⟨by rfl, ?_⟩) ?_ ?_
      rotate_left
      · intro w'
        first | (go_simp; with_reducible rfl) | (simp [go_sem, Instr.field, asAgg] <;> with_reducible rfl)
      rotate_left
      · simp only [Act.put, List.setIfInBounds_toArray, List.set_cons_zero, List.set_cons_succ, i64_w, i32_w]
        rfl
      refine pure_ (i := 9) (N := some 40) (v := ?_) (a' := ?_) #[true, true, true, true, true, true, true, true, true, true, false] rfl rfl (by kernel_rfl) (fun _ _ _ h => h) (Or.inl ⟨by rfl, ?_⟩) ?_ ?_
      rotate_left
      · intro w'
        first | (go_simp; with_reducible rfl) | (simp [go_sem, Instr.field, asAgg] <;> with_reducible rfl)
      rotate_left
      · simp only [Act.put, List.setIfInBounds_toArray, List.set_cons_zero, List.set_cons_succ, i64_w, i32_w]
        rfl
      refine pure_ (i := 10) (N := some 3) (v := ?_) (a' := ?_) #[true, true, true, true, true, true, true, true, true, true, true] rfl rfl (by kernel_rfl) (fun _ _ _ h => h) (Or.inl ⟨by rfl, ?_⟩) ?_ ?_
      rotate_left
      · intro w'
        first | (go_simp; with_reducible rfl) | (simp [go_sem, Instr.field, asAgg] <;> with_reducible rfl)
      rotate_left
      · simp only [Act.put, List.setIfInBounds_toArray, List.set_cons_zero, List.set_cons_succ, i64_w, i32_w]
        rfl
      refine done_ (by kernel_rfl) ?_
      (try clear hHeld)
      have HB := HB0
      have BK_g2 := B20
      clear HB0 B20
      have hx0 : w8x.cell? ad = some (.int .i64 x.f0) := (HB.out.cell (World.block_lt_of_cell? w _ hq0.out)).trans hq0.out
      have hx1 : w8x.cell? ⟨ad.block, ad.off + 1, none⟩ = some (.int .i64 x.f1) := (HB.out.cell (World.block_lt_of_cell? w _ hq1.out)).trans hq1.out
      have hx2 : w8x.cell? ⟨ad.block, ad.off + 2, none⟩ = some (.slice A x.f2.length c) := (HB.out.cell (World.block_lt_of_cell? w _ hq2.out)).trans hq2.out
      have hz_g20 : w8x.cell? ⟨g2, 0, none⟩ = some (.int .i64 0) := (blk_cell BK_g2.out 0).trans rfl
      have hz_g2f0 := blk_frozen BK_g2.out 0
      have hz_g21 : w8x.cell? ⟨g2, 1, none⟩ = some (.int .i64 0) := (blk_cell BK_g2.out 1).trans rfl
      have hz_g2f1 := blk_frozen BK_g2.out 1
      have hz_g22 : w8x.cell? ⟨g2, 2, none⟩ = some (.slice none 0 0) := (blk_cell BK_g2.out 2).trans rfl
      have hz_g2f2 := blk_frozen BK_g2.out 2
      by_cases cE : (x.f1 == (x.f2.length : Int)) = true
      · rw [cE]
        have CE := Aside0.mk cE
        have CE1 : Aside0 ((x.f1 == 1) = false) := ⟨beq_eq_false_iff_ne.mpr (by intro h_; have h2_ := beq_iff_eq.mp cE; exact C1.out (h2_.symm.trans h_))⟩
        clear cE
        go_wp2_with (first | ((with_reducible refine gate_dst (N := 41) rfl ?_); refine Kd.S_lit kG _ 29 ?hg (N := 41) ?hd (xs := ([] : List S29)) (inner := []) (ok := fun k_ => g2 < k_) (okp := fun k_ => g2 < k_) ?hr ?hp (fun _ hk => hk) (blk_lt (o := .cells #[.int .i64 0, .int .i64 0, .slice none 0 0] 29 (0, 0)) (by (with_reducible repeat (first | refine blk_drewN ?_ _ | refine blk_drew ?_ | refine blk_alloc ?_ _)); exact BK_g2.out)) (Below.refl _ _) (Nat.le_refl _) (by simp) ?_; (case hd => rfl); (case hg => rfl); (case hr => first | (go_simp; done) | (go_simp; rfl)); (case hp => exact (Reps.none _ _)); intro v41 w4 ho3 hb hg_ hnew_; clear hg_ hnew_; have HO := Aside0.mk (Kd.S_lower (base' := w.heap.size) ho3 (below_size (by repeat (first | (with_reducible first | exact HB.out | apply below_alloc | apply pw_below_drewN | apply below_drew1) | exact HB.out)))); clear ho3; have n0_ := Aside0.mk (below_step (by repeat (first | (with_reducible first | exact HB.out | apply below_alloc | apply pw_below_drewN | apply below_drew1) | exact HB.out)) hb); have n1_ := Aside0.mk (blk_below (g := g2) (o := .cells #[.int .i64 0, .int .i64 0, .slice none 0 0] 29 (0, 0)) (by (with_reducible repeat (first | refine blk_drewN ?_ _ | refine blk_drew ?_ | refine blk_alloc ?_ _)); exact BK_g2.out) hb); clear HB BK_g2 hz_g20 hz_g2f0 hz_g21 hz_g2f1 hz_g22 hz_g2f2 hx0 hx1 hx2 hb; have HB := n0_; have BK_g2 := n1_; clear n0_ n1_; have hx0 : w4.cell? ad = some (.int .i64 x.f0) := (HB.out.cell (World.block_lt_of_cell? w _ hq0.out)).trans hq0.out; have hx1 : w4.cell? ⟨ad.block, ad.off + 1, none⟩ = some (.int .i64 x.f1) := (HB.out.cell (World.block_lt_of_cell? w _ hq1.out)).trans hq1.out; have hx2 : w4.cell? ⟨ad.block, ad.off + 2, none⟩ = some (.slice A x.f2.length c) := (HB.out.cell (World.block_lt_of_cell? w _ hq2.out)).trans hq2.out; have hz_g20 : w4.cell? ⟨g2, 0, none⟩ = some (.int .i64 0) := (blk_cell BK_g2.out 0).trans rfl; have hz_g2f0 := blk_frozen BK_g2.out 0; have hz_g21 : w4.cell? ⟨g2, 1, none⟩ = some (.int .i64 0) := (blk_cell BK_g2.out 1).trans rfl; have hz_g2f1 := blk_frozen BK_g2.out 1; have hz_g22 : w4.cell? ⟨g2, 2, none⟩ = some (.slice none 0 0) := (blk_cell BK_g2.out 2).trans rfl; have hz_g2f2 := blk_frozen BK_g2.out 2))
        go_loopg [4, 5] k (fun kq v4 v5 w' => ∃ (i : Int) (out : List S29), v5 = .int .i64 i ∧ Aside0 (spec_l02Tidy.l0 kq x out i = some y) ∧ Aside0 (kq ≤ k) ∧ Aside0 (Kd.S kG 29 w' w.heap.size (fun k_ => g2 < k_) v4 out) ∧ Aside0 (w'.heap[g2]? = some (.cells #[.int .i64 0, .int .i64 0, .slice none 0 0] 29 (0, 0))) ∧ Aside0 (Below w.heap.size w w'))
        case atStart => exact ⟨0, [], rfl, A1, ⟨Nat.le_refl _⟩, ⟨(by (with_reducible repeat (first | apply Kd.S_alloc | apply Kd.S_drewN | apply Kd.S_drew)); exact HO.out)⟩, ⟨(by (with_reducible repeat (first | refine blk_drewN ?_ _ | refine blk_drew ?_ | refine blk_alloc ?_ _)); exact BK_g2.out)⟩, ⟨(by repeat (first | (with_reducible first | exact HB.out | apply below_alloc | apply pw_below_drewN | apply below_drew1) | exact HB.out))⟩⟩
        case round =>
          clear A1 HO BK_g2 HB hx0 hx1 hx2 hz_g20 hz_g2f0 hz_g21 hz_g2f1 hz_g22 hz_g2f2
          obtain ⟨i, out, rfl, HA, HK1, HO, BK_g2, HB⟩ := hrel
          have hx0 : wr.cell? ad = some (.int .i64 x.f0) := (HB.out.cell (World.block_lt_of_cell? w _ hq0.out)).trans hq0.out
          have hx1 : wr.cell? ⟨ad.block, ad.off + 1, none⟩ = some (.int .i64 x.f1) := (HB.out.cell (World.block_lt_of_cell? w _ hq1.out)).trans hq1.out
          have hx2 : wr.cell? ⟨ad.block, ad.off + 2, none⟩ = some (.slice A x.f2.length c) := (HB.out.cell (World.block_lt_of_cell? w _ hq2.out)).trans hq2.out
          have hz_g20 : wr.cell? ⟨g2, 0, none⟩ = some (.int .i64 0) := (blk_cell BK_g2.out 0).trans rfl
          have hz_g2f0 := blk_frozen BK_g2.out 0
          have hz_g21 : wr.cell? ⟨g2, 1, none⟩ = some (.int .i64 0) := (blk_cell BK_g2.out 1).trans rfl
          have hz_g2f1 := blk_frozen BK_g2.out 1
          have hz_g22 : wr.cell? ⟨g2, 2, none⟩ = some (.slice none 0 0) := (blk_cell BK_g2.out 2).trans rfl
          have hz_g2f2 := blk_frozen BK_g2.out 2
          obtain ⟨NO, hNO⟩ : ∃ n : Nat, n = wr.heap.size := ⟨_, rfl⟩
          have HNO := Aside0.mk hNO
          have HLr : Aside0 (g2 < NO) := ⟨by rw [hNO]; exact blk_lt BK_g2.out⟩
          clear hNO
          cases gk with
          | zero => exact absurd HA.out (by simp [spec_l02Tidy.l0])
          | succ k1 =>
            have H' := HA.out
            clear HA
            simp only [spec_l02Tidy.l0] at H'
            by_cases c6 : i < (x.f2.length : Int)
            · rw [if_pos c6] at H'
              by_cases c7 : 0 ≤ i
              case neg => rw [if_neg c7] at H'; exact absurd H' (by simp)
              rw [if_pos c7] at H'
              replace H' := Option.bind_eq_some_iff.mp H'
              obtain ⟨t, At, H'⟩ := H'
              have A7 := Aside0.mk At
              clear At
              have c6b0 : decide (i < (x.f2.length : Int)) = true := decide_eq_true c6
              have c7b0 : decide (0 ≤ i) = true := decide_eq_true c7
              obtain ⟨ad2, A2, c2, e2, _⟩ := at_T29 HC.out i c7 c6
              cases e2
              have HE := Aside0.mk (gate_el HC.out i c7 c6)
              replace c7 := eq_true c7
              replace c6 := eq_true c6
              by_cases cT : 0 < (t.f2.length : Int)
              · have dT : decide (0 < (t.f2.length : Int)) = true := decide_eq_true cT
                have dN := eq_true (show 0 < t.f2.length by omega)
                have bcL : (x.f1 == 1) = false := CE1.out
                by_cases cK : t.f1 = (t.f2.length : Int)
                · have bcK : (t.f1 == (t.f2.length : Int)) = true := beq_iff_eq.mpr cK
                  clear cK
                  have cC : tidyC x t = true := by unfold tidyC; simp only [dT, bcL, bcK, CE.out, Bool.true_and, Bool.and_true, Bool.true_or, Bool.or_true, Bool.false_or, Bool.or_false, Bool.and_self, Bool.false_and, Bool.and_false]
                  rw [if_pos cC] at H'
                  clear cC
                  by_cases c8 : out.length + t.f2.length < 1048576
                  case neg => rw [if_neg c8] at H'; exact absurd H' (by simp)
                  rw [if_pos c8] at H'
                  have LM := Aside0.mk c8
                  have HF := Aside0.mk H'
                  clear H' c8
                  have HLT := Aside0.mk cT
                  clear cT
                  go_wp2_with (first | (go_at_call 69; (with_reducible refine (IH.out k1 (by have := HK1.out; omega) _ (rd_T29 x.f2 i) t _ ?sP A7.out).mono ?_); (case sP => exact Kd.C_below HE.out (by repeat (first | (with_reducible first | exact HB.out | apply below_alloc | apply pw_below_drewN | apply below_drew1) | exact HB.out))); rintro e w6 ⟨v, rfl, hS, hb⟩; have n2_ := Aside0.mk (Kd.S_mono (Kd.S_old (by (with_reducible repeat (first | apply Kd.S_alloc | apply Kd.S_drewN | apply Kd.S_drew)); exact HO.out) hb) (ok' := fun k_ => g2 < k_ ∧ k_ < NO) (fun k_ hk_ => ⟨hk_.1, by have h2_ := hk_.2; (try simp only [World.drewN, World.drew] at h2_); have := HNO.out; omega⟩)); have HNS := Aside0.mk (Nat.le_trans (Nat.le_of_eq HNO.out) (below_size (show Below wr.heap.size wr w6 from below_step (by repeat (first | (with_reducible first | exact (Below.refl wr.heap.size wr) | apply below_alloc | apply pw_below_drewN | apply below_drew1) | exact (Below.refl wr.heap.size wr))) hb))); have HSv := Aside0.mk (Kd.S_lower (base' := w.heap.size) (Kd.S_mono (Kd.S_bound hS) (ok' := fun k_ => NO ≤ k_ ∧ k_ < w6.heap.size) (fun k_ hk_ => ⟨Nat.le_trans (Nat.le_of_eq HNO.out) hk_.2.1, hk_.2.2.1⟩)) (below_size (by repeat (first | (with_reducible first | exact HB.out | apply below_alloc | apply pw_below_drewN | apply below_drew1) | exact HB.out)))); obtain ⟨Av, cv, ev⟩ := Kd.S_slice HSv.out; subst ev; clear hS HO; have HO := n2_; clear n2_; have n0_ := Aside0.mk (below_step (by repeat (first | (with_reducible first | exact HB.out | apply below_alloc | apply pw_below_drewN | apply below_drew1) | exact HB.out)) hb); have n1_ := Aside0.mk (blk_below (g := g2) (o := .cells #[.int .i64 0, .int .i64 0, .slice none 0 0] 29 (0, 0)) (by (with_reducible repeat (first | refine blk_drewN ?_ _ | refine blk_drew ?_ | refine blk_alloc ?_ _)); exact BK_g2.out) hb); clear HB BK_g2 hz_g20 hz_g2f0 hz_g21 hz_g2f1 hz_g22 hz_g2f2 hx0 hx1 hx2 hb; have HB := n0_; have BK_g2 := n1_; clear n0_ n1_; have hx0 : w6.cell? ad = some (.int .i64 x.f0) := (HB.out.cell (World.block_lt_of_cell? w _ hq0.out)).trans hq0.out; have hx1 : w6.cell? ⟨ad.block, ad.off + 1, none⟩ = some (.int .i64 x.f1) := (HB.out.cell (World.block_lt_of_cell? w _ hq1.out)).trans hq1.out; have hx2 : w6.cell? ⟨ad.block, ad.off + 2, none⟩ = some (.slice (some ad2) x.f2.length c) := (HB.out.cell (World.block_lt_of_cell? w _ hq2.out)).trans hq2.out; have hz_g20 : w6.cell? ⟨g2, 0, none⟩ = some (.int .i64 0) := (blk_cell BK_g2.out 0).trans rfl; have hz_g2f0 := blk_frozen BK_g2.out 0; have hz_g21 : w6.cell? ⟨g2, 1, none⟩ = some (.int .i64 0) := (blk_cell BK_g2.out 1).trans rfl; have hz_g2f1 := blk_frozen BK_g2.out 1; have hz_g22 : w6.cell? ⟨g2, 2, none⟩ = some (.slice none 0 0) := (blk_cell BK_g2.out 2).trans rfl; have hz_g2f2 := blk_frozen BK_g2.out 2; obtain ⟨gE, cE, eE, _⟩ := Kd.S_form HSv.out (by have := HLT.out; omega); have eA : Av = some ⟨gE, 0, none⟩ := (by injection eE); subst eA; clear eE) | ((with_reducible refine gate_dst (N := 6) rfl ?_); refine box_event ?hg (N := 6) ?hd (cs := #[.int .i64 0, .int .i64 0, .slice none 0 0]) (t := 29) ?hr ?_; (case hd => rfl); (case hg => rfl); (case hr => first | (go_simp; done) | (go_simp; rfl)); intro g6 hg w7 hbox hb; have GW_g6 := Aside0.mk ((by rw [hg]; exact below_size (by repeat (first | (with_reducible first | exact HB.out | apply below_alloc | apply pw_below_drewN | apply below_drew1) | exact HB.out))) : w.heap.size ≤ g6); have HL6 := Aside0.mk ((by rw [hg]; exact blk_lt (o := .cells #[.int .i64 0, .int .i64 0, .slice none 0 0] 29 (0, 0)) (by (with_reducible repeat (first | refine blk_drewN ?_ _ | refine blk_drew ?_ | refine blk_alloc ?_ _)); exact BK_g2.out)) : g2 < g6); have HE6 := Aside0.mk ((by rw [hg]; exact below_size (by repeat (first | (with_reducible first | exact (Below.refl w6.heap.size w6) | apply below_alloc | apply pw_below_drewN | apply below_drew1) | exact (Below.refl w6.heap.size w6)))) : w6.heap.size ≤ g6); have n3_ := Aside0.mk (Kd.S_below (by (with_reducible repeat (first | apply Kd.S_alloc | apply Kd.S_drewN | apply Kd.S_drew)); exact HO.out) hb); have HSq := Aside0.mk (Kd.S_mono HSv.out (ok' := fun k_ => NO ≤ k_ ∧ k_ < g6) (fun k_ hk_ => ⟨hk_.1, Nat.lt_of_lt_of_le hk_.2 HE6.out⟩)); have n4_ := Aside0.mk (Kd.S_below (by (with_reducible repeat (first | apply Kd.S_alloc | apply Kd.S_drewN | apply Kd.S_drew)); exact HSq.out) hb); have hnA : ad.block ≠ g6 := (by have h_ := World.block_lt_of_cell? w _ hq0.out; have := GW_g6.out; intro e_; rw [e_] at h_; omega); have hnA' := Ne.symm hnA; clear HO HSv HSq; have HO := n3_; have HSv := n4_; clear n3_ n4_; have BK_g6 := Aside0.mk hbox; have M6 := Aside0.mk trivial; clear hbox hg; have n0_ := Aside0.mk (below_step (by repeat (first | (with_reducible first | exact HB.out | apply below_alloc | apply pw_below_drewN | apply below_drew1) | exact HB.out)) hb); have n1_ := Aside0.mk (blk_below (g := g2) (o := .cells #[.int .i64 0, .int .i64 0, .slice none 0 0] 29 (0, 0)) (by (with_reducible repeat (first | refine blk_drewN ?_ _ | refine blk_drew ?_ | refine blk_alloc ?_ _)); exact BK_g2.out) hb); clear HB BK_g2 hz_g20 hz_g2f0 hz_g21 hz_g2f1 hz_g22 hz_g2f2 hx0 hx1 hx2 hb; have HB := n0_; have BK_g2 := n1_; clear n0_ n1_; have hx0 : w7.cell? ad = some (.int .i64 x.f0) := (HB.out.cell (World.block_lt_of_cell? w _ hq0.out)).trans hq0.out; have hx1 : w7.cell? ⟨ad.block, ad.off + 1, none⟩ = some (.int .i64 x.f1) := (HB.out.cell (World.block_lt_of_cell? w _ hq1.out)).trans hq1.out; have hx2 : w7.cell? ⟨ad.block, ad.off + 2, none⟩ = some (.slice (some ad2) x.f2.length c) := (HB.out.cell (World.block_lt_of_cell? w _ hq2.out)).trans hq2.out; have hz_g20 : w7.cell? ⟨g2, 0, none⟩ = some (.int .i64 0) := (blk_cell BK_g2.out 0).trans rfl; have hz_g2f0 := blk_frozen BK_g2.out 0; have hz_g21 : w7.cell? ⟨g2, 1, none⟩ = some (.int .i64 0) := (blk_cell BK_g2.out 1).trans rfl; have hz_g2f1 := blk_frozen BK_g2.out 1; have hz_g22 : w7.cell? ⟨g2, 2, none⟩ = some (.slice none 0 0) := (blk_cell BK_g2.out 2).trans rfl; have hz_g2f2 := blk_frozen BK_g2.out 2; have hz_g60 : w7.cell? ⟨g6, 0, none⟩ = some (.int .i64 0) := (blk_cell BK_g6.out 0).trans rfl; have hz_g6f0 := blk_frozen BK_g6.out 0; have hz_g61 : w7.cell? ⟨g6, 1, none⟩ = some (.int .i64 0) := (blk_cell BK_g6.out 1).trans rfl; have hz_g6f1 := blk_frozen BK_g6.out 1; have hz_g62 : w7.cell? ⟨g6, 2, none⟩ = some (.slice none 0 0) := (blk_cell BK_g6.out 2).trans rfl; have hz_g6f2 := blk_frozen BK_g6.out 2) | ((with_reducible refine gate_dst (N := 58) rfl ?_); clear M6; have HSw := Aside0.mk (show Kd.S kG 29 (((w7.setCell ⟨g6, 0, none⟩ (.int .i64 t.f0)).setCell ⟨g6, 1, none⟩ (.int .i64 t.f1)).setCell ⟨g6, 2, none⟩ (.slice (some ⟨gE, 0, none⟩) t.f2.length cv)) w.heap.size (fun k_ => NO ≤ k_ ∧ k_ < g6) (.slice (some ⟨gE, 0, none⟩) t.f2.length cv) t.f2 from Kd.S_far (p := ⟨g6, 2, none⟩) (Kd.S_far (p := ⟨g6, 1, none⟩) (Kd.S_far (p := ⟨g6, 0, none⟩) HSv.out (fun k_ hk_ => by have h_ := hk_.2; show k_ ≠ g6; omega) _) (fun k_ hk_ => by have h_ := hk_.2; show k_ ≠ g6; omega) _) (fun k_ hk_ => by have h_ := hk_.2; show k_ ≠ g6; omega) _); have HOw := Aside0.mk (show Kd.S kG 29 (((w7.setCell ⟨g6, 0, none⟩ (.int .i64 t.f0)).setCell ⟨g6, 1, none⟩ (.int .i64 t.f1)).setCell ⟨g6, 2, none⟩ (.slice (some ⟨gE, 0, none⟩) t.f2.length cv)) w.heap.size (fun k_ => g2 < k_ ∧ k_ < NO) u4 out from Kd.S_far (p := ⟨g6, 2, none⟩) (Kd.S_far (p := ⟨g6, 1, none⟩) (Kd.S_far (p := ⟨g6, 0, none⟩) HO.out (fun k_ hk_ => by have h_ := hk_.2; have := HE6.out; have := HNS.out; show k_ ≠ g6; omega) _) (fun k_ hk_ => by have h_ := hk_.2; have := HE6.out; have := HNS.out; show k_ ≠ g6; omega) _) (fun k_ hk_ => by have h_ := hk_.2; have := HE6.out; have := HNS.out; show k_ ≠ g6; omega) _); have HBw := Aside0.mk (show Below w.heap.size w (((w7.setCell ⟨g6, 0, none⟩ (.int .i64 t.f0)).setCell ⟨g6, 1, none⟩ (.int .i64 t.f1)).setCell ⟨g6, 2, none⟩ (.slice (some ⟨gE, 0, none⟩) t.f2.length cv)) from below_set (below_set (below_set HB.out GW_g6.out) GW_g6.out) GW_g6.out); have B2w := Aside0.mk (show (World.heap (((w7.setCell ⟨g6, 0, none⟩ (.int .i64 t.f0)).setCell ⟨g6, 1, none⟩ (.int .i64 t.f1)).setCell ⟨g6, 2, none⟩ (.slice (some ⟨gE, 0, none⟩) t.f2.length cv)))[g2]? = some (.cells #[.int .i64 0, .int .i64 0, .slice none 0 0] 29 (0, 0)) from (by refine blk_far ?_ (show g2 ≠ g6 by have := HL6.out; omega) _; refine blk_far ?_ (show g2 ≠ g6 by have := HL6.out; omega) _; refine blk_far ?_ (show g2 ≠ g6 by have := HL6.out; omega) _; exact BK_g2.out)); have B6w := Aside0.mk (show (World.heap (((w7.setCell ⟨g6, 0, none⟩ (.int .i64 t.f0)).setCell ⟨g6, 1, none⟩ (.int .i64 t.f1)).setCell ⟨g6, 2, none⟩ (.slice (some ⟨gE, 0, none⟩) t.f2.length cv)))[g6]? = some (.cells #[.int .i64 t.f0, .int .i64 t.f1, .slice (some ⟨gE, 0, none⟩) t.f2.length cv] 29 (0, 0)) from (by (with_reducible repeat (first | refine blk_drewN ?_ _ | refine blk_drew ?_ | refine blk_alloc ?_ _)); refine blk_put (cs := #[.int .i64 t.f0, .int .i64 t.f1, .slice none 0 0]) ?_ 2 _ rfl; (with_reducible repeat (first | refine blk_drewN ?_ _ | refine blk_drew ?_ | refine blk_alloc ?_ _)); refine blk_put (cs := #[.int .i64 t.f0, .int .i64 0, .slice none 0 0]) ?_ 1 _ rfl; (with_reducible repeat (first | refine blk_drewN ?_ _ | refine blk_drew ?_ | refine blk_alloc ?_ _)); refine blk_put (cs := #[.int .i64 0, .int .i64 0, .slice none 0 0]) ?_ 0 _ rfl; (with_reducible repeat (first | refine blk_drewN ?_ _ | refine blk_drew ?_ | refine blk_alloc ?_ _)); exact BK_g6.out)); clear HSv HO HB BK_g2 BK_g6 hx0 hx1 hx2 hz_g20 hz_g2f0 hz_g21 hz_g2f1 hz_g22 hz_g2f2 hz_g60 hz_g6f0 hz_g61 hz_g6f1 hz_g62 hz_g6f2; generalize (((w7.setCell ⟨g6, 0, none⟩ (.int .i64 t.f0)).setCell ⟨g6, 1, none⟩ (.int .i64 t.f1)).setCell ⟨g6, 2, none⟩ (.slice (some ⟨gE, 0, none⟩) t.f2.length cv)) = w9 at HSw HOw HBw B2w B6w ⊢; have HSv := HSw; have HO := HOw; have HB := HBw; have BK_g2 := B2w; have BK_g6 := B6w; clear HSw HOw HBw B2w B6w; have hx0 : w9.cell? ad = some (.int .i64 x.f0) := (HB.out.cell (World.block_lt_of_cell? w _ hq0.out)).trans hq0.out; have hx1 : w9.cell? ⟨ad.block, ad.off + 1, none⟩ = some (.int .i64 x.f1) := (HB.out.cell (World.block_lt_of_cell? w _ hq1.out)).trans hq1.out; have hx2 : w9.cell? ⟨ad.block, ad.off + 2, none⟩ = some (.slice (some ad2) x.f2.length c) := (HB.out.cell (World.block_lt_of_cell? w _ hq2.out)).trans hq2.out; have hz_g20 : w9.cell? ⟨g2, 0, none⟩ = some (.int .i64 0) := (blk_cell BK_g2.out 0).trans rfl; have hz_g2f0 := blk_frozen BK_g2.out 0; have hz_g21 : w9.cell? ⟨g2, 1, none⟩ = some (.int .i64 0) := (blk_cell BK_g2.out 1).trans rfl; have hz_g2f1 := blk_frozen BK_g2.out 1; have hz_g22 : w9.cell? ⟨g2, 2, none⟩ = some (.slice none 0 0) := (blk_cell BK_g2.out 2).trans rfl; have hz_g2f2 := blk_frozen BK_g2.out 2; have hz_g60 : w9.cell? ⟨g6, 0, none⟩ = some (.int .i64 t.f0) := (blk_cell BK_g6.out 0).trans rfl; have hz_g6f0 := blk_frozen BK_g6.out 0; have hz_g61 : w9.cell? ⟨g6, 1, none⟩ = some (.int .i64 t.f1) := (blk_cell BK_g6.out 1).trans rfl; have hz_g6f1 := blk_frozen BK_g6.out 1; have hz_g62 : w9.cell? ⟨g6, 2, none⟩ = some (.slice (some ⟨gE, 0, none⟩) t.f2.length cv) := (blk_cell BK_g6.out 2).trans rfl; have hz_g6f2 := blk_frozen BK_g6.out 2) | ((with_reducible refine gate_builtin (b := .append) (xs := #[.tmp 86, .tmp 88]) rfl ?_); at_builtin; refine appRowS kG (w0 := w) w.heap.size rfl (.tmp 86) (.tmp 88) 27 29 (.agg #[.int .i64 0, .int .i64 0, .slice none 0 0]) 40 rfl Try.underlying27 info29 rfl (by decide) (by omega) u4 out t.f2 ⟨gE, 0, none⟩ _ cv (fun k_ => g2 < k_) (fun k_ => NO ≤ k_ ∧ k_ < g6) rfl rfl ?aP ?aK ?aF ?aO ?aB ?aS ?aL ?_; (case aP => exact HSv.out); (case aK => exact fun k_ hk_ => ⟨Nat.lt_of_lt_of_le HLr.out hk_.1, fun e_ => by have h_ := ((Kd.S_R HO.out).1 k_ e_.symm).2; have h2_ := hk_.1; omega⟩); (case aF => exact fun k_ hk_ => Nat.lt_of_lt_of_le (blk_lt (o := .cells #[.int .i64 0, .int .i64 0, .slice none 0 0] 29 (0, 0)) BK_g2.out) (Nat.le_trans (by simp) hk_)); (case aO => exact Kd.S_mono HO.out (fun k_ hk_ => ⟨hk_.1, fun h2_ => by have h3_ := h2_.1; have h4_ := hk_.2; omega⟩)); (case aB => exact HB.out); (case aS => exact below_size HB.out); (case aL => have := LM.out; omega); intro v7b w8 ho hb hg hat; have hown : ∀ k_, (u4 : Value).ownBlock = some k_ → g2 < k_ ∧ k_ < NO := fun k_ e_ => ((Kd.S_R HO.out).1 k_ e_); have n1_ := Aside0.mk (blk_grown (g := g2) (o := .cells #[.int .i64 0, .int .i64 0, .slice none 0 0] 29 (0, 0)) BK_g2.out hg (fun e_ => by have := (hown _ e_.symm).1; omega)); have HO8 := Aside0.mk ho; have HB8 := Aside0.mk hb; have B28 := n1_; clear n1_ ho hb hg hat hown HO BK_g2 BK_g6 HB HSv hx0 hx1 hx2 hz_g20 hz_g2f0 hz_g21 hz_g2f1 hz_g22 hz_g2f2 hz_g60 hz_g6f0 hz_g61 hz_g6f1 hz_g62 hz_g6f2))
                  go_roundg k1
                  case measure => have := HK1.out; omega
                  case rel => exact ⟨_, out ++ t.f2, rfl, HF, ⟨by have := HK1.out; omega⟩, HO8, B28, HB8⟩
                · have bcK : (t.f1 == (t.f2.length : Int)) = false := beq_eq_false_iff_ne.mpr cK
                  clear cK
                  have cC : tidyC x t = false := by unfold tidyC; simp only [dT, bcL, bcK, CE.out, Bool.true_and, Bool.and_true, Bool.true_or, Bool.or_true, Bool.false_or, Bool.or_false, Bool.and_self, Bool.false_and, Bool.and_false]
                  rw [if_neg (show ¬ (tidyC x t = true) by rw [cC]; decide)] at H'
                  clear cC
                  by_cases c8 : out.length < 1048576
                  case neg => rw [if_neg c8] at H'; exact absurd H' (by simp)
                  rw [if_pos c8] at H'
                  have LM := Aside0.mk c8
                  have HF := Aside0.mk H'
                  clear H' c8
                  (try clear cT)
                  go_wp2_with (first | (go_at_call 69; (with_reducible refine (IH.out k1 (by have := HK1.out; omega) _ (rd_T29 x.f2 i) t _ ?sP A7.out).mono ?_); (case sP => exact Kd.C_below HE.out (by repeat (first | (with_reducible first | exact HB.out | apply below_alloc | apply pw_below_drewN | apply below_drew1) | exact HB.out))); rintro e w6 ⟨v, rfl, hS, hb⟩; have n2_ := Aside0.mk (Kd.S_mono (Kd.S_old (by (with_reducible repeat (first | apply Kd.S_alloc | apply Kd.S_drewN | apply Kd.S_drew)); exact HO.out) hb) (ok' := fun k_ => g2 < k_ ∧ k_ < NO) (fun k_ hk_ => ⟨hk_.1, by have h2_ := hk_.2; (try simp only [World.drewN, World.drew] at h2_); have := HNO.out; omega⟩)); have HNS := Aside0.mk (Nat.le_trans (Nat.le_of_eq HNO.out) (below_size (show Below wr.heap.size wr w6 from below_step (by repeat (first | (with_reducible first | exact (Below.refl wr.heap.size wr) | apply below_alloc | apply pw_below_drewN | apply below_drew1) | exact (Below.refl wr.heap.size wr))) hb))); have HSv := Aside0.mk (Kd.S_lower (base' := w.heap.size) (Kd.S_mono (Kd.S_bound hS) (ok' := fun k_ => NO ≤ k_ ∧ k_ < w6.heap.size) (fun k_ hk_ => ⟨Nat.le_trans (Nat.le_of_eq HNO.out) hk_.2.1, hk_.2.2.1⟩)) (below_size (by repeat (first | (with_reducible first | exact HB.out | apply below_alloc | apply pw_below_drewN | apply below_drew1) | exact HB.out)))); obtain ⟨Av, cv, ev⟩ := Kd.S_slice HSv.out; subst ev; clear hS HO; have HO := n2_; clear n2_; have n0_ := Aside0.mk (below_step (by repeat (first | (with_reducible first | exact HB.out | apply below_alloc | apply pw_below_drewN | apply below_drew1) | exact HB.out)) hb); have n1_ := Aside0.mk (blk_below (g := g2) (o := .cells #[.int .i64 0, .int .i64 0, .slice none 0 0] 29 (0, 0)) (by (with_reducible repeat (first | refine blk_drewN ?_ _ | refine blk_drew ?_ | refine blk_alloc ?_ _)); exact BK_g2.out) hb); clear HB BK_g2 hz_g20 hz_g2f0 hz_g21 hz_g2f1 hz_g22 hz_g2f2 hx0 hx1 hx2 hb; have HB := n0_; have BK_g2 := n1_; clear n0_ n1_; have hx0 : w6.cell? ad = some (.int .i64 x.f0) := (HB.out.cell (World.block_lt_of_cell? w _ hq0.out)).trans hq0.out; have hx1 : w6.cell? ⟨ad.block, ad.off + 1, none⟩ = some (.int .i64 x.f1) := (HB.out.cell (World.block_lt_of_cell? w _ hq1.out)).trans hq1.out; have hx2 : w6.cell? ⟨ad.block, ad.off + 2, none⟩ = some (.slice (some ad2) x.f2.length c) := (HB.out.cell (World.block_lt_of_cell? w _ hq2.out)).trans hq2.out; have hz_g20 : w6.cell? ⟨g2, 0, none⟩ = some (.int .i64 0) := (blk_cell BK_g2.out 0).trans rfl; have hz_g2f0 := blk_frozen BK_g2.out 0; have hz_g21 : w6.cell? ⟨g2, 1, none⟩ = some (.int .i64 0) := (blk_cell BK_g2.out 1).trans rfl; have hz_g2f1 := blk_frozen BK_g2.out 1; have hz_g22 : w6.cell? ⟨g2, 2, none⟩ = some (.slice none 0 0) := (blk_cell BK_g2.out 2).trans rfl; have hz_g2f2 := blk_frozen BK_g2.out 2) | ((with_reducible refine gate_dst (N := 6) rfl ?_); refine box_event ?hg (N := 6) ?hd (cs := #[.int .i64 0, .int .i64 0, .slice none 0 0]) (t := 29) ?hr ?_; (case hd => rfl); (case hg => rfl); (case hr => first | (go_simp; done) | (go_simp; rfl)); intro g6 hg w7 hbox hb; have GW_g6 := Aside0.mk ((by rw [hg]; exact below_size (by repeat (first | (with_reducible first | exact HB.out | apply below_alloc | apply pw_below_drewN | apply below_drew1) | exact HB.out))) : w.heap.size ≤ g6); have HL6 := Aside0.mk ((by rw [hg]; exact blk_lt (o := .cells #[.int .i64 0, .int .i64 0, .slice none 0 0] 29 (0, 0)) (by (with_reducible repeat (first | refine blk_drewN ?_ _ | refine blk_drew ?_ | refine blk_alloc ?_ _)); exact BK_g2.out)) : g2 < g6); have HE6 := Aside0.mk ((by rw [hg]; exact below_size (by repeat (first | (with_reducible first | exact (Below.refl w6.heap.size w6) | apply below_alloc | apply pw_below_drewN | apply below_drew1) | exact (Below.refl w6.heap.size w6)))) : w6.heap.size ≤ g6); have n3_ := Aside0.mk (Kd.S_below (by (with_reducible repeat (first | apply Kd.S_alloc | apply Kd.S_drewN | apply Kd.S_drew)); exact HO.out) hb); have HSq := Aside0.mk (Kd.S_mono HSv.out (ok' := fun k_ => NO ≤ k_ ∧ k_ < g6) (fun k_ hk_ => ⟨hk_.1, Nat.lt_of_lt_of_le hk_.2 HE6.out⟩)); have n4_ := Aside0.mk (Kd.S_below (by (with_reducible repeat (first | apply Kd.S_alloc | apply Kd.S_drewN | apply Kd.S_drew)); exact HSq.out) hb); have hnA : ad.block ≠ g6 := (by have h_ := World.block_lt_of_cell? w _ hq0.out; have := GW_g6.out; intro e_; rw [e_] at h_; omega); have hnA' := Ne.symm hnA; clear HO HSv HSq; have HO := n3_; have HSv := n4_; clear n3_ n4_; have BK_g6 := Aside0.mk hbox; have M6 := Aside0.mk trivial; clear hbox hg; have n0_ := Aside0.mk (below_step (by repeat (first | (with_reducible first | exact HB.out | apply below_alloc | apply pw_below_drewN | apply below_drew1) | exact HB.out)) hb); have n1_ := Aside0.mk (blk_below (g := g2) (o := .cells #[.int .i64 0, .int .i64 0, .slice none 0 0] 29 (0, 0)) (by (with_reducible repeat (first | refine blk_drewN ?_ _ | refine blk_drew ?_ | refine blk_alloc ?_ _)); exact BK_g2.out) hb); clear HB BK_g2 hz_g20 hz_g2f0 hz_g21 hz_g2f1 hz_g22 hz_g2f2 hx0 hx1 hx2 hb; have HB := n0_; have BK_g2 := n1_; clear n0_ n1_; have hx0 : w7.cell? ad = some (.int .i64 x.f0) := (HB.out.cell (World.block_lt_of_cell? w _ hq0.out)).trans hq0.out; have hx1 : w7.cell? ⟨ad.block, ad.off + 1, none⟩ = some (.int .i64 x.f1) := (HB.out.cell (World.block_lt_of_cell? w _ hq1.out)).trans hq1.out; have hx2 : w7.cell? ⟨ad.block, ad.off + 2, none⟩ = some (.slice (some ad2) x.f2.length c) := (HB.out.cell (World.block_lt_of_cell? w _ hq2.out)).trans hq2.out; have hz_g20 : w7.cell? ⟨g2, 0, none⟩ = some (.int .i64 0) := (blk_cell BK_g2.out 0).trans rfl; have hz_g2f0 := blk_frozen BK_g2.out 0; have hz_g21 : w7.cell? ⟨g2, 1, none⟩ = some (.int .i64 0) := (blk_cell BK_g2.out 1).trans rfl; have hz_g2f1 := blk_frozen BK_g2.out 1; have hz_g22 : w7.cell? ⟨g2, 2, none⟩ = some (.slice none 0 0) := (blk_cell BK_g2.out 2).trans rfl; have hz_g2f2 := blk_frozen BK_g2.out 2; have hz_g60 : w7.cell? ⟨g6, 0, none⟩ = some (.int .i64 0) := (blk_cell BK_g6.out 0).trans rfl; have hz_g6f0 := blk_frozen BK_g6.out 0; have hz_g61 : w7.cell? ⟨g6, 1, none⟩ = some (.int .i64 0) := (blk_cell BK_g6.out 1).trans rfl; have hz_g6f1 := blk_frozen BK_g6.out 1; have hz_g62 : w7.cell? ⟨g6, 2, none⟩ = some (.slice none 0 0) := (blk_cell BK_g6.out 2).trans rfl; have hz_g6f2 := blk_frozen BK_g6.out 2) | ((with_reducible refine gate_dst (N := 58) rfl ?_); clear M6; have HSw := Aside0.mk (show Kd.S kG 29 (((w7.setCell ⟨g6, 0, none⟩ (.int .i64 t.f0)).setCell ⟨g6, 1, none⟩ (.int .i64 t.f1)).setCell ⟨g6, 2, none⟩ (.slice Av t.f2.length cv)) w.heap.size (fun k_ => NO ≤ k_ ∧ k_ < g6) (.slice Av t.f2.length cv) t.f2 from Kd.S_far (p := ⟨g6, 2, none⟩) (Kd.S_far (p := ⟨g6, 1, none⟩) (Kd.S_far (p := ⟨g6, 0, none⟩) HSv.out (fun k_ hk_ => by have h_ := hk_.2; show k_ ≠ g6; omega) _) (fun k_ hk_ => by have h_ := hk_.2; show k_ ≠ g6; omega) _) (fun k_ hk_ => by have h_ := hk_.2; show k_ ≠ g6; omega) _); have HOw := Aside0.mk (show Kd.S kG 29 (((w7.setCell ⟨g6, 0, none⟩ (.int .i64 t.f0)).setCell ⟨g6, 1, none⟩ (.int .i64 t.f1)).setCell ⟨g6, 2, none⟩ (.slice Av t.f2.length cv)) w.heap.size (fun k_ => g2 < k_ ∧ k_ < NO) u4 out from Kd.S_far (p := ⟨g6, 2, none⟩) (Kd.S_far (p := ⟨g6, 1, none⟩) (Kd.S_far (p := ⟨g6, 0, none⟩) HO.out (fun k_ hk_ => by have h_ := hk_.2; have := HE6.out; have := HNS.out; show k_ ≠ g6; omega) _) (fun k_ hk_ => by have h_ := hk_.2; have := HE6.out; have := HNS.out; show k_ ≠ g6; omega) _) (fun k_ hk_ => by have h_ := hk_.2; have := HE6.out; have := HNS.out; show k_ ≠ g6; omega) _); have HBw := Aside0.mk (show Below w.heap.size w (((w7.setCell ⟨g6, 0, none⟩ (.int .i64 t.f0)).setCell ⟨g6, 1, none⟩ (.int .i64 t.f1)).setCell ⟨g6, 2, none⟩ (.slice Av t.f2.length cv)) from below_set (below_set (below_set HB.out GW_g6.out) GW_g6.out) GW_g6.out); have B2w := Aside0.mk (show (World.heap (((w7.setCell ⟨g6, 0, none⟩ (.int .i64 t.f0)).setCell ⟨g6, 1, none⟩ (.int .i64 t.f1)).setCell ⟨g6, 2, none⟩ (.slice Av t.f2.length cv)))[g2]? = some (.cells #[.int .i64 0, .int .i64 0, .slice none 0 0] 29 (0, 0)) from (by refine blk_far ?_ (show g2 ≠ g6 by have := HL6.out; omega) _; refine blk_far ?_ (show g2 ≠ g6 by have := HL6.out; omega) _; refine blk_far ?_ (show g2 ≠ g6 by have := HL6.out; omega) _; exact BK_g2.out)); have B6w := Aside0.mk (show (World.heap (((w7.setCell ⟨g6, 0, none⟩ (.int .i64 t.f0)).setCell ⟨g6, 1, none⟩ (.int .i64 t.f1)).setCell ⟨g6, 2, none⟩ (.slice Av t.f2.length cv)))[g6]? = some (.cells #[.int .i64 t.f0, .int .i64 t.f1, .slice Av t.f2.length cv] 29 (0, 0)) from (by (with_reducible repeat (first | refine blk_drewN ?_ _ | refine blk_drew ?_ | refine blk_alloc ?_ _)); refine blk_put (cs := #[.int .i64 t.f0, .int .i64 t.f1, .slice none 0 0]) ?_ 2 _ rfl; (with_reducible repeat (first | refine blk_drewN ?_ _ | refine blk_drew ?_ | refine blk_alloc ?_ _)); refine blk_put (cs := #[.int .i64 t.f0, .int .i64 0, .slice none 0 0]) ?_ 1 _ rfl; (with_reducible repeat (first | refine blk_drewN ?_ _ | refine blk_drew ?_ | refine blk_alloc ?_ _)); refine blk_put (cs := #[.int .i64 0, .int .i64 0, .slice none 0 0]) ?_ 0 _ rfl; (with_reducible repeat (first | refine blk_drewN ?_ _ | refine blk_drew ?_ | refine blk_alloc ?_ _)); exact BK_g6.out)); clear HSv HO HB BK_g2 BK_g6 hx0 hx1 hx2 hz_g20 hz_g2f0 hz_g21 hz_g2f1 hz_g22 hz_g2f2 hz_g60 hz_g6f0 hz_g61 hz_g6f1 hz_g62 hz_g6f2; generalize (((w7.setCell ⟨g6, 0, none⟩ (.int .i64 t.f0)).setCell ⟨g6, 1, none⟩ (.int .i64 t.f1)).setCell ⟨g6, 2, none⟩ (.slice Av t.f2.length cv)) = w9 at HSw HOw HBw B2w B6w ⊢; have HSv := HSw; have HO := HOw; have HB := HBw; have BK_g2 := B2w; have BK_g6 := B6w; clear HSw HOw HBw B2w B6w; have hx0 : w9.cell? ad = some (.int .i64 x.f0) := (HB.out.cell (World.block_lt_of_cell? w _ hq0.out)).trans hq0.out; have hx1 : w9.cell? ⟨ad.block, ad.off + 1, none⟩ = some (.int .i64 x.f1) := (HB.out.cell (World.block_lt_of_cell? w _ hq1.out)).trans hq1.out; have hx2 : w9.cell? ⟨ad.block, ad.off + 2, none⟩ = some (.slice (some ad2) x.f2.length c) := (HB.out.cell (World.block_lt_of_cell? w _ hq2.out)).trans hq2.out; have hz_g20 : w9.cell? ⟨g2, 0, none⟩ = some (.int .i64 0) := (blk_cell BK_g2.out 0).trans rfl; have hz_g2f0 := blk_frozen BK_g2.out 0; have hz_g21 : w9.cell? ⟨g2, 1, none⟩ = some (.int .i64 0) := (blk_cell BK_g2.out 1).trans rfl; have hz_g2f1 := blk_frozen BK_g2.out 1; have hz_g22 : w9.cell? ⟨g2, 2, none⟩ = some (.slice none 0 0) := (blk_cell BK_g2.out 2).trans rfl; have hz_g2f2 := blk_frozen BK_g2.out 2; have hz_g60 : w9.cell? ⟨g6, 0, none⟩ = some (.int .i64 t.f0) := (blk_cell BK_g6.out 0).trans rfl; have hz_g6f0 := blk_frozen BK_g6.out 0; have hz_g61 : w9.cell? ⟨g6, 1, none⟩ = some (.int .i64 t.f1) := (blk_cell BK_g6.out 1).trans rfl; have hz_g6f1 := blk_frozen BK_g6.out 1; have hz_g62 : w9.cell? ⟨g6, 2, none⟩ = some (.slice Av t.f2.length cv) := (blk_cell BK_g6.out 2).trans rfl; have hz_g6f2 := blk_frozen BK_g6.out 2) | ((with_reducible refine gate_builtin (b := .append) (xs := #[.tmp 90, .tmp 92]) rfl ?_); at_builtin; refine Kd.S_append kG (w0 := w) w.heap.size rfl (.tmp 90) (.tmp 92) 27 29 (.agg #[.int .i64 0, .int .i64 0, .slice none 0 0]) 40 rfl Try.underlying27 info29 rfl (by decide) (by omega) u4 out t [.int .i64 t.f0, .int .i64 t.f1, .slice Av t.f2.length cv] (fun k_ => g2 < k_) (fun k_ => NO ≤ k_ ∧ k_ < g6) rfl rfl ?aP ?aK ?aF ?aO ?aB ?aS ?aL ?_; (case aP => exact kG_mkM (x := t) HSv.out); (case aK => exact fun k_ hk_ => ⟨Nat.lt_of_lt_of_le HLr.out hk_.1, fun e_ => by have h_ := ((Kd.S_R HO.out).1 k_ e_.symm).2; have h2_ := hk_.1; omega⟩); (case aF => exact fun k_ hk_ => Nat.lt_of_lt_of_le (blk_lt (o := .cells #[.int .i64 0, .int .i64 0, .slice none 0 0] 29 (0, 0)) BK_g2.out) (Nat.le_trans (by simp) hk_)); (case aO => exact Kd.S_mono HO.out (fun k_ hk_ => ⟨hk_.1, fun h2_ => by have h3_ := h2_.1; have h4_ := hk_.2; omega⟩)); (case aB => exact HB.out); (case aS => exact below_size HB.out); (case aL => have := LM.out; omega); intro v7b w8 ho hb hg hat; have hown : ∀ k_, (u4 : Value).ownBlock = some k_ → g2 < k_ ∧ k_ < NO := fun k_ e_ => ((Kd.S_R HO.out).1 k_ e_); have n1_ := Aside0.mk (blk_grown (g := g2) (o := .cells #[.int .i64 0, .int .i64 0, .slice none 0 0] 29 (0, 0)) BK_g2.out hg (fun e_ => by have := (hown _ e_.symm).1; omega)); have HO8 := Aside0.mk ho; have HB8 := Aside0.mk hb; have B28 := n1_; clear n1_ ho hb hg hat hown HO BK_g2 BK_g6 HB HSv hx0 hx1 hx2 hz_g20 hz_g2f0 hz_g21 hz_g2f1 hz_g22 hz_g2f2 hz_g60 hz_g6f0 hz_g61 hz_g6f1 hz_g62 hz_g6f2))
                  go_roundg k1
                  case measure => have := HK1.out; omega
                  case rel => exact ⟨_, out ++ [t], rfl, HF, ⟨by have := HK1.out; omega⟩, HO8, B28, HB8⟩
              · have dT : decide (0 < (t.f2.length : Int)) = false := decide_eq_false cT
                have dN := eq_false (show ¬ 0 < t.f2.length by omega)
                clear cT
                have cC : tidyC x t = false := by unfold tidyC; simp only [dT, Bool.false_and]
                rw [if_neg (show ¬ (tidyC x t = true) by rw [cC]; decide)] at H'
                clear cC
                by_cases c8 : out.length < 1048576
                case neg => rw [if_neg c8] at H'; exact absurd H' (by simp)
                rw [if_pos c8] at H'
                have LM := Aside0.mk c8
                have HF := Aside0.mk H'
                clear H' c8
                (try clear cT)
                go_wp2_with (first | (go_at_call 69; (with_reducible refine (IH.out k1 (by have := HK1.out; omega) _ (rd_T29 x.f2 i) t _ ?sP A7.out).mono ?_); (case sP => exact Kd.C_below HE.out (by repeat (first | (with_reducible first | exact HB.out | apply below_alloc | apply pw_below_drewN | apply below_drew1) | exact HB.out))); rintro e w6 ⟨v, rfl, hS, hb⟩; have n2_ := Aside0.mk (Kd.S_mono (Kd.S_old (by (with_reducible repeat (first | apply Kd.S_alloc | apply Kd.S_drewN | apply Kd.S_drew)); exact HO.out) hb) (ok' := fun k_ => g2 < k_ ∧ k_ < NO) (fun k_ hk_ => ⟨hk_.1, by have h2_ := hk_.2; (try simp only [World.drewN, World.drew] at h2_); have := HNO.out; omega⟩)); have HNS := Aside0.mk (Nat.le_trans (Nat.le_of_eq HNO.out) (below_size (show Below wr.heap.size wr w6 from below_step (by repeat (first | (with_reducible first | exact (Below.refl wr.heap.size wr) | apply below_alloc | apply pw_below_drewN | apply below_drew1) | exact (Below.refl wr.heap.size wr))) hb))); have HSv := Aside0.mk (Kd.S_lower (base' := w.heap.size) (Kd.S_mono (Kd.S_bound hS) (ok' := fun k_ => NO ≤ k_ ∧ k_ < w6.heap.size) (fun k_ hk_ => ⟨Nat.le_trans (Nat.le_of_eq HNO.out) hk_.2.1, hk_.2.2.1⟩)) (below_size (by repeat (first | (with_reducible first | exact HB.out | apply below_alloc | apply pw_below_drewN | apply below_drew1) | exact HB.out)))); obtain ⟨Av, cv, ev⟩ := Kd.S_slice HSv.out; subst ev; clear hS HO; have HO := n2_; clear n2_; have n0_ := Aside0.mk (below_step (by repeat (first | (with_reducible first | exact HB.out | apply below_alloc | apply pw_below_drewN | apply below_drew1) | exact HB.out)) hb); have n1_ := Aside0.mk (blk_below (g := g2) (o := .cells #[.int .i64 0, .int .i64 0, .slice none 0 0] 29 (0, 0)) (by (with_reducible repeat (first | refine blk_drewN ?_ _ | refine blk_drew ?_ | refine blk_alloc ?_ _)); exact BK_g2.out) hb); clear HB BK_g2 hz_g20 hz_g2f0 hz_g21 hz_g2f1 hz_g22 hz_g2f2 hx0 hx1 hx2 hb; have HB := n0_; have BK_g2 := n1_; clear n0_ n1_; have hx0 : w6.cell? ad = some (.int .i64 x.f0) := (HB.out.cell (World.block_lt_of_cell? w _ hq0.out)).trans hq0.out; have hx1 : w6.cell? ⟨ad.block, ad.off + 1, none⟩ = some (.int .i64 x.f1) := (HB.out.cell (World.block_lt_of_cell? w _ hq1.out)).trans hq1.out; have hx2 : w6.cell? ⟨ad.block, ad.off + 2, none⟩ = some (.slice (some ad2) x.f2.length c) := (HB.out.cell (World.block_lt_of_cell? w _ hq2.out)).trans hq2.out; have hz_g20 : w6.cell? ⟨g2, 0, none⟩ = some (.int .i64 0) := (blk_cell BK_g2.out 0).trans rfl; have hz_g2f0 := blk_frozen BK_g2.out 0; have hz_g21 : w6.cell? ⟨g2, 1, none⟩ = some (.int .i64 0) := (blk_cell BK_g2.out 1).trans rfl; have hz_g2f1 := blk_frozen BK_g2.out 1; have hz_g22 : w6.cell? ⟨g2, 2, none⟩ = some (.slice none 0 0) := (blk_cell BK_g2.out 2).trans rfl; have hz_g2f2 := blk_frozen BK_g2.out 2) | ((with_reducible refine gate_dst (N := 6) rfl ?_); refine box_event ?hg (N := 6) ?hd (cs := #[.int .i64 0, .int .i64 0, .slice none 0 0]) (t := 29) ?hr ?_; (case hd => rfl); (case hg => rfl); (case hr => first | (go_simp; done) | (go_simp; rfl)); intro g6 hg w7 hbox hb; have GW_g6 := Aside0.mk ((by rw [hg]; exact below_size (by repeat (first | (with_reducible first | exact HB.out | apply below_alloc | apply pw_below_drewN | apply below_drew1) | exact HB.out))) : w.heap.size ≤ g6); have HL6 := Aside0.mk ((by rw [hg]; exact blk_lt (o := .cells #[.int .i64 0, .int .i64 0, .slice none 0 0] 29 (0, 0)) (by (with_reducible repeat (first | refine blk_drewN ?_ _ | refine blk_drew ?_ | refine blk_alloc ?_ _)); exact BK_g2.out)) : g2 < g6); have HE6 := Aside0.mk ((by rw [hg]; exact below_size (by repeat (first | (with_reducible first | exact (Below.refl w6.heap.size w6) | apply below_alloc | apply pw_below_drewN | apply below_drew1) | exact (Below.refl w6.heap.size w6)))) : w6.heap.size ≤ g6); have n3_ := Aside0.mk (Kd.S_below (by (with_reducible repeat (first | apply Kd.S_alloc | apply Kd.S_drewN | apply Kd.S_drew)); exact HO.out) hb); have HSq := Aside0.mk (Kd.S_mono HSv.out (ok' := fun k_ => NO ≤ k_ ∧ k_ < g6) (fun k_ hk_ => ⟨hk_.1, Nat.lt_of_lt_of_le hk_.2 HE6.out⟩)); have n4_ := Aside0.mk (Kd.S_below (by (with_reducible repeat (first | apply Kd.S_alloc | apply Kd.S_drewN | apply Kd.S_drew)); exact HSq.out) hb); have hnA : ad.block ≠ g6 := (by have h_ := World.block_lt_of_cell? w _ hq0.out; have := GW_g6.out; intro e_; rw [e_] at h_; omega); have hnA' := Ne.symm hnA; clear HO HSv HSq; have HO := n3_; have HSv := n4_; clear n3_ n4_; have BK_g6 := Aside0.mk hbox; have M6 := Aside0.mk trivial; clear hbox hg; have n0_ := Aside0.mk (below_step (by repeat (first | (with_reducible first | exact HB.out | apply below_alloc | apply pw_below_drewN | apply below_drew1) | exact HB.out)) hb); have n1_ := Aside0.mk (blk_below (g := g2) (o := .cells #[.int .i64 0, .int .i64 0, .slice none 0 0] 29 (0, 0)) (by (with_reducible repeat (first | refine blk_drewN ?_ _ | refine blk_drew ?_ | refine blk_alloc ?_ _)); exact BK_g2.out) hb); clear HB BK_g2 hz_g20 hz_g2f0 hz_g21 hz_g2f1 hz_g22 hz_g2f2 hx0 hx1 hx2 hb; have HB := n0_; have BK_g2 := n1_; clear n0_ n1_; have hx0 : w7.cell? ad = some (.int .i64 x.f0) := (HB.out.cell (World.block_lt_of_cell? w _ hq0.out)).trans hq0.out; have hx1 : w7.cell? ⟨ad.block, ad.off + 1, none⟩ = some (.int .i64 x.f1) := (HB.out.cell (World.block_lt_of_cell? w _ hq1.out)).trans hq1.out; have hx2 : w7.cell? ⟨ad.block, ad.off + 2, none⟩ = some (.slice (some ad2) x.f2.length c) := (HB.out.cell (World.block_lt_of_cell? w _ hq2.out)).trans hq2.out; have hz_g20 : w7.cell? ⟨g2, 0, none⟩ = some (.int .i64 0) := (blk_cell BK_g2.out 0).trans rfl; have hz_g2f0 := blk_frozen BK_g2.out 0; have hz_g21 : w7.cell? ⟨g2, 1, none⟩ = some (.int .i64 0) := (blk_cell BK_g2.out 1).trans rfl; have hz_g2f1 := blk_frozen BK_g2.out 1; have hz_g22 : w7.cell? ⟨g2, 2, none⟩ = some (.slice none 0 0) := (blk_cell BK_g2.out 2).trans rfl; have hz_g2f2 := blk_frozen BK_g2.out 2; have hz_g60 : w7.cell? ⟨g6, 0, none⟩ = some (.int .i64 0) := (blk_cell BK_g6.out 0).trans rfl; have hz_g6f0 := blk_frozen BK_g6.out 0; have hz_g61 : w7.cell? ⟨g6, 1, none⟩ = some (.int .i64 0) := (blk_cell BK_g6.out 1).trans rfl; have hz_g6f1 := blk_frozen BK_g6.out 1; have hz_g62 : w7.cell? ⟨g6, 2, none⟩ = some (.slice none 0 0) := (blk_cell BK_g6.out 2).trans rfl; have hz_g6f2 := blk_frozen BK_g6.out 2) | ((with_reducible refine gate_dst (N := 58) rfl ?_); clear M6; have HSw := Aside0.mk (show Kd.S kG 29 (((w7.setCell ⟨g6, 0, none⟩ (.int .i64 t.f0)).setCell ⟨g6, 1, none⟩ (.int .i64 t.f1)).setCell ⟨g6, 2, none⟩ (.slice Av t.f2.length cv)) w.heap.size (fun k_ => NO ≤ k_ ∧ k_ < g6) (.slice Av t.f2.length cv) t.f2 from Kd.S_far (p := ⟨g6, 2, none⟩) (Kd.S_far (p := ⟨g6, 1, none⟩) (Kd.S_far (p := ⟨g6, 0, none⟩) HSv.out (fun k_ hk_ => by have h_ := hk_.2; show k_ ≠ g6; omega) _) (fun k_ hk_ => by have h_ := hk_.2; show k_ ≠ g6; omega) _) (fun k_ hk_ => by have h_ := hk_.2; show k_ ≠ g6; omega) _); have HOw := Aside0.mk (show Kd.S kG 29 (((w7.setCell ⟨g6, 0, none⟩ (.int .i64 t.f0)).setCell ⟨g6, 1, none⟩ (.int .i64 t.f1)).setCell ⟨g6, 2, none⟩ (.slice Av t.f2.length cv)) w.heap.size (fun k_ => g2 < k_ ∧ k_ < NO) u4 out from Kd.S_far (p := ⟨g6, 2, none⟩) (Kd.S_far (p := ⟨g6, 1, none⟩) (Kd.S_far (p := ⟨g6, 0, none⟩) HO.out (fun k_ hk_ => by have h_ := hk_.2; have := HE6.out; have := HNS.out; show k_ ≠ g6; omega) _) (fun k_ hk_ => by have h_ := hk_.2; have := HE6.out; have := HNS.out; show k_ ≠ g6; omega) _) (fun k_ hk_ => by have h_ := hk_.2; have := HE6.out; have := HNS.out; show k_ ≠ g6; omega) _); have HBw := Aside0.mk (show Below w.heap.size w (((w7.setCell ⟨g6, 0, none⟩ (.int .i64 t.f0)).setCell ⟨g6, 1, none⟩ (.int .i64 t.f1)).setCell ⟨g6, 2, none⟩ (.slice Av t.f2.length cv)) from below_set (below_set (below_set HB.out GW_g6.out) GW_g6.out) GW_g6.out); have B2w := Aside0.mk (show (World.heap (((w7.setCell ⟨g6, 0, none⟩ (.int .i64 t.f0)).setCell ⟨g6, 1, none⟩ (.int .i64 t.f1)).setCell ⟨g6, 2, none⟩ (.slice Av t.f2.length cv)))[g2]? = some (.cells #[.int .i64 0, .int .i64 0, .slice none 0 0] 29 (0, 0)) from (by refine blk_far ?_ (show g2 ≠ g6 by have := HL6.out; omega) _; refine blk_far ?_ (show g2 ≠ g6 by have := HL6.out; omega) _; refine blk_far ?_ (show g2 ≠ g6 by have := HL6.out; omega) _; exact BK_g2.out)); have B6w := Aside0.mk (show (World.heap (((w7.setCell ⟨g6, 0, none⟩ (.int .i64 t.f0)).setCell ⟨g6, 1, none⟩ (.int .i64 t.f1)).setCell ⟨g6, 2, none⟩ (.slice Av t.f2.length cv)))[g6]? = some (.cells #[.int .i64 t.f0, .int .i64 t.f1, .slice Av t.f2.length cv] 29 (0, 0)) from (by (with_reducible repeat (first | refine blk_drewN ?_ _ | refine blk_drew ?_ | refine blk_alloc ?_ _)); refine blk_put (cs := #[.int .i64 t.f0, .int .i64 t.f1, .slice none 0 0]) ?_ 2 _ rfl; (with_reducible repeat (first | refine blk_drewN ?_ _ | refine blk_drew ?_ | refine blk_alloc ?_ _)); refine blk_put (cs := #[.int .i64 t.f0, .int .i64 0, .slice none 0 0]) ?_ 1 _ rfl; (with_reducible repeat (first | refine blk_drewN ?_ _ | refine blk_drew ?_ | refine blk_alloc ?_ _)); refine blk_put (cs := #[.int .i64 0, .int .i64 0, .slice none 0 0]) ?_ 0 _ rfl; (with_reducible repeat (first | refine blk_drewN ?_ _ | refine blk_drew ?_ | refine blk_alloc ?_ _)); exact BK_g6.out)); clear HSv HO HB BK_g2 BK_g6 hx0 hx1 hx2 hz_g20 hz_g2f0 hz_g21 hz_g2f1 hz_g22 hz_g2f2 hz_g60 hz_g6f0 hz_g61 hz_g6f1 hz_g62 hz_g6f2; generalize (((w7.setCell ⟨g6, 0, none⟩ (.int .i64 t.f0)).setCell ⟨g6, 1, none⟩ (.int .i64 t.f1)).setCell ⟨g6, 2, none⟩ (.slice Av t.f2.length cv)) = w9 at HSw HOw HBw B2w B6w ⊢; have HSv := HSw; have HO := HOw; have HB := HBw; have BK_g2 := B2w; have BK_g6 := B6w; clear HSw HOw HBw B2w B6w; have hx0 : w9.cell? ad = some (.int .i64 x.f0) := (HB.out.cell (World.block_lt_of_cell? w _ hq0.out)).trans hq0.out; have hx1 : w9.cell? ⟨ad.block, ad.off + 1, none⟩ = some (.int .i64 x.f1) := (HB.out.cell (World.block_lt_of_cell? w _ hq1.out)).trans hq1.out; have hx2 : w9.cell? ⟨ad.block, ad.off + 2, none⟩ = some (.slice (some ad2) x.f2.length c) := (HB.out.cell (World.block_lt_of_cell? w _ hq2.out)).trans hq2.out; have hz_g20 : w9.cell? ⟨g2, 0, none⟩ = some (.int .i64 0) := (blk_cell BK_g2.out 0).trans rfl; have hz_g2f0 := blk_frozen BK_g2.out 0; have hz_g21 : w9.cell? ⟨g2, 1, none⟩ = some (.int .i64 0) := (blk_cell BK_g2.out 1).trans rfl; have hz_g2f1 := blk_frozen BK_g2.out 1; have hz_g22 : w9.cell? ⟨g2, 2, none⟩ = some (.slice none 0 0) := (blk_cell BK_g2.out 2).trans rfl; have hz_g2f2 := blk_frozen BK_g2.out 2; have hz_g60 : w9.cell? ⟨g6, 0, none⟩ = some (.int .i64 t.f0) := (blk_cell BK_g6.out 0).trans rfl; have hz_g6f0 := blk_frozen BK_g6.out 0; have hz_g61 : w9.cell? ⟨g6, 1, none⟩ = some (.int .i64 t.f1) := (blk_cell BK_g6.out 1).trans rfl; have hz_g6f1 := blk_frozen BK_g6.out 1; have hz_g62 : w9.cell? ⟨g6, 2, none⟩ = some (.slice Av t.f2.length cv) := (blk_cell BK_g6.out 2).trans rfl; have hz_g6f2 := blk_frozen BK_g6.out 2) | ((with_reducible refine gate_builtin (b := .append) (xs := #[.tmp 90, .tmp 92]) rfl ?_); at_builtin; refine Kd.S_append kG (w0 := w) w.heap.size rfl (.tmp 90) (.tmp 92) 27 29 (.agg #[.int .i64 0, .int .i64 0, .slice none 0 0]) 40 rfl Try.underlying27 info29 rfl (by decide) (by omega) u4 out t [.int .i64 t.f0, .int .i64 t.f1, .slice Av t.f2.length cv] (fun k_ => g2 < k_) (fun k_ => NO ≤ k_ ∧ k_ < g6) rfl rfl ?aP ?aK ?aF ?aO ?aB ?aS ?aL ?_; (case aP => exact kG_mkM (x := t) HSv.out); (case aK => exact fun k_ hk_ => ⟨Nat.lt_of_lt_of_le HLr.out hk_.1, fun e_ => by have h_ := ((Kd.S_R HO.out).1 k_ e_.symm).2; have h2_ := hk_.1; omega⟩); (case aF => exact fun k_ hk_ => Nat.lt_of_lt_of_le (blk_lt (o := .cells #[.int .i64 0, .int .i64 0, .slice none 0 0] 29 (0, 0)) BK_g2.out) (Nat.le_trans (by simp) hk_)); (case aO => exact Kd.S_mono HO.out (fun k_ hk_ => ⟨hk_.1, fun h2_ => by have h3_ := h2_.1; have h4_ := hk_.2; omega⟩)); (case aB => exact HB.out); (case aS => exact below_size HB.out); (case aL => have := LM.out; omega); intro v7b w8 ho hb hg hat; have hown : ∀ k_, (u4 : Value).ownBlock = some k_ → g2 < k_ ∧ k_ < NO := fun k_ e_ => ((Kd.S_R HO.out).1 k_ e_); have n1_ := Aside0.mk (blk_grown (g := g2) (o := .cells #[.int .i64 0, .int .i64 0, .slice none 0 0] 29 (0, 0)) BK_g2.out hg (fun e_ => by have := (hown _ e_.symm).1; omega)); have HO8 := Aside0.mk ho; have HB8 := Aside0.mk hb; have B28 := n1_; clear n1_ ho hb hg hat hown HO BK_g2 BK_g6 HB HSv hx0 hx1 hx2 hz_g20 hz_g2f0 hz_g21 hz_g2f1 hz_g22 hz_g2f2 hz_g60 hz_g6f0 hz_g61 hz_g6f1 hz_g62 hz_g6f2))
                go_roundg k1
                case measure => have := HK1.out; omega
                case rel => exact ⟨_, out ++ [t], rfl, HF, ⟨by have := HK1.out; omega⟩, HO8, B28, HB8⟩
            · rw [if_neg c6] at H'
              have eT : tidyE x out = ⟨-1, (out.length : Int), out⟩ := by unfold tidyE; rw [CE.out]; rfl
              rw [eT] at H'
              clear eT
              obtain rfl := Option.some.inj H'
              clear H'
              have c6b0 : decide (i < (x.f2.length : Int)) = false := decide_eq_false c6
              clear c6
              obtain ⟨Ao, co, eo⟩ := Kd.S_slice HO.out
              subst eo
              go_wp2_with (first | (go_at_call 63; (with_reducible refine (spec_l02Gate.callsT (out.length : Int) Ao out.length co _).mono ?_); rintro e w8 ⟨rfl, hb⟩; have n2_ := Aside0.mk (Kd.S_below (by (with_reducible repeat (first | apply Kd.S_alloc | apply Kd.S_drewN | apply Kd.S_drew)); exact HO.out) hb); clear HO; have HO := n2_; clear n2_; have n0_ := Aside0.mk (below_step (by repeat (first | (with_reducible first | exact HB.out | apply below_alloc | apply pw_below_drewN | apply below_drew1) | exact HB.out)) hb); have n1_ := Aside0.mk (blk_below (g := g2) (o := .cells #[.int .i64 0, .int .i64 0, .slice none 0 0] 29 (0, 0)) (by (with_reducible repeat (first | refine blk_drewN ?_ _ | refine blk_drew ?_ | refine blk_alloc ?_ _)); exact BK_g2.out) hb); clear HB BK_g2 hz_g20 hz_g2f0 hz_g21 hz_g2f1 hz_g22 hz_g2f2 hx0 hx1 hx2 hb; have HB := n0_; have BK_g2 := n1_; clear n0_ n1_; have hx0 : w8.cell? ad = some (.int .i64 x.f0) := (HB.out.cell (World.block_lt_of_cell? w _ hq0.out)).trans hq0.out; have hx1 : w8.cell? ⟨ad.block, ad.off + 1, none⟩ = some (.int .i64 x.f1) := (HB.out.cell (World.block_lt_of_cell? w _ hq1.out)).trans hq1.out; have hx2 : w8.cell? ⟨ad.block, ad.off + 2, none⟩ = some (.slice A x.f2.length c) := (HB.out.cell (World.block_lt_of_cell? w _ hq2.out)).trans hq2.out; have hz_g20 : w8.cell? ⟨g2, 0, none⟩ = some (.int .i64 0) := (blk_cell BK_g2.out 0).trans rfl; have hz_g2f0 := blk_frozen BK_g2.out 0; have hz_g21 : w8.cell? ⟨g2, 1, none⟩ = some (.int .i64 0) := (blk_cell BK_g2.out 1).trans rfl; have hz_g2f1 := blk_frozen BK_g2.out 1; have hz_g22 : w8.cell? ⟨g2, 2, none⟩ = some (.slice none 0 0) := (blk_cell BK_g2.out 2).trans rfl; have hz_g2f2 := blk_frozen BK_g2.out 2))
              refine bodyPost_ret (results_cell_row rfl _ _ g2 29 #[.int .i64 (-1), .int .i64 (out.length : Int), .slice Ao out.length co] (0, 0) _ rfl (by (with_reducible repeat (first | refine blk_drewN ?_ _ | refine blk_drew ?_ | refine blk_alloc ?_ _)); refine blk_put (cs := #[.int .i64 (-1), .int .i64 (out.length : Int), .slice none 0 0]) ?_ 2 _ rfl; (with_reducible repeat (first | refine blk_drewN ?_ _ | refine blk_drew ?_ | refine blk_alloc ?_ _)); refine blk_put (cs := #[.int .i64 (-1), .int .i64 0, .slice none 0 0]) ?_ 1 _ rfl; (with_reducible repeat (first | refine blk_drewN ?_ _ | refine blk_drew ?_ | refine blk_alloc ?_ _)); refine blk_put (cs := #[.int .i64 0, .int .i64 0, .slice none 0 0]) ?_ 0 _ rfl; (with_reducible repeat (first | refine blk_drewN ?_ _ | refine blk_drew ?_ | refine blk_alloc ?_ _)); exact BK_g2.out) Try.underlying29 rfl (by kernel_rfl)) rfl ?_
              exact ⟨_, rfl, Kd.S_mono (Kd.S_far (p := ⟨g2, 2, none⟩) (Kd.S_far (p := ⟨g2, 1, none⟩) (Kd.S_far (p := ⟨g2, 0, none⟩) HO.out (fun k_ hk_ => by have h_ : g2 < k_ := hk_; show k_ ≠ g2; omega) _) (fun k_ hk_ => by have h_ : g2 < k_ := hk_; show k_ ≠ g2; omega) _) (fun k_ hk_ => by have h_ : g2 < k_ := hk_; show k_ ≠ g2; omega) _) (fun _ _ => trivial), (by repeat (first | (with_reducible first | exact HB.out | apply below_alloc | apply pw_below_drewN | apply below_drew1 | refine below_set ?_ GW_g2.out) | exact HB.out))⟩
      · replace cE := Bool.eq_false_iff.mpr cE
        rw [cE]
        have CE := Aside0.mk cE
        clear cE
        go_wp2_with (first | ((with_reducible refine gate_dst (N := 41) rfl ?_); refine Kd.S_lit kG _ 29 ?hg (N := 41) ?hd (xs := ([] : List S29)) (inner := []) (ok := fun k_ => g2 < k_) (okp := fun k_ => g2 < k_) ?hr ?hp (fun _ hk => hk) (blk_lt (o := .cells #[.int .i64 0, .int .i64 0, .slice none 0 0] 29 (0, 0)) (by (with_reducible repeat (first | refine blk_drewN ?_ _ | refine blk_drew ?_ | refine blk_alloc ?_ _)); exact BK_g2.out)) (Below.refl _ _) (Nat.le_refl _) (by simp) ?_; (case hd => rfl); (case hg => rfl); (case hr => first | (go_simp; done) | (go_simp; rfl)); (case hp => exact (Reps.none _ _)); intro v41 w4 ho3 hb hg_ hnew_; clear hg_ hnew_; have HO := Aside0.mk (Kd.S_lower (base' := w.heap.size) ho3 (below_size (by repeat (first | (with_reducible first | exact HB.out | apply below_alloc | apply pw_below_drewN | apply below_drew1) | exact HB.out)))); clear ho3; have n0_ := Aside0.mk (below_step (by repeat (first | (with_reducible first | exact HB.out | apply below_alloc | apply pw_below_drewN | apply below_drew1) | exact HB.out)) hb); have n1_ := Aside0.mk (blk_below (g := g2) (o := .cells #[.int .i64 0, .int .i64 0, .slice none 0 0] 29 (0, 0)) (by (with_reducible repeat (first | refine blk_drewN ?_ _ | refine blk_drew ?_ | refine blk_alloc ?_ _)); exact BK_g2.out) hb); clear HB BK_g2 hz_g20 hz_g2f0 hz_g21 hz_g2f1 hz_g22 hz_g2f2 hx0 hx1 hx2 hb; have HB := n0_; have BK_g2 := n1_; clear n0_ n1_; have hx0 : w4.cell? ad = some (.int .i64 x.f0) := (HB.out.cell (World.block_lt_of_cell? w _ hq0.out)).trans hq0.out; have hx1 : w4.cell? ⟨ad.block, ad.off + 1, none⟩ = some (.int .i64 x.f1) := (HB.out.cell (World.block_lt_of_cell? w _ hq1.out)).trans hq1.out; have hx2 : w4.cell? ⟨ad.block, ad.off + 2, none⟩ = some (.slice A x.f2.length c) := (HB.out.cell (World.block_lt_of_cell? w _ hq2.out)).trans hq2.out; have hz_g20 : w4.cell? ⟨g2, 0, none⟩ = some (.int .i64 0) := (blk_cell BK_g2.out 0).trans rfl; have hz_g2f0 := blk_frozen BK_g2.out 0; have hz_g21 : w4.cell? ⟨g2, 1, none⟩ = some (.int .i64 0) := (blk_cell BK_g2.out 1).trans rfl; have hz_g2f1 := blk_frozen BK_g2.out 1; have hz_g22 : w4.cell? ⟨g2, 2, none⟩ = some (.slice none 0 0) := (blk_cell BK_g2.out 2).trans rfl; have hz_g2f2 := blk_frozen BK_g2.out 2))
        go_loopg [4, 5] k (fun kq v4 v5 w' => ∃ (i : Int) (out : List S29), v5 = .int .i64 i ∧ Aside0 (spec_l02Tidy.l0 kq x out i = some y) ∧ Aside0 (kq ≤ k) ∧ Aside0 (Kd.S kG 29 w' w.heap.size (fun k_ => g2 < k_) v4 out) ∧ Aside0 (w'.heap[g2]? = some (.cells #[.int .i64 0, .int .i64 0, .slice none 0 0] 29 (0, 0))) ∧ Aside0 (Below w.heap.size w w'))
        case atStart => exact ⟨0, [], rfl, A1, ⟨Nat.le_refl _⟩, ⟨(by (with_reducible repeat (first | apply Kd.S_alloc | apply Kd.S_drewN | apply Kd.S_drew)); exact HO.out)⟩, ⟨(by (with_reducible repeat (first | refine blk_drewN ?_ _ | refine blk_drew ?_ | refine blk_alloc ?_ _)); exact BK_g2.out)⟩, ⟨(by repeat (first | (with_reducible first | exact HB.out | apply below_alloc | apply pw_below_drewN | apply below_drew1) | exact HB.out))⟩⟩
        case round =>
          clear A1 HO BK_g2 HB hx0 hx1 hx2 hz_g20 hz_g2f0 hz_g21 hz_g2f1 hz_g22 hz_g2f2
          obtain ⟨i, out, rfl, HA, HK1, HO, BK_g2, HB⟩ := hrel
          have hx0 : wr.cell? ad = some (.int .i64 x.f0) := (HB.out.cell (World.block_lt_of_cell? w _ hq0.out)).trans hq0.out
          have hx1 : wr.cell? ⟨ad.block, ad.off + 1, none⟩ = some (.int .i64 x.f1) := (HB.out.cell (World.block_lt_of_cell? w _ hq1.out)).trans hq1.out
          have hx2 : wr.cell? ⟨ad.block, ad.off + 2, none⟩ = some (.slice A x.f2.length c) := (HB.out.cell (World.block_lt_of_cell? w _ hq2.out)).trans hq2.out
          have hz_g20 : wr.cell? ⟨g2, 0, none⟩ = some (.int .i64 0) := (blk_cell BK_g2.out 0).trans rfl
          have hz_g2f0 := blk_frozen BK_g2.out 0
          have hz_g21 : wr.cell? ⟨g2, 1, none⟩ = some (.int .i64 0) := (blk_cell BK_g2.out 1).trans rfl
          have hz_g2f1 := blk_frozen BK_g2.out 1
          have hz_g22 : wr.cell? ⟨g2, 2, none⟩ = some (.slice none 0 0) := (blk_cell BK_g2.out 2).trans rfl
          have hz_g2f2 := blk_frozen BK_g2.out 2
          obtain ⟨NO, hNO⟩ : ∃ n : Nat, n = wr.heap.size := ⟨_, rfl⟩
          have HNO := Aside0.mk hNO
          have HLr : Aside0 (g2 < NO) := ⟨by rw [hNO]; exact blk_lt BK_g2.out⟩
          clear hNO
          cases gk with
          | zero => exact absurd HA.out (by simp [spec_l02Tidy.l0])
          | succ k1 =>
            have H' := HA.out
            clear HA
            simp only [spec_l02Tidy.l0] at H'
            by_cases c6 : i < (x.f2.length : Int)
            · rw [if_pos c6] at H'
              by_cases c7 : 0 ≤ i
              case neg => rw [if_neg c7] at H'; exact absurd H' (by simp)
              rw [if_pos c7] at H'
              replace H' := Option.bind_eq_some_iff.mp H'
              obtain ⟨t, At, H'⟩ := H'
              have A7 := Aside0.mk At
              clear At
              have c6b0 : decide (i < (x.f2.length : Int)) = true := decide_eq_true c6
              have c7b0 : decide (0 ≤ i) = true := decide_eq_true c7
              obtain ⟨ad2, A2, c2, e2, _⟩ := at_T29 HC.out i c7 c6
              cases e2
              have HE := Aside0.mk (gate_el HC.out i c7 c6)
              replace c7 := eq_true c7
              replace c6 := eq_true c6
              by_cases cT : 0 < (t.f2.length : Int)
              · have dT : decide (0 < (t.f2.length : Int)) = true := decide_eq_true cT
                have dN := eq_true (show 0 < t.f2.length by omega)
                by_cases cL : x.f1 = 1
                · have bcL : (x.f1 == 1) = true := beq_iff_eq.mpr cL
                  clear cL
                  by_cases cK : t.f1 = 1
                  · have bcK : (t.f1 == 1) = true := beq_iff_eq.mpr cK
                    clear cK
                    have cC : tidyC x t = true := by unfold tidyC; simp only [dT, bcL, bcK, CE.out, Bool.true_and, Bool.and_true, Bool.true_or, Bool.or_true, Bool.false_or, Bool.or_false, Bool.and_self, Bool.false_and, Bool.and_false]
                    rw [if_pos cC] at H'
                    clear cC
                    by_cases c8 : out.length + t.f2.length < 1048576
                    case neg => rw [if_neg c8] at H'; exact absurd H' (by simp)
                    rw [if_pos c8] at H'
                    have LM := Aside0.mk c8
                    have HF := Aside0.mk H'
                    clear H' c8
                    have HLT := Aside0.mk cT
                    clear cT
                    go_wp2_with (first | (go_at_call 69; (with_reducible refine (IH.out k1 (by have := HK1.out; omega) _ (rd_T29 x.f2 i) t _ ?sP A7.out).mono ?_); (case sP => exact Kd.C_below HE.out (by repeat (first | (with_reducible first | exact HB.out | apply below_alloc | apply pw_below_drewN | apply below_drew1) | exact HB.out))); rintro e w6 ⟨v, rfl, hS, hb⟩; have n2_ := Aside0.mk (Kd.S_mono (Kd.S_old (by (with_reducible repeat (first | apply Kd.S_alloc | apply Kd.S_drewN | apply Kd.S_drew)); exact HO.out) hb) (ok' := fun k_ => g2 < k_ ∧ k_ < NO) (fun k_ hk_ => ⟨hk_.1, by have h2_ := hk_.2; (try simp only [World.drewN, World.drew] at h2_); have := HNO.out; omega⟩)); have HNS := Aside0.mk (Nat.le_trans (Nat.le_of_eq HNO.out) (below_size (show Below wr.heap.size wr w6 from below_step (by repeat (first | (with_reducible first | exact (Below.refl wr.heap.size wr) | apply below_alloc | apply pw_below_drewN | apply below_drew1) | exact (Below.refl wr.heap.size wr))) hb))); have HSv := Aside0.mk (Kd.S_lower (base' := w.heap.size) (Kd.S_mono (Kd.S_bound hS) (ok' := fun k_ => NO ≤ k_ ∧ k_ < w6.heap.size) (fun k_ hk_ => ⟨Nat.le_trans (Nat.le_of_eq HNO.out) hk_.2.1, hk_.2.2.1⟩)) (below_size (by repeat (first | (with_reducible first | exact HB.out | apply below_alloc | apply pw_below_drewN | apply below_drew1) | exact HB.out)))); obtain ⟨Av, cv, ev⟩ := Kd.S_slice HSv.out; subst ev; clear hS HO; have HO := n2_; clear n2_; have n0_ := Aside0.mk (below_step (by repeat (first | (with_reducible first | exact HB.out | apply below_alloc | apply pw_below_drewN | apply below_drew1) | exact HB.out)) hb); have n1_ := Aside0.mk (blk_below (g := g2) (o := .cells #[.int .i64 0, .int .i64 0, .slice none 0 0] 29 (0, 0)) (by (with_reducible repeat (first | refine blk_drewN ?_ _ | refine blk_drew ?_ | refine blk_alloc ?_ _)); exact BK_g2.out) hb); clear HB BK_g2 hz_g20 hz_g2f0 hz_g21 hz_g2f1 hz_g22 hz_g2f2 hx0 hx1 hx2 hb; have HB := n0_; have BK_g2 := n1_; clear n0_ n1_; have hx0 : w6.cell? ad = some (.int .i64 x.f0) := (HB.out.cell (World.block_lt_of_cell? w _ hq0.out)).trans hq0.out; have hx1 : w6.cell? ⟨ad.block, ad.off + 1, none⟩ = some (.int .i64 x.f1) := (HB.out.cell (World.block_lt_of_cell? w _ hq1.out)).trans hq1.out; have hx2 : w6.cell? ⟨ad.block, ad.off + 2, none⟩ = some (.slice (some ad2) x.f2.length c) := (HB.out.cell (World.block_lt_of_cell? w _ hq2.out)).trans hq2.out; have hz_g20 : w6.cell? ⟨g2, 0, none⟩ = some (.int .i64 0) := (blk_cell BK_g2.out 0).trans rfl; have hz_g2f0 := blk_frozen BK_g2.out 0; have hz_g21 : w6.cell? ⟨g2, 1, none⟩ = some (.int .i64 0) := (blk_cell BK_g2.out 1).trans rfl; have hz_g2f1 := blk_frozen BK_g2.out 1; have hz_g22 : w6.cell? ⟨g2, 2, none⟩ = some (.slice none 0 0) := (blk_cell BK_g2.out 2).trans rfl; have hz_g2f2 := blk_frozen BK_g2.out 2; obtain ⟨gE, cE, eE, _⟩ := Kd.S_form HSv.out (by have := HLT.out; omega); have eA : Av = some ⟨gE, 0, none⟩ := (by injection eE); subst eA; clear eE) | ((with_reducible refine gate_dst (N := 6) rfl ?_); refine box_event ?hg (N := 6) ?hd (cs := #[.int .i64 0, .int .i64 0, .slice none 0 0]) (t := 29) ?hr ?_; (case hd => rfl); (case hg => rfl); (case hr => first | (go_simp; done) | (go_simp; rfl)); intro g6 hg w7 hbox hb; have GW_g6 := Aside0.mk ((by rw [hg]; exact below_size (by repeat (first | (with_reducible first | exact HB.out | apply below_alloc | apply pw_below_drewN | apply below_drew1) | exact HB.out))) : w.heap.size ≤ g6); have HL6 := Aside0.mk ((by rw [hg]; exact blk_lt (o := .cells #[.int .i64 0, .int .i64 0, .slice none 0 0] 29 (0, 0)) (by (with_reducible repeat (first | refine blk_drewN ?_ _ | refine blk_drew ?_ | refine blk_alloc ?_ _)); exact BK_g2.out)) : g2 < g6); have HE6 := Aside0.mk ((by rw [hg]; exact below_size (by repeat (first | (with_reducible first | exact (Below.refl w6.heap.size w6) | apply below_alloc | apply pw_below_drewN | apply below_drew1) | exact (Below.refl w6.heap.size w6)))) : w6.heap.size ≤ g6); have n3_ := Aside0.mk (Kd.S_below (by (with_reducible repeat (first | apply Kd.S_alloc | apply Kd.S_drewN | apply Kd.S_drew)); exact HO.out) hb); have HSq := Aside0.mk (Kd.S_mono HSv.out (ok' := fun k_ => NO ≤ k_ ∧ k_ < g6) (fun k_ hk_ => ⟨hk_.1, Nat.lt_of_lt_of_le hk_.2 HE6.out⟩)); have n4_ := Aside0.mk (Kd.S_below (by (with_reducible repeat (first | apply Kd.S_alloc | apply Kd.S_drewN | apply Kd.S_drew)); exact HSq.out) hb); have hnA : ad.block ≠ g6 := (by have h_ := World.block_lt_of_cell? w _ hq0.out; have := GW_g6.out; intro e_; rw [e_] at h_; omega); have hnA' := Ne.symm hnA; clear HO HSv HSq; have HO := n3_; have HSv := n4_; clear n3_ n4_; have BK_g6 := Aside0.mk hbox; have M6 := Aside0.mk trivial; clear hbox hg; have n0_ := Aside0.mk (below_step (by repeat (first | (with_reducible first | exact HB.out | apply below_alloc | apply pw_below_drewN | apply below_drew1) | exact HB.out)) hb); have n1_ := Aside0.mk (blk_below (g := g2) (o := .cells #[.int .i64 0, .int .i64 0, .slice none 0 0] 29 (0, 0)) (by (with_reducible repeat (first | refine blk_drewN ?_ _ | refine blk_drew ?_ | refine blk_alloc ?_ _)); exact BK_g2.out) hb); clear HB BK_g2 hz_g20 hz_g2f0 hz_g21 hz_g2f1 hz_g22 hz_g2f2 hx0 hx1 hx2 hb; have HB := n0_; have BK_g2 := n1_; clear n0_ n1_; have hx0 : w7.cell? ad = some (.int .i64 x.f0) := (HB.out.cell (World.block_lt_of_cell? w _ hq0.out)).trans hq0.out; have hx1 : w7.cell? ⟨ad.block, ad.off + 1, none⟩ = some (.int .i64 x.f1) := (HB.out.cell (World.block_lt_of_cell? w _ hq1.out)).trans hq1.out; have hx2 : w7.cell? ⟨ad.block, ad.off + 2, none⟩ = some (.slice (some ad2) x.f2.length c) := (HB.out.cell (World.block_lt_of_cell? w _ hq2.out)).trans hq2.out; have hz_g20 : w7.cell? ⟨g2, 0, none⟩ = some (.int .i64 0) := (blk_cell BK_g2.out 0).trans rfl; have hz_g2f0 := blk_frozen BK_g2.out 0; have hz_g21 : w7.cell? ⟨g2, 1, none⟩ = some (.int .i64 0) := (blk_cell BK_g2.out 1).trans rfl; have hz_g2f1 := blk_frozen BK_g2.out 1; have hz_g22 : w7.cell? ⟨g2, 2, none⟩ = some (.slice none 0 0) := (blk_cell BK_g2.out 2).trans rfl; have hz_g2f2 := blk_frozen BK_g2.out 2; have hz_g60 : w7.cell? ⟨g6, 0, none⟩ = some (.int .i64 0) := (blk_cell BK_g6.out 0).trans rfl; have hz_g6f0 := blk_frozen BK_g6.out 0; have hz_g61 : w7.cell? ⟨g6, 1, none⟩ = some (.int .i64 0) := (blk_cell BK_g6.out 1).trans rfl; have hz_g6f1 := blk_frozen BK_g6.out 1; have hz_g62 : w7.cell? ⟨g6, 2, none⟩ = some (.slice none 0 0) := (blk_cell BK_g6.out 2).trans rfl; have hz_g6f2 := blk_frozen BK_g6.out 2) | ((with_reducible refine gate_dst (N := 58) rfl ?_); clear M6; have HSw := Aside0.mk (show Kd.S kG 29 (((w7.setCell ⟨g6, 0, none⟩ (.int .i64 t.f0)).setCell ⟨g6, 1, none⟩ (.int .i64 t.f1)).setCell ⟨g6, 2, none⟩ (.slice (some ⟨gE, 0, none⟩) t.f2.length cv)) w.heap.size (fun k_ => NO ≤ k_ ∧ k_ < g6) (.slice (some ⟨gE, 0, none⟩) t.f2.length cv) t.f2 from Kd.S_far (p := ⟨g6, 2, none⟩) (Kd.S_far (p := ⟨g6, 1, none⟩) (Kd.S_far (p := ⟨g6, 0, none⟩) HSv.out (fun k_ hk_ => by have h_ := hk_.2; show k_ ≠ g6; omega) _) (fun k_ hk_ => by have h_ := hk_.2; show k_ ≠ g6; omega) _) (fun k_ hk_ => by have h_ := hk_.2; show k_ ≠ g6; omega) _); have HOw := Aside0.mk (show Kd.S kG 29 (((w7.setCell ⟨g6, 0, none⟩ (.int .i64 t.f0)).setCell ⟨g6, 1, none⟩ (.int .i64 t.f1)).setCell ⟨g6, 2, none⟩ (.slice (some ⟨gE, 0, none⟩) t.f2.length cv)) w.heap.size (fun k_ => g2 < k_ ∧ k_ < NO) u4 out from Kd.S_far (p := ⟨g6, 2, none⟩) (Kd.S_far (p := ⟨g6, 1, none⟩) (Kd.S_far (p := ⟨g6, 0, none⟩) HO.out (fun k_ hk_ => by have h_ := hk_.2; have := HE6.out; have := HNS.out; show k_ ≠ g6; omega) _) (fun k_ hk_ => by have h_ := hk_.2; have := HE6.out; have := HNS.out; show k_ ≠ g6; omega) _) (fun k_ hk_ => by have h_ := hk_.2; have := HE6.out; have := HNS.out; show k_ ≠ g6; omega) _); have HBw := Aside0.mk (show Below w.heap.size w (((w7.setCell ⟨g6, 0, none⟩ (.int .i64 t.f0)).setCell ⟨g6, 1, none⟩ (.int .i64 t.f1)).setCell ⟨g6, 2, none⟩ (.slice (some ⟨gE, 0, none⟩) t.f2.length cv)) from below_set (below_set (below_set HB.out GW_g6.out) GW_g6.out) GW_g6.out); have B2w := Aside0.mk (show (World.heap (((w7.setCell ⟨g6, 0, none⟩ (.int .i64 t.f0)).setCell ⟨g6, 1, none⟩ (.int .i64 t.f1)).setCell ⟨g6, 2, none⟩ (.slice (some ⟨gE, 0, none⟩) t.f2.length cv)))[g2]? = some (.cells #[.int .i64 0, .int .i64 0, .slice none 0 0] 29 (0, 0)) from (by refine blk_far ?_ (show g2 ≠ g6 by have := HL6.out; omega) _; refine blk_far ?_ (show g2 ≠ g6 by have := HL6.out; omega) _; refine blk_far ?_ (show g2 ≠ g6 by have := HL6.out; omega) _; exact BK_g2.out)); have B6w := Aside0.mk (show (World.heap (((w7.setCell ⟨g6, 0, none⟩ (.int .i64 t.f0)).setCell ⟨g6, 1, none⟩ (.int .i64 t.f1)).setCell ⟨g6, 2, none⟩ (.slice (some ⟨gE, 0, none⟩) t.f2.length cv)))[g6]? = some (.cells #[.int .i64 t.f0, .int .i64 t.f1, .slice (some ⟨gE, 0, none⟩) t.f2.length cv] 29 (0, 0)) from (by (with_reducible repeat (first | refine blk_drewN ?_ _ | refine blk_drew ?_ | refine blk_alloc ?_ _)); refine blk_put (cs := #[.int .i64 t.f0, .int .i64 t.f1, .slice none 0 0]) ?_ 2 _ rfl; (with_reducible repeat (first | refine blk_drewN ?_ _ | refine blk_drew ?_ | refine blk_alloc ?_ _)); refine blk_put (cs := #[.int .i64 t.f0, .int .i64 0, .slice none 0 0]) ?_ 1 _ rfl; (with_reducible repeat (first | refine blk_drewN ?_ _ | refine blk_drew ?_ | refine blk_alloc ?_ _)); refine blk_put (cs := #[.int .i64 0, .int .i64 0, .slice none 0 0]) ?_ 0 _ rfl; (with_reducible repeat (first | refine blk_drewN ?_ _ | refine blk_drew ?_ | refine blk_alloc ?_ _)); exact BK_g6.out)); clear HSv HO HB BK_g2 BK_g6 hx0 hx1 hx2 hz_g20 hz_g2f0 hz_g21 hz_g2f1 hz_g22 hz_g2f2 hz_g60 hz_g6f0 hz_g61 hz_g6f1 hz_g62 hz_g6f2; generalize (((w7.setCell ⟨g6, 0, none⟩ (.int .i64 t.f0)).setCell ⟨g6, 1, none⟩ (.int .i64 t.f1)).setCell ⟨g6, 2, none⟩ (.slice (some ⟨gE, 0, none⟩) t.f2.length cv)) = w9 at HSw HOw HBw B2w B6w ⊢; have HSv := HSw; have HO := HOw; have HB := HBw; have BK_g2 := B2w; have BK_g6 := B6w; clear HSw HOw HBw B2w B6w; have hx0 : w9.cell? ad = some (.int .i64 x.f0) := (HB.out.cell (World.block_lt_of_cell? w _ hq0.out)).trans hq0.out; have hx1 : w9.cell? ⟨ad.block, ad.off + 1, none⟩ = some (.int .i64 x.f1) := (HB.out.cell (World.block_lt_of_cell? w _ hq1.out)).trans hq1.out; have hx2 : w9.cell? ⟨ad.block, ad.off + 2, none⟩ = some (.slice (some ad2) x.f2.length c) := (HB.out.cell (World.block_lt_of_cell? w _ hq2.out)).trans hq2.out; have hz_g20 : w9.cell? ⟨g2, 0, none⟩ = some (.int .i64 0) := (blk_cell BK_g2.out 0).trans rfl; have hz_g2f0 := blk_frozen BK_g2.out 0; have hz_g21 : w9.cell? ⟨g2, 1, none⟩ = some (.int .i64 0) := (blk_cell BK_g2.out 1).trans rfl; have hz_g2f1 := blk_frozen BK_g2.out 1; have hz_g22 : w9.cell? ⟨g2, 2, none⟩ = some (.slice none 0 0) := (blk_cell BK_g2.out 2).trans rfl; have hz_g2f2 := blk_frozen BK_g2.out 2; have hz_g60 : w9.cell? ⟨g6, 0, none⟩ = some (.int .i64 t.f0) := (blk_cell BK_g6.out 0).trans rfl; have hz_g6f0 := blk_frozen BK_g6.out 0; have hz_g61 : w9.cell? ⟨g6, 1, none⟩ = some (.int .i64 t.f1) := (blk_cell BK_g6.out 1).trans rfl; have hz_g6f1 := blk_frozen BK_g6.out 1; have hz_g62 : w9.cell? ⟨g6, 2, none⟩ = some (.slice (some ⟨gE, 0, none⟩) t.f2.length cv) := (blk_cell BK_g6.out 2).trans rfl; have hz_g6f2 := blk_frozen BK_g6.out 2) | ((with_reducible refine gate_builtin (b := .append) (xs := #[.tmp 86, .tmp 88]) rfl ?_); at_builtin; refine appRowS kG (w0 := w) w.heap.size rfl (.tmp 86) (.tmp 88) 27 29 (.agg #[.int .i64 0, .int .i64 0, .slice none 0 0]) 40 rfl Try.underlying27 info29 rfl (by decide) (by omega) u4 out t.f2 ⟨gE, 0, none⟩ _ cv (fun k_ => g2 < k_) (fun k_ => NO ≤ k_ ∧ k_ < g6) rfl rfl ?aP ?aK ?aF ?aO ?aB ?aS ?aL ?_; (case aP => exact HSv.out); (case aK => exact fun k_ hk_ => ⟨Nat.lt_of_lt_of_le HLr.out hk_.1, fun e_ => by have h_ := ((Kd.S_R HO.out).1 k_ e_.symm).2; have h2_ := hk_.1; omega⟩); (case aF => exact fun k_ hk_ => Nat.lt_of_lt_of_le (blk_lt (o := .cells #[.int .i64 0, .int .i64 0, .slice none 0 0] 29 (0, 0)) BK_g2.out) (Nat.le_trans (by simp) hk_)); (case aO => exact Kd.S_mono HO.out (fun k_ hk_ => ⟨hk_.1, fun h2_ => by have h3_ := h2_.1; have h4_ := hk_.2; omega⟩)); (case aB => exact HB.out); (case aS => exact below_size HB.out); (case aL => have := LM.out; omega); intro v7b w8 ho hb hg hat; have hown : ∀ k_, (u4 : Value).ownBlock = some k_ → g2 < k_ ∧ k_ < NO := fun k_ e_ => ((Kd.S_R HO.out).1 k_ e_); have n1_ := Aside0.mk (blk_grown (g := g2) (o := .cells #[.int .i64 0, .int .i64 0, .slice none 0 0] 29 (0, 0)) BK_g2.out hg (fun e_ => by have := (hown _ e_.symm).1; omega)); have HO8 := Aside0.mk ho; have HB8 := Aside0.mk hb; have B28 := n1_; clear n1_ ho hb hg hat hown HO BK_g2 BK_g6 HB HSv hx0 hx1 hx2 hz_g20 hz_g2f0 hz_g21 hz_g2f1 hz_g22 hz_g2f2 hz_g60 hz_g6f0 hz_g61 hz_g6f1 hz_g62 hz_g6f2))
                    go_roundg k1
                    case measure => have := HK1.out; omega
                    case rel => exact ⟨_, out ++ t.f2, rfl, HF, ⟨by have := HK1.out; omega⟩, HO8, B28, HB8⟩
                  · have bcK : (t.f1 == 1) = false := beq_eq_false_iff_ne.mpr cK
                    clear cK
                    have cC : tidyC x t = false := by unfold tidyC; simp only [dT, bcL, bcK, CE.out, Bool.true_and, Bool.and_true, Bool.true_or, Bool.or_true, Bool.false_or, Bool.or_false, Bool.and_self, Bool.false_and, Bool.and_false]
                    rw [if_neg (show ¬ (tidyC x t = true) by rw [cC]; decide)] at H'
                    clear cC
                    by_cases c8 : out.length < 1048576
                    case neg => rw [if_neg c8] at H'; exact absurd H' (by simp)
                    rw [if_pos c8] at H'
                    have LM := Aside0.mk c8
                    have HF := Aside0.mk H'
                    clear H' c8
                    (try clear cT)
                    go_wp2_with (first | (go_at_call 69; (with_reducible refine (IH.out k1 (by have := HK1.out; omega) _ (rd_T29 x.f2 i) t _ ?sP A7.out).mono ?_); (case sP => exact Kd.C_below HE.out (by repeat (first | (with_reducible first | exact HB.out | apply below_alloc | apply pw_below_drewN | apply below_drew1) | exact HB.out))); rintro e w6 ⟨v, rfl, hS, hb⟩; have n2_ := Aside0.mk (Kd.S_mono (Kd.S_old (by (with_reducible repeat (first | apply Kd.S_alloc | apply Kd.S_drewN | apply Kd.S_drew)); exact HO.out) hb) (ok' := fun k_ => g2 < k_ ∧ k_ < NO) (fun k_ hk_ => ⟨hk_.1, by have h2_ := hk_.2; (try simp only [World.drewN, World.drew] at h2_); have := HNO.out; omega⟩)); have HNS := Aside0.mk (Nat.le_trans (Nat.le_of_eq HNO.out) (below_size (show Below wr.heap.size wr w6 from below_step (by repeat (first | (with_reducible first | exact (Below.refl wr.heap.size wr) | apply below_alloc | apply pw_below_drewN | apply below_drew1) | exact (Below.refl wr.heap.size wr))) hb))); have HSv := Aside0.mk (Kd.S_lower (base' := w.heap.size) (Kd.S_mono (Kd.S_bound hS) (ok' := fun k_ => NO ≤ k_ ∧ k_ < w6.heap.size) (fun k_ hk_ => ⟨Nat.le_trans (Nat.le_of_eq HNO.out) hk_.2.1, hk_.2.2.1⟩)) (below_size (by repeat (first | (with_reducible first | exact HB.out | apply below_alloc | apply pw_below_drewN | apply below_drew1) | exact HB.out)))); obtain ⟨Av, cv, ev⟩ := Kd.S_slice HSv.out; subst ev; clear hS HO; have HO := n2_; clear n2_; have n0_ := Aside0.mk (below_step (by repeat (first | (with_reducible first | exact HB.out | apply below_alloc | apply pw_below_drewN | apply below_drew1) | exact HB.out)) hb); have n1_ := Aside0.mk (blk_below (g := g2) (o := .cells #[.int .i64 0, .int .i64 0, .slice none 0 0] 29 (0, 0)) (by (with_reducible repeat (first | refine blk_drewN ?_ _ | refine blk_drew ?_ | refine blk_alloc ?_ _)); exact BK_g2.out) hb); clear HB BK_g2 hz_g20 hz_g2f0 hz_g21 hz_g2f1 hz_g22 hz_g2f2 hx0 hx1 hx2 hb; have HB := n0_; have BK_g2 := n1_; clear n0_ n1_; have hx0 : w6.cell? ad = some (.int .i64 x.f0) := (HB.out.cell (World.block_lt_of_cell? w _ hq0.out)).trans hq0.out; have hx1 : w6.cell? ⟨ad.block, ad.off + 1, none⟩ = some (.int .i64 x.f1) := (HB.out.cell (World.block_lt_of_cell? w _ hq1.out)).trans hq1.out; have hx2 : w6.cell? ⟨ad.block, ad.off + 2, none⟩ = some (.slice (some ad2) x.f2.length c) := (HB.out.cell (World.block_lt_of_cell? w _ hq2.out)).trans hq2.out; have hz_g20 : w6.cell? ⟨g2, 0, none⟩ = some (.int .i64 0) := (blk_cell BK_g2.out 0).trans rfl; have hz_g2f0 := blk_frozen BK_g2.out 0; have hz_g21 : w6.cell? ⟨g2, 1, none⟩ = some (.int .i64 0) := (blk_cell BK_g2.out 1).trans rfl; have hz_g2f1 := blk_frozen BK_g2.out 1; have hz_g22 : w6.cell? ⟨g2, 2, none⟩ = some (.slice none 0 0) := (blk_cell BK_g2.out 2).trans rfl; have hz_g2f2 := blk_frozen BK_g2.out 2) | ((with_reducible refine gate_dst (N := 6) rfl ?_); refine box_event ?hg (N := 6) ?hd (cs := #[.int .i64 0, .int .i64 0, .slice none 0 0]) (t := 29) ?hr ?_; (case hd => rfl); (case hg => rfl); (case hr => first | (go_simp; done) | (go_simp; rfl)); intro g6 hg w7 hbox hb; have GW_g6 := Aside0.mk ((by rw [hg]; exact below_size (by repeat (first | (with_reducible first | exact HB.out | apply below_alloc | apply pw_below_drewN | apply below_drew1) | exact HB.out))) : w.heap.size ≤ g6); have HL6 := Aside0.mk ((by rw [hg]; exact blk_lt (o := .cells #[.int .i64 0, .int .i64 0, .slice none 0 0] 29 (0, 0)) (by (with_reducible repeat (first | refine blk_drewN ?_ _ | refine blk_drew ?_ | refine blk_alloc ?_ _)); exact BK_g2.out)) : g2 < g6); have HE6 := Aside0.mk ((by rw [hg]; exact below_size (by repeat (first | (with_reducible first | exact (Below.refl w6.heap.size w6) | apply below_alloc | apply pw_below_drewN | apply below_drew1) | exact (Below.refl w6.heap.size w6)))) : w6.heap.size ≤ g6); have n3_ := Aside0.mk (Kd.S_below (by (with_reducible repeat (first | apply Kd.S_alloc | apply Kd.S_drewN | apply Kd.S_drew)); exact HO.out) hb); have HSq := Aside0.mk (Kd.S_mono HSv.out (ok' := fun k_ => NO ≤ k_ ∧ k_ < g6) (fun k_ hk_ => ⟨hk_.1, Nat.lt_of_lt_of_le hk_.2 HE6.out⟩)); have n4_ := Aside0.mk (Kd.S_below (by (with_reducible repeat (first | apply Kd.S_alloc | apply Kd.S_drewN | apply Kd.S_drew)); exact HSq.out) hb); have hnA : ad.block ≠ g6 := (by have h_ := World.block_lt_of_cell? w _ hq0.out; have := GW_g6.out; intro e_; rw [e_] at h_; omega); have hnA' := Ne.symm hnA; clear HO HSv HSq; have HO := n3_; have HSv := n4_; clear n3_ n4_; have BK_g6 := Aside0.mk hbox; have M6 := Aside0.mk trivial; clear hbox hg; have n0_ := Aside0.mk (below_step (by repeat (first | (with_reducible first | exact HB.out | apply below_alloc | apply pw_below_drewN | apply below_drew1) | exact HB.out)) hb); have n1_ := Aside0.mk (blk_below (g := g2) (o := .cells #[.int .i64 0, .int .i64 0, .slice none 0 0] 29 (0, 0)) (by (with_reducible repeat (first | refine blk_drewN ?_ _ | refine blk_drew ?_ | refine blk_alloc ?_ _)); exact BK_g2.out) hb); clear HB BK_g2 hz_g20 hz_g2f0 hz_g21 hz_g2f1 hz_g22 hz_g2f2 hx0 hx1 hx2 hb; have HB := n0_; have BK_g2 := n1_; clear n0_ n1_; have hx0 : w7.cell? ad = some (.int .i64 x.f0) := (HB.out.cell (World.block_lt_of_cell? w _ hq0.out)).trans hq0.out; have hx1 : w7.cell? ⟨ad.block, ad.off + 1, none⟩ = some (.int .i64 x.f1) := (HB.out.cell (World.block_lt_of_cell? w _ hq1.out)).trans hq1.out; have hx2 : w7.cell? ⟨ad.block, ad.off + 2, none⟩ = some (.slice (some ad2) x.f2.length c) := (HB.out.cell (World.block_lt_of_cell? w _ hq2.out)).trans hq2.out; have hz_g20 : w7.cell? ⟨g2, 0, none⟩ = some (.int .i64 0) := (blk_cell BK_g2.out 0).trans rfl; have hz_g2f0 := blk_frozen BK_g2.out 0; have hz_g21 : w7.cell? ⟨g2, 1, none⟩ = some (.int .i64 0) := (blk_cell BK_g2.out 1).trans rfl; have hz_g2f1 := blk_frozen BK_g2.out 1; have hz_g22 : w7.cell? ⟨g2, 2, none⟩ = some (.slice none 0 0) := (blk_cell BK_g2.out 2).trans rfl; have hz_g2f2 := blk_frozen BK_g2.out 2; have hz_g60 : w7.cell? ⟨g6, 0, none⟩ = some (.int .i64 0) := (blk_cell BK_g6.out 0).trans rfl; have hz_g6f0 := blk_frozen BK_g6.out 0; have hz_g61 : w7.cell? ⟨g6, 1, none⟩ = some (.int .i64 0) := (blk_cell BK_g6.out 1).trans rfl; have hz_g6f1 := blk_frozen BK_g6.out 1; have hz_g62 : w7.cell? ⟨g6, 2, none⟩ = some (.slice none 0 0) := (blk_cell BK_g6.out 2).trans rfl; have hz_g6f2 := blk_frozen BK_g6.out 2) | ((with_reducible refine gate_dst (N := 58) rfl ?_); clear M6; have HSw := Aside0.mk (show Kd.S kG 29 (((w7.setCell ⟨g6, 0, none⟩ (.int .i64 t.f0)).setCell ⟨g6, 1, none⟩ (.int .i64 t.f1)).setCell ⟨g6, 2, none⟩ (.slice Av t.f2.length cv)) w.heap.size (fun k_ => NO ≤ k_ ∧ k_ < g6) (.slice Av t.f2.length cv) t.f2 from Kd.S_far (p := ⟨g6, 2, none⟩) (Kd.S_far (p := ⟨g6, 1, none⟩) (Kd.S_far (p := ⟨g6, 0, none⟩) HSv.out (fun k_ hk_ => by have h_ := hk_.2; show k_ ≠ g6; omega) _) (fun k_ hk_ => by have h_ := hk_.2; show k_ ≠ g6; omega) _) (fun k_ hk_ => by have h_ := hk_.2; show k_ ≠ g6; omega) _); have HOw := Aside0.mk (show Kd.S kG 29 (((w7.setCell ⟨g6, 0, none⟩ (.int .i64 t.f0)).setCell ⟨g6, 1, none⟩ (.int .i64 t.f1)).setCell ⟨g6, 2, none⟩ (.slice Av t.f2.length cv)) w.heap.size (fun k_ => g2 < k_ ∧ k_ < NO) u4 out from Kd.S_far (p := ⟨g6, 2, none⟩) (Kd.S_far (p := ⟨g6, 1, none⟩) (Kd.S_far (p := ⟨g6, 0, none⟩) HO.out (fun k_ hk_ => by have h_ := hk_.2; have := HE6.out; have := HNS.out; show k_ ≠ g6; omega) _) (fun k_ hk_ => by have h_ := hk_.2; have := HE6.out; have := HNS.out; show k_ ≠ g6; omega) _) (fun k_ hk_ => by have h_ := hk_.2; have := HE6.out; have := HNS.out; show k_ ≠ g6; omega) _); have HBw := Aside0.mk (show Below w.heap.size w (((w7.setCell ⟨g6, 0, none⟩ (.int .i64 t.f0)).setCell ⟨g6, 1, none⟩ (.int .i64 t.f1)).setCell ⟨g6, 2, none⟩ (.slice Av t.f2.length cv)) from below_set (below_set (below_set HB.out GW_g6.out) GW_g6.out) GW_g6.out); have B2w := Aside0.mk (show (World.heap (((w7.setCell ⟨g6, 0, none⟩ (.int .i64 t.f0)).setCell ⟨g6, 1, none⟩ (.int .i64 t.f1)).setCell ⟨g6, 2, none⟩ (.slice Av t.f2.length cv)))[g2]? = some (.cells #[.int .i64 0, .int .i64 0, .slice none 0 0] 29 (0, 0)) from (by refine blk_far ?_ (show g2 ≠ g6 by have := HL6.out; omega) _; refine blk_far ?_ (show g2 ≠ g6 by have := HL6.out; omega) _; refine blk_far ?_ (show g2 ≠ g6 by have := HL6.out; omega) _; exact BK_g2.out)); have B6w := Aside0.mk (show (World.heap (((w7.setCell ⟨g6, 0, none⟩ (.int .i64 t.f0)).setCell ⟨g6, 1, none⟩ (.int .i64 t.f1)).setCell ⟨g6, 2, none⟩ (.slice Av t.f2.length cv)))[g6]? = some (.cells #[.int .i64 t.f0, .int .i64 t.f1, .slice Av t.f2.length cv] 29 (0, 0)) from (by (with_reducible repeat (first | refine blk_drewN ?_ _ | refine blk_drew ?_ | refine blk_alloc ?_ _)); refine blk_put (cs := #[.int .i64 t.f0, .int .i64 t.f1, .slice none 0 0]) ?_ 2 _ rfl; (with_reducible repeat (first | refine blk_drewN ?_ _ | refine blk_drew ?_ | refine blk_alloc ?_ _)); refine blk_put (cs := #[.int .i64 t.f0, .int .i64 0, .slice none 0 0]) ?_ 1 _ rfl; (with_reducible repeat (first | refine blk_drewN ?_ _ | refine blk_drew ?_ | refine blk_alloc ?_ _)); refine blk_put (cs := #[.int .i64 0, .int .i64 0, .slice none 0 0]) ?_ 0 _ rfl; (with_reducible repeat (first | refine blk_drewN ?_ _ | refine blk_drew ?_ | refine blk_alloc ?_ _)); exact BK_g6.out)); clear HSv HO HB BK_g2 BK_g6 hx0 hx1 hx2 hz_g20 hz_g2f0 hz_g21 hz_g2f1 hz_g22 hz_g2f2 hz_g60 hz_g6f0 hz_g61 hz_g6f1 hz_g62 hz_g6f2; generalize (((w7.setCell ⟨g6, 0, none⟩ (.int .i64 t.f0)).setCell ⟨g6, 1, none⟩ (.int .i64 t.f1)).setCell ⟨g6, 2, none⟩ (.slice Av t.f2.length cv)) = w9 at HSw HOw HBw B2w B6w ⊢; have HSv := HSw; have HO := HOw; have HB := HBw; have BK_g2 := B2w; have BK_g6 := B6w; clear HSw HOw HBw B2w B6w; have hx0 : w9.cell? ad = some (.int .i64 x.f0) := (HB.out.cell (World.block_lt_of_cell? w _ hq0.out)).trans hq0.out; have hx1 : w9.cell? ⟨ad.block, ad.off + 1, none⟩ = some (.int .i64 x.f1) := (HB.out.cell (World.block_lt_of_cell? w _ hq1.out)).trans hq1.out; have hx2 : w9.cell? ⟨ad.block, ad.off + 2, none⟩ = some (.slice (some ad2) x.f2.length c) := (HB.out.cell (World.block_lt_of_cell? w _ hq2.out)).trans hq2.out; have hz_g20 : w9.cell? ⟨g2, 0, none⟩ = some (.int .i64 0) := (blk_cell BK_g2.out 0).trans rfl; have hz_g2f0 := blk_frozen BK_g2.out 0; have hz_g21 : w9.cell? ⟨g2, 1, none⟩ = some (.int .i64 0) := (blk_cell BK_g2.out 1).trans rfl; have hz_g2f1 := blk_frozen BK_g2.out 1; have hz_g22 : w9.cell? ⟨g2, 2, none⟩ = some (.slice none 0 0) := (blk_cell BK_g2.out 2).trans rfl; have hz_g2f2 := blk_frozen BK_g2.out 2; have hz_g60 : w9.cell? ⟨g6, 0, none⟩ = some (.int .i64 t.f0) := (blk_cell BK_g6.out 0).trans rfl; have hz_g6f0 := blk_frozen BK_g6.out 0; have hz_g61 : w9.cell? ⟨g6, 1, none⟩ = some (.int .i64 t.f1) := (blk_cell BK_g6.out 1).trans rfl; have hz_g6f1 := blk_frozen BK_g6.out 1; have hz_g62 : w9.cell? ⟨g6, 2, none⟩ = some (.slice Av t.f2.length cv) := (blk_cell BK_g6.out 2).trans rfl; have hz_g6f2 := blk_frozen BK_g6.out 2) | ((with_reducible refine gate_builtin (b := .append) (xs := #[.tmp 90, .tmp 92]) rfl ?_); at_builtin; refine Kd.S_append kG (w0 := w) w.heap.size rfl (.tmp 90) (.tmp 92) 27 29 (.agg #[.int .i64 0, .int .i64 0, .slice none 0 0]) 40 rfl Try.underlying27 info29 rfl (by decide) (by omega) u4 out t [.int .i64 t.f0, .int .i64 t.f1, .slice Av t.f2.length cv] (fun k_ => g2 < k_) (fun k_ => NO ≤ k_ ∧ k_ < g6) rfl rfl ?aP ?aK ?aF ?aO ?aB ?aS ?aL ?_; (case aP => exact kG_mkM (x := t) HSv.out); (case aK => exact fun k_ hk_ => ⟨Nat.lt_of_lt_of_le HLr.out hk_.1, fun e_ => by have h_ := ((Kd.S_R HO.out).1 k_ e_.symm).2; have h2_ := hk_.1; omega⟩); (case aF => exact fun k_ hk_ => Nat.lt_of_lt_of_le (blk_lt (o := .cells #[.int .i64 0, .int .i64 0, .slice none 0 0] 29 (0, 0)) BK_g2.out) (Nat.le_trans (by simp) hk_)); (case aO => exact Kd.S_mono HO.out (fun k_ hk_ => ⟨hk_.1, fun h2_ => by have h3_ := h2_.1; have h4_ := hk_.2; omega⟩)); (case aB => exact HB.out); (case aS => exact below_size HB.out); (case aL => have := LM.out; omega); intro v7b w8 ho hb hg hat; have hown : ∀ k_, (u4 : Value).ownBlock = some k_ → g2 < k_ ∧ k_ < NO := fun k_ e_ => ((Kd.S_R HO.out).1 k_ e_); have n1_ := Aside0.mk (blk_grown (g := g2) (o := .cells #[.int .i64 0, .int .i64 0, .slice none 0 0] 29 (0, 0)) BK_g2.out hg (fun e_ => by have := (hown _ e_.symm).1; omega)); have HO8 := Aside0.mk ho; have HB8 := Aside0.mk hb; have B28 := n1_; clear n1_ ho hb hg hat hown HO BK_g2 BK_g6 HB HSv hx0 hx1 hx2 hz_g20 hz_g2f0 hz_g21 hz_g2f1 hz_g22 hz_g2f2 hz_g60 hz_g6f0 hz_g61 hz_g6f1 hz_g62 hz_g6f2))
                    go_roundg k1
                    case measure => have := HK1.out; omega
                    case rel => exact ⟨_, out ++ [t], rfl, HF, ⟨by have := HK1.out; omega⟩, HO8, B28, HB8⟩
                · have bcL : (x.f1 == 1) = false := beq_eq_false_iff_ne.mpr cL
                  clear cL
                  have cC : tidyC x t = false := by unfold tidyC; simp only [dT, bcL, CE.out, Bool.true_and, Bool.and_true, Bool.true_or, Bool.or_true, Bool.false_or, Bool.or_false, Bool.and_self, Bool.false_and, Bool.and_false]
                  rw [if_neg (show ¬ (tidyC x t = true) by rw [cC]; decide)] at H'
                  clear cC
                  by_cases c8 : out.length < 1048576
                  case neg => rw [if_neg c8] at H'; exact absurd H' (by simp)
                  rw [if_pos c8] at H'
                  have LM := Aside0.mk c8
                  have HF := Aside0.mk H'
                  clear H' c8
                  (try clear cT)
                  go_wp2_with (first | (go_at_call 69; (with_reducible refine (IH.out k1 (by have := HK1.out; omega) _ (rd_T29 x.f2 i) t _ ?sP A7.out).mono ?_); (case sP => exact Kd.C_below HE.out (by repeat (first | (with_reducible first | exact HB.out | apply below_alloc | apply pw_below_drewN | apply below_drew1) | exact HB.out))); rintro e w6 ⟨v, rfl, hS, hb⟩; have n2_ := Aside0.mk (Kd.S_mono (Kd.S_old (by (with_reducible repeat (first | apply Kd.S_alloc | apply Kd.S_drewN | apply Kd.S_drew)); exact HO.out) hb) (ok' := fun k_ => g2 < k_ ∧ k_ < NO) (fun k_ hk_ => ⟨hk_.1, by have h2_ := hk_.2; (try simp only [World.drewN, World.drew] at h2_); have := HNO.out; omega⟩)); have HNS := Aside0.mk (Nat.le_trans (Nat.le_of_eq HNO.out) (below_size (show Below wr.heap.size wr w6 from below_step (by repeat (first | (with_reducible first | exact (Below.refl wr.heap.size wr) | apply below_alloc | apply pw_below_drewN | apply below_drew1) | exact (Below.refl wr.heap.size wr))) hb))); have HSv := Aside0.mk (Kd.S_lower (base' := w.heap.size) (Kd.S_mono (Kd.S_bound hS) (ok' := fun k_ => NO ≤ k_ ∧ k_ < w6.heap.size) (fun k_ hk_ => ⟨Nat.le_trans (Nat.le_of_eq HNO.out) hk_.2.1, hk_.2.2.1⟩)) (below_size (by repeat (first | (with_reducible first | exact HB.out | apply below_alloc | apply pw_below_drewN | apply below_drew1) | exact HB.out)))); obtain ⟨Av, cv, ev⟩ := Kd.S_slice HSv.out; subst ev; clear hS HO; have HO := n2_; clear n2_; have n0_ := Aside0.mk (below_step (by repeat (first | (with_reducible first | exact HB.out | apply below_alloc | apply pw_below_drewN | apply below_drew1) | exact HB.out)) hb); have n1_ := Aside0.mk (blk_below (g := g2) (o := .cells #[.int .i64 0, .int .i64 0, .slice none 0 0] 29 (0, 0)) (by (with_reducible repeat (first | refine blk_drewN ?_ _ | refine blk_drew ?_ | refine blk_alloc ?_ _)); exact BK_g2.out) hb); clear HB BK_g2 hz_g20 hz_g2f0 hz_g21 hz_g2f1 hz_g22 hz_g2f2 hx0 hx1 hx2 hb; have HB := n0_; have BK_g2 := n1_; clear n0_ n1_; have hx0 : w6.cell? ad = some (.int .i64 x.f0) := (HB.out.cell (World.block_lt_of_cell? w _ hq0.out)).trans hq0.out; have hx1 : w6.cell? ⟨ad.block, ad.off + 1, none⟩ = some (.int .i64 x.f1) := (HB.out.cell (World.block_lt_of_cell? w _ hq1.out)).trans hq1.out; have hx2 : w6.cell? ⟨ad.block, ad.off + 2, none⟩ = some (.slice (some ad2) x.f2.length c) := (HB.out.cell (World.block_lt_of_cell? w _ hq2.out)).trans hq2.out; have hz_g20 : w6.cell? ⟨g2, 0, none⟩ = some (.int .i64 0) := (blk_cell BK_g2.out 0).trans rfl; have hz_g2f0 := blk_frozen BK_g2.out 0; have hz_g21 : w6.cell? ⟨g2, 1, none⟩ = some (.int .i64 0) := (blk_cell BK_g2.out 1).trans rfl; have hz_g2f1 := blk_frozen BK_g2.out 1; have hz_g22 : w6.cell? ⟨g2, 2, none⟩ = some (.slice none 0 0) := (blk_cell BK_g2.out 2).trans rfl; have hz_g2f2 := blk_frozen BK_g2.out 2) | ((with_reducible refine gate_dst (N := 6) rfl ?_); refine box_event ?hg (N := 6) ?hd (cs := #[.int .i64 0, .int .i64 0, .slice none 0 0]) (t := 29) ?hr ?_; (case hd => rfl); (case hg => rfl); (case hr => first | (go_simp; done) | (go_simp; rfl)); intro g6 hg w7 hbox hb; have GW_g6 := Aside0.mk ((by rw [hg]; exact below_size (by repeat (first | (with_reducible first | exact HB.out | apply below_alloc | apply pw_below_drewN | apply below_drew1) | exact HB.out))) : w.heap.size ≤ g6); have HL6 := Aside0.mk ((by rw [hg]; exact blk_lt (o := .cells #[.int .i64 0, .int .i64 0, .slice none 0 0] 29 (0, 0)) (by (with_reducible repeat (first | refine blk_drewN ?_ _ | refine blk_drew ?_ | refine blk_alloc ?_ _)); exact BK_g2.out)) : g2 < g6); have HE6 := Aside0.mk ((by rw [hg]; exact below_size (by repeat (first | (with_reducible first | exact (Below.refl w6.heap.size w6) | apply below_alloc | apply pw_below_drewN | apply below_drew1) | exact (Below.refl w6.heap.size w6)))) : w6.heap.size ≤ g6); have n3_ := Aside0.mk (Kd.S_below (by (with_reducible repeat (first | apply Kd.S_alloc | apply Kd.S_drewN | apply Kd.S_drew)); exact HO.out) hb); have HSq := Aside0.mk (Kd.S_mono HSv.out (ok' := fun k_ => NO ≤ k_ ∧ k_ < g6) (fun k_ hk_ => ⟨hk_.1, Nat.lt_of_lt_of_le hk_.2 HE6.out⟩)); have n4_ := Aside0.mk (Kd.S_below (by (with_reducible repeat (first | apply Kd.S_alloc | apply Kd.S_drewN | apply Kd.S_drew)); exact HSq.out) hb); have hnA : ad.block ≠ g6 := (by have h_ := World.block_lt_of_cell? w _ hq0.out; have := GW_g6.out; intro e_; rw [e_] at h_; omega); have hnA' := Ne.symm hnA; clear HO HSv HSq; have HO := n3_; have HSv := n4_; clear n3_ n4_; have BK_g6 := Aside0.mk hbox; have M6 := Aside0.mk trivial; clear hbox hg; have n0_ := Aside0.mk (below_step (by repeat (first | (with_reducible first | exact HB.out | apply below_alloc | apply pw_below_drewN | apply below_drew1) | exact HB.out)) hb); have n1_ := Aside0.mk (blk_below (g := g2) (o := .cells #[.int .i64 0, .int .i64 0, .slice none 0 0] 29 (0, 0)) (by (with_reducible repeat (first | refine blk_drewN ?_ _ | refine blk_drew ?_ | refine blk_alloc ?_ _)); exact BK_g2.out) hb); clear HB BK_g2 hz_g20 hz_g2f0 hz_g21 hz_g2f1 hz_g22 hz_g2f2 hx0 hx1 hx2 hb; have HB := n0_; have BK_g2 := n1_; clear n0_ n1_; have hx0 : w7.cell? ad = some (.int .i64 x.f0) := (HB.out.cell (World.block_lt_of_cell? w _ hq0.out)).trans hq0.out; have hx1 : w7.cell? ⟨ad.block, ad.off + 1, none⟩ = some (.int .i64 x.f1) := (HB.out.cell (World.block_lt_of_cell? w _ hq1.out)).trans hq1.out; have hx2 : w7.cell? ⟨ad.block, ad.off + 2, none⟩ = some (.slice (some ad2) x.f2.length c) := (HB.out.cell (World.block_lt_of_cell? w _ hq2.out)).trans hq2.out; have hz_g20 : w7.cell? ⟨g2, 0, none⟩ = some (.int .i64 0) := (blk_cell BK_g2.out 0).trans rfl; have hz_g2f0 := blk_frozen BK_g2.out 0; have hz_g21 : w7.cell? ⟨g2, 1, none⟩ = some (.int .i64 0) := (blk_cell BK_g2.out 1).trans rfl; have hz_g2f1 := blk_frozen BK_g2.out 1; have hz_g22 : w7.cell? ⟨g2, 2, none⟩ = some (.slice none 0 0) := (blk_cell BK_g2.out 2).trans rfl; have hz_g2f2 := blk_frozen BK_g2.out 2; have hz_g60 : w7.cell? ⟨g6, 0, none⟩ = some (.int .i64 0) := (blk_cell BK_g6.out 0).trans rfl; have hz_g6f0 := blk_frozen BK_g6.out 0; have hz_g61 : w7.cell? ⟨g6, 1, none⟩ = some (.int .i64 0) := (blk_cell BK_g6.out 1).trans rfl; have hz_g6f1 := blk_frozen BK_g6.out 1; have hz_g62 : w7.cell? ⟨g6, 2, none⟩ = some (.slice none 0 0) := (blk_cell BK_g6.out 2).trans rfl; have hz_g6f2 := blk_frozen BK_g6.out 2) | ((with_reducible refine gate_dst (N := 58) rfl ?_); clear M6; have HSw := Aside0.mk (show Kd.S kG 29 (((w7.setCell ⟨g6, 0, none⟩ (.int .i64 t.f0)).setCell ⟨g6, 1, none⟩ (.int .i64 t.f1)).setCell ⟨g6, 2, none⟩ (.slice Av t.f2.length cv)) w.heap.size (fun k_ => NO ≤ k_ ∧ k_ < g6) (.slice Av t.f2.length cv) t.f2 from Kd.S_far (p := ⟨g6, 2, none⟩) (Kd.S_far (p := ⟨g6, 1, none⟩) (Kd.S_far (p := ⟨g6, 0, none⟩) HSv.out (fun k_ hk_ => by have h_ := hk_.2; show k_ ≠ g6; omega) _) (fun k_ hk_ => by have h_ := hk_.2; show k_ ≠ g6; omega) _) (fun k_ hk_ => by have h_ := hk_.2; show k_ ≠ g6; omega) _); have HOw := Aside0.mk (show Kd.S kG 29 (((w7.setCell ⟨g6, 0, none⟩ (.int .i64 t.f0)).setCell ⟨g6, 1, none⟩ (.int .i64 t.f1)).setCell ⟨g6, 2, none⟩ (.slice Av t.f2.length cv)) w.heap.size (fun k_ => g2 < k_ ∧ k_ < NO) u4 out from Kd.S_far (p := ⟨g6, 2, none⟩) (Kd.S_far (p := ⟨g6, 1, none⟩) (Kd.S_far (p := ⟨g6, 0, none⟩) HO.out (fun k_ hk_ => by have h_ := hk_.2; have := HE6.out; have := HNS.out; show k_ ≠ g6; omega) _) (fun k_ hk_ => by have h_ := hk_.2; have := HE6.out; have := HNS.out; show k_ ≠ g6; omega) _) (fun k_ hk_ => by have h_ := hk_.2; have := HE6.out; have := HNS.out; show k_ ≠ g6; omega) _); have HBw := Aside0.mk (show Below w.heap.size w (((w7.setCell ⟨g6, 0, none⟩ (.int .i64 t.f0)).setCell ⟨g6, 1, none⟩ (.int .i64 t.f1)).setCell ⟨g6, 2, none⟩ (.slice Av t.f2.length cv)) from below_set (below_set (below_set HB.out GW_g6.out) GW_g6.out) GW_g6.out); have B2w := Aside0.mk (show (World.heap (((w7.setCell ⟨g6, 0, none⟩ (.int .i64 t.f0)).setCell ⟨g6, 1, none⟩ (.int .i64 t.f1)).setCell ⟨g6, 2, none⟩ (.slice Av t.f2.length cv)))[g2]? = some (.cells #[.int .i64 0, .int .i64 0, .slice none 0 0] 29 (0, 0)) from (by refine blk_far ?_ (show g2 ≠ g6 by have := HL6.out; omega) _; refine blk_far ?_ (show g2 ≠ g6 by have := HL6.out; omega) _; refine blk_far ?_ (show g2 ≠ g6 by have := HL6.out; omega) _; exact BK_g2.out)); have B6w := Aside0.mk (show (World.heap (((w7.setCell ⟨g6, 0, none⟩ (.int .i64 t.f0)).setCell ⟨g6, 1, none⟩ (.int .i64 t.f1)).setCell ⟨g6, 2, none⟩ (.slice Av t.f2.length cv)))[g6]? = some (.cells #[.int .i64 t.f0, .int .i64 t.f1, .slice Av t.f2.length cv] 29 (0, 0)) from (by (with_reducible repeat (first | refine blk_drewN ?_ _ | refine blk_drew ?_ | refine blk_alloc ?_ _)); refine blk_put (cs := #[.int .i64 t.f0, .int .i64 t.f1, .slice none 0 0]) ?_ 2 _ rfl; (with_reducible repeat (first | refine blk_drewN ?_ _ | refine blk_drew ?_ | refine blk_alloc ?_ _)); refine blk_put (cs := #[.int .i64 t.f0, .int .i64 0, .slice none 0 0]) ?_ 1 _ rfl; (with_reducible repeat (first | refine blk_drewN ?_ _ | refine blk_drew ?_ | refine blk_alloc ?_ _)); refine blk_put (cs := #[.int .i64 0, .int .i64 0, .slice none 0 0]) ?_ 0 _ rfl; (with_reducible repeat (first | refine blk_drewN ?_ _ | refine blk_drew ?_ | refine blk_alloc ?_ _)); exact BK_g6.out)); clear HSv HO HB BK_g2 BK_g6 hx0 hx1 hx2 hz_g20 hz_g2f0 hz_g21 hz_g2f1 hz_g22 hz_g2f2 hz_g60 hz_g6f0 hz_g61 hz_g6f1 hz_g62 hz_g6f2; generalize (((w7.setCell ⟨g6, 0, none⟩ (.int .i64 t.f0)).setCell ⟨g6, 1, none⟩ (.int .i64 t.f1)).setCell ⟨g6, 2, none⟩ (.slice Av t.f2.length cv)) = w9 at HSw HOw HBw B2w B6w ⊢; have HSv := HSw; have HO := HOw; have HB := HBw; have BK_g2 := B2w; have BK_g6 := B6w; clear HSw HOw HBw B2w B6w; have hx0 : w9.cell? ad = some (.int .i64 x.f0) := (HB.out.cell (World.block_lt_of_cell? w _ hq0.out)).trans hq0.out; have hx1 : w9.cell? ⟨ad.block, ad.off + 1, none⟩ = some (.int .i64 x.f1) := (HB.out.cell (World.block_lt_of_cell? w _ hq1.out)).trans hq1.out; have hx2 : w9.cell? ⟨ad.block, ad.off + 2, none⟩ = some (.slice (some ad2) x.f2.length c) := (HB.out.cell (World.block_lt_of_cell? w _ hq2.out)).trans hq2.out; have hz_g20 : w9.cell? ⟨g2, 0, none⟩ = some (.int .i64 0) := (blk_cell BK_g2.out 0).trans rfl; have hz_g2f0 := blk_frozen BK_g2.out 0; have hz_g21 : w9.cell? ⟨g2, 1, none⟩ = some (.int .i64 0) := (blk_cell BK_g2.out 1).trans rfl; have hz_g2f1 := blk_frozen BK_g2.out 1; have hz_g22 : w9.cell? ⟨g2, 2, none⟩ = some (.slice none 0 0) := (blk_cell BK_g2.out 2).trans rfl; have hz_g2f2 := blk_frozen BK_g2.out 2; have hz_g60 : w9.cell? ⟨g6, 0, none⟩ = some (.int .i64 t.f0) := (blk_cell BK_g6.out 0).trans rfl; have hz_g6f0 := blk_frozen BK_g6.out 0; have hz_g61 : w9.cell? ⟨g6, 1, none⟩ = some (.int .i64 t.f1) := (blk_cell BK_g6.out 1).trans rfl; have hz_g6f1 := blk_frozen BK_g6.out 1; have hz_g62 : w9.cell? ⟨g6, 2, none⟩ = some (.slice Av t.f2.length cv) := (blk_cell BK_g6.out 2).trans rfl; have hz_g6f2 := blk_frozen BK_g6.out 2) | ((with_reducible refine gate_builtin (b := .append) (xs := #[.tmp 90, .tmp 92]) rfl ?_); at_builtin; refine Kd.S_append kG (w0 := w) w.heap.size rfl (.tmp 90) (.tmp 92) 27 29 (.agg #[.int .i64 0, .int .i64 0, .slice none 0 0]) 40 rfl Try.underlying27 info29 rfl (by decide) (by omega) u4 out t [.int .i64 t.f0, .int .i64 t.f1, .slice Av t.f2.length cv] (fun k_ => g2 < k_) (fun k_ => NO ≤ k_ ∧ k_ < g6) rfl rfl ?aP ?aK ?aF ?aO ?aB ?aS ?aL ?_; (case aP => exact kG_mkM (x := t) HSv.out); (case aK => exact fun k_ hk_ => ⟨Nat.lt_of_lt_of_le HLr.out hk_.1, fun e_ => by have h_ := ((Kd.S_R HO.out).1 k_ e_.symm).2; have h2_ := hk_.1; omega⟩); (case aF => exact fun k_ hk_ => Nat.lt_of_lt_of_le (blk_lt (o := .cells #[.int .i64 0, .int .i64 0, .slice none 0 0] 29 (0, 0)) BK_g2.out) (Nat.le_trans (by simp) hk_)); (case aO => exact Kd.S_mono HO.out (fun k_ hk_ => ⟨hk_.1, fun h2_ => by have h3_ := h2_.1; have h4_ := hk_.2; omega⟩)); (case aB => exact HB.out); (case aS => exact below_size HB.out); (case aL => have := LM.out; omega); intro v7b w8 ho hb hg hat; have hown : ∀ k_, (u4 : Value).ownBlock = some k_ → g2 < k_ ∧ k_ < NO := fun k_ e_ => ((Kd.S_R HO.out).1 k_ e_); have n1_ := Aside0.mk (blk_grown (g := g2) (o := .cells #[.int .i64 0, .int .i64 0, .slice none 0 0] 29 (0, 0)) BK_g2.out hg (fun e_ => by have := (hown _ e_.symm).1; omega)); have HO8 := Aside0.mk ho; have HB8 := Aside0.mk hb; have B28 := n1_; clear n1_ ho hb hg hat hown HO BK_g2 BK_g6 HB HSv hx0 hx1 hx2 hz_g20 hz_g2f0 hz_g21 hz_g2f1 hz_g22 hz_g2f2 hz_g60 hz_g6f0 hz_g61 hz_g6f1 hz_g62 hz_g6f2))
                  go_roundg k1
                  case measure => have := HK1.out; omega
                  case rel => exact ⟨_, out ++ [t], rfl, HF, ⟨by have := HK1.out; omega⟩, HO8, B28, HB8⟩
              · have dT : decide (0 < (t.f2.length : Int)) = false := decide_eq_false cT
                have dN := eq_false (show ¬ 0 < t.f2.length by omega)
                clear cT
                have cC : tidyC x t = false := by unfold tidyC; simp only [dT, Bool.false_and]
                rw [if_neg (show ¬ (tidyC x t = true) by rw [cC]; decide)] at H'
                clear cC
                by_cases c8 : out.length < 1048576
                case neg => rw [if_neg c8] at H'; exact absurd H' (by simp)
                rw [if_pos c8] at H'
                have LM := Aside0.mk c8
                have HF := Aside0.mk H'
                clear H' c8
                (try clear cT)
                go_wp2_with (first | (go_at_call 69; (with_reducible refine (IH.out k1 (by have := HK1.out; omega) _ (rd_T29 x.f2 i) t _ ?sP A7.out).mono ?_); (case sP => exact Kd.C_below HE.out (by repeat (first | (with_reducible first | exact HB.out | apply below_alloc | apply pw_below_drewN | apply below_drew1) | exact HB.out))); rintro e w6 ⟨v, rfl, hS, hb⟩; have n2_ := Aside0.mk (Kd.S_mono (Kd.S_old (by (with_reducible repeat (first | apply Kd.S_alloc | apply Kd.S_drewN | apply Kd.S_drew)); exact HO.out) hb) (ok' := fun k_ => g2 < k_ ∧ k_ < NO) (fun k_ hk_ => ⟨hk_.1, by have h2_ := hk_.2; (try simp only [World.drewN, World.drew] at h2_); have := HNO.out; omega⟩)); have HNS := Aside0.mk (Nat.le_trans (Nat.le_of_eq HNO.out) (below_size (show Below wr.heap.size wr w6 from below_step (by repeat (first | (with_reducible first | exact (Below.refl wr.heap.size wr) | apply below_alloc | apply pw_below_drewN | apply below_drew1) | exact (Below.refl wr.heap.size wr))) hb))); have HSv := Aside0.mk (Kd.S_lower (base' := w.heap.size) (Kd.S_mono (Kd.S_bound hS) (ok' := fun k_ => NO ≤ k_ ∧ k_ < w6.heap.size) (fun k_ hk_ => ⟨Nat.le_trans (Nat.le_of_eq HNO.out) hk_.2.1, hk_.2.2.1⟩)) (below_size (by repeat (first | (with_reducible first | exact HB.out | apply below_alloc | apply pw_below_drewN | apply below_drew1) | exact HB.out)))); obtain ⟨Av, cv, ev⟩ := Kd.S_slice HSv.out; subst ev; clear hS HO; have HO := n2_; clear n2_; have n0_ := Aside0.mk (below_step (by repeat (first | (with_reducible first | exact HB.out | apply below_alloc | apply pw_below_drewN | apply below_drew1) | exact HB.out)) hb); have n1_ := Aside0.mk (blk_below (g := g2) (o := .cells #[.int .i64 0, .int .i64 0, .slice none 0 0] 29 (0, 0)) (by (with_reducible repeat (first | refine blk_drewN ?_ _ | refine blk_drew ?_ | refine blk_alloc ?_ _)); exact BK_g2.out) hb); clear HB BK_g2 hz_g20 hz_g2f0 hz_g21 hz_g2f1 hz_g22 hz_g2f2 hx0 hx1 hx2 hb; have HB := n0_; have BK_g2 := n1_; clear n0_ n1_; have hx0 : w6.cell? ad = some (.int .i64 x.f0) := (HB.out.cell (World.block_lt_of_cell? w _ hq0.out)).trans hq0.out; have hx1 : w6.cell? ⟨ad.block, ad.off + 1, none⟩ = some (.int .i64 x.f1) := (HB.out.cell (World.block_lt_of_cell? w _ hq1.out)).trans hq1.out; have hx2 : w6.cell? ⟨ad.block, ad.off + 2, none⟩ = some (.slice (some ad2) x.f2.length c) := (HB.out.cell (World.block_lt_of_cell? w _ hq2.out)).trans hq2.out; have hz_g20 : w6.cell? ⟨g2, 0, none⟩ = some (.int .i64 0) := (blk_cell BK_g2.out 0).trans rfl; have hz_g2f0 := blk_frozen BK_g2.out 0; have hz_g21 : w6.cell? ⟨g2, 1, none⟩ = some (.int .i64 0) := (blk_cell BK_g2.out 1).trans rfl; have hz_g2f1 := blk_frozen BK_g2.out 1; have hz_g22 : w6.cell? ⟨g2, 2, none⟩ = some (.slice none 0 0) := (blk_cell BK_g2.out 2).trans rfl; have hz_g2f2 := blk_frozen BK_g2.out 2) | ((with_reducible refine gate_dst (N := 6) rfl ?_); refine box_event ?hg (N := 6) ?hd (cs := #[.int .i64 0, .int .i64 0, .slice none 0 0]) (t := 29) ?hr ?_; (case hd => rfl); (case hg => rfl); (case hr => first | (go_simp; done) | (go_simp; rfl)); intro g6 hg w7 hbox hb; have GW_g6 := Aside0.mk ((by rw [hg]; exact below_size (by repeat (first | (with_reducible first | exact HB.out | apply below_alloc | apply pw_below_drewN | apply below_drew1) | exact HB.out))) : w.heap.size ≤ g6); have HL6 := Aside0.mk ((by rw [hg]; exact blk_lt (o := .cells #[.int .i64 0, .int .i64 0, .slice none 0 0] 29 (0, 0)) (by (with_reducible repeat (first | refine blk_drewN ?_ _ | refine blk_drew ?_ | refine blk_alloc ?_ _)); exact BK_g2.out)) : g2 < g6); have HE6 := Aside0.mk ((by rw [hg]; exact below_size (by repeat (first | (with_reducible first | exact (Below.refl w6.heap.size w6) | apply below_alloc | apply pw_below_drewN | apply below_drew1) | exact (Below.refl w6.heap.size w6)))) : w6.heap.size ≤ g6); have n3_ := Aside0.mk (Kd.S_below (by (with_reducible repeat (first | apply Kd.S_alloc | apply Kd.S_drewN | apply Kd.S_drew)); exact HO.out) hb); have HSq := Aside0.mk (Kd.S_mono HSv.out (ok' := fun k_ => NO ≤ k_ ∧ k_ < g6) (fun k_ hk_ => ⟨hk_.1, Nat.lt_of_lt_of_le hk_.2 HE6.out⟩)); have n4_ := Aside0.mk (Kd.S_below (by (with_reducible repeat (first | apply Kd.S_alloc | apply Kd.S_drewN | apply Kd.S_drew)); exact HSq.out) hb); have hnA : ad.block ≠ g6 := (by have h_ := World.block_lt_of_cell? w _ hq0.out; have := GW_g6.out; intro e_; rw [e_] at h_; omega); have hnA' := Ne.symm hnA; clear HO HSv HSq; have HO := n3_; have HSv := n4_; clear n3_ n4_; have BK_g6 := Aside0.mk hbox; have M6 := Aside0.mk trivial; clear hbox hg; have n0_ := Aside0.mk (below_step (by repeat (first | (with_reducible first | exact HB.out | apply below_alloc | apply pw_below_drewN | apply below_drew1) | exact HB.out)) hb); have n1_ := Aside0.mk (blk_below (g := g2) (o := .cells #[.int .i64 0, .int .i64 0, .slice none 0 0] 29 (0, 0)) (by (with_reducible repeat (first | refine blk_drewN ?_ _ | refine blk_drew ?_ | refine blk_alloc ?_ _)); exact BK_g2.out) hb); clear HB BK_g2 hz_g20 hz_g2f0 hz_g21 hz_g2f1 hz_g22 hz_g2f2 hx0 hx1 hx2 hb; have HB := n0_; have BK_g2 := n1_; clear n0_ n1_; have hx0 : w7.cell? ad = some (.int .i64 x.f0) := (HB.out.cell (World.block_lt_of_cell? w _ hq0.out)).trans hq0.out; have hx1 : w7.cell? ⟨ad.block, ad.off + 1, none⟩ = some (.int .i64 x.f1) := (HB.out.cell (World.block_lt_of_cell? w _ hq1.out)).trans hq1.out; have hx2 : w7.cell? ⟨ad.block, ad.off + 2, none⟩ = some (.slice (some ad2) x.f2.length c) := (HB.out.cell (World.block_lt_of_cell? w _ hq2.out)).trans hq2.out; have hz_g20 : w7.cell? ⟨g2, 0, none⟩ = some (.int .i64 0) := (blk_cell BK_g2.out 0).trans rfl; have hz_g2f0 := blk_frozen BK_g2.out 0; have hz_g21 : w7.cell? ⟨g2, 1, none⟩ = some (.int .i64 0) := (blk_cell BK_g2.out 1).trans rfl; have hz_g2f1 := blk_frozen BK_g2.out 1; have hz_g22 : w7.cell? ⟨g2, 2, none⟩ = some (.slice none 0 0) := (blk_cell BK_g2.out 2).trans rfl; have hz_g2f2 := blk_frozen BK_g2.out 2; have hz_g60 : w7.cell? ⟨g6, 0, none⟩ = some (.int .i64 0) := (blk_cell BK_g6.out 0).trans rfl; have hz_g6f0 := blk_frozen BK_g6.out 0; have hz_g61 : w7.cell? ⟨g6, 1, none⟩ = some (.int .i64 0) := (blk_cell BK_g6.out 1).trans rfl; have hz_g6f1 := blk_frozen BK_g6.out 1; have hz_g62 : w7.cell? ⟨g6, 2, none⟩ = some (.slice none 0 0) := (blk_cell BK_g6.out 2).trans rfl; have hz_g6f2 := blk_frozen BK_g6.out 2) | ((with_reducible refine gate_dst (N := 58) rfl ?_); clear M6; have HSw := Aside0.mk (show Kd.S kG 29 (((w7.setCell ⟨g6, 0, none⟩ (.int .i64 t.f0)).setCell ⟨g6, 1, none⟩ (.int .i64 t.f1)).setCell ⟨g6, 2, none⟩ (.slice Av t.f2.length cv)) w.heap.size (fun k_ => NO ≤ k_ ∧ k_ < g6) (.slice Av t.f2.length cv) t.f2 from Kd.S_far (p := ⟨g6, 2, none⟩) (Kd.S_far (p := ⟨g6, 1, none⟩) (Kd.S_far (p := ⟨g6, 0, none⟩) HSv.out (fun k_ hk_ => by have h_ := hk_.2; show k_ ≠ g6; omega) _) (fun k_ hk_ => by have h_ := hk_.2; show k_ ≠ g6; omega) _) (fun k_ hk_ => by have h_ := hk_.2; show k_ ≠ g6; omega) _); have HOw := Aside0.mk (show Kd.S kG 29 (((w7.setCell ⟨g6, 0, none⟩ (.int .i64 t.f0)).setCell ⟨g6, 1, none⟩ (.int .i64 t.f1)).setCell ⟨g6, 2, none⟩ (.slice Av t.f2.length cv)) w.heap.size (fun k_ => g2 < k_ ∧ k_ < NO) u4 out from Kd.S_far (p := ⟨g6, 2, none⟩) (Kd.S_far (p := ⟨g6, 1, none⟩) (Kd.S_far (p := ⟨g6, 0, none⟩) HO.out (fun k_ hk_ => by have h_ := hk_.2; have := HE6.out; have := HNS.out; show k_ ≠ g6; omega) _) (fun k_ hk_ => by have h_ := hk_.2; have := HE6.out; have := HNS.out; show k_ ≠ g6; omega) _) (fun k_ hk_ => by have h_ := hk_.2; have := HE6.out; have := HNS.out; show k_ ≠ g6; omega) _); have HBw := Aside0.mk (show Below w.heap.size w (((w7.setCell ⟨g6, 0, none⟩ (.int .i64 t.f0)).setCell ⟨g6, 1, none⟩ (.int .i64 t.f1)).setCell ⟨g6, 2, none⟩ (.slice Av t.f2.length cv)) from below_set (below_set (below_set HB.out GW_g6.out) GW_g6.out) GW_g6.out); have B2w := Aside0.mk (show (World.heap (((w7.setCell ⟨g6, 0, none⟩ (.int .i64 t.f0)).setCell ⟨g6, 1, none⟩ (.int .i64 t.f1)).setCell ⟨g6, 2, none⟩ (.slice Av t.f2.length cv)))[g2]? = some (.cells #[.int .i64 0, .int .i64 0, .slice none 0 0] 29 (0, 0)) from (by refine blk_far ?_ (show g2 ≠ g6 by have := HL6.out; omega) _; refine blk_far ?_ (show g2 ≠ g6 by have := HL6.out; omega) _; refine blk_far ?_ (show g2 ≠ g6 by have := HL6.out; omega) _; exact BK_g2.out)); have B6w := Aside0.mk (show (World.heap (((w7.setCell ⟨g6, 0, none⟩ (.int .i64 t.f0)).setCell ⟨g6, 1, none⟩ (.int .i64 t.f1)).setCell ⟨g6, 2, none⟩ (.slice Av t.f2.length cv)))[g6]? = some (.cells #[.int .i64 t.f0, .int .i64 t.f1, .slice Av t.f2.length cv] 29 (0, 0)) from (by (with_reducible repeat (first | refine blk_drewN ?_ _ | refine blk_drew ?_ | refine blk_alloc ?_ _)); refine blk_put (cs := #[.int .i64 t.f0, .int .i64 t.f1, .slice none 0 0]) ?_ 2 _ rfl; (with_reducible repeat (first | refine blk_drewN ?_ _ | refine blk_drew ?_ | refine blk_alloc ?_ _)); refine blk_put (cs := #[.int .i64 t.f0, .int .i64 0, .slice none 0 0]) ?_ 1 _ rfl; (with_reducible repeat (first | refine blk_drewN ?_ _ | refine blk_drew ?_ | refine blk_alloc ?_ _)); refine blk_put (cs := #[.int .i64 0, .int .i64 0, .slice none 0 0]) ?_ 0 _ rfl; (with_reducible repeat (first | refine blk_drewN ?_ _ | refine blk_drew ?_ | refine blk_alloc ?_ _)); exact BK_g6.out)); clear HSv HO HB BK_g2 BK_g6 hx0 hx1 hx2 hz_g20 hz_g2f0 hz_g21 hz_g2f1 hz_g22 hz_g2f2 hz_g60 hz_g6f0 hz_g61 hz_g6f1 hz_g62 hz_g6f2; generalize (((w7.setCell ⟨g6, 0, none⟩ (.int .i64 t.f0)).setCell ⟨g6, 1, none⟩ (.int .i64 t.f1)).setCell ⟨g6, 2, none⟩ (.slice Av t.f2.length cv)) = w9 at HSw HOw HBw B2w B6w ⊢; have HSv := HSw; have HO := HOw; have HB := HBw; have BK_g2 := B2w; have BK_g6 := B6w; clear HSw HOw HBw B2w B6w; have hx0 : w9.cell? ad = some (.int .i64 x.f0) := (HB.out.cell (World.block_lt_of_cell? w _ hq0.out)).trans hq0.out; have hx1 : w9.cell? ⟨ad.block, ad.off + 1, none⟩ = some (.int .i64 x.f1) := (HB.out.cell (World.block_lt_of_cell? w _ hq1.out)).trans hq1.out; have hx2 : w9.cell? ⟨ad.block, ad.off + 2, none⟩ = some (.slice (some ad2) x.f2.length c) := (HB.out.cell (World.block_lt_of_cell? w _ hq2.out)).trans hq2.out; have hz_g20 : w9.cell? ⟨g2, 0, none⟩ = some (.int .i64 0) := (blk_cell BK_g2.out 0).trans rfl; have hz_g2f0 := blk_frozen BK_g2.out 0; have hz_g21 : w9.cell? ⟨g2, 1, none⟩ = some (.int .i64 0) := (blk_cell BK_g2.out 1).trans rfl; have hz_g2f1 := blk_frozen BK_g2.out 1; have hz_g22 : w9.cell? ⟨g2, 2, none⟩ = some (.slice none 0 0) := (blk_cell BK_g2.out 2).trans rfl; have hz_g2f2 := blk_frozen BK_g2.out 2; have hz_g60 : w9.cell? ⟨g6, 0, none⟩ = some (.int .i64 t.f0) := (blk_cell BK_g6.out 0).trans rfl; have hz_g6f0 := blk_frozen BK_g6.out 0; have hz_g61 : w9.cell? ⟨g6, 1, none⟩ = some (.int .i64 t.f1) := (blk_cell BK_g6.out 1).trans rfl; have hz_g6f1 := blk_frozen BK_g6.out 1; have hz_g62 : w9.cell? ⟨g6, 2, none⟩ = some (.slice Av t.f2.length cv) := (blk_cell BK_g6.out 2).trans rfl; have hz_g6f2 := blk_frozen BK_g6.out 2) | ((with_reducible refine gate_builtin (b := .append) (xs := #[.tmp 90, .tmp 92]) rfl ?_); at_builtin; refine Kd.S_append kG (w0 := w) w.heap.size rfl (.tmp 90) (.tmp 92) 27 29 (.agg #[.int .i64 0, .int .i64 0, .slice none 0 0]) 40 rfl Try.underlying27 info29 rfl (by decide) (by omega) u4 out t [.int .i64 t.f0, .int .i64 t.f1, .slice Av t.f2.length cv] (fun k_ => g2 < k_) (fun k_ => NO ≤ k_ ∧ k_ < g6) rfl rfl ?aP ?aK ?aF ?aO ?aB ?aS ?aL ?_; (case aP => exact kG_mkM (x := t) HSv.out); (case aK => exact fun k_ hk_ => ⟨Nat.lt_of_lt_of_le HLr.out hk_.1, fun e_ => by have h_ := ((Kd.S_R HO.out).1 k_ e_.symm).2; have h2_ := hk_.1; omega⟩); (case aF => exact fun k_ hk_ => Nat.lt_of_lt_of_le (blk_lt (o := .cells #[.int .i64 0, .int .i64 0, .slice none 0 0] 29 (0, 0)) BK_g2.out) (Nat.le_trans (by simp) hk_)); (case aO => exact Kd.S_mono HO.out (fun k_ hk_ => ⟨hk_.1, fun h2_ => by have h3_ := h2_.1; have h4_ := hk_.2; omega⟩)); (case aB => exact HB.out); (case aS => exact below_size HB.out); (case aL => have := LM.out; omega); intro v7b w8 ho hb hg hat; have hown : ∀ k_, (u4 : Value).ownBlock = some k_ → g2 < k_ ∧ k_ < NO := fun k_ e_ => ((Kd.S_R HO.out).1 k_ e_); have n1_ := Aside0.mk (blk_grown (g := g2) (o := .cells #[.int .i64 0, .int .i64 0, .slice none 0 0] 29 (0, 0)) BK_g2.out hg (fun e_ => by have := (hown _ e_.symm).1; omega)); have HO8 := Aside0.mk ho; have HB8 := Aside0.mk hb; have B28 := n1_; clear n1_ ho hb hg hat hown HO BK_g2 BK_g6 HB HSv hx0 hx1 hx2 hz_g20 hz_g2f0 hz_g21 hz_g2f1 hz_g22 hz_g2f2 hz_g60 hz_g6f0 hz_g61 hz_g6f1 hz_g62 hz_g6f2))
                go_roundg k1
                case measure => have := HK1.out; omega
                case rel => exact ⟨_, out ++ [t], rfl, HF, ⟨by have := HK1.out; omega⟩, HO8, B28, HB8⟩
            · rw [if_neg c6] at H'
              have eT : tidyE x out = ⟨-1, x.f1, out⟩ := by unfold tidyE; rw [CE.out]; rfl
              rw [eT] at H'
              clear eT
              obtain rfl := Option.some.inj H'
              clear H'
              have c6b0 : decide (i < (x.f2.length : Int)) = false := decide_eq_false c6
              clear c6
              obtain ⟨Ao, co, eo⟩ := Kd.S_slice HO.out
              subst eo
              go_wp2_with (first | (go_at_call 63; (with_reducible refine (spec_l02Gate.callsT x.f1 Ao out.length co _).mono ?_); rintro e w8 ⟨rfl, hb⟩; have n2_ := Aside0.mk (Kd.S_below (by (with_reducible repeat (first | apply Kd.S_alloc | apply Kd.S_drewN | apply Kd.S_drew)); exact HO.out) hb); clear HO; have HO := n2_; clear n2_; have n0_ := Aside0.mk (below_step (by repeat (first | (with_reducible first | exact HB.out | apply below_alloc | apply pw_below_drewN | apply below_drew1) | exact HB.out)) hb); have n1_ := Aside0.mk (blk_below (g := g2) (o := .cells #[.int .i64 0, .int .i64 0, .slice none 0 0] 29 (0, 0)) (by (with_reducible repeat (first | refine blk_drewN ?_ _ | refine blk_drew ?_ | refine blk_alloc ?_ _)); exact BK_g2.out) hb); clear HB BK_g2 hz_g20 hz_g2f0 hz_g21 hz_g2f1 hz_g22 hz_g2f2 hx0 hx1 hx2 hb; have HB := n0_; have BK_g2 := n1_; clear n0_ n1_; have hx0 : w8.cell? ad = some (.int .i64 x.f0) := (HB.out.cell (World.block_lt_of_cell? w _ hq0.out)).trans hq0.out; have hx1 : w8.cell? ⟨ad.block, ad.off + 1, none⟩ = some (.int .i64 x.f1) := (HB.out.cell (World.block_lt_of_cell? w _ hq1.out)).trans hq1.out; have hx2 : w8.cell? ⟨ad.block, ad.off + 2, none⟩ = some (.slice A x.f2.length c) := (HB.out.cell (World.block_lt_of_cell? w _ hq2.out)).trans hq2.out; have hz_g20 : w8.cell? ⟨g2, 0, none⟩ = some (.int .i64 0) := (blk_cell BK_g2.out 0).trans rfl; have hz_g2f0 := blk_frozen BK_g2.out 0; have hz_g21 : w8.cell? ⟨g2, 1, none⟩ = some (.int .i64 0) := (blk_cell BK_g2.out 1).trans rfl; have hz_g2f1 := blk_frozen BK_g2.out 1; have hz_g22 : w8.cell? ⟨g2, 2, none⟩ = some (.slice none 0 0) := (blk_cell BK_g2.out 2).trans rfl; have hz_g2f2 := blk_frozen BK_g2.out 2))
              refine bodyPost_ret (results_cell_row rfl _ _ g2 29 #[.int .i64 (-1), .int .i64 x.f1, .slice Ao out.length co] (0, 0) _ rfl (by (with_reducible repeat (first | refine blk_drewN ?_ _ | refine blk_drew ?_ | refine blk_alloc ?_ _)); refine blk_put (cs := #[.int .i64 (-1), .int .i64 x.f1, .slice none 0 0]) ?_ 2 _ rfl; (with_reducible repeat (first | refine blk_drewN ?_ _ | refine blk_drew ?_ | refine blk_alloc ?_ _)); refine blk_put (cs := #[.int .i64 (-1), .int .i64 0, .slice none 0 0]) ?_ 1 _ rfl; (with_reducible repeat (first | refine blk_drewN ?_ _ | refine blk_drew ?_ | refine blk_alloc ?_ _)); refine blk_put (cs := #[.int .i64 0, .int .i64 0, .slice none 0 0]) ?_ 0 _ rfl; (with_reducible repeat (first | refine blk_drewN ?_ _ | refine blk_drew ?_ | refine blk_alloc ?_ _)); exact BK_g2.out) Try.underlying29 rfl (by kernel_rfl)) rfl ?_
              exact ⟨_, rfl, Kd.S_mono (Kd.S_far (p := ⟨g2, 2, none⟩) (Kd.S_far (p := ⟨g2, 1, none⟩) (Kd.S_far (p := ⟨g2, 0, none⟩) HO.out (fun k_ hk_ => by have h_ : g2 < k_ := hk_; show k_ ≠ g2; omega) _) (fun k_ hk_ => by have h_ : g2 < k_ := hk_; show k_ ≠ g2; omega) _) (fun k_ hk_ => by have h_ : g2 < k_ := hk_; show k_ ≠ g2; omega) _) (fun _ _ => trivial), (by repeat (first | (with_reducible first | exact HB.out | apply below_alloc | apply pw_below_drewN | apply below_drew1 | refine below_set ?_ GW_g2.out) | exact HB.out))⟩

end Go.Proofs.Ytjnobnmjhpmpfaa.P

namespace Go.Proofs.Ytjnobnmjhpmpfaa.P
open Go.RowKit Go.Proofs.YtjnobnmjhpmpfaaW.PrintWords Go.Proofs.YtjnobnmjhpmpfaaW.PrintLast Go.Proofs.YtjnobnmjhpmpfaaW.PrintMore
attribute [local go_sem] max2_int min2_int max_two min_two max_three min_three max_four min_four
set_option linter.unusedVariables false
set_option linter.unusedSimpArgs false

/-! ### spec_TidyGate: function 33 (by hand) -/
def spec_TidyGate.f (k : Nat) (a0 : Int) (a1_0 : Int) (a1_1 : Int) (l1_2 : List S29) : Option (Int × Int × List S29 × Int) := (spec_l02Ok.f k a0 ⟨a1_0, a1_1, l1_2⟩).bind fun t => (if t = true then ((spec_l02Tidy.f k ⟨a1_0, a1_1, l1_2⟩).bind fun y => some (y.f0, y.f1, y.f2, 0)) else (some (0, 0, ([] : List S29), 1)))
set_option maxHeartbeats 8000000 in
set_option maxRecDepth 100000 in
theorem spec_TidyGate.calls (k : Nat) (a0 : Int) (a1_0 : Int) (a1_1 : Int) (A1_2 : Option Addr) (c1_2 : Nat) (l1_2 : List S29) (r1 : Int) (r2 : Int) (r3 : List S29) (r4 : Int) (w : World) (hr1_2 : Kd.C k29 w A1_2 l1_2.length l1_2) (hc1_2 : l1_2.length ≤ c1_2) (h : spec_TidyGate.f k a0 a1_0 a1_1 l1_2 = some (r1, r2, r3, r4)) :
    Calls Try.prog 33 #[.int .i64 a0, .agg #[.int .i64 a1_0, .int .i64 a1_1, .slice A1_2 l1_2.length c1_2]] w fun e w' => ∃ v2_ : Value, e = .returned (.tuple #[.agg #[.int .i64 r1, .int .i64 r2, v2_], .int .i64 r4]) ∧ Kd.S kG 29 w' w.heap.size (fun _ => True) v2_ r3 ∧ Below w.heap.size w w' := by
  have hu29 := Try.underlying29
  have HR := Aside0.mk hr1_2
  have HC := Aside0.mk hc1_2
  clear hr1_2 hc1_2
  have HB := Aside0.mk (Below.refl w.heap.size w)
  unfold spec_TidyGate.f at h
  replace h := Option.bind_eq_some_iff.mp h
  obtain ⟨t, At, H⟩ := h
  have A3 := Aside0.mk At
  clear At
  by_cases c4 : t = true
  · subst c4
    rw [if_pos rfl] at H
    replace H := Option.bind_eq_some_iff.mp H
    obtain ⟨y, At, H⟩ := H
    have A4 := Aside0.mk At
    clear At
    simp only [Option.some.injEq, Prod.mk.injEq] at H
    obtain ⟨rfl, rfl, rfl, rfl⟩ := H
    go_enter Try.func33, Try.ntmps33
    go_wp2_with (first | ((with_reducible refine gate_dst (N := 3) rfl ?_); refine box_event ?hg (N := 3) ?hd (cs := #[.int .i64 a1_0, .int .i64 a1_1, .slice A1_2 l1_2.length c1_2]) (t := 29) ?hr ?_; (case hd => rfl); (case hg => rfl); (case hr => first | (go_simp; done) | (go_simp; rfl)); intro g3 hg w1 hbox hb; have n0_ := Aside0.mk (below_step (by repeat (first | (with_reducible first | exact HB.out | apply below_alloc | apply pw_below_drewN | apply below_drew1) | exact HB.out)) hb); have GW_g3 := Aside0.mk ((by rw [hg]; exact below_size (by repeat (first | (with_reducible first | exact HB.out | apply below_alloc | apply pw_below_drewN | apply below_drew1) | exact HB.out))) : w.heap.size ≤ g3); clear HB ; have HB := n0_; clear n0_; have BK_g3 := Aside0.mk hbox; clear hbox hb hg; have hz_g30 : w1.cell? ⟨g3, 0, none⟩ = some (.int .i64 a1_0) := (blk_cell BK_g3.out 0).trans rfl; have hz_g3f0 := blk_frozen BK_g3.out 0; have hz_g31 : w1.cell? ⟨g3, 1, none⟩ = some (.int .i64 a1_1) := (blk_cell BK_g3.out 1).trans rfl; have hz_g3f1 := blk_frozen BK_g3.out 1; have hz_g32 : w1.cell? ⟨g3, 2, none⟩ = some (.slice A1_2 l1_2.length c1_2) := (blk_cell BK_g3.out 2).trans rfl; have hz_g3f2 := blk_frozen BK_g3.out 2) | ((with_reducible refine gate_dst (N := 4) rfl ?_); refine box_event ?hg (N := 4) ?hd (cs := #[.int .i64 0, .int .i64 0, .slice none 0 0]) (t := 29) ?hr ?_; (case hd => rfl); (case hg => rfl); (case hr => first | (go_simp; done) | (go_simp; rfl)); intro g4 hg w2 hbox hb; have n0_ := Aside0.mk (below_step (by repeat (first | (with_reducible first | exact HB.out | apply below_alloc | apply pw_below_drewN | apply below_drew1) | exact HB.out)) hb); have n1_ := Aside0.mk (blk_below (g := g3) (o := .cells #[.int .i64 a1_0, .int .i64 a1_1, .slice A1_2 l1_2.length c1_2] 29 (0, 0)) (by (with_reducible repeat (first | refine blk_drewN ?_ _ | refine blk_drew ?_ | refine blk_alloc ?_ _)); exact BK_g3.out) hb); have GW_g4 := Aside0.mk ((by rw [hg]; exact below_size (by repeat (first | (with_reducible first | exact HB.out | apply below_alloc | apply pw_below_drewN | apply below_drew1) | exact HB.out))) : w.heap.size ≤ g4); clear HB BK_g3; have HB := n0_; clear n0_; (try clear hz_g30 hz_g3f0 hz_g31 hz_g3f1 hz_g32 hz_g3f2); have BK_g3 := n1_; clear n1_; have BK_g4 := Aside0.mk hbox; clear hbox hb hg; have hz_g30 : w2.cell? ⟨g3, 0, none⟩ = some (.int .i64 a1_0) := (blk_cell BK_g3.out 0).trans rfl; have hz_g3f0 := blk_frozen BK_g3.out 0; have hz_g31 : w2.cell? ⟨g3, 1, none⟩ = some (.int .i64 a1_1) := (blk_cell BK_g3.out 1).trans rfl; have hz_g3f1 := blk_frozen BK_g3.out 1; have hz_g32 : w2.cell? ⟨g3, 2, none⟩ = some (.slice A1_2 l1_2.length c1_2) := (blk_cell BK_g3.out 2).trans rfl; have hz_g3f2 := blk_frozen BK_g3.out 2; have hz_g40 : w2.cell? ⟨g4, 0, none⟩ = some (.int .i64 0) := (blk_cell BK_g4.out 0).trans rfl; have hz_g4f0 := blk_frozen BK_g4.out 0; have hz_g41 : w2.cell? ⟨g4, 1, none⟩ = some (.int .i64 0) := (blk_cell BK_g4.out 1).trans rfl; have hz_g4f1 := blk_frozen BK_g4.out 1; have hz_g42 : w2.cell? ⟨g4, 2, none⟩ = some (.slice none 0 0) := (blk_cell BK_g4.out 2).trans rfl; have hz_g4f2 := blk_frozen BK_g4.out 2) | (go_at_call 49; (with_reducible refine (spec_l02Ok.calls k a0 _ ⟨a1_0, a1_1, l1_2⟩ true _ ?side1 A3.out).mono ?_); (case side1 => exact gate_box (by (with_reducible repeat (first | refine blk_drewN ?_ _ | refine blk_drew ?_ | refine blk_alloc ?_ _)); exact BK_g3.out) (Kd.C_below HR.out (by repeat (first | (with_reducible first | exact HB.out | apply below_alloc | apply pw_below_drewN | apply below_drew1) | exact HB.out))) HC.out); rintro e w' ⟨rfl, ⟨nd, rfl⟩⟩) | (go_at_call 69; (with_reducible refine (spec_l02Tidy.calls k _ ⟨a1_0, a1_1, l1_2⟩ y _ ?sP A4.out).mono ?_); (case sP => exact gate_box (by (with_reducible repeat (first | refine blk_drewN ?_ _ | refine blk_drew ?_ | refine blk_alloc ?_ _)); exact BK_g3.out) (Kd.C_below HR.out (by repeat (first | (with_reducible first | exact HB.out | apply below_alloc | apply pw_below_drewN | apply below_drew1) | exact HB.out))) HC.out); rintro e w6 ⟨v, rfl, hS, hb⟩; have HSv := Aside0.mk (Kd.S_lower (base' := w.heap.size) (Kd.S_mono (Kd.S_bound hS) (ok' := fun k_ => g4 < k_) (fun k_ hk_ => by have h1_ := hk_.2.1; have h2_ := blk_lt (o := .cells #[.int .i64 0, .int .i64 0, .slice none 0 0] 29 (0, 0)) (by (with_reducible repeat (first | refine blk_drewN ?_ _ | refine blk_drew ?_ | refine blk_alloc ?_ _)); exact BK_g4.out); exact Nat.lt_of_lt_of_le h2_ h1_)) (below_size (by repeat (first | (with_reducible first | exact HB.out | apply below_alloc | apply pw_below_drewN | apply below_drew1) | exact HB.out)))); obtain ⟨Av, cv, ev⟩ := Kd.S_slice HSv.out; subst ev; have n2_ := Aside0.mk (blk_below (g := g4) (o := .cells #[.int .i64 0, .int .i64 0, .slice none 0 0] 29 (0, 0)) (by (with_reducible repeat (first | refine blk_drewN ?_ _ | refine blk_drew ?_ | refine blk_alloc ?_ _)); exact BK_g4.out) hb); clear hS BK_g3 BK_g4 hz_g30 hz_g3f0 hz_g31 hz_g3f1 hz_g32 hz_g3f2 hz_g40 hz_g4f0 hz_g41 hz_g4f1 hz_g42 hz_g4f2; have BK_g4 := n2_; clear n2_; have hz_g40 : w6.cell? ⟨g4, 0, none⟩ = some (.int .i64 0) := (blk_cell BK_g4.out 0).trans rfl; have hz_g4f0 := blk_frozen BK_g4.out 0; have hz_g41 : w6.cell? ⟨g4, 1, none⟩ = some (.int .i64 0) := (blk_cell BK_g4.out 1).trans rfl; have hz_g4f1 := blk_frozen BK_g4.out 1; have hz_g42 : w6.cell? ⟨g4, 2, none⟩ = some (.slice none 0 0) := (blk_cell BK_g4.out 2).trans rfl; have hz_g4f2 := blk_frozen BK_g4.out 2; have n0_ := Aside0.mk (below_step (by repeat (first | (with_reducible first | exact HB.out | apply below_alloc | apply pw_below_drewN | apply below_drew1) | exact HB.out)) hb); clear HB hb; have HB := n0_; clear n0_))
    refine bodyPost_ret (results_ct rfl _ _ g4 29 #[.int .i64 y.f0, .int .i64 y.f1, .slice Av y.f2.length cv] (0, 0) _ rfl (by (with_reducible repeat (first | refine blk_drewN ?_ _ | refine blk_drew ?_ | refine blk_alloc ?_ _)); refine blk_put (cs := #[.int .i64 y.f0, .int .i64 y.f1, .slice none 0 0]) ?_ 2 _ rfl; (with_reducible repeat (first | refine blk_drewN ?_ _ | refine blk_drew ?_ | refine blk_alloc ?_ _)); refine blk_put (cs := #[.int .i64 y.f0, .int .i64 0, .slice none 0 0]) ?_ 1 _ rfl; (with_reducible repeat (first | refine blk_drewN ?_ _ | refine blk_drew ?_ | refine blk_alloc ?_ _)); refine blk_put (cs := #[.int .i64 0, .int .i64 0, .slice none 0 0]) ?_ 0 _ rfl; (with_reducible repeat (first | refine blk_drewN ?_ _ | refine blk_drew ?_ | refine blk_alloc ?_ _)); exact BK_g4.out) Try.underlying29 rfl (by kernel_rfl)) rfl ?_
    exact ⟨_, rfl, Kd.S_mono (Kd.S_far (p := ⟨g4, 2, none⟩) (Kd.S_far (p := ⟨g4, 1, none⟩) (Kd.S_far (p := ⟨g4, 0, none⟩) HSv.out (fun k_ hk_ => by have h_ : g4 < k_ := hk_; show k_ ≠ g4; omega) _) (fun k_ hk_ => by have h_ : g4 < k_ := hk_; show k_ ≠ g4; omega) _) (fun k_ hk_ => by have h_ : g4 < k_ := hk_; show k_ ≠ g4; omega) _) (fun _ _ => trivial), (by repeat (first | (with_reducible first | exact HB.out | apply below_alloc | apply pw_below_drewN | apply below_drew1 | refine below_set ?_ GW_g4.out) | exact HB.out))⟩
  · replace c4 := Bool.eq_false_iff.mpr c4
    subst c4
    rw [if_neg (show ¬ (false = true) by decide)] at H
    simp only [Option.some.injEq, Prod.mk.injEq] at H
    obtain ⟨rfl, rfl, rfl, rfl⟩ := H
    go_enter Try.func33, Try.ntmps33
    go_wp2_with (first | ((with_reducible refine gate_dst (N := 3) rfl ?_); refine box_event ?hg (N := 3) ?hd (cs := #[.int .i64 a1_0, .int .i64 a1_1, .slice A1_2 l1_2.length c1_2]) (t := 29) ?hr ?_; (case hd => rfl); (case hg => rfl); (case hr => first | (go_simp; done) | (go_simp; rfl)); intro g3 hg w1 hbox hb; have n0_ := Aside0.mk (below_step (by repeat (first | (with_reducible first | exact HB.out | apply below_alloc | apply pw_below_drewN | apply below_drew1) | exact HB.out)) hb); have GW_g3 := Aside0.mk ((by rw [hg]; exact below_size (by repeat (first | (with_reducible first | exact HB.out | apply below_alloc | apply pw_below_drewN | apply below_drew1) | exact HB.out))) : w.heap.size ≤ g3); clear HB ; have HB := n0_; clear n0_; have BK_g3 := Aside0.mk hbox; clear hbox hb hg; have hz_g30 : w1.cell? ⟨g3, 0, none⟩ = some (.int .i64 a1_0) := (blk_cell BK_g3.out 0).trans rfl; have hz_g3f0 := blk_frozen BK_g3.out 0; have hz_g31 : w1.cell? ⟨g3, 1, none⟩ = some (.int .i64 a1_1) := (blk_cell BK_g3.out 1).trans rfl; have hz_g3f1 := blk_frozen BK_g3.out 1; have hz_g32 : w1.cell? ⟨g3, 2, none⟩ = some (.slice A1_2 l1_2.length c1_2) := (blk_cell BK_g3.out 2).trans rfl; have hz_g3f2 := blk_frozen BK_g3.out 2) | ((with_reducible refine gate_dst (N := 4) rfl ?_); refine box_event ?hg (N := 4) ?hd (cs := #[.int .i64 0, .int .i64 0, .slice none 0 0]) (t := 29) ?hr ?_; (case hd => rfl); (case hg => rfl); (case hr => first | (go_simp; done) | (go_simp; rfl)); intro g4 hg w2 hbox hb; have n0_ := Aside0.mk (below_step (by repeat (first | (with_reducible first | exact HB.out | apply below_alloc | apply pw_below_drewN | apply below_drew1) | exact HB.out)) hb); have n1_ := Aside0.mk (blk_below (g := g3) (o := .cells #[.int .i64 a1_0, .int .i64 a1_1, .slice A1_2 l1_2.length c1_2] 29 (0, 0)) (by (with_reducible repeat (first | refine blk_drewN ?_ _ | refine blk_drew ?_ | refine blk_alloc ?_ _)); exact BK_g3.out) hb); have GW_g4 := Aside0.mk ((by rw [hg]; exact below_size (by repeat (first | (with_reducible first | exact HB.out | apply below_alloc | apply pw_below_drewN | apply below_drew1) | exact HB.out))) : w.heap.size ≤ g4); clear HB BK_g3; have HB := n0_; clear n0_; (try clear hz_g30 hz_g3f0 hz_g31 hz_g3f1 hz_g32 hz_g3f2); have BK_g3 := n1_; clear n1_; have BK_g4 := Aside0.mk hbox; clear hbox hb hg; have hz_g30 : w2.cell? ⟨g3, 0, none⟩ = some (.int .i64 a1_0) := (blk_cell BK_g3.out 0).trans rfl; have hz_g3f0 := blk_frozen BK_g3.out 0; have hz_g31 : w2.cell? ⟨g3, 1, none⟩ = some (.int .i64 a1_1) := (blk_cell BK_g3.out 1).trans rfl; have hz_g3f1 := blk_frozen BK_g3.out 1; have hz_g32 : w2.cell? ⟨g3, 2, none⟩ = some (.slice A1_2 l1_2.length c1_2) := (blk_cell BK_g3.out 2).trans rfl; have hz_g3f2 := blk_frozen BK_g3.out 2; have hz_g40 : w2.cell? ⟨g4, 0, none⟩ = some (.int .i64 0) := (blk_cell BK_g4.out 0).trans rfl; have hz_g4f0 := blk_frozen BK_g4.out 0; have hz_g41 : w2.cell? ⟨g4, 1, none⟩ = some (.int .i64 0) := (blk_cell BK_g4.out 1).trans rfl; have hz_g4f1 := blk_frozen BK_g4.out 1; have hz_g42 : w2.cell? ⟨g4, 2, none⟩ = some (.slice none 0 0) := (blk_cell BK_g4.out 2).trans rfl; have hz_g4f2 := blk_frozen BK_g4.out 2) | (go_at_call 49; (with_reducible refine (spec_l02Ok.calls k a0 _ ⟨a1_0, a1_1, l1_2⟩ false _ ?side1 A3.out).mono ?_); (case side1 => exact gate_box (by (with_reducible repeat (first | refine blk_drewN ?_ _ | refine blk_drew ?_ | refine blk_alloc ?_ _)); exact BK_g3.out) (Kd.C_below HR.out (by repeat (first | (with_reducible first | exact HB.out | apply below_alloc | apply pw_below_drewN | apply below_drew1) | exact HB.out))) HC.out); rintro e w' ⟨rfl, ⟨nd, rfl⟩⟩))
    refine bodyPost_ret (results_ct rfl _ _ g4 29 #[.int .i64 0, .int .i64 0, .slice none 0 0] (0, 0) _ rfl (by (with_reducible repeat (first | refine blk_drewN ?_ _ | refine blk_drew ?_ | refine blk_alloc ?_ _)); refine blk_put (cs := #[.int .i64 0, .int .i64 0, .slice none 0 0]) ?_ 2 _ rfl; (with_reducible repeat (first | refine blk_drewN ?_ _ | refine blk_drew ?_ | refine blk_alloc ?_ _)); refine blk_put (cs := #[.int .i64 0, .int .i64 0, .slice none 0 0]) ?_ 1 _ rfl; (with_reducible repeat (first | refine blk_drewN ?_ _ | refine blk_drew ?_ | refine blk_alloc ?_ _)); refine blk_put (cs := #[.int .i64 0, .int .i64 0, .slice none 0 0]) ?_ 0 _ rfl; (with_reducible repeat (first | refine blk_drewN ?_ _ | refine blk_drew ?_ | refine blk_alloc ?_ _)); exact BK_g4.out) Try.underlying29 rfl (by kernel_rfl)) rfl ?_
    exact ⟨_, rfl, Kd.S_nil _ _ _ _ _, (by repeat (first | (with_reducible first | exact HB.out | apply below_alloc | apply pw_below_drewN | apply below_drew1 | refine below_set ?_ GW_g4.out) | exact HB.out))⟩

end Go.Proofs.Ytjnobnmjhpmpfaa.P
