/- For all arguments the program's GateText and the reference's answer alike, and the argument stays. This text: the theorem of the row, and part 2 of what it rests on. -/
import Derived.Test.YtijmdlhcidjpmaaDoorCFnExactGateTexta
import Derived.Below
import Derived.Carry
import Derived.ChangeArms
import Derived.ChangeOld
import Derived.Deep.Slices
import Derived.LaidMore
import Derived.OpenShut
import Derived.ProofKit
import Derived.SevenTiedAt
import Derived.ShutString
import Derived.SizedLaws
import Derived.Stop.Joined
import Derived.Test.YtijmdlhcidjpmaaDoorCards
import Derived.Test.YtijmdlhcidjpmaaDoorRows
import Derived.Test.YtijmdlhcidjpmaaDoorTie
import Derived.WalkKit
import Derived.WideShapes
namespace Go.Proofs.YtijmdlhcidjpmaaDoor.P
open Go.RowKit Go.Proofs.YtijmdlhcidjpmaaDoorW.PrintWords Go.Proofs.YtijmdlhcidjpmaaDoorW.PrintLast Go.Proofs.YtijmdlhcidjpmaaDoorW.PrintMore
attribute [local go_sem] max2_int min2_int max_two min_two max_three min_three max_four min_four
set_option linter.unusedVariables false
set_option linter.unusedSimpArgs false

/-! ### laws_eqGateS: function 54 -/
mutual
def laws_eqGateS.l0 : Nat → List (S46) → List (S46) → Int → Option (Bool)
  | 0, _, _, _ => none
  | k + 1, x0, x1, x5 => if x5 < (x0.length : Int) then (if 0 ≤ x5 then (if x5 < (x1.length : Int) then ((laws_eqGate.f k ((rd_T46 x0 x5).f0) ((rd_T46 x0 x5).f1) ((rd_T46 x0 x5).f2) ((rd_T46 x1 x5).f0) ((rd_T46 x1 x5).f1) ((rd_T46 x1 x5).f2)).bind fun t292 => (if t292 = true then (laws_eqGateS.l0 k x0 x1 (wrap64 (x5 + 1))) else (some false))) else (none)) else (none)) else (some true)
def laws_eqGateS.f : Nat → List (S46) → List (S46) → Option (Bool)
  | 0, _, _ => none
  | k + 1, l0, l1 => if (l0.length : Int) = (l1.length : Int) then (laws_eqGateS.l0 k l0 l1 0) else (some false)
def laws_eqGate.f : Nat → Int → Int → (List (S46)) → Int → Int → (List (S46)) → Option (Bool)
  | 0, _, _, _, _, _, _ => none
  | k + 1, a0_0, a0_1, l0_2, a1_0, a1_1, l1_2 => if a0_0 = a1_0 then (if a0_1 = a1_1 then ((laws_eqGateS.f k l0_2 l1_2).bind fun t289 => (if t289 = true then (some true) else (some false))) else (some false)) else (some false)
end
def laws_eqGateS.T6 : Bool × List (List Nat × List Nat) := (true, [([], []), ([], []), ([0, 1], [0, 1]), ([2], [2]), ([], []), ([], []), ([4, 5], [4, 5]), ([6], [6]), ([3, 7], [3, 7]), ([8], [8])])
def laws_eqGateS.B6 : List Nat := [0, 0, 3, 7, 0, 0, 48, 112, 255, 511]
theorem laws_eqGateS.tab6 : rtab .any (opsOf Tryd.f54 6) = laws_eqGateS.T6 := by kernel_rfl
theorem laws_eqGateS.bits6 : waitsOk laws_eqGateS.T6.2 laws_eqGateS.B6 = true := by kernel_rfl
set_option maxHeartbeats 8000000 in
set_option maxRecDepth 100000 in
theorem laws_eqGate.calls_of (k : Nat) (IH : ∀ (A0 : Option Addr) (c0 : Nat) (l0 : List (S46)) (A1 : Option Addr) (c1 : Nat) (l1 : List (S46)) (r : Bool) (w : World) (hr0 : Kd.C k46 w A0 l0.length l0) (hc0 : l0.length ≤ c0) (hr1 : Kd.C k46 w A1 l1.length l1) (hc1 : l1.length ≤ c1) (h : laws_eqGateS.f k l0 l1 = some r), Calls Tryd.prog 54 #[.slice A0 l0.length c0, .slice A1 l1.length c1] w fun e w' => e = .returned (.bool r) ∧ Below w.heap.size w w') (a0_0 : Int) (a0_1 : Int) (A0_2 : Option Addr) (c0_2 : Nat) (l0_2 : List (S46)) (a1_0 : Int) (a1_1 : Int) (A1_2 : Option Addr) (c1_2 : Nat) (l1_2 : List (S46)) (r : Bool) (w : World) (hr0_2 : Kd.C k46 w A0_2 l0_2.length l0_2) (hc0_2 : l0_2.length ≤ c0_2) (hr1_2 : Kd.C k46 w A1_2 l1_2.length l1_2) (hc1_2 : l1_2.length ≤ c1_2) (h : laws_eqGate.f (k + 1) a0_0 a0_1 l0_2 a1_0 a1_1 l1_2 = some r) :
    Calls Tryd.prog 23 #[.agg #[.int .i64 a0_0, .int .i64 a0_1, .slice A0_2 l0_2.length c0_2], .agg #[.int .i64 a1_0, .int .i64 a1_1, .slice A1_2 l1_2.length c1_2]] w fun e w' => e = .returned (.bool r) ∧ Below w.heap.size w w' := by
  simp only [laws_eqGate.f] at h
  have hu46 := Tryd.underlying46
  have HR0_2 := Aside0.mk hr0_2
  have HC0_2 := Aside0.mk hc0_2
  clear hr0_2 hc0_2
  have HR1_2 := Aside0.mk hr1_2
  have HC1_2 := Aside0.mk hc1_2
  clear hr1_2 hc1_2
  have HB := Aside0.mk (Below.refl w.heap.size w)
  have H : (if a0_0 = a1_0 then (if a0_1 = a1_1 then ((laws_eqGateS.f k l0_2 l1_2).bind fun t289 => (if t289 = true then (some true) else (some false))) else (some false)) else (some false)) = some r := h
  clear h
  by_cases c3 : a0_0 = a1_0
  · rw [if_pos c3] at H
    have c3b0 : (a0_0 == a1_0) = true := beq_iff_eq.mpr c3
    have c3b1 : (a0_0 != a1_0) = false := bne_eq_false_iff_eq.mpr c3
    clear c3
    by_cases c4 : a0_1 = a1_1
    · rw [if_pos c4] at H
      have c4b0 : (a0_1 == a1_1) = true := beq_iff_eq.mpr c4
      have c4b1 : (a0_1 != a1_1) = false := bne_eq_false_iff_eq.mpr c4
      clear c4
      replace H := Option.bind_eq_some_iff.mp H
      obtain ⟨t289, A50, H⟩ := H
      replace H : (if t289 = true then (some true) else (some false)) = some r := H
      have A5 := Aside0.mk A50
      clear A50
      by_cases c6 : t289 = true
      · subst c6
        have H1 : (some true) = some r := by rw [if_pos rfl] at H; exact H
        clear H
        have H := H1
        clear H1
        obtain rfl := Option.some.inj H
        go_enter Tryd.func23, Tryd.ntmps23
        go_wp2_with (first | ((with_reducible refine gate_dst (N := 2) rfl ?_); refine box_event ?hg (N := 2) ?hd (cs := #[.int .i64 a0_0, .int .i64 a0_1, .slice A0_2 l0_2.length c0_2]) (t := 46) ?hr ?_; (case hd => rfl); (case hg => rfl); (case hr => first | (go_simp; done) | (go_simp; rfl)); intro gb287 hg w7 hbox hb; have n0_ := Aside0.mk (below_step (by repeat (first | (with_reducible first | exact HB.out | apply below_alloc | apply pw_below_drewN | apply below_drew1) | exact HB.out)) hb); have n1_ := Aside0.mk (hbox); have n2_ := Aside0.mk ((by rw [hg]; exact (below_size (by repeat (first | (with_reducible first | exact HB.out | apply below_alloc | apply pw_below_drewN | apply below_drew1) | exact HB.out))) : w.heap.size ≤ gb287)); have n3_ := Aside0.mk ((by rw [hg]; exact (below_size (by repeat (first | (with_reducible first | exact HB.out | apply below_alloc | apply pw_below_drewN | apply below_drew1) | exact HB.out))) : w.heap.size ≤ gb287)); clear HB; have HB := n0_; have BK287 := n1_; have GW287 := n2_; have GE287 := n3_; clear n0_ n1_ n2_ n3_; clear hb hbox hg) | ((with_reducible refine gate_dst (N := 3) rfl ?_); refine box_event ?hg (N := 3) ?hd (cs := #[.int .i64 a1_0, .int .i64 a1_1, .slice A1_2 l1_2.length c1_2]) (t := 46) ?hr ?_; (case hd => rfl); (case hg => rfl); (case hr => first | (go_simp; done) | (go_simp; rfl)); intro gb288 hg w8 hbox hb; have n0_ := Aside0.mk (blk_below (g := gb287) (o := .cells #[.int .i64 a0_0, .int .i64 a0_1, .slice A0_2 l0_2.length c0_2] 46 (0, 0)) (by (with_reducible repeat (first | refine blk_drewN ?_ _ | refine blk_drew ?_ | refine blk_alloc ?_ _)); exact BK287.out) hb); have n1_ := Aside0.mk (below_step (by repeat (first | (with_reducible first | exact HB.out | apply below_alloc | apply pw_below_drewN | apply below_drew1 | refine below_set ?_ GE287.out) | exact HB.out)) hb); have n2_ := Aside0.mk (hbox); have n3_ := Aside0.mk ((by rw [hg]; exact (below_size (by repeat (first | (with_reducible first | exact HB.out | apply below_alloc | apply pw_below_drewN | apply below_drew1 | refine below_set ?_ GE287.out) | exact HB.out))) : w.heap.size ≤ gb288)); have n4_ := Aside0.mk ((by rw [hg]; exact (below_size (by repeat (first | (with_reducible first | exact HB.out | apply below_alloc | apply pw_below_drewN | apply below_drew1 | refine below_set ?_ GE287.out) | exact HB.out))) : w.heap.size ≤ gb288)); have n5_ := Aside0.mk ((by rw [hg]; exact Nat.ne_of_lt (blk_lt (g := gb287) (o := .cells #[.int .i64 a0_0, .int .i64 a0_1, .slice A0_2 l0_2.length c0_2] 46 (0, 0)) (by (with_reducible repeat (first | refine blk_drewN ?_ _ | refine blk_drew ?_ | refine blk_alloc ?_ _)); exact BK287.out)) : gb287 ≠ gb288)); have n6_ := Aside0.mk ((by rw [hg]; exact Nat.ne_of_gt (blk_lt (g := gb287) (o := .cells #[.int .i64 a0_0, .int .i64 a0_1, .slice A0_2 l0_2.length c0_2] 46 (0, 0)) (by (with_reducible repeat (first | refine blk_drewN ?_ _ | refine blk_drew ?_ | refine blk_alloc ?_ _)); exact BK287.out)) : gb288 ≠ gb287)); clear BK287; clear HB; have BK287 := n0_; have HB := n1_; have BK288 := n2_; have GW288 := n3_; have GE288 := n4_; have NB287_288 := n5_; have NB288_287 := n6_; clear n0_ n1_ n2_ n3_ n4_ n5_ n6_; clear hb hbox hg; have hnb9 := NB287_288.out; have hnc9 := NB288_287.out; have hcz10_0 : w8.cell? ⟨gb287, 0, none⟩ = some (.int .i64 a0_0) := (blk_cell BK287.out 0).trans rfl; have hcz10_1 : w8.cell? ⟨gb287, 1, none⟩ = some (.int .i64 a0_1) := (blk_cell BK287.out 1).trans rfl; have hcz10_2 : w8.cell? ⟨gb287, 2, none⟩ = some (.slice A0_2 l0_2.length c0_2) := (blk_cell BK287.out 2).trans rfl; have hfz10_0 := blk_frozen BK287.out 0; have hfz10_1 := blk_frozen BK287.out 1; have hfz10_2 := blk_frozen BK287.out 2; have hcz11_0 : w8.cell? ⟨gb288, 0, none⟩ = some (.int .i64 a1_0) := (blk_cell BK288.out 0).trans rfl; have hcz11_1 : w8.cell? ⟨gb288, 1, none⟩ = some (.int .i64 a1_1) := (blk_cell BK288.out 1).trans rfl; have hcz11_2 : w8.cell? ⟨gb288, 2, none⟩ = some (.slice A1_2 l1_2.length c1_2) := (blk_cell BK288.out 2).trans rfl; have hfz11_0 := blk_frozen BK288.out 0; have hfz11_1 := blk_frozen BK288.out 1; have hfz11_2 := blk_frozen BK288.out 2) | ((with_reducible refine gate_callee (f := 54) rfl ?_); refine goesL_ (some 19) rfl rfl Tryd.func54 (by kernel_rfl) rfl #[.slice A0_2 l0_2.length c0_2, .slice A1_2 l1_2.length c1_2] rfl (by (try simp only [List.map_toArray, List.map_cons, List.map_nil]); first | done | rfl | (simp only [List.length_drop, List.length_take]; rfl)) ?_; (with_reducible refine (IH _ _ l0_2 _ _ l1_2 true _ ?side1 ?side2 ?side3 ?side4 A5.out).mono ?_); (case side1 => repeat (first | exact (Kd.C_below HR0_2.out HB.out) | (with_reducible refine Kd.C_alloc ?_ _) | (with_reducible refine Kd.C_drewN ?_ _) | (with_reducible refine Kd.C_drew ?_))); (case side2 => exact HC0_2.out); (case side3 => repeat (first | exact (Kd.C_below HR1_2.out HB.out) | (with_reducible refine Kd.C_alloc ?_ _) | (with_reducible refine Kd.C_drewN ?_ _) | (with_reducible refine Kd.C_drew ?_))); (case side4 => exact HC1_2.out); rintro e w12 ⟨rfl, hb⟩; refine ⟨_, rfl, ?_⟩; have n0_ := Aside0.mk (blk_below (g := gb287) (o := .cells #[.int .i64 a0_0, .int .i64 a0_1, .slice A0_2 l0_2.length c0_2] 46 (0, 0)) (by (with_reducible repeat (first | refine blk_drewN ?_ _ | refine blk_drew ?_ | refine blk_alloc ?_ _)); exact BK287.out) hb); have n1_ := Aside0.mk (blk_below (g := gb288) (o := .cells #[.int .i64 a1_0, .int .i64 a1_1, .slice A1_2 l1_2.length c1_2] 46 (0, 0)) (by (with_reducible repeat (first | refine blk_drewN ?_ _ | refine blk_drew ?_ | refine blk_alloc ?_ _)); exact BK288.out) hb); have n2_ := Aside0.mk (below_step (by repeat (first | (with_reducible first | exact HB.out | apply below_alloc | apply pw_below_drewN | apply below_drew1 | refine below_set ?_ GE287.out | refine below_set ?_ GE288.out) | exact HB.out)) hb); clear BK287; clear BK288; clear HB; have BK287 := n0_; have BK288 := n1_; have HB := n2_; clear n0_ n1_ n2_; (try clear hb); (try clear hb2); (try clear hk); (try clear hi)))
        go_ret
        exact ⟨by first | rfl | (simp [errW_none, errW_some] <;> rfl) | (simp [*, errW_none, errW_some] <;> rfl), by repeat (first | (with_reducible first | exact HB.out | apply below_alloc | apply pw_below_drewN | apply below_drew1 | refine below_set ?_ GE287.out | refine below_set ?_ GE288.out) | exact HB.out)⟩
      · replace c6 := Bool.eq_false_iff.mpr c6
        subst c6
        have H1 : (some false) = some r := by rw [if_neg (show ¬ (false = true) by decide)] at H; exact H
        clear H
        have H := H1
        clear H1
        obtain rfl := Option.some.inj H
        go_enter Tryd.func23, Tryd.ntmps23
        go_wp2_with (first | ((with_reducible refine gate_dst (N := 2) rfl ?_); refine box_event ?hg (N := 2) ?hd (cs := #[.int .i64 a0_0, .int .i64 a0_1, .slice A0_2 l0_2.length c0_2]) (t := 46) ?hr ?_; (case hd => rfl); (case hg => rfl); (case hr => first | (go_simp; done) | (go_simp; rfl)); intro gb287 hg w13 hbox hb; have n0_ := Aside0.mk (below_step (by repeat (first | (with_reducible first | exact HB.out | apply below_alloc | apply pw_below_drewN | apply below_drew1) | exact HB.out)) hb); have n1_ := Aside0.mk (hbox); have n2_ := Aside0.mk ((by rw [hg]; exact (below_size (by repeat (first | (with_reducible first | exact HB.out | apply below_alloc | apply pw_below_drewN | apply below_drew1) | exact HB.out))) : w.heap.size ≤ gb287)); have n3_ := Aside0.mk ((by rw [hg]; exact (below_size (by repeat (first | (with_reducible first | exact HB.out | apply below_alloc | apply pw_below_drewN | apply below_drew1) | exact HB.out))) : w.heap.size ≤ gb287)); clear HB; have HB := n0_; have BK287 := n1_; have GW287 := n2_; have GE287 := n3_; clear n0_ n1_ n2_ n3_; clear hb hbox hg) | ((with_reducible refine gate_dst (N := 3) rfl ?_); refine box_event ?hg (N := 3) ?hd (cs := #[.int .i64 a1_0, .int .i64 a1_1, .slice A1_2 l1_2.length c1_2]) (t := 46) ?hr ?_; (case hd => rfl); (case hg => rfl); (case hr => first | (go_simp; done) | (go_simp; rfl)); intro gb288 hg w14 hbox hb; have n0_ := Aside0.mk (blk_below (g := gb287) (o := .cells #[.int .i64 a0_0, .int .i64 a0_1, .slice A0_2 l0_2.length c0_2] 46 (0, 0)) (by (with_reducible repeat (first | refine blk_drewN ?_ _ | refine blk_drew ?_ | refine blk_alloc ?_ _)); exact BK287.out) hb); have n1_ := Aside0.mk (below_step (by repeat (first | (with_reducible first | exact HB.out | apply below_alloc | apply pw_below_drewN | apply below_drew1 | refine below_set ?_ GE287.out) | exact HB.out)) hb); have n2_ := Aside0.mk (hbox); have n3_ := Aside0.mk ((by rw [hg]; exact (below_size (by repeat (first | (with_reducible first | exact HB.out | apply below_alloc | apply pw_below_drewN | apply below_drew1 | refine below_set ?_ GE287.out) | exact HB.out))) : w.heap.size ≤ gb288)); have n4_ := Aside0.mk ((by rw [hg]; exact (below_size (by repeat (first | (with_reducible first | exact HB.out | apply below_alloc | apply pw_below_drewN | apply below_drew1 | refine below_set ?_ GE287.out) | exact HB.out))) : w.heap.size ≤ gb288)); have n5_ := Aside0.mk ((by rw [hg]; exact Nat.ne_of_lt (blk_lt (g := gb287) (o := .cells #[.int .i64 a0_0, .int .i64 a0_1, .slice A0_2 l0_2.length c0_2] 46 (0, 0)) (by (with_reducible repeat (first | refine blk_drewN ?_ _ | refine blk_drew ?_ | refine blk_alloc ?_ _)); exact BK287.out)) : gb287 ≠ gb288)); have n6_ := Aside0.mk ((by rw [hg]; exact Nat.ne_of_gt (blk_lt (g := gb287) (o := .cells #[.int .i64 a0_0, .int .i64 a0_1, .slice A0_2 l0_2.length c0_2] 46 (0, 0)) (by (with_reducible repeat (first | refine blk_drewN ?_ _ | refine blk_drew ?_ | refine blk_alloc ?_ _)); exact BK287.out)) : gb288 ≠ gb287)); clear BK287; clear HB; have BK287 := n0_; have HB := n1_; have BK288 := n2_; have GW288 := n3_; have GE288 := n4_; have NB287_288 := n5_; have NB288_287 := n6_; clear n0_ n1_ n2_ n3_ n4_ n5_ n6_; clear hb hbox hg; have hnb15 := NB287_288.out; have hnc15 := NB288_287.out; have hcz16_0 : w14.cell? ⟨gb287, 0, none⟩ = some (.int .i64 a0_0) := (blk_cell BK287.out 0).trans rfl; have hcz16_1 : w14.cell? ⟨gb287, 1, none⟩ = some (.int .i64 a0_1) := (blk_cell BK287.out 1).trans rfl; have hcz16_2 : w14.cell? ⟨gb287, 2, none⟩ = some (.slice A0_2 l0_2.length c0_2) := (blk_cell BK287.out 2).trans rfl; have hfz16_0 := blk_frozen BK287.out 0; have hfz16_1 := blk_frozen BK287.out 1; have hfz16_2 := blk_frozen BK287.out 2; have hcz17_0 : w14.cell? ⟨gb288, 0, none⟩ = some (.int .i64 a1_0) := (blk_cell BK288.out 0).trans rfl; have hcz17_1 : w14.cell? ⟨gb288, 1, none⟩ = some (.int .i64 a1_1) := (blk_cell BK288.out 1).trans rfl; have hcz17_2 : w14.cell? ⟨gb288, 2, none⟩ = some (.slice A1_2 l1_2.length c1_2) := (blk_cell BK288.out 2).trans rfl; have hfz17_0 := blk_frozen BK288.out 0; have hfz17_1 := blk_frozen BK288.out 1; have hfz17_2 := blk_frozen BK288.out 2) | ((with_reducible refine gate_callee (f := 54) rfl ?_); refine goesL_ (some 19) rfl rfl Tryd.func54 (by kernel_rfl) rfl #[.slice A0_2 l0_2.length c0_2, .slice A1_2 l1_2.length c1_2] rfl (by (try simp only [List.map_toArray, List.map_cons, List.map_nil]); first | done | rfl | (simp only [List.length_drop, List.length_take]; rfl)) ?_; (with_reducible refine (IH _ _ l0_2 _ _ l1_2 false _ ?side1 ?side2 ?side3 ?side4 A5.out).mono ?_); (case side1 => repeat (first | exact (Kd.C_below HR0_2.out HB.out) | (with_reducible refine Kd.C_alloc ?_ _) | (with_reducible refine Kd.C_drewN ?_ _) | (with_reducible refine Kd.C_drew ?_))); (case side2 => exact HC0_2.out); (case side3 => repeat (first | exact (Kd.C_below HR1_2.out HB.out) | (with_reducible refine Kd.C_alloc ?_ _) | (with_reducible refine Kd.C_drewN ?_ _) | (with_reducible refine Kd.C_drew ?_))); (case side4 => exact HC1_2.out); rintro e w18 ⟨rfl, hb⟩; refine ⟨_, rfl, ?_⟩; have n0_ := Aside0.mk (blk_below (g := gb287) (o := .cells #[.int .i64 a0_0, .int .i64 a0_1, .slice A0_2 l0_2.length c0_2] 46 (0, 0)) (by (with_reducible repeat (first | refine blk_drewN ?_ _ | refine blk_drew ?_ | refine blk_alloc ?_ _)); exact BK287.out) hb); have n1_ := Aside0.mk (blk_below (g := gb288) (o := .cells #[.int .i64 a1_0, .int .i64 a1_1, .slice A1_2 l1_2.length c1_2] 46 (0, 0)) (by (with_reducible repeat (first | refine blk_drewN ?_ _ | refine blk_drew ?_ | refine blk_alloc ?_ _)); exact BK288.out) hb); have n2_ := Aside0.mk (below_step (by repeat (first | (with_reducible first | exact HB.out | apply below_alloc | apply pw_below_drewN | apply below_drew1 | refine below_set ?_ GE287.out | refine below_set ?_ GE288.out) | exact HB.out)) hb); clear BK287; clear BK288; clear HB; have BK287 := n0_; have BK288 := n1_; have HB := n2_; clear n0_ n1_ n2_; (try clear hb); (try clear hb2); (try clear hk); (try clear hi)))
        go_ret
        exact ⟨by first | rfl | (simp [errW_none, errW_some] <;> rfl) | (simp [*, errW_none, errW_some] <;> rfl), by repeat (first | (with_reducible first | exact HB.out | apply below_alloc | apply pw_below_drewN | apply below_drew1 | refine below_set ?_ GE287.out | refine below_set ?_ GE288.out) | exact HB.out)⟩
    · rw [if_neg c4] at H
      have c4b0 : (a0_1 == a1_1) = false := beq_eq_false_iff_ne.mpr c4
      have c4b1 : (a0_1 != a1_1) = true := bne_iff_ne.mpr c4
      obtain rfl := Option.some.inj H
      go_enter Tryd.func23, Tryd.ntmps23
      go_wp2_with (first | ((with_reducible refine gate_dst (N := 2) rfl ?_); refine box_event ?hg (N := 2) ?hd (cs := #[.int .i64 a0_0, .int .i64 a0_1, .slice A0_2 l0_2.length c0_2]) (t := 46) ?hr ?_; (case hd => rfl); (case hg => rfl); (case hr => first | (go_simp; done) | (go_simp; rfl)); intro gb287 hg w19 hbox hb; have n0_ := Aside0.mk (below_step (by repeat (first | (with_reducible first | exact HB.out | apply below_alloc | apply pw_below_drewN | apply below_drew1) | exact HB.out)) hb); have n1_ := Aside0.mk (hbox); have n2_ := Aside0.mk ((by rw [hg]; exact (below_size (by repeat (first | (with_reducible first | exact HB.out | apply below_alloc | apply pw_below_drewN | apply below_drew1) | exact HB.out))) : w.heap.size ≤ gb287)); have n3_ := Aside0.mk ((by rw [hg]; exact (below_size (by repeat (first | (with_reducible first | exact HB.out | apply below_alloc | apply pw_below_drewN | apply below_drew1) | exact HB.out))) : w.heap.size ≤ gb287)); clear HB; have HB := n0_; have BK287 := n1_; have GW287 := n2_; have GE287 := n3_; clear n0_ n1_ n2_ n3_; clear hb hbox hg) | ((with_reducible refine gate_dst (N := 3) rfl ?_); refine box_event ?hg (N := 3) ?hd (cs := #[.int .i64 a1_0, .int .i64 a1_1, .slice A1_2 l1_2.length c1_2]) (t := 46) ?hr ?_; (case hd => rfl); (case hg => rfl); (case hr => first | (go_simp; done) | (go_simp; rfl)); intro gb288 hg w20 hbox hb; have n0_ := Aside0.mk (blk_below (g := gb287) (o := .cells #[.int .i64 a0_0, .int .i64 a0_1, .slice A0_2 l0_2.length c0_2] 46 (0, 0)) (by (with_reducible repeat (first | refine blk_drewN ?_ _ | refine blk_drew ?_ | refine blk_alloc ?_ _)); exact BK287.out) hb); have n1_ := Aside0.mk (below_step (by repeat (first | (with_reducible first | exact HB.out | apply below_alloc | apply pw_below_drewN | apply below_drew1 | refine below_set ?_ GE287.out) | exact HB.out)) hb); have n2_ := Aside0.mk (hbox); have n3_ := Aside0.mk ((by rw [hg]; exact (below_size (by repeat (first | (with_reducible first | exact HB.out | apply below_alloc | apply pw_below_drewN | apply below_drew1 | refine below_set ?_ GE287.out) | exact HB.out))) : w.heap.size ≤ gb288)); have n4_ := Aside0.mk ((by rw [hg]; exact (below_size (by repeat (first | (with_reducible first | exact HB.out | apply below_alloc | apply pw_below_drewN | apply below_drew1 | refine below_set ?_ GE287.out) | exact HB.out))) : w.heap.size ≤ gb288)); have n5_ := Aside0.mk ((by rw [hg]; exact Nat.ne_of_lt (blk_lt (g := gb287) (o := .cells #[.int .i64 a0_0, .int .i64 a0_1, .slice A0_2 l0_2.length c0_2] 46 (0, 0)) (by (with_reducible repeat (first | refine blk_drewN ?_ _ | refine blk_drew ?_ | refine blk_alloc ?_ _)); exact BK287.out)) : gb287 ≠ gb288)); have n6_ := Aside0.mk ((by rw [hg]; exact Nat.ne_of_gt (blk_lt (g := gb287) (o := .cells #[.int .i64 a0_0, .int .i64 a0_1, .slice A0_2 l0_2.length c0_2] 46 (0, 0)) (by (with_reducible repeat (first | refine blk_drewN ?_ _ | refine blk_drew ?_ | refine blk_alloc ?_ _)); exact BK287.out)) : gb288 ≠ gb287)); clear BK287; clear HB; have BK287 := n0_; have HB := n1_; have BK288 := n2_; have GW288 := n3_; have GE288 := n4_; have NB287_288 := n5_; have NB288_287 := n6_; clear n0_ n1_ n2_ n3_ n4_ n5_ n6_; clear hb hbox hg; have hnb21 := NB287_288.out; have hnc21 := NB288_287.out; have hcz22_0 : w20.cell? ⟨gb287, 0, none⟩ = some (.int .i64 a0_0) := (blk_cell BK287.out 0).trans rfl; have hcz22_1 : w20.cell? ⟨gb287, 1, none⟩ = some (.int .i64 a0_1) := (blk_cell BK287.out 1).trans rfl; have hcz22_2 : w20.cell? ⟨gb287, 2, none⟩ = some (.slice A0_2 l0_2.length c0_2) := (blk_cell BK287.out 2).trans rfl; have hfz22_0 := blk_frozen BK287.out 0; have hfz22_1 := blk_frozen BK287.out 1; have hfz22_2 := blk_frozen BK287.out 2; have hcz23_0 : w20.cell? ⟨gb288, 0, none⟩ = some (.int .i64 a1_0) := (blk_cell BK288.out 0).trans rfl; have hcz23_1 : w20.cell? ⟨gb288, 1, none⟩ = some (.int .i64 a1_1) := (blk_cell BK288.out 1).trans rfl; have hcz23_2 : w20.cell? ⟨gb288, 2, none⟩ = some (.slice A1_2 l1_2.length c1_2) := (blk_cell BK288.out 2).trans rfl; have hfz23_0 := blk_frozen BK288.out 0; have hfz23_1 := blk_frozen BK288.out 1; have hfz23_2 := blk_frozen BK288.out 2))
      go_ret
      exact ⟨by first | rfl | (simp [errW_none, errW_some] <;> rfl) | (simp [*, errW_none, errW_some] <;> rfl), by repeat (first | (with_reducible first | exact HB.out | apply below_alloc | apply pw_below_drewN | apply below_drew1 | refine below_set ?_ GE287.out | refine below_set ?_ GE288.out) | exact HB.out)⟩
  · rw [if_neg c3] at H
    have c3b0 : (a0_0 == a1_0) = false := beq_eq_false_iff_ne.mpr c3
    have c3b1 : (a0_0 != a1_0) = true := bne_iff_ne.mpr c3
    obtain rfl := Option.some.inj H
    go_enter Tryd.func23, Tryd.ntmps23
    go_wp2_with (first | ((with_reducible refine gate_dst (N := 2) rfl ?_); refine box_event ?hg (N := 2) ?hd (cs := #[.int .i64 a0_0, .int .i64 a0_1, .slice A0_2 l0_2.length c0_2]) (t := 46) ?hr ?_; (case hd => rfl); (case hg => rfl); (case hr => first | (go_simp; done) | (go_simp; rfl)); intro gb287 hg w24 hbox hb; have n0_ := Aside0.mk (below_step (by repeat (first | (with_reducible first | exact HB.out | apply below_alloc | apply pw_below_drewN | apply below_drew1) | exact HB.out)) hb); have n1_ := Aside0.mk (hbox); have n2_ := Aside0.mk ((by rw [hg]; exact (below_size (by repeat (first | (with_reducible first | exact HB.out | apply below_alloc | apply pw_below_drewN | apply below_drew1) | exact HB.out))) : w.heap.size ≤ gb287)); have n3_ := Aside0.mk ((by rw [hg]; exact (below_size (by repeat (first | (with_reducible first | exact HB.out | apply below_alloc | apply pw_below_drewN | apply below_drew1) | exact HB.out))) : w.heap.size ≤ gb287)); clear HB; have HB := n0_; have BK287 := n1_; have GW287 := n2_; have GE287 := n3_; clear n0_ n1_ n2_ n3_; clear hb hbox hg) | ((with_reducible refine gate_dst (N := 3) rfl ?_); refine box_event ?hg (N := 3) ?hd (cs := #[.int .i64 a1_0, .int .i64 a1_1, .slice A1_2 l1_2.length c1_2]) (t := 46) ?hr ?_; (case hd => rfl); (case hg => rfl); (case hr => first | (go_simp; done) | (go_simp; rfl)); intro gb288 hg w25 hbox hb; have n0_ := Aside0.mk (blk_below (g := gb287) (o := .cells #[.int .i64 a0_0, .int .i64 a0_1, .slice A0_2 l0_2.length c0_2] 46 (0, 0)) (by (with_reducible repeat (first | refine blk_drewN ?_ _ | refine blk_drew ?_ | refine blk_alloc ?_ _)); exact BK287.out) hb); have n1_ := Aside0.mk (below_step (by repeat (first | (with_reducible first | exact HB.out | apply below_alloc | apply pw_below_drewN | apply below_drew1 | refine below_set ?_ GE287.out) | exact HB.out)) hb); have n2_ := Aside0.mk (hbox); have n3_ := Aside0.mk ((by rw [hg]; exact (below_size (by repeat (first | (with_reducible first | exact HB.out | apply below_alloc | apply pw_below_drewN | apply below_drew1 | refine below_set ?_ GE287.out) | exact HB.out))) : w.heap.size ≤ gb288)); have n4_ := Aside0.mk ((by rw [hg]; exact (below_size (by repeat (first | (with_reducible first | exact HB.out | apply below_alloc | apply pw_below_drewN | apply below_drew1 | refine below_set ?_ GE287.out) | exact HB.out))) : w.heap.size ≤ gb288)); have n5_ := Aside0.mk ((by rw [hg]; exact Nat.ne_of_lt (blk_lt (g := gb287) (o := .cells #[.int .i64 a0_0, .int .i64 a0_1, .slice A0_2 l0_2.length c0_2] 46 (0, 0)) (by (with_reducible repeat (first | refine blk_drewN ?_ _ | refine blk_drew ?_ | refine blk_alloc ?_ _)); exact BK287.out)) : gb287 ≠ gb288)); have n6_ := Aside0.mk ((by rw [hg]; exact Nat.ne_of_gt (blk_lt (g := gb287) (o := .cells #[.int .i64 a0_0, .int .i64 a0_1, .slice A0_2 l0_2.length c0_2] 46 (0, 0)) (by (with_reducible repeat (first | refine blk_drewN ?_ _ | refine blk_drew ?_ | refine blk_alloc ?_ _)); exact BK287.out)) : gb288 ≠ gb287)); clear BK287; clear HB; have BK287 := n0_; have HB := n1_; have BK288 := n2_; have GW288 := n3_; have GE288 := n4_; have NB287_288 := n5_; have NB288_287 := n6_; clear n0_ n1_ n2_ n3_ n4_ n5_ n6_; clear hb hbox hg; have hnb26 := NB287_288.out; have hnc26 := NB288_287.out; have hcz27_0 : w25.cell? ⟨gb287, 0, none⟩ = some (.int .i64 a0_0) := (blk_cell BK287.out 0).trans rfl; have hcz27_1 : w25.cell? ⟨gb287, 1, none⟩ = some (.int .i64 a0_1) := (blk_cell BK287.out 1).trans rfl; have hcz27_2 : w25.cell? ⟨gb287, 2, none⟩ = some (.slice A0_2 l0_2.length c0_2) := (blk_cell BK287.out 2).trans rfl; have hfz27_0 := blk_frozen BK287.out 0; have hfz27_1 := blk_frozen BK287.out 1; have hfz27_2 := blk_frozen BK287.out 2; have hcz28_0 : w25.cell? ⟨gb288, 0, none⟩ = some (.int .i64 a1_0) := (blk_cell BK288.out 0).trans rfl; have hcz28_1 : w25.cell? ⟨gb288, 1, none⟩ = some (.int .i64 a1_1) := (blk_cell BK288.out 1).trans rfl; have hcz28_2 : w25.cell? ⟨gb288, 2, none⟩ = some (.slice A1_2 l1_2.length c1_2) := (blk_cell BK288.out 2).trans rfl; have hfz28_0 := blk_frozen BK288.out 0; have hfz28_1 := blk_frozen BK288.out 1; have hfz28_2 := blk_frozen BK288.out 2))
    go_ret
    exact ⟨by first | rfl | (simp [errW_none, errW_some] <;> rfl) | (simp [*, errW_none, errW_some] <;> rfl), by repeat (first | (with_reducible first | exact HB.out | apply below_alloc | apply pw_below_drewN | apply below_drew1 | refine below_set ?_ GE287.out | refine below_set ?_ GE288.out) | exact HB.out)⟩
set_option maxHeartbeats 8000000 in
set_option maxRecDepth 100000 in
theorem laws_eqGateS.calls (k : Nat) : ∀ (A0 : Option Addr) (c0 : Nat) (l0 : List (S46)) (A1 : Option Addr) (c1 : Nat) (l1 : List (S46)) (r : Bool) (w : World) (hr0 : Kd.C k46 w A0 l0.length l0) (hc0 : l0.length ≤ c0) (hr1 : Kd.C k46 w A1 l1.length l1) (hc1 : l1.length ≤ c1) (h : laws_eqGateS.f k l0 l1 = some r),
    Calls Tryd.prog 54 #[.slice A0 l0.length c0, .slice A1 l1.length c1] w fun e w' => e = .returned (.bool r) ∧ Below w.heap.size w w' := by
  induction k using Nat.strongRecOn with
  | _ k ih =>
  have ihG : ∀ m, m < k → ∀ (a0_0 : Int) (a0_1 : Int) (A0_2 : Option Addr) (c0_2 : Nat) (l0_2 : List (S46)) (a1_0 : Int) (a1_1 : Int) (A1_2 : Option Addr) (c1_2 : Nat) (l1_2 : List (S46)) (r : Bool) (w : World) (hr0_2 : Kd.C k46 w A0_2 l0_2.length l0_2) (hc0_2 : l0_2.length ≤ c0_2) (hr1_2 : Kd.C k46 w A1_2 l1_2.length l1_2) (hc1_2 : l1_2.length ≤ c1_2) (h : laws_eqGate.f m a0_0 a0_1 l0_2 a1_0 a1_1 l1_2 = some r), Calls Tryd.prog 23 #[.agg #[.int .i64 a0_0, .int .i64 a0_1, .slice A0_2 l0_2.length c0_2], .agg #[.int .i64 a1_0, .int .i64 a1_1, .slice A1_2 l1_2.length c1_2]] w fun e w' => e = .returned (.bool r) ∧ Below w.heap.size w w' := by
    intro m hm
    cases m with
    | zero => intro a0_0 a0_1 A0_2 c0_2 l0_2 a1_0 a1_1 A1_2 c1_2 l1_2 r w hr0_2 hc0_2 hr1_2 hc1_2 h; exact absurd h (by simp [laws_eqGate.f])
    | succ m => exact fun a0_0 a0_1 A0_2 c0_2 l0_2 a1_0 a1_1 A1_2 c1_2 l1_2 r w hr0_2 hc0_2 hr1_2 hc1_2 h => laws_eqGate.calls_of m (ih m (by omega)) a0_0 a0_1 A0_2 c0_2 l0_2 a1_0 a1_1 A1_2 c1_2 l1_2 r w hr0_2 hc0_2 hr1_2 hc1_2 h
  intro A0 c0 l0 A1 c1 l1 r w hr0 hc0 hr1 hc1 h
  cases k with
  | zero => exact absurd h (by simp [laws_eqGateS.f])
  | succ k =>
  simp only [laws_eqGateS.f] at h
  have hu46 := Tryd.underlying46
  have HR0 := Aside0.mk hr0
  have HC0 := Aside0.mk hc0
  clear hr0 hc0
  have HR1 := Aside0.mk hr1
  have HC1 := Aside0.mk hc1
  clear hr1 hc1
  have HB := Aside0.mk (Below.refl w.heap.size w)
  have H : (if (l0.length : Int) = (l1.length : Int) then (laws_eqGateS.l0 k l0 l1 0) else (some false)) = some r := h
  clear h
  by_cases c3 : (l0.length : Int) = (l1.length : Int)
  · rw [if_pos c3] at H
    have c3b0 : ((l0.length : Int) == (l1.length : Int)) = true := beq_iff_eq.mpr c3
    have c3b1 : ((l0.length : Int) != (l1.length : Int)) = false := bne_eq_false_iff_eq.mpr c3
    have c3b2 : (l0.length == l1.length) = true := by first | simpa using c3 | (simp at c3 ⊢; omega)
    clear c3
    have H' := Aside0.mk H
    clear H
    go_enter Tryd.func54, Tryd.ntmps54
    go_wp2
    go_loopg [5] k (fun kq v5 w' => ∃ (x5_1 : Int), v5 = .int .i64 x5_1 ∧ Aside0 (laws_eqGateS.l0 kq l0 l1 x5_1 = some r) ∧ Aside0 (kq ≤ k) ∧ Aside0 (Below w.heap.size w w'))
    case atStart => exact ⟨(0), (by first | rfl | (simp; done) | (simp [*]; done)), H', ⟨Nat.le_refl _⟩, ⟨by repeat (first | (with_reducible first | exact HB.out | apply below_alloc | apply pw_below_drewN | apply below_drew1) | exact HB.out)⟩⟩
    case round =>
      clear H'
      try clear c1
      try clear p2
      try clear c3
      try clear c3b0
      try clear c3b1
      try clear c3b2
      obtain ⟨x5_1, rfl, HA, HK1, HB⟩ := hrel
      cases gk with
      | zero => exact absurd HA.out (by simp [laws_eqGateS.l0])
      | succ k1 =>
        have H := HA.out
        clear HA
        simp only [laws_eqGateS.l0] at H
        by_cases c4 : x5_1 < (l0.length : Int)
        · rw [if_pos c4] at H
          have c4b0 : decide (x5_1 < (l0.length : Int)) = true := decide_eq_true c4
          clear c4
          by_cases c5 : 0 ≤ x5_1
          · rw [if_pos c5] at H
            have c5b0 : decide (0 ≤ x5_1) = true := decide_eq_true c5
            clear c5
            by_cases c6 : x5_1 < (l1.length : Int)
            · rw [if_pos c6] at H
              have c6b0 : decide (x5_1 < (l1.length : Int)) = true := decide_eq_true c6
              clear c6
              replace H := Option.bind_eq_some_iff.mp H
              obtain ⟨t292, A70, H⟩ := H
              replace H : (if t292 = true then (laws_eqGateS.l0 k1 l0 l1 (wrap64 (x5_1 + 1))) else (some false)) = some r := H
              have A7 := Aside0.mk A70
              clear A70
              by_cases c8 : t292 = true
              · subst c8
                have H1 : (laws_eqGateS.l0 k1 l0 l1 (wrap64 (x5_1 + 1))) = some r := by rw [if_pos rfl] at H; exact H
                clear H
                have H := H1
                clear H1
                have H' := Aside0.mk H
                clear H
                try go_wp2
                have n0_ := Aside0.mk (below_drew1 HB.out)
                clear HB
                have HB := n0_
                clear n0_
                have p290 : 0 ≤ (x5_1 : Int) := of_decide_eq_true (by first | (with_reducible assumption) | assumption)
                have q290 : x5_1 < (l0.length : Int) := of_decide_eq_true (by first | (with_reducible assumption) | assumption)
                obtain ⟨ad290, A290_2, c290_2, e290, hx290_0, hx290_1, hx290_2, hl290_2, hi290_2⟩ := at_T46 HR0.out x5_1 p290 q290
                have hw290_2 := hx290_2
                have hw290_1 := hx290_1
                have hw290_0 := hx290_0
                cases e290
                replace hx290_0 := (HB.out.cell (World.block_lt_of_cell? w _ hx290_0)).trans hx290_0
                replace hx290_1 := (HB.out.cell (World.block_lt_of_cell? w _ hx290_1)).trans hx290_1
                replace hx290_2 := (HB.out.cell (World.block_lt_of_cell? w _ hx290_2)).trans hx290_2
                have HR290_2 := Aside0.mk hi290_2
                have HC290_2 := Aside0.mk hl290_2
                clear hi290_2 hl290_2
                replace p290 := eq_true p290
                replace q290 := eq_true q290
                have p291 : 0 ≤ (x5_1 : Int) := of_decide_eq_true (by first | (with_reducible assumption) | assumption)
                have q291 : x5_1 < (l1.length : Int) := of_decide_eq_true (by first | (with_reducible assumption) | assumption)
                obtain ⟨ad291, A291_2, c291_2, e291, hx291_0, hx291_1, hx291_2, hl291_2, hi291_2⟩ := at_T46 HR1.out x5_1 p291 q291
                have hw291_2 := hx291_2
                have hw291_1 := hx291_1
                have hw291_0 := hx291_0
                cases e291
                replace hx291_0 := (HB.out.cell (World.block_lt_of_cell? w _ hx291_0)).trans hx291_0
                replace hx291_1 := (HB.out.cell (World.block_lt_of_cell? w _ hx291_1)).trans hx291_1
                replace hx291_2 := (HB.out.cell (World.block_lt_of_cell? w _ hx291_2)).trans hx291_2
                have HR291_2 := Aside0.mk hi291_2
                have HC291_2 := Aside0.mk hl291_2
                clear hi291_2 hl291_2
                replace p291 := eq_true p291
                replace q291 := eq_true q291
                refine start_ (n := 10) (S := fun w' => w'.cell? (ad290.add ((x5_1).toNat * 3)) = some (.int .i64 ((rd_T46 l0 x5_1).f0)) ∧ w'.cell? ⟨(ad290.add ((x5_1).toNat * 3)).block, (ad290.add ((x5_1).toNat * 3)).off + 1, none⟩ = some (.int .i64 ((rd_T46 l0 x5_1).f1)) ∧ w'.cell? ⟨(ad290.add ((x5_1).toNat * 3)).block, (ad290.add ((x5_1).toNat * 3)).off + 2, none⟩ = some (.slice A290_2 ((rd_T46 l0 x5_1).f2).length c290_2) ∧ w'.cell? (ad291.add ((x5_1).toNat * 3)) = some (.int .i64 ((rd_T46 l1 x5_1).f0)) ∧ w'.cell? ⟨(ad291.add ((x5_1).toNat * 3)).block, (ad291.add ((x5_1).toNat * 3)).off + 1, none⟩ = some (.int .i64 ((rd_T46 l1 x5_1).f1)) ∧ w'.cell? ⟨(ad291.add ((x5_1).toNat * 3)).block, (ad291.add ((x5_1).toNat * 3)).off + 2, none⟩ = some (.slice A291_2 ((rd_T46 l1 x5_1).f2).length c291_2)) (ds := []) #[false, false, false, false, false, false, false, false, false, false] (by kernel_rfl) rfl rfl ⟨((HB.out.cell (World.block_lt_of_cell? w _ hw290_0)).trans hw290_0), ((HB.out.cell (World.block_lt_of_cell? w _ hw290_1)).trans hw290_1), ((HB.out.cell (World.block_lt_of_cell? w _ hw290_2)).trans hw290_2), ((HB.out.cell (World.block_lt_of_cell? w _ hw291_0)).trans hw291_0), ((HB.out.cell (World.block_lt_of_cell? w _ hw291_1)).trans hw291_1), ((HB.out.cell (World.block_lt_of_cell? w _ hw291_2)).trans hw291_2)⟩ (fun hHeld => ?_); refine with_tabW laws_eqGateS.tab6 laws_eqGateS.bits6 (fun HT_ HW_ => ?_)
                generalize wr.drew = w9 at HB HR290_2 HR291_2 hx290_0 hx290_1 hx290_2 hx291_0 hx291_1 hx291_2 hHeld ⊢
                refine pure_ (i := 0) (N := some 17) (v := ?_) (a' := ?_) #[true, false, false, false, false, false, false, false, false, false] rfl rfl (any_of HT_.out (by kernel_rfl)) (fun _ _ _ h => h) (Or.inl ⟨by rfl, ?_⟩) ?_ ?_
                rotate_left
                · intro w'
                  first | (go_simp; with_reducible rfl) | (simp [go_sem, Instr.field, asAgg] <;> with_reducible rfl)
                rotate_left
                · simp only [Act.put, List.setIfInBounds_toArray, List.set_cons_zero, List.set_cons_succ, i64_w, i32_w]
                  rfl
                refine pure_ (i := 1) (N := some 18) (v := ?_) (a' := ?_) #[true, true, false, false, false, false, false, false, false, false] rfl rfl (any_of HT_.out (by kernel_rfl)) (fun _ _ _ h => h) (Or.inl ⟨by rfl, ?_⟩) ?_ ?_
                rotate_left
                · intro w'
                  first | (go_simp; with_reducible rfl) | (simp [go_sem, Instr.field, asAgg] <;> with_reducible rfl)
                rotate_left
                · simp only [Act.put, List.setIfInBounds_toArray, List.set_cons_zero, List.set_cons_succ, i64_w, i32_w]
                  rfl
                refine pure_ (i := 2) (N := some 19) (v := ?_) (a' := ?_) #[true, true, true, false, false, false, false, false, false, false] rfl rfl (any_of HT_.out (by kernel_rfl)) (fun _ _ _ h => h) (Or.inl ⟨by rfl, ?_⟩) ?_ ?_
                rotate_left
                · intro w'
                  first | (go_simp; with_reducible rfl) | (simp [go_sem, Instr.field, asAgg] <;> with_reducible rfl)
                rotate_left
                · simp only [Act.put, List.setIfInBounds_toArray, List.set_cons_zero, List.set_cons_succ, i64_w, i32_w]
                  rfl
                refine pure_ (i := 4) (N := some 21) (v := ?_) (a' := ?_) #[true, true, true, false, true, false, false, false, false, false] rfl rfl (any_of HT_.out (by kernel_rfl)) (fun _ _ _ h => h) (Or.inl ⟨by rfl, ?_⟩) ?_ ?_
                rotate_left
                · intro w'
                  first | (go_simp; with_reducible rfl) | (simp [go_sem, Instr.field, asAgg] <;> with_reducible rfl)
                rotate_left
                · simp only [Act.put, List.setIfInBounds_toArray, List.set_cons_zero, List.set_cons_succ, i64_w, i32_w]
                  rfl
                refine pure_ (i := 5) (N := some 22) (v := ?_) (a' := ?_) #[true, true, true, false, true, true, false, false, false, false] rfl rfl (any_of HT_.out (by kernel_rfl)) (fun _ _ _ h => h) (Or.inl ⟨by rfl, ?_⟩) ?_ ?_
                rotate_left
                · intro w'
                  first | (go_simp; with_reducible rfl) | (simp [go_sem, Instr.field, asAgg] <;> with_reducible rfl)
                rotate_left
                · simp only [Act.put, List.setIfInBounds_toArray, List.set_cons_zero, List.set_cons_succ, i64_w, i32_w]
                  rfl
                refine pure_ (i := 6) (N := some 23) (v := ?_) (a' := ?_) #[true, true, true, false, true, true, true, false, false, false] rfl rfl (any_of HT_.out (by kernel_rfl)) (fun _ _ _ h => h) (Or.inl ⟨by rfl, ?_⟩) ?_ ?_
                rotate_left
                · intro w'
                  first | (go_simp; with_reducible rfl) | (simp [go_sem, Instr.field, asAgg] <;> with_reducible rfl)
                rotate_left
                · simp only [Act.put, List.setIfInBounds_toArray, List.set_cons_zero, List.set_cons_succ, i64_w, i32_w]
                  rfl
                refine take_ (i := 3) (N := some 20) (v := ?_) (a' := ?_) #[true, true, true, true, true, true, true, false, false, false] rfl rfl (take_ofW HT_.out HW_.out (by kernel_rfl)) (fun _ _ _ h => h) (Or.inl ⟨by rfl, ?_⟩) hHeld ?_ ?_
                rotate_left
                · rintro w' ⟨s0, s1, s2, s3, s4, s5⟩
                  go_simp
                  with_reducible rfl
                rotate_left
                · simp only [Act.put, List.setIfInBounds_toArray, List.set_cons_zero, List.set_cons_succ, i64_w, i32_w]
                  rfl
                refine take_ (i := 7) (N := some 24) (v := ?_) (a' := ?_) #[true, true, true, true, true, true, true, true, false, false] rfl rfl (take_ofW HT_.out HW_.out (by kernel_rfl)) (fun _ _ _ h => h) (Or.inl ⟨by rfl, ?_⟩) hHeld ?_ ?_
                rotate_left
                · rintro w' ⟨s0, s1, s2, s3, s4, s5⟩
                  go_simp
                  with_reducible rfl
                rotate_left
                · simp only [Act.put, List.setIfInBounds_toArray, List.set_cons_zero, List.set_cons_succ, i64_w, i32_w]
                  rfl
                refine one_ (i := 8) (N := some 25) #[true, true, true, true, true, true, true, true, true, false] rfl rfl (one_of HT_.out (by kernel_rfl)) (by decide) (fun K hK => ?_)
                refine goes_ Tryd.func23 (by kernel_rfl) rfl #[.agg #[.int .i64 ((rd_T46 l0 x5_1).f0), .int .i64 ((rd_T46 l0 x5_1).f1), .slice A290_2 ((rd_T46 l0 x5_1).f2).length c290_2], .agg #[.int .i64 ((rd_T46 l1 x5_1).f0), .int .i64 ((rd_T46 l1 x5_1).f1), .slice A291_2 ((rd_T46 l1 x5_1).f2).length c291_2]] (by rfl) rfl rfl (by (try simp only [List.map_toArray, List.map_cons, List.map_nil]); first | done | rfl | (simp only [List.length_drop, List.length_take]; rfl)) ?_
                with_reducible refine (ihG k1 (by have := HK1.out; omega) ((rd_T46 l0 x5_1).f0) ((rd_T46 l0 x5_1).f1) _ _ ((rd_T46 l0 x5_1).f2) ((rd_T46 l1 x5_1).f0) ((rd_T46 l1 x5_1).f1) _ _ ((rd_T46 l1 x5_1).f2) true _ ?side1 ?side2 ?side3 ?side4 A7.out).mono ?_
                (case side1 => repeat (first | exact (Kd.C_below HR290_2.out HB.out) | (with_reducible refine Kd.C_alloc ?_ _) | (with_reducible refine Kd.C_drewN ?_ _) | (with_reducible refine Kd.C_drew ?_)))
                (case side2 => exact HC290_2.out)
                (case side3 => repeat (first | exact (Kd.C_below HR291_2.out HB.out) | (with_reducible refine Kd.C_alloc ?_ _) | (with_reducible refine Kd.C_drewN ?_ _) | (with_reducible refine Kd.C_drew ?_)))
                (case side4 => exact HC291_2.out)
                rintro e w10 ⟨rfl, hb⟩
                refine ⟨_, rfl, ?_⟩
                have n0_ := Aside0.mk (below_step (by repeat (first | (with_reducible first | exact HB.out | apply below_alloc | apply pw_below_drewN | apply below_drew1) | exact HB.out)) hb)
                clear HB
                have HB := n0_
                clear n0_
                (try clear hb)
                (try clear hb2)
                (try clear hk)
                (try clear hi)
                refine hK.out _ _ ⟨((HB.out.cell (World.block_lt_of_cell? w _ hw290_0)).trans hw290_0), ((HB.out.cell (World.block_lt_of_cell? w _ hw290_1)).trans hw290_1), ((HB.out.cell (World.block_lt_of_cell? w _ hw290_2)).trans hw290_2), ((HB.out.cell (World.block_lt_of_cell? w _ hw291_0)).trans hw291_0), ((HB.out.cell (World.block_lt_of_cell? w _ hw291_1)).trans hw291_1), ((HB.out.cell (World.block_lt_of_cell? w _ hw291_2)).trans hw291_2)⟩ (fun hHeld => ?_)
                clear hK K
                refine norm_ (a' := ?_) ?_ ?_
                rotate_left
                · show Act.put _ (some 25) _ = _
                  simp only [Act.put, List.setIfInBounds_toArray, List.set_cons_zero, List.set_cons_succ, i64_w, i32_w]
                  rfl
                refine pure_ (i := 9) (N := some 26) (v := ?_) (a' := ?_) #[true, true, true, true, true, true, true, true, true, true] rfl rfl (any_of HT_.out (by kernel_rfl)) (fun _ _ _ h => h) (Or.inl ⟨by rfl, ?_⟩) ?_ ?_
                rotate_left
                · intro w'
                  first | (go_simp; with_reducible rfl) | (simp [go_sem, Instr.field, asAgg] <;> with_reducible rfl)
                rotate_left
                · simp only [Act.put, List.setIfInBounds_toArray, List.set_cons_zero, List.set_cons_succ, i64_w, i32_w]
                  rfl
                refine done_ (done_of HT_.out (by kernel_rfl)) ?_
                try go_wp2
                go_roundg k1
                case measure => have := HK1.out; omega
                case rel => exact ⟨(wrap64 (x5_1 + 1)), (by first | rfl | (simp; done) | (simp [*]; done)), H', ⟨by have := HK1.out; omega⟩, ⟨by repeat (first | (with_reducible first | exact HB.out | apply below_alloc | apply pw_below_drewN | apply below_drew1) | exact HB.out)⟩⟩
              · replace c8 := Bool.eq_false_iff.mpr c8
                subst c8
                have H1 : (some false) = some r := by rw [if_neg (show ¬ (false = true) by decide)] at H; exact H
                clear H
                have H := H1
                clear H1
                obtain rfl := Option.some.inj H
                try go_wp2
                have n0_ := Aside0.mk (below_drew1 HB.out)
                clear HB
                have HB := n0_
                clear n0_
                have p290 : 0 ≤ (x5_1 : Int) := of_decide_eq_true (by first | (with_reducible assumption) | assumption)
                have q290 : x5_1 < (l0.length : Int) := of_decide_eq_true (by first | (with_reducible assumption) | assumption)
                obtain ⟨ad290, A290_2, c290_2, e290, hx290_0, hx290_1, hx290_2, hl290_2, hi290_2⟩ := at_T46 HR0.out x5_1 p290 q290
                have hw290_2 := hx290_2
                have hw290_1 := hx290_1
                have hw290_0 := hx290_0
                cases e290
                replace hx290_0 := (HB.out.cell (World.block_lt_of_cell? w _ hx290_0)).trans hx290_0
                replace hx290_1 := (HB.out.cell (World.block_lt_of_cell? w _ hx290_1)).trans hx290_1
                replace hx290_2 := (HB.out.cell (World.block_lt_of_cell? w _ hx290_2)).trans hx290_2
                have HR290_2 := Aside0.mk hi290_2
                have HC290_2 := Aside0.mk hl290_2
                clear hi290_2 hl290_2
                replace p290 := eq_true p290
                replace q290 := eq_true q290
                have p291 : 0 ≤ (x5_1 : Int) := of_decide_eq_true (by first | (with_reducible assumption) | assumption)
                have q291 : x5_1 < (l1.length : Int) := of_decide_eq_true (by first | (with_reducible assumption) | assumption)
                obtain ⟨ad291, A291_2, c291_2, e291, hx291_0, hx291_1, hx291_2, hl291_2, hi291_2⟩ := at_T46 HR1.out x5_1 p291 q291
                have hw291_2 := hx291_2
                have hw291_1 := hx291_1
                have hw291_0 := hx291_0
                cases e291
                replace hx291_0 := (HB.out.cell (World.block_lt_of_cell? w _ hx291_0)).trans hx291_0
                replace hx291_1 := (HB.out.cell (World.block_lt_of_cell? w _ hx291_1)).trans hx291_1
                replace hx291_2 := (HB.out.cell (World.block_lt_of_cell? w _ hx291_2)).trans hx291_2
                have HR291_2 := Aside0.mk hi291_2
                have HC291_2 := Aside0.mk hl291_2
                clear hi291_2 hl291_2
                replace p291 := eq_true p291
                replace q291 := eq_true q291
                refine start_ (n := 10) (S := fun w' => w'.cell? (ad290.add ((x5_1).toNat * 3)) = some (.int .i64 ((rd_T46 l0 x5_1).f0)) ∧ w'.cell? ⟨(ad290.add ((x5_1).toNat * 3)).block, (ad290.add ((x5_1).toNat * 3)).off + 1, none⟩ = some (.int .i64 ((rd_T46 l0 x5_1).f1)) ∧ w'.cell? ⟨(ad290.add ((x5_1).toNat * 3)).block, (ad290.add ((x5_1).toNat * 3)).off + 2, none⟩ = some (.slice A290_2 ((rd_T46 l0 x5_1).f2).length c290_2) ∧ w'.cell? (ad291.add ((x5_1).toNat * 3)) = some (.int .i64 ((rd_T46 l1 x5_1).f0)) ∧ w'.cell? ⟨(ad291.add ((x5_1).toNat * 3)).block, (ad291.add ((x5_1).toNat * 3)).off + 1, none⟩ = some (.int .i64 ((rd_T46 l1 x5_1).f1)) ∧ w'.cell? ⟨(ad291.add ((x5_1).toNat * 3)).block, (ad291.add ((x5_1).toNat * 3)).off + 2, none⟩ = some (.slice A291_2 ((rd_T46 l1 x5_1).f2).length c291_2)) (ds := []) #[false, false, false, false, false, false, false, false, false, false] (by kernel_rfl) rfl rfl ⟨((HB.out.cell (World.block_lt_of_cell? w _ hw290_0)).trans hw290_0), ((HB.out.cell (World.block_lt_of_cell? w _ hw290_1)).trans hw290_1), ((HB.out.cell (World.block_lt_of_cell? w _ hw290_2)).trans hw290_2), ((HB.out.cell (World.block_lt_of_cell? w _ hw291_0)).trans hw291_0), ((HB.out.cell (World.block_lt_of_cell? w _ hw291_1)).trans hw291_1), ((HB.out.cell (World.block_lt_of_cell? w _ hw291_2)).trans hw291_2)⟩ (fun hHeld => ?_); refine with_tabW laws_eqGateS.tab6 laws_eqGateS.bits6 (fun HT_ HW_ => ?_)
                generalize wr.drew = w11 at HB HR290_2 HR291_2 hx290_0 hx290_1 hx290_2 hx291_0 hx291_1 hx291_2 hHeld ⊢
                refine pure_ (i := 0) (N := some 17) (v := ?_) (a' := ?_) #[true, false, false, false, false, false, false, false, false, false] rfl rfl (any_of HT_.out (by kernel_rfl)) (fun _ _ _ h => h) (Or.inl ⟨by rfl, ?_⟩) ?_ ?_
                rotate_left
                · intro w'
                  first | (go_simp; with_reducible rfl) | (simp [go_sem, Instr.field, asAgg] <;> with_reducible rfl)
                rotate_left
                · simp only [Act.put, List.setIfInBounds_toArray, List.set_cons_zero, List.set_cons_succ, i64_w, i32_w]
                  rfl
                refine pure_ (i := 1) (N := some 18) (v := ?_) (a' := ?_) #[true, true, false, false, false, false, false, false, false, false] rfl rfl (any_of HT_.out (by kernel_rfl)) (fun _ _ _ h => h) (Or.inl ⟨by rfl, ?_⟩) ?_ ?_
                rotate_left
                · intro w'
                  first | (go_simp; with_reducible rfl) | (simp [go_sem, Instr.field, asAgg] <;> with_reducible rfl)
                rotate_left
                · simp only [Act.put, List.setIfInBounds_toArray, List.set_cons_zero, List.set_cons_succ, i64_w, i32_w]
                  rfl
                refine pure_ (i := 2) (N := some 19) (v := ?_) (a' := ?_) #[true, true, true, false, false, false, false, false, false, false] rfl rfl (any_of HT_.out (by kernel_rfl)) (fun _ _ _ h => h) (Or.inl ⟨by rfl, ?_⟩) ?_ ?_
                rotate_left
                · intro w'
                  first | (go_simp; with_reducible rfl) | (simp [go_sem, Instr.field, asAgg] <;> with_reducible rfl)
                rotate_left
                · simp only [Act.put, List.setIfInBounds_toArray, List.set_cons_zero, List.set_cons_succ, i64_w, i32_w]
                  rfl
                refine pure_ (i := 4) (N := some 21) (v := ?_) (a' := ?_) #[true, true, true, false, true, false, false, false, false, false] rfl rfl (any_of HT_.out (by kernel_rfl)) (fun _ _ _ h => h) (Or.inl ⟨by rfl, ?_⟩) ?_ ?_
                rotate_left
                · intro w'
                  first | (go_simp; with_reducible rfl) | (simp [go_sem, Instr.field, asAgg] <;> with_reducible rfl)
                rotate_left
                · simp only [Act.put, List.setIfInBounds_toArray, List.set_cons_zero, List.set_cons_succ, i64_w, i32_w]
                  rfl
                refine pure_ (i := 5) (N := some 22) (v := ?_) (a' := ?_) #[true, true, true, false, true, true, false, false, false, false] rfl rfl (any_of HT_.out (by kernel_rfl)) (fun _ _ _ h => h) (Or.inl ⟨by rfl, ?_⟩) ?_ ?_
                rotate_left
                · intro w'
                  first | (go_simp; with_reducible rfl) | (simp [go_sem, Instr.field, asAgg] <;> with_reducible rfl)
                rotate_left
                · simp only [Act.put, List.setIfInBounds_toArray, List.set_cons_zero, List.set_cons_succ, i64_w, i32_w]
                  rfl
                refine pure_ (i := 6) (N := some 23) (v := ?_) (a' := ?_) #[true, true, true, false, true, true, true, false, false, false] rfl rfl (any_of HT_.out (by kernel_rfl)) (fun _ _ _ h => h) (Or.inl ⟨by rfl, ?_⟩) ?_ ?_
                rotate_left
                · intro w'
                  first | (go_simp; with_reducible rfl) | (simp [go_sem, Instr.field, asAgg] <;> with_reducible rfl)
                rotate_left
                · simp only [Act.put, List.setIfInBounds_toArray, List.set_cons_zero, List.set_cons_succ, i64_w, i32_w]
                  rfl
                refine take_ (i := 3) (N := some 20) (v := ?_) (a' := ?_) #[true, true, true, true, true, true, true, false, false, false] rfl rfl (take_ofW HT_.out HW_.out (by kernel_rfl)) (fun _ _ _ h => h) (Or.inl ⟨by rfl, ?_⟩) hHeld ?_ ?_
                rotate_left
                · rintro w' ⟨s0, s1, s2, s3, s4, s5⟩
                  go_simp
                  with_reducible rfl
                rotate_left
                · simp only [Act.put, List.setIfInBounds_toArray, List.set_cons_zero, List.set_cons_succ, i64_w, i32_w]
                  rfl
                refine take_ (i := 7) (N := some 24) (v := ?_) (a' := ?_) #[true, true, true, true, true, true, true, true, false, false] rfl rfl (take_ofW HT_.out HW_.out (by kernel_rfl)) (fun _ _ _ h => h) (Or.inl ⟨by rfl, ?_⟩) hHeld ?_ ?_
                rotate_left
                · rintro w' ⟨s0, s1, s2, s3, s4, s5⟩
                  go_simp
                  with_reducible rfl
                rotate_left
                · simp only [Act.put, List.setIfInBounds_toArray, List.set_cons_zero, List.set_cons_succ, i64_w, i32_w]
                  rfl
                refine one_ (i := 8) (N := some 25) #[true, true, true, true, true, true, true, true, true, false] rfl rfl (one_of HT_.out (by kernel_rfl)) (by decide) (fun K hK => ?_)
                refine goes_ Tryd.func23 (by kernel_rfl) rfl #[.agg #[.int .i64 ((rd_T46 l0 x5_1).f0), .int .i64 ((rd_T46 l0 x5_1).f1), .slice A290_2 ((rd_T46 l0 x5_1).f2).length c290_2], .agg #[.int .i64 ((rd_T46 l1 x5_1).f0), .int .i64 ((rd_T46 l1 x5_1).f1), .slice A291_2 ((rd_T46 l1 x5_1).f2).length c291_2]] (by rfl) rfl rfl (by (try simp only [List.map_toArray, List.map_cons, List.map_nil]); first | done | rfl | (simp only [List.length_drop, List.length_take]; rfl)) ?_
                with_reducible refine (ihG k1 (by have := HK1.out; omega) ((rd_T46 l0 x5_1).f0) ((rd_T46 l0 x5_1).f1) _ _ ((rd_T46 l0 x5_1).f2) ((rd_T46 l1 x5_1).f0) ((rd_T46 l1 x5_1).f1) _ _ ((rd_T46 l1 x5_1).f2) false _ ?side1 ?side2 ?side3 ?side4 A7.out).mono ?_
                (case side1 => repeat (first | exact (Kd.C_below HR290_2.out HB.out) | (with_reducible refine Kd.C_alloc ?_ _) | (with_reducible refine Kd.C_drewN ?_ _) | (with_reducible refine Kd.C_drew ?_)))
                (case side2 => exact HC290_2.out)
                (case side3 => repeat (first | exact (Kd.C_below HR291_2.out HB.out) | (with_reducible refine Kd.C_alloc ?_ _) | (with_reducible refine Kd.C_drewN ?_ _) | (with_reducible refine Kd.C_drew ?_)))
                (case side4 => exact HC291_2.out)
                rintro e w12 ⟨rfl, hb⟩
                refine ⟨_, rfl, ?_⟩
                have n0_ := Aside0.mk (below_step (by repeat (first | (with_reducible first | exact HB.out | apply below_alloc | apply pw_below_drewN | apply below_drew1) | exact HB.out)) hb)
                clear HB
                have HB := n0_
                clear n0_
                (try clear hb)
                (try clear hb2)
                (try clear hk)
                (try clear hi)
                refine hK.out _ _ ⟨((HB.out.cell (World.block_lt_of_cell? w _ hw290_0)).trans hw290_0), ((HB.out.cell (World.block_lt_of_cell? w _ hw290_1)).trans hw290_1), ((HB.out.cell (World.block_lt_of_cell? w _ hw290_2)).trans hw290_2), ((HB.out.cell (World.block_lt_of_cell? w _ hw291_0)).trans hw291_0), ((HB.out.cell (World.block_lt_of_cell? w _ hw291_1)).trans hw291_1), ((HB.out.cell (World.block_lt_of_cell? w _ hw291_2)).trans hw291_2)⟩ (fun hHeld => ?_)
                clear hK K
                refine norm_ (a' := ?_) ?_ ?_
                rotate_left
                · show Act.put _ (some 25) _ = _
                  simp only [Act.put, List.setIfInBounds_toArray, List.set_cons_zero, List.set_cons_succ, i64_w, i32_w]
                  rfl
                refine pure_ (i := 9) (N := some 26) (v := ?_) (a' := ?_) #[true, true, true, true, true, true, true, true, true, true] rfl rfl (any_of HT_.out (by kernel_rfl)) (fun _ _ _ h => h) (Or.inl ⟨by rfl, ?_⟩) ?_ ?_
                rotate_left
                · intro w'
                  first | (go_simp; with_reducible rfl) | (simp [go_sem, Instr.field, asAgg] <;> with_reducible rfl)
                rotate_left
                · simp only [Act.put, List.setIfInBounds_toArray, List.set_cons_zero, List.set_cons_succ, i64_w, i32_w]
                  rfl
                refine done_ (done_of HT_.out (by kernel_rfl)) ?_
                try go_wp2
                go_ret
                exact ⟨by first | rfl | (simp [errW_none, errW_some] <;> rfl) | (simp [*, errW_none, errW_some] <;> rfl), by repeat (first | (with_reducible first | exact HB.out | apply below_alloc | apply pw_below_drewN | apply below_drew1) | exact HB.out)⟩
            · rw [if_neg c6] at H
              exact absurd H (by simp)
          · rw [if_neg c5] at H
            exact absurd H (by simp)
        · rw [if_neg c4] at H
          have c4b0 : decide (x5_1 < (l0.length : Int)) = false := decide_eq_false c4
          clear c4
          obtain rfl := Option.some.inj H
          go_wp2
          go_ret
          exact ⟨by first | rfl | (simp [errW_none, errW_some] <;> rfl) | (simp [*, errW_none, errW_some] <;> rfl), by repeat (first | (with_reducible first | exact HB.out | apply below_alloc | apply pw_below_drewN | apply below_drew1) | exact HB.out)⟩
  · rw [if_neg c3] at H
    have c3b0 : ((l0.length : Int) == (l1.length : Int)) = false := beq_eq_false_iff_ne.mpr c3
    have c3b1 : ((l0.length : Int) != (l1.length : Int)) = true := bne_iff_ne.mpr c3
    have c3b2 : (l0.length == l1.length) = false := by first | simpa using c3 | (simp at c3 ⊢; omega)
    obtain rfl := Option.some.inj H
    go_enter Tryd.func54, Tryd.ntmps54
    go_wp2
    go_ret
    exact ⟨by first | rfl | (simp [errW_none, errW_some] <;> rfl) | (simp [*, errW_none, errW_some] <;> rfl), by repeat (first | (with_reducible first | exact HB.out | apply below_alloc | apply pw_below_drewN | apply below_drew1) | exact HB.out)⟩
theorem laws_eqGate.calls (k : Nat) (a0_0 : Int) (a0_1 : Int) (A0_2 : Option Addr) (c0_2 : Nat) (l0_2 : List (S46)) (a1_0 : Int) (a1_1 : Int) (A1_2 : Option Addr) (c1_2 : Nat) (l1_2 : List (S46)) (r : Bool) (w : World) (hr0_2 : Kd.C k46 w A0_2 l0_2.length l0_2) (hc0_2 : l0_2.length ≤ c0_2) (hr1_2 : Kd.C k46 w A1_2 l1_2.length l1_2) (hc1_2 : l1_2.length ≤ c1_2) (h : laws_eqGate.f k a0_0 a0_1 l0_2 a1_0 a1_1 l1_2 = some r) :
    Calls Tryd.prog 23 #[.agg #[.int .i64 a0_0, .int .i64 a0_1, .slice A0_2 l0_2.length c0_2], .agg #[.int .i64 a1_0, .int .i64 a1_1, .slice A1_2 l1_2.length c1_2]] w fun e w' => e = .returned (.bool r) ∧ Below w.heap.size w w' := by
  cases k with
  | zero => exact absurd h (by simp [laws_eqGate.f])
  | succ k => exact laws_eqGate.calls_of k (laws_eqGateS.calls k) a0_0 a0_1 A0_2 c0_2 l0_2 a1_0 a1_1 A1_2 c1_2 l1_2 r w hr0_2 hc0_2 hr1_2 hc1_2 h

end Go.Proofs.YtijmdlhcidjpmaaDoor.P

namespace Go.Proofs.YtijmdlhcidjpmaaDoor.P
open Go.RowKit Go.Proofs.YtijmdlhcidjpmaaDoorW.PrintWords Go.Proofs.YtijmdlhcidjpmaaDoorW.PrintLast Go.Proofs.YtijmdlhcidjpmaaDoorW.PrintMore
attribute [local go_sem] max2_int min2_int max_two min_two max_three min_three max_four min_four
set_option linter.unusedVariables false
set_option linter.unusedSimpArgs false

mutual
/-- A tree as the program's own type. -/
def cvT : S41 → S46
  | ⟨a, b, l⟩ => ⟨a, b, cvL l⟩
def cvL : List S41 → List S46
  | [] => []
  | x :: l => cvT x :: cvL l
end

end Go.Proofs.YtijmdlhcidjpmaaDoor.P

namespace Go.Proofs.YtijmdlhcidjpmaaDoor.P
open Go.RowKit Go.Proofs.YtijmdlhcidjpmaaDoorW.PrintWords Go.Proofs.YtijmdlhcidjpmaaDoorW.PrintLast Go.Proofs.YtijmdlhcidjpmaaDoorW.PrintMore
attribute [local go_sem] max2_int min2_int max_two min_two max_three min_three max_four min_four
set_option linter.unusedVariables false
set_option linter.unusedSimpArgs false

/-! ### laws_FnExactGateText: function 5 (the law's walk, by a program of this session) -/
set_option maxHeartbeats 8000000 in
set_option maxRecDepth 100000 in
theorem laws_FnExactGateText.way0 (k : Nat) (a0 : Int) (a1_0 : Int) (a1_1 : Int) (A1_2 : Option Addr) (c1_2 : Nat) (l1_2 : List (S41)) (s2 : Int) (w : World) (hr1_2 : Kd.C k41 w A1_2 l1_2.length l1_2) (hc1_2 : l1_2.length ≤ c1_2) (A3 : laws_szGate.f k a1_0 a1_1 l1_2 1048576 = some s2) (t9 : decide (s2 < 0) = true) :
    Calls Tryd.prog 5 #[.int .i64 a0, .agg #[.int .i64 a1_0, .int .i64 a1_1, .slice A1_2 l1_2.length c1_2]] w fun e w' => e = .returned (.bool true) ∧ Below w.heap.size w w' := by
  have hu41 := Tryd.underlying41
  have HR1_2 := Aside0.mk hr1_2
  have HC1_2 := Aside0.mk hc1_2
  clear hr1_2 hc1_2
  have HB := Aside0.mk (Below.refl w.heap.size w)
  replace A3 := Aside0.mk A3
  go_enter Tryd.func5, Tryd.ntmps5
  go_wp2_with (first | ((with_reducible refine gate_callee (f := 19) rfl ?_); refine goesL_ (some 11) rfl rfl Tryd.func19 (by kernel_rfl) rfl #[.agg #[.int .i64 a1_0, .int .i64 a1_1, .slice A1_2 l1_2.length c1_2], .int .i64 1048576] rfl (by (try simp only [List.map_toArray, List.map_cons, List.map_nil]); first | done | rfl | (simp only [List.length_drop, List.length_take]; rfl)) ?_; (with_reducible refine (laws_szGate.calls k a1_0 a1_1 _ _ l1_2 1048576 s2 _ ?side1 ?side2 A3.out).mono ?_); (case side1 => exact Kd.C_below HR1_2.out (by repeat (first | (with_reducible first | exact HB.out | apply below_alloc | apply pw_below_drewN | apply below_drew1) | exact HB.out))); (case side2 => exact HC1_2.out); rintro e w1 ⟨rfl, hb⟩; refine ⟨_, rfl, ?_⟩; have n1_ := Aside0.mk (blk_below (g := w.heap.size) (o := .cells #[.int .i64 a1_0, .int .i64 a1_1, .slice A1_2 l1_2.length c1_2] 41 (0, 0)) (by repeat (first | exact blk_new_at (by simp) | (with_reducible refine blk_drewN ?_ _) | (with_reducible refine blk_drew ?_) | (with_reducible refine blk_alloc ?_ _))) hb); have n2_ := Aside0.mk (below_step (by repeat (first | (with_reducible first | exact HB.out | apply below_alloc | apply pw_below_drewN | apply below_drew1) | exact HB.out)) hb); have C4 : Aside0 (w.heap.size + 1 ≤ w1.heap.size) := ⟨by have h_ := hb.size; (try simp at h_); omega⟩; have CC := Aside0.mk C4.out; clear HB; have HX1 := n1_; clear n1_; have HB := n2_; clear n2_; (try clear hb); have hl5 : w.heap.size < w1.heap.size := blk_lt HX1.out; have hx6 : w1.cell? ⟨w.heap.size, 0, none⟩ = some (.int .i64 a1_0) := (blk_cell HX1.out 0).trans rfl; have hx7 : w1.cell? ⟨w.heap.size, 1, none⟩ = some (.int .i64 a1_1) := (blk_cell HX1.out 1).trans rfl; have hx8 : w1.cell? ⟨w.heap.size, 2, none⟩ = some (.slice A1_2 l1_2.length c1_2) := (blk_cell HX1.out 2).trans rfl))
  go_ret
  exact ⟨rfl, by repeat (first | (with_reducible first | exact HB.out | apply below_alloc | apply pw_below_drewN | apply below_drew1) | exact HB.out)⟩
set_option maxHeartbeats 8000000 in
set_option maxRecDepth 100000 in
theorem laws_FnExactGateText.way1 (k : Nat) (a0 : Int) (a1_0 : Int) (a1_1 : Int) (A1_2 : Option Addr) (c1_2 : Nat) (l1_2 : List (S41)) (s2 : Int) (r18 : ByteArray) (w : World) (hr1_2 : Kd.C k41 w A1_2 l1_2.length l1_2) (hc1_2 : l1_2.length ≤ c1_2) (A3 : laws_szGate.f k a1_0 a1_1 l1_2 1048576 = some s2) (t9 : decide (s2 < 0) = false) (A10 : laws_toGate.f k a1_0 a1_1 l1_2 = some (a1_0, a1_1, (cvL l1_2))) (A19 : spec_GateText.f k a0 a1_0 a1_1 (cvL l1_2) = some r18) (A25 : laws_toGate.f k a1_0 a1_1 l1_2 = some (a1_0, a1_1, (cvL l1_2))) (A34 : impl_GateText.f k a0 a1_0 a1_1 (cvL l1_2) = some r18) (A44 : laws_toGate.f k a1_0 a1_1 l1_2 = some (a1_0, a1_1, (cvL l1_2))) (A56 : laws_eqGate.f k a1_0 a1_1 (cvL l1_2) a1_0 a1_1 (cvL l1_2) = some true) :
    Calls Tryd.prog 5 #[.int .i64 a0, .agg #[.int .i64 a1_0, .int .i64 a1_1, .slice A1_2 l1_2.length c1_2]] w fun e w' => e = .returned (.bool true) ∧ Below w.heap.size w w' := by
  have hu41 := Tryd.underlying41
  have hu46 := Tryd.underlying46
  have HR1_2 := Aside0.mk hr1_2
  have HC1_2 := Aside0.mk hc1_2
  clear hr1_2 hc1_2
  have HB := Aside0.mk (Below.refl w.heap.size w)
  replace A3 := Aside0.mk A3
  replace A10 := Aside0.mk A10
  replace A19 := Aside0.mk A19
  replace A25 := Aside0.mk A25
  replace A34 := Aside0.mk A34
  replace A44 := Aside0.mk A44
  replace A56 := Aside0.mk A56
  go_enter Tryd.func5, Tryd.ntmps5
  go_wp2_with (first | ((with_reducible refine gate_callee (f := 19) rfl ?_); refine goesL_ (some 11) rfl rfl Tryd.func19 (by kernel_rfl) rfl #[.agg #[.int .i64 a1_0, .int .i64 a1_1, .slice A1_2 l1_2.length c1_2], .int .i64 1048576] rfl (by (try simp only [List.map_toArray, List.map_cons, List.map_nil]); first | done | rfl | (simp only [List.length_drop, List.length_take]; rfl)) ?_; (with_reducible refine (laws_szGate.calls k a1_0 a1_1 _ _ l1_2 1048576 s2 _ ?side1 ?side2 A3.out).mono ?_); (case side1 => exact Kd.C_below HR1_2.out (by repeat (first | (with_reducible first | exact HB.out | apply below_alloc | apply pw_below_drewN | apply below_drew1) | exact HB.out))); (case side2 => exact HC1_2.out); rintro e w1 ⟨rfl, hb⟩; refine ⟨_, rfl, ?_⟩; have n1_ := Aside0.mk (blk_below (g := w.heap.size) (o := .cells #[.int .i64 a1_0, .int .i64 a1_1, .slice A1_2 l1_2.length c1_2] 41 (0, 0)) (by repeat (first | exact blk_new_at (by simp) | (with_reducible refine blk_drewN ?_ _) | (with_reducible refine blk_drew ?_) | (with_reducible refine blk_alloc ?_ _))) hb); have n2_ := Aside0.mk (below_step (by repeat (first | (with_reducible first | exact HB.out | apply below_alloc | apply pw_below_drewN | apply below_drew1) | exact HB.out)) hb); have C4 : Aside0 (w.heap.size + 1 ≤ w1.heap.size) := ⟨by have h_ := hb.size; (try simp at h_); omega⟩; have CC := Aside0.mk C4.out; clear HB; have HX1 := n1_; clear n1_; have HB := n2_; clear n2_; (try clear hb); have hl5 : w.heap.size < w1.heap.size := blk_lt HX1.out; have hx6 : w1.cell? ⟨w.heap.size, 0, none⟩ = some (.int .i64 a1_0) := (blk_cell HX1.out 0).trans rfl; have hx7 : w1.cell? ⟨w.heap.size, 1, none⟩ = some (.int .i64 a1_1) := (blk_cell HX1.out 1).trans rfl; have hx8 : w1.cell? ⟨w.heap.size, 2, none⟩ = some (.slice A1_2 l1_2.length c1_2) := (blk_cell HX1.out 2).trans rfl) | ((with_reducible refine gate_callee (f := 21) rfl ?_); refine goesL_ (some 16) rfl rfl Tryd.func21 (by kernel_rfl) rfl #[.agg #[.int .i64 a1_0, .int .i64 a1_1, .slice A1_2 l1_2.length c1_2]] rfl (by (try simp only [List.map_toArray, List.map_cons, List.map_nil]); first | done | rfl | (simp only [List.length_drop, List.length_take]; rfl)) ?_; (with_reducible refine (laws_toGate.calls k a1_0 a1_1 _ _ l1_2 a1_0 a1_1 (cvL l1_2) _ ?side1 ?side2 A10.out).mono ?_); (case side1 => exact Kd.C_below HR1_2.out (by repeat (first | (with_reducible first | exact HB.out | apply below_alloc | apply pw_below_drewN | apply below_drew1) | exact HB.out))); (case side2 => exact HC1_2.out); rintro e w2 ⟨v100_, rfl, ho0_, hb⟩; refine ⟨_, rfl, ?_⟩; have n1_ := Aside0.mk (blk_below (g := w.heap.size) (o := .cells #[.int .i64 a1_0, .int .i64 a1_1, .slice A1_2 l1_2.length c1_2] 41 (0, 0)) (by (with_reducible repeat (first | refine blk_drewN ?_ _ | refine blk_drew ?_ | refine blk_alloc ?_ _)); exact HX1.out) hb); have n2_ := Aside0.mk (below_step (by repeat (first | (with_reducible first | exact HB.out | apply below_alloc | apply pw_below_drewN | apply below_drew1) | exact HB.out)) hb); have C11 : Aside0 (w1.heap.size ≤ w2.heap.size) := ⟨by have h_ := hb.size; (try simp at h_); omega⟩; have CCn_ := Aside0.mk (And.intro CC.out C11.out); clear CC; have CC := CCn_; clear CCn_; clear HX1; clear HB; clear hl5; clear hx6; clear hx7; clear hx8; have HX1 := n1_; clear n1_; have HB := n2_; clear n2_; have HO12 := Aside0.mk (Kd.G_lower (base' := w.heap.size) (Kd.G_mono (Kd.G_bound ho0_) (ok' := fun k_ => w1.heap.size ≤ k_ ∧ k_ < w2.heap.size) (fun k_ hk_ => ⟨by have h_ := hk_.2.1; (try simp at h_); omega, hk_.2.2.1⟩)) (by have := CC.out; first | omega | (simp; done) | (simp; omega))); obtain ⟨Az13, cz13, ez13⟩ := Kd.G_slice HO12.out; subst ez13; (try clear hb); (try clear ho0_); have hl14 : w.heap.size < w2.heap.size := blk_lt HX1.out; have hx15 : w2.cell? ⟨w.heap.size, 0, none⟩ = some (.int .i64 a1_0) := (blk_cell HX1.out 0).trans rfl; have hx16 : w2.cell? ⟨w.heap.size, 1, none⟩ = some (.int .i64 a1_1) := (blk_cell HX1.out 1).trans rfl; have hx17 : w2.cell? ⟨w.heap.size, 2, none⟩ = some (.slice A1_2 l1_2.length c1_2) := (blk_cell HX1.out 2).trans rfl) | ((with_reducible refine gate_callee (f := 20) rfl ?_); refine goesL_ (some 17) rfl rfl Tryd.func20 (by kernel_rfl) rfl #[.int .i64 a0, .agg #[.int .i64 a1_0, .int .i64 a1_1, .slice Az13 (cvL l1_2).length cz13]] rfl (by (try simp only [List.map_toArray, List.map_cons, List.map_nil]); first | done | rfl | (simp only [List.length_drop, List.length_take]; rfl)) ?_; (with_reducible refine (spec_GateText.calls k a0 a1_0 a1_1 _ _ (cvL l1_2) r18 _ ?side1 ?side2 A19.out).mono ?_); (case side1 => exact (Kd.G_reads' (n := (cvL l1_2).length) (A := Az13) (c := cz13) (by (with_reducible repeat (first | apply Kd.G_alloc | apply Kd.G_drewN | apply Kd.G_drew)); exact HO12.out)).2.2); (case side2 => exact (Kd.G_reads' (n := (cvL l1_2).length) (A := Az13) (c := cz13) HO12.out).2.1); rintro e w3 ⟨rfl, hb⟩; refine ⟨_, rfl, ?_⟩; have n1_ := Aside0.mk (Kd.G_below (by (with_reducible repeat (first | apply Kd.G_alloc | apply Kd.G_drewN | apply Kd.G_drew)); exact HO12.out) hb); have n2_ := Aside0.mk (blk_below (g := w.heap.size) (o := .cells #[.int .i64 a1_0, .int .i64 a1_1, .slice A1_2 l1_2.length c1_2] 41 (0, 0)) (by (with_reducible repeat (first | refine blk_drewN ?_ _ | refine blk_drew ?_ | refine blk_alloc ?_ _)); exact HX1.out) hb); have n3_ := Aside0.mk (below_step (by repeat (first | (with_reducible first | exact HB.out | apply below_alloc | apply pw_below_drewN | apply below_drew1) | exact HB.out)) hb); have C20 : Aside0 (w2.heap.size ≤ w3.heap.size) := ⟨by have h_ := hb.size; (try simp at h_); omega⟩; have CCn_ := Aside0.mk (And.intro CC.out C20.out); clear CC; have CC := CCn_; clear CCn_; clear HO12; clear HX1; clear HB; clear hl14; clear hx15; clear hx16; clear hx17; have HO12 := n1_; clear n1_; have HX1 := n2_; clear n2_; have HB := n3_; clear n3_; (try clear hb); have hl21 : w.heap.size < w3.heap.size := blk_lt HX1.out; have hx22 : w3.cell? ⟨w.heap.size, 0, none⟩ = some (.int .i64 a1_0) := (blk_cell HX1.out 0).trans rfl; have hx23 : w3.cell? ⟨w.heap.size, 1, none⟩ = some (.int .i64 a1_1) := (blk_cell HX1.out 1).trans rfl; have hx24 : w3.cell? ⟨w.heap.size, 2, none⟩ = some (.slice A1_2 l1_2.length c1_2) := (blk_cell HX1.out 2).trans rfl) | ((with_reducible refine gate_callee (f := 21) rfl ?_); refine goesL_ (some 19) rfl rfl Tryd.func21 (by kernel_rfl) rfl #[.agg #[.int .i64 a1_0, .int .i64 a1_1, .slice A1_2 l1_2.length c1_2]] rfl (by (try simp only [List.map_toArray, List.map_cons, List.map_nil]); first | done | rfl | (simp only [List.length_drop, List.length_take]; rfl)) ?_; (with_reducible refine (laws_toGate.calls k a1_0 a1_1 _ _ l1_2 a1_0 a1_1 (cvL l1_2) _ ?side1 ?side2 A25.out).mono ?_); (case side1 => exact Kd.C_below HR1_2.out (by repeat (first | (with_reducible first | exact HB.out | apply below_alloc | apply pw_below_drewN | apply below_drew1) | exact HB.out))); (case side2 => exact HC1_2.out); rintro e w4 ⟨v100_, rfl, ho0_, hb⟩; refine ⟨_, rfl, ?_⟩; have n1_ := Aside0.mk (blk_below (g := w.heap.size) (o := .cells #[.int .i64 a1_0, .int .i64 a1_1, .slice A1_2 l1_2.length c1_2] 41 (0, 0)) (by (with_reducible repeat (first | refine blk_drewN ?_ _ | refine blk_drew ?_ | refine blk_alloc ?_ _)); exact HX1.out) hb); have n2_ := Aside0.mk (below_step (by repeat (first | (with_reducible first | exact HB.out | apply below_alloc | apply pw_below_drewN | apply below_drew1) | exact HB.out)) hb); have C26 : Aside0 (w3.heap.size ≤ w4.heap.size) := ⟨by have h_ := hb.size; (try simp at h_); omega⟩; have CCn_ := Aside0.mk (And.intro CC.out C26.out); clear CC; have CC := CCn_; clear CCn_; clear HX1; clear HB; clear hl21; clear hx22; clear hx23; clear hx24; have HX1 := n1_; clear n1_; have HB := n2_; clear n2_; have HO27 := Aside0.mk (Kd.G_lower (base' := w.heap.size) (Kd.G_mono (Kd.G_bound ho0_) (ok' := fun k_ => w3.heap.size ≤ k_ ∧ k_ < w4.heap.size) (fun k_ hk_ => ⟨by have h_ := hk_.2.1; (try simp at h_); omega, hk_.2.2.1⟩)) (by have := CC.out; first | omega | (simp; done) | (simp; omega))); obtain ⟨Az28, cz28, ez28⟩ := Kd.G_slice HO27.out; subst ez28; (try clear hb); (try clear ho0_); have hl29 : w.heap.size < w4.heap.size := blk_lt HX1.out; have hx30 : w4.cell? ⟨w.heap.size, 0, none⟩ = some (.int .i64 a1_0) := (blk_cell HX1.out 0).trans rfl; have hx31 : w4.cell? ⟨w.heap.size, 1, none⟩ = some (.int .i64 a1_1) := (blk_cell HX1.out 1).trans rfl; have hx32 : w4.cell? ⟨w.heap.size, 2, none⟩ = some (.slice A1_2 l1_2.length c1_2) := (blk_cell HX1.out 2).trans rfl) | ((with_reducible refine gate_callee (f := 22) rfl ?_); refine goesL_ (some 22) rfl rfl Tryd.func22 (by kernel_rfl) rfl #[.int .i64 a0, .agg #[.int .i64 a1_0, .int .i64 a1_1, .slice Az28 (cvL l1_2).length cz28]] rfl (by (try simp only [List.map_toArray, List.map_cons, List.map_nil]); first | done | rfl | (simp only [List.length_drop, List.length_take]; rfl)) ?_; (with_reducible refine (impl_GateText.calls k a0 a1_0 a1_1 _ _ (cvL l1_2) r18 _ ?side1 ?side2 A34.out).mono ?_); (case side1 => exact (Kd.G_reads' (n := (cvL l1_2).length) (A := Az28) (c := cz28) (by (with_reducible repeat (first | apply Kd.G_alloc | apply Kd.G_drewN | apply Kd.G_drew)); exact HO27.out)).2.2); (case side2 => exact (Kd.G_reads' (n := (cvL l1_2).length) (A := Az28) (c := cz28) HO27.out).2.1); rintro e w5 ⟨rfl, hb⟩; refine ⟨_, rfl, ?_⟩; have n1_ := Aside0.mk (Kd.G_below (by (with_reducible repeat (first | apply Kd.G_alloc | apply Kd.G_drewN | apply Kd.G_drew)); exact HO27.out) hb); have n2_ := Aside0.mk (blk_below (g := w.heap.size) (o := .cells #[.int .i64 a1_0, .int .i64 a1_1, .slice A1_2 l1_2.length c1_2] 41 (0, 0)) (by (with_reducible repeat (first | refine blk_drewN ?_ _ | refine blk_drew ?_ | refine blk_alloc ?_ _)); exact HX1.out) hb); have n3_ := Aside0.mk (blk_below (g := w4.heap.size) (o := .cells #[.int .i64 a1_0, .int .i64 a1_1, .slice Az28 (cvL l1_2).length cz28] 46 (0, 0)) (by repeat (first | exact blk_new_at (by simp) | (with_reducible refine blk_drewN ?_ _) | (with_reducible refine blk_drew ?_) | (with_reducible refine blk_alloc ?_ _))) hb); have n4_ := Aside0.mk (below_step (by repeat (first | (with_reducible first | exact HB.out | apply below_alloc | apply pw_below_drewN | apply below_drew1) | exact HB.out)) hb); have C35 : Aside0 (w4.heap.size + 1 ≤ w5.heap.size) := ⟨by have h_ := hb.size; (try simp at h_); omega⟩; have CCn_ := Aside0.mk (And.intro CC.out C35.out); clear CC; have CC := CCn_; clear CCn_; clear HO27; clear HX1; clear HB; clear hl29; clear hx30; clear hx31; clear hx32; have HO27 := n1_; clear n1_; have HX1 := n2_; clear n2_; have HX33 := n3_; clear n3_; have HB := n4_; clear n4_; (try clear hb); have hl36 : w.heap.size < w5.heap.size := blk_lt HX1.out; have hx37 : w5.cell? ⟨w.heap.size, 0, none⟩ = some (.int .i64 a1_0) := (blk_cell HX1.out 0).trans rfl; have hx38 : w5.cell? ⟨w.heap.size, 1, none⟩ = some (.int .i64 a1_1) := (blk_cell HX1.out 1).trans rfl; have hx39 : w5.cell? ⟨w.heap.size, 2, none⟩ = some (.slice A1_2 l1_2.length c1_2) := (blk_cell HX1.out 2).trans rfl; have hl40 : w4.heap.size < w5.heap.size := blk_lt HX33.out; have hx41 : w5.cell? ⟨w4.heap.size, 0, none⟩ = some (.int .i64 a1_0) := (blk_cell HX33.out 0).trans rfl; have hx42 : w5.cell? ⟨w4.heap.size, 1, none⟩ = some (.int .i64 a1_1) := (blk_cell HX33.out 1).trans rfl; have hx43 : w5.cell? ⟨w4.heap.size, 2, none⟩ = some (.slice Az28 (cvL l1_2).length cz28) := (blk_cell HX33.out 2).trans rfl))
  go_region_held3 (fun w' => w'.cell? ⟨w4.heap.size, 0, none⟩ = some (.int .i64 a1_0) ∧ w'.cell? ⟨w4.heap.size, 1, none⟩ = some (.int .i64 a1_1) ∧ w'.cell? ⟨w4.heap.size, 2, none⟩ = some (.slice Az28 (cvL l1_2).length cz28) ∧ w'.cell? ⟨w.heap.size, 0, none⟩ = some (.int .i64 a1_0) ∧ w'.cell? ⟨w.heap.size, 1, none⟩ = some (.int .i64 a1_1) ∧ w'.cell? ⟨w.heap.size, 2, none⟩ = some (.slice A1_2 l1_2.length c1_2)) (first | ((repeat' apply And.intro) <;> assumption) | go_keep) (first | (go_at_call 21; (with_reducible refine (laws_toGate.calls k a1_0 a1_1 _ _ l1_2 a1_0 a1_1 (cvL l1_2) _ ?side1 ?side2 A44.out).mono ?_); (case side1 => exact Kd.C_below HR1_2.out (by repeat (first | (with_reducible first | exact HB.out | apply below_alloc | apply pw_below_drewN | apply below_drew1) | exact HB.out))); (case side2 => exact HC1_2.out); rintro e w6 ⟨v100_, rfl, ho0_, hb⟩; have n1_ := Aside0.mk (Kd.G_below (by (with_reducible repeat (first | apply Kd.G_alloc | apply Kd.G_drewN | apply Kd.G_drew)); exact HO27.out) hb); have n2_ := Aside0.mk (blk_below (g := w.heap.size) (o := .cells #[.int .i64 a1_0, .int .i64 a1_1, .slice A1_2 l1_2.length c1_2] 41 (0, 0)) (by (with_reducible repeat (first | refine blk_drewN ?_ _ | refine blk_drew ?_ | refine blk_alloc ?_ _)); exact HX1.out) hb); have n3_ := Aside0.mk (blk_below (g := w4.heap.size) (o := .cells #[.int .i64 a1_0, .int .i64 a1_1, .slice Az28 (cvL l1_2).length cz28] 46 (0, 0)) (by (with_reducible repeat (first | refine blk_drewN ?_ _ | refine blk_drew ?_ | refine blk_alloc ?_ _)); exact HX33.out) hb); have n4_ := Aside0.mk (below_step (by repeat (first | (with_reducible first | exact HB.out | apply below_alloc | apply pw_below_drewN | apply below_drew1) | exact HB.out)) hb); have C45 : Aside0 (w5.heap.size ≤ w6.heap.size) := ⟨by have h_ := hb.size; (try simp at h_); omega⟩; have CCn_ := Aside0.mk (And.intro CC.out C45.out); clear CC; have CC := CCn_; clear CCn_; clear HO27; clear HX1; clear HX33; clear HB; clear hl36; clear hx37; clear hx38; clear hx39; clear hl40; clear hx41; clear hx42; clear hx43; have HO27 := n1_; clear n1_; have HX1 := n2_; clear n2_; have HX33 := n3_; clear n3_; have HB := n4_; clear n4_; have HO46 := Aside0.mk (Kd.G_lower (base' := w.heap.size) (Kd.G_mono (Kd.G_bound ho0_) (ok' := fun k_ => w5.heap.size ≤ k_ ∧ k_ < w6.heap.size) (fun k_ hk_ => ⟨by have h_ := hk_.2.1; (try simp at h_); omega, hk_.2.2.1⟩)) (by have := CC.out; first | omega | (simp; done) | (simp; omega))); obtain ⟨Az47, cz47, ez47⟩ := Kd.G_slice HO46.out; subst ez47; (try clear hb); (try clear ho0_); have hl48 : w.heap.size < w6.heap.size := blk_lt HX1.out; have hx49 : w6.cell? ⟨w.heap.size, 0, none⟩ = some (.int .i64 a1_0) := (blk_cell HX1.out 0).trans rfl; have hx50 : w6.cell? ⟨w.heap.size, 1, none⟩ = some (.int .i64 a1_1) := (blk_cell HX1.out 1).trans rfl; have hx51 : w6.cell? ⟨w.heap.size, 2, none⟩ = some (.slice A1_2 l1_2.length c1_2) := (blk_cell HX1.out 2).trans rfl; have hl52 : w4.heap.size < w6.heap.size := blk_lt HX33.out; have hx53 : w6.cell? ⟨w4.heap.size, 0, none⟩ = some (.int .i64 a1_0) := (blk_cell HX33.out 0).trans rfl; have hx54 : w6.cell? ⟨w4.heap.size, 1, none⟩ = some (.int .i64 a1_1) := (blk_cell HX33.out 1).trans rfl; have hx55 : w6.cell? ⟨w4.heap.size, 2, none⟩ = some (.slice Az28 (cvL l1_2).length cz28) := (blk_cell HX33.out 2).trans rfl) | (go_at_call 23; (with_reducible refine (laws_eqGate.calls k a1_0 a1_1 _ _ (cvL l1_2) a1_0 a1_1 _ _ (cvL l1_2) true _ ?side1 ?side2 ?side3 ?side4 A56.out).mono ?_); (case side1 => exact (Kd.G_reads' (n := (cvL l1_2).length) (A := Az28) (c := cz28) (by (with_reducible repeat (first | apply Kd.G_alloc | apply Kd.G_drewN | apply Kd.G_drew)); exact HO27.out)).2.2); (case side2 => exact (Kd.G_reads' (n := (cvL l1_2).length) (A := Az28) (c := cz28) HO27.out).2.1); (case side3 => exact (Kd.G_reads' (n := (cvL l1_2).length) (A := Az47) (c := cz47) (by (with_reducible repeat (first | apply Kd.G_alloc | apply Kd.G_drewN | apply Kd.G_drew)); exact HO46.out)).2.2); (case side4 => exact (Kd.G_reads' (n := (cvL l1_2).length) (A := Az47) (c := cz47) HO46.out).2.1); rintro e w7 ⟨rfl, hb⟩; have n1_ := Aside0.mk (Kd.G_below (by (with_reducible repeat (first | apply Kd.G_alloc | apply Kd.G_drewN | apply Kd.G_drew)); exact HO27.out) hb); have n2_ := Aside0.mk (Kd.G_below (by (with_reducible repeat (first | apply Kd.G_alloc | apply Kd.G_drewN | apply Kd.G_drew)); exact HO46.out) hb); have n3_ := Aside0.mk (blk_below (g := w.heap.size) (o := .cells #[.int .i64 a1_0, .int .i64 a1_1, .slice A1_2 l1_2.length c1_2] 41 (0, 0)) (by (with_reducible repeat (first | refine blk_drewN ?_ _ | refine blk_drew ?_ | refine blk_alloc ?_ _)); exact HX1.out) hb); have n4_ := Aside0.mk (blk_below (g := w4.heap.size) (o := .cells #[.int .i64 a1_0, .int .i64 a1_1, .slice Az28 (cvL l1_2).length cz28] 46 (0, 0)) (by (with_reducible repeat (first | refine blk_drewN ?_ _ | refine blk_drew ?_ | refine blk_alloc ?_ _)); exact HX33.out) hb); have n5_ := Aside0.mk (below_step (by repeat (first | (with_reducible first | exact HB.out | apply below_alloc | apply pw_below_drewN | apply below_drew1) | exact HB.out)) hb); have C57 : Aside0 (w6.heap.size ≤ w7.heap.size) := ⟨by have h_ := hb.size; (try simp at h_); omega⟩; have CCn_ := Aside0.mk (And.intro CC.out C57.out); clear CC; have CC := CCn_; clear CCn_; clear HO27; clear HO46; clear HX1; clear HX33; clear HB; clear hl48; clear hx49; clear hx50; clear hx51; clear hl52; clear hx53; clear hx54; clear hx55; have HO27 := n1_; clear n1_; have HO46 := n2_; clear n2_; have HX1 := n3_; clear n3_; have HX33 := n4_; clear n4_; have HB := n5_; clear n5_; (try clear hb); have hl58 : w.heap.size < w7.heap.size := blk_lt HX1.out; have hx59 : w7.cell? ⟨w.heap.size, 0, none⟩ = some (.int .i64 a1_0) := (blk_cell HX1.out 0).trans rfl; have hx60 : w7.cell? ⟨w.heap.size, 1, none⟩ = some (.int .i64 a1_1) := (blk_cell HX1.out 1).trans rfl; have hx61 : w7.cell? ⟨w.heap.size, 2, none⟩ = some (.slice A1_2 l1_2.length c1_2) := (blk_cell HX1.out 2).trans rfl; have hl62 : w4.heap.size < w7.heap.size := blk_lt HX33.out; have hx63 : w7.cell? ⟨w4.heap.size, 0, none⟩ = some (.int .i64 a1_0) := (blk_cell HX33.out 0).trans rfl; have hx64 : w7.cell? ⟨w4.heap.size, 1, none⟩ = some (.int .i64 a1_1) := (blk_cell HX33.out 1).trans rfl; have hx65 : w7.cell? ⟨w4.heap.size, 2, none⟩ = some (.slice Az28 (cvL l1_2).length cz28) := (blk_cell HX33.out 2).trans rfl))
  go_wp2
  go_ret
  exact ⟨rfl, by repeat (first | (with_reducible first | exact HB.out | apply below_alloc | apply pw_below_drewN | apply below_drew1) | exact HB.out)⟩

end Go.Proofs.YtijmdlhcidjpmaaDoor.P

namespace Go.Proofs.YtijmdlhcidjpmaaDoor.P
open Go.RowKit Go.Proofs.YtijmdlhcidjpmaaDoorW.PrintWords Go.Proofs.YtijmdlhcidjpmaaDoorW.PrintLast Go.Proofs.YtijmdlhcidjpmaaDoorW.PrintMore
attribute [local go_sem] max2_int min2_int max_two min_two max_three min_three max_four min_four
set_option linter.unusedVariables false
set_option linter.unusedSimpArgs false

section
variable {H : Type} {enc : TypeId × Value → H} {P : Program} {w : World} {base : Nat} {held : Bool} {α : Type}
/-- Whatever reads as a datum of type t (at this depth) is a value of kind d. -/
def OpensAt (enc : TypeId × Value → H) (P : Program) (w : World) (base : Nat) (held : Bool) (n : Nat) (t : TypeId) (d : Kd α) (wf : α → Prop) : Prop :=
  ∀ cs x, DataW.trod enc P w base (fun _ => true) held n t cs = some x → ∃ a, d.K w a cs ∧ wf a
theorem opens_int (n : Nat) {t : TypeId} {k : IntKind} (ht : P.underlying t = some (.int k)) : OpensAt enc P w base held n t (Kd.int k) (fun a => (Lit.int k a).wf = true) := fun cs x h => by
  obtain ⟨a, rfl, _, hw⟩ := DataW.trod_int ht h
  exact ⟨a, rfl, hw⟩
theorem list_upto {Q : Nat → α → Prop} : ∀ n, (∀ i, i < n → ∃ y, Q i y) → ∃ xs : List α, xs.length = n ∧ ∀ (i : Nat) (y : α), xs[i]? = some y → Q i y
  | 0, _ => ⟨[], rfl, fun i y h => by simp at h⟩
  | n + 1, h => by
    obtain ⟨xs, hl, hx⟩ := list_upto n (fun i hi => h i (by omega))
    obtain ⟨y, hy⟩ := h n (by omega)
    refine ⟨xs ++ [y], by simp [hl], fun i z hz => ?_⟩
    by_cases e : i < xs.length
    · rw [List.getElem?_append_left e] at hz
      exact hx i z hz
    · rw [List.getElem?_append_right (by omega)] at hz
      have : i - xs.length = 0 := by
        have := (List.getElem?_eq_some_iff.1 hz).1
        simp at this
        omega
      rw [this] at hz
      obtain rfl : y = z := by simpa using hz
      obtain rfl : i = n := by omega
      exact hy
theorem opens_slice (n : Nat) {t e : TypeId} {d : Kd α} {wf : α → Prop} (ht : P.underlying t = some (.slice e)) (hc : P.cellsOf e = d.sz) (he : OpensAt enc P w base held n e d wf) :
    OpensAt enc P w base held (n + 1) t (Kd.slice e d) (fun xs => xs.length ≤ 9223372036854775807 ∧ ∀ x ∈ xs, wf x) := fun cs x h => by
  rcases DataW.trod_slice ht h with ⟨rfl, _⟩ | ⟨a, len, cap, elems, rest, m, hn, rfl, _, _, hl, hm, hlen, hel, _, _⟩
  · exact ⟨[], ⟨none, 0, rfl, Nat.le_refl _, ⟨rfl, by simp, fun h => absurd h (by simp)⟩⟩, by simp⟩
  · obtain rfl : n = m := by omega
    obtain ⟨xs, hxl, hx⟩ := list_upto (Q := fun i y => (∃ c : List Value, c.length = d.sz ∧ d.K w y c ∧ ∀ j u, c[j]? = some u → w.cell? (a.add (i * d.sz + j)) = some u) ∧ wf y) len (fun i hi => by
      have h1 := hel i hi
      rw [List.getElem?_eq_getElem (by omega)] at h1
      obtain ⟨c, hc1, hc2⟩ := Option.bind_eq_some_iff.1 h1
      obtain ⟨y, hy, hw⟩ := he c _ hc2
      obtain ⟨_, hcl, hcc⟩ := World.cells?_some hc1
      refine ⟨y, ⟨c, by rw [hcl, hc], hy, fun j u hu => ?_⟩, hw⟩
      have hj : j < P.cellsOf e := by rw [← hcl]; exact (List.getElem?_eq_some_iff.1 hu).1
      have h2 := hcc j hj
      rw [hu, hc] at h2
      rw [← h2, Addr.add_add])
    subst hxl
    unfold maxLen at hm
    refine ⟨xs, ⟨some a, cap, rfl, hl, ⟨rfl, by omega, fun _ => ⟨a, rfl, fun j p hj => (hx j p hj).1⟩⟩⟩, by omega, fun y hy => ?_⟩
    obtain ⟨i, hi⟩ := List.mem_iff_getElem?.1 hy
    exact (hx i y hi).2
/-- At any depth. -/
theorem OpensAt.any {t : TypeId} {d : Kd α} {wf : α → Prop} (h : ∀ n, OpensAt enc P w base held n t d wf) {v : Value} {y : DataW H} {p : List MemPlace} (hv : DataW.Trod enc P w base (fun _ => true) held t v y p) : ∃ a, d.K w a v.cells.toList ∧ wf a := by
  obtain ⟨fuel, hf⟩ := hv
  exact h fuel _ _ hf
end

end Go.Proofs.YtijmdlhcidjpmaaDoor.P

namespace Go.Proofs.YtijmdlhcidjpmaaDoor.P
open Go.RowKit Go.Proofs.YtijmdlhcidjpmaaDoorW.PrintWords Go.Proofs.YtijmdlhcidjpmaaDoorW.PrintLast Go.Proofs.YtijmdlhcidjpmaaDoorW.PrintMore
attribute [local go_sem] max2_int min2_int max_two min_two max_three min_three max_four min_four
set_option linter.unusedVariables false
set_option linter.unusedSimpArgs false

inductive wfS41 : S41 → Prop
  | mk (x : S41) : ((Lit.int .i64 x.f0).wf = true) → ((Lit.int .i64 x.f1).wf = true) → (x.f2.length ≤ 9223372036854775807) → (∀ y_ ∈ x.f2, wfS41 y_) → wfS41 x
theorem list_of_41 {α : Type} {l : List α} (h : l.length = 3) : ∃ c0 c1 c2, l = [c0, c1, c2] := by
  match l, h with
  | [c0, c1, c2], _ => exact ⟨c0, c1, c2, rfl⟩
theorem opensS41 {H : Type} {enc : TypeId × Value → H} {w : World} {base : Nat} {held : Bool} : ∀ n, OpensAt enc Tryd.prog w base held n 41 k41 wfS41
  | 0 => fun cs x h => by simp [DataW.trod] at h
  | 1 => fun cs x h => by
    obtain ⟨xs, m, hm, _, hl, hlen, hf⟩ := DataW.trod_struct Tryd.underlying41 h
    obtain rfl : 0 = m := by omega
    rw [show Tryd.prog.cellsOf 41 = 3 from by kernel_rfl] at hl
    obtain ⟨c0, c1, c2, rfl⟩ := list_of_41 hl
    have h0 : DataW.trod enc Tryd.prog w base (fun _ => true) held (0) 2 [c0] = xs[0]? := by
        have q := hf 0 _ rfl
        simpa [show Tryd.prog.cellsOf 2 = 1 from by kernel_rfl] using q
    rw [List.getElem?_eq_getElem (by rw [hlen]; decide)] at h0
    obtain ⟨a0, e0, w0⟩ := (fun n => opens_int n Tryd.underlying2) (0) _ _ h0
    cases e0
    have h1 : DataW.trod enc Tryd.prog w base (fun _ => true) held (0) 2 [c1] = xs[1]? := by
        have q := hf 1 _ rfl
        simpa [show Tryd.prog.cellsOf 2 = 1 from by kernel_rfl] using q
    rw [List.getElem?_eq_getElem (by rw [hlen]; decide)] at h1
    obtain ⟨a1, e1, w1⟩ := (fun n => opens_int n Tryd.underlying2) (0) _ _ h1
    cases e1
    have h2 : DataW.trod enc Tryd.prog w base (fun _ => true) held (0) 39 [c2] = xs[2]? := by
        have q := hf 2 _ rfl
        simpa [show Tryd.prog.cellsOf 39 = 1 from by kernel_rfl] using q
    rw [List.getElem?_eq_getElem (by rw [hlen]; decide)] at h2
    exact absurd h2 (by simp [DataW.trod])
  | n + 2 => fun cs x h => by
    obtain ⟨xs, m, hm, _, hl, hlen, hf⟩ := DataW.trod_struct Tryd.underlying41 h
    obtain rfl : n + 1 = m := by omega
    rw [show Tryd.prog.cellsOf 41 = 3 from by kernel_rfl] at hl
    obtain ⟨c0, c1, c2, rfl⟩ := list_of_41 hl
    have h0 : DataW.trod enc Tryd.prog w base (fun _ => true) held (n + 1) 2 [c0] = xs[0]? := by
        have q := hf 0 _ rfl
        simpa [show Tryd.prog.cellsOf 2 = 1 from by kernel_rfl] using q
    rw [List.getElem?_eq_getElem (by rw [hlen]; decide)] at h0
    obtain ⟨a0, e0, w0⟩ := (fun n => opens_int n Tryd.underlying2) (n + 1) _ _ h0
    cases e0
    have h1 : DataW.trod enc Tryd.prog w base (fun _ => true) held (n + 1) 2 [c1] = xs[1]? := by
        have q := hf 1 _ rfl
        simpa [show Tryd.prog.cellsOf 2 = 1 from by kernel_rfl] using q
    rw [List.getElem?_eq_getElem (by rw [hlen]; decide)] at h1
    obtain ⟨a1, e1, w1⟩ := (fun n => opens_int n Tryd.underlying2) (n + 1) _ _ h1
    cases e1
    have h2 : DataW.trod enc Tryd.prog w base (fun _ => true) held (n + 1) 39 [c2] = xs[2]? := by
        have q := hf 2 _ rfl
        simpa [show Tryd.prog.cellsOf 39 = 1 from by kernel_rfl] using q
    rw [List.getElem?_eq_getElem (by rw [hlen]; decide)] at h2
    obtain ⟨a2, ⟨A2, n2, e2, l2, g2⟩, w2⟩ := (opens_slice n Tryd.underlying39 (by kernel_rfl) (opensS41 n)) _ _ h2
    cases e2
    exact ⟨⟨a0, a1, a2⟩, k41_mk w ⟨a0, a1, a2⟩ l2 g2, .mk _ w0 w1 w2.1 w2.2⟩

end Go.Proofs.YtijmdlhcidjpmaaDoor.P

namespace Go.Proofs.YtijmdlhcidjpmaaDoor.P
open Go.RowKit Go.Proofs.YtijmdlhcidjpmaaDoorW.PrintWords Go.Proofs.YtijmdlhcidjpmaaDoorW.PrintLast Go.Proofs.YtijmdlhcidjpmaaDoorW.PrintMore
attribute [local go_sem] max2_int min2_int max_two min_two max_three min_three max_four min_four
set_option linter.unusedVariables false
set_option linter.unusedSimpArgs false

def laws_FnExactGateText.Way0 (a0 : Int) (x1 : S41) : Prop := ∃ k : Nat, ∃ (s2 : Int), (laws_szGate.f k x1.f0 x1.f1 x1.f2 1048576 = some s2) ∧ (decide (s2 < 0) = true)
def laws_FnExactGateText.Way1 (a0 : Int) (x1 : S41) : Prop := ∃ k : Nat, ∃ (s2 : Int) (r18 : ByteArray), (laws_szGate.f k x1.f0 x1.f1 x1.f2 1048576 = some s2) ∧ (decide (s2 < 0) = false) ∧ (laws_toGate.f k x1.f0 x1.f1 x1.f2 = some (x1.f0, x1.f1, (cvL x1.f2))) ∧ (spec_GateText.f k a0 x1.f0 x1.f1 (cvL x1.f2) = some r18) ∧ (laws_toGate.f k x1.f0 x1.f1 x1.f2 = some (x1.f0, x1.f1, (cvL x1.f2))) ∧ (impl_GateText.f k a0 x1.f0 x1.f1 (cvL x1.f2) = some r18) ∧ (laws_toGate.f k x1.f0 x1.f1 x1.f2 = some (x1.f0, x1.f1, (cvL x1.f2))) ∧ (laws_eqGate.f k x1.f0 x1.f1 (cvL x1.f2) x1.f0 x1.f1 (cvL x1.f2) = some true)
def laws_FnExactGateText.Pure : Prop := ∀ (a0 : Int) (x1 : S41), ((Lit.int .i64 a0).wf = true) → wfS41 x1 → laws_FnExactGateText.Way0 a0 x1 ∨ laws_FnExactGateText.Way1 a0 x1
theorem laws_FnExactGateText.walk (P : laws_FnExactGateText.Pure) (a0 : Int) (x1 : S41) (A1_2 : Option Addr) (c1_2 : Nat) (w : World) (hr1_2 : Kd.C k41 w A1_2 x1.f2.length x1.f2) (hc1_2 : x1.f2.length ≤ c1_2) (wf0 : ((Lit.int .i64 a0).wf = true)) (wf1 : wfS41 x1) :
    Calls Tryd.prog 5 #[.int .i64 a0, .agg #[.int .i64 x1.f0, .int .i64 x1.f1, .slice A1_2 x1.f2.length c1_2]] w fun e w' => e = .returned (.bool true) ∧ Below w.heap.size w w' := by
  rcases P a0 x1 wf0 wf1 with h | h
  · obtain ⟨k, s2, A3, t9⟩ := h
    exact laws_FnExactGateText.way0 k a0 x1.f0 x1.f1 _ _ x1.f2 s2 w hr1_2 hc1_2 A3 t9
  · obtain ⟨k, s2, r18, A3, t9, A10, A19, A25, A34, A44, A56⟩ := h
    exact laws_FnExactGateText.way1 k a0 x1.f0 x1.f1 _ _ x1.f2 s2 r18 w hr1_2 hc1_2 A3 t9 A10 A19 A25 A34 A44 A56

end Go.Proofs.YtijmdlhcidjpmaaDoor.P

namespace Go.Proofs.YtijmdlhcidjpmaaDoor.P
open Go.RowKit Go.Proofs.YtijmdlhcidjpmaaDoorW.PrintWords Go.Proofs.YtijmdlhcidjpmaaDoorW.PrintLast Go.Proofs.YtijmdlhcidjpmaaDoorW.PrintMore
attribute [local go_sem] max2_int min2_int max_two min_two max_three min_three max_four min_four
set_option linter.unusedVariables false
set_option linter.unusedSimpArgs false

mutual
/-- How many nodes lie below a gate. -/
def nT : S41 → Nat
  | ⟨_, _, l⟩ => nL l
def nL : List S41 → Nat
  | [] => 0
  | x :: l => 1 + nT x + nL l
end
mutual
def mT : S46 → Nat
  | ⟨_, _, l⟩ => mL l
def mL : List S46 → Nat
  | [] => 0
  | x :: l => 1 + mT x + mL l
end
def sT : List S41 → Nat
  | [] => 0
  | x :: l => nT x + sT l
theorem nT_kids (x : S41) : nT x = nL x.f2 := by cases x; simp [nT]
theorem mT_kids (x : S46) : mT x = mL x.f2 := by cases x; simp [mT]
theorem nL_sum : ∀ l : List S41, nL l = l.length + sT l
  | [] => by simp [nL, sT]
  | x :: l => by simp only [nL, sT, List.length_cons, nL_sum l]; omega
theorem nL_mem {l : List S41} {x : S41} (h : x ∈ l) : nT x < nL l := by
  induction l with
  | nil => simp at h
  | cons y l ih =>
    simp only [nL]
    rcases List.mem_cons.mp h with rfl | h
    · omega
    · have := ih h; omega
theorem mL_mem {l : List S46} {x : S46} (h : x ∈ l) : mT x < mL l := by
  induction l with
  | nil => simp at h
  | cons y l ih =>
    simp only [mL]
    rcases List.mem_cons.mp h with rfl | h
    · omega
    · have := ih h; omega
theorem mL_len : ∀ l : List S46, l.length ≤ mL l
  | [] => by simp [mL]
  | x :: l => by have := mL_len l; simp only [mL, List.length_cons]; omega
theorem cvL_map : ∀ l : List S41, cvL l = l.map cvT
  | [] => rfl
  | x :: l => by simp only [cvL, List.map_cons, cvL_map l]
mutual
theorem mT_cv : ∀ x : S41, mT (cvT x) = nT x
  | ⟨a, b, l⟩ => by simp only [cvT, mT, nT, mL_cv l]
theorem mL_cv : ∀ l : List S41, mL (cvL l) = nL l
  | [] => rfl
  | x :: l => by simp only [cvL, mL, nL, mT_cv x, mL_cv l]
end
theorem cvT_parts (x : S41) : cvT x = ⟨x.f0, x.f1, cvL x.f2⟩ := by cases x; simp only [cvT]
theorem rdT_law (xs : List S41) (i : Nat) (h : i < xs.length) : rd_T41 xs (i : Int) = xs[i] := by simp [rd_T41, h]
theorem rdT_impl (xs : List S46) (i : Nat) (h : i < xs.length) : rd_T46 xs (i : Int) = xs[i] := by simp [rd_T46, h]
/-- Lists that are no longer than a list may be. -/
inductive wfG : S41 → Prop
  | mk (x : S41) : x.f2.length ≤ 9223372036854775807 → (∀ y ∈ x.f2, wfG y) → wfG x
def wfL (l : List S41) : Prop := l.length ≤ 9223372036854775807 ∧ ∀ y ∈ l, wfG y
theorem wfL_kids {x : S41} (h : wfG x) : wfL x.f2 := by
  cases h with
  | mk _ h3 h4 => exact ⟨h3, h4⟩
def szV (left : Int) (m : Nat) : Int := if (m : Int) ≤ left then left - m else -1
theorem szGateS_ev : ∀ (n : Nat) (l : List S41), nL l ≤ n → wfL l → ∀ left : Int, 0 ≤ left → left ≤ 1048576 → Ev (fun k => laws_szGateS.f k l left) (szV left (nL l)) := by
  intro n
  induction n with
  | zero =>
    intro l hn hw left h0 h1
    have hs := nL_sum l
    refine Ev.step (f := fun k => laws_szGateS.l0 k l left 0) (fun k => ?_) (Ev.step (f := fun _ => some left) (fun k => ?_) ?_)
    · simp only [laws_szGateS.f]
      rw [wr (by omega) (by omega), if_neg (by omega), show left - (l.length : Int) = left by omega]
    · simp only [laws_szGateS.l0]
      rw [if_neg (by omega)]
    · rw [show szV left (nL l) = left from by unfold szV; rw [if_pos (by omega)]; omega]
      exact Ev.now _
  | succ n ih =>
    intro l hn hw left h0 h1
    have hs := nL_sum l
    have hlen := hw.1
    by_cases hc : left - (l.length : Int) < 0
    · refine Ev.step (f := fun _ => some (-1)) (fun k => ?_) ?_
      · simp only [laws_szGateS.f]
        rw [wr (by omega) (by omega), if_pos hc]
      · rw [show szV left (nL l) = -1 from by unfold szV; rw [if_neg (by omega)]]
        exact Ev.now _
    · have key : ∀ d i : Nat, i + d = l.length → ∀ b : Int, 0 ≤ b → b ≤ 1048576 → Ev (fun k => laws_szGateS.l0 k l b (i : Int)) (szV b (sT (l.drop i))) := by
        intro d
        induction d with
        | zero =>
          intro i hi b hb0 hb1
          rw [List.drop_eq_nil_of_le (by omega), show szV b (sT []) = b from by unfold szV sT; rw [if_pos (by omega)]; omega]
          refine Ev.step (f := fun _ => some b) (fun k => ?_) (Ev.now _)
          simp only [laws_szGateS.l0]
          rw [if_neg (by omega)]
        | succ d ihd =>
          intro i hi b hb0 hb1
          have hlt : i < l.length := by omega
          have hmem := List.getElem_mem hlt
          have hx := nL_mem hmem
          have hk := nT_kids l[i]
          have e1 : Ev (fun k => laws_szGate.f k l[i].f0 l[i].f1 l[i].f2 b) (szV b (nT l[i])) := by
            refine Ev.step (f := fun k => (laws_szGateS.f k l[i].f2 b).bind fun t => if t < 0 then some (-1) else some t) (fun k => by simp only [laws_szGate.f]) ?_
            refine Ev.bind (ih _ (by omega) (wfL_kids (hw.2 _ hmem)) b hb0 hb1) ?_
            rw [← hk]
            unfold szV
            by_cases hq : (nT l[i] : Int) ≤ b
            · rw [if_pos hq, if_neg (by omega)]; exact Ev.now _
            · rw [if_neg hq, if_pos (by omega)]; exact Ev.now _
          rw [List.drop_eq_getElem_cons hlt, show sT (l[i] :: l.drop (i + 1)) = nT l[i] + sT (l.drop (i + 1)) from rfl]
          refine Ev.step (f := fun k => (laws_szGate.f k l[i].f0 l[i].f1 l[i].f2 b).bind fun t => if t < 0 then some (-1) else laws_szGateS.l0 k l t ((i + 1 : Nat) : Int)) (fun k => ?_) (Ev.bind e1 ?_)
          · simp only [laws_szGateS.l0]
            rw [if_pos (by omega), if_pos (by omega), rdT_law l i hlt, wr (x := (i : Int) + 1) (by omega) (by omega)]
            rfl
          · by_cases hq : (nT l[i] : Int) ≤ b
            · have hv : szV b (nT l[i]) = b - nT l[i] := by unfold szV; rw [if_pos hq]
              rw [hv, show szV b (nT l[i] + sT (l.drop (i + 1))) = szV (b - nT l[i]) (sT (l.drop (i + 1))) from by unfold szV; by_cases h : ((sT (l.drop (i + 1)) : Nat) : Int) ≤ b - nT l[i]; rw [if_pos h, if_pos (by omega)]; omega; rw [if_neg h, if_neg (by omega)]]
              simp only [if_neg (show ¬ b - (nT l[i] : Int) < 0 by omega)]
              exact ihd (i + 1) (by omega) _ (by omega) (by omega)
            · have hv : szV b (nT l[i]) = -1 := by unfold szV; rw [if_neg hq]
              rw [hv, show szV b (nT l[i] + sT (l.drop (i + 1))) = -1 from by unfold szV; rw [if_neg (by omega)]]
              simp only [if_pos (show (-1 : Int) < 0 by omega)]
              exact Ev.now _
      have h := key l.length 0 (by omega) (left - (l.length : Int)) (by omega) (by omega)
      rw [List.drop_zero] at h
      refine Ev.step (f := fun k => laws_szGateS.l0 k l (left - (l.length : Int)) 0) (fun k => ?_) ?_
      · simp only [laws_szGateS.f]
        rw [wr (by omega) (by omega), if_neg hc]
      · rw [show szV left (nL l) = szV (left - (l.length : Int)) (sT l) from by unfold szV; rw [hs]; by_cases h : ((sT l : Nat) : Int) ≤ left - (l.length : Int); rw [if_pos h, if_pos (by omega)]; omega; rw [if_neg h, if_neg (by omega)]]
        exact h
theorem szGate_ev (a b : Int) (l : List S41) (hw : wfL l) (left : Int) (h0 : 0 ≤ left) (h1 : left ≤ 1048576) : Ev (fun k => laws_szGate.f k a b l left) (szV left (nL l)) := by
  refine Ev.step (f := fun k => (laws_szGateS.f k l left).bind fun t => if t < 0 then some (-1) else some t) (fun k => by simp only [laws_szGate.f]) ?_
  refine Ev.bind (szGateS_ev _ l (Nat.le_refl _) hw left h0 h1) ?_
  unfold szV
  by_cases hq : (nL l : Int) ≤ left
  · rw [if_pos hq, if_neg (by omega)]; exact Ev.now _
  · rw [if_neg hq, if_pos (by omega)]; exact Ev.now _
theorem toGateS_ev : ∀ (n : Nat) (l : List S41), nL l ≤ n → n ≤ 1048576 → Ev (fun k => laws_toGateS.f k l) (cvL l) := by
  intro n
  induction n with
  | zero =>
    intro l hn hm
    have hs := nL_sum l
    obtain rfl : l = [] := List.eq_nil_of_length_eq_zero (by omega)
    refine Ev.step (f := fun k => laws_toGateS.l0 k [] [] 0) (fun k => by simp [laws_toGateS.f]) (Ev.step (f := fun _ => some []) (fun k => by simp [laws_toGateS.l0]) (Ev.now _))
  | succ n ih =>
    intro l hn hm
    have hs := nL_sum l
    have key : ∀ d i : Nat, i + d = l.length → Ev (fun k => laws_toGateS.l0 k l ((l.take i).map cvT ++ List.replicate d z46) (i : Int)) (cvL l) := by
      intro d
      induction d with
      | zero =>
        intro i hi
        rw [List.take_of_length_le (by omega), List.replicate_zero, List.append_nil, ← cvL_map]
        refine Ev.step (f := fun _ => some (cvL l)) (fun k => ?_) (Ev.now _)
        simp only [laws_toGateS.l0]
        rw [if_neg (by omega)]
      | succ d ihd =>
        intro i hi
        have hlt : i < l.length := by omega
        have hmem := List.getElem_mem hlt
        have hx := nL_mem hmem
        have hk := nT_kids l[i]
        have e1 : Ev (fun k => laws_toGate.f k l[i].f0 l[i].f1 l[i].f2) (l[i].f0, l[i].f1, cvL l[i].f2) :=
          Ev.step (f := fun k => (laws_toGateS.f k l[i].f2).bind fun t => some (l[i].f0, l[i].f1, t)) (fun k => by simp only [laws_toGate.f]) (Ev.bind (ih l[i].f2 (by omega) (by omega)) (Ev.now _))
        refine Ev.step (f := fun k => (laws_toGate.f k l[i].f0 l[i].f1 l[i].f2).bind fun b => laws_toGateS.l0 k l (((l.take i).map cvT ++ List.replicate (d + 1) z46).set i ⟨b.1, b.2.1, b.2.2⟩) ((i + 1 : Nat) : Int)) (fun k => ?_) (Ev.bind e1 ?_)
        · simp only [laws_toGateS.l0]
          rw [if_pos (by omega), if_pos (by omega), rdT_law l i hlt, wr (by omega) (by omega)]
          simp only [if_pos (show (i : Int) < (((l.take i).map cvT ++ List.replicate (d + 1) z46).length : Int) by simp; omega), Int.toNat_natCast]
          rfl
        · have e0 : ((l.take i).map cvT).length = i := by rw [List.length_map, List.length_take]; omega
          have e : (((l.take i).map cvT) ++ List.replicate (d + 1) z46).set i ⟨l[i].f0, l[i].f1, cvL l[i].f2⟩ = (l.take (i + 1)).map cvT ++ List.replicate d z46 := by
            rw [List.set_append_right _ _ (by omega), e0, Nat.sub_self, List.replicate_succ, List.set_cons_zero, List.take_succ_eq_append_getElem hlt, List.map_append, List.append_assoc, ← cvT_parts]
            rfl
          dsimp only
          rw [e]
          exact ihd (i + 1) (by omega)
    have h := key l.length 0 (by omega)
    rw [List.take_zero, List.map_nil, List.nil_append] at h
    refine Ev.step (f := fun k => laws_toGateS.l0 k l (List.replicate l.length z46) 0) (fun k => ?_) h
    simp only [laws_toGateS.f]
    rw [if_pos (by omega), Int.toNat_natCast]
theorem toGate_ev (a b : Int) (l : List S41) (h : nL l ≤ 1048576) : Ev (fun k => laws_toGate.f k a b l) (a, b, cvL l) :=
  Ev.step (f := fun k => (laws_toGateS.f k l).bind fun t => some (a, b, t)) (fun k => by simp only [laws_toGate.f]) (Ev.bind (toGateS_ev _ l (Nat.le_refl _) h) (Ev.now _))
theorem eqGateS_same : ∀ (n : Nat) (l : List S46), mL l ≤ n → n ≤ 1048576 → Ev (fun k => laws_eqGateS.f k l l) true := by
  intro n
  induction n with
  | zero =>
    intro l hn hm
    have hs := mL_len l
    obtain rfl : l = [] := List.eq_nil_of_length_eq_zero (by omega)
    exact Ev.step (f := fun k => laws_eqGateS.l0 k [] [] 0) (fun k => by simp [laws_eqGateS.f]) (Ev.step (f := fun _ => some true) (fun k => by simp [laws_eqGateS.l0]) (Ev.now _))
  | succ n ih =>
    intro l hn hm
    have hs := mL_len l
    have key : ∀ d i : Nat, i + d = l.length → Ev (fun k => laws_eqGateS.l0 k l l (i : Int)) true := by
      intro d
      induction d with
      | zero =>
        intro i hi
        refine Ev.step (f := fun _ => some true) (fun k => ?_) (Ev.now _)
        simp only [laws_eqGateS.l0]
        rw [if_neg (by omega)]
      | succ d ihd =>
        intro i hi
        have hlt : i < l.length := by omega
        have hx := mL_mem (List.getElem_mem hlt)
        have hk := mT_kids l[i]
        have e1 : Ev (fun k => laws_eqGate.f k l[i].f0 l[i].f1 l[i].f2 l[i].f0 l[i].f1 l[i].f2) true :=
          Ev.step (f := fun k => (laws_eqGateS.f k l[i].f2 l[i].f2).bind fun t => if t = true then some true else some false) (fun k => by simp only [laws_eqGate.f, if_true]) (Ev.bind (ih l[i].f2 (by omega) (by omega)) (by simp only [if_true]; exact Ev.now _))
        refine Ev.step (f := fun k => (laws_eqGate.f k l[i].f0 l[i].f1 l[i].f2 l[i].f0 l[i].f1 l[i].f2).bind fun t => if t = true then laws_eqGateS.l0 k l l ((i + 1 : Nat) : Int) else some false) (fun k => ?_) (Ev.bind e1 ?_)
        · simp only [laws_eqGateS.l0]
          rw [if_pos (by omega), if_pos (by omega), if_pos (by omega), rdT_impl l i hlt, wr (by omega) (by omega)]
          rfl
        · exact ihd (i + 1) (by omega)
    exact Ev.step (f := fun k => laws_eqGateS.l0 k l l 0) (fun k => by simp only [laws_eqGateS.f, if_true]) (key l.length 0 (by omega))
theorem eqGate_same (a b : Int) (l : List S46) (h : mL l ≤ 1048576) : Ev (fun k => laws_eqGate.f k a b l a b l) true :=
  Ev.step (f := fun k => (laws_eqGateS.f k l l).bind fun t => if t = true then some true else some false) (fun k => by simp only [laws_eqGate.f, if_true]) (Ev.bind (eqGateS_same _ l (Nat.le_refl _) h) (by simp only [if_true]; exact Ev.now _))

end Go.Proofs.YtijmdlhcidjpmaaDoor.P

namespace Go.Proofs.YtijmdlhcidjpmaaDoor.P
open Go.RowKit Go.Proofs.YtijmdlhcidjpmaaDoorW.PrintWords Go.Proofs.YtijmdlhcidjpmaaDoorW.PrintLast Go.Proofs.YtijmdlhcidjpmaaDoorW.PrintMore
attribute [local go_sem] max2_int min2_int max_two min_two max_three min_three max_four min_four
set_option linter.unusedVariables false
set_option linter.unusedSimpArgs false

/-! ### laws_toInt64S: function 75 -/
end Go.Proofs.YtijmdlhcidjpmaaDoor.P

namespace Go.Proofs.YtijmdlhcidjpmaaDoor.P
open Go.RowKit Go.Proofs.YtijmdlhcidjpmaaDoorW.PrintWords Go.Proofs.YtijmdlhcidjpmaaDoorW.PrintLast Go.Proofs.YtijmdlhcidjpmaaDoorW.PrintMore
attribute [local go_sem] max2_int min2_int max_two min_two max_three min_three max_four min_four
set_option linter.unusedVariables false
set_option linter.unusedSimpArgs false

/-! ### laws_toInt64SS: function 39 -/
end Go.Proofs.YtijmdlhcidjpmaaDoor.P

namespace Go.Proofs.YtijmdlhcidjpmaaDoor.P
open Go.RowKit Go.Proofs.YtijmdlhcidjpmaaDoorW.PrintWords Go.Proofs.YtijmdlhcidjpmaaDoorW.PrintLast Go.Proofs.YtijmdlhcidjpmaaDoorW.PrintMore
attribute [local go_sem] max2_int min2_int max_two min_two max_three min_three max_four min_four
set_option linter.unusedVariables false
set_option linter.unusedSimpArgs false

/-! ### laws_toMatrix: function 11 -/
end Go.Proofs.YtijmdlhcidjpmaaDoor.P

namespace Go.Proofs.YtijmdlhcidjpmaaDoor.P
open Go.RowKit Go.Proofs.YtijmdlhcidjpmaaDoorW.PrintWords Go.Proofs.YtijmdlhcidjpmaaDoorW.PrintLast Go.Proofs.YtijmdlhcidjpmaaDoorW.PrintMore
attribute [local go_sem] max2_int min2_int max_two min_two max_three min_three max_four min_four
set_option linter.unusedVariables false
set_option linter.unusedSimpArgs false

/-! ### laws_eqInt64S: function 80 -/
end Go.Proofs.YtijmdlhcidjpmaaDoor.P

namespace Go.Proofs.YtijmdlhcidjpmaaDoor.P
open Go.RowKit Go.Proofs.YtijmdlhcidjpmaaDoorW.PrintWords Go.Proofs.YtijmdlhcidjpmaaDoorW.PrintLast Go.Proofs.YtijmdlhcidjpmaaDoorW.PrintMore
attribute [local go_sem] max2_int min2_int max_two min_two max_three min_three max_four min_four
set_option linter.unusedVariables false
set_option linter.unusedSimpArgs false

/-! ### laws_eqInt64SS: function 42 -/
end Go.Proofs.YtijmdlhcidjpmaaDoor.P

namespace Go.Proofs.YtijmdlhcidjpmaaDoor.P
open Go.RowKit Go.Proofs.YtijmdlhcidjpmaaDoorW.PrintWords Go.Proofs.YtijmdlhcidjpmaaDoorW.PrintLast Go.Proofs.YtijmdlhcidjpmaaDoorW.PrintMore
attribute [local go_sem] max2_int min2_int max_two min_two max_three min_three max_four min_four
set_option linter.unusedVariables false
set_option linter.unusedSimpArgs false

/-! ### laws_eqMatrix: function 13 -/
end Go.Proofs.YtijmdlhcidjpmaaDoor.P

namespace Go.Proofs.YtijmdlhcidjpmaaDoor.P
open Go.RowKit Go.Proofs.YtijmdlhcidjpmaaDoorW.PrintWords Go.Proofs.YtijmdlhcidjpmaaDoorW.PrintLast Go.Proofs.YtijmdlhcidjpmaaDoorW.PrintMore
attribute [local go_sem] max2_int min2_int max_two min_two max_three min_three max_four min_four
set_option linter.unusedVariables false
set_option linter.unusedSimpArgs false

/-! ### laws_szInt64S: function 72 -/
end Go.Proofs.YtijmdlhcidjpmaaDoor.P

namespace Go.Proofs.YtijmdlhcidjpmaaDoor.P
open Go.RowKit Go.Proofs.YtijmdlhcidjpmaaDoorW.PrintWords Go.Proofs.YtijmdlhcidjpmaaDoorW.PrintLast Go.Proofs.YtijmdlhcidjpmaaDoorW.PrintMore
attribute [local go_sem] max2_int min2_int max_two min_two max_three min_three max_four min_four
set_option linter.unusedVariables false
set_option linter.unusedSimpArgs false

/-! ### laws_szInt64SS: function 36 -/
end Go.Proofs.YtijmdlhcidjpmaaDoor.P

namespace Go.Proofs.YtijmdlhcidjpmaaDoor.P
open Go.RowKit Go.Proofs.YtijmdlhcidjpmaaDoorW.PrintWords Go.Proofs.YtijmdlhcidjpmaaDoorW.PrintLast Go.Proofs.YtijmdlhcidjpmaaDoorW.PrintMore
attribute [local go_sem] max2_int min2_int max_two min_two max_three min_three max_four min_four
set_option linter.unusedVariables false
set_option linter.unusedSimpArgs false

/-! ### laws_szMatrix: function 9 -/
end Go.Proofs.YtijmdlhcidjpmaaDoor.P

namespace Go.Proofs.YtijmdlhcidjpmaaDoor.P
open Go.RowKit Go.Proofs.YtijmdlhcidjpmaaDoorW.PrintWords Go.Proofs.YtijmdlhcidjpmaaDoorW.PrintLast Go.Proofs.YtijmdlhcidjpmaaDoorW.PrintMore
attribute [local go_sem] max2_int min2_int max_two min_two max_three min_three max_four min_four
set_option linter.unusedVariables false
set_option linter.unusedSimpArgs false

/-! ### spec_l00Rises: function 108 -/
end Go.Proofs.YtijmdlhcidjpmaaDoor.P

namespace Go.Proofs.YtijmdlhcidjpmaaDoor.P
open Go.RowKit Go.Proofs.YtijmdlhcidjpmaaDoorW.PrintWords Go.Proofs.YtijmdlhcidjpmaaDoorW.PrintLast Go.Proofs.YtijmdlhcidjpmaaDoorW.PrintMore
attribute [local go_sem] max2_int min2_int max_two min_two max_three min_three max_four min_four
set_option linter.unusedVariables false
set_option linter.unusedSimpArgs false

/-! ### spec_l01Group: function 81 -/
end Go.Proofs.YtijmdlhcidjpmaaDoor.P

namespace Go.Proofs.YtijmdlhcidjpmaaDoor.P
open Go.RowKit Go.Proofs.YtijmdlhcidjpmaaDoorW.PrintWords Go.Proofs.YtijmdlhcidjpmaaDoorW.PrintLast Go.Proofs.YtijmdlhcidjpmaaDoorW.PrintMore
attribute [local go_sem] max2_int min2_int max_two min_two max_three min_three max_four min_four
set_option linter.unusedVariables false
set_option linter.unusedSimpArgs false

/-! ### spec_GroupText: function 44 -/
end Go.Proofs.YtijmdlhcidjpmaaDoor.P

namespace Go.Proofs.YtijmdlhcidjpmaaDoor.P
open Go.RowKit Go.Proofs.YtijmdlhcidjpmaaDoorW.PrintWords Go.Proofs.YtijmdlhcidjpmaaDoorW.PrintLast Go.Proofs.YtijmdlhcidjpmaaDoorW.PrintMore
attribute [local go_sem] max2_int min2_int max_two min_two max_three min_three max_four min_four
set_option linter.unusedVariables false
set_option linter.unusedSimpArgs false

/-! ### impl_isGroup: function 84 -/
end Go.Proofs.YtijmdlhcidjpmaaDoor.P

namespace Go.Proofs.YtijmdlhcidjpmaaDoor.P
open Go.RowKit Go.Proofs.YtijmdlhcidjpmaaDoorW.PrintWords Go.Proofs.YtijmdlhcidjpmaaDoorW.PrintLast Go.Proofs.YtijmdlhcidjpmaaDoorW.PrintMore
attribute [local go_sem] max2_int min2_int max_two min_two max_three min_three max_four min_four
set_option linter.unusedVariables false
set_option linter.unusedSimpArgs false

def before (l : List Int) (i : Nat) : Option Int := if i = 0 then none else l[i - 1]?
/-- The letters of a group. -/
def letters (l : List Int) : List Int := l.map fun x => (wrap64 (65 + x)) % 256
def groupTextB (l : List Int) : ByteArray := if l = [] then (⟨#[45]⟩ : ByteArray) else strOfNums (letters l)
theorem letters_snoc (l : List Int) (i : Nat) (h : i < l.length) : letters (l.take i) ++ [(wrap64 (65 + l[i])) % 256] = letters (l.take (i + 1)) := by
  rw [List.take_succ_eq_append_getElem h, letters, letters, List.map_append]
  rfl
theorem letters_length (l : List Int) : (letters l).length = l.length := by simp [letters]
theorem impl_groupText_ev (l : List Int) (hl : l.length ≤ 1048576) : Ev (fun k => impl_groupText.f k l) (groupTextB l) := by
  unfold impl_groupText.f groupTextB
  by_cases h0 : l = []
  · subst h0
    exact Ev.now _
  · simp only [if_neg h0, if_neg (show ¬ ((l.length : Int) = 0) from by have := List.length_pos_iff.2 h0; omega)]
    have go : ∀ (d i : Nat), i + d = l.length → Ev (fun k => impl_groupText.l0 k (letters (l.take i)) l (l.length : Int) (i : Int)) (strOfNums (letters l)) := by
      intro d
      induction d with
      | zero =>
        intro i hi
        refine Ev.step (f := fun _ => some (strOfNums (letters l))) (fun k => ?_) (Ev.now _)
        simp only [impl_groupText.l0]
        rw [if_neg (by omega), List.take_of_length_le (show l.length ≤ i by omega)]
      | succ d ih =>
        intro i hi
        have hlt : i < l.length := by omega
        refine Ev.step (fun k => ?_) (ih (i + 1) (by omega))
        simp only [impl_groupText.l0]
        rw [if_pos (by omega), if_pos (by omega), if_pos (by omega), if_pos (by rw [letters_length, List.length_take]; omega), rd_nat l i hlt, letters_snoc l i hlt, wr (x := (i : Int) + 1) (by omega) (by omega)]
        rfl
    exact go l.length 0 (by omega)
end Go.Proofs.YtijmdlhcidjpmaaDoor.P

namespace Go.Proofs.YtijmdlhcidjpmaaDoor.P
open Go.RowKit Go.Proofs.YtijmdlhcidjpmaaDoorW.PrintWords Go.Proofs.YtijmdlhcidjpmaaDoorW.PrintLast Go.Proofs.YtijmdlhcidjpmaaDoorW.PrintMore
attribute [local go_sem] max2_int min2_int max_two min_two max_three min_three max_four min_four
set_option linter.unusedVariables false
set_option linter.unusedSimpArgs false

end Go.Proofs.YtijmdlhcidjpmaaDoor.P

namespace Go.Proofs.YtijmdlhcidjpmaaDoor.P
open Go.RowKit Go.Proofs.YtijmdlhcidjpmaaDoorW.PrintWords Go.Proofs.YtijmdlhcidjpmaaDoorW.PrintLast Go.Proofs.YtijmdlhcidjpmaaDoorW.PrintMore
attribute [local go_sem] max2_int min2_int max_two min_two max_three min_three max_four min_four
set_option linter.unusedVariables false
set_option linter.unusedSimpArgs false

/-- What holds from some number of rounds on. -/
def From (P : Nat → Prop) : Prop := ∃ K, ∀ k, K ≤ k → P k
theorem From.and {P Q : Nat → Prop} (hp : From P) (hq : From Q) : From fun k => P k ∧ Q k := by
  obtain ⟨K, hK⟩ := hp
  obtain ⟨L, hL⟩ := hq
  exact ⟨max K L, fun k h => ⟨hK k (by omega), hL k (by omega)⟩⟩
theorem From.now {P : Nat → Prop} (h : From P) : ∃ k, P k := by
  obtain ⟨K, hK⟩ := h
  exact ⟨K, hK K (Nat.le_refl _)⟩
end Go.Proofs.YtijmdlhcidjpmaaDoor.P

namespace Go.Proofs.YtijmdlhcidjpmaaDoor.P
open Go.RowKit Go.Proofs.YtijmdlhcidjpmaaDoorW.PrintWords Go.Proofs.YtijmdlhcidjpmaaDoorW.PrintLast Go.Proofs.YtijmdlhcidjpmaaDoorW.PrintMore
attribute [local go_sem] max2_int min2_int max_two min_two max_three min_three max_four min_four
set_option linter.unusedVariables false
set_option linter.unusedSimpArgs false

/-! ### spec_l01Before: function 82 -/
end Go.Proofs.YtijmdlhcidjpmaaDoor.P

namespace Go.Proofs.YtijmdlhcidjpmaaDoor.P
open Go.RowKit Go.Proofs.YtijmdlhcidjpmaaDoorW.PrintWords Go.Proofs.YtijmdlhcidjpmaaDoorW.PrintLast Go.Proofs.YtijmdlhcidjpmaaDoorW.PrintMore
attribute [local go_sem] max2_int min2_int max_two min_two max_three min_three max_four min_four
set_option linter.unusedVariables false
set_option linter.unusedSimpArgs false

/-! ### spec_l01Bits: function 109 -/
end Go.Proofs.YtijmdlhcidjpmaaDoor.P

namespace Go.Proofs.YtijmdlhcidjpmaaDoor.P
open Go.RowKit Go.Proofs.YtijmdlhcidjpmaaDoorW.PrintWords Go.Proofs.YtijmdlhcidjpmaaDoorW.PrintLast Go.Proofs.YtijmdlhcidjpmaaDoorW.PrintMore
attribute [local go_sem] max2_int min2_int max_two min_two max_three min_three max_four min_four
set_option linter.unusedVariables false
set_option linter.unusedSimpArgs false

/-! ### spec_l01Within: function 83 -/
end Go.Proofs.YtijmdlhcidjpmaaDoor.P

namespace Go.Proofs.YtijmdlhcidjpmaaDoor.P
open Go.RowKit Go.Proofs.YtijmdlhcidjpmaaDoorW.PrintWords Go.Proofs.YtijmdlhcidjpmaaDoorW.PrintLast Go.Proofs.YtijmdlhcidjpmaaDoorW.PrintMore
attribute [local go_sem] max2_int min2_int max_two min_two max_three min_three max_four min_four
set_option linter.unusedVariables false
set_option linter.unusedSimpArgs false

/-! ### spec_l01Ok: function 43 -/
end Go.Proofs.YtijmdlhcidjpmaaDoor.P

namespace Go.Proofs.YtijmdlhcidjpmaaDoor.P
open Go.RowKit Go.Proofs.YtijmdlhcidjpmaaDoorW.PrintWords Go.Proofs.YtijmdlhcidjpmaaDoorW.PrintLast Go.Proofs.YtijmdlhcidjpmaaDoorW.PrintMore
attribute [local go_sem] max2_int min2_int max_two min_two max_three min_three max_four min_four
set_option linter.unusedVariables false
set_option linter.unusedSimpArgs false

/-! ### spec_FamilyText: function 15 -/
end Go.Proofs.YtijmdlhcidjpmaaDoor.P

namespace Go.Proofs.YtijmdlhcidjpmaaDoor.P
open Go.RowKit Go.Proofs.YtijmdlhcidjpmaaDoorW.PrintWords Go.Proofs.YtijmdlhcidjpmaaDoorW.PrintLast Go.Proofs.YtijmdlhcidjpmaaDoorW.PrintMore
attribute [local go_sem] max2_int min2_int max_two min_two max_three min_three max_four min_four
set_option linter.unusedVariables false
set_option linter.unusedSimpArgs false

/-! ### cmp_isNaN_int64: function 129 -/
end Go.Proofs.YtijmdlhcidjpmaaDoor.P

namespace Go.Proofs.YtijmdlhcidjpmaaDoor.P
open Go.RowKit Go.Proofs.YtijmdlhcidjpmaaDoorW.PrintWords Go.Proofs.YtijmdlhcidjpmaaDoorW.PrintLast Go.Proofs.YtijmdlhcidjpmaaDoorW.PrintMore
attribute [local go_sem] max2_int min2_int max_two min_two max_three min_three max_four min_four
set_option linter.unusedVariables false
set_option linter.unusedSimpArgs false

/-! ### cmp_Compare_int64: function 110 -/
end Go.Proofs.YtijmdlhcidjpmaaDoor.P

namespace Go.Proofs.YtijmdlhcidjpmaaDoor.P
open Go.RowKit Go.Proofs.YtijmdlhcidjpmaaDoorW.PrintWords Go.Proofs.YtijmdlhcidjpmaaDoorW.PrintLast Go.Proofs.YtijmdlhcidjpmaaDoorW.PrintMore
attribute [local go_sem] max2_int min2_int max_two min_two max_three min_three max_four min_four
set_option linter.unusedVariables false
set_option linter.unusedSimpArgs false

/-! ### slices_Compare_int64_int64: function 85 -/
end Go.Proofs.YtijmdlhcidjpmaaDoor.P

namespace Go.Proofs.YtijmdlhcidjpmaaDoor.P
open Go.RowKit Go.Proofs.YtijmdlhcidjpmaaDoorW.PrintWords Go.Proofs.YtijmdlhcidjpmaaDoorW.PrintLast Go.Proofs.YtijmdlhcidjpmaaDoorW.PrintMore
attribute [local go_sem] max2_int min2_int max_two min_two max_three min_three max_four min_four
set_option linter.unusedVariables false
set_option linter.unusedSimpArgs false

/-! ### impl_crowdOf: function 86 -/
end Go.Proofs.YtijmdlhcidjpmaaDoor.P

namespace Go.Proofs.YtijmdlhcidjpmaaDoor.P
open Go.RowKit Go.Proofs.YtijmdlhcidjpmaaDoorW.PrintWords Go.Proofs.YtijmdlhcidjpmaaDoorW.PrintLast Go.Proofs.YtijmdlhcidjpmaaDoorW.PrintMore
attribute [local go_sem] max2_int min2_int max_two min_two max_three min_three max_four min_four
set_option linter.unusedVariables false
set_option linter.unusedSimpArgs false

/-! ### impl_crowd_contains: function 87 -/
end Go.Proofs.YtijmdlhcidjpmaaDoor.P

namespace Go.Proofs.YtijmdlhcidjpmaaDoor.P
open Go.RowKit Go.Proofs.YtijmdlhcidjpmaaDoorW.PrintWords Go.Proofs.YtijmdlhcidjpmaaDoorW.PrintLast Go.Proofs.YtijmdlhcidjpmaaDoorW.PrintMore
attribute [local go_sem] max2_int min2_int max_two min_two max_three min_three max_four min_four
set_option linter.unusedVariables false
set_option linter.unusedSimpArgs false

/-! ### impl_ValidFamily: function 45 -/
end Go.Proofs.YtijmdlhcidjpmaaDoor.P

namespace Go.Proofs.YtijmdlhcidjpmaaDoor.P
open Go.RowKit Go.Proofs.YtijmdlhcidjpmaaDoorW.PrintWords Go.Proofs.YtijmdlhcidjpmaaDoorW.PrintLast Go.Proofs.YtijmdlhcidjpmaaDoorW.PrintMore
attribute [local go_sem] max2_int min2_int max_two min_two max_three min_three max_four min_four
set_option linter.unusedVariables false
set_option linter.unusedSimpArgs false

/-! ### impl_FamilyText: function 17 -/
end Go.Proofs.YtijmdlhcidjpmaaDoor.P

namespace Go.Proofs.YtijmdlhcidjpmaaDoor.P
open Go.RowKit Go.Proofs.YtijmdlhcidjpmaaDoorW.PrintWords Go.Proofs.YtijmdlhcidjpmaaDoorW.PrintLast Go.Proofs.YtijmdlhcidjpmaaDoorW.PrintMore
attribute [local go_sem] max2_int min2_int max_two min_two max_three min_three max_four min_four
set_option linter.unusedVariables false
set_option linter.unusedSimpArgs false

end Go.Proofs.YtijmdlhcidjpmaaDoor.P

namespace Go.Proofs.YtijmdlhcidjpmaaDoor.P
open Go.RowKit Go.Proofs.YtijmdlhcidjpmaaDoorW.PrintWords Go.Proofs.YtijmdlhcidjpmaaDoorW.PrintLast Go.Proofs.YtijmdlhcidjpmaaDoorW.PrintMore
attribute [local go_sem] max2_int min2_int max_two min_two max_three min_three max_four min_four
set_option linter.unusedVariables false
set_option linter.unusedSimpArgs false

end Go.Proofs.YtijmdlhcidjpmaaDoor.P

namespace Go.Proofs.YtijmdlhcidjpmaaDoor.P
open Go.RowKit Go.Proofs.YtijmdlhcidjpmaaDoorW.PrintWords Go.Proofs.YtijmdlhcidjpmaaDoorW.PrintLast Go.Proofs.YtijmdlhcidjpmaaDoorW.PrintMore
attribute [local go_sem] max2_int min2_int max_two min_two max_three min_three max_four min_four
set_option linter.unusedVariables false
set_option linter.unusedSimpArgs false

end Go.Proofs.YtijmdlhcidjpmaaDoor.P

namespace Go.Proofs.YtijmdlhcidjpmaaDoor.P
open Go.RowKit Go.Proofs.YtijmdlhcidjpmaaDoorW.PrintWords Go.Proofs.YtijmdlhcidjpmaaDoorW.PrintLast Go.Proofs.YtijmdlhcidjpmaaDoorW.PrintMore
attribute [local go_sem] max2_int min2_int max_two min_two max_three min_three max_four min_four
set_option linter.unusedVariables false
set_option linter.unusedSimpArgs false

end Go.Proofs.YtijmdlhcidjpmaaDoor.P

namespace Go.Proofs.YtijmdlhcidjpmaaDoor.P
open Go.RowKit Go.Proofs.YtijmdlhcidjpmaaDoorW.PrintWords Go.Proofs.YtijmdlhcidjpmaaDoorW.PrintLast Go.Proofs.YtijmdlhcidjpmaaDoorW.PrintMore
attribute [local go_sem] max2_int min2_int max_two min_two max_three min_three max_four min_four
set_option linter.unusedVariables false
set_option linter.unusedSimpArgs false

end Go.Proofs.YtijmdlhcidjpmaaDoor.P

namespace Go.Proofs.YtijmdlhcidjpmaaDoor.P
open Go.RowKit Go.Proofs.YtijmdlhcidjpmaaDoorW.PrintWords Go.Proofs.YtijmdlhcidjpmaaDoorW.PrintLast Go.Proofs.YtijmdlhcidjpmaaDoorW.PrintMore
attribute [local go_sem] max2_int min2_int max_two min_two max_three min_three max_four min_four
set_option linter.unusedVariables false
set_option linter.unusedSimpArgs false

/-- A small number in decimal. -/
def decS (n : Int) : ByteArray := (impl_decimal.f n).getD (⟨#[]⟩ : ByteArray)
theorem dec_both : ∀ n : Fin 100, (spec_Decimal.f 3 (n.val : Int)).map (fun b => b.data.toList) = (impl_decimal.f (n.val : Int)).map (fun b => b.data.toList) ∧ (impl_decimal.f (n.val : Int)).isSome = true ∧ ((impl_decimal.f (n.val : Int)).getD (⟨#[]⟩ : ByteArray)).data.toList.length ≤ 2 := by decide +kernel
theorem bytes_ext {a b : ByteArray} (h : a.data.toList = b.data.toList) : a = b := by
  cases a with
  | mk a =>
    cases b with
    | mk b => exact congrArg ByteArray.mk (Array.toList_inj.mp h)
theorem impl_decimal_eq {n : Int} (h0 : 0 ≤ n) (h1 : n < 100) : impl_decimal.f n = some (decS n) := by
  have h := (dec_both ⟨n.toNat, by omega⟩).2.1
  rw [show (((⟨n.toNat, by omega⟩ : Fin 100).val : Nat) : Int) = n from by simp; omega] at h
  unfold decS
  cases e : impl_decimal.f n with
  | none => rw [e] at h; cases h
  | some r => rfl
theorem spec_Decimal_ev {n : Int} (h0 : 0 ≤ n) (h1 : n < 100) : Ev (fun k => spec_Decimal.f k n) (decS n) := by
  refine Ev.of (spec_Decimal.mono _) (k := 3) ?_
  have h := (dec_both ⟨n.toNat, by omega⟩).1
  rw [show (((⟨n.toNat, by omega⟩ : Fin 100).val : Nat) : Int) = n from by simp; omega, impl_decimal_eq h0 h1] at h
  cases e : spec_Decimal.f 3 n with
  | none => rw [e] at h; cases h
  | some r =>
    rw [e] at h
    exact congrArg some (bytes_ext (Option.some.inj h))
theorem decS_size {n : Int} (h0 : 0 ≤ n) (h1 : n < 100) : (decS n).size ≤ 2 := by
  have h := (dec_both ⟨n.toNat, by omega⟩).2.2
  rw [show (((⟨n.toNat, by omega⟩ : Fin 100).val : Nat) : Int) = n from by simp; omega] at h
  exact h
theorem strOfNums_size (l : List Int) : (strOfNums l).size = l.length := by simp [strOfNums, ByteArray.size]
end Go.Proofs.YtijmdlhcidjpmaaDoor.P

namespace Go.Proofs.YtijmdlhcidjpmaaDoor.P
open Go.RowKit Go.Proofs.YtijmdlhcidjpmaaDoorW.PrintWords Go.Proofs.YtijmdlhcidjpmaaDoorW.PrintLast Go.Proofs.YtijmdlhcidjpmaaDoorW.PrintMore
attribute [local go_sem] max2_int min2_int max_two min_two max_three min_three max_four min_four
set_option linter.unusedVariables false
set_option linter.unusedSimpArgs false

def rT : List S46 → Nat
  | [] => 0
  | x :: l => (1 + mT x) + rT l
theorem rT_mL : ∀ l : List S46, rT l = mL l
  | [] => rfl
  | x :: l => by simp only [rT, mL, rT_mL l]
theorem impl_GateSize_ev : ∀ (n : Nat) (a b : Int) (l : List S46), mL l ≤ n → n ≤ 1048576 → Ev (fun k => impl_GateSize.f k a b l) ((1 + mL l : Nat) : Int) := by
  intro n
  induction n using Nat.strongRecOn with
  | _ n ih =>
    intro a0 a1 l hn hm
    have hr := rT_mL l
    have hl := mL_len l
    have key : ∀ d i : Nat, i + d = l.length → ∀ b : Nat, b + rT (l.drop i) ≤ 1048577 → Ev (fun k => impl_GateSize.l0 k (b : Int) l (l.length : Int) (i : Int)) ((b + rT (l.drop i) : Nat) : Int) := by
      intro d
      induction d with
      | zero =>
        intro i hi b hb
        rw [List.drop_eq_nil_of_le (by omega), show b + rT [] = b from rfl]
        refine Ev.step (f := fun _ => some (b : Int)) (fun k => ?_) (Ev.now _)
        simp only [impl_GateSize.l0]
        rw [if_neg (by omega)]
      | succ d ihd =>
        intro i hi b hb
        have hlt : i < l.length := by omega
        have hx := mL_mem (List.getElem_mem hlt)
        have hk := mT_kids l[i]
        rw [List.drop_eq_getElem_cons hlt, show rT (l[i] :: l.drop (i + 1)) = (1 + mT l[i]) + rT (l.drop (i + 1)) from rfl] at hb ⊢
        have hnext := ihd (i + 1) (by omega) (b + (1 + mT l[i])) (by omega)
        refine Ev.step (f := fun k => (impl_GateSize.f k l[i].f0 l[i].f1 l[i].f2).bind fun t => impl_GateSize.l0 k (wrap64 ((b : Int) + t)) l (l.length : Int) ((i + 1 : Nat) : Int)) (fun k => ?_) (Ev.bind (ih (mL l[i].f2) (by omega) _ _ _ (Nat.le_refl _) (by omega)) ?_)
        · simp only [impl_GateSize.l0]
          rw [if_pos (by omega), if_pos (by omega), if_pos (by omega), rdT_impl _ i hlt, wr (x := (i : Int) + 1) (by omega) (by omega)]
          rfl
        · rw [← hk, wr (by omega) (by omega), show (b : Int) + ((1 + mT l[i] : Nat) : Int) = ((b + (1 + mT l[i]) : Nat) : Int) by omega, show b + (1 + mT l[i] + rT (l.drop (i + 1))) = b + (1 + mT l[i]) + rT (l.drop (i + 1)) by omega]
          exact hnext
    have h := key l.length 0 (by omega) 1 (by rw [List.drop_zero]; omega)
    rw [List.drop_zero, hr] at h
    exact Ev.step (f := fun k => impl_GateSize.l0 k 1 l (l.length : Int) 0) (fun k => by simp only [impl_GateSize.f]) h

end Go.Proofs.YtijmdlhcidjpmaaDoor.P

namespace Go.Proofs.YtijmdlhcidjpmaaDoor.P
open Go.RowKit Go.Proofs.YtijmdlhcidjpmaaDoorW.PrintWords Go.Proofs.YtijmdlhcidjpmaaDoorW.PrintLast Go.Proofs.YtijmdlhcidjpmaaDoorW.PrintMore
attribute [local go_sem] max2_int min2_int max_two min_two max_three min_three max_four min_four
set_option linter.unusedVariables false
set_option linter.unusedSimpArgs false

theorem idxG_ev (p : Nat → S46 → Option Bool) (q : S46 → Bool) (xs : List S46) (hlen : xs.length ≤ 4611686018427387904) (hp : ∀ x ∈ xs, Ev (fun k => p k x) (q x)) (hm : ∀ x k, LeO (p k x) (p (k + 1) x)) :
    ∀ d i : Nat, i + d = xs.length → ∃ r : Int, Ev (fun k => idxG.l0 k (p k) xs (i : Int)) r ∧ decide (0 ≤ r) = (xs.drop i).any q := by
  have up : ∀ {r : Int} {i : Int}, Ev (fun k => idxG.l0 k (p k) xs i) r → Ev (fun k => idxG.l0 k (p (k + 1)) xs i) r := by
    rintro r i ⟨K, h⟩
    exact ⟨K, fun k hk => idxG.mono_p _ _ _ _ _ (fun x => hm x k) r (h k hk)⟩
  have one : ∀ x ∈ xs, Ev (fun k => p (k + 1) x) (q x) := fun x hx => by
    obtain ⟨K, h⟩ := hp x hx
    exact ⟨K, fun k hk => h (k + 1) (by omega)⟩
  intro d
  induction d with
  | zero =>
    intro i hi
    refine ⟨-1, Ev.step (f := fun _ => some (-1)) (fun k => ?_) (Ev.now _), ?_⟩
    · simp only [idxG.l0]
      rw [if_neg (by omega)]
    · rw [List.drop_eq_nil_of_le (by omega)]; rfl
  | succ d ih =>
    intro i hi
    have hlt : i < xs.length := by omega
    obtain ⟨r, hr, hd⟩ := ih (i + 1) (by omega)
    have hx := one _ (List.getElem_mem hlt)
    rw [List.drop_eq_getElem_cons hlt, List.any_cons]
    have step : ∀ {r : Int}, Ev (fun k => (p (k + 1) xs[i]).bind fun t => if t = true then some (i : Int) else idxG.l0 k (p (k + 1)) xs ((i + 1 : Nat) : Int)) r → Ev (fun k => idxG.l0 k (p k) xs (i : Int)) r := fun h => by
      refine Ev.step (g := fun k => idxG.l0 k (p k) xs (i : Int)) (fun k => ?_) h
      simp only [idxG.l0]
      rw [if_pos (by omega), if_pos (by omega), rdT_impl xs i hlt, wr (by omega) (by omega)]
      rfl
    cases hq : q xs[i] with
    | true =>
      refine ⟨i, step (Ev.bind hx ?_), ?_⟩
      · simp only [hq, if_true]; exact Ev.now _
      · rw [Bool.true_or]; exact decide_eq_true (by omega)
    | false =>
      refine ⟨r, step (Ev.bind hx ?_), ?_⟩
      · simp only [hq]; exact up hr
      · rw [Bool.false_or]; exact hd
theorem hasG_ev (p : Nat → S46 → Option Bool) (q : S46 → Bool) (xs : List S46) (hlen : xs.length ≤ 4611686018427387904) (hp : ∀ x ∈ xs, Ev (fun k => p k x) (q x)) (hm : ∀ x k, LeO (p k x) (p (k + 1) x)) : Ev (fun k => hasG.f k (p k) xs) (xs.any q) := by
  obtain ⟨r, hr, hd⟩ := idxG_ev p q xs hlen hp hm xs.length 0 (by omega)
  rw [List.drop_zero] at hd
  rw [← hd]
  exact Ev.bind hr (Ev.now _)
theorem not_any_allG {α : Type} (l : List α) (q : α → Bool) : (!(l.any fun a => !q a)) = l.all q := by
  induction l with
  | nil => rfl
  | cons a l ih => rw [List.any_cons, List.all_cons, ← ih, Bool.not_or, Bool.not_not]
mutual
/-- How deep a gate is. -/
def dT : S46 → Nat
  | ⟨_, _, l⟩ => 1 + dL l
def dL : List S46 → Nat
  | [] => 0
  | x :: l => max (dT x) (dL l)
end
mutual
/-- Has a gate the form of one? -/
def fT (h : Int) : S46 → Bool
  | ⟨a, b, l⟩ => if l.isEmpty then (decide (b = 0) && decide (0 ≤ a ∧ a ≤ h - 1)) else (fL h l && (decide (a = -1) && decide (1 ≤ b ∧ b ≤ (l.length : Int))))
def fL (h : Int) : List S46 → Bool
  | [] => true
  | x :: l => fT h x && fL h l
end
theorem dT_parts (x : S46) : dT x = 1 + dL x.f2 := by cases x; simp only [dT]
theorem fT_parts (h : Int) (x : S46) : fT h x = if x.f2.isEmpty then (decide (x.f1 = 0) && decide (0 ≤ x.f0 ∧ x.f0 ≤ h - 1)) else (fL h x.f2 && (decide (x.f0 = -1) && decide (1 ≤ x.f1 ∧ x.f1 ≤ (x.f2.length : Int)))) := by cases x; simp only [fT]
theorem fL_all (h : Int) : ∀ l : List S46, fL h l = l.all (fT h)
  | [] => by simp only [fL, List.all_nil]
  | x :: l => by simp only [fL, List.all_cons, fL_all h l]
theorem dL_le : ∀ (l : List S46) (n : Nat), decide (dL l ≤ n) = l.all fun x => decide (dT x ≤ n)
  | [], n => by simp [dL]
  | x :: l, n => by
    have e : dL (x :: l) = max (dT x) (dL l) := by simp only [dL]
    rw [List.all_cons, ← dL_le l n]
    by_cases h1 : dT x ≤ n
    · by_cases h2 : dL l ≤ n
      · rw [decide_eq_true h1, decide_eq_true h2, decide_eq_true (show dL (x :: l) ≤ n by omega)]; rfl
      · rw [decide_eq_false h2, Bool.and_false, decide_eq_false (show ¬ dL (x :: l) ≤ n by omega)]
    · rw [decide_eq_false h1, Bool.false_and, decide_eq_false (show ¬ dL (x :: l) ≤ n by omega)]
theorem all_and {α : Type} (p q : α → Bool) (l : List α) : (l.all fun y => p y && q y) = (l.all p && l.all q) := by
  induction l with
  | nil => rfl
  | cons x l ih =>
    rw [List.all_cons, List.all_cons, List.all_cons, ih]
    cases p x <;> cases q x <;> simp
theorem dL_nil : dL [] = 0 := by simp only [dL]
theorem dL_cons (x : S46) (l : List S46) : dL (x :: l) = max (dT x) (dL l) := by simp only [dL]
theorem dL_mL : ∀ n, ∀ l : List S46, mL l ≤ n → dL l ≤ mL l := by
  intro n
  induction n with
  | zero =>
    intro l h
    cases l with
    | nil => rw [dL_nil]; exact Nat.zero_le _
    | cons x l => simp only [mL] at h; omega
  | succ n ih =>
    intro l h
    induction l with
    | nil => rw [dL_nil]; exact Nat.zero_le _
    | cons x l ihl =>
      rw [dL_cons, dT_parts]
      simp only [mL] at h ⊢
      have hk := mT_kids x
      have h1 := ih x.f2 (by omega)
      have h2 := ihl (by omega)
      exact Nat.max_le.mpr ⟨by omega, by omega⟩
/-- What is left: exact where it suffices, and less than 0 elsewhere. -/
theorem spec_l02Left_ev : ∀ (n : Nat) (x : S46), mT x ≤ n → n ≤ 1048576 → ∀ left : Int, 0 ≤ left → left ≤ 1048576 → ∃ t : Int, Ev (fun k => spec_l02Left.f k x left) t ∧ (((1 + mT x : Nat) : Int) ≤ left → t = left - ((1 + mT x : Nat) : Int)) ∧ (¬ ((1 + mT x : Nat) : Int) ≤ left → t < 0) ∧ -1 ≤ t := by
  intro n
  induction n using Nat.strongRecOn with
  | _ n ih =>
    intro x hn hm left h0 h1
    have hk := mT_kids x
    have hr := rT_mL x.f2
    have hl := mL_len x.f2
    have key : ∀ d i : Nat, i + d = x.f2.length → ∀ b : Int, -1 ≤ b → b ≤ 1048576 → ∃ t : Int, Ev (fun k => spec_l02Left.l0 k x b (i : Int)) t ∧ ((rT (x.f2.drop i) : Int) ≤ b → t = b - rT (x.f2.drop i)) ∧ (¬ (rT (x.f2.drop i) : Int) ≤ b → t < 0) ∧ -1 ≤ t := by
      intro d
      induction d with
      | zero =>
        intro i hi b hb0 hb1
        rw [List.drop_eq_nil_of_le (by omega), show rT [] = 0 from rfl]
        refine ⟨b, Ev.step (f := fun _ => some b) (fun k => ?_) (Ev.now _), fun _ => by omega, fun _ => by omega, hb0⟩
        simp only [spec_l02Left.l0]
        rw [if_neg (by omega)]
      | succ d ihd =>
        intro i hi b hb0 hb1
        have hlt : i < x.f2.length := by omega
        have hx := mL_mem (List.getElem_mem hlt)
        rw [List.drop_eq_getElem_cons hlt, show rT (x.f2[i] :: x.f2.drop (i + 1)) = (1 + mT x.f2[i]) + rT (x.f2.drop (i + 1)) from rfl]
        by_cases hb : b ≥ 0
        · obtain ⟨t, ht, h2, h3, h4⟩ := ih (mT x.f2[i]) (by omega) x.f2[i] (Nat.le_refl _) (by omega) b hb hb1
          have hle : t ≤ 1048576 := by
            by_cases q : ((1 + mT x.f2[i] : Nat) : Int) ≤ b
            · have := h2 q; omega
            · have := h3 q; omega
          obtain ⟨u, hu, g2, g3, g4⟩ := ihd (i + 1) (by omega) t h4 hle
          refine ⟨u, Ev.step (f := fun k => (spec_l02Left.f k x.f2[i] b).bind fun t => spec_l02Left.l0 k x t ((i + 1 : Nat) : Int)) (fun k => ?_) (Ev.bind ht hu), fun q => ?_, fun q => ?_, g4⟩
          · simp only [spec_l02Left.l0]
            rw [if_pos (by omega), if_pos hb, if_pos (by omega), rdT_impl _ i hlt, wr (x := (i : Int) + 1) (by omega) (by omega)]
            rfl
          · have e := h2 (by omega)
            have := g2 (by omega)
            omega
          · by_cases q2 : ((1 + mT x.f2[i] : Nat) : Int) ≤ b
            · have e := h2 q2
              exact g3 (by omega)
            · have e := h3 q2
              exact g3 (by omega)
        · refine ⟨b, Ev.step (f := fun _ => some b) (fun k => ?_) (Ev.now _), fun q => by omega, fun q => by omega, hb0⟩
          simp only [spec_l02Left.l0]
          rw [if_pos (by omega), if_neg hb]
    obtain ⟨t, ht, h2, h3, h4⟩ := key x.f2.length 0 (by omega) (left - 1) (by omega) (by omega)
    rw [List.drop_zero, hr, ← hk] at h2 h3
    refine ⟨t, Ev.step (f := fun k => spec_l02Left.l0 k x (left - 1) 0) (fun k => by simp only [spec_l02Left.f]; rw [wr (by omega) (by omega)]) ht, fun q => ?_, fun q => ?_, h4⟩
    · have := h2 (by omega); omega
    · exact h3 (by omega)
theorem max_eq (a b : Int) : spec_l00Max.f a b = some (max a b) := by
  unfold spec_l00Max.f
  by_cases h : a > b
  · rw [if_pos h]; exact congrArg some (by omega)
  · rw [if_neg h]; exact congrArg some (by omega)
theorem spec_l02Depth_ev : ∀ (n : Nat) (x : S46), mT x ≤ n → n ≤ 1048576 → Ev (fun k => spec_l02Depth.f k x) (dT x : Int) := by
  intro n
  induction n using Nat.strongRecOn with
  | _ n ih =>
    intro x hn hm
    have hk := mT_kids x
    have hl := mL_len x.f2
    have hd := dL_mL _ x.f2 (Nat.le_refl _)
    have key : ∀ d i : Nat, i + d = x.f2.length → ∀ b : Nat, b ≤ 1048577 → dL (x.f2.drop i) ≤ 1048577 → Ev (fun k => spec_l02Depth.l0 k x (b : Int) (i : Int)) ((1 + max b (dL (x.f2.drop i)) : Nat) : Int) := by
      intro d
      induction d with
      | zero =>
        intro i hi b hb _
        rw [List.drop_eq_nil_of_le (by omega), dL_nil]
        refine Ev.step (f := fun _ => some ((1 + max b 0 : Nat) : Int)) (fun k => ?_) (Ev.now _)
        simp only [spec_l02Depth.l0]
        rw [if_neg (by omega), wr (by omega) (by omega)]
        exact congrArg some (by omega)
      | succ d ihd =>
        intro i hi b hb hdl
        have hlt : i < x.f2.length := by omega
        have hx := mL_mem (List.getElem_mem hlt)
        rw [List.drop_eq_getElem_cons hlt, dL_cons] at hdl ⊢
        have hn2 := ihd (i + 1) (by omega) (max b (dT x.f2[i])) (by omega) (by omega)
        refine Ev.step (f := fun k => (spec_l02Depth.f k x.f2[i]).bind fun t => spec_l02Depth.l0 k x (max (b : Int) t) ((i + 1 : Nat) : Int)) (fun k => ?_) (Ev.bind (ih (mT x.f2[i]) (by omega) _ (Nat.le_refl _) (by omega)) ?_)
        · simp only [spec_l02Depth.l0, max_eq, Option.bind_some]
          rw [if_pos (by omega), if_pos (by omega), rdT_impl _ i hlt, wr (x := (i : Int) + 1) (by omega) (by omega)]
          rfl
        · rw [show max (b : Int) ((dT x.f2[i] : Nat) : Int) = ((max b (dT x.f2[i]) : Nat) : Int) by omega, show max b (max (dT x.f2[i]) (dL (x.f2.drop (i + 1)))) = max (max b (dT x.f2[i])) (dL (x.f2.drop (i + 1))) by omega]
          exact hn2
    have h := key x.f2.length 0 (by omega) 0 (by omega) (by rw [List.drop_zero]; omega)
    rw [List.drop_zero, Nat.zero_max, ← dT_parts] at h
    exact Ev.step (f := fun k => spec_l02Depth.l0 k x 0 0) (fun k => by simp only [spec_l02Depth.f]) h
theorem spec_l02Form_ev (h : Int) (hh : 1 ≤ h ∧ h ≤ 7) : ∀ (n : Nat) (x : S46), mT x ≤ n → n ≤ 1048576 → Ev (fun k => spec_l02Form.f k h x) (fT h x) := by
  intro n
  induction n using Nat.strongRecOn with
  | _ n ih =>
    intro x hn hm
    have hk := mT_kids x
    have hl := mL_len x.f2
    rw [fT_parts]
    by_cases c1 : (x.f2.length : Int) = 0
    · have e0 : x.f2.isEmpty = true := by
        rw [List.isEmpty_iff]
        exact List.eq_nil_of_length_eq_zero (by omega)
      rw [if_pos e0]
      refine Ev.step (f := fun _ => some (decide (x.f1 = 0) && decide (0 ≤ x.f0 ∧ x.f0 ≤ h - 1))) (fun k => ?_) (Ev.now _)
      simp only [spec_l02Form.f]
      rw [if_pos c1, wr (by omega) (by omega)]
      by_cases c2 : x.f1 = 0
      · rw [if_pos c2, spec_l00In_eq, decide_eq_true c2, Bool.true_and]
      · rw [if_neg c2, decide_eq_false c2, Bool.false_and]
    · have e0 : ¬ x.f2.isEmpty = true := by
        rw [List.isEmpty_iff]
        intro e
        rw [e] at c1
        exact c1 rfl
      rw [if_neg e0]
      have key : ∀ d i : Nat, i + d = x.f2.length → Ev (fun k => spec_l02Form.l0 k h x (i : Int)) (fL h (x.f2.drop i) && (decide (x.f0 = -1) && decide (1 ≤ x.f1 ∧ x.f1 ≤ (x.f2.length : Int)))) := by
        intro d
        induction d with
        | zero =>
          intro i hi
          rw [List.drop_eq_nil_of_le (by omega), show fL h [] = true from by simp only [fL], Bool.true_and]
          refine Ev.step (f := fun _ => some (decide (x.f0 = -1) && decide (1 ≤ x.f1 ∧ x.f1 ≤ (x.f2.length : Int)))) (fun k => ?_) (Ev.now _)
          simp only [spec_l02Form.l0]
          rw [if_neg (by omega)]
          by_cases c2 : x.f0 = -1
          · rw [if_pos c2, spec_l00In_eq, decide_eq_true c2, Bool.true_and]
          · rw [if_neg c2, decide_eq_false c2, Bool.false_and]
        | succ d ihd =>
          intro i hi
          have hlt : i < x.f2.length := by omega
          have hx := mL_mem (List.getElem_mem hlt)
          rw [List.drop_eq_getElem_cons hlt, show fL h (x.f2[i] :: x.f2.drop (i + 1)) = (fT h x.f2[i] && fL h (x.f2.drop (i + 1))) from by simp only [fL]]
          refine Ev.step (f := fun k => (spec_l02Form.f k h x.f2[i]).bind fun t => if t = true then spec_l02Form.l0 k h x ((i + 1 : Nat) : Int) else some false) (fun k => ?_) (Ev.bind (ih (mT x.f2[i]) (by omega) _ (Nat.le_refl _) (by omega)) ?_)
          · simp only [spec_l02Form.l0]
            rw [if_pos (by omega), if_pos (by omega), rdT_impl _ i hlt, wr (x := (i : Int) + 1) (by omega) (by omega)]
            rfl
          · cases fT h x.f2[i] with
            | true => rw [Bool.true_and]; exact ihd (i + 1) (by omega)
            | false => exact Ev.now _
      have hq := key x.f2.length 0 (by omega)
      rw [List.drop_zero] at hq
      exact Ev.step (f := fun k => spec_l02Form.l0 k h x 0) (fun k => by simp only [spec_l02Form.f]; rw [if_neg c1]) hq
theorem isFormed_ev (h : Int) (hh : 1 ≤ h ∧ h ≤ 7) : ∀ (d : Nat), d ≤ 1000 → ∀ x : S46, mT x ≤ 1048576 → Ev (fun k => impl_Gate_isFormed.f k x.f0 x.f1 x.f2 h (d : Int)) (decide (dT x ≤ d) && fT h x) := by
  intro d
  induction d with
  | zero =>
    intro hd x hm
    rw [decide_eq_false (by rw [dT_parts]; omega), Bool.false_and]
    exact Ev.step (f := fun _ => some false) (fun k => by simp only [impl_Gate_isFormed.f]; rw [if_pos (by omega)]) (Ev.now _)
  | succ d ih =>
    intro hd x hm
    have hk := mT_kids x
    have hl := mL_len x.f2
    rw [fT_parts]
    by_cases c1 : (x.f2.length : Int) = 0
    · have e1 : x.f2 = [] := List.eq_nil_of_length_eq_zero (by omega)
      have e0 : x.f2.isEmpty = true := by rw [List.isEmpty_iff]; exact e1
      rw [if_pos e0, decide_eq_true (by rw [dT_parts, e1, dL_nil]; omega), Bool.true_and]
      refine Ev.step (f := fun _ => some (decide (x.f1 = 0) && decide (0 ≤ x.f0 ∧ x.f0 ≤ h - 1))) (fun k => ?_) (Ev.now _)
      simp only [impl_Gate_isFormed.f]
      rw [if_neg (by omega), if_pos c1, impl_within_eq, wr (by omega) (by omega)]
      simp only [Option.bind_some]
      by_cases c2 : x.f1 = 0
      · rw [decide_eq_true c2, Bool.true_and, beq_iff_eq.mpr c2]
        cases decide (0 ≤ x.f0 ∧ x.f0 ≤ h - 1) <;> rfl
      · rw [decide_eq_false c2, Bool.false_and, beq_eq_false_iff_ne.mpr c2]
        cases decide (0 ≤ x.f0 ∧ x.f0 ≤ h - 1) <;> rfl
    · have e0 : ¬ x.f2.isEmpty = true := by
        rw [List.isEmpty_iff]
        intro e
        rw [e] at c1
        exact c1 rfl
      rw [if_neg e0, show decide (dT x ≤ d + 1) = decide (dL x.f2 ≤ d) from by rw [dT_parts]; by_cases q : dL x.f2 ≤ d; rw [decide_eq_true q, decide_eq_true (by omega)]; rw [decide_eq_false q, decide_eq_false (by omega)]]
      by_cases c2 : x.f0 = -1
      · cases hw : decide (1 ≤ x.f1 ∧ x.f1 ≤ (x.f2.length : Int)) with
        | false =>
          rw [Bool.and_false, Bool.and_false, Bool.and_false]
          refine Ev.step (f := fun _ => some false) (fun k => ?_) (Ev.now _)
          simp only [impl_Gate_isFormed.f]
          rw [if_neg (by omega), if_neg c1, if_pos c2, impl_within_eq, hw]
          rfl
        | true =>
          rw [decide_eq_true c2, Bool.true_and, Bool.and_true, dL_le, fL_all]
          have hb := hasG_ev (fun k y => (impl_Gate_isFormed.f k y.f0 y.f1 y.f2 h (d : Int)).bind fun t => some (!t)) (fun y => !(decide (dT y ≤ d) && fT h y)) x.f2 (by omega) (fun y hy => Ev.bind (ih (by omega) y (by have := mL_mem hy; omega)) (Ev.now _)) (fun y k => LeO.bind (impl_Gate_isFormed.mono_l k _ _ _ _ _) (fun _ => LeO.refl _))
          refine Ev.step (f := fun k => (hasG.f k (fun y => (impl_Gate_isFormed.f k y.f0 y.f1 y.f2 h (d : Int)).bind fun t => some (!t)) x.f2).bind fun v => some (!v)) (fun k => ?_) (Ev.bind hb ?_)
          · simp only [impl_Gate_isFormed.f]
            rw [if_neg (by omega), if_neg c1, if_pos c2, impl_within_eq, hw, wr (by omega) (by omega), show ((d + 1 : Nat) : Int) - 1 = (d : Int) by omega]
            rfl
          · rw [not_any_allG, show (x.f2.all fun y => decide (dT y ≤ d) && fT h y) = (x.f2.all (fun x => decide (dT x ≤ d)) && x.f2.all (fT h)) from all_and _ _ _]
            exact Ev.now _
      · rw [decide_eq_false c2, Bool.false_and, Bool.and_false, Bool.and_false]
        exact Ev.step (f := fun _ => some false) (fun k => by simp only [impl_Gate_isFormed.f]; rw [if_neg (by omega), if_neg c1, if_neg c2]) (Ev.now _)
/-- Is a gate valid? -/
def okT (h : Int) (x : S46) : Bool := decide (1 ≤ h ∧ h ≤ 7) && (decide (1 + mT x ≤ 60) && (decide (dT x ≤ 12) && fT h x))
theorem spec_l02Ok_ev (h : Int) (x : S46) (hx : mT x ≤ 1048576) : Ev (fun k => spec_l02Ok.f k h x) (okT h x) := by
  unfold spec_l02Ok.f okT
  rw [spec_l00In_eq]
  simp only [Option.bind_some]
  cases h1 : decide (1 ≤ h ∧ h ≤ 7) with
  | false => exact Ev.now _
  | true =>
    have hh := of_decide_eq_true h1
    simp only [if_true, Bool.true_and]
    obtain ⟨t, ht, g1, g2, _⟩ := spec_l02Left_ev _ x (Nat.le_refl _) hx 60 (by omega) (by omega)
    refine Ev.bind ht ?_
    by_cases c1 : 1 + mT x ≤ 60
    · have := g1 (by omega)
      simp only [if_pos (show t ≥ 0 by omega), decide_eq_true c1, Bool.true_and]
      refine Ev.bind (spec_l02Depth_ev _ x (Nat.le_refl _) hx) ?_
      by_cases c2 : dT x ≤ 12
      · simp only [if_pos (show (dT x : Int) ≤ 12 by omega), decide_eq_true c2, Bool.true_and]
        exact spec_l02Form_ev h hh _ x (Nat.le_refl _) hx
      · simp only [if_neg (show ¬ (dT x : Int) ≤ 12 by omega), decide_eq_false c2, Bool.false_and]
        exact Ev.now _
    · have := g2 (by omega)
      simp only [if_neg (show ¬ t ≥ 0 by omega), decide_eq_false c1, Bool.false_and]
      exact Ev.now _
theorem impl_ValidGate_ev (h a b : Int) (l : List S46) (hm : mL l ≤ 1048576) : Ev (fun k => impl_ValidGate.f k h a b l) (okT h ⟨a, b, l⟩) := by
  have hx : mT (⟨a, b, l⟩ : S46) ≤ 1048576 := by rw [mT_kids]; exact hm
  have hk : mT (⟨a, b, l⟩ : S46) = mL l := by rw [mT_kids]
  unfold impl_ValidGate.f okT
  rw [impl_within_eq]
  simp only [Option.bind_some]
  cases h1 : decide (1 ≤ h ∧ h ≤ 7) with
  | false => exact Ev.now _
  | true =>
    have hh := of_decide_eq_true h1
    simp only [if_true, Bool.true_and]
    refine Ev.bind (isFormed_ev h hh 12 (by omega) ⟨a, b, l⟩ hx) ?_
    cases decide (dT (⟨a, b, l⟩ : S46) ≤ 12) && fT h ⟨a, b, l⟩ with
    | false => rw [Bool.and_false]; exact Ev.now _
    | true =>
      rw [Bool.and_true, hk]
      simp only [if_true]
      refine Ev.bind (impl_GateSize_ev _ a b l (Nat.le_refl _) hm) ?_
      rw [show decide (((1 + mL l : Nat) : Int) ≤ 60) = decide (1 + mL l ≤ 60) from by by_cases q : 1 + mL l ≤ 60; rw [decide_eq_true q, decide_eq_true (by omega)]; rw [decide_eq_false q, decide_eq_false (by omega)]]
      exact Ev.now _

end Go.Proofs.YtijmdlhcidjpmaaDoor.P

namespace Go.Proofs.YtijmdlhcidjpmaaDoor.P
open Go.RowKit Go.Proofs.YtijmdlhcidjpmaaDoorW.PrintWords Go.Proofs.YtijmdlhcidjpmaaDoorW.PrintLast Go.Proofs.YtijmdlhcidjpmaaDoorW.PrintMore
attribute [local go_sem] max2_int min2_int max_two min_two max_three min_three max_four min_four
set_option linter.unusedVariables false
set_option linter.unusedSimpArgs false

/-! ### laws_markGateS: function 59 (by hand) -/
end Go.Proofs.YtijmdlhcidjpmaaDoor.P

namespace Go.Proofs.YtijmdlhcidjpmaaDoor.P
open Go.RowKit Go.Proofs.YtijmdlhcidjpmaaDoorW.PrintWords Go.Proofs.YtijmdlhcidjpmaaDoorW.PrintLast Go.Proofs.YtijmdlhcidjpmaaDoorW.PrintMore
attribute [local go_sem] max2_int min2_int max_two min_two max_three min_three max_four min_four
set_option linter.unusedVariables false
set_option linter.unusedSimpArgs false

/-! ### laws_markGate: function 26 (by hand) -/
end Go.Proofs.YtijmdlhcidjpmaaDoor.P

namespace Go.Proofs.YtijmdlhcidjpmaaDoor.P
open Go.RowKit Go.Proofs.YtijmdlhcidjpmaaDoorW.PrintWords Go.Proofs.YtijmdlhcidjpmaaDoorW.PrintLast Go.Proofs.YtijmdlhcidjpmaaDoorW.PrintMore
attribute [local go_sem] max2_int min2_int max_two min_two max_three min_three max_four min_four
set_option linter.unusedVariables false
set_option linter.unusedSimpArgs false

/-! ### laws_heldGateS: function 60 -/
end Go.Proofs.YtijmdlhcidjpmaaDoor.P

namespace Go.Proofs.YtijmdlhcidjpmaaDoor.P
open Go.RowKit Go.Proofs.YtijmdlhcidjpmaaDoorW.PrintWords Go.Proofs.YtijmdlhcidjpmaaDoorW.PrintLast Go.Proofs.YtijmdlhcidjpmaaDoorW.PrintMore
attribute [local go_sem] max2_int min2_int max_two min_two max_three min_three max_four min_four
set_option linter.unusedVariables false
set_option linter.unusedSimpArgs false

/-! ### laws_heldGate: function 27 -/
end Go.Proofs.YtijmdlhcidjpmaaDoor.P

namespace Go.Proofs.YtijmdlhcidjpmaaDoor.P
open Go.RowKit Go.Proofs.YtijmdlhcidjpmaaDoorW.PrintWords Go.Proofs.YtijmdlhcidjpmaaDoorW.PrintLast Go.Proofs.YtijmdlhcidjpmaaDoorW.PrintMore
attribute [local go_sem] max2_int min2_int max_two min_two max_three min_three max_four min_four
set_option linter.unusedVariables false
set_option linter.unusedSimpArgs false

theorem rdT_mid (pre r : List S46) (y : S46) : rd_T46 (pre ++ y :: r) (pre.length : Int) = y := by simp [rd_T46]
theorem mL_cons (x : S46) (l : List S46) : mL (x :: l) = 1 + mT x + mL l := by simp only [mL]
end Go.Proofs.YtijmdlhcidjpmaaDoor.P

namespace Go.Proofs.YtijmdlhcidjpmaaDoor.P
open Go.RowKit Go.Proofs.YtijmdlhcidjpmaaDoorW.PrintWords Go.Proofs.YtijmdlhcidjpmaaDoorW.PrintLast Go.Proofs.YtijmdlhcidjpmaaDoorW.PrintMore
attribute [local go_sem] max2_int min2_int max_two min_two max_three min_three max_four min_four
set_option linter.unusedVariables false
set_option linter.unusedSimpArgs false

mutual
/-- The text of a right gate. -/
def txT : S46 → ByteArray
  | ⟨a, b, l⟩ => if l.isEmpty then strOfNums [(wrap64 (65 + a)) % 256] else ((decS b ++ (⟨#[40]⟩ : ByteArray)) ++ joinB (txL l)) ++ (⟨#[41]⟩ : ByteArray)
def txL : List S46 → List ByteArray
  | [] => []
  | x :: l => txT x :: txL l
end
theorem txT_parts (x : S46) : txT x = if x.f2.isEmpty then strOfNums [(wrap64 (65 + x.f0)) % 256] else ((decS x.f1 ++ (⟨#[40]⟩ : ByteArray)) ++ joinB (txL x.f2)) ++ (⟨#[41]⟩ : ByteArray) := by cases x; simp only [txT]
theorem txL_map : ∀ l : List S46, txL l = l.map txT
  | [] => by simp only [txL, List.map_nil]
  | x :: l => by simp only [txL, List.map_cons, txL_map l]
theorem joinB_nil : joinB [] = (⟨#[]⟩ : ByteArray) := rfl
theorem joinB_list (l : List ByteArray) : (joinB l).data.toList = Go.Lib.join (l.map (·.data.toList)) [44, 32] := by simp [joinB]
theorem joinB_one (t : ByteArray) : joinB [t] = t := bytes_ext (by rw [joinB_list, List.map_cons, List.map_nil, Go.Lib.join_one])
theorem join_tail_snoc (r : List (List UInt8)) (sep y : List UInt8) : Go.Lib.joinTail sep (r ++ [y]) = Go.Lib.joinTail sep r ++ (sep ++ y) := by simp [Go.Lib.joinTail]
theorem app_list (a b : ByteArray) : (a ++ b).data.toList = a.data.toList ++ b.data.toList := by simp
theorem joinB_snoc (u : ByteArray) (l : List ByteArray) (t : ByteArray) : joinB (u :: l ++ [t]) = (joinB (u :: l) ++ (⟨#[44, 32]⟩ : ByteArray)) ++ t := by
  apply bytes_ext
  rw [app_list, app_list, joinB_list, joinB_list, List.cons_append, List.map_cons, List.map_append, List.map_cons, List.map_nil, Go.Lib.join_cons, List.map_cons, Go.Lib.join_cons, join_tail_snoc]
  simp
theorem bapp_assoc (a b c : ByteArray) : (a ++ b) ++ c = a ++ (b ++ c) := bytes_ext (by rw [app_list, app_list, app_list, app_list, List.append_assoc])
theorem bapp_nil (a : ByteArray) : a ++ (⟨#[]⟩ : ByteArray) = a := bytes_ext (by rw [app_list]; exact List.append_nil _)
theorem joinB_size : ∀ (l : List ByteArray), (joinB l).size ≤ (l.map fun t => t.size + 2).sum := by
  intro l
  have e : (joinB l).size = (Go.Lib.join (l.map (·.data.toList)) [44, 32]).length := by rw [← joinB_list]; exact (Array.length_toList).symm
  rw [e]
  cases l with
  | nil => simp [Go.Lib.join_nil]
  | cons u l =>
    rw [List.map_cons, Go.Lib.join_length]
    have : ∀ l : List ByteArray, Go.Lib.lens (l.map (·.data.toList)) + 2 * l.length = (l.map fun t => t.size + 2).sum := by
      intro l
      induction l with
      | nil => rfl
      | cons v l ih =>
        simp only [Go.Lib.lens, List.map_cons, List.sum_cons, List.length_cons] at ih ⊢
        rw [← ih, show v.size = v.data.toList.length from (Array.length_toList).symm]
        omega
    have h := this (u :: l)
    rw [List.map_cons, List.length_cons] at h
    rw [← h, List.length_map]
    simp only [List.length_cons, List.length_nil]
    omega
theorem fL_cons2 (h : Int) (x : S46) (l : List S46) : fL h (x :: l) = (fT h x && fL h l) := by simp only [fL]
theorem fT_inner {h : Int} {x : S46} (hf : fT h x = true) (hne : x.f2 ≠ []) : (1 ≤ x.f1 ∧ x.f1 ≤ (x.f2.length : Int)) ∧ fL h x.f2 = true := by
  rw [fT_parts] at hf
  have : x.f2.isEmpty = false := by cases e : x.f2 with
    | nil => exact absurd e hne
    | cons _ _ => rfl
  rw [this] at hf
  simp only [Bool.false_eq_true, if_false, Bool.and_eq_true, decide_eq_true_eq] at hf
  exact ⟨hf.2.2, hf.1⟩
theorem tx_size (h : Int) : ∀ (n : Nat), n ≤ 98 → (∀ x : S46, mT x ≤ n → fT h x = true → (txT x).size + 4 ≤ 8 * (1 + mT x)) ∧ (∀ l : List S46, mL l ≤ n → fL h l = true → ((txL l).map fun t => t.size + 2).sum ≤ 8 * mL l) := by
  have leaf : ∀ x : S46, x.f2 = [] → (txT x).size + 4 ≤ 8 * (1 + mT x) := by
    intro x e
    rw [txT_parts, e]
    simp only [List.isEmpty_nil, if_true]
    rw [strOfNums_size, List.length_singleton]
    omega
  intro n
  induction n with
  | zero =>
    intro _
    refine ⟨fun x hx hf => ?_, fun l hl hf => ?_⟩
    · have hk := mT_kids x
      cases e : x.f2 with
      | nil => exact leaf x e
      | cons y r => rw [e, mL_cons] at hk; omega
    · cases l with
      | nil => rw [show txL ([] : List S46) = [] by simp only [txL]]; exact Nat.zero_le _
      | cons y r => rw [mL_cons] at hl; omega
  | succ n ih =>
    intro hn
    obtain ⟨ih1, ih2⟩ := ih (by omega)
    have hL : ∀ l : List S46, mL l ≤ n + 1 → fL h l = true → ((txL l).map fun t => t.size + 2).sum ≤ 8 * mL l := by
      intro l
      induction l with
      | nil => intro _ _; rw [show txL ([] : List S46) = [] by simp only [txL]]; exact Nat.zero_le _
      | cons y r ihr =>
        intro hl hf
        rw [mL_cons] at hl
        rw [fL_cons2, Bool.and_eq_true] at hf
        have h1 := ih1 y (by omega) hf.1
        have h2 := ihr (by omega) hf.2
        simp only [txL, List.map_cons, List.sum_cons]
        rw [mL_cons]
        omega
    refine ⟨fun x hx hf => ?_, hL⟩
    by_cases e : x.f2 = []
    · exact leaf x e
    · obtain ⟨⟨h1, h2⟩, h3⟩ := fT_inner hf e
      have hk := mT_kids x
      have hl := mL_len x.f2
      have h4 := hL x.f2 (by omega) h3
      have h5 := joinB_size (txL x.f2)
      have h6 := decS_size (n := x.f1) (by omega) (by omega)
      have e1 : (⟨#[40]⟩ : ByteArray).size = 1 := rfl
      have e2 : (⟨#[41]⟩ : ByteArray).size = 1 := rfl
      rw [txT_parts]
      have : x.f2.isEmpty = false := by cases e3 : x.f2 with
        | nil => exact absurd e3 e
        | cons _ _ => rfl
      rw [this]
      simp only [Bool.false_eq_true, if_false, ByteArray.size_append, e1, e2]
      omega
theorem gateText_ev (h : Int) : ∀ (n : Nat) (x : S46), mT x ≤ n → n ≤ 98 → fT h x = true → Ev (fun k => spec_l02Text.f k x) (txT x) ∧ Ev (fun k => textI.f k x) (txT x) := by
  have leaf : ∀ x : S46, x.f2 = [] → Ev (fun k => spec_l02Text.f k x) (txT x) ∧ Ev (fun k => textI.f k x) (txT x) := by
    intro x e
    rw [txT_parts, e]
    refine ⟨Ev.step (f := fun _ => some (strOfNums ([(wrap64 (65 + x.f0)) % 256] : List Int))) (fun k => ?_) (Ev.now _), Ev.step (f := fun k => impl_groupText.f k [x.f0]) (fun k => ?_) (impl_groupText_ev [x.f0] (by simp))⟩
    · simp only [spec_l02Text.f]
      rw [e, if_pos (by rfl)]
    · simp only [textI.f]
      rw [e, if_pos (by rfl)]
  intro n
  induction n with
  | zero =>
    intro x hx hn hf
    have hk := mT_kids x
    cases e : x.f2 with
    | nil => exact leaf x e
    | cons y r => rw [e, mL_cons] at hk; omega
  | succ n ih =>
    intro x hx hn hf
    by_cases hne : x.f2 = []
    · exact leaf x hne
    have hk := mT_kids x
    obtain ⟨⟨hb1, hb2⟩, hfl⟩ := fT_inner hf hne
    have hlen := mL_len x.f2
    have hpos : 0 < x.f2.length := List.length_pos_iff.mpr hne
    have hemp : x.f2.isEmpty = false := by cases e3 : x.f2 with
      | nil => exact absurd e3 hne
      | cons _ _ => rfl
    have hd := decS_size (n := x.f1) (by omega) (by omega)
    have hml : ∀ p q : List S46, mL (p ++ q) = mL p + mL q := by
      intro p q
      induction p with
      | nil => simp [mL]
      | cons u p ihp => rw [List.cons_append, mL_cons, mL_cons, ihp]; omega
    have hflm : ∀ p q : List S46, fL h (p ++ q) = (fL h p && fL h q) := by
      intro p q
      rw [fL_all, fL_all, fL_all, List.all_append]
    have e1 : (⟨#[40]⟩ : ByteArray).size = 1 := rfl
    have e2 : (⟨#[44, 32]⟩ : ByteArray).size = 2 := rfl
    have hszL : ∀ p r : List S46, p ++ r = x.f2 → (joinB (txL p)).size ≤ 8 * mL p := by
      intro p r hp
      have h1 : mL x.f2 = mL p + mL r := by rw [← hp, hml]
      have h2 : fL h p = true := by rw [← hp, hflm, Bool.and_eq_true] at hfl; exact hfl.1
      exact Nat.le_trans (joinB_size _) ((tx_size h 98 (Nat.le_refl _)).2 p (by omega) h2)
    rw [txT_parts, hemp]
    simp only [Bool.false_eq_true, if_false]
    refine ⟨?_, ?_⟩
    · have key : ∀ (r pre : List S46), pre ++ r = x.f2 → Ev (fun k => spec_l02Text.l0 k x ((decS x.f1 ++ (⟨#[40]⟩ : ByteArray)) ++ joinB (txL pre)) (pre.length : Int)) (((decS x.f1 ++ (⟨#[40]⟩ : ByteArray)) ++ joinB (txL x.f2)) ++ (⟨#[41]⟩ : ByteArray)) := by
        intro r
        induction r with
        | nil =>
          intro pre hp
          have hs := hszL pre [] hp
          rw [List.append_nil] at hp
          subst hp
          refine Ev.step (f := fun _ => some (((decS x.f1 ++ (⟨#[40]⟩ : ByteArray)) ++ joinB (txL x.f2)) ++ (⟨#[41]⟩ : ByteArray))) (fun k => ?_) (Ev.now _)
          simp only [spec_l02Text.l0]
          rw [if_neg (by omega), if_pos (by simp only [ByteArray.size_append, e1]; omega)]
        | cons z r ihr =>
          intro pre hp
          have hs := hszL pre (z :: r) hp
          have hsz : mL x.f2 = mL pre + (1 + mT z + mL r) := by rw [← hp, hml, mL_cons]
          have hfz : fT h z = true := by rw [← hp, hflm, fL_cons2, Bool.and_eq_true, Bool.and_eq_true] at hfl; exact hfl.2.1
          have hzs := (tx_size h 98 (Nat.le_refl _)).1 z (by omega) hfz
          have hll : x.f2.length = pre.length + (r.length + 1) := by rw [← hp, List.length_append, List.length_cons]
          have e3 := ihr (pre ++ [z]) (by rw [← hp, List.append_assoc]; rfl)
          rw [List.length_append, List.length_singleton] at e3
          refine Ev.step (f := fun k => (spec_l02Text.f k z).bind fun t => if t.size ≤ 1000000000 then (if 0 < (pre.length : Int) then spec_l02Text.l0 k x ((((decS x.f1 ++ (⟨#[40]⟩ : ByteArray)) ++ joinB (txL pre)) ++ (⟨#[44, 32]⟩ : ByteArray)) ++ t) ((pre.length + 1 : Nat) : Int) else spec_l02Text.l0 k x (((decS x.f1 ++ (⟨#[40]⟩ : ByteArray)) ++ joinB (txL pre)) ++ t) ((pre.length + 1 : Nat) : Int)) else none) (fun k => ?_) (Ev.bind (ih z (by omega) (by omega) hfz).1 ?_)
          · simp only [spec_l02Text.l0]
            rw [if_pos (by omega), if_pos (by omega), if_pos (by simp only [ByteArray.size_append, e1]; omega), show rd_T46 x.f2 (pre.length : Int) = z by rw [← hp]; exact rdT_mid pre r z, wr (x := (pre.length : Int) + 1) (by omega) (by omega)]
            rfl
          · simp only [if_pos (show (txT z).size ≤ 1000000000 by omega)]
            cases pre with
            | nil =>
              simp only [if_neg (show ¬ (0 < ((([] : List S46).length : Nat) : Int)) by simp)]
              rw [show txL ([] ++ [z]) = [txT z] by simp [txL], joinB_one] at e3
              rw [show txL ([] : List S46) = [] by simp only [txL], joinB_nil, bapp_nil]
              exact e3
            | cons u pre =>
              simp only [if_pos (show 0 < (((u :: pre).length : Nat) : Int) by rw [List.length_cons]; omega)]
              rw [show txL (u :: pre ++ [z]) = txT u :: txL pre ++ [txT z] by rw [txL_map, txL_map, List.cons_append, List.map_cons, List.map_append]; rfl, joinB_snoc] at e3
              rw [show txL (u :: pre) = txT u :: txL pre by simp only [txL]]
              rw [show ((decS x.f1 ++ (⟨#[40]⟩ : ByteArray)) ++ joinB (txT u :: txL pre)) ++ (⟨#[44, 32]⟩ : ByteArray) ++ txT z = (decS x.f1 ++ (⟨#[40]⟩ : ByteArray)) ++ ((joinB (txT u :: txL pre) ++ (⟨#[44, 32]⟩ : ByteArray)) ++ txT z) by simp only [bapp_assoc]]
              exact e3
      have k0 := key x.f2 [] rfl
      rw [show txL ([] : List S46) = [] by simp only [txL], joinB_nil, bapp_nil] at k0
      refine Ev.step (f := fun k => (spec_Decimal.f k x.f1).bind fun d => if d.size ≤ 1000000000 then spec_l02Text.l0 k x (d ++ (⟨#[40]⟩ : ByteArray)) 0 else none) (fun k => ?_) (Ev.bind (spec_Decimal_ev (n := x.f1) (by omega) (by omega)) ?_)
      · simp only [spec_l02Text.f]
        rw [if_neg (by omega)]
      · simp only [if_pos (show (decS x.f1).size ≤ 1000000000 by omega)]
        exact k0
    · have key : ∀ (r pre : List S46), pre ++ r = x.f2 → Ev (fun k => textI.l0 k x (txL pre) (pre.length : Int)) (((decS x.f1 ++ (⟨#[40]⟩ : ByteArray)) ++ joinB (txL x.f2)) ++ (⟨#[41]⟩ : ByteArray)) := by
        intro r
        induction r with
        | nil =>
          intro pre hp
          have hs := hszL pre [] hp
          rw [List.append_nil] at hp
          subst hp
          refine Ev.step (f := fun k => (impl_decimal.f x.f1).bind fun d => if d.size ≤ 1000000000 then (if (joinB (txL x.f2)).size ≤ 1000000000 then (if (txL x.f2).length ≤ 1000000000 then some (((d ++ (⟨#[40]⟩ : ByteArray)) ++ joinB (txL x.f2)) ++ (⟨#[41]⟩ : ByteArray)) else none) else none) else none) (fun k => ?_) ?_
          · simp only [textI.l0]
            rw [if_neg (by omega)]
          · rw [impl_decimal_eq (n := x.f1) (by omega) (by omega)]
            simp only [Option.bind_some]
            rw [if_pos (by omega), if_pos (by omega), if_pos (by rw [txL_map, List.length_map]; omega)]
            exact Ev.now _
        | cons z r ihr =>
          intro pre hp
          have hsz : mL x.f2 = mL pre + (1 + mT z + mL r) := by rw [← hp, hml, mL_cons]
          have hfz : fT h z = true := by rw [← hp, hflm, fL_cons2, Bool.and_eq_true, Bool.and_eq_true] at hfl; exact hfl.2.1
          have hlp := mL_len pre
          have hll : x.f2.length = pre.length + (r.length + 1) := by rw [← hp, List.length_append, List.length_cons]
          have e3 := ihr (pre ++ [z]) (by rw [← hp, List.append_assoc]; rfl)
          rw [List.length_append, List.length_singleton, show txL (pre ++ [z]) = txL pre ++ [txT z] by rw [txL_map, txL_map, List.map_append]; rfl] at e3
          refine Ev.step (f := fun k => (textI.f k z).bind fun t => textI.l0 k x (txL pre ++ [t]) ((pre.length + 1 : Nat) : Int)) (fun k => ?_) (Ev.bind (ih z (by omega) (by omega) hfz).2 e3)
          simp only [textI.l0]
          rw [if_pos (by omega), if_pos (by omega), show rd_T46 x.f2 (pre.length : Int) = z by rw [← hp]; exact rdT_mid pre r z, wr (x := (pre.length : Int) + 1) (by omega) (by omega)]
          simp only [if_pos (show (txL pre).length < 1048576 by rw [txL_map, List.length_map]; omega)]
          rfl
      have k0 := key x.f2 [] rfl
      rw [show txL ([] : List S46) = [] by simp only [txL]] at k0
      refine Ev.step (f := fun k => textI.l0 k x [] 0) (fun k => ?_) k0
      simp only [textI.f]
      rw [if_neg (by omega)]
def TextRes (h : Int) (x : S46) : ByteArray := if okT h x = true then txT x else (⟨#[]⟩ : ByteArray)
theorem okT_text {h : Int} {x : S46} (e : okT h x = true) : mT x ≤ 59 ∧ fT h x = true := by
  unfold okT at e
  simp only [Bool.and_eq_true, decide_eq_true_eq] at e
  exact ⟨by omega, e.2.2.2⟩
theorem spec_GateText_ev (h a b : Int) (l : List S46) (hm : mL l ≤ 1048576) : Ev (fun k => spec_GateText.f k h a b l) (TextRes h ⟨a, b, l⟩) := by
  unfold spec_GateText.f TextRes
  refine Ev.bind (spec_l02Ok_ev h ⟨a, b, l⟩ (by rw [mT_kids]; omega)) ?_
  by_cases e : okT h ⟨a, b, l⟩ = true
  · simp only [if_pos e]
    obtain ⟨h1, h2⟩ := okT_text e
    exact (gateText_ev h 59 ⟨a, b, l⟩ h1 (by omega) h2).1
  · simp only [if_neg e]; exact Ev.now _
theorem impl_GateText_ev (h a b : Int) (l : List S46) (hm : mL l ≤ 1048576) : Ev (fun k => impl_GateText.f k h a b l) (TextRes h ⟨a, b, l⟩) := by
  unfold impl_GateText.f TextRes
  refine Ev.bind (impl_ValidGate_ev h a b l (by omega)) ?_
  by_cases e : okT h ⟨a, b, l⟩ = true
  · simp only [if_pos e]
    obtain ⟨h1, h2⟩ := okT_text e
    exact (gateText_ev h 59 ⟨a, b, l⟩ h1 (by omega) h2).2
  · simp only [if_neg e]; exact Ev.now _

end Go.Proofs.YtijmdlhcidjpmaaDoor.P

/- For all arguments the program's GateText and the reference's answer alike, and the argument stays. -/
namespace Go.Proofs.YtijmdlhcidjpmaaDoor.Pure
open Go.RowKit Go.Proofs.YtijmdlhcidjpmaaDoor.P Go.Proofs.YtijmdlhcidjpmaaDoorW.PrintWords Go.Proofs.YtijmdlhcidjpmaaDoorW.PrintLast Go.Proofs.YtijmdlhcidjpmaaDoorW.PrintMore
set_option linter.unusedVariables false
set_option linter.unusedSimpArgs false

theorem wfG_ofX : ∀ {x : S41}, wfS41 x → wfG x
  | x, .mk _ _ _ h3 h4 => .mk x h3 (fun y hy => wfG_ofX (h4 y hy))
theorem FnExactGateText : laws_FnExactGateText.Pure := by
  intro h x _ hx
  have s1 := szGate_ev x.f0 x.f1 x.f2 (wfL_kids (wfG_ofX hx)) 1048576 (by omega) (by omega)
  by_cases hb : (nL x.f2 : Int) ≤ 1048576
  · rw [show szV 1048576 (nL x.f2) = 1048576 - (nL x.f2 : Int) from by unfold szV; rw [if_pos hb]] at s1
    have hm : mL (cvL x.f2) ≤ 1048576 := by rw [mL_cv]; omega
    obtain ⟨k, a1, a2, a3, a4, a5⟩ := From.now (From.and s1 (From.and (toGate_ev x.f0 x.f1 x.f2 (by omega)) (From.and (spec_GateText_ev h x.f0 x.f1 (cvL x.f2) hm) (From.and (impl_GateText_ev h x.f0 x.f1 (cvL x.f2) hm) (eqGate_same x.f0 x.f1 (cvL x.f2) hm)))))
    exact Or.inr ⟨k, _, _, a1, decide_eq_false (by omega), a2, a3, a2, a4, a2, a5⟩
  · rw [show szV 1048576 (nL x.f2) = -1 from by unfold szV; rw [if_neg hb]] at s1
    obtain ⟨k, a1⟩ := From.now s1
    exact Or.inl ⟨k, _, a1, by decide⟩

end Go.Proofs.YtijmdlhcidjpmaaDoor.Pure

/- The row of the law FnExactGateText: whatever its arguments, it answers true, and they read as before. No condition. -/
namespace Go.Proofs.YtijmdlhcidjpmaaDoor.fnExactGateText
open Go.ChangeShapes Go.WideShapes Go.ChangeAt Go.RowKit Go.Proofs.YtijmdlhcidjpmaaDoor.P Go.Proofs.YtijmdlhcidjpmaaDoorW.PrintWords Go.Proofs.YtijmdlhcidjpmaaDoorW.PrintLast Go.Proofs.YtijmdlhcidjpmaaDoorW.PrintMore
open Go.ChangeMaps (open_string shut_string)
set_option linter.unusedVariables false
theorem own : ownKnob Tryd.prog.godebug = none := by kernel_rfl
def laids : List (String × DataW Unit) := Rows.fnExactGateTextRow.laid
theorem door_met (os : Os) (args : Array Value) : laidMetH Tryd.prog laids ((World.doorLaid Tryd.prog 400 os).forCall (fun _ _ => 0) ⟨#[], args, []⟩).memory :=
  laidMetH_of_parts3 (fuel := 8) (laidMet_of_run' 8 (by kernel_rfl) (by kernel_rfl)) (by kernel_rfl) (by kernel_rfl)
theorem laidOut : laidOutB Tryd.prog = true := by kernel_rfl
set_option maxRecDepth 100000 in
theorem lifted (os : Os) (started : os.Started) (H : Type) (enc : TypeId × Value → H) :
    ReturnsInHanded {} Tryd.checked os 5 .any (fun w args => (Rows.fnExactGateTextSpec.pre enc Tryd.prog Tryd.f5 Rows.fnExactGateTextRow.domain false w args ∧ laidMetH Tryd.prog laids w) ∧ sizedMet enc Tryd.prog Tryd.f5 (OpenSpec.ofChange Rows.fnExactGateTextSpec) false w args) (Rows.fnExactGateTextSpec.post enc Tryd.prog Tryd.f5 false true false false) := by
  refine returnsInHanded_of_change_and (C := Tryd.checked) (X := fun w _ => laidMetH Tryd.prog laids w) (fun _ _ _ hh h => h.of_heap hh) own started (by kernel_rfl) Tryd.func5
    (ChangeSpec.witness_shaped (enc := enc) (C := Tryd.checked) (os := os) (X := fun w _ => laidMetH Tryd.prog laids w) false (World.doorLaid Tryd.prog 400 os) #[.int .i64 0, .agg #[.int .i64 0, .int .i64 0, .slice none 0 0]] 8 rfl (World.shaped_of_RefB (by kernel_rfl) (by kernel_rfl)) (by kernel_rfl) (by kernel_rfl) (by kernel_rfl) (door_met os _)) ?_
  intro W base args ds gs before hval0 hW _ _ hL _
  have hval : ∀ (j : Nat) t v, Tryd.f5.params[j]? = some t → args[j]? = some v → Value.okWide Tryd.prog W .any base t v := hval0
  have hW' := hW
  obtain ⟨p, q, hA0, hV, rfl, hfz, hnd⟩ := hW
  have hA : DataW.TrodAll enc Tryd.prog W 0 (fun _ => true) true Tryd.f5.params.toList args.toList ds p := hA0
  rw [Tryd.params5] at hA hval
  obtain ⟨v0, vs0, d0, ds0, p0, q0, hargs, rfl, rfl, h0, r0⟩ := trodAll_cons hA
  obtain ⟨v1, vs1, d1, ds1, p1, q1, rfl, rfl, rfl, h1, r1⟩ := trodAll_cons r0
  obtain ⟨rfl, rfl, rfl⟩ := trodAll_nil r1
  obtain rfl : args = #[v0, v1] := by cases args; simp_all
  obtain ⟨rfl, rfl⟩ := trodVars_none hV
  obtain ⟨a0, rfl, rfl, rfl, w0⟩ := open_int Tryd.underlying2 (hval 0 2 v0 rfl rfl) h0
  have k1 := h1
  have lt1 : ∀ x ∈ p1, x.block < W.heap.size := by obtain ⟨m, hm⟩ := k1; exact DataW.trod_lt m _ _ _ hm
  obtain ⟨cs1, rfl, _⟩ := okWide_struct Tryd.underlying41 (hval 1 41 v1 rfl rfl)
  obtain ⟨x1, hK1, wf1⟩ := OpensAt.any opensS41 h1
  obtain ⟨A1_2, c1_2, e1, l1_2, g1_2⟩ := k41_open hK1
  obtain rfl : cs1 = #[.int .i64 x1.f0, .int .i64 x1.f1, .slice A1_2 x1.f2.length c1_2] := by cases cs1; simpa [Value.cells] using e1
  clear hA0 hval0
  refine (P.laws_FnExactGateText.walk Pure.FnExactGateText a0 x1 _ _ W g1_2 l1_2 w0 wf1).mono fun e W' ⟨he, bel⟩ => ?_
  subst he
  exact ⟨_, rfl, _, _, _, [], _, [], hW', trodAll_mk1 (shut_bool Tryd.underlying4 _), (trodAll_cons_mk (shut_int Tryd.underlying2 w0) (trodAll_cons_mk (Below.trod laidOut (by kernel_rfl) (of_decide_eq_true (by kernel_rfl)) k1 bel lt1) trodAll_mk0)), rfl, bel.frame _, fun h => by cases h⟩
theorem over : Rows.fnExactGateTextRow.holds Tryd.pinned (OpenSpec.ofChange Rows.fnExactGateTextSpec) :=
  OpenClaim.holds_of_wide 5 Tryd.f5 rfl rfl rfl rfl rfl rfl rfl ⟨rfl, rfl, rfl, rfl, rfl⟩ rfl rfl rfl rfl rfl (by kernel_rfl) Tryd.func5 (by kernel_rfl)
    (of_decide_eq_true (by kernel_rfl)) (by unfold Func.isWrapper; first | (rw [if_pos (by decide +kernel)]; kernel_rfl) | (rw [if_neg (by decide +kernel)]; exact ⟨rfl, rfl⟩))
    (fun os started H enc _ => lifted os started H enc)
theorem proved : Rows.FnExactGateTextSaid := over
#print axioms proved
end Go.Proofs.YtijmdlhcidjpmaaDoor.fnExactGateText
namespace Go.Proofs.YtijmdlhcidjpmaaDoor
/-- The row, under a short name, for the claim. -/
theorem fnExactGateText_holds : Rows.FnExactGateTextCardSaid :=
  Claim7.holds_tied_plain_at .later [] [.data, .data, .data] true (true, "76b177948d0ae43f40923df544757246c1822bc94295df3ba3acdd2cf38c500f") true
    fnExactGateText.proved (fun _ h => by cases h) (by kernel_rfl) (fun _ h => by cases h) fnExactGateText_row_tie rfl ⟨rfl, rfl⟩ (by kernel_rfl) rfl
    (fun f fn hf hfn => by
      obtain rfl : f = 5 := Option.some.inj ((show Tryd.prog.funcNamed "loop.example/g01117/laws.FnExactGateText" = some 5 by kernel_rfl).symm.trans hf) |>.symm
      obtain rfl : fn = Tryd.f5 := (Option.some.inj (Tryd.func5.symm.trans hfn)).symm
      exact ⟨by kernel_rfl, fun j t ht => by
        rw [Tryd.params5] at ht
        have hm : t ∈ [2, 41] := by simpa using Array.mem_of_getElem? ht
        have hall : ([2, 41].all fun u => !Tryd.prog.wantsStandIn u) = true := by kernel_rfl
        exact (show Tryd.prog.wantsStandIn t = false by simpa using List.all_eq_true.1 hall t hm)⟩)
    (by kernel_rfl)
#print axioms fnExactGateText_holds
end Go.Proofs.YtijmdlhcidjpmaaDoor
