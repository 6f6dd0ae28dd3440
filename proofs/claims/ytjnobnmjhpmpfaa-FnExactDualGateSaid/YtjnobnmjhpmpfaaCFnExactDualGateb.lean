/- For all arguments the program's DualGate and the reference's answer alike, the argument stays, and the result is memory of its own. This text: part 2 of what it rests on: functions of the translation as plain Lean functions, and that the machine's calls come to their answers. -/
import Derived.Test.YtjnobnmjhpmpfaaCFnExactDualGatea
import Derived.ChangeArms
import Derived.Deep.Slices
import Derived.WideShapes
namespace Go.Proofs.Ytjnobnmjhpmpfaa.P
open Go.RowKit Go.Proofs.YtjnobnmjhpmpfaaW.PrintWords Go.Proofs.YtjnobnmjhpmpfaaW.PrintLast Go.Proofs.YtjnobnmjhpmpfaaW.PrintMore
attribute [local go_sem] max2_int min2_int max_two min_two max_three min_three max_four min_four
set_option linter.unusedVariables false
set_option linter.unusedSimpArgs false

/-! ### laws_heldGateS: function 58 -/
mutual
def laws_heldGateS.l0 : Nat → List (S29) → Int → Int → Option (Int)
  | 0, _, _, _ => none
  | k + 1, x0, x1, x5 => if x5 < (x0.length : Int) then (if 0 ≤ x5 then (if ((rd_T29 x0 x5).f0) = x1 then (if ((rd_T29 x0 x5).f1) = (wrap64 (x1 + 1)) then ((laws_heldGateS.f k ((rd_T29 x0 x5).f2) (wrap64 ((wrap64 (x1 + 1)) + 1))).bind fun t133 => (if t133 < 0 then (some (-1)) else (laws_heldGateS.l0 k x0 t133 (wrap64 (x5 + 1))))) else (some (-1))) else (some (-1))) else (none)) else (some x1)
def laws_heldGateS.f : Nat → List (S29) → Int → Option (Int)
  | 0, _, _ => none
  | k + 1, l0, a1 => laws_heldGateS.l0 k l0 a1 0
end
theorem laws_heldGateS.mono_l : ∀ k, (∀ y0 y1, LeO (laws_heldGateS.f k y0 y1) (laws_heldGateS.f (k + 1) y0 y1)) ∧ (∀ y0 y1 y2, LeO (laws_heldGateS.l0 k y0 y1 y2) (laws_heldGateS.l0 (k + 1) y0 y1 y2))
  | 0 => ⟨fun _ _ r h => by simp [laws_heldGateS.f] at h, fun _ _ _ r h => by simp [laws_heldGateS.l0] at h⟩
  | k + 1 => by
    obtain ⟨ih0, ih1⟩ := laws_heldGateS.mono_l k
    refine ⟨?_, ?_⟩
    · intro y0 y1
      unfold laws_heldGateS.f
      repeat' first
      | (with_reducible exact ih0 _ _)
      | (with_reducible exact ih1 _ _ _)
      | (with_reducible exact LeO.refl _)
      | (with_reducible exact LeO.none _)
      | (with_reducible refine LeO.ite ?_ ?_)
      | (with_reducible refine LeO.bind ?_ (fun _ => ?_))
      | exact ih0 _ _
      | exact ih1 _ _ _
      | exact LeO.none _
      | refine LeO.ite ?_ ?_
      | refine LeO.bind ?_ (fun _ => ?_)
    · intro y0 y1 y2
      unfold laws_heldGateS.l0
      repeat' first
      | (with_reducible exact ih0 _ _)
      | (with_reducible exact ih1 _ _ _)
      | (with_reducible exact LeO.refl _)
      | (with_reducible exact LeO.none _)
      | (with_reducible refine LeO.ite ?_ ?_)
      | (with_reducible refine LeO.bind ?_ (fun _ => ?_))
      | exact ih0 _ _
      | exact ih1 _ _ _
      | exact LeO.none _
      | refine LeO.ite ?_ ?_
      | refine LeO.bind ?_ (fun _ => ?_)
theorem laws_heldGateS.mono : ∀ a0 a1 k, LeO (laws_heldGateS.f k a0 a1) (laws_heldGateS.f (k + 1) a0 a1) := by
  intro a0 a1 k
  obtain ⟨ih0, ih1⟩ := laws_heldGateS.mono_l k
  exact ih0 a0 a1
set_option maxHeartbeats 8000000 in
set_option maxRecDepth 100000 in
theorem laws_heldGateS.calls (k : Nat) : ∀ (A0 : Option Addr) (c0 : Nat) (l0 : List (S29)) (a1 : Int) (r : Int) (w : World) (hr0 : Kd.C k29 w A0 l0.length l0) (hc0 : l0.length ≤ c0) (h : laws_heldGateS.f k l0 a1 = some r),
    Calls Try.prog 58 #[.slice A0 l0.length c0, .int .i64 a1] w fun e w' => e = .returned (.int .i64 r) ∧ Drawn0 w w' := by
  induction k using Nat.strongRecOn with
  | _ k ih =>
  intro A0 c0 l0 a1 r w hr0 hc0 h
  cases k with
  | zero => exact absurd h (by simp [laws_heldGateS.f])
  | succ k =>
  simp only [laws_heldGateS.f] at h
  have HR0 := Aside0.mk hr0
  have HC0 := Aside0.mk hc0
  clear hr0 hc0
  have H : (laws_heldGateS.l0 k l0 a1 0) = some r := h
  clear h
  have H' := Aside0.mk H
  clear H
  go_enter Try.func58, Try.ntmps58
  go_wp2
  go_loopg [1, 5] k (fun kq v1 v5 w' => ∃ (x1_1 : Int) (x5_1 : Int), v1 = .int .i64 x1_1 ∧ v5 = .int .i64 x5_1 ∧ Aside0 (laws_heldGateS.l0 kq l0 x1_1 x5_1 = some r) ∧ Aside0 (kq ≤ k) ∧ Drawn0 w w')
  case atStart => exact ⟨(a1), (0), (by first | rfl | (simp; done) | (simp [*]; done)), (by first | rfl | (simp; done) | (simp [*]; done)), H', ⟨Nat.le_refl _⟩, by repeat (first | exact Drawn0.refl _ | apply Drawn0.step)⟩
  case round =>
    clear H'
    try clear p2
    obtain ⟨x1_1, x5_1, rfl, rfl, HA, HK1, ⟨m1, rfl⟩⟩ := hrel
    cases gk with
    | zero => exact absurd HA.out (by simp [laws_heldGateS.l0])
    | succ k1 =>
      have H := HA.out
      clear HA
      simp only [laws_heldGateS.l0] at H
      by_cases c3 : x5_1 < (l0.length : Int)
      · rw [if_pos c3] at H
        have c3b0 : decide (x5_1 < (l0.length : Int)) = true := decide_eq_true c3
        clear c3
        by_cases c4 : 0 ≤ x5_1
        · rw [if_pos c4] at H
          have c4b0 : decide (0 ≤ x5_1) = true := decide_eq_true c4
          clear c4
          by_cases c5 : ((rd_T29 l0 x5_1).f0) = x1_1
          · rw [if_pos c5] at H
            have c5b0 : (((rd_T29 l0 x5_1).f0) == x1_1) = true := beq_iff_eq.mpr c5
            have c5b1 : (((rd_T29 l0 x5_1).f0) != x1_1) = false := bne_eq_false_iff_eq.mpr c5
            clear c5
            by_cases c6 : ((rd_T29 l0 x5_1).f1) = (wrap64 (x1_1 + 1))
            · rw [if_pos c6] at H
              have c6b0 : (((rd_T29 l0 x5_1).f1) == (wrap64 (x1_1 + 1))) = true := beq_iff_eq.mpr c6
              have c6b1 : (((rd_T29 l0 x5_1).f1) != (wrap64 (x1_1 + 1))) = false := bne_eq_false_iff_eq.mpr c6
              clear c6
              replace H := Option.bind_eq_some_iff.mp H
              obtain ⟨t133, A70, H⟩ := H
              replace H : (if t133 < 0 then (some (-1)) else (laws_heldGateS.l0 k1 l0 t133 (wrap64 (x5_1 + 1)))) = some r := H
              have A7 := Aside0.mk A70
              clear A70
              by_cases c8 : t133 < 0
              · rw [if_pos c8] at H
                have c8b0 : decide (t133 < 0) = true := decide_eq_true c8
                clear c8
                obtain rfl := Option.some.inj H
                have p130 : 0 ≤ (x5_1 : Int) := of_decide_eq_true (by first | (with_reducible assumption) | assumption)
                have q130 : x5_1 < (l0.length : Int) := of_decide_eq_true (by first | (with_reducible assumption) | assumption)
                obtain ⟨ad130, A130_2, c130_2, e130, hx130_0, hx130_1, hx130_2, hl130_2, hi130_2⟩ := at_T29 HR0.out x5_1 p130 q130
                cases e130
                have HR130_2 := Aside0.mk hi130_2
                have HC130_2 := Aside0.mk hl130_2
                clear hi130_2 hl130_2
                replace p130 := eq_true p130
                replace q130 := eq_true q130
                have p131 : 0 ≤ (x5_1 : Int) := of_decide_eq_true (by first | (with_reducible assumption) | assumption)
                have q131 : x5_1 < (l0.length : Int) := of_decide_eq_true (by first | (with_reducible assumption) | assumption)
                obtain ⟨ad131, A131_2, c131_2, e131, hx131_0, hx131_1, hx131_2, hl131_2, hi131_2⟩ := at_T29 HR0.out x5_1 p131 q131
                obtain rfl : ad130 = ad131 := (by injection e131)
                have HR131_2 := Aside0.mk hi131_2
                have HC131_2 := Aside0.mk hl131_2
                clear hi131_2 hl131_2
                replace p131 := eq_true p131
                replace q131 := eq_true q131
                have ea_ := Option.some.inj (hx130_2.symm.trans hx131_2)
                injection ea_ with ea_ en_ ec_
                subst ea_
                subst ec_
                clear en_
                have p132 : 0 ≤ (x5_1 : Int) := of_decide_eq_true (by first | (with_reducible assumption) | assumption)
                have q132 : x5_1 < (l0.length : Int) := of_decide_eq_true (by first | (with_reducible assumption) | assumption)
                obtain ⟨ad132, A132_2, c132_2, e132, hx132_0, hx132_1, hx132_2, hl132_2, hi132_2⟩ := at_T29 HR0.out x5_1 p132 q132
                obtain rfl : ad130 = ad132 := (by injection e132)
                have HR132_2 := Aside0.mk hi132_2
                have HC132_2 := Aside0.mk hl132_2
                clear hi132_2 hl132_2
                replace p132 := eq_true p132
                replace q132 := eq_true q132
                have ea_ := Option.some.inj (hx130_2.symm.trans hx132_2)
                injection ea_ with ea_ en_ ec_
                subst ea_
                subst ec_
                clear en_
                go_wp2_with (first | ((with_reducible refine gate_callee (f := 58) rfl ?_); refine goesL_ (some 36) rfl rfl Try.func58 (by kernel_rfl) rfl #[.slice A130_2 ((rd_T29 l0 x5_1).f2).length c130_2, .int .i64 (wrap64 ((wrap64 (x1_1 + 1)) + 1))] rfl (by (try simp only [List.map_toArray, List.map_cons, List.map_nil]); first | done | rfl | (simp only [List.length_drop, List.length_take]; rfl)) ?_; (with_reducible refine (ih k1 (by have := HK1.out; omega) _ _ ((rd_T29 l0 x5_1).f2) (wrap64 ((wrap64 (x1_1 + 1)) + 1)) t133 _ ?side1 ?side2 A7.out).mono ?_); (case side1 => repeat (first | exact HR132_2.out | (with_reducible refine Kd.C_alloc ?_ _) | (with_reducible refine Kd.C_drewN ?_ _) | (with_reducible refine Kd.C_drew ?_))); (case side2 => exact HC132_2.out); rintro e w' ⟨rfl, ⟨nd, rfl⟩⟩; refine ⟨_, rfl, ?_⟩))
                go_ret
                exact ⟨by first | rfl | (simp; done) | (simp [*]; done), by repeat (first | exact Drawn0.refl _ | apply Drawn0.step)⟩
              · rw [if_neg c8] at H
                have c8b0 : decide (t133 < 0) = false := decide_eq_false c8
                clear c8
                have H' := Aside0.mk H
                clear H
                have p130 : 0 ≤ (x5_1 : Int) := of_decide_eq_true (by first | (with_reducible assumption) | assumption)
                have q130 : x5_1 < (l0.length : Int) := of_decide_eq_true (by first | (with_reducible assumption) | assumption)
                obtain ⟨ad130, A130_2, c130_2, e130, hx130_0, hx130_1, hx130_2, hl130_2, hi130_2⟩ := at_T29 HR0.out x5_1 p130 q130
                cases e130
                have HR130_2 := Aside0.mk hi130_2
                have HC130_2 := Aside0.mk hl130_2
                clear hi130_2 hl130_2
                replace p130 := eq_true p130
                replace q130 := eq_true q130
                have p131 : 0 ≤ (x5_1 : Int) := of_decide_eq_true (by first | (with_reducible assumption) | assumption)
                have q131 : x5_1 < (l0.length : Int) := of_decide_eq_true (by first | (with_reducible assumption) | assumption)
                obtain ⟨ad131, A131_2, c131_2, e131, hx131_0, hx131_1, hx131_2, hl131_2, hi131_2⟩ := at_T29 HR0.out x5_1 p131 q131
                obtain rfl : ad130 = ad131 := (by injection e131)
                have HR131_2 := Aside0.mk hi131_2
                have HC131_2 := Aside0.mk hl131_2
                clear hi131_2 hl131_2
                replace p131 := eq_true p131
                replace q131 := eq_true q131
                have ea_ := Option.some.inj (hx130_2.symm.trans hx131_2)
                injection ea_ with ea_ en_ ec_
                subst ea_
                subst ec_
                clear en_
                have p132 : 0 ≤ (x5_1 : Int) := of_decide_eq_true (by first | (with_reducible assumption) | assumption)
                have q132 : x5_1 < (l0.length : Int) := of_decide_eq_true (by first | (with_reducible assumption) | assumption)
                obtain ⟨ad132, A132_2, c132_2, e132, hx132_0, hx132_1, hx132_2, hl132_2, hi132_2⟩ := at_T29 HR0.out x5_1 p132 q132
                obtain rfl : ad130 = ad132 := (by injection e132)
                have HR132_2 := Aside0.mk hi132_2
                have HC132_2 := Aside0.mk hl132_2
                clear hi132_2 hl132_2
                replace p132 := eq_true p132
                replace q132 := eq_true q132
                have ea_ := Option.some.inj (hx130_2.symm.trans hx132_2)
                injection ea_ with ea_ en_ ec_
                subst ea_
                subst ec_
                clear en_
                go_wp2_with (first | ((with_reducible refine gate_callee (f := 58) rfl ?_); refine goesL_ (some 36) rfl rfl Try.func58 (by kernel_rfl) rfl #[.slice A130_2 ((rd_T29 l0 x5_1).f2).length c130_2, .int .i64 (wrap64 ((wrap64 (x1_1 + 1)) + 1))] rfl (by (try simp only [List.map_toArray, List.map_cons, List.map_nil]); first | done | rfl | (simp only [List.length_drop, List.length_take]; rfl)) ?_; (with_reducible refine (ih k1 (by have := HK1.out; omega) _ _ ((rd_T29 l0 x5_1).f2) (wrap64 ((wrap64 (x1_1 + 1)) + 1)) t133 _ ?side1 ?side2 A7.out).mono ?_); (case side1 => repeat (first | exact HR132_2.out | (with_reducible refine Kd.C_alloc ?_ _) | (with_reducible refine Kd.C_drewN ?_ _) | (with_reducible refine Kd.C_drew ?_))); (case side2 => exact HC132_2.out); rintro e w' ⟨rfl, ⟨nd, rfl⟩⟩; refine ⟨_, rfl, ?_⟩))
                go_roundg k1
                case measure => have := HK1.out; omega
                case rel => exact ⟨(t133), (wrap64 (x5_1 + 1)), (by first | rfl | (simp; done) | (simp [*]; done)), (by first | rfl | (simp; done) | (simp [*]; done)), H', ⟨by have := HK1.out; omega⟩, by repeat (first | exact Drawn0.refl _ | apply Drawn0.step)⟩
            · rw [if_neg c6] at H
              have c6b0 : (((rd_T29 l0 x5_1).f1) == (wrap64 (x1_1 + 1))) = false := beq_eq_false_iff_ne.mpr c6
              have c6b1 : (((rd_T29 l0 x5_1).f1) != (wrap64 (x1_1 + 1))) = true := bne_iff_ne.mpr c6
              obtain rfl := Option.some.inj H
              have p130 : 0 ≤ (x5_1 : Int) := of_decide_eq_true (by first | (with_reducible assumption) | assumption)
              have q130 : x5_1 < (l0.length : Int) := of_decide_eq_true (by first | (with_reducible assumption) | assumption)
              obtain ⟨ad130, A130_2, c130_2, e130, hx130_0, hx130_1, hx130_2, hl130_2, hi130_2⟩ := at_T29 HR0.out x5_1 p130 q130
              cases e130
              have HR130_2 := Aside0.mk hi130_2
              have HC130_2 := Aside0.mk hl130_2
              clear hi130_2 hl130_2
              replace p130 := eq_true p130
              replace q130 := eq_true q130
              have p131 : 0 ≤ (x5_1 : Int) := of_decide_eq_true (by first | (with_reducible assumption) | assumption)
              have q131 : x5_1 < (l0.length : Int) := of_decide_eq_true (by first | (with_reducible assumption) | assumption)
              obtain ⟨ad131, A131_2, c131_2, e131, hx131_0, hx131_1, hx131_2, hl131_2, hi131_2⟩ := at_T29 HR0.out x5_1 p131 q131
              obtain rfl : ad130 = ad131 := (by injection e131)
              have HR131_2 := Aside0.mk hi131_2
              have HC131_2 := Aside0.mk hl131_2
              clear hi131_2 hl131_2
              replace p131 := eq_true p131
              replace q131 := eq_true q131
              have ea_ := Option.some.inj (hx130_2.symm.trans hx131_2)
              injection ea_ with ea_ en_ ec_
              subst ea_
              subst ec_
              clear en_
              go_wp2
              go_ret
              exact ⟨by first | rfl | (simp; done) | (simp [*]; done), by repeat (first | exact Drawn0.refl _ | apply Drawn0.step)⟩
          · rw [if_neg c5] at H
            have c5b0 : (((rd_T29 l0 x5_1).f0) == x1_1) = false := beq_eq_false_iff_ne.mpr c5
            have c5b1 : (((rd_T29 l0 x5_1).f0) != x1_1) = true := bne_iff_ne.mpr c5
            obtain rfl := Option.some.inj H
            have p130 : 0 ≤ (x5_1 : Int) := of_decide_eq_true (by first | (with_reducible assumption) | assumption)
            have q130 : x5_1 < (l0.length : Int) := of_decide_eq_true (by first | (with_reducible assumption) | assumption)
            obtain ⟨ad130, A130_2, c130_2, e130, hx130_0, hx130_1, hx130_2, hl130_2, hi130_2⟩ := at_T29 HR0.out x5_1 p130 q130
            cases e130
            have HR130_2 := Aside0.mk hi130_2
            have HC130_2 := Aside0.mk hl130_2
            clear hi130_2 hl130_2
            replace p130 := eq_true p130
            replace q130 := eq_true q130
            go_wp2
            go_ret
            exact ⟨by first | rfl | (simp; done) | (simp [*]; done), by repeat (first | exact Drawn0.refl _ | apply Drawn0.step)⟩
        · rw [if_neg c4] at H
          exact absurd H (by simp)
      · rw [if_neg c3] at H
        have c3b0 : decide (x5_1 < (l0.length : Int)) = false := decide_eq_false c3
        clear c3
        obtain rfl := Option.some.inj H
        go_wp2
        go_ret
        exact ⟨by first | rfl | (simp; done) | (simp [*]; done), by repeat (first | exact Drawn0.refl _ | apply Drawn0.step)⟩

end Go.Proofs.Ytjnobnmjhpmpfaa.P

namespace Go.Proofs.Ytjnobnmjhpmpfaa.P
open Go.RowKit Go.Proofs.YtjnobnmjhpmpfaaW.PrintWords Go.Proofs.YtjnobnmjhpmpfaaW.PrintLast Go.Proofs.YtjnobnmjhpmpfaaW.PrintMore
attribute [local go_sem] max2_int min2_int max_two min_two max_three min_three max_four min_four
set_option linter.unusedVariables false
set_option linter.unusedSimpArgs false

/-! ### laws_heldGate: function 24 -/
def laws_heldGate.f (k : Nat) (a0_0 : Int) (a0_1 : Int) (l0_2 : List (S29)) (a1 : Int) : Option (Int) := (laws_heldGateS.f k l0_2 a1).bind fun t135 => (if t135 < 0 then (some (-1)) else (some t135))
theorem laws_heldGate.mono : ∀ a0 a1 a2 a3 k, LeO (laws_heldGate.f k a0 a1 a2 a3) (laws_heldGate.f (k + 1) a0 a1 a2 a3) := by
  intro a0 a1 a2 a3 k
  unfold laws_heldGate.f
  repeat' first
      | (with_reducible exact laws_heldGateS.mono _ _ _)
      | (with_reducible exact LeO.refl _)
      | (with_reducible exact LeO.none _)
      | (with_reducible refine LeO.ite ?_ ?_)
      | (with_reducible refine LeO.bind ?_ (fun _ => ?_))
      | exact laws_heldGateS.mono _ _ _
      | exact LeO.none _
      | refine LeO.ite ?_ ?_
      | refine LeO.bind ?_ (fun _ => ?_)
set_option maxHeartbeats 8000000 in
set_option maxRecDepth 100000 in
theorem laws_heldGate.calls (k : Nat) (a0_0 : Int) (a0_1 : Int) (A0_2 : Option Addr) (c0_2 : Nat) (l0_2 : List (S29)) (a1 : Int) (r : Int) (w : World) (hr0_2 : Kd.C k29 w A0_2 l0_2.length l0_2) (hc0_2 : l0_2.length ≤ c0_2) (h : laws_heldGate.f k a0_0 a0_1 l0_2 a1 = some r) :
    Calls Try.prog 24 #[.agg #[.int .i64 a0_0, .int .i64 a0_1, .slice A0_2 l0_2.length c0_2], .int .i64 a1] w fun e w' => e = .returned (.int .i64 r) ∧ Below w.heap.size w w' := by
  have hu29 := Try.underlying29
  have HR0_2 := Aside0.mk hr0_2
  have HC0_2 := Aside0.mk hc0_2
  clear hr0_2 hc0_2
  have HB := Aside0.mk (Below.refl w.heap.size w)
  have H : ((laws_heldGateS.f k l0_2 a1).bind fun t135 => (if t135 < 0 then (some (-1)) else (some t135))) = some r := h
  clear h
  replace H := Option.bind_eq_some_iff.mp H
  obtain ⟨t135, A30, H⟩ := H
  replace H : (if t135 < 0 then (some (-1)) else (some t135)) = some r := H
  have A3 := Aside0.mk A30
  clear A30
  by_cases c4 : t135 < 0
  · rw [if_pos c4] at H
    have c4b0 : decide (t135 < 0) = true := decide_eq_true c4
    clear c4
    obtain rfl := Option.some.inj H
    go_enter Try.func24, Try.ntmps24
    go_wp2_with (first | ((with_reducible refine gate_dst (N := 2) rfl ?_); refine box_event ?hg (N := 2) ?hd (cs := #[.int .i64 a0_0, .int .i64 a0_1, .slice A0_2 l0_2.length c0_2]) (t := 29) ?hr ?_; (case hd => rfl); (case hg => rfl); (case hr => first | (go_simp; done) | (go_simp; rfl)); intro gb134 hg w5 hbox hb; have n0_ := Aside0.mk (below_step (by repeat (first | (with_reducible first | exact HB.out | apply below_alloc | apply pw_below_drewN | apply below_drew1) | exact HB.out)) hb); have n1_ := Aside0.mk (hbox); have n2_ := Aside0.mk ((by rw [hg]; exact (below_size (by repeat (first | (with_reducible first | exact HB.out | apply below_alloc | apply pw_below_drewN | apply below_drew1) | exact HB.out))) : w.heap.size ≤ gb134)); have n3_ := Aside0.mk ((by rw [hg]; exact (below_size (by repeat (first | (with_reducible first | exact HB.out | apply below_alloc | apply pw_below_drewN | apply below_drew1) | exact HB.out))) : w.heap.size ≤ gb134)); clear HB; have HB := n0_; have BK134 := n1_; have GW134 := n2_; have GE134 := n3_; clear n0_ n1_ n2_ n3_; clear hb hbox hg; have hcz6_0 : w5.cell? ⟨gb134, 0, none⟩ = some (.int .i64 a0_0) := (blk_cell BK134.out 0).trans rfl; have hcz6_1 : w5.cell? ⟨gb134, 1, none⟩ = some (.int .i64 a0_1) := (blk_cell BK134.out 1).trans rfl; have hcz6_2 : w5.cell? ⟨gb134, 2, none⟩ = some (.slice A0_2 l0_2.length c0_2) := (blk_cell BK134.out 2).trans rfl; have hfz6_0 := blk_frozen BK134.out 0; have hfz6_1 := blk_frozen BK134.out 1; have hfz6_2 := blk_frozen BK134.out 2) | ((with_reducible refine gate_callee (f := 58) rfl ?_); refine goesL_ (some 8) rfl rfl Try.func58 (by kernel_rfl) rfl #[.slice A0_2 l0_2.length c0_2, .int .i64 a1] rfl (by (try simp only [List.map_toArray, List.map_cons, List.map_nil]); first | done | rfl | (simp only [List.length_drop, List.length_take]; rfl)) ?_; (with_reducible refine (laws_heldGateS.calls k _ _ l0_2 a1 t135 _ ?side1 ?side2 A3.out).mono ?_); (case side1 => repeat (first | exact (Kd.C_below HR0_2.out HB.out) | (with_reducible refine Kd.C_alloc ?_ _) | (with_reducible refine Kd.C_drewN ?_ _) | (with_reducible refine Kd.C_drew ?_))); (case side2 => exact HC0_2.out); rintro e w' ⟨rfl, ⟨nd, rfl⟩⟩; refine ⟨_, rfl, ?_⟩))
    go_ret
    exact ⟨by first | rfl | (simp [errW_none, errW_some] <;> rfl) | (simp [*, errW_none, errW_some] <;> rfl), by repeat (first | (with_reducible first | exact HB.out | apply below_alloc | apply pw_below_drewN | apply below_drew1 | refine below_set ?_ GE134.out) | exact HB.out)⟩
  · rw [if_neg c4] at H
    have c4b0 : decide (t135 < 0) = false := decide_eq_false c4
    clear c4
    obtain rfl := Option.some.inj H
    go_enter Try.func24, Try.ntmps24
    go_wp2_with (first | ((with_reducible refine gate_dst (N := 2) rfl ?_); refine box_event ?hg (N := 2) ?hd (cs := #[.int .i64 a0_0, .int .i64 a0_1, .slice A0_2 l0_2.length c0_2]) (t := 29) ?hr ?_; (case hd => rfl); (case hg => rfl); (case hr => first | (go_simp; done) | (go_simp; rfl)); intro gb134 hg w7 hbox hb; have n0_ := Aside0.mk (below_step (by repeat (first | (with_reducible first | exact HB.out | apply below_alloc | apply pw_below_drewN | apply below_drew1) | exact HB.out)) hb); have n1_ := Aside0.mk (hbox); have n2_ := Aside0.mk ((by rw [hg]; exact (below_size (by repeat (first | (with_reducible first | exact HB.out | apply below_alloc | apply pw_below_drewN | apply below_drew1) | exact HB.out))) : w.heap.size ≤ gb134)); have n3_ := Aside0.mk ((by rw [hg]; exact (below_size (by repeat (first | (with_reducible first | exact HB.out | apply below_alloc | apply pw_below_drewN | apply below_drew1) | exact HB.out))) : w.heap.size ≤ gb134)); clear HB; have HB := n0_; have BK134 := n1_; have GW134 := n2_; have GE134 := n3_; clear n0_ n1_ n2_ n3_; clear hb hbox hg; have hcz8_0 : w7.cell? ⟨gb134, 0, none⟩ = some (.int .i64 a0_0) := (blk_cell BK134.out 0).trans rfl; have hcz8_1 : w7.cell? ⟨gb134, 1, none⟩ = some (.int .i64 a0_1) := (blk_cell BK134.out 1).trans rfl; have hcz8_2 : w7.cell? ⟨gb134, 2, none⟩ = some (.slice A0_2 l0_2.length c0_2) := (blk_cell BK134.out 2).trans rfl; have hfz8_0 := blk_frozen BK134.out 0; have hfz8_1 := blk_frozen BK134.out 1; have hfz8_2 := blk_frozen BK134.out 2) | ((with_reducible refine gate_callee (f := 58) rfl ?_); refine goesL_ (some 8) rfl rfl Try.func58 (by kernel_rfl) rfl #[.slice A0_2 l0_2.length c0_2, .int .i64 a1] rfl (by (try simp only [List.map_toArray, List.map_cons, List.map_nil]); first | done | rfl | (simp only [List.length_drop, List.length_take]; rfl)) ?_; (with_reducible refine (laws_heldGateS.calls k _ _ l0_2 a1 t135 _ ?side1 ?side2 A3.out).mono ?_); (case side1 => repeat (first | exact (Kd.C_below HR0_2.out HB.out) | (with_reducible refine Kd.C_alloc ?_ _) | (with_reducible refine Kd.C_drewN ?_ _) | (with_reducible refine Kd.C_drew ?_))); (case side2 => exact HC0_2.out); rintro e w' ⟨rfl, ⟨nd, rfl⟩⟩; refine ⟨_, rfl, ?_⟩))
    go_ret
    exact ⟨by first | rfl | (simp [errW_none, errW_some] <;> rfl) | (simp [*, errW_none, errW_some] <;> rfl), by repeat (first | (with_reducible first | exact HB.out | apply below_alloc | apply pw_below_drewN | apply below_drew1 | refine below_set ?_ GE134.out) | exact HB.out)⟩

end Go.Proofs.Ytjnobnmjhpmpfaa.P

namespace Go.Proofs.Ytjnobnmjhpmpfaa.P
open Go.RowKit Go.Proofs.YtjnobnmjhpmpfaaW.PrintWords Go.Proofs.YtjnobnmjhpmpfaaW.PrintLast Go.Proofs.YtjnobnmjhpmpfaaW.PrintMore
attribute [local go_sem] max2_int min2_int max_two min_two max_three min_three max_four min_four
set_option linter.unusedVariables false
set_option linter.unusedSimpArgs false

/-! ### laws_szGateS: function 43 -/
mutual
def laws_szGateS.l0 : Nat → List (S24) → Int → Int → Option (Int)
  | 0, _, _, _ => none
  | k + 1, x0, x1, x5 => if x5 < (x0.length : Int) then (if 0 ≤ x5 then ((laws_szGate.f k ((rd_T24 x0 x5).f0) ((rd_T24 x0 x5).f1) ((rd_T24 x0 x5).f2) x1).bind fun t108 => (if t108 < 0 then (some (-1)) else (laws_szGateS.l0 k x0 t108 (wrap64 (x5 + 1))))) else (none)) else (some x1)
def laws_szGateS.f : Nat → List (S24) → Int → Option (Int)
  | 0, _, _ => none
  | k + 1, l0, a1 => if (wrap64 (a1 - (l0.length : Int))) < 0 then (some (-1)) else (laws_szGateS.l0 k l0 (wrap64 (a1 - (l0.length : Int))) 0)
def laws_szGate.f : Nat → Int → Int → (List (S24)) → Int → Option (Int)
  | 0, _, _, _, _ => none
  | k + 1, a0_0, a0_1, l0_2, a1 => (laws_szGateS.f k l0_2 a1).bind fun t106 => (if t106 < 0 then (some (-1)) else (some t106))
end
theorem laws_szGateS.mono_l : ∀ k, (∀ y0 y1, LeO (laws_szGateS.f k y0 y1) (laws_szGateS.f (k + 1) y0 y1)) ∧ (∀ y0 y1 y2, LeO (laws_szGateS.l0 k y0 y1 y2) (laws_szGateS.l0 (k + 1) y0 y1 y2)) ∧ (∀ y0 y1 y2 y3, LeO (laws_szGate.f k y0 y1 y2 y3) (laws_szGate.f (k + 1) y0 y1 y2 y3))
  | 0 => ⟨fun _ _ r h => by simp [laws_szGateS.f] at h, fun _ _ _ r h => by simp [laws_szGateS.l0] at h, fun _ _ _ _ r h => by simp [laws_szGate.f] at h⟩
  | k + 1 => by
    obtain ⟨ih0, ih1, ih2⟩ := laws_szGateS.mono_l k
    refine ⟨?_, ?_, ?_⟩
    · intro y0 y1
      unfold laws_szGateS.f
      repeat' first
      | (with_reducible exact ih0 _ _)
      | (with_reducible exact ih1 _ _ _)
      | (with_reducible exact ih2 _ _ _ _)
      | (with_reducible exact LeO.refl _)
      | (with_reducible exact LeO.none _)
      | (with_reducible refine LeO.ite ?_ ?_)
      | (with_reducible refine LeO.bind ?_ (fun _ => ?_))
      | exact ih0 _ _
      | exact ih1 _ _ _
      | exact ih2 _ _ _ _
      | exact LeO.none _
      | refine LeO.ite ?_ ?_
      | refine LeO.bind ?_ (fun _ => ?_)
    · intro y0 y1 y2
      unfold laws_szGateS.l0
      repeat' first
      | (with_reducible exact ih0 _ _)
      | (with_reducible exact ih1 _ _ _)
      | (with_reducible exact ih2 _ _ _ _)
      | (with_reducible exact LeO.refl _)
      | (with_reducible exact LeO.none _)
      | (with_reducible refine LeO.ite ?_ ?_)
      | (with_reducible refine LeO.bind ?_ (fun _ => ?_))
      | exact ih0 _ _
      | exact ih1 _ _ _
      | exact ih2 _ _ _ _
      | exact LeO.none _
      | refine LeO.ite ?_ ?_
      | refine LeO.bind ?_ (fun _ => ?_)
    · intro y0 y1 y2 y3
      unfold laws_szGate.f
      repeat' first
      | (with_reducible exact ih0 _ _)
      | (with_reducible exact ih1 _ _ _)
      | (with_reducible exact ih2 _ _ _ _)
      | (with_reducible exact LeO.refl _)
      | (with_reducible exact LeO.none _)
      | (with_reducible refine LeO.ite ?_ ?_)
      | (with_reducible refine LeO.bind ?_ (fun _ => ?_))
      | exact ih0 _ _
      | exact ih1 _ _ _
      | exact ih2 _ _ _ _
      | exact LeO.none _
      | refine LeO.ite ?_ ?_
      | refine LeO.bind ?_ (fun _ => ?_)
theorem laws_szGateS.mono : ∀ a0 a1 k, LeO (laws_szGateS.f k a0 a1) (laws_szGateS.f (k + 1) a0 a1) := by
  intro a0 a1 k
  obtain ⟨ih0, ih1, ih2⟩ := laws_szGateS.mono_l k
  exact ih0 a0 a1
theorem laws_szGate.mono : ∀ a0 a1 a2 a3 k, LeO (laws_szGate.f k a0 a1 a2 a3) (laws_szGate.f (k + 1) a0 a1 a2 a3) := by
  intro a0 a1 a2 a3 k
  have q := laws_szGateS.mono_l k
  exact q.2.2 a0 a1 a2 a3
set_option maxHeartbeats 8000000 in
set_option maxRecDepth 100000 in
theorem laws_szGate.calls_of (k : Nat) (IH : ∀ (A0 : Option Addr) (c0 : Nat) (l0 : List (S24)) (a1 : Int) (r : Int) (w : World) (hr0 : Kd.C k24 w A0 l0.length l0) (hc0 : l0.length ≤ c0) (h : laws_szGateS.f k l0 a1 = some r), Calls Try.prog 43 #[.slice A0 l0.length c0, .int .i64 a1] w fun e w' => e = .returned (.int .i64 r) ∧ Below w.heap.size w w') (a0_0 : Int) (a0_1 : Int) (A0_2 : Option Addr) (c0_2 : Nat) (l0_2 : List (S24)) (a1 : Int) (r : Int) (w : World) (hr0_2 : Kd.C k24 w A0_2 l0_2.length l0_2) (hc0_2 : l0_2.length ≤ c0_2) (h : laws_szGate.f (k + 1) a0_0 a0_1 l0_2 a1 = some r) :
    Calls Try.prog 12 #[.agg #[.int .i64 a0_0, .int .i64 a0_1, .slice A0_2 l0_2.length c0_2], .int .i64 a1] w fun e w' => e = .returned (.int .i64 r) ∧ Below w.heap.size w w' := by
  simp only [laws_szGate.f] at h
  have hu24 := Try.underlying24
  have HR0_2 := Aside0.mk hr0_2
  have HC0_2 := Aside0.mk hc0_2
  clear hr0_2 hc0_2
  have HB := Aside0.mk (Below.refl w.heap.size w)
  have H : ((laws_szGateS.f k l0_2 a1).bind fun t106 => (if t106 < 0 then (some (-1)) else (some t106))) = some r := h
  clear h
  replace H := Option.bind_eq_some_iff.mp H
  obtain ⟨t106, A30, H⟩ := H
  replace H : (if t106 < 0 then (some (-1)) else (some t106)) = some r := H
  have A3 := Aside0.mk A30
  clear A30
  by_cases c4 : t106 < 0
  · rw [if_pos c4] at H
    have c4b0 : decide (t106 < 0) = true := decide_eq_true c4
    clear c4
    obtain rfl := Option.some.inj H
    go_enter Try.func12, Try.ntmps12
    go_wp2_with (first | ((with_reducible refine gate_dst (N := 2) rfl ?_); refine box_event ?hg (N := 2) ?hd (cs := #[.int .i64 a0_0, .int .i64 a0_1, .slice A0_2 l0_2.length c0_2]) (t := 24) ?hr ?_; (case hd => rfl); (case hg => rfl); (case hr => first | (go_simp; done) | (go_simp; rfl)); intro gb105 hg w5 hbox hb; have n0_ := Aside0.mk (below_step (by repeat (first | (with_reducible first | exact HB.out | apply below_alloc | apply pw_below_drewN | apply below_drew1) | exact HB.out)) hb); have n1_ := Aside0.mk (hbox); have n2_ := Aside0.mk ((by rw [hg]; exact (below_size (by repeat (first | (with_reducible first | exact HB.out | apply below_alloc | apply pw_below_drewN | apply below_drew1) | exact HB.out))) : w.heap.size ≤ gb105)); have n3_ := Aside0.mk ((by rw [hg]; exact (below_size (by repeat (first | (with_reducible first | exact HB.out | apply below_alloc | apply pw_below_drewN | apply below_drew1) | exact HB.out))) : w.heap.size ≤ gb105)); clear HB; have HB := n0_; have BK105 := n1_; have GW105 := n2_; have GE105 := n3_; clear n0_ n1_ n2_ n3_; clear hb hbox hg; have hcz6_0 : w5.cell? ⟨gb105, 0, none⟩ = some (.int .i64 a0_0) := (blk_cell BK105.out 0).trans rfl; have hcz6_1 : w5.cell? ⟨gb105, 1, none⟩ = some (.int .i64 a0_1) := (blk_cell BK105.out 1).trans rfl; have hcz6_2 : w5.cell? ⟨gb105, 2, none⟩ = some (.slice A0_2 l0_2.length c0_2) := (blk_cell BK105.out 2).trans rfl; have hfz6_0 := blk_frozen BK105.out 0; have hfz6_1 := blk_frozen BK105.out 1; have hfz6_2 := blk_frozen BK105.out 2) | ((with_reducible refine gate_callee (f := 43) rfl ?_); refine goesL_ (some 8) rfl rfl Try.func43 (by kernel_rfl) rfl #[.slice A0_2 l0_2.length c0_2, .int .i64 a1] rfl (by (try simp only [List.map_toArray, List.map_cons, List.map_nil]); first | done | rfl | (simp only [List.length_drop, List.length_take]; rfl)) ?_; (with_reducible refine (IH _ _ l0_2 a1 t106 _ ?side1 ?side2 A3.out).mono ?_); (case side1 => repeat (first | exact (Kd.C_below HR0_2.out HB.out) | (with_reducible refine Kd.C_alloc ?_ _) | (with_reducible refine Kd.C_drewN ?_ _) | (with_reducible refine Kd.C_drew ?_))); (case side2 => exact HC0_2.out); rintro e w7 ⟨rfl, hb⟩; refine ⟨_, rfl, ?_⟩; have n0_ := Aside0.mk (blk_below (g := gb105) (o := .cells #[.int .i64 a0_0, .int .i64 a0_1, .slice A0_2 l0_2.length c0_2] 24 (0, 0)) (by (with_reducible repeat (first | refine blk_drewN ?_ _ | refine blk_drew ?_ | refine blk_alloc ?_ _)); exact BK105.out) hb); have n1_ := Aside0.mk (below_step (by repeat (first | (with_reducible first | exact HB.out | apply below_alloc | apply pw_below_drewN | apply below_drew1 | refine below_set ?_ GE105.out) | exact HB.out)) hb); clear BK105; clear HB; have BK105 := n0_; have HB := n1_; clear n0_ n1_; (try clear hb); (try clear hb2); (try clear hk); (try clear hi)))
    go_ret
    exact ⟨by first | rfl | (simp [errW_none, errW_some] <;> rfl) | (simp [*, errW_none, errW_some] <;> rfl), by repeat (first | (with_reducible first | exact HB.out | apply below_alloc | apply pw_below_drewN | apply below_drew1 | refine below_set ?_ GE105.out) | exact HB.out)⟩
  · rw [if_neg c4] at H
    have c4b0 : decide (t106 < 0) = false := decide_eq_false c4
    clear c4
    obtain rfl := Option.some.inj H
    go_enter Try.func12, Try.ntmps12
    go_wp2_with (first | ((with_reducible refine gate_dst (N := 2) rfl ?_); refine box_event ?hg (N := 2) ?hd (cs := #[.int .i64 a0_0, .int .i64 a0_1, .slice A0_2 l0_2.length c0_2]) (t := 24) ?hr ?_; (case hd => rfl); (case hg => rfl); (case hr => first | (go_simp; done) | (go_simp; rfl)); intro gb105 hg w8 hbox hb; have n0_ := Aside0.mk (below_step (by repeat (first | (with_reducible first | exact HB.out | apply below_alloc | apply pw_below_drewN | apply below_drew1) | exact HB.out)) hb); have n1_ := Aside0.mk (hbox); have n2_ := Aside0.mk ((by rw [hg]; exact (below_size (by repeat (first | (with_reducible first | exact HB.out | apply below_alloc | apply pw_below_drewN | apply below_drew1) | exact HB.out))) : w.heap.size ≤ gb105)); have n3_ := Aside0.mk ((by rw [hg]; exact (below_size (by repeat (first | (with_reducible first | exact HB.out | apply below_alloc | apply pw_below_drewN | apply below_drew1) | exact HB.out))) : w.heap.size ≤ gb105)); clear HB; have HB := n0_; have BK105 := n1_; have GW105 := n2_; have GE105 := n3_; clear n0_ n1_ n2_ n3_; clear hb hbox hg; have hcz9_0 : w8.cell? ⟨gb105, 0, none⟩ = some (.int .i64 a0_0) := (blk_cell BK105.out 0).trans rfl; have hcz9_1 : w8.cell? ⟨gb105, 1, none⟩ = some (.int .i64 a0_1) := (blk_cell BK105.out 1).trans rfl; have hcz9_2 : w8.cell? ⟨gb105, 2, none⟩ = some (.slice A0_2 l0_2.length c0_2) := (blk_cell BK105.out 2).trans rfl; have hfz9_0 := blk_frozen BK105.out 0; have hfz9_1 := blk_frozen BK105.out 1; have hfz9_2 := blk_frozen BK105.out 2) | ((with_reducible refine gate_callee (f := 43) rfl ?_); refine goesL_ (some 8) rfl rfl Try.func43 (by kernel_rfl) rfl #[.slice A0_2 l0_2.length c0_2, .int .i64 a1] rfl (by (try simp only [List.map_toArray, List.map_cons, List.map_nil]); first | done | rfl | (simp only [List.length_drop, List.length_take]; rfl)) ?_; (with_reducible refine (IH _ _ l0_2 a1 t106 _ ?side1 ?side2 A3.out).mono ?_); (case side1 => repeat (first | exact (Kd.C_below HR0_2.out HB.out) | (with_reducible refine Kd.C_alloc ?_ _) | (with_reducible refine Kd.C_drewN ?_ _) | (with_reducible refine Kd.C_drew ?_))); (case side2 => exact HC0_2.out); rintro e w10 ⟨rfl, hb⟩; refine ⟨_, rfl, ?_⟩; have n0_ := Aside0.mk (blk_below (g := gb105) (o := .cells #[.int .i64 a0_0, .int .i64 a0_1, .slice A0_2 l0_2.length c0_2] 24 (0, 0)) (by (with_reducible repeat (first | refine blk_drewN ?_ _ | refine blk_drew ?_ | refine blk_alloc ?_ _)); exact BK105.out) hb); have n1_ := Aside0.mk (below_step (by repeat (first | (with_reducible first | exact HB.out | apply below_alloc | apply pw_below_drewN | apply below_drew1 | refine below_set ?_ GE105.out) | exact HB.out)) hb); clear BK105; clear HB; have BK105 := n0_; have HB := n1_; clear n0_ n1_; (try clear hb); (try clear hb2); (try clear hk); (try clear hi)))
    go_ret
    exact ⟨by first | rfl | (simp [errW_none, errW_some] <;> rfl) | (simp [*, errW_none, errW_some] <;> rfl), by repeat (first | (with_reducible first | exact HB.out | apply below_alloc | apply pw_below_drewN | apply below_drew1 | refine below_set ?_ GE105.out) | exact HB.out)⟩
set_option maxHeartbeats 8000000 in
set_option maxRecDepth 100000 in
theorem laws_szGateS.calls (k : Nat) : ∀ (A0 : Option Addr) (c0 : Nat) (l0 : List (S24)) (a1 : Int) (r : Int) (w : World) (hr0 : Kd.C k24 w A0 l0.length l0) (hc0 : l0.length ≤ c0) (h : laws_szGateS.f k l0 a1 = some r),
    Calls Try.prog 43 #[.slice A0 l0.length c0, .int .i64 a1] w fun e w' => e = .returned (.int .i64 r) ∧ Below w.heap.size w w' := by
  induction k using Nat.strongRecOn with
  | _ k ih =>
  have ihG : ∀ m, m < k → ∀ (a0_0 : Int) (a0_1 : Int) (A0_2 : Option Addr) (c0_2 : Nat) (l0_2 : List (S24)) (a1 : Int) (r : Int) (w : World) (hr0_2 : Kd.C k24 w A0_2 l0_2.length l0_2) (hc0_2 : l0_2.length ≤ c0_2) (h : laws_szGate.f m a0_0 a0_1 l0_2 a1 = some r), Calls Try.prog 12 #[.agg #[.int .i64 a0_0, .int .i64 a0_1, .slice A0_2 l0_2.length c0_2], .int .i64 a1] w fun e w' => e = .returned (.int .i64 r) ∧ Below w.heap.size w w' := by
    intro m hm
    cases m with
    | zero => intro a0_0 a0_1 A0_2 c0_2 l0_2 a1 r w hr0_2 hc0_2 h; exact absurd h (by simp [laws_szGate.f])
    | succ m => exact fun a0_0 a0_1 A0_2 c0_2 l0_2 a1 r w hr0_2 hc0_2 h => laws_szGate.calls_of m (ih m (by omega)) a0_0 a0_1 A0_2 c0_2 l0_2 a1 r w hr0_2 hc0_2 h
  intro A0 c0 l0 a1 r w hr0 hc0 h
  cases k with
  | zero => exact absurd h (by simp [laws_szGateS.f])
  | succ k =>
  simp only [laws_szGateS.f] at h
  have hu24 := Try.underlying24
  have HR0 := Aside0.mk hr0
  have HC0 := Aside0.mk hc0
  clear hr0 hc0
  have HB := Aside0.mk (Below.refl w.heap.size w)
  have H : (if (wrap64 (a1 - (l0.length : Int))) < 0 then (some (-1)) else (laws_szGateS.l0 k l0 (wrap64 (a1 - (l0.length : Int))) 0)) = some r := h
  clear h
  by_cases c3 : (wrap64 (a1 - (l0.length : Int))) < 0
  · rw [if_pos c3] at H
    have c3b0 : decide ((wrap64 (a1 - (l0.length : Int))) < 0) = true := decide_eq_true c3
    clear c3
    obtain rfl := Option.some.inj H
    go_enter Try.func43, Try.ntmps43
    go_wp2
    go_ret
    exact ⟨by first | rfl | (simp [errW_none, errW_some] <;> rfl) | (simp [*, errW_none, errW_some] <;> rfl), by repeat (first | (with_reducible first | exact HB.out | apply below_alloc | apply pw_below_drewN | apply below_drew1) | exact HB.out)⟩
  · rw [if_neg c3] at H
    have c3b0 : decide ((wrap64 (a1 - (l0.length : Int))) < 0) = false := decide_eq_false c3
    clear c3
    have H' := Aside0.mk H
    clear H
    go_enter Try.func43, Try.ntmps43
    go_wp2
    go_loopg [1, 5] k (fun kq v1 v5 w' => ∃ (x1_1 : Int) (x5_1 : Int), v1 = .int .i64 x1_1 ∧ v5 = .int .i64 x5_1 ∧ Aside0 (laws_szGateS.l0 kq l0 x1_1 x5_1 = some r) ∧ Aside0 (kq ≤ k) ∧ Aside0 (Below w.heap.size w w'))
    case atStart => exact ⟨(wrap64 (a1 - (l0.length : Int))), (0), (by first | rfl | (simp; done) | (simp [*]; done)), (by first | rfl | (simp; done) | (simp [*]; done)), H', ⟨Nat.le_refl _⟩, ⟨by repeat (first | (with_reducible first | exact HB.out | apply below_alloc | apply pw_below_drewN | apply below_drew1) | exact HB.out)⟩⟩
    case round =>
      clear H'
      try clear p2
      try clear c3
      try clear c3b0
      obtain ⟨x1_1, x5_1, rfl, rfl, HA, HK1, HB⟩ := hrel
      cases gk with
      | zero => exact absurd HA.out (by simp [laws_szGateS.l0])
      | succ k1 =>
        have H := HA.out
        clear HA
        simp only [laws_szGateS.l0] at H
        by_cases c4 : x5_1 < (l0.length : Int)
        · rw [if_pos c4] at H
          have c4b0 : decide (x5_1 < (l0.length : Int)) = true := decide_eq_true c4
          clear c4
          by_cases c5 : 0 ≤ x5_1
          · rw [if_pos c5] at H
            have c5b0 : decide (0 ≤ x5_1) = true := decide_eq_true c5
            clear c5
            replace H := Option.bind_eq_some_iff.mp H
            obtain ⟨t108, A60, H⟩ := H
            replace H : (if t108 < 0 then (some (-1)) else (laws_szGateS.l0 k1 l0 t108 (wrap64 (x5_1 + 1)))) = some r := H
            have A6 := Aside0.mk A60
            clear A60
            by_cases c7 : t108 < 0
            · rw [if_pos c7] at H
              have c7b0 : decide (t108 < 0) = true := decide_eq_true c7
              clear c7
              obtain rfl := Option.some.inj H
              have p107 : 0 ≤ (x5_1 : Int) := of_decide_eq_true (by first | (with_reducible assumption) | assumption)
              have q107 : x5_1 < (l0.length : Int) := of_decide_eq_true (by first | (with_reducible assumption) | assumption)
              obtain ⟨ad107, A107_2, c107_2, e107, hx107_0, hx107_1, hx107_2, hl107_2, hi107_2⟩ := at_T24 HR0.out x5_1 p107 q107
              cases e107
              replace hx107_0 := (HB.out.cell (World.block_lt_of_cell? w _ hx107_0)).trans hx107_0
              replace hx107_1 := (HB.out.cell (World.block_lt_of_cell? w _ hx107_1)).trans hx107_1
              replace hx107_2 := (HB.out.cell (World.block_lt_of_cell? w _ hx107_2)).trans hx107_2
              have HR107_2 := Aside0.mk hi107_2
              have HC107_2 := Aside0.mk hl107_2
              clear hi107_2 hl107_2
              replace p107 := eq_true p107
              replace q107 := eq_true q107
              go_wp2_with (first | ((with_reducible refine gate_callee (f := 12) rfl ?_); refine goesL_ (some 23) rfl rfl Try.func12 (by kernel_rfl) rfl #[.agg #[.int .i64 ((rd_T24 l0 x5_1).f0), .int .i64 ((rd_T24 l0 x5_1).f1), .slice A107_2 ((rd_T24 l0 x5_1).f2).length c107_2], .int .i64 x1_1] rfl (by (try simp only [List.map_toArray, List.map_cons, List.map_nil]); first | done | rfl | (simp only [List.length_drop, List.length_take]; rfl)) ?_; (with_reducible refine (ihG k1 (by have := HK1.out; omega) ((rd_T24 l0 x5_1).f0) ((rd_T24 l0 x5_1).f1) _ _ ((rd_T24 l0 x5_1).f2) x1_1 t108 _ ?side1 ?side2 A6.out).mono ?_); (case side1 => repeat (first | exact (Kd.C_below HR107_2.out HB.out) | (with_reducible refine Kd.C_alloc ?_ _) | (with_reducible refine Kd.C_drewN ?_ _) | (with_reducible refine Kd.C_drew ?_))); (case side2 => exact HC107_2.out); rintro e w8 ⟨rfl, hb⟩; refine ⟨_, rfl, ?_⟩; have n0_ := Aside0.mk (below_step (by repeat (first | (with_reducible first | exact HB.out | apply below_alloc | apply pw_below_drewN | apply below_drew1) | exact HB.out)) hb); clear HB; have HB := n0_; clear n0_; (try clear hb); (try clear hb2); (try clear hk); (try clear hi)))
              go_ret
              exact ⟨by first | rfl | (simp [errW_none, errW_some] <;> rfl) | (simp [*, errW_none, errW_some] <;> rfl), by repeat (first | (with_reducible first | exact HB.out | apply below_alloc | apply pw_below_drewN | apply below_drew1) | exact HB.out)⟩
            · rw [if_neg c7] at H
              have c7b0 : decide (t108 < 0) = false := decide_eq_false c7
              clear c7
              have H' := Aside0.mk H
              clear H
              have p107 : 0 ≤ (x5_1 : Int) := of_decide_eq_true (by first | (with_reducible assumption) | assumption)
              have q107 : x5_1 < (l0.length : Int) := of_decide_eq_true (by first | (with_reducible assumption) | assumption)
              obtain ⟨ad107, A107_2, c107_2, e107, hx107_0, hx107_1, hx107_2, hl107_2, hi107_2⟩ := at_T24 HR0.out x5_1 p107 q107
              cases e107
              replace hx107_0 := (HB.out.cell (World.block_lt_of_cell? w _ hx107_0)).trans hx107_0
              replace hx107_1 := (HB.out.cell (World.block_lt_of_cell? w _ hx107_1)).trans hx107_1
              replace hx107_2 := (HB.out.cell (World.block_lt_of_cell? w _ hx107_2)).trans hx107_2
              have HR107_2 := Aside0.mk hi107_2
              have HC107_2 := Aside0.mk hl107_2
              clear hi107_2 hl107_2
              replace p107 := eq_true p107
              replace q107 := eq_true q107
              go_wp2_with (first | ((with_reducible refine gate_callee (f := 12) rfl ?_); refine goesL_ (some 23) rfl rfl Try.func12 (by kernel_rfl) rfl #[.agg #[.int .i64 ((rd_T24 l0 x5_1).f0), .int .i64 ((rd_T24 l0 x5_1).f1), .slice A107_2 ((rd_T24 l0 x5_1).f2).length c107_2], .int .i64 x1_1] rfl (by (try simp only [List.map_toArray, List.map_cons, List.map_nil]); first | done | rfl | (simp only [List.length_drop, List.length_take]; rfl)) ?_; (with_reducible refine (ihG k1 (by have := HK1.out; omega) ((rd_T24 l0 x5_1).f0) ((rd_T24 l0 x5_1).f1) _ _ ((rd_T24 l0 x5_1).f2) x1_1 t108 _ ?side1 ?side2 A6.out).mono ?_); (case side1 => repeat (first | exact (Kd.C_below HR107_2.out HB.out) | (with_reducible refine Kd.C_alloc ?_ _) | (with_reducible refine Kd.C_drewN ?_ _) | (with_reducible refine Kd.C_drew ?_))); (case side2 => exact HC107_2.out); rintro e w9 ⟨rfl, hb⟩; refine ⟨_, rfl, ?_⟩; have n0_ := Aside0.mk (below_step (by repeat (first | (with_reducible first | exact HB.out | apply below_alloc | apply pw_below_drewN | apply below_drew1) | exact HB.out)) hb); clear HB; have HB := n0_; clear n0_; (try clear hb); (try clear hb2); (try clear hk); (try clear hi)))
              go_roundg k1
              case measure => have := HK1.out; omega
              case rel => exact ⟨(t108), (wrap64 (x5_1 + 1)), (by first | rfl | (simp; done) | (simp [*]; done)), (by first | rfl | (simp; done) | (simp [*]; done)), H', ⟨by have := HK1.out; omega⟩, ⟨by repeat (first | (with_reducible first | exact HB.out | apply below_alloc | apply pw_below_drewN | apply below_drew1) | exact HB.out)⟩⟩
          · rw [if_neg c5] at H
            exact absurd H (by simp)
        · rw [if_neg c4] at H
          have c4b0 : decide (x5_1 < (l0.length : Int)) = false := decide_eq_false c4
          clear c4
          obtain rfl := Option.some.inj H
          go_wp2
          go_ret
          exact ⟨by first | rfl | (simp [errW_none, errW_some] <;> rfl) | (simp [*, errW_none, errW_some] <;> rfl), by repeat (first | (with_reducible first | exact HB.out | apply below_alloc | apply pw_below_drewN | apply below_drew1) | exact HB.out)⟩
theorem laws_szGate.calls (k : Nat) (a0_0 : Int) (a0_1 : Int) (A0_2 : Option Addr) (c0_2 : Nat) (l0_2 : List (S24)) (a1 : Int) (r : Int) (w : World) (hr0_2 : Kd.C k24 w A0_2 l0_2.length l0_2) (hc0_2 : l0_2.length ≤ c0_2) (h : laws_szGate.f k a0_0 a0_1 l0_2 a1 = some r) :
    Calls Try.prog 12 #[.agg #[.int .i64 a0_0, .int .i64 a0_1, .slice A0_2 l0_2.length c0_2], .int .i64 a1] w fun e w' => e = .returned (.int .i64 r) ∧ Below w.heap.size w w' := by
  cases k with
  | zero => exact absurd h (by simp [laws_szGate.f])
  | succ k => exact laws_szGate.calls_of k (laws_szGateS.calls k) a0_0 a0_1 A0_2 c0_2 l0_2 a1 r w hr0_2 hc0_2 h

end Go.Proofs.Ytjnobnmjhpmpfaa.P

namespace Go.Proofs.Ytjnobnmjhpmpfaa.P
open Go.RowKit Go.Proofs.YtjnobnmjhpmpfaaW.PrintWords Go.Proofs.YtjnobnmjhpmpfaaW.PrintLast Go.Proofs.YtjnobnmjhpmpfaaW.PrintMore
attribute [local go_sem] max2_int min2_int max_two min_two max_three min_three max_four min_four
set_option linter.unusedVariables false
set_option linter.unusedSimpArgs false

/-! ### laws_toGateS: function 45 (by hand) -/
mutual
def laws_toGateS.l0 : Nat → List S24 → List S29 → Int → Option (List S29)
  | 0, _, _, _ => none
  | k + 1, l, out, i => if i < (l.length : Int) then (if 0 ≤ i then ((laws_toGate.f k (rd_T24 l i).f0 (rd_T24 l i).f1 (rd_T24 l i).f2).bind fun b => if i < (out.length : Int) then laws_toGateS.l0 k l (out.set i.toNat ⟨b.1, b.2.1, b.2.2⟩) (wrap64 (i + 1)) else none) else none) else some out
def laws_toGateS.f : Nat → List S24 → Option (List S29)
  | 0, _ => none
  | k + 1, l => if ((l.length : Int)).toNat ≤ 7036874417766 then laws_toGateS.l0 k l (List.replicate ((l.length : Int)).toNat z29) 0 else none
def laws_toGate.f : Nat → Int → Int → List S24 → Option (Int × Int × List S29)
  | 0, _, _, _ => none
  | k + 1, a0, a1, l => (laws_toGateS.f k l).bind fun t => some (a0, a1, t)
end
theorem laws_toGateS.mono_l : ∀ k, (∀ l, LeO (laws_toGateS.f k l) (laws_toGateS.f (k + 1) l)) ∧ (∀ l o i, LeO (laws_toGateS.l0 k l o i) (laws_toGateS.l0 (k + 1) l o i)) ∧ (∀ a b l, LeO (laws_toGate.f k a b l) (laws_toGate.f (k + 1) a b l))
  | 0 => ⟨fun _ r h => by simp [laws_toGateS.f] at h, fun _ _ _ r h => by simp [laws_toGateS.l0] at h, fun _ _ _ r h => by simp [laws_toGate.f] at h⟩
  | k + 1 => by
    obtain ⟨ih0, ih1, ih2⟩ := laws_toGateS.mono_l k
    refine ⟨fun l => ?_, fun l o i => ?_, fun a b l => ?_⟩
    · unfold laws_toGateS.f; exact LeO.ite (ih1 _ _ _) (LeO.refl _)
    · unfold laws_toGateS.l0; exact LeO.ite (LeO.ite (LeO.bind (ih2 _ _ _) (fun _ => LeO.ite (ih1 _ _ _) (LeO.refl _))) (LeO.refl _)) (LeO.refl _)
    · unfold laws_toGate.f; exact LeO.bind (ih0 _) (fun _ => LeO.refl _)
theorem laws_toGateS.mono : ∀ l k, LeO (laws_toGateS.f k l) (laws_toGateS.f (k + 1) l) := fun l k => (laws_toGateS.mono_l k).1 l
theorem laws_toGate.mono : ∀ a b l k, LeO (laws_toGate.f k a b l) (laws_toGate.f (k + 1) a b l) := fun a b l k => (laws_toGateS.mono_l k).2.2 a b l
set_option maxHeartbeats 8000000 in
set_option maxRecDepth 100000 in
theorem laws_toGate.calls_of (k : Nat) (IH : ∀ (A0 : Option Addr) (c0 : Nat) (l0 : List S24) (r : List S29) (w : World) (hr0 : Kd.C k24 w A0 l0.length l0) (hc0 : l0.length ≤ c0) (h : laws_toGateS.f k l0 = some r), Calls Try.prog 45 #[.slice A0 l0.length c0] w fun e w' => ∃ v : Value, e = .returned v ∧ Kd.S kG 29 w' w.heap.size (fun _ => True) v r ∧ Below w.heap.size w w') (a0_0 : Int) (a0_1 : Int) (A0_2 : Option Addr) (c0_2 : Nat) (l0_2 : List S24) (r1 : Int) (r2 : Int) (r3 : List S29) (w : World) (hr0_2 : Kd.C k24 w A0_2 l0_2.length l0_2) (hc0_2 : l0_2.length ≤ c0_2) (h : laws_toGate.f (k + 1) a0_0 a0_1 l0_2 = some (r1, r2, r3)) :
    Calls Try.prog 14 #[.agg #[.int .i64 a0_0, .int .i64 a0_1, .slice A0_2 l0_2.length c0_2]] w fun e w' => ∃ v2_ : Value, e = .returned (.agg #[.int .i64 r1, .int .i64 r2, v2_]) ∧ Kd.S kG 29 w' w.heap.size (fun _ => True) v2_ r3 ∧ Below w.heap.size w w' := by
  have hu24 := Try.underlying24
  have hu29 := Try.underlying29
  have HR := Aside0.mk hr0_2
  have HC := Aside0.mk hc0_2
  clear hr0_2 hc0_2
  simp only [laws_toGate.f] at h
  replace h := Option.bind_eq_some_iff.mp h
  obtain ⟨t, At, H⟩ := h
  obtain ⟨rfl, rfl, rfl⟩ := (by simpa using H : a0_0 = r1 ∧ a0_1 = r2 ∧ t = r3)
  have A1 := Aside0.mk At
  clear At H
  go_enter Try.func14, Try.ntmps14
  go_wp2_with (first | (go_at_call 45; (with_reducible refine (IH _ _ l0_2 t _ ?side1 ?side2 A1.out).mono ?_); (case side1 => repeat (first | exact HR.out | (with_reducible refine Kd.C_alloc ?_ _) | (with_reducible refine Kd.C_drewN ?_ _) | (with_reducible refine Kd.C_drew ?_))); (case side2 => exact HC.out); rintro e w1 ⟨v, rfl, ho, hb⟩; have n1_ := Aside0.mk (blk_below (g := w.heap.size + 1) (o := .cells #[(.int .i64 0 : Value), (.int .i64 0 : Value), (.slice none 0 0 : Value)] 29 (0, 0)) (by repeat (first | exact blk_new_at (by simp) | (with_reducible refine blk_drewN ?_ _) | (with_reducible refine blk_drew ?_) | (with_reducible refine blk_alloc ?_ _))) hb); have n2_ := Aside0.mk (blk_below (g := w.heap.size + 2) (o := .cells #[.int .i64 a0_0, .int .i64 a0_1, (.slice none 0 0 : Value)] 29 (0, 0)) (by repeat (first | exact blk_new_at (by simp) | (with_reducible refine blk_drewN ?_ _) | (with_reducible refine blk_drew ?_) | (with_reducible refine blk_alloc ?_ _))) hb); have n3_ : Aside0 (Below w.heap.size w w1) := Aside0.mk (below_step (by repeat (first | exact Below.refl _ _ | apply below_alloc | apply pw_below_drewN | apply below_drew1)) hb); have HO := Aside0.mk (Kd.S_lower (base' := w.heap.size) (Kd.S_mono (Kd.S_bound ho) (ok' := fun k_ => w.heap.size + 3 ≤ k_) (fun k_ hk_ => by have h_ := hk_.2.1; (try simp at h_); omega)) (by simp; omega)); obtain ⟨Az, cz, ez⟩ := Kd.S_slice HO.out; subst ez; clear ho hb; have hl1 : w.heap.size + 2 < w1.heap.size := blk_lt n2_.out; have hx0 : w1.cell? ⟨w.heap.size + 1, 0, none⟩ = some ((.int .i64 0 : Value)) := (blk_cell n1_.out 0).trans rfl; have hxf0 := blk_frozen n1_.out 0; have hx1 : w1.cell? ⟨w.heap.size + 1, 1, none⟩ = some ((.int .i64 0 : Value)) := (blk_cell n1_.out 1).trans rfl; have hxf1 := blk_frozen n1_.out 1; have hx2 : w1.cell? ⟨w.heap.size + 1, 2, none⟩ = some ((.slice none 0 0 : Value)) := (blk_cell n1_.out 2).trans rfl; have hxf2 := blk_frozen n1_.out 2; have hz0 : w1.cell? ⟨w.heap.size + 2, 0, none⟩ = some (.int .i64 a0_0) := (blk_cell n2_.out 0).trans rfl; have hzf0 := blk_frozen n2_.out 0; have hz1 : w1.cell? ⟨w.heap.size + 2, 1, none⟩ = some (.int .i64 a0_1) := (blk_cell n2_.out 1).trans rfl; have hzf1 := blk_frozen n2_.out 1; have hz2 : w1.cell? ⟨w.heap.size + 2, 2, none⟩ = some ((.slice none 0 0 : Value)) := (blk_cell n2_.out 2).trans rfl; have hzf2 := blk_frozen n2_.out 2))
  (try simp only [Exit.inBlock, Exit.then])
  refine bodyPost_ret (results_cell_row rfl _ _ (w.heap.size + 1) 29 #[.int .i64 a0_0, .int .i64 a0_1, .slice Az t.length cz] (0, 0) _ rfl (blk_put (blk_put (blk_put (blk_far (p := ⟨w.heap.size + 2, 2, none⟩) n1_.out (by dsimp only; omega) _) 0 _ rfl) 1 _ rfl) 2 _ rfl) Try.underlying29 rfl (by kernel_rfl)) rfl ?_
  exact ⟨_, rfl, Kd.S_mono (Kd.S_far (Kd.S_far (Kd.S_far (Kd.S_far (HO.out) (fun k_ hk_ => by dsimp only; have h_ := hk_; omega) _) (fun k_ hk_ => by dsimp only; have h_ := hk_; omega) _) (fun k_ hk_ => by dsimp only; have h_ := hk_; omega) _) (fun k_ hk_ => by dsimp only; have h_ := hk_; omega) _) (fun _ _ => trivial), below_set (below_set (below_set (below_set n3_.out (by omega)) (by omega)) (by omega)) (by omega)⟩
set_option maxHeartbeats 8000000 in
set_option maxRecDepth 100000 in
theorem laws_toGateS.calls (k : Nat) : ∀ (A0 : Option Addr) (c0 : Nat) (l0 : List S24) (r : List S29) (w : World) (hr0 : Kd.C k24 w A0 l0.length l0) (hc0 : l0.length ≤ c0) (h : laws_toGateS.f k l0 = some r),
    Calls Try.prog 45 #[.slice A0 l0.length c0] w fun e w' => ∃ v : Value, e = .returned v ∧ Kd.S kG 29 w' w.heap.size (fun _ => True) v r ∧ Below w.heap.size w w' := by
  induction k using Nat.strongRecOn with
  | _ k ih =>
  have ihG : ∀ m, m < k → ∀ (a0_0 : Int) (a0_1 : Int) (A0_2 : Option Addr) (c0_2 : Nat) (l0_2 : List S24) (r1 : Int) (r2 : Int) (r3 : List S29) (w : World) (hr0_2 : Kd.C k24 w A0_2 l0_2.length l0_2) (hc0_2 : l0_2.length ≤ c0_2) (h : laws_toGate.f m a0_0 a0_1 l0_2 = some (r1, r2, r3)), Calls Try.prog 14 #[.agg #[.int .i64 a0_0, .int .i64 a0_1, .slice A0_2 l0_2.length c0_2]] w fun e w' => ∃ v2_ : Value, e = .returned (.agg #[.int .i64 r1, .int .i64 r2, v2_]) ∧ Kd.S kG 29 w' w.heap.size (fun _ => True) v2_ r3 ∧ Below w.heap.size w w' := by
    intro m hm
    cases m with
    | zero => intro a0_0 a0_1 A0_2 c0_2 l0_2 r1 r2 r3 w hr0_2 hc0_2 h; exact absurd h (by simp [laws_toGate.f])
    | succ m => intro a0_0 a0_1 A0_2 c0_2 l0_2 r1 r2 r3 w hr0_2 hc0_2 h; exact laws_toGate.calls_of m (ih m (by omega)) a0_0 a0_1 A0_2 c0_2 l0_2 r1 r2 r3 w hr0_2 hc0_2 h
  intro A0 c0 l0 r w hr0 hc0 h
  cases k with
  | zero => exact absurd h (by simp [laws_toGateS.f])
  | succ k =>
  simp only [laws_toGateS.f] at h
  have hu24 := Try.underlying24
  have hu29 := Try.underlying29
  have HR0 := Aside0.mk hr0
  clear hr0 hc0
  have HB := Aside0.mk (Below.refl w.heap.size w)
  clear ih
  by_cases c3 : ((l0.length : Int)).toNat ≤ 7036874417766
  · rw [if_pos c3] at h
    have HL := Aside0.mk c3
    clear c3
    have c2b0 := eq_true (show (0 : Int) ≤ (l0.length : Int) by omega)
    have c2b1 : decide (0 ≤ (l0.length : Int)) = true := decide_eq_true (by omega)
    have H' := Aside0.mk h
    clear h
    go_enter Try.func45, Try.ntmps45
    go_wp2_with (first | ((with_reducible refine gate_dst (N := 7) rfl ?_); refine Kd.S_make kG _ 29 rfl (N := 7) rfl 27 _ _ rfl (l0.length : Int) rfl rfl Try.underlying27 (.agg #[.int .i64 0, .int .i64 0, .slice none 0 0]) 40 info29 rfl (by decide) (by omega) z29 (ok := fun _ => True) (okp := fun _ => True) (kG_mkM (x := z29) (GS_nil _ _ _)) (fun _ hk => hk) trivial (by omega) (by have := HL.out; omega) (Below.refl _ _) (Nat.le_refl _) ?_; intro v316 w4 ho5 hb hg_ hnew_; clear hg_ hnew_; have n0_ := Aside0.mk (Kd.S_lower ho5 (below_size (by repeat (first | (with_reducible first | exact HB.out | apply below_alloc | apply pw_below_drewN | apply below_drew1) | exact HB.out)))); have n1_ := Aside0.mk (below_step (by repeat (first | (with_reducible first | exact HB.out | apply below_alloc | apply pw_below_drewN | apply below_drew1) | exact HB.out)) hb); clear HB; have HO317 := n0_; have HB := n1_; clear n0_ n1_; clear hb ho5))
    go_loopg [4] k (fun kq v4 w' => ∃ (x3 : List S29) (x4 : Int), v4 = .int .i64 x4 ∧ Aside0 (laws_toGateS.l0 kq l0 x3 x4 = some r) ∧ Aside0 (kq ≤ k) ∧ Aside0 (Kd.S kG 29 w' w.heap.size (fun _ => True) v316 x3) ∧ Aside0 (Below w.heap.size w w'))
    case atStart => exact ⟨_, (0), (by first | rfl | (simp; done)), H', ⟨Nat.le_refl _⟩, ⟨HO317.out⟩, ⟨HB.out⟩⟩
    case round =>
      clear H' HO317 HB
      obtain ⟨x3, x4, rfl, HA, HK, HO, HB⟩ := hrel
      cases gk with
      | zero => exact absurd HA.out (by simp [laws_toGateS.l0])
      | succ k1 =>
        have H := HA.out
        clear HA
        simp only [laws_toGateS.l0] at H
        by_cases c6 : x4 < (l0.length : Int)
        · rw [if_pos c6] at H
          have c6b0 : decide (x4 < (l0.length : Int)) = true := decide_eq_true c6
          by_cases c7 : 0 ≤ x4
          · rw [if_pos c7] at H
            have c7b0 : decide (0 ≤ x4) = true := decide_eq_true c7
            replace H := Option.bind_eq_some_iff.mp H
            obtain ⟨⟨b1, b2, b3⟩, At, H⟩ := H
            have A7 := Aside0.mk At
            clear At
            dsimp only at H
            by_cases c9 : x4 < (x3.length : Int)
            · rw [if_pos c9] at H
              have H' := Aside0.mk H
              clear H
              obtain ⟨ad, A2, c2, e318, hx0, hx1, hx2, hl2, hi2⟩ := at_T24 HR0.out x4 c7 c6
              cases e318
              replace hx0 := (HB.out.cell (World.block_lt_of_cell? w _ hx0)).trans hx0
              replace hx1 := (HB.out.cell (World.block_lt_of_cell? w _ hx1)).trans hx1
              replace hx2 := (HB.out.cell (World.block_lt_of_cell? w _ hx2)).trans hx2
              have HI := Aside0.mk hi2
              have HL2 := Aside0.mk hl2
              clear hi2 hl2
              obtain ⟨g, cg, rfl, gb, gl⟩ := (by obtain ⟨g, cg, e, h1, h2, _⟩ := Kd.S_form HO.out (by omega); exact ⟨g, cg, e, h1, h2⟩ : ∃ g cg, v316 = .slice (some ⟨g, 0, none⟩) x3.length cg ∧ w.heap.size ≤ g ∧ g < wr.heap.size)
              have hgl := Aside0.mk gl
              clear gl gb
              have p4 := c7
              have q4 := c9
              skip
              replace c7 := eq_true c7
              replace c6 := eq_true c6
              have c9b0 : decide (x4 < (x3.length : Int)) = true := decide_eq_true c9
              replace c9 := eq_true c9
              go_wp2_with (first | ((with_reducible refine gate_callee (f := 14) rfl ?_); refine goesL_ (some 20) rfl rfl Try.func14 (by kernel_rfl) rfl #[.agg #[.int .i64 (rd_T24 l0 x4).f0, .int .i64 (rd_T24 l0 x4).f1, .slice A2 (rd_T24 l0 x4).f2.length c2]] rfl (by (try simp only [List.map_toArray, List.map_cons, List.map_nil]); first | done | rfl) ?_; (with_reducible refine (ihG k1 (by have := HK.out; omega) (rd_T24 l0 x4).f0 (rd_T24 l0 x4).f1 _ _ (rd_T24 l0 x4).f2 b1 b2 b3 _ ?side1 ?side2 A7.out).mono ?_); (case side1 => exact Kd.C_below HI.out (by repeat (first | (with_reducible first | exact HB.out | apply below_alloc | apply pw_below_drewN | apply below_drew1) | exact HB.out))); (case side2 => exact HL2.out); rintro e w5 ⟨v, rfl, ho, hb⟩; refine ⟨_, rfl, ?_⟩; have q1_ : Aside0 (Kd.S kG 29 w5 w.heap.size (fun k_ => True ∧ ¬ wr.heap.size ≤ k_) (.slice (some ⟨g, 0, none⟩) x3.length cg) x3) := ⟨Kd.S_mono (Kd.S_old (by (with_reducible repeat (first | apply Kd.S_alloc | apply Kd.S_drewN | apply Kd.S_drew)); exact HO.out) hb) (fun k_ hk_ => ⟨trivial, Nat.not_le.2 hk_.2⟩)⟩; have q3_ := Aside0.mk (below_step (by repeat (first | (with_reducible first | exact HB.out | apply below_alloc | apply pw_below_drewN | apply below_drew1) | exact HB.out)) hb); have q2_ := Aside0.mk (Kd.S_lower (base' := w.heap.size) (Kd.S_mono (Kd.S_bound ho) (ok' := fun k_ => wr.heap.size ≤ k_) (fun k_ hk_ => by have h_ := hk_.2.1; (try simp at h_); omega)) (below_size (by repeat (first | (with_reducible first | exact HB.out | apply below_alloc | apply pw_below_drewN | apply below_drew1) | exact HB.out)))); clear HO HB; have HO := q1_; have HB := q3_; clear q1_ q3_; obtain ⟨Az, cz, ez⟩ := Kd.S_slice q2_.out; subst ez; clear ho hb; obtain ⟨oki, ce, hcl, _, _, _, _, hH⟩ := Kd.S_elem HO.out z29 x4 p4 q4; have HH := Aside0.mk (Kd.H_more (okg := fun k_ => wr.heap.size ≤ k_) hH (fun _ _ => trivial)); replace hcl := Aside0.mk hcl; clear hH HO) | ((with_reducible refine gate_store (t := 29) (p := 21) rfl ?_); refine Kd.H_store kG _ rfl rfl 29 _ _ rfl 29 (g := g) x4 0 x3 (⟨b1, b2, b3⟩ : S29) (.agg #[.int .i64 b1, .int .i64 b2, .slice Az b3.length cz]) [.int .i64 b1, .int .i64 b2, .slice Az b3.length cz] ce (fun _ => True) (fun k_ => oki k_ ∨ wr.heap.size ≤ k_) (fun k_ => wr.heap.size ≤ k_) rfl ?hoff rfl rfl rfl ?h1 HH.out p4 q4 ?hj ?hM (fun k_ hk_ => Or.inr hk_) HB.out ?_; (case hoff => rfl); (case h1 => simp [Value.oneCell']); (case hj => exact Nat.le_refl 3); (case hM => rw [List.drop_eq_nil_of_le (by have hcl3 : ce.length = 3 := hcl.out; simp; omega), List.append_nil]; exact kG_mkM (x := (⟨b1, b2, b3⟩ : S29)) q2_.out); intro w6 ho6 hb6 hg6; clear HH HB hg6; have HO := Aside0.mk ho6; have HB := Aside0.mk hb6; clear ho6 hb6))
              go_roundg k1
              case measure => have := HK.out; omega
              case rel => exact ⟨_, (wrap64 (x4 + 1)), (by first | rfl | (simp; done) | (simp [*]; done)), H', ⟨by have := HK.out; omega⟩, ⟨HO.out⟩, ⟨HB.out⟩⟩
            · rw [if_neg c9] at H
              exact absurd H (by simp)
          · rw [if_neg c7] at H
            exact absurd H (by simp)
        · rw [if_neg c6] at H
          have c6b0 : decide (x4 < (l0.length : Int)) = false := decide_eq_false c6
          clear c6
          obtain rfl := Option.some.inj H
          go_wp2
          go_ret
          exact ⟨_, rfl, HO.out, HB.out⟩
  · rw [if_neg c3] at h
    exact absurd h (by simp)

end Go.Proofs.Ytjnobnmjhpmpfaa.P

namespace Go.Proofs.Ytjnobnmjhpmpfaa.P
open Go.RowKit Go.Proofs.YtjnobnmjhpmpfaaW.PrintWords Go.Proofs.YtjnobnmjhpmpfaaW.PrintLast Go.Proofs.YtjnobnmjhpmpfaaW.PrintMore
attribute [local go_sem] max2_int min2_int max_two min_two max_three min_three max_four min_four
set_option linter.unusedVariables false
set_option linter.unusedSimpArgs false

/-! ### laws_eqGateS: function 46 -/
mutual
def laws_eqGateS.l0 : Nat → List (S29) → List (S29) → Int → Option (Bool)
  | 0, _, _, _ => none
  | k + 1, x0, x1, x5 => if x5 < (x0.length : Int) then (if 0 ≤ x5 then (if x5 < (x1.length : Int) then ((laws_eqGate.f k ((rd_T29 x0 x5).f0) ((rd_T29 x0 x5).f1) ((rd_T29 x0 x5).f2) ((rd_T29 x1 x5).f0) ((rd_T29 x1 x5).f1) ((rd_T29 x1 x5).f2)).bind fun t124 => (if t124 = true then (laws_eqGateS.l0 k x0 x1 (wrap64 (x5 + 1))) else (some false))) else (none)) else (none)) else (some true)
def laws_eqGateS.f : Nat → List (S29) → List (S29) → Option (Bool)
  | 0, _, _ => none
  | k + 1, l0, l1 => if (l0.length : Int) = (l1.length : Int) then (laws_eqGateS.l0 k l0 l1 0) else (some false)
def laws_eqGate.f : Nat → Int → Int → (List (S29)) → Int → Int → (List (S29)) → Option (Bool)
  | 0, _, _, _, _, _, _ => none
  | k + 1, a0_0, a0_1, l0_2, a1_0, a1_1, l1_2 => if a0_0 = a1_0 then (if a0_1 = a1_1 then ((laws_eqGateS.f k l0_2 l1_2).bind fun t121 => (if t121 = true then (some true) else (some false))) else (some false)) else (some false)
end
theorem laws_eqGateS.mono_l : ∀ k, (∀ y0 y1, LeO (laws_eqGateS.f k y0 y1) (laws_eqGateS.f (k + 1) y0 y1)) ∧ (∀ y0 y1 y2, LeO (laws_eqGateS.l0 k y0 y1 y2) (laws_eqGateS.l0 (k + 1) y0 y1 y2)) ∧ (∀ y0 y1 y2 y3 y4 y5, LeO (laws_eqGate.f k y0 y1 y2 y3 y4 y5) (laws_eqGate.f (k + 1) y0 y1 y2 y3 y4 y5))
  | 0 => ⟨fun _ _ r h => by simp [laws_eqGateS.f] at h, fun _ _ _ r h => by simp [laws_eqGateS.l0] at h, fun _ _ _ _ _ _ r h => by simp [laws_eqGate.f] at h⟩
  | k + 1 => by
    obtain ⟨ih0, ih1, ih2⟩ := laws_eqGateS.mono_l k
    refine ⟨?_, ?_, ?_⟩
    · intro y0 y1
      unfold laws_eqGateS.f
      repeat' first
      | (with_reducible exact ih0 _ _)
      | (with_reducible exact ih1 _ _ _)
      | (with_reducible exact ih2 _ _ _ _ _ _)
      | (with_reducible exact LeO.refl _)
      | (with_reducible exact LeO.none _)
      | (with_reducible refine LeO.ite ?_ ?_)
      | (with_reducible refine LeO.bind ?_ (fun _ => ?_))
      | exact ih0 _ _
      | exact ih1 _ _ _
      | exact ih2 _ _ _ _ _ _
      | exact LeO.none _
      | refine LeO.ite ?_ ?_
      | refine LeO.bind ?_ (fun _ => ?_)
    · intro y0 y1 y2
      unfold laws_eqGateS.l0
      repeat' first
      | (with_reducible exact ih0 _ _)
      | (with_reducible exact ih1 _ _ _)
      | (with_reducible exact ih2 _ _ _ _ _ _)
      | (with_reducible exact LeO.refl _)
      | (with_reducible exact LeO.none _)
      | (with_reducible refine LeO.ite ?_ ?_)
      | (with_reducible refine LeO.bind ?_ (fun _ => ?_))
      | exact ih0 _ _
      | exact ih1 _ _ _
      | exact ih2 _ _ _ _ _ _
      | exact LeO.none _
      | refine LeO.ite ?_ ?_
      | refine LeO.bind ?_ (fun _ => ?_)
    · intro y0 y1 y2 y3 y4 y5
      unfold laws_eqGate.f
      repeat' first
      | (with_reducible exact ih0 _ _)
      | (with_reducible exact ih1 _ _ _)
      | (with_reducible exact ih2 _ _ _ _ _ _)
      | (with_reducible exact LeO.refl _)
      | (with_reducible exact LeO.none _)
      | (with_reducible refine LeO.ite ?_ ?_)
      | (with_reducible refine LeO.bind ?_ (fun _ => ?_))
      | exact ih0 _ _
      | exact ih1 _ _ _
      | exact ih2 _ _ _ _ _ _
      | exact LeO.none _
      | refine LeO.ite ?_ ?_
      | refine LeO.bind ?_ (fun _ => ?_)
theorem laws_eqGateS.mono : ∀ a0 a1 k, LeO (laws_eqGateS.f k a0 a1) (laws_eqGateS.f (k + 1) a0 a1) := by
  intro a0 a1 k
  obtain ⟨ih0, ih1, ih2⟩ := laws_eqGateS.mono_l k
  exact ih0 a0 a1
def laws_eqGateS.T6 : Bool × List (List Nat × List Nat) := (true, [([], []), ([], []), ([0, 1], [0, 1]), ([2], [2]), ([], []), ([], []), ([4, 5], [4, 5]), ([6], [6]), ([3, 7], [3, 7]), ([8], [8])])
def laws_eqGateS.B6 : List Nat := [0, 0, 3, 7, 0, 0, 48, 112, 255, 511]
theorem laws_eqGateS.tab6 : rtab .any (opsOf Try.f46 6) = laws_eqGateS.T6 := by kernel_rfl
theorem laws_eqGateS.bits6 : waitsOk laws_eqGateS.T6.2 laws_eqGateS.B6 = true := by kernel_rfl
theorem laws_eqGate.mono : ∀ a0 a1 a2 a3 a4 a5 k, LeO (laws_eqGate.f k a0 a1 a2 a3 a4 a5) (laws_eqGate.f (k + 1) a0 a1 a2 a3 a4 a5) := by
  intro a0 a1 a2 a3 a4 a5 k
  have q := laws_eqGateS.mono_l k
  exact q.2.2 a0 a1 a2 a3 a4 a5
set_option maxHeartbeats 8000000 in
set_option maxRecDepth 100000 in
theorem laws_eqGate.calls_of (k : Nat) (IH : ∀ (A0 : Option Addr) (c0 : Nat) (l0 : List (S29)) (A1 : Option Addr) (c1 : Nat) (l1 : List (S29)) (r : Bool) (w : World) (hr0 : Kd.C k29 w A0 l0.length l0) (hc0 : l0.length ≤ c0) (hr1 : Kd.C k29 w A1 l1.length l1) (hc1 : l1.length ≤ c1) (h : laws_eqGateS.f k l0 l1 = some r), Calls Try.prog 46 #[.slice A0 l0.length c0, .slice A1 l1.length c1] w fun e w' => e = .returned (.bool r) ∧ Below w.heap.size w w') (a0_0 : Int) (a0_1 : Int) (A0_2 : Option Addr) (c0_2 : Nat) (l0_2 : List (S29)) (a1_0 : Int) (a1_1 : Int) (A1_2 : Option Addr) (c1_2 : Nat) (l1_2 : List (S29)) (r : Bool) (w : World) (hr0_2 : Kd.C k29 w A0_2 l0_2.length l0_2) (hc0_2 : l0_2.length ≤ c0_2) (hr1_2 : Kd.C k29 w A1_2 l1_2.length l1_2) (hc1_2 : l1_2.length ≤ c1_2) (h : laws_eqGate.f (k + 1) a0_0 a0_1 l0_2 a1_0 a1_1 l1_2 = some r) :
    Calls Try.prog 16 #[.agg #[.int .i64 a0_0, .int .i64 a0_1, .slice A0_2 l0_2.length c0_2], .agg #[.int .i64 a1_0, .int .i64 a1_1, .slice A1_2 l1_2.length c1_2]] w fun e w' => e = .returned (.bool r) ∧ Below w.heap.size w w' := by
  simp only [laws_eqGate.f] at h
  have hu29 := Try.underlying29
  have HR0_2 := Aside0.mk hr0_2
  have HC0_2 := Aside0.mk hc0_2
  clear hr0_2 hc0_2
  have HR1_2 := Aside0.mk hr1_2
  have HC1_2 := Aside0.mk hc1_2
  clear hr1_2 hc1_2
  have HB := Aside0.mk (Below.refl w.heap.size w)
  have H : (if a0_0 = a1_0 then (if a0_1 = a1_1 then ((laws_eqGateS.f k l0_2 l1_2).bind fun t121 => (if t121 = true then (some true) else (some false))) else (some false)) else (some false)) = some r := h
  clear h
  by_cases c3 : a0_0 = a1_0
  · rw [if_pos c3] at H
    have c3b0 : (a0_0 == a1_0) = true := beq_iff_eq.mpr c3
    have c3b1 : (a0_0 != a1_0) = false := bne_eq_false_iff_eq.mpr c3
    clear c3
    by_cases c4 : a0_1 = a1_1
    · rw [if_pos c4] at H
      have c4b0 : (a0_1 == a1_1) = true := beq_iff_eq.mpr c4
      have c4b1 : (a0_1 != a1_1) = false := bne_eq_false_iff_eq.mpr c4
      clear c4
      replace H := Option.bind_eq_some_iff.mp H
      obtain ⟨t121, A50, H⟩ := H
      replace H : (if t121 = true then (some true) else (some false)) = some r := H
      have A5 := Aside0.mk A50
      clear A50
      by_cases c6 : t121 = true
      · subst c6
        have H1 : (some true) = some r := by rw [if_pos rfl] at H; exact H
        clear H
        have H := H1
        clear H1
        obtain rfl := Option.some.inj H
        go_enter Try.func16, Try.ntmps16
        go_wp2_with (first | ((with_reducible refine gate_dst (N := 2) rfl ?_); refine box_event ?hg (N := 2) ?hd (cs := #[.int .i64 a0_0, .int .i64 a0_1, .slice A0_2 l0_2.length c0_2]) (t := 29) ?hr ?_; (case hd => rfl); (case hg => rfl); (case hr => first | (go_simp; done) | (go_simp; rfl)); intro gb119 hg w7 hbox hb; have n0_ := Aside0.mk (below_step (by repeat (first | (with_reducible first | exact HB.out | apply below_alloc | apply pw_below_drewN | apply below_drew1) | exact HB.out)) hb); have n1_ := Aside0.mk (hbox); have n2_ := Aside0.mk ((by rw [hg]; exact (below_size (by repeat (first | (with_reducible first | exact HB.out | apply below_alloc | apply pw_below_drewN | apply below_drew1) | exact HB.out))) : w.heap.size ≤ gb119)); have n3_ := Aside0.mk ((by rw [hg]; exact (below_size (by repeat (first | (with_reducible first | exact HB.out | apply below_alloc | apply pw_below_drewN | apply below_drew1) | exact HB.out))) : w.heap.size ≤ gb119)); clear HB; have HB := n0_; have BK119 := n1_; have GW119 := n2_; have GE119 := n3_; clear n0_ n1_ n2_ n3_; clear hb hbox hg) | ((with_reducible refine gate_dst (N := 3) rfl ?_); refine box_event ?hg (N := 3) ?hd (cs := #[.int .i64 a1_0, .int .i64 a1_1, .slice A1_2 l1_2.length c1_2]) (t := 29) ?hr ?_; (case hd => rfl); (case hg => rfl); (case hr => first | (go_simp; done) | (go_simp; rfl)); intro gb120 hg w8 hbox hb; have n0_ := Aside0.mk (blk_below (g := gb119) (o := .cells #[.int .i64 a0_0, .int .i64 a0_1, .slice A0_2 l0_2.length c0_2] 29 (0, 0)) (by (with_reducible repeat (first | refine blk_drewN ?_ _ | refine blk_drew ?_ | refine blk_alloc ?_ _)); exact BK119.out) hb); have n1_ := Aside0.mk (below_step (by repeat (first | (with_reducible first | exact HB.out | apply below_alloc | apply pw_below_drewN | apply below_drew1 | refine below_set ?_ GE119.out) | exact HB.out)) hb); have n2_ := Aside0.mk (hbox); have n3_ := Aside0.mk ((by rw [hg]; exact (below_size (by repeat (first | (with_reducible first | exact HB.out | apply below_alloc | apply pw_below_drewN | apply below_drew1 | refine below_set ?_ GE119.out) | exact HB.out))) : w.heap.size ≤ gb120)); have n4_ := Aside0.mk ((by rw [hg]; exact (below_size (by repeat (first | (with_reducible first | exact HB.out | apply below_alloc | apply pw_below_drewN | apply below_drew1 | refine below_set ?_ GE119.out) | exact HB.out))) : w.heap.size ≤ gb120)); have n5_ := Aside0.mk ((by rw [hg]; exact Nat.ne_of_lt (blk_lt (g := gb119) (o := .cells #[.int .i64 a0_0, .int .i64 a0_1, .slice A0_2 l0_2.length c0_2] 29 (0, 0)) (by (with_reducible repeat (first | refine blk_drewN ?_ _ | refine blk_drew ?_ | refine blk_alloc ?_ _)); exact BK119.out)) : gb119 ≠ gb120)); have n6_ := Aside0.mk ((by rw [hg]; exact Nat.ne_of_gt (blk_lt (g := gb119) (o := .cells #[.int .i64 a0_0, .int .i64 a0_1, .slice A0_2 l0_2.length c0_2] 29 (0, 0)) (by (with_reducible repeat (first | refine blk_drewN ?_ _ | refine blk_drew ?_ | refine blk_alloc ?_ _)); exact BK119.out)) : gb120 ≠ gb119)); clear BK119; clear HB; have BK119 := n0_; have HB := n1_; have BK120 := n2_; have GW120 := n3_; have GE120 := n4_; have NB119_120 := n5_; have NB120_119 := n6_; clear n0_ n1_ n2_ n3_ n4_ n5_ n6_; clear hb hbox hg; have hnb9 := NB119_120.out; have hnc9 := NB120_119.out; have hcz10_0 : w8.cell? ⟨gb119, 0, none⟩ = some (.int .i64 a0_0) := (blk_cell BK119.out 0).trans rfl; have hcz10_1 : w8.cell? ⟨gb119, 1, none⟩ = some (.int .i64 a0_1) := (blk_cell BK119.out 1).trans rfl; have hcz10_2 : w8.cell? ⟨gb119, 2, none⟩ = some (.slice A0_2 l0_2.length c0_2) := (blk_cell BK119.out 2).trans rfl; have hfz10_0 := blk_frozen BK119.out 0; have hfz10_1 := blk_frozen BK119.out 1; have hfz10_2 := blk_frozen BK119.out 2; have hcz11_0 : w8.cell? ⟨gb120, 0, none⟩ = some (.int .i64 a1_0) := (blk_cell BK120.out 0).trans rfl; have hcz11_1 : w8.cell? ⟨gb120, 1, none⟩ = some (.int .i64 a1_1) := (blk_cell BK120.out 1).trans rfl; have hcz11_2 : w8.cell? ⟨gb120, 2, none⟩ = some (.slice A1_2 l1_2.length c1_2) := (blk_cell BK120.out 2).trans rfl; have hfz11_0 := blk_frozen BK120.out 0; have hfz11_1 := blk_frozen BK120.out 1; have hfz11_2 := blk_frozen BK120.out 2) | ((with_reducible refine gate_callee (f := 46) rfl ?_); refine goesL_ (some 19) rfl rfl Try.func46 (by kernel_rfl) rfl #[.slice A0_2 l0_2.length c0_2, .slice A1_2 l1_2.length c1_2] rfl (by (try simp only [List.map_toArray, List.map_cons, List.map_nil]); first | done | rfl | (simp only [List.length_drop, List.length_take]; rfl)) ?_; (with_reducible refine (IH _ _ l0_2 _ _ l1_2 true _ ?side1 ?side2 ?side3 ?side4 A5.out).mono ?_); (case side1 => repeat (first | exact (Kd.C_below HR0_2.out HB.out) | (with_reducible refine Kd.C_alloc ?_ _) | (with_reducible refine Kd.C_drewN ?_ _) | (with_reducible refine Kd.C_drew ?_))); (case side2 => exact HC0_2.out); (case side3 => repeat (first | exact (Kd.C_below HR1_2.out HB.out) | (with_reducible refine Kd.C_alloc ?_ _) | (with_reducible refine Kd.C_drewN ?_ _) | (with_reducible refine Kd.C_drew ?_))); (case side4 => exact HC1_2.out); rintro e w12 ⟨rfl, hb⟩; refine ⟨_, rfl, ?_⟩; have n0_ := Aside0.mk (blk_below (g := gb119) (o := .cells #[.int .i64 a0_0, .int .i64 a0_1, .slice A0_2 l0_2.length c0_2] 29 (0, 0)) (by (with_reducible repeat (first | refine blk_drewN ?_ _ | refine blk_drew ?_ | refine blk_alloc ?_ _)); exact BK119.out) hb); have n1_ := Aside0.mk (blk_below (g := gb120) (o := .cells #[.int .i64 a1_0, .int .i64 a1_1, .slice A1_2 l1_2.length c1_2] 29 (0, 0)) (by (with_reducible repeat (first | refine blk_drewN ?_ _ | refine blk_drew ?_ | refine blk_alloc ?_ _)); exact BK120.out) hb); have n2_ := Aside0.mk (below_step (by repeat (first | (with_reducible first | exact HB.out | apply below_alloc | apply pw_below_drewN | apply below_drew1 | refine below_set ?_ GE119.out | refine below_set ?_ GE120.out) | exact HB.out)) hb); clear BK119; clear BK120; clear HB; have BK119 := n0_; have BK120 := n1_; have HB := n2_; clear n0_ n1_ n2_; (try clear hb); (try clear hb2); (try clear hk); (try clear hi)))
        go_ret
        exact ⟨by first | rfl | (simp [errW_none, errW_some] <;> rfl) | (simp [*, errW_none, errW_some] <;> rfl), by repeat (first | (with_reducible first | exact HB.out | apply below_alloc | apply pw_below_drewN | apply below_drew1 | refine below_set ?_ GE119.out | refine below_set ?_ GE120.out) | exact HB.out)⟩
      · replace c6 := Bool.eq_false_iff.mpr c6
        subst c6
        have H1 : (some false) = some r := by rw [if_neg (show ¬ (false = true) by decide)] at H; exact H
        clear H
        have H := H1
        clear H1
        obtain rfl := Option.some.inj H
        go_enter Try.func16, Try.ntmps16
        go_wp2_with (first | ((with_reducible refine gate_dst (N := 2) rfl ?_); refine box_event ?hg (N := 2) ?hd (cs := #[.int .i64 a0_0, .int .i64 a0_1, .slice A0_2 l0_2.length c0_2]) (t := 29) ?hr ?_; (case hd => rfl); (case hg => rfl); (case hr => first | (go_simp; done) | (go_simp; rfl)); intro gb119 hg w13 hbox hb; have n0_ := Aside0.mk (below_step (by repeat (first | (with_reducible first | exact HB.out | apply below_alloc | apply pw_below_drewN | apply below_drew1) | exact HB.out)) hb); have n1_ := Aside0.mk (hbox); have n2_ := Aside0.mk ((by rw [hg]; exact (below_size (by repeat (first | (with_reducible first | exact HB.out | apply below_alloc | apply pw_below_drewN | apply below_drew1) | exact HB.out))) : w.heap.size ≤ gb119)); have n3_ := Aside0.mk ((by rw [hg]; exact (below_size (by repeat (first | (with_reducible first | exact HB.out | apply below_alloc | apply pw_below_drewN | apply below_drew1) | exact HB.out))) : w.heap.size ≤ gb119)); clear HB; have HB := n0_; have BK119 := n1_; have GW119 := n2_; have GE119 := n3_; clear n0_ n1_ n2_ n3_; clear hb hbox hg) | ((with_reducible refine gate_dst (N := 3) rfl ?_); refine box_event ?hg (N := 3) ?hd (cs := #[.int .i64 a1_0, .int .i64 a1_1, .slice A1_2 l1_2.length c1_2]) (t := 29) ?hr ?_; (case hd => rfl); (case hg => rfl); (case hr => first | (go_simp; done) | (go_simp; rfl)); intro gb120 hg w14 hbox hb; have n0_ := Aside0.mk (blk_below (g := gb119) (o := .cells #[.int .i64 a0_0, .int .i64 a0_1, .slice A0_2 l0_2.length c0_2] 29 (0, 0)) (by (with_reducible repeat (first | refine blk_drewN ?_ _ | refine blk_drew ?_ | refine blk_alloc ?_ _)); exact BK119.out) hb); have n1_ := Aside0.mk (below_step (by repeat (first | (with_reducible first | exact HB.out | apply below_alloc | apply pw_below_drewN | apply below_drew1 | refine below_set ?_ GE119.out) | exact HB.out)) hb); have n2_ := Aside0.mk (hbox); have n3_ := Aside0.mk ((by rw [hg]; exact (below_size (by repeat (first | (with_reducible first | exact HB.out | apply below_alloc | apply pw_below_drewN | apply below_drew1 | refine below_set ?_ GE119.out) | exact HB.out))) : w.heap.size ≤ gb120)); have n4_ := Aside0.mk ((by rw [hg]; exact (below_size (by repeat (first | (with_reducible first | exact HB.out | apply below_alloc | apply pw_below_drewN | apply below_drew1 | refine below_set ?_ GE119.out) | exact HB.out))) : w.heap.size ≤ gb120)); have n5_ := Aside0.mk ((by rw [hg]; exact Nat.ne_of_lt (blk_lt (g := gb119) (o := .cells #[.int .i64 a0_0, .int .i64 a0_1, .slice A0_2 l0_2.length c0_2] 29 (0, 0)) (by (with_reducible repeat (first | refine blk_drewN ?_ _ | refine blk_drew ?_ | refine blk_alloc ?_ _)); exact BK119.out)) : gb119 ≠ gb120)); have n6_ := Aside0.mk ((by rw [hg]; exact Nat.ne_of_gt (blk_lt (g := gb119) (o := .cells #[.int .i64 a0_0, .int .i64 a0_1, .slice A0_2 l0_2.length c0_2] 29 (0, 0)) (by (with_reducible repeat (first | refine blk_drewN ?_ _ | refine blk_drew ?_ | refine blk_alloc ?_ _)); exact BK119.out)) : gb120 ≠ gb119)); clear BK119; clear HB; have BK119 := n0_; have HB := n1_; have BK120 := n2_; have GW120 := n3_; have GE120 := n4_; have NB119_120 := n5_; have NB120_119 := n6_; clear n0_ n1_ n2_ n3_ n4_ n5_ n6_; clear hb hbox hg; have hnb15 := NB119_120.out; have hnc15 := NB120_119.out; have hcz16_0 : w14.cell? ⟨gb119, 0, none⟩ = some (.int .i64 a0_0) := (blk_cell BK119.out 0).trans rfl; have hcz16_1 : w14.cell? ⟨gb119, 1, none⟩ = some (.int .i64 a0_1) := (blk_cell BK119.out 1).trans rfl; have hcz16_2 : w14.cell? ⟨gb119, 2, none⟩ = some (.slice A0_2 l0_2.length c0_2) := (blk_cell BK119.out 2).trans rfl; have hfz16_0 := blk_frozen BK119.out 0; have hfz16_1 := blk_frozen BK119.out 1; have hfz16_2 := blk_frozen BK119.out 2; have hcz17_0 : w14.cell? ⟨gb120, 0, none⟩ = some (.int .i64 a1_0) := (blk_cell BK120.out 0).trans rfl; have hcz17_1 : w14.cell? ⟨gb120, 1, none⟩ = some (.int .i64 a1_1) := (blk_cell BK120.out 1).trans rfl; have hcz17_2 : w14.cell? ⟨gb120, 2, none⟩ = some (.slice A1_2 l1_2.length c1_2) := (blk_cell BK120.out 2).trans rfl; have hfz17_0 := blk_frozen BK120.out 0; have hfz17_1 := blk_frozen BK120.out 1; have hfz17_2 := blk_frozen BK120.out 2) | ((with_reducible refine gate_callee (f := 46) rfl ?_); refine goesL_ (some 19) rfl rfl Try.func46 (by kernel_rfl) rfl #[.slice A0_2 l0_2.length c0_2, .slice A1_2 l1_2.length c1_2] rfl (by (try simp only [List.map_toArray, List.map_cons, List.map_nil]); first | done | rfl | (simp only [List.length_drop, List.length_take]; rfl)) ?_; (with_reducible refine (IH _ _ l0_2 _ _ l1_2 false _ ?side1 ?side2 ?side3 ?side4 A5.out).mono ?_); (case side1 => repeat (first | exact (Kd.C_below HR0_2.out HB.out) | (with_reducible refine Kd.C_alloc ?_ _) | (with_reducible refine Kd.C_drewN ?_ _) | (with_reducible refine Kd.C_drew ?_))); (case side2 => exact HC0_2.out); (case side3 => repeat (first | exact (Kd.C_below HR1_2.out HB.out) | (with_reducible refine Kd.C_alloc ?_ _) | (with_reducible refine Kd.C_drewN ?_ _) | (with_reducible refine Kd.C_drew ?_))); (case side4 => exact HC1_2.out); rintro e w18 ⟨rfl, hb⟩; refine ⟨_, rfl, ?_⟩; have n0_ := Aside0.mk (blk_below (g := gb119) (o := .cells #[.int .i64 a0_0, .int .i64 a0_1, .slice A0_2 l0_2.length c0_2] 29 (0, 0)) (by (with_reducible repeat (first | refine blk_drewN ?_ _ | refine blk_drew ?_ | refine blk_alloc ?_ _)); exact BK119.out) hb); have n1_ := Aside0.mk (blk_below (g := gb120) (o := .cells #[.int .i64 a1_0, .int .i64 a1_1, .slice A1_2 l1_2.length c1_2] 29 (0, 0)) (by (with_reducible repeat (first | refine blk_drewN ?_ _ | refine blk_drew ?_ | refine blk_alloc ?_ _)); exact BK120.out) hb); have n2_ := Aside0.mk (below_step (by repeat (first | (with_reducible first | exact HB.out | apply below_alloc | apply pw_below_drewN | apply below_drew1 | refine below_set ?_ GE119.out | refine below_set ?_ GE120.out) | exact HB.out)) hb); clear BK119; clear BK120; clear HB; have BK119 := n0_; have BK120 := n1_; have HB := n2_; clear n0_ n1_ n2_; (try clear hb); (try clear hb2); (try clear hk); (try clear hi)))
        go_ret
        exact ⟨by first | rfl | (simp [errW_none, errW_some] <;> rfl) | (simp [*, errW_none, errW_some] <;> rfl), by repeat (first | (with_reducible first | exact HB.out | apply below_alloc | apply pw_below_drewN | apply below_drew1 | refine below_set ?_ GE119.out | refine below_set ?_ GE120.out) | exact HB.out)⟩
    · rw [if_neg c4] at H
      have c4b0 : (a0_1 == a1_1) = false := beq_eq_false_iff_ne.mpr c4
      have c4b1 : (a0_1 != a1_1) = true := bne_iff_ne.mpr c4
      obtain rfl := Option.some.inj H
      go_enter Try.func16, Try.ntmps16
      go_wp2_with (first | ((with_reducible refine gate_dst (N := 2) rfl ?_); refine box_event ?hg (N := 2) ?hd (cs := #[.int .i64 a0_0, .int .i64 a0_1, .slice A0_2 l0_2.length c0_2]) (t := 29) ?hr ?_; (case hd => rfl); (case hg => rfl); (case hr => first | (go_simp; done) | (go_simp; rfl)); intro gb119 hg w19 hbox hb; have n0_ := Aside0.mk (below_step (by repeat (first | (with_reducible first | exact HB.out | apply below_alloc | apply pw_below_drewN | apply below_drew1) | exact HB.out)) hb); have n1_ := Aside0.mk (hbox); have n2_ := Aside0.mk ((by rw [hg]; exact (below_size (by repeat (first | (with_reducible first | exact HB.out | apply below_alloc | apply pw_below_drewN | apply below_drew1) | exact HB.out))) : w.heap.size ≤ gb119)); have n3_ := Aside0.mk ((by rw [hg]; exact (below_size (by repeat (first | (with_reducible first | exact HB.out | apply below_alloc | apply pw_below_drewN | apply below_drew1) | exact HB.out))) : w.heap.size ≤ gb119)); clear HB; have HB := n0_; have BK119 := n1_; have GW119 := n2_; have GE119 := n3_; clear n0_ n1_ n2_ n3_; clear hb hbox hg) | ((with_reducible refine gate_dst (N := 3) rfl ?_); refine box_event ?hg (N := 3) ?hd (cs := #[.int .i64 a1_0, .int .i64 a1_1, .slice A1_2 l1_2.length c1_2]) (t := 29) ?hr ?_; (case hd => rfl); (case hg => rfl); (case hr => first | (go_simp; done) | (go_simp; rfl)); intro gb120 hg w20 hbox hb; have n0_ := Aside0.mk (blk_below (g := gb119) (o := .cells #[.int .i64 a0_0, .int .i64 a0_1, .slice A0_2 l0_2.length c0_2] 29 (0, 0)) (by (with_reducible repeat (first | refine blk_drewN ?_ _ | refine blk_drew ?_ | refine blk_alloc ?_ _)); exact BK119.out) hb); have n1_ := Aside0.mk (below_step (by repeat (first | (with_reducible first | exact HB.out | apply below_alloc | apply pw_below_drewN | apply below_drew1 | refine below_set ?_ GE119.out) | exact HB.out)) hb); have n2_ := Aside0.mk (hbox); have n3_ := Aside0.mk ((by rw [hg]; exact (below_size (by repeat (first | (with_reducible first | exact HB.out | apply below_alloc | apply pw_below_drewN | apply below_drew1 | refine below_set ?_ GE119.out) | exact HB.out))) : w.heap.size ≤ gb120)); have n4_ := Aside0.mk ((by rw [hg]; exact (below_size (by repeat (first | (with_reducible first | exact HB.out | apply below_alloc | apply pw_below_drewN | apply below_drew1 | refine below_set ?_ GE119.out) | exact HB.out))) : w.heap.size ≤ gb120)); have n5_ := Aside0.mk ((by rw [hg]; exact Nat.ne_of_lt (blk_lt (g := gb119) (o := .cells #[.int .i64 a0_0, .int .i64 a0_1, .slice A0_2 l0_2.length c0_2] 29 (0, 0)) (by (with_reducible repeat (first | refine blk_drewN ?_ _ | refine blk_drew ?_ | refine blk_alloc ?_ _)); exact BK119.out)) : gb119 ≠ gb120)); have n6_ := Aside0.mk ((by rw [hg]; exact Nat.ne_of_gt (blk_lt (g := gb119) (o := .cells #[.int .i64 a0_0, .int .i64 a0_1, .slice A0_2 l0_2.length c0_2] 29 (0, 0)) (by (with_reducible repeat (first | refine blk_drewN ?_ _ | refine blk_drew ?_ | refine blk_alloc ?_ _)); exact BK119.out)) : gb120 ≠ gb119)); clear BK119; clear HB; have BK119 := n0_; have HB := n1_; have BK120 := n2_; have GW120 := n3_; have GE120 := n4_; have NB119_120 := n5_; have NB120_119 := n6_; clear n0_ n1_ n2_ n3_ n4_ n5_ n6_; clear hb hbox hg; have hnb21 := NB119_120.out; have hnc21 := NB120_119.out; have hcz22_0 : w20.cell? ⟨gb119, 0, none⟩ = some (.int .i64 a0_0) := (blk_cell BK119.out 0).trans rfl; have hcz22_1 : w20.cell? ⟨gb119, 1, none⟩ = some (.int .i64 a0_1) := (blk_cell BK119.out 1).trans rfl; have hcz22_2 : w20.cell? ⟨gb119, 2, none⟩ = some (.slice A0_2 l0_2.length c0_2) := (blk_cell BK119.out 2).trans rfl; have hfz22_0 := blk_frozen BK119.out 0; have hfz22_1 := blk_frozen BK119.out 1; have hfz22_2 := blk_frozen BK119.out 2; have hcz23_0 : w20.cell? ⟨gb120, 0, none⟩ = some (.int .i64 a1_0) := (blk_cell BK120.out 0).trans rfl; have hcz23_1 : w20.cell? ⟨gb120, 1, none⟩ = some (.int .i64 a1_1) := (blk_cell BK120.out 1).trans rfl; have hcz23_2 : w20.cell? ⟨gb120, 2, none⟩ = some (.slice A1_2 l1_2.length c1_2) := (blk_cell BK120.out 2).trans rfl; have hfz23_0 := blk_frozen BK120.out 0; have hfz23_1 := blk_frozen BK120.out 1; have hfz23_2 := blk_frozen BK120.out 2))
      go_ret
      exact ⟨by first | rfl | (simp [errW_none, errW_some] <;> rfl) | (simp [*, errW_none, errW_some] <;> rfl), by repeat (first | (with_reducible first | exact HB.out | apply below_alloc | apply pw_below_drewN | apply below_drew1 | refine below_set ?_ GE119.out | refine below_set ?_ GE120.out) | exact HB.out)⟩
  · rw [if_neg c3] at H
    have c3b0 : (a0_0 == a1_0) = false := beq_eq_false_iff_ne.mpr c3
    have c3b1 : (a0_0 != a1_0) = true := bne_iff_ne.mpr c3
    obtain rfl := Option.some.inj H
    go_enter Try.func16, Try.ntmps16
    go_wp2_with (first | ((with_reducible refine gate_dst (N := 2) rfl ?_); refine box_event ?hg (N := 2) ?hd (cs := #[.int .i64 a0_0, .int .i64 a0_1, .slice A0_2 l0_2.length c0_2]) (t := 29) ?hr ?_; (case hd => rfl); (case hg => rfl); (case hr => first | (go_simp; done) | (go_simp; rfl)); intro gb119 hg w24 hbox hb; have n0_ := Aside0.mk (below_step (by repeat (first | (with_reducible first | exact HB.out | apply below_alloc | apply pw_below_drewN | apply below_drew1) | exact HB.out)) hb); have n1_ := Aside0.mk (hbox); have n2_ := Aside0.mk ((by rw [hg]; exact (below_size (by repeat (first | (with_reducible first | exact HB.out | apply below_alloc | apply pw_below_drewN | apply below_drew1) | exact HB.out))) : w.heap.size ≤ gb119)); have n3_ := Aside0.mk ((by rw [hg]; exact (below_size (by repeat (first | (with_reducible first | exact HB.out | apply below_alloc | apply pw_below_drewN | apply below_drew1) | exact HB.out))) : w.heap.size ≤ gb119)); clear HB; have HB := n0_; have BK119 := n1_; have GW119 := n2_; have GE119 := n3_; clear n0_ n1_ n2_ n3_; clear hb hbox hg) | ((with_reducible refine gate_dst (N := 3) rfl ?_); refine box_event ?hg (N := 3) ?hd (cs := #[.int .i64 a1_0, .int .i64 a1_1, .slice A1_2 l1_2.length c1_2]) (t := 29) ?hr ?_; (case hd => rfl); (case hg => rfl); (case hr => first | (go_simp; done) | (go_simp; rfl)); intro gb120 hg w25 hbox hb; have n0_ := Aside0.mk (blk_below (g := gb119) (o := .cells #[.int .i64 a0_0, .int .i64 a0_1, .slice A0_2 l0_2.length c0_2] 29 (0, 0)) (by (with_reducible repeat (first | refine blk_drewN ?_ _ | refine blk_drew ?_ | refine blk_alloc ?_ _)); exact BK119.out) hb); have n1_ := Aside0.mk (below_step (by repeat (first | (with_reducible first | exact HB.out | apply below_alloc | apply pw_below_drewN | apply below_drew1 | refine below_set ?_ GE119.out) | exact HB.out)) hb); have n2_ := Aside0.mk (hbox); have n3_ := Aside0.mk ((by rw [hg]; exact (below_size (by repeat (first | (with_reducible first | exact HB.out | apply below_alloc | apply pw_below_drewN | apply below_drew1 | refine below_set ?_ GE119.out) | exact HB.out))) : w.heap.size ≤ gb120)); have n4_ := Aside0.mk ((by rw [hg]; exact (below_size (by repeat (first | (with_reducible first | exact HB.out | apply below_alloc | apply pw_below_drewN | apply below_drew1 | refine below_set ?_ GE119.out) | exact HB.out))) : w.heap.size ≤ gb120)); have n5_ := Aside0.mk ((by rw [hg]; exact Nat.ne_of_lt (blk_lt (g := gb119) (o := .cells #[.int .i64 a0_0, .int .i64 a0_1, .slice A0_2 l0_2.length c0_2] 29 (0, 0)) (by (with_reducible repeat (first | refine blk_drewN ?_ _ | refine blk_drew ?_ | refine blk_alloc ?_ _)); exact BK119.out)) : gb119 ≠ gb120)); have n6_ := Aside0.mk ((by rw [hg]; exact Nat.ne_of_gt (blk_lt (g := gb119) (o := .cells #[.int .i64 a0_0, .int .i64 a0_1, .slice A0_2 l0_2.length c0_2] 29 (0, 0)) (by (with_reducible repeat (first | refine blk_drewN ?_ _ | refine blk_drew ?_ | refine blk_alloc ?_ _)); exact BK119.out)) : gb120 ≠ gb119)); clear BK119; clear HB; have BK119 := n0_; have HB := n1_; have BK120 := n2_; have GW120 := n3_; have GE120 := n4_; have NB119_120 := n5_; have NB120_119 := n6_; clear n0_ n1_ n2_ n3_ n4_ n5_ n6_; clear hb hbox hg; have hnb26 := NB119_120.out; have hnc26 := NB120_119.out; have hcz27_0 : w25.cell? ⟨gb119, 0, none⟩ = some (.int .i64 a0_0) := (blk_cell BK119.out 0).trans rfl; have hcz27_1 : w25.cell? ⟨gb119, 1, none⟩ = some (.int .i64 a0_1) := (blk_cell BK119.out 1).trans rfl; have hcz27_2 : w25.cell? ⟨gb119, 2, none⟩ = some (.slice A0_2 l0_2.length c0_2) := (blk_cell BK119.out 2).trans rfl; have hfz27_0 := blk_frozen BK119.out 0; have hfz27_1 := blk_frozen BK119.out 1; have hfz27_2 := blk_frozen BK119.out 2; have hcz28_0 : w25.cell? ⟨gb120, 0, none⟩ = some (.int .i64 a1_0) := (blk_cell BK120.out 0).trans rfl; have hcz28_1 : w25.cell? ⟨gb120, 1, none⟩ = some (.int .i64 a1_1) := (blk_cell BK120.out 1).trans rfl; have hcz28_2 : w25.cell? ⟨gb120, 2, none⟩ = some (.slice A1_2 l1_2.length c1_2) := (blk_cell BK120.out 2).trans rfl; have hfz28_0 := blk_frozen BK120.out 0; have hfz28_1 := blk_frozen BK120.out 1; have hfz28_2 := blk_frozen BK120.out 2))
    go_ret
    exact ⟨by first | rfl | (simp [errW_none, errW_some] <;> rfl) | (simp [*, errW_none, errW_some] <;> rfl), by repeat (first | (with_reducible first | exact HB.out | apply below_alloc | apply pw_below_drewN | apply below_drew1 | refine below_set ?_ GE119.out | refine below_set ?_ GE120.out) | exact HB.out)⟩
set_option maxHeartbeats 8000000 in
set_option maxRecDepth 100000 in
theorem laws_eqGateS.calls (k : Nat) : ∀ (A0 : Option Addr) (c0 : Nat) (l0 : List (S29)) (A1 : Option Addr) (c1 : Nat) (l1 : List (S29)) (r : Bool) (w : World) (hr0 : Kd.C k29 w A0 l0.length l0) (hc0 : l0.length ≤ c0) (hr1 : Kd.C k29 w A1 l1.length l1) (hc1 : l1.length ≤ c1) (h : laws_eqGateS.f k l0 l1 = some r),
    Calls Try.prog 46 #[.slice A0 l0.length c0, .slice A1 l1.length c1] w fun e w' => e = .returned (.bool r) ∧ Below w.heap.size w w' := by
  induction k using Nat.strongRecOn with
  | _ k ih =>
  have ihG : ∀ m, m < k → ∀ (a0_0 : Int) (a0_1 : Int) (A0_2 : Option Addr) (c0_2 : Nat) (l0_2 : List (S29)) (a1_0 : Int) (a1_1 : Int) (A1_2 : Option Addr) (c1_2 : Nat) (l1_2 : List (S29)) (r : Bool) (w : World) (hr0_2 : Kd.C k29 w A0_2 l0_2.length l0_2) (hc0_2 : l0_2.length ≤ c0_2) (hr1_2 : Kd.C k29 w A1_2 l1_2.length l1_2) (hc1_2 : l1_2.length ≤ c1_2) (h : laws_eqGate.f m a0_0 a0_1 l0_2 a1_0 a1_1 l1_2 = some r), Calls Try.prog 16 #[.agg #[.int .i64 a0_0, .int .i64 a0_1, .slice A0_2 l0_2.length c0_2], .agg #[.int .i64 a1_0, .int .i64 a1_1, .slice A1_2 l1_2.length c1_2]] w fun e w' => e = .returned (.bool r) ∧ Below w.heap.size w w' := by
    intro m hm
    cases m with
    | zero => intro a0_0 a0_1 A0_2 c0_2 l0_2 a1_0 a1_1 A1_2 c1_2 l1_2 r w hr0_2 hc0_2 hr1_2 hc1_2 h; exact absurd h (by simp [laws_eqGate.f])
    | succ m => exact fun a0_0 a0_1 A0_2 c0_2 l0_2 a1_0 a1_1 A1_2 c1_2 l1_2 r w hr0_2 hc0_2 hr1_2 hc1_2 h => laws_eqGate.calls_of m (ih m (by omega)) a0_0 a0_1 A0_2 c0_2 l0_2 a1_0 a1_1 A1_2 c1_2 l1_2 r w hr0_2 hc0_2 hr1_2 hc1_2 h
  intro A0 c0 l0 A1 c1 l1 r w hr0 hc0 hr1 hc1 h
  cases k with
  | zero => exact absurd h (by simp [laws_eqGateS.f])
  | succ k =>
  simp only [laws_eqGateS.f] at h
  have hu29 := Try.underlying29
  have HR0 := Aside0.mk hr0
  have HC0 := Aside0.mk hc0
  clear hr0 hc0
  have HR1 := Aside0.mk hr1
  have HC1 := Aside0.mk hc1
  clear hr1 hc1
  have HB := Aside0.mk (Below.refl w.heap.size w)
  have H : (if (l0.length : Int) = (l1.length : Int) then (laws_eqGateS.l0 k l0 l1 0) else (some false)) = some r := h
  clear h
  by_cases c3 : (l0.length : Int) = (l1.length : Int)
  · rw [if_pos c3] at H
    have c3b0 : ((l0.length : Int) == (l1.length : Int)) = true := beq_iff_eq.mpr c3
    have c3b1 : ((l0.length : Int) != (l1.length : Int)) = false := bne_eq_false_iff_eq.mpr c3
    have c3b2 : (l0.length == l1.length) = true := by first | simpa using c3 | (simp at c3 ⊢; omega)
    clear c3
    have H' := Aside0.mk H
    clear H
    go_enter Try.func46, Try.ntmps46
    go_wp2
    go_loopg [5] k (fun kq v5 w' => ∃ (x5_1 : Int), v5 = .int .i64 x5_1 ∧ Aside0 (laws_eqGateS.l0 kq l0 l1 x5_1 = some r) ∧ Aside0 (kq ≤ k) ∧ Aside0 (Below w.heap.size w w'))
    case atStart => exact ⟨(0), (by first | rfl | (simp; done) | (simp [*]; done)), H', ⟨Nat.le_refl _⟩, ⟨by repeat (first | (with_reducible first | exact HB.out | apply below_alloc | apply pw_below_drewN | apply below_drew1) | exact HB.out)⟩⟩
    case round =>
      clear H'
      try clear c1
      try clear p2
      try clear c3
      try clear c3b0
      try clear c3b1
      try clear c3b2
      obtain ⟨x5_1, rfl, HA, HK1, HB⟩ := hrel
      cases gk with
      | zero => exact absurd HA.out (by simp [laws_eqGateS.l0])
      | succ k1 =>
        have H := HA.out
        clear HA
        simp only [laws_eqGateS.l0] at H
        by_cases c4 : x5_1 < (l0.length : Int)
        · rw [if_pos c4] at H
          have c4b0 : decide (x5_1 < (l0.length : Int)) = true := decide_eq_true c4
          clear c4
          by_cases c5 : 0 ≤ x5_1
          · rw [if_pos c5] at H
            have c5b0 : decide (0 ≤ x5_1) = true := decide_eq_true c5
            clear c5
            by_cases c6 : x5_1 < (l1.length : Int)
            · rw [if_pos c6] at H
              have c6b0 : decide (x5_1 < (l1.length : Int)) = true := decide_eq_true c6
              clear c6
              replace H := Option.bind_eq_some_iff.mp H
              obtain ⟨t124, A70, H⟩ := H
              replace H : (if t124 = true then (laws_eqGateS.l0 k1 l0 l1 (wrap64 (x5_1 + 1))) else (some false)) = some r := H
              have A7 := Aside0.mk A70
              clear A70
              by_cases c8 : t124 = true
              · subst c8
                have H1 : (laws_eqGateS.l0 k1 l0 l1 (wrap64 (x5_1 + 1))) = some r := by rw [if_pos rfl] at H; exact H
                clear H
                have H := H1
                clear H1
                have H' := Aside0.mk H
                clear H
                try go_wp2
                have n0_ := Aside0.mk (below_drew1 HB.out)
                clear HB
                have HB := n0_
                clear n0_
                have p122 : 0 ≤ (x5_1 : Int) := of_decide_eq_true (by first | (with_reducible assumption) | assumption)
                have q122 : x5_1 < (l0.length : Int) := of_decide_eq_true (by first | (with_reducible assumption) | assumption)
                obtain ⟨ad122, A122_2, c122_2, e122, hx122_0, hx122_1, hx122_2, hl122_2, hi122_2⟩ := at_T29 HR0.out x5_1 p122 q122
                have hw122_2 := hx122_2
                have hw122_1 := hx122_1
                have hw122_0 := hx122_0
                cases e122
                replace hx122_0 := (HB.out.cell (World.block_lt_of_cell? w _ hx122_0)).trans hx122_0
                replace hx122_1 := (HB.out.cell (World.block_lt_of_cell? w _ hx122_1)).trans hx122_1
                replace hx122_2 := (HB.out.cell (World.block_lt_of_cell? w _ hx122_2)).trans hx122_2
                have HR122_2 := Aside0.mk hi122_2
                have HC122_2 := Aside0.mk hl122_2
                clear hi122_2 hl122_2
                replace p122 := eq_true p122
                replace q122 := eq_true q122
                have p123 : 0 ≤ (x5_1 : Int) := of_decide_eq_true (by first | (with_reducible assumption) | assumption)
                have q123 : x5_1 < (l1.length : Int) := of_decide_eq_true (by first | (with_reducible assumption) | assumption)
                obtain ⟨ad123, A123_2, c123_2, e123, hx123_0, hx123_1, hx123_2, hl123_2, hi123_2⟩ := at_T29 HR1.out x5_1 p123 q123
                have hw123_2 := hx123_2
                have hw123_1 := hx123_1
                have hw123_0 := hx123_0
                cases e123
                replace hx123_0 := (HB.out.cell (World.block_lt_of_cell? w _ hx123_0)).trans hx123_0
                replace hx123_1 := (HB.out.cell (World.block_lt_of_cell? w _ hx123_1)).trans hx123_1
                replace hx123_2 := (HB.out.cell (World.block_lt_of_cell? w _ hx123_2)).trans hx123_2
                have HR123_2 := Aside0.mk hi123_2
                have HC123_2 := Aside0.mk hl123_2
                clear hi123_2 hl123_2
                replace p123 := eq_true p123
                replace q123 := eq_true q123
                refine start_ (n := 10) (S := fun w' => w'.cell? (ad122.add ((x5_1).toNat * 3)) = some (.int .i64 ((rd_T29 l0 x5_1).f0)) ∧ w'.cell? ⟨(ad122.add ((x5_1).toNat * 3)).block, (ad122.add ((x5_1).toNat * 3)).off + 1, none⟩ = some (.int .i64 ((rd_T29 l0 x5_1).f1)) ∧ w'.cell? ⟨(ad122.add ((x5_1).toNat * 3)).block, (ad122.add ((x5_1).toNat * 3)).off + 2, none⟩ = some (.slice A122_2 ((rd_T29 l0 x5_1).f2).length c122_2) ∧ w'.cell? (ad123.add ((x5_1).toNat * 3)) = some (.int .i64 ((rd_T29 l1 x5_1).f0)) ∧ w'.cell? ⟨(ad123.add ((x5_1).toNat * 3)).block, (ad123.add ((x5_1).toNat * 3)).off + 1, none⟩ = some (.int .i64 ((rd_T29 l1 x5_1).f1)) ∧ w'.cell? ⟨(ad123.add ((x5_1).toNat * 3)).block, (ad123.add ((x5_1).toNat * 3)).off + 2, none⟩ = some (.slice A123_2 ((rd_T29 l1 x5_1).f2).length c123_2)) (ds := []) #[false, false, false, false, false, false, false, false, false, false] (by kernel_rfl) rfl rfl ⟨((HB.out.cell (World.block_lt_of_cell? w _ hw122_0)).trans hw122_0), ((HB.out.cell (World.block_lt_of_cell? w _ hw122_1)).trans hw122_1), ((HB.out.cell (World.block_lt_of_cell? w _ hw122_2)).trans hw122_2), ((HB.out.cell (World.block_lt_of_cell? w _ hw123_0)).trans hw123_0), ((HB.out.cell (World.block_lt_of_cell? w _ hw123_1)).trans hw123_1), ((HB.out.cell (World.block_lt_of_cell? w _ hw123_2)).trans hw123_2)⟩ (fun hHeld => ?_); refine with_tabW laws_eqGateS.tab6 laws_eqGateS.bits6 (fun HT_ HW_ => ?_)
                generalize wr.drew = w9 at HB HR122_2 HR123_2 hx122_0 hx122_1 hx122_2 hx123_0 hx123_1 hx123_2 hHeld ⊢
                refine pure_ (i := 0) (N := some 17) (v := ?_) (a' := ?_) #[true, false, false, false, false, false, false, false, false, false] rfl rfl (any_of HT_.out (by kernel_rfl)) (fun _ _ _ h => h) (Or.inl ⟨by rfl, ?_⟩) ?_ ?_
                rotate_left
                · intro w'
                  first | (go_simp; with_reducible rfl) | (simp [go_sem, Instr.field, asAgg] <;> with_reducible rfl)
                rotate_left
                · simp only [Act.put, List.setIfInBounds_toArray, List.set_cons_zero, List.set_cons_succ, i64_w, i32_w]
                  rfl
                refine pure_ (i := 1) (N := some 18) (v := ?_) (a' := ?_) #[true, true, false, false, false, false, false, false, false, false] rfl rfl (any_of HT_.out (by kernel_rfl)) (fun _ _ _ h => h) (Or.inl ⟨by rfl, ?_⟩) ?_ ?_
                rotate_left
                · intro w'
                  first | (go_simp; with_reducible rfl) | (simp [go_sem, Instr.field, asAgg] <;> with_reducible rfl)
                rotate_left
                · simp only [Act.put, List.setIfInBounds_toArray, List.set_cons_zero, List.set_cons_succ, i64_w, i32_w]
                  rfl
                refine pure_ (i := 2) (N := some 19) (v := ?_) (a' := ?_) #[true, true, true, false, false, false, false, false, false, false] rfl rfl (any_of HT_.out (by kernel_rfl)) (fun _ _ _ h => h) (Or.inl ⟨by rfl, ?_⟩) ?_ ?_
                rotate_left
                · intro w'
                  first | (go_simp; with_reducible rfl) | (simp [go_sem, Instr.field, asAgg] <;> with_reducible rfl)
                rotate_left
                · simp only [Act.put, List.setIfInBounds_toArray, List.set_cons_zero, List.set_cons_succ, i64_w, i32_w]
                  rfl
                refine pure_ (i := 4) (N := some 21) (v := ?_) (a' := ?_) #[true, true, true, false, true, false, false, false, false, false] rfl rfl (any_of HT_.out (by kernel_rfl)) (fun _ _ _ h => h) (Or.inl ⟨by rfl, ?_⟩) ?_ ?_
                rotate_left
                · intro w'
                  first | (go_simp; with_reducible rfl) | (simp [go_sem, Instr.field, asAgg] <;> with_reducible rfl)
                rotate_left
                · simp only [Act.put, List.setIfInBounds_toArray, List.set_cons_zero, List.set_cons_succ, i64_w, i32_w]
                  rfl
                refine pure_ (i := 5) (N := some 22) (v := ?_) (a' := ?_) #[true, true, true, false, true, true, false, false, false, false] rfl rfl (any_of HT_.out (by kernel_rfl)) (fun _ _ _ h => h) (Or.inl ⟨by rfl, ?_⟩) ?_ ?_
                rotate_left
                · intro w'
                  first | (go_simp; with_reducible rfl) | (simp [go_sem, Instr.field, asAgg] <;> with_reducible rfl)
                rotate_left
                · simp only [Act.put, List.setIfInBounds_toArray, List.set_cons_zero, List.set_cons_succ, i64_w, i32_w]
                  rfl
                refine pure_ (i := 6) (N := some 23) (v := ?_) (a' := ?_) #[true, true, true, false, true, true, true, false, false, false] rfl rfl (any_of HT_.out (by kernel_rfl)) (fun _ _ _ h => h) (Or.inl ⟨by rfl, ?_⟩) ?_ ?_
                rotate_left
                · intro w'
                  first | (go_simp; with_reducible rfl) | (simp [go_sem, Instr.field, asAgg] <;> with_reducible rfl)
                rotate_left
                · simp only [Act.put, List.setIfInBounds_toArray, List.set_cons_zero, List.set_cons_succ, i64_w, i32_w]
                  rfl
                refine take_ (i := 3) (N := some 20) (v := ?_) (a' := ?_) #[true, true, true, true, true, true, true, false, false, false] rfl rfl (take_ofW HT_.out HW_.out (by kernel_rfl)) (fun _ _ _ h => h) (Or.inl ⟨by rfl, ?_⟩) hHeld ?_ ?_
                rotate_left
                · rintro w' ⟨s0, s1, s2, s3, s4, s5⟩
                  go_simp
                  with_reducible rfl
                rotate_left
                · simp only [Act.put, List.setIfInBounds_toArray, List.set_cons_zero, List.set_cons_succ, i64_w, i32_w]
                  rfl
                refine take_ (i := 7) (N := some 24) (v := ?_) (a' := ?_) #[true, true, true, true, true, true, true, true, false, false] rfl rfl (take_ofW HT_.out HW_.out (by kernel_rfl)) (fun _ _ _ h => h) (Or.inl ⟨by rfl, ?_⟩) hHeld ?_ ?_
                rotate_left
                · rintro w' ⟨s0, s1, s2, s3, s4, s5⟩
                  go_simp
                  with_reducible rfl
                rotate_left
                · simp only [Act.put, List.setIfInBounds_toArray, List.set_cons_zero, List.set_cons_succ, i64_w, i32_w]
                  rfl
                refine one_ (i := 8) (N := some 25) #[true, true, true, true, true, true, true, true, true, false] rfl rfl (one_of HT_.out (by kernel_rfl)) (by decide) (fun K hK => ?_)
                refine goes_ Try.func16 (by kernel_rfl) rfl #[.agg #[.int .i64 ((rd_T29 l0 x5_1).f0), .int .i64 ((rd_T29 l0 x5_1).f1), .slice A122_2 ((rd_T29 l0 x5_1).f2).length c122_2], .agg #[.int .i64 ((rd_T29 l1 x5_1).f0), .int .i64 ((rd_T29 l1 x5_1).f1), .slice A123_2 ((rd_T29 l1 x5_1).f2).length c123_2]] (by rfl) rfl rfl (by (try simp only [List.map_toArray, List.map_cons, List.map_nil]); first | done | rfl | (simp only [List.length_drop, List.length_take]; rfl)) ?_
                with_reducible refine (ihG k1 (by have := HK1.out; omega) ((rd_T29 l0 x5_1).f0) ((rd_T29 l0 x5_1).f1) _ _ ((rd_T29 l0 x5_1).f2) ((rd_T29 l1 x5_1).f0) ((rd_T29 l1 x5_1).f1) _ _ ((rd_T29 l1 x5_1).f2) true _ ?side1 ?side2 ?side3 ?side4 A7.out).mono ?_
                (case side1 => repeat (first | exact (Kd.C_below HR122_2.out HB.out) | (with_reducible refine Kd.C_alloc ?_ _) | (with_reducible refine Kd.C_drewN ?_ _) | (with_reducible refine Kd.C_drew ?_)))
                (case side2 => exact HC122_2.out)
                (case side3 => repeat (first | exact (Kd.C_below HR123_2.out HB.out) | (with_reducible refine Kd.C_alloc ?_ _) | (with_reducible refine Kd.C_drewN ?_ _) | (with_reducible refine Kd.C_drew ?_)))
                (case side4 => exact HC123_2.out)
                rintro e w10 ⟨rfl, hb⟩
                refine ⟨_, rfl, ?_⟩
                have n0_ := Aside0.mk (below_step (by repeat (first | (with_reducible first | exact HB.out | apply below_alloc | apply pw_below_drewN | apply below_drew1) | exact HB.out)) hb)
                clear HB
                have HB := n0_
                clear n0_
                (try clear hb)
                (try clear hb2)
                (try clear hk)
                (try clear hi)
                refine hK.out _ _ ⟨((HB.out.cell (World.block_lt_of_cell? w _ hw122_0)).trans hw122_0), ((HB.out.cell (World.block_lt_of_cell? w _ hw122_1)).trans hw122_1), ((HB.out.cell (World.block_lt_of_cell? w _ hw122_2)).trans hw122_2), ((HB.out.cell (World.block_lt_of_cell? w _ hw123_0)).trans hw123_0), ((HB.out.cell (World.block_lt_of_cell? w _ hw123_1)).trans hw123_1), ((HB.out.cell (World.block_lt_of_cell? w _ hw123_2)).trans hw123_2)⟩ (fun hHeld => ?_)
                clear hK K
                refine norm_ (a' := ?_) ?_ ?_
                rotate_left
                · show Act.put _ (some 25) _ = _
                  simp only [Act.put, List.setIfInBounds_toArray, List.set_cons_zero, List.set_cons_succ, i64_w, i32_w]
                  rfl
                refine pure_ (i := 9) (N := some 26) (v := ?_) (a' := ?_) #[true, true, true, true, true, true, true, true, true, true] rfl rfl (any_of HT_.out (by kernel_rfl)) (fun _ _ _ h => h) (Or.inl ⟨by rfl, ?_⟩) ?_ ?_
                rotate_left
                · intro w'
                  first | (go_simp; with_reducible rfl) | (simp [go_sem, Instr.field, asAgg] <;> with_reducible rfl)
                rotate_left
                · simp only [Act.put, List.setIfInBounds_toArray, List.set_cons_zero, List.set_cons_succ, i64_w, i32_w]
                  rfl
                refine done_ (done_of HT_.out (by kernel_rfl)) ?_
                try go_wp2
                go_roundg k1
                case measure => have := HK1.out; omega
                case rel => exact ⟨(wrap64 (x5_1 + 1)), (by first | rfl | (simp; done) | (simp [*]; done)), H', ⟨by have := HK1.out; omega⟩, ⟨by repeat (first | (with_reducible first | exact HB.out | apply below_alloc | apply pw_below_drewN | apply below_drew1) | exact HB.out)⟩⟩
              · replace c8 := Bool.eq_false_iff.mpr c8
                subst c8
                have H1 : (some false) = some r := by rw [if_neg (show ¬ (false = true) by decide)] at H; exact H
                clear H
                have H := H1
                clear H1
                obtain rfl := Option.some.inj H
                try go_wp2
                have n0_ := Aside0.mk (below_drew1 HB.out)
                clear HB
                have HB := n0_
                clear n0_
                have p122 : 0 ≤ (x5_1 : Int) := of_decide_eq_true (by first | (with_reducible assumption) | assumption)
                have q122 : x5_1 < (l0.length : Int) := of_decide_eq_true (by first | (with_reducible assumption) | assumption)
                obtain ⟨ad122, A122_2, c122_2, e122, hx122_0, hx122_1, hx122_2, hl122_2, hi122_2⟩ := at_T29 HR0.out x5_1 p122 q122
                have hw122_2 := hx122_2
                have hw122_1 := hx122_1
                have hw122_0 := hx122_0
                cases e122
                replace hx122_0 := (HB.out.cell (World.block_lt_of_cell? w _ hx122_0)).trans hx122_0
                replace hx122_1 := (HB.out.cell (World.block_lt_of_cell? w _ hx122_1)).trans hx122_1
                replace hx122_2 := (HB.out.cell (World.block_lt_of_cell? w _ hx122_2)).trans hx122_2
                have HR122_2 := Aside0.mk hi122_2
                have HC122_2 := Aside0.mk hl122_2
                clear hi122_2 hl122_2
                replace p122 := eq_true p122
                replace q122 := eq_true q122
                have p123 : 0 ≤ (x5_1 : Int) := of_decide_eq_true (by first | (with_reducible assumption) | assumption)
                have q123 : x5_1 < (l1.length : Int) := of_decide_eq_true (by first | (with_reducible assumption) | assumption)
                obtain ⟨ad123, A123_2, c123_2, e123, hx123_0, hx123_1, hx123_2, hl123_2, hi123_2⟩ := at_T29 HR1.out x5_1 p123 q123
                have hw123_2 := hx123_2
                have hw123_1 := hx123_1
                have hw123_0 := hx123_0
                cases e123
                replace hx123_0 := (HB.out.cell (World.block_lt_of_cell? w _ hx123_0)).trans hx123_0
                replace hx123_1 := (HB.out.cell (World.block_lt_of_cell? w _ hx123_1)).trans hx123_1
                replace hx123_2 := (HB.out.cell (World.block_lt_of_cell? w _ hx123_2)).trans hx123_2
                have HR123_2 := Aside0.mk hi123_2
                have HC123_2 := Aside0.mk hl123_2
                clear hi123_2 hl123_2
                replace p123 := eq_true p123
                replace q123 := eq_true q123
                refine start_ (n := 10) (S := fun w' => w'.cell? (ad122.add ((x5_1).toNat * 3)) = some (.int .i64 ((rd_T29 l0 x5_1).f0)) ∧ w'.cell? ⟨(ad122.add ((x5_1).toNat * 3)).block, (ad122.add ((x5_1).toNat * 3)).off + 1, none⟩ = some (.int .i64 ((rd_T29 l0 x5_1).f1)) ∧ w'.cell? ⟨(ad122.add ((x5_1).toNat * 3)).block, (ad122.add ((x5_1).toNat * 3)).off + 2, none⟩ = some (.slice A122_2 ((rd_T29 l0 x5_1).f2).length c122_2) ∧ w'.cell? (ad123.add ((x5_1).toNat * 3)) = some (.int .i64 ((rd_T29 l1 x5_1).f0)) ∧ w'.cell? ⟨(ad123.add ((x5_1).toNat * 3)).block, (ad123.add ((x5_1).toNat * 3)).off + 1, none⟩ = some (.int .i64 ((rd_T29 l1 x5_1).f1)) ∧ w'.cell? ⟨(ad123.add ((x5_1).toNat * 3)).block, (ad123.add ((x5_1).toNat * 3)).off + 2, none⟩ = some (.slice A123_2 ((rd_T29 l1 x5_1).f2).length c123_2)) (ds := []) #[false, false, false, false, false, false, false, false, false, false] (by kernel_rfl) rfl rfl ⟨((HB.out.cell (World.block_lt_of_cell? w _ hw122_0)).trans hw122_0), ((HB.out.cell (World.block_lt_of_cell? w _ hw122_1)).trans hw122_1), ((HB.out.cell (World.block_lt_of_cell? w _ hw122_2)).trans hw122_2), ((HB.out.cell (World.block_lt_of_cell? w _ hw123_0)).trans hw123_0), ((HB.out.cell (World.block_lt_of_cell? w _ hw123_1)).trans hw123_1), ((HB.out.cell (World.block_lt_of_cell? w _ hw123_2)).trans hw123_2)⟩ (fun hHeld => ?_); refine with_tabW laws_eqGateS.tab6 laws_eqGateS.bits6 (fun HT_ HW_ => ?_)
                generalize wr.drew = w11 at HB HR122_2 HR123_2 hx122_0 hx122_1 hx122_2 hx123_0 hx123_1 hx123_2 hHeld ⊢
                refine pure_ (i := 0) (N := some 17) (v := ?_) (a' := ?_) #[true, false, false, false, false, false, false, false, false, false] rfl rfl (any_of HT_.out (by kernel_rfl)) (fun _ _ _ h => h) (Or.inl ⟨by rfl, ?_⟩) ?_ ?_
                rotate_left
                · intro w'
                  first | (go_simp; with_reducible rfl) | (simp [go_sem, Instr.field, asAgg] <;> with_reducible rfl)
                rotate_left
                · simp only [Act.put, List.setIfInBounds_toArray, List.set_cons_zero, List.set_cons_succ, i64_w, i32_w]
                  rfl
                refine pure_ (i := 1) (N := some 18) (v := ?_) (a' := ?_) #[true, true, false, false, false, false, false, false, false, false] rfl rfl (any_of HT_.out (by kernel_rfl)) (fun _ _ _ h => h) (Or.inl ⟨by rfl, ?_⟩) ?_ ?_
                rotate_left
                · intro w'
                  first | (go_simp; with_reducible rfl) | (simp [go_sem, Instr.field, asAgg] <;> with_reducible rfl)
                rotate_left
                · simp only [Act.put, List.setIfInBounds_toArray, List.set_cons_zero, List.set_cons_succ, i64_w, i32_w]
                  rfl
                refine pure_ (i := 2) (N := some 19) (v := ?_) (a' := ?_) #[true, true, true, false, false, false, false, false, false, false] rfl rfl (any_of HT_.out (by kernel_rfl)) (fun _ _ _ h => h) (Or.inl ⟨by rfl, ?_⟩) ?_ ?_
                rotate_left
                · intro w'
                  first | (go_simp; with_reducible rfl) | (simp [go_sem, Instr.field, asAgg] <;> with_reducible rfl)
                rotate_left
                · simp only [Act.put, List.setIfInBounds_toArray, List.set_cons_zero, List.set_cons_succ, i64_w, i32_w]
                  rfl
                refine pure_ (i := 4) (N := some 21) (v := ?_) (a' := ?_) #[true, true, true, false, true, false, false, false, false, false] rfl rfl (any_of HT_.out (by kernel_rfl)) (fun _ _ _ h => h) (Or.inl ⟨by rfl, ?_⟩) ?_ ?_
                rotate_left
                · intro w'
                  first | (go_simp; with_reducible rfl) | (simp [go_sem, Instr.field, asAgg] <;> with_reducible rfl)
                rotate_left
                · simp only [Act.put, List.setIfInBounds_toArray, List.set_cons_zero, List.set_cons_succ, i64_w, i32_w]
                  rfl
                refine pure_ (i := 5) (N := some 22) (v := ?_) (a' := ?_) #[true, true, true, false, true, true, false, false, false, false] rfl rfl (any_of HT_.out (by kernel_rfl)) (fun _ _ _ h => h) (Or.inl ⟨by rfl, ?_⟩) ?_ ?_
                rotate_left
                · intro w'
                  first | (go_simp; with_reducible rfl) | (simp [go_sem, Instr.field, asAgg] <;> with_reducible rfl)
                rotate_left
                · simp only [Act.put, List.setIfInBounds_toArray, List.set_cons_zero, List.set_cons_succ, i64_w, i32_w]
                  rfl
                refine pure_ (i := 6) (N := some 23) (v := ?_) (a' := ?_) #[true, true, true, false, true, true, true, false, false, false] rfl rfl (any_of HT_.out (by kernel_rfl)) (fun _ _ _ h => h) (Or.inl ⟨by rfl, ?_⟩) ?_ ?_
                rotate_left
                · intro w'
                  first | (go_simp; with_reducible rfl) | (simp [go_sem, Instr.field, asAgg] <;> with_reducible rfl)
                rotate_left
                · simp only [Act.put, List.setIfInBounds_toArray, List.set_cons_zero, List.set_cons_succ, i64_w, i32_w]
                  rfl
                refine take_ (i := 3) (N := some 20) (v := ?_) (a' := ?_) #[true, true, true, true, true, true, true, false, false, false] rfl rfl (take_ofW HT_.out HW_.out (by kernel_rfl)) (fun _ _ _ h => h) (Or.inl ⟨by rfl, ?_⟩) hHeld ?_ ?_
                rotate_left
                · rintro w' ⟨s0, s1, s2, s3, s4, s5⟩
                  go_simp
                  with_reducible rfl
                rotate_left
                · simp only [Act.put, List.setIfInBounds_toArray, List.set_cons_zero, List.set_cons_succ, i64_w, i32_w]
                  rfl
                refine take_ (i := 7) (N := some 24) (v := ?_) (a' := ?_) #[true, true, true, true, true, true, true, true, false, false] rfl rfl (take_ofW HT_.out HW_.out (by kernel_rfl)) (fun _ _ _ h => h) (Or.inl ⟨by rfl, ?_⟩) hHeld ?_ ?_
                rotate_left
                · rintro w' ⟨s0, s1, s2, s3, s4, s5⟩
                  go_simp
                  with_reducible rfl
                rotate_left
                · simp only [Act.put, List.setIfInBounds_toArray, List.set_cons_zero, List.set_cons_succ, i64_w, i32_w]
                  rfl
                refine one_ (i := 8) (N := some 25) #[true, true, true, true, true, true, true, true, true, false] rfl rfl (one_of HT_.out (by kernel_rfl)) (by decide) (fun K hK => ?_)
                refine goes_ Try.func16 (by kernel_rfl) rfl #[.agg #[.int .i64 ((rd_T29 l0 x5_1).f0), .int .i64 ((rd_T29 l0 x5_1).f1), .slice A122_2 ((rd_T29 l0 x5_1).f2).length c122_2], .agg #[.int .i64 ((rd_T29 l1 x5_1).f0), .int .i64 ((rd_T29 l1 x5_1).f1), .slice A123_2 ((rd_T29 l1 x5_1).f2).length c123_2]] (by rfl) rfl rfl (by (try simp only [List.map_toArray, List.map_cons, List.map_nil]); first | done | rfl | (simp only [List.length_drop, List.length_take]; rfl)) ?_
                with_reducible refine (ihG k1 (by have := HK1.out; omega) ((rd_T29 l0 x5_1).f0) ((rd_T29 l0 x5_1).f1) _ _ ((rd_T29 l0 x5_1).f2) ((rd_T29 l1 x5_1).f0) ((rd_T29 l1 x5_1).f1) _ _ ((rd_T29 l1 x5_1).f2) false _ ?side1 ?side2 ?side3 ?side4 A7.out).mono ?_
                (case side1 => repeat (first | exact (Kd.C_below HR122_2.out HB.out) | (with_reducible refine Kd.C_alloc ?_ _) | (with_reducible refine Kd.C_drewN ?_ _) | (with_reducible refine Kd.C_drew ?_)))
                (case side2 => exact HC122_2.out)
                (case side3 => repeat (first | exact (Kd.C_below HR123_2.out HB.out) | (with_reducible refine Kd.C_alloc ?_ _) | (with_reducible refine Kd.C_drewN ?_ _) | (with_reducible refine Kd.C_drew ?_)))
                (case side4 => exact HC123_2.out)
                rintro e w12 ⟨rfl, hb⟩
                refine ⟨_, rfl, ?_⟩
                have n0_ := Aside0.mk (below_step (by repeat (first | (with_reducible first | exact HB.out | apply below_alloc | apply pw_below_drewN | apply below_drew1) | exact HB.out)) hb)
                clear HB
                have HB := n0_
                clear n0_
                (try clear hb)
                (try clear hb2)
                (try clear hk)
                (try clear hi)
                refine hK.out _ _ ⟨((HB.out.cell (World.block_lt_of_cell? w _ hw122_0)).trans hw122_0), ((HB.out.cell (World.block_lt_of_cell? w _ hw122_1)).trans hw122_1), ((HB.out.cell (World.block_lt_of_cell? w _ hw122_2)).trans hw122_2), ((HB.out.cell (World.block_lt_of_cell? w _ hw123_0)).trans hw123_0), ((HB.out.cell (World.block_lt_of_cell? w _ hw123_1)).trans hw123_1), ((HB.out.cell (World.block_lt_of_cell? w _ hw123_2)).trans hw123_2)⟩ (fun hHeld => ?_)
                clear hK K
                refine norm_ (a' := ?_) ?_ ?_
                rotate_left
                · show Act.put _ (some 25) _ = _
                  simp only [Act.put, List.setIfInBounds_toArray, List.set_cons_zero, List.set_cons_succ, i64_w, i32_w]
                  rfl
                refine pure_ (i := 9) (N := some 26) (v := ?_) (a' := ?_) #[true, true, true, true, true, true, true, true, true, true] rfl rfl (any_of HT_.out (by kernel_rfl)) (fun _ _ _ h => h) (Or.inl ⟨by rfl, ?_⟩) ?_ ?_
                rotate_left
                · intro w'
                  first | (go_simp; with_reducible rfl) | (simp [go_sem, Instr.field, asAgg] <;> with_reducible rfl)
                rotate_left
                · simp only [Act.put, List.setIfInBounds_toArray, List.set_cons_zero, List.set_cons_succ, i64_w, i32_w]
                  rfl
                refine done_ (done_of HT_.out (by kernel_rfl)) ?_
                try go_wp2
                go_ret
                exact ⟨by first | rfl | (simp [errW_none, errW_some] <;> rfl) | (simp [*, errW_none, errW_some] <;> rfl), by repeat (first | (with_reducible first | exact HB.out | apply below_alloc | apply pw_below_drewN | apply below_drew1) | exact HB.out)⟩
            · rw [if_neg c6] at H
              exact absurd H (by simp)
          · rw [if_neg c5] at H
            exact absurd H (by simp)
        · rw [if_neg c4] at H
          have c4b0 : decide (x5_1 < (l0.length : Int)) = false := decide_eq_false c4
          clear c4
          obtain rfl := Option.some.inj H
          go_wp2
          go_ret
          exact ⟨by first | rfl | (simp [errW_none, errW_some] <;> rfl) | (simp [*, errW_none, errW_some] <;> rfl), by repeat (first | (with_reducible first | exact HB.out | apply below_alloc | apply pw_below_drewN | apply below_drew1) | exact HB.out)⟩
  · rw [if_neg c3] at H
    have c3b0 : ((l0.length : Int) == (l1.length : Int)) = false := beq_eq_false_iff_ne.mpr c3
    have c3b1 : ((l0.length : Int) != (l1.length : Int)) = true := bne_iff_ne.mpr c3
    have c3b2 : (l0.length == l1.length) = false := by first | simpa using c3 | (simp at c3 ⊢; omega)
    obtain rfl := Option.some.inj H
    go_enter Try.func46, Try.ntmps46
    go_wp2
    go_ret
    exact ⟨by first | rfl | (simp [errW_none, errW_some] <;> rfl) | (simp [*, errW_none, errW_some] <;> rfl), by repeat (first | (with_reducible first | exact HB.out | apply below_alloc | apply pw_below_drewN | apply below_drew1) | exact HB.out)⟩
theorem laws_eqGate.calls (k : Nat) (a0_0 : Int) (a0_1 : Int) (A0_2 : Option Addr) (c0_2 : Nat) (l0_2 : List (S29)) (a1_0 : Int) (a1_1 : Int) (A1_2 : Option Addr) (c1_2 : Nat) (l1_2 : List (S29)) (r : Bool) (w : World) (hr0_2 : Kd.C k29 w A0_2 l0_2.length l0_2) (hc0_2 : l0_2.length ≤ c0_2) (hr1_2 : Kd.C k29 w A1_2 l1_2.length l1_2) (hc1_2 : l1_2.length ≤ c1_2) (h : laws_eqGate.f k a0_0 a0_1 l0_2 a1_0 a1_1 l1_2 = some r) :
    Calls Try.prog 16 #[.agg #[.int .i64 a0_0, .int .i64 a0_1, .slice A0_2 l0_2.length c0_2], .agg #[.int .i64 a1_0, .int .i64 a1_1, .slice A1_2 l1_2.length c1_2]] w fun e w' => e = .returned (.bool r) ∧ Below w.heap.size w w' := by
  cases k with
  | zero => exact absurd h (by simp [laws_eqGate.f])
  | succ k => exact laws_eqGate.calls_of k (laws_eqGateS.calls k) a0_0 a0_1 A0_2 c0_2 l0_2 a1_0 a1_1 A1_2 c1_2 l1_2 r w hr0_2 hc0_2 hr1_2 hc1_2 h

end Go.Proofs.Ytjnobnmjhpmpfaa.P

namespace Go.Proofs.Ytjnobnmjhpmpfaa.P
open Go.RowKit Go.Proofs.YtjnobnmjhpmpfaaW.PrintWords Go.Proofs.YtjnobnmjhpmpfaaW.PrintLast Go.Proofs.YtjnobnmjhpmpfaaW.PrintMore
attribute [local go_sem] max2_int min2_int max_two min_two max_three min_three max_four min_four
set_option linter.unusedVariables false
set_option linter.unusedSimpArgs false

/-! ### laws_toGate: function 14 (by hand) -/
theorem laws_toGate.calls (k : Nat) (a0_0 : Int) (a0_1 : Int) (A0_2 : Option Addr) (c0_2 : Nat) (l0_2 : List S24) (r1 : Int) (r2 : Int) (r3 : List S29) (w : World) (hr0_2 : Kd.C k24 w A0_2 l0_2.length l0_2) (hc0_2 : l0_2.length ≤ c0_2) (h : laws_toGate.f k a0_0 a0_1 l0_2 = some (r1, r2, r3)) :
    Calls Try.prog 14 #[.agg #[.int .i64 a0_0, .int .i64 a0_1, .slice A0_2 l0_2.length c0_2]] w fun e w' => ∃ v2_ : Value, e = .returned (.agg #[.int .i64 r1, .int .i64 r2, v2_]) ∧ Kd.S kG 29 w' w.heap.size (fun _ => True) v2_ r3 ∧ Below w.heap.size w w' := by
  cases k with
  | zero => exact absurd h (by simp [laws_toGate.f])
  | succ k => exact laws_toGate.calls_of k (laws_toGateS.calls k) a0_0 a0_1 A0_2 c0_2 l0_2 r1 r2 r3 w hr0_2 hc0_2 h

end Go.Proofs.Ytjnobnmjhpmpfaa.P

namespace Go.Proofs.Ytjnobnmjhpmpfaa.P
open Go.RowKit Go.Proofs.YtjnobnmjhpmpfaaW.PrintWords Go.Proofs.YtjnobnmjhpmpfaaW.PrintLast Go.Proofs.YtjnobnmjhpmpfaaW.PrintMore
attribute [local go_sem] max2_int min2_int max_two min_two max_three min_three max_four min_four
set_option linter.unusedVariables false
set_option linter.unusedSimpArgs false

mutual
/-- A tree as the program's own type. -/
def cvT : S24 → S29
  | ⟨a, b, l⟩ => ⟨a, b, cvL l⟩
def cvL : List S24 → List S29
  | [] => []
  | x :: l => cvT x :: cvL l
end

end Go.Proofs.Ytjnobnmjhpmpfaa.P

namespace Go.Proofs.Ytjnobnmjhpmpfaa.P
open Go.RowKit Go.Proofs.YtjnobnmjhpmpfaaW.PrintWords Go.Proofs.YtjnobnmjhpmpfaaW.PrintLast Go.Proofs.YtjnobnmjhpmpfaaW.PrintMore
attribute [local go_sem] max2_int min2_int max_two min_two max_three min_three max_four min_four
set_option linter.unusedVariables false
set_option linter.unusedSimpArgs false

/-! ### laws_FnExactDualGate: function 6 (the law's walk, by a program of this session) -/
set_option maxHeartbeats 8000000 in
set_option maxRecDepth 100000 in
theorem laws_FnExactDualGate.way0 (k : Nat) (a0 : Int) (a1_0 : Int) (a1_1 : Int) (A1_2 : Option Addr) (c1_2 : Nat) (l1_2 : List (S24)) (s2 : Int) (w : World) (hr1_2 : Kd.C k24 w A1_2 l1_2.length l1_2) (hc1_2 : l1_2.length ≤ c1_2) (A3 : laws_szGate.f k a1_0 a1_1 l1_2 1048576 = some s2) (t9 : decide (s2 < 0) = true) :
    Calls Try.prog 6 #[.int .i64 a0, .agg #[.int .i64 a1_0, .int .i64 a1_1, .slice A1_2 l1_2.length c1_2]] w fun e w' => e = .returned (.bool true) ∧ Below w.heap.size w w' := by
  have hu24 := Try.underlying24
  have HR1_2 := Aside0.mk hr1_2
  have HC1_2 := Aside0.mk hc1_2
  clear hr1_2 hc1_2
  have HB := Aside0.mk (Below.refl w.heap.size w)
  replace A3 := Aside0.mk A3
  go_enter Try.func6, Try.ntmps6
  go_wp2_with (first | ((with_reducible refine gate_callee (f := 12) rfl ?_); refine goesL_ (some 18) rfl rfl Try.func12 (by kernel_rfl) rfl #[.agg #[.int .i64 a1_0, .int .i64 a1_1, .slice A1_2 l1_2.length c1_2], .int .i64 1048576] rfl (by (try simp only [List.map_toArray, List.map_cons, List.map_nil]); first | done | rfl | (simp only [List.length_drop, List.length_take]; rfl)) ?_; (with_reducible refine (laws_szGate.calls k a1_0 a1_1 _ _ l1_2 1048576 s2 _ ?side1 ?side2 A3.out).mono ?_); (case side1 => exact Kd.C_below HR1_2.out (by repeat (first | (with_reducible first | exact HB.out | apply below_alloc | apply pw_below_drewN | apply below_drew1) | exact HB.out))); (case side2 => exact HC1_2.out); rintro e w1 ⟨rfl, hb⟩; refine ⟨_, rfl, ?_⟩; have n1_ := Aside0.mk (blk_below (g := w.heap.size) (o := .cells #[.int .i64 a1_0, .int .i64 a1_1, .slice A1_2 l1_2.length c1_2] 24 (0, 0)) (by repeat (first | exact blk_new_at (by simp) | (with_reducible refine blk_drewN ?_ _) | (with_reducible refine blk_drew ?_) | (with_reducible refine blk_alloc ?_ _))) hb); have n2_ := Aside0.mk (below_step (by repeat (first | (with_reducible first | exact HB.out | apply below_alloc | apply pw_below_drewN | apply below_drew1) | exact HB.out)) hb); have C4 : Aside0 (w.heap.size + 1 ≤ w1.heap.size) := ⟨by have h_ := hb.size; (try simp at h_); omega⟩; have CC := Aside0.mk C4.out; clear HB; have HX1 := n1_; clear n1_; have HB := n2_; clear n2_; (try clear hb); have hl5 : w.heap.size < w1.heap.size := blk_lt HX1.out; have hx6 : w1.cell? ⟨w.heap.size, 0, none⟩ = some (.int .i64 a1_0) := (blk_cell HX1.out 0).trans rfl; have hx7 : w1.cell? ⟨w.heap.size, 1, none⟩ = some (.int .i64 a1_1) := (blk_cell HX1.out 1).trans rfl; have hx8 : w1.cell? ⟨w.heap.size, 2, none⟩ = some (.slice A1_2 l1_2.length c1_2) := (blk_cell HX1.out 2).trans rfl))
  go_ret
  exact ⟨rfl, by repeat (first | (with_reducible first | exact HB.out | apply below_alloc | apply pw_below_drewN | apply below_drew1) | exact HB.out)⟩
set_option maxHeartbeats 8000000 in
set_option maxRecDepth 100000 in
theorem laws_FnExactDualGate.way1 (k : Nat) (a0 : Int) (a1_0 : Int) (a1_1 : Int) (A1_2 : Option Addr) (c1_2 : Nat) (l1_2 : List (S24)) (s2 : Int) (r18 : Int) (r19 : Int) (r20 : List (S29)) (r21 : Int) (m117 : Int) (ys118 : List (S29)) (m156 : Int) (ys157 : List (S29)) (w : World) (hr1_2 : Kd.C k24 w A1_2 l1_2.length l1_2) (hc1_2 : l1_2.length ≤ c1_2) (A3 : laws_szGate.f k a1_0 a1_1 l1_2 1048576 = some s2) (t9 : decide (s2 < 0) = false) (A10 : laws_toGate.f k a1_0 a1_1 l1_2 = some (a1_0, a1_1, (cvL l1_2))) (A22 : spec_DualGate.f k a0 a1_0 a1_1 (cvL l1_2) = some (r18, r19, r20, r21)) (A31 : laws_toGate.f k a1_0 a1_1 l1_2 = some (a1_0, a1_1, (cvL l1_2))) (A44 : impl_DualGate.f k a0 a1_0 a1_1 (cvL l1_2) = some (r18, r19, r20, r21)) (A61 : laws_eqGate.f k r18 r19 r20 r18 r19 r20 = some true) (A79 : laws_toGate.f k a1_0 a1_1 l1_2 = some (a1_0, a1_1, (cvL l1_2))) (A99 : laws_eqGate.f k a1_0 a1_1 (cvL l1_2) a1_0 a1_1 (cvL l1_2) = some true) (A119 : laws_markGate.f k a1_0 a1_1 (cvL l1_2) 1 = some (m117, ys118)) (t137 : decide (m117 < 0) = false) (A138 : laws_eqGate.f k r18 r19 r20 r18 r19 r20 = some true) (A158 : laws_markGate.f k r18 r19 r20 1 = some (m156, ys157)) (A176 : laws_heldGate.f k r18 r19 ys157 1 = some m156) (t194 : decide (m156 < 0) = false) (A195 : laws_toGate.f k a1_0 a1_1 l1_2 = some (a1_0, a1_1, (cvL l1_2))) (A215 : impl_DualGate.f k a0 a1_0 a1_1 (cvL l1_2) = some (r18, r19, r20, r21)) (A236 : laws_eqGate.f k r18 r19 r20 r18 r19 r20 = some true) (A258 : laws_heldGate.f k r18 r19 ys157 1 = some m156) (t280 : decide (m156 < 0) = false) :
    Calls Try.prog 6 #[.int .i64 a0, .agg #[.int .i64 a1_0, .int .i64 a1_1, .slice A1_2 l1_2.length c1_2]] w fun e w' => e = .returned (.bool true) ∧ Below w.heap.size w w' := by
  have hu24 := Try.underlying24
  have hu29 := Try.underlying29
  have HR1_2 := Aside0.mk hr1_2
  have HC1_2 := Aside0.mk hc1_2
  clear hr1_2 hc1_2
  have HB := Aside0.mk (Below.refl w.heap.size w)
  replace A3 := Aside0.mk A3
  replace A10 := Aside0.mk A10
  replace A22 := Aside0.mk A22
  replace A31 := Aside0.mk A31
  replace A44 := Aside0.mk A44
  replace A61 := Aside0.mk A61
  replace A79 := Aside0.mk A79
  replace A99 := Aside0.mk A99
  replace A119 := Aside0.mk A119
  replace A138 := Aside0.mk A138
  replace A158 := Aside0.mk A158
  replace A176 := Aside0.mk A176
  replace A195 := Aside0.mk A195
  replace A215 := Aside0.mk A215
  replace A236 := Aside0.mk A236
  replace A258 := Aside0.mk A258
  go_enter Try.func6, Try.ntmps6
  go_wp2_with (first | ((with_reducible refine gate_callee (f := 12) rfl ?_); refine goesL_ (some 18) rfl rfl Try.func12 (by kernel_rfl) rfl #[.agg #[.int .i64 a1_0, .int .i64 a1_1, .slice A1_2 l1_2.length c1_2], .int .i64 1048576] rfl (by (try simp only [List.map_toArray, List.map_cons, List.map_nil]); first | done | rfl | (simp only [List.length_drop, List.length_take]; rfl)) ?_; (with_reducible refine (laws_szGate.calls k a1_0 a1_1 _ _ l1_2 1048576 s2 _ ?side1 ?side2 A3.out).mono ?_); (case side1 => exact Kd.C_below HR1_2.out (by repeat (first | (with_reducible first | exact HB.out | apply below_alloc | apply pw_below_drewN | apply below_drew1) | exact HB.out))); (case side2 => exact HC1_2.out); rintro e w1 ⟨rfl, hb⟩; refine ⟨_, rfl, ?_⟩; have n1_ := Aside0.mk (blk_below (g := w.heap.size) (o := .cells #[.int .i64 a1_0, .int .i64 a1_1, .slice A1_2 l1_2.length c1_2] 24 (0, 0)) (by repeat (first | exact blk_new_at (by simp) | (with_reducible refine blk_drewN ?_ _) | (with_reducible refine blk_drew ?_) | (with_reducible refine blk_alloc ?_ _))) hb); have n2_ := Aside0.mk (below_step (by repeat (first | (with_reducible first | exact HB.out | apply below_alloc | apply pw_below_drewN | apply below_drew1) | exact HB.out)) hb); have C4 : Aside0 (w.heap.size + 1 ≤ w1.heap.size) := ⟨by have h_ := hb.size; (try simp at h_); omega⟩; have CC := Aside0.mk C4.out; clear HB; have HX1 := n1_; clear n1_; have HB := n2_; clear n2_; (try clear hb); have hl5 : w.heap.size < w1.heap.size := blk_lt HX1.out; have hx6 : w1.cell? ⟨w.heap.size, 0, none⟩ = some (.int .i64 a1_0) := (blk_cell HX1.out 0).trans rfl; have hx7 : w1.cell? ⟨w.heap.size, 1, none⟩ = some (.int .i64 a1_1) := (blk_cell HX1.out 1).trans rfl; have hx8 : w1.cell? ⟨w.heap.size, 2, none⟩ = some (.slice A1_2 l1_2.length c1_2) := (blk_cell HX1.out 2).trans rfl) | ((with_reducible refine gate_callee (f := 14) rfl ?_); refine goesL_ (some 24) rfl rfl Try.func14 (by kernel_rfl) rfl #[.agg #[.int .i64 a1_0, .int .i64 a1_1, .slice A1_2 l1_2.length c1_2]] rfl (by (try simp only [List.map_toArray, List.map_cons, List.map_nil]); first | done | rfl | (simp only [List.length_drop, List.length_take]; rfl)) ?_; (with_reducible refine (laws_toGate.calls k a1_0 a1_1 _ _ l1_2 a1_0 a1_1 (cvL l1_2) _ ?side1 ?side2 A10.out).mono ?_); (case side1 => exact Kd.C_below HR1_2.out (by repeat (first | (with_reducible first | exact HB.out | apply below_alloc | apply pw_below_drewN | apply below_drew1) | exact HB.out))); (case side2 => exact HC1_2.out); rintro e w2 ⟨v100_, rfl, ho0_, hb⟩; refine ⟨_, rfl, ?_⟩; have n1_ := Aside0.mk (blk_below (g := w.heap.size) (o := .cells #[.int .i64 a1_0, .int .i64 a1_1, .slice A1_2 l1_2.length c1_2] 24 (0, 0)) (by (with_reducible repeat (first | refine blk_drewN ?_ _ | refine blk_drew ?_ | refine blk_alloc ?_ _)); exact HX1.out) hb); have n2_ := Aside0.mk (below_step (by repeat (first | (with_reducible first | exact HB.out | apply below_alloc | apply pw_below_drewN | apply below_drew1) | exact HB.out)) hb); have C11 : Aside0 (w1.heap.size ≤ w2.heap.size) := ⟨by have h_ := hb.size; (try simp at h_); omega⟩; have CCn_ := Aside0.mk (And.intro CC.out C11.out); clear CC; have CC := CCn_; clear CCn_; clear HX1; clear HB; clear hl5; clear hx6; clear hx7; clear hx8; have HX1 := n1_; clear n1_; have HB := n2_; clear n2_; have HO12 := Aside0.mk (Kd.G_lower (base' := w.heap.size) (Kd.G_mono (Kd.G_bound ho0_) (ok' := fun k_ => w1.heap.size ≤ k_ ∧ k_ < w2.heap.size) (fun k_ hk_ => ⟨by have h_ := hk_.2.1; (try simp at h_); omega, hk_.2.2.1⟩)) (by have := CC.out; first | omega | (simp; done) | (simp; omega))); obtain ⟨Az13, cz13, ez13⟩ := Kd.G_slice HO12.out; subst ez13; (try clear hb); (try clear ho0_); have hl14 : w.heap.size < w2.heap.size := blk_lt HX1.out; have hx15 : w2.cell? ⟨w.heap.size, 0, none⟩ = some (.int .i64 a1_0) := (blk_cell HX1.out 0).trans rfl; have hx16 : w2.cell? ⟨w.heap.size, 1, none⟩ = some (.int .i64 a1_1) := (blk_cell HX1.out 1).trans rfl; have hx17 : w2.cell? ⟨w.heap.size, 2, none⟩ = some (.slice A1_2 l1_2.length c1_2) := (blk_cell HX1.out 2).trans rfl) | ((with_reducible refine gate_callee (f := 21) rfl ?_); refine goesL_ (some 25) rfl rfl Try.func21 (by kernel_rfl) rfl #[.int .i64 a0, .agg #[.int .i64 a1_0, .int .i64 a1_1, .slice Az13 (cvL l1_2).length cz13]] rfl (by (try simp only [List.map_toArray, List.map_cons, List.map_nil]); first | done | rfl | (simp only [List.length_drop, List.length_take]; rfl)) ?_; (with_reducible refine (spec_DualGate.calls k a0 a1_0 a1_1 _ _ (cvL l1_2) r18 r19 r20 r21 _ ?side1 ?side2 A22.out).mono ?_); (case side1 => exact (Kd.G_reads' (n := (cvL l1_2).length) (A := Az13) (c := cz13) (by (with_reducible repeat (first | apply Kd.G_alloc | apply Kd.G_drewN | apply Kd.G_drew)); exact HO12.out)).2.2); (case side2 => exact (Kd.G_reads' (n := (cvL l1_2).length) (A := Az13) (c := cz13) HO12.out).2.1); rintro e w3 ⟨v100_, rfl, ho0_, hb⟩; refine ⟨_, rfl, ?_⟩; have n1_ := Aside0.mk (Kd.G_below (by (with_reducible repeat (first | apply Kd.G_alloc | apply Kd.G_drewN | apply Kd.G_drew)); exact HO12.out) hb); have n2_ := Aside0.mk (blk_below (g := w.heap.size) (o := .cells #[.int .i64 a1_0, .int .i64 a1_1, .slice A1_2 l1_2.length c1_2] 24 (0, 0)) (by (with_reducible repeat (first | refine blk_drewN ?_ _ | refine blk_drew ?_ | refine blk_alloc ?_ _)); exact HX1.out) hb); have n3_ := Aside0.mk (below_step (by repeat (first | (with_reducible first | exact HB.out | apply below_alloc | apply pw_below_drewN | apply below_drew1) | exact HB.out)) hb); have C23 : Aside0 (w2.heap.size ≤ w3.heap.size) := ⟨by have h_ := hb.size; (try simp at h_); omega⟩; have CCn_ := Aside0.mk (And.intro CC.out C23.out); clear CC; have CC := CCn_; clear CCn_; clear HO12; clear HX1; clear HB; clear hl14; clear hx15; clear hx16; clear hx17; have HO12 := n1_; clear n1_; have HX1 := n2_; clear n2_; have HB := n3_; clear n3_; have HO24 := Aside0.mk (Kd.G_lower (base' := w.heap.size) (Kd.G_mono (Kd.G_bound ho0_) (ok' := fun k_ => w2.heap.size ≤ k_ ∧ k_ < w3.heap.size) (fun k_ hk_ => ⟨by have h_ := hk_.2.1; (try simp at h_); omega, hk_.2.2.1⟩)) (by have := CC.out; first | omega | (simp; done) | (simp; omega))); obtain ⟨Az25, cz25, ez25⟩ := Kd.G_slice HO24.out; subst ez25; (try clear hb); (try clear ho0_); have hl26 : w.heap.size < w3.heap.size := blk_lt HX1.out; have hx27 : w3.cell? ⟨w.heap.size, 0, none⟩ = some (.int .i64 a1_0) := (blk_cell HX1.out 0).trans rfl; have hx28 : w3.cell? ⟨w.heap.size, 1, none⟩ = some (.int .i64 a1_1) := (blk_cell HX1.out 1).trans rfl; have hx29 : w3.cell? ⟨w.heap.size, 2, none⟩ = some (.slice A1_2 l1_2.length c1_2) := (blk_cell HX1.out 2).trans rfl) | ((with_reducible refine gate_callee (f := 14) rfl ?_); refine goesL_ (some 29) rfl rfl Try.func14 (by kernel_rfl) rfl #[.agg #[.int .i64 a1_0, .int .i64 a1_1, .slice A1_2 l1_2.length c1_2]] rfl (by (try simp only [List.map_toArray, List.map_cons, List.map_nil]); first | done | rfl | (simp only [List.length_drop, List.length_take]; rfl)) ?_; (with_reducible refine (laws_toGate.calls k a1_0 a1_1 _ _ l1_2 a1_0 a1_1 (cvL l1_2) _ ?side1 ?side2 A31.out).mono ?_); (case side1 => exact Kd.C_below HR1_2.out (by repeat (first | (with_reducible first | exact HB.out | apply below_alloc | apply pw_below_drewN | apply below_drew1) | exact HB.out))); (case side2 => exact HC1_2.out); rintro e w4 ⟨v100_, rfl, ho0_, hb⟩; refine ⟨_, rfl, ?_⟩; have n1_ := Aside0.mk (Kd.G_below (by (with_reducible repeat (first | apply Kd.G_alloc | apply Kd.G_drewN | apply Kd.G_drew)); exact HO24.out) hb); have n2_ := Aside0.mk (blk_below (g := w.heap.size) (o := .cells #[.int .i64 a1_0, .int .i64 a1_1, .slice A1_2 l1_2.length c1_2] 24 (0, 0)) (by (with_reducible repeat (first | refine blk_drewN ?_ _ | refine blk_drew ?_ | refine blk_alloc ?_ _)); exact HX1.out) hb); have n3_ := Aside0.mk (blk_below (g := w3.heap.size) (o := .cells #[.int .i64 r18, .int .i64 r19, .slice Az25 r20.length cz25] 29 (0, 0)) (by repeat (first | exact blk_new_at (by simp) | (with_reducible refine blk_drewN ?_ _) | (with_reducible refine blk_drew ?_) | (with_reducible refine blk_alloc ?_ _))) hb); have n4_ := Aside0.mk (below_step (by repeat (first | (with_reducible first | exact HB.out | apply below_alloc | apply pw_below_drewN | apply below_drew1) | exact HB.out)) hb); have C32 : Aside0 (w3.heap.size + 1 ≤ w4.heap.size) := ⟨by have h_ := hb.size; (try simp at h_); omega⟩; have CCn_ := Aside0.mk (And.intro CC.out C32.out); clear CC; have CC := CCn_; clear CCn_; clear HO24; clear HX1; clear HB; clear hl26; clear hx27; clear hx28; clear hx29; have HO24 := n1_; clear n1_; have HX1 := n2_; clear n2_; have HX30 := n3_; clear n3_; have HB := n4_; clear n4_; have HO33 := Aside0.mk (Kd.G_lower (base' := w.heap.size) (Kd.G_mono (Kd.G_bound ho0_) (ok' := fun k_ => w3.heap.size + 1 ≤ k_ ∧ k_ < w4.heap.size) (fun k_ hk_ => ⟨by have h_ := hk_.2.1; (try simp at h_); omega, hk_.2.2.1⟩)) (by have := CC.out; first | omega | (simp; done) | (simp; omega))); obtain ⟨Az34, cz34, ez34⟩ := Kd.G_slice HO33.out; subst ez34; (try clear hb); (try clear ho0_); have hl35 : w.heap.size < w4.heap.size := blk_lt HX1.out; have hx36 : w4.cell? ⟨w.heap.size, 0, none⟩ = some (.int .i64 a1_0) := (blk_cell HX1.out 0).trans rfl; have hx37 : w4.cell? ⟨w.heap.size, 1, none⟩ = some (.int .i64 a1_1) := (blk_cell HX1.out 1).trans rfl; have hx38 : w4.cell? ⟨w.heap.size, 2, none⟩ = some (.slice A1_2 l1_2.length c1_2) := (blk_cell HX1.out 2).trans rfl; have hl39 : w3.heap.size < w4.heap.size := blk_lt HX30.out; have hx40 : w4.cell? ⟨w3.heap.size, 0, none⟩ = some (.int .i64 r18) := (blk_cell HX30.out 0).trans rfl; have hx41 : w4.cell? ⟨w3.heap.size, 1, none⟩ = some (.int .i64 r19) := (blk_cell HX30.out 1).trans rfl; have hx42 : w4.cell? ⟨w3.heap.size, 2, none⟩ = some (.slice Az25 r20.length cz25) := (blk_cell HX30.out 2).trans rfl) | ((with_reducible refine gate_callee (f := 22) rfl ?_); refine goesL_ (some 33) rfl rfl Try.func22 (by kernel_rfl) rfl #[.int .i64 a0, .agg #[.int .i64 a1_0, .int .i64 a1_1, .slice Az34 (cvL l1_2).length cz34]] rfl (by (try simp only [List.map_toArray, List.map_cons, List.map_nil]); first | done | rfl | (simp only [List.length_drop, List.length_take]; rfl)) ?_; (with_reducible refine (impl_DualGate.calls k a0 a1_0 a1_1 _ _ (cvL l1_2) r18 r19 r20 r21 _ ?side1 ?side2 A44.out).mono ?_); (case side1 => exact (Kd.G_reads' (n := (cvL l1_2).length) (A := Az34) (c := cz34) (by (with_reducible repeat (first | apply Kd.G_alloc | apply Kd.G_drewN | apply Kd.G_drew)); exact HO33.out)).2.2); (case side2 => exact (Kd.G_reads' (n := (cvL l1_2).length) (A := Az34) (c := cz34) HO33.out).2.1); rintro e w5 ⟨v100_, rfl, ho0_, hb⟩; refine ⟨_, rfl, ?_⟩; have n1_ := Aside0.mk (Kd.G_below (by (with_reducible repeat (first | apply Kd.G_alloc | apply Kd.G_drewN | apply Kd.G_drew)); exact HO24.out) hb); have n2_ := Aside0.mk (Kd.G_below (by (with_reducible repeat (first | apply Kd.G_alloc | apply Kd.G_drewN | apply Kd.G_drew)); exact HO33.out) hb); have n3_ := Aside0.mk (blk_below (g := w.heap.size) (o := .cells #[.int .i64 a1_0, .int .i64 a1_1, .slice A1_2 l1_2.length c1_2] 24 (0, 0)) (by (with_reducible repeat (first | refine blk_drewN ?_ _ | refine blk_drew ?_ | refine blk_alloc ?_ _)); exact HX1.out) hb); have n4_ := Aside0.mk (blk_below (g := w3.heap.size) (o := .cells #[.int .i64 r18, .int .i64 r19, .slice Az25 r20.length cz25] 29 (0, 0)) (by (with_reducible repeat (first | refine blk_drewN ?_ _ | refine blk_drew ?_ | refine blk_alloc ?_ _)); exact HX30.out) hb); have n5_ := Aside0.mk (blk_below (g := w4.heap.size) (o := .cells #[.int .i64 a1_0, .int .i64 a1_1, .slice Az34 (cvL l1_2).length cz34] 29 (0, 0)) (by repeat (first | exact blk_new_at (by simp) | (with_reducible refine blk_drewN ?_ _) | (with_reducible refine blk_drew ?_) | (with_reducible refine blk_alloc ?_ _))) hb); have n6_ := Aside0.mk (below_step (by repeat (first | (with_reducible first | exact HB.out | apply below_alloc | apply pw_below_drewN | apply below_drew1) | exact HB.out)) hb); have C45 : Aside0 (w4.heap.size + 1 ≤ w5.heap.size) := ⟨by have h_ := hb.size; (try simp at h_); omega⟩; have CCn_ := Aside0.mk (And.intro CC.out C45.out); clear CC; have CC := CCn_; clear CCn_; clear HO24; clear HO33; clear HX1; clear HX30; clear HB; clear hl35; clear hx36; clear hx37; clear hx38; clear hl39; clear hx40; clear hx41; clear hx42; have HO24 := n1_; clear n1_; have HO33 := n2_; clear n2_; have HX1 := n3_; clear n3_; have HX30 := n4_; clear n4_; have HX43 := n5_; clear n5_; have HB := n6_; clear n6_; have HO46 := Aside0.mk (Kd.G_lower (base' := w.heap.size) (Kd.G_mono (Kd.G_bound ho0_) (ok' := fun k_ => w4.heap.size + 1 ≤ k_ ∧ k_ < w5.heap.size) (fun k_ hk_ => ⟨by have h_ := hk_.2.1; (try simp at h_); omega, hk_.2.2.1⟩)) (by have := CC.out; first | omega | (simp; done) | (simp; omega))); obtain ⟨Az47, cz47, ez47⟩ := Kd.G_slice HO46.out; subst ez47; (try clear hb); (try clear ho0_); have hl48 : w.heap.size < w5.heap.size := blk_lt HX1.out; have hx49 : w5.cell? ⟨w.heap.size, 0, none⟩ = some (.int .i64 a1_0) := (blk_cell HX1.out 0).trans rfl; have hx50 : w5.cell? ⟨w.heap.size, 1, none⟩ = some (.int .i64 a1_1) := (blk_cell HX1.out 1).trans rfl; have hx51 : w5.cell? ⟨w.heap.size, 2, none⟩ = some (.slice A1_2 l1_2.length c1_2) := (blk_cell HX1.out 2).trans rfl; have hl52 : w3.heap.size < w5.heap.size := blk_lt HX30.out; have hx53 : w5.cell? ⟨w3.heap.size, 0, none⟩ = some (.int .i64 r18) := (blk_cell HX30.out 0).trans rfl; have hx54 : w5.cell? ⟨w3.heap.size, 1, none⟩ = some (.int .i64 r19) := (blk_cell HX30.out 1).trans rfl; have hx55 : w5.cell? ⟨w3.heap.size, 2, none⟩ = some (.slice Az25 r20.length cz25) := (blk_cell HX30.out 2).trans rfl; have hl56 : w4.heap.size < w5.heap.size := blk_lt HX43.out; have hx57 : w5.cell? ⟨w4.heap.size, 0, none⟩ = some (.int .i64 a1_0) := (blk_cell HX43.out 0).trans rfl; have hx58 : w5.cell? ⟨w4.heap.size, 1, none⟩ = some (.int .i64 a1_1) := (blk_cell HX43.out 1).trans rfl; have hx59 : w5.cell? ⟨w4.heap.size, 2, none⟩ = some (.slice Az34 (cvL l1_2).length cz34) := (blk_cell HX43.out 2).trans rfl) | ((with_reducible refine gate_callee (f := 16) rfl ?_); refine goesL_ (some 38) rfl rfl Try.func16 (by kernel_rfl) rfl #[.agg #[.int .i64 r18, .int .i64 r19, .slice Az47 r20.length cz47], .agg #[.int .i64 r18, .int .i64 r19, .slice Az25 r20.length cz25]] rfl (by (try simp only [List.map_toArray, List.map_cons, List.map_nil]); first | done | rfl | (simp only [List.length_drop, List.length_take]; rfl)) ?_; (with_reducible refine (laws_eqGate.calls k r18 r19 _ _ r20 r18 r19 _ _ r20 true _ ?side1 ?side2 ?side3 ?side4 A61.out).mono ?_); (case side1 => exact (Kd.G_reads' (n := r20.length) (A := Az47) (c := cz47) (by (with_reducible repeat (first | apply Kd.G_alloc | apply Kd.G_drewN | apply Kd.G_drew)); exact HO46.out)).2.2); (case side2 => exact (Kd.G_reads' (n := r20.length) (A := Az47) (c := cz47) HO46.out).2.1); (case side3 => exact (Kd.G_reads' (n := r20.length) (A := Az25) (c := cz25) (by (with_reducible repeat (first | apply Kd.G_alloc | apply Kd.G_drewN | apply Kd.G_drew)); exact HO24.out)).2.2); (case side4 => exact (Kd.G_reads' (n := r20.length) (A := Az25) (c := cz25) HO24.out).2.1); rintro e w6 ⟨rfl, hb⟩; refine ⟨_, rfl, ?_⟩; have n1_ := Aside0.mk (Kd.G_below (by (with_reducible repeat (first | apply Kd.G_alloc | apply Kd.G_drewN | apply Kd.G_drew)); exact HO24.out) hb); have n2_ := Aside0.mk (Kd.G_below (by (with_reducible repeat (first | apply Kd.G_alloc | apply Kd.G_drewN | apply Kd.G_drew)); exact HO33.out) hb); have n3_ := Aside0.mk (Kd.G_below (by (with_reducible repeat (first | apply Kd.G_alloc | apply Kd.G_drewN | apply Kd.G_drew)); exact HO46.out) hb); have n4_ := Aside0.mk (blk_below (g := w.heap.size) (o := .cells #[.int .i64 a1_0, .int .i64 a1_1, .slice A1_2 l1_2.length c1_2] 24 (0, 0)) (by (with_reducible repeat (first | refine blk_drewN ?_ _ | refine blk_drew ?_ | refine blk_alloc ?_ _)); exact HX1.out) hb); have n5_ := Aside0.mk (blk_below (g := w3.heap.size) (o := .cells #[.int .i64 r18, .int .i64 r19, .slice Az25 r20.length cz25] 29 (0, 0)) (by (with_reducible repeat (first | refine blk_drewN ?_ _ | refine blk_drew ?_ | refine blk_alloc ?_ _)); exact HX30.out) hb); have n6_ := Aside0.mk (blk_below (g := w4.heap.size) (o := .cells #[.int .i64 a1_0, .int .i64 a1_1, .slice Az34 (cvL l1_2).length cz34] 29 (0, 0)) (by (with_reducible repeat (first | refine blk_drewN ?_ _ | refine blk_drew ?_ | refine blk_alloc ?_ _)); exact HX43.out) hb); have n7_ := Aside0.mk (blk_below (g := w5.heap.size) (o := .cells #[.int .i64 r18, .int .i64 r19, .slice Az47 r20.length cz47] 29 (0, 0)) (by repeat (first | exact blk_new_at (by simp) | (with_reducible refine blk_drewN ?_ _) | (with_reducible refine blk_drew ?_) | (with_reducible refine blk_alloc ?_ _))) hb); have n8_ := Aside0.mk (below_step (by repeat (first | (with_reducible first | exact HB.out | apply below_alloc | apply pw_below_drewN | apply below_drew1) | exact HB.out)) hb); have C62 : Aside0 (w5.heap.size + 1 ≤ w6.heap.size) := ⟨by have h_ := hb.size; (try simp at h_); omega⟩; have CCn_ := Aside0.mk (And.intro CC.out C62.out); clear CC; have CC := CCn_; clear CCn_; clear HO24; clear HO33; clear HO46; clear HX1; clear HX30; clear HX43; clear HB; clear hl48; clear hx49; clear hx50; clear hx51; clear hl52; clear hx53; clear hx54; clear hx55; clear hl56; clear hx57; clear hx58; clear hx59; have HO24 := n1_; clear n1_; have HO33 := n2_; clear n2_; have HO46 := n3_; clear n3_; have HX1 := n4_; clear n4_; have HX30 := n5_; clear n5_; have HX43 := n6_; clear n6_; have HX60 := n7_; clear n7_; have HB := n8_; clear n8_; (try clear hb); have hl63 : w.heap.size < w6.heap.size := blk_lt HX1.out; have hx64 : w6.cell? ⟨w.heap.size, 0, none⟩ = some (.int .i64 a1_0) := (blk_cell HX1.out 0).trans rfl; have hx65 : w6.cell? ⟨w.heap.size, 1, none⟩ = some (.int .i64 a1_1) := (blk_cell HX1.out 1).trans rfl; have hx66 : w6.cell? ⟨w.heap.size, 2, none⟩ = some (.slice A1_2 l1_2.length c1_2) := (blk_cell HX1.out 2).trans rfl; have hl67 : w3.heap.size < w6.heap.size := blk_lt HX30.out; have hx68 : w6.cell? ⟨w3.heap.size, 0, none⟩ = some (.int .i64 r18) := (blk_cell HX30.out 0).trans rfl; have hx69 : w6.cell? ⟨w3.heap.size, 1, none⟩ = some (.int .i64 r19) := (blk_cell HX30.out 1).trans rfl; have hx70 : w6.cell? ⟨w3.heap.size, 2, none⟩ = some (.slice Az25 r20.length cz25) := (blk_cell HX30.out 2).trans rfl; have hl71 : w4.heap.size < w6.heap.size := blk_lt HX43.out; have hx72 : w6.cell? ⟨w4.heap.size, 0, none⟩ = some (.int .i64 a1_0) := (blk_cell HX43.out 0).trans rfl; have hx73 : w6.cell? ⟨w4.heap.size, 1, none⟩ = some (.int .i64 a1_1) := (blk_cell HX43.out 1).trans rfl; have hx74 : w6.cell? ⟨w4.heap.size, 2, none⟩ = some (.slice Az34 (cvL l1_2).length cz34) := (blk_cell HX43.out 2).trans rfl; have hl75 : w5.heap.size < w6.heap.size := blk_lt HX60.out; have hx76 : w6.cell? ⟨w5.heap.size, 0, none⟩ = some (.int .i64 r18) := (blk_cell HX60.out 0).trans rfl; have hx77 : w6.cell? ⟨w5.heap.size, 1, none⟩ = some (.int .i64 r19) := (blk_cell HX60.out 1).trans rfl; have hx78 : w6.cell? ⟨w5.heap.size, 2, none⟩ = some (.slice Az47 r20.length cz47) := (blk_cell HX60.out 2).trans rfl))
  go_region_held3 (fun w' => w'.cell? ⟨w4.heap.size, 0, none⟩ = some (.int .i64 a1_0) ∧ w'.cell? ⟨w4.heap.size, 1, none⟩ = some (.int .i64 a1_1) ∧ w'.cell? ⟨w4.heap.size, 2, none⟩ = some (.slice Az34 (cvL l1_2).length cz34) ∧ w'.cell? ⟨w.heap.size, 0, none⟩ = some (.int .i64 a1_0) ∧ w'.cell? ⟨w.heap.size, 1, none⟩ = some (.int .i64 a1_1) ∧ w'.cell? ⟨w.heap.size, 2, none⟩ = some (.slice A1_2 l1_2.length c1_2)) (first | ((repeat' apply And.intro) <;> assumption) | go_keep) (first | (go_at_call 14; (with_reducible refine (laws_toGate.calls k a1_0 a1_1 _ _ l1_2 a1_0 a1_1 (cvL l1_2) _ ?side1 ?side2 A79.out).mono ?_); (case side1 => exact Kd.C_below HR1_2.out (by repeat (first | (with_reducible first | exact HB.out | apply below_alloc | apply pw_below_drewN | apply below_drew1) | exact HB.out))); (case side2 => exact HC1_2.out); rintro e w7 ⟨v100_, rfl, ho0_, hb⟩; have n1_ := Aside0.mk (Kd.G_below (by (with_reducible repeat (first | apply Kd.G_alloc | apply Kd.G_drewN | apply Kd.G_drew)); exact HO24.out) hb); have n2_ := Aside0.mk (Kd.G_below (by (with_reducible repeat (first | apply Kd.G_alloc | apply Kd.G_drewN | apply Kd.G_drew)); exact HO33.out) hb); have n3_ := Aside0.mk (Kd.G_below (by (with_reducible repeat (first | apply Kd.G_alloc | apply Kd.G_drewN | apply Kd.G_drew)); exact HO46.out) hb); have n4_ := Aside0.mk (blk_below (g := w.heap.size) (o := .cells #[.int .i64 a1_0, .int .i64 a1_1, .slice A1_2 l1_2.length c1_2] 24 (0, 0)) (by (with_reducible repeat (first | refine blk_drewN ?_ _ | refine blk_drew ?_ | refine blk_alloc ?_ _)); exact HX1.out) hb); have n5_ := Aside0.mk (blk_below (g := w3.heap.size) (o := .cells #[.int .i64 r18, .int .i64 r19, .slice Az25 r20.length cz25] 29 (0, 0)) (by (with_reducible repeat (first | refine blk_drewN ?_ _ | refine blk_drew ?_ | refine blk_alloc ?_ _)); exact HX30.out) hb); have n6_ := Aside0.mk (blk_below (g := w4.heap.size) (o := .cells #[.int .i64 a1_0, .int .i64 a1_1, .slice Az34 (cvL l1_2).length cz34] 29 (0, 0)) (by (with_reducible repeat (first | refine blk_drewN ?_ _ | refine blk_drew ?_ | refine blk_alloc ?_ _)); exact HX43.out) hb); have n7_ := Aside0.mk (blk_below (g := w5.heap.size) (o := .cells #[.int .i64 r18, .int .i64 r19, .slice Az47 r20.length cz47] 29 (0, 0)) (by (with_reducible repeat (first | refine blk_drewN ?_ _ | refine blk_drew ?_ | refine blk_alloc ?_ _)); exact HX60.out) hb); have n8_ := Aside0.mk (below_step (by repeat (first | (with_reducible first | exact HB.out | apply below_alloc | apply pw_below_drewN | apply below_drew1) | exact HB.out)) hb); have C80 : Aside0 (w6.heap.size ≤ w7.heap.size) := ⟨by have h_ := hb.size; (try simp at h_); omega⟩; have CCn_ := Aside0.mk (And.intro CC.out C80.out); clear CC; have CC := CCn_; clear CCn_; clear HO24; clear HO33; clear HO46; clear HX1; clear HX30; clear HX43; clear HX60; clear HB; clear hl63; clear hx64; clear hx65; clear hx66; clear hl67; clear hx68; clear hx69; clear hx70; clear hl71; clear hx72; clear hx73; clear hx74; clear hl75; clear hx76; clear hx77; clear hx78; have HO24 := n1_; clear n1_; have HO33 := n2_; clear n2_; have HO46 := n3_; clear n3_; have HX1 := n4_; clear n4_; have HX30 := n5_; clear n5_; have HX43 := n6_; clear n6_; have HX60 := n7_; clear n7_; have HB := n8_; clear n8_; have HO81 := Aside0.mk (Kd.G_lower (base' := w.heap.size) (Kd.G_mono (Kd.G_bound ho0_) (ok' := fun k_ => w6.heap.size ≤ k_ ∧ k_ < w7.heap.size) (fun k_ hk_ => ⟨by have h_ := hk_.2.1; (try simp at h_); omega, hk_.2.2.1⟩)) (by have := CC.out; first | omega | (simp; done) | (simp; omega))); obtain ⟨Az82, cz82, ez82⟩ := Kd.G_slice HO81.out; subst ez82; (try clear hb); (try clear ho0_); have hl83 : w.heap.size < w7.heap.size := blk_lt HX1.out; have hx84 : w7.cell? ⟨w.heap.size, 0, none⟩ = some (.int .i64 a1_0) := (blk_cell HX1.out 0).trans rfl; have hx85 : w7.cell? ⟨w.heap.size, 1, none⟩ = some (.int .i64 a1_1) := (blk_cell HX1.out 1).trans rfl; have hx86 : w7.cell? ⟨w.heap.size, 2, none⟩ = some (.slice A1_2 l1_2.length c1_2) := (blk_cell HX1.out 2).trans rfl; have hl87 : w3.heap.size < w7.heap.size := blk_lt HX30.out; have hx88 : w7.cell? ⟨w3.heap.size, 0, none⟩ = some (.int .i64 r18) := (blk_cell HX30.out 0).trans rfl; have hx89 : w7.cell? ⟨w3.heap.size, 1, none⟩ = some (.int .i64 r19) := (blk_cell HX30.out 1).trans rfl; have hx90 : w7.cell? ⟨w3.heap.size, 2, none⟩ = some (.slice Az25 r20.length cz25) := (blk_cell HX30.out 2).trans rfl; have hl91 : w4.heap.size < w7.heap.size := blk_lt HX43.out; have hx92 : w7.cell? ⟨w4.heap.size, 0, none⟩ = some (.int .i64 a1_0) := (blk_cell HX43.out 0).trans rfl; have hx93 : w7.cell? ⟨w4.heap.size, 1, none⟩ = some (.int .i64 a1_1) := (blk_cell HX43.out 1).trans rfl; have hx94 : w7.cell? ⟨w4.heap.size, 2, none⟩ = some (.slice Az34 (cvL l1_2).length cz34) := (blk_cell HX43.out 2).trans rfl; have hl95 : w5.heap.size < w7.heap.size := blk_lt HX60.out; have hx96 : w7.cell? ⟨w5.heap.size, 0, none⟩ = some (.int .i64 r18) := (blk_cell HX60.out 0).trans rfl; have hx97 : w7.cell? ⟨w5.heap.size, 1, none⟩ = some (.int .i64 r19) := (blk_cell HX60.out 1).trans rfl; have hx98 : w7.cell? ⟨w5.heap.size, 2, none⟩ = some (.slice Az47 r20.length cz47) := (blk_cell HX60.out 2).trans rfl) | (go_at_call 16; (with_reducible refine (laws_eqGate.calls k a1_0 a1_1 _ _ (cvL l1_2) a1_0 a1_1 _ _ (cvL l1_2) true _ ?side1 ?side2 ?side3 ?side4 A99.out).mono ?_); (case side1 => exact (Kd.G_reads' (n := (cvL l1_2).length) (A := Az34) (c := cz34) (by (with_reducible repeat (first | apply Kd.G_alloc | apply Kd.G_drewN | apply Kd.G_drew)); exact HO33.out)).2.2); (case side2 => exact (Kd.G_reads' (n := (cvL l1_2).length) (A := Az34) (c := cz34) HO33.out).2.1); (case side3 => exact (Kd.G_reads' (n := (cvL l1_2).length) (A := Az82) (c := cz82) (by (with_reducible repeat (first | apply Kd.G_alloc | apply Kd.G_drewN | apply Kd.G_drew)); exact HO81.out)).2.2); (case side4 => exact (Kd.G_reads' (n := (cvL l1_2).length) (A := Az82) (c := cz82) HO81.out).2.1); rintro e w8 ⟨rfl, hb⟩; have n1_ := Aside0.mk (Kd.G_below (by (with_reducible repeat (first | apply Kd.G_alloc | apply Kd.G_drewN | apply Kd.G_drew)); exact HO24.out) hb); have n2_ := Aside0.mk (Kd.G_below (by (with_reducible repeat (first | apply Kd.G_alloc | apply Kd.G_drewN | apply Kd.G_drew)); exact HO33.out) hb); have n3_ := Aside0.mk (Kd.G_below (by (with_reducible repeat (first | apply Kd.G_alloc | apply Kd.G_drewN | apply Kd.G_drew)); exact HO46.out) hb); have n4_ := Aside0.mk (Kd.G_below (by (with_reducible repeat (first | apply Kd.G_alloc | apply Kd.G_drewN | apply Kd.G_drew)); exact HO81.out) hb); have n5_ := Aside0.mk (blk_below (g := w.heap.size) (o := .cells #[.int .i64 a1_0, .int .i64 a1_1, .slice A1_2 l1_2.length c1_2] 24 (0, 0)) (by (with_reducible repeat (first | refine blk_drewN ?_ _ | refine blk_drew ?_ | refine blk_alloc ?_ _)); exact HX1.out) hb); have n6_ := Aside0.mk (blk_below (g := w3.heap.size) (o := .cells #[.int .i64 r18, .int .i64 r19, .slice Az25 r20.length cz25] 29 (0, 0)) (by (with_reducible repeat (first | refine blk_drewN ?_ _ | refine blk_drew ?_ | refine blk_alloc ?_ _)); exact HX30.out) hb); have n7_ := Aside0.mk (blk_below (g := w4.heap.size) (o := .cells #[.int .i64 a1_0, .int .i64 a1_1, .slice Az34 (cvL l1_2).length cz34] 29 (0, 0)) (by (with_reducible repeat (first | refine blk_drewN ?_ _ | refine blk_drew ?_ | refine blk_alloc ?_ _)); exact HX43.out) hb); have n8_ := Aside0.mk (blk_below (g := w5.heap.size) (o := .cells #[.int .i64 r18, .int .i64 r19, .slice Az47 r20.length cz47] 29 (0, 0)) (by (with_reducible repeat (first | refine blk_drewN ?_ _ | refine blk_drew ?_ | refine blk_alloc ?_ _)); exact HX60.out) hb); have n9_ := Aside0.mk (below_step (by repeat (first | (with_reducible first | exact HB.out | apply below_alloc | apply pw_below_drewN | apply below_drew1) | exact HB.out)) hb); have C100 : Aside0 (w7.heap.size ≤ w8.heap.size) := ⟨by have h_ := hb.size; (try simp at h_); omega⟩; have CCn_ := Aside0.mk (And.intro CC.out C100.out); clear CC; have CC := CCn_; clear CCn_; clear HO24; clear HO33; clear HO46; clear HO81; clear HX1; clear HX30; clear HX43; clear HX60; clear HB; clear hl83; clear hx84; clear hx85; clear hx86; clear hl87; clear hx88; clear hx89; clear hx90; clear hl91; clear hx92; clear hx93; clear hx94; clear hl95; clear hx96; clear hx97; clear hx98; have HO24 := n1_; clear n1_; have HO33 := n2_; clear n2_; have HO46 := n3_; clear n3_; have HO81 := n4_; clear n4_; have HX1 := n5_; clear n5_; have HX30 := n6_; clear n6_; have HX43 := n7_; clear n7_; have HX60 := n8_; clear n8_; have HB := n9_; clear n9_; (try clear hb); have hl101 : w.heap.size < w8.heap.size := blk_lt HX1.out; have hx102 : w8.cell? ⟨w.heap.size, 0, none⟩ = some (.int .i64 a1_0) := (blk_cell HX1.out 0).trans rfl; have hx103 : w8.cell? ⟨w.heap.size, 1, none⟩ = some (.int .i64 a1_1) := (blk_cell HX1.out 1).trans rfl; have hx104 : w8.cell? ⟨w.heap.size, 2, none⟩ = some (.slice A1_2 l1_2.length c1_2) := (blk_cell HX1.out 2).trans rfl; have hl105 : w3.heap.size < w8.heap.size := blk_lt HX30.out; have hx106 : w8.cell? ⟨w3.heap.size, 0, none⟩ = some (.int .i64 r18) := (blk_cell HX30.out 0).trans rfl; have hx107 : w8.cell? ⟨w3.heap.size, 1, none⟩ = some (.int .i64 r19) := (blk_cell HX30.out 1).trans rfl; have hx108 : w8.cell? ⟨w3.heap.size, 2, none⟩ = some (.slice Az25 r20.length cz25) := (blk_cell HX30.out 2).trans rfl; have hl109 : w4.heap.size < w8.heap.size := blk_lt HX43.out; have hx110 : w8.cell? ⟨w4.heap.size, 0, none⟩ = some (.int .i64 a1_0) := (blk_cell HX43.out 0).trans rfl; have hx111 : w8.cell? ⟨w4.heap.size, 1, none⟩ = some (.int .i64 a1_1) := (blk_cell HX43.out 1).trans rfl; have hx112 : w8.cell? ⟨w4.heap.size, 2, none⟩ = some (.slice Az34 (cvL l1_2).length cz34) := (blk_cell HX43.out 2).trans rfl; have hl113 : w5.heap.size < w8.heap.size := blk_lt HX60.out; have hx114 : w8.cell? ⟨w5.heap.size, 0, none⟩ = some (.int .i64 r18) := (blk_cell HX60.out 0).trans rfl; have hx115 : w8.cell? ⟨w5.heap.size, 1, none⟩ = some (.int .i64 r19) := (blk_cell HX60.out 1).trans rfl; have hx116 : w8.cell? ⟨w5.heap.size, 2, none⟩ = some (.slice Az47 r20.length cz47) := (blk_cell HX60.out 2).trans rfl))
  go_wp2_with (first | ((with_reducible refine gate_callee (f := 23) rfl ?_); refine goesL_ (some 52) rfl rfl Try.func23 (by kernel_rfl) rfl #[.agg #[.int .i64 a1_0, .int .i64 a1_1, .slice Az34 (cvL l1_2).length cz34], .int .i64 1] rfl (by (try simp only [List.map_toArray, List.map_cons, List.map_nil]); first | done | rfl | (simp only [List.length_drop, List.length_take]; rfl)) ?_; (with_reducible refine (laws_markGate.callsM k a1_0 a1_1 (fun k_ => w3.heap.size + 1 ≤ k_ ∧ k_ < w4.heap.size) (.slice Az34 (cvL l1_2).length cz34) (cvL l1_2) 1 m117 ys118 w _ ?side1 ?side2 A119.out).mono ?_); (case side1 => repeat (first | (with_reducible first | exact HB.out | apply below_alloc | apply pw_below_drewN | apply below_drew1) | exact HB.out)); (case side2 => exact (by (with_reducible repeat (first | apply Kd.G_alloc | apply Kd.G_drewN | apply Kd.G_drew)); exact HO33.out)); rintro e w9 ⟨rfl, hm0_, hbk, hk⟩; refine ⟨_, rfl, ?_⟩; have n1_ := Aside0.mk (Kd.G_kept (by (with_reducible repeat (first | apply Kd.G_alloc | apply Kd.G_drewN | apply Kd.G_drew)); exact HO24.out) hk (fun k_ hk_ hs_ => by have := CC.out; have h1_ := hk_; have h2_ := hs_; omega)); have n2_ := Aside0.mk (Kd.G_kept (by (with_reducible repeat (first | apply Kd.G_alloc | apply Kd.G_drewN | apply Kd.G_drew)); exact HO46.out) hk (fun k_ hk_ hs_ => by have := CC.out; have h1_ := hk_; have h2_ := hs_; omega)); have n3_ := Aside0.mk (blk_kept (g := w.heap.size) (o := .cells #[.int .i64 a1_0, .int .i64 a1_1, .slice A1_2 l1_2.length c1_2] 24 (0, 0)) (by (with_reducible repeat (first | refine blk_drewN ?_ _ | refine blk_drew ?_ | refine blk_alloc ?_ _)); exact HX1.out) hk (fun hs_ => by have := CC.out; have h2_ := hs_; omega)); have n4_ := Aside0.mk (blk_kept (g := w3.heap.size) (o := .cells #[.int .i64 r18, .int .i64 r19, .slice Az25 r20.length cz25] 29 (0, 0)) (by (with_reducible repeat (first | refine blk_drewN ?_ _ | refine blk_drew ?_ | refine blk_alloc ?_ _)); exact HX30.out) hk (fun hs_ => by have := CC.out; have h2_ := hs_; omega)); have n5_ := Aside0.mk (blk_kept (g := w4.heap.size) (o := .cells #[.int .i64 a1_0, .int .i64 a1_1, .slice Az34 (cvL l1_2).length cz34] 29 (0, 0)) (by (with_reducible repeat (first | refine blk_drewN ?_ _ | refine blk_drew ?_ | refine blk_alloc ?_ _)); exact HX43.out) hk (fun hs_ => by have := CC.out; have h2_ := hs_; omega)); have n6_ := Aside0.mk (blk_kept (g := w5.heap.size) (o := .cells #[.int .i64 r18, .int .i64 r19, .slice Az47 r20.length cz47] 29 (0, 0)) (by (with_reducible repeat (first | refine blk_drewN ?_ _ | refine blk_drew ?_ | refine blk_alloc ?_ _)); exact HX60.out) hk (fun hs_ => by have := CC.out; have h2_ := hs_; omega)); have n7_ := Aside0.mk (hbk); have C120 : Aside0 (w8.heap.size ≤ w9.heap.size) := ⟨by have h_ := hk.1; (try simp at h_); omega⟩; have CCn_ := Aside0.mk (And.intro CC.out C120.out); clear CC; have CC := CCn_; clear CCn_; clear HO24; clear HO46; clear HX1; clear HX30; clear HX43; clear HX60; clear HB; clear hl101; clear hx102; clear hx103; clear hx104; clear hl105; clear hx106; clear hx107; clear hx108; clear hl109; clear hx110; clear hx111; clear hx112; clear hl113; clear hx114; clear hx115; clear hx116; have HO24 := n1_; clear n1_; have HO46 := n2_; clear n2_; have HX1 := n3_; clear n3_; have HX30 := n4_; clear n4_; have HX43 := n5_; clear n5_; have HX60 := n6_; clear n6_; have HB := n7_; clear n7_; clear HO33; have HO33 := Aside0.mk hm0_; (try clear hk); (try clear hbk); (try clear hm0_); have hl121 : w.heap.size < w9.heap.size := blk_lt HX1.out; have hx122 : w9.cell? ⟨w.heap.size, 0, none⟩ = some (.int .i64 a1_0) := (blk_cell HX1.out 0).trans rfl; have hx123 : w9.cell? ⟨w.heap.size, 1, none⟩ = some (.int .i64 a1_1) := (blk_cell HX1.out 1).trans rfl; have hx124 : w9.cell? ⟨w.heap.size, 2, none⟩ = some (.slice A1_2 l1_2.length c1_2) := (blk_cell HX1.out 2).trans rfl; have hl125 : w3.heap.size < w9.heap.size := blk_lt HX30.out; have hx126 : w9.cell? ⟨w3.heap.size, 0, none⟩ = some (.int .i64 r18) := (blk_cell HX30.out 0).trans rfl; have hx127 : w9.cell? ⟨w3.heap.size, 1, none⟩ = some (.int .i64 r19) := (blk_cell HX30.out 1).trans rfl; have hx128 : w9.cell? ⟨w3.heap.size, 2, none⟩ = some (.slice Az25 r20.length cz25) := (blk_cell HX30.out 2).trans rfl; have hl129 : w4.heap.size < w9.heap.size := blk_lt HX43.out; have hx130 : w9.cell? ⟨w4.heap.size, 0, none⟩ = some (.int .i64 a1_0) := (blk_cell HX43.out 0).trans rfl; have hx131 : w9.cell? ⟨w4.heap.size, 1, none⟩ = some (.int .i64 a1_1) := (blk_cell HX43.out 1).trans rfl; have hx132 : w9.cell? ⟨w4.heap.size, 2, none⟩ = some (.slice Az34 (cvL l1_2).length cz34) := (blk_cell HX43.out 2).trans rfl; have hl133 : w5.heap.size < w9.heap.size := blk_lt HX60.out; have hx134 : w9.cell? ⟨w5.heap.size, 0, none⟩ = some (.int .i64 r18) := (blk_cell HX60.out 0).trans rfl; have hx135 : w9.cell? ⟨w5.heap.size, 1, none⟩ = some (.int .i64 r19) := (blk_cell HX60.out 1).trans rfl; have hx136 : w9.cell? ⟨w5.heap.size, 2, none⟩ = some (.slice Az47 r20.length cz47) := (blk_cell HX60.out 2).trans rfl) | (go_at_call 16; (with_reducible refine (laws_eqGate.calls k r18 r19 _ _ r20 r18 r19 _ _ r20 true _ ?side1 ?side2 ?side3 ?side4 A138.out).mono ?_); (case side1 => exact (Kd.G_reads' (n := r20.length) (A := Az47) (c := cz47) (by (with_reducible repeat (first | apply Kd.G_alloc | apply Kd.G_drewN | apply Kd.G_drew)); exact HO46.out)).2.2); (case side2 => exact (Kd.G_reads' (n := r20.length) (A := Az47) (c := cz47) HO46.out).2.1); (case side3 => exact (Kd.G_reads' (n := r20.length) (A := Az25) (c := cz25) (by (with_reducible repeat (first | apply Kd.G_alloc | apply Kd.G_drewN | apply Kd.G_drew)); exact HO24.out)).2.2); (case side4 => exact (Kd.G_reads' (n := r20.length) (A := Az25) (c := cz25) HO24.out).2.1); rintro e w10 ⟨rfl, hb⟩; have n1_ := Aside0.mk (Kd.G_below (by (with_reducible repeat (first | apply Kd.G_alloc | apply Kd.G_drewN | apply Kd.G_drew)); exact HO24.out) hb); have n2_ := Aside0.mk (Kd.G_below (by (with_reducible repeat (first | apply Kd.G_alloc | apply Kd.G_drewN | apply Kd.G_drew)); exact HO33.out) hb); have n3_ := Aside0.mk (Kd.G_below (by (with_reducible repeat (first | apply Kd.G_alloc | apply Kd.G_drewN | apply Kd.G_drew)); exact HO46.out) hb); have n4_ := Aside0.mk (blk_below (g := w.heap.size) (o := .cells #[.int .i64 a1_0, .int .i64 a1_1, .slice A1_2 l1_2.length c1_2] 24 (0, 0)) (by (with_reducible repeat (first | refine blk_drewN ?_ _ | refine blk_drew ?_ | refine blk_alloc ?_ _)); exact HX1.out) hb); have n5_ := Aside0.mk (blk_below (g := w3.heap.size) (o := .cells #[.int .i64 r18, .int .i64 r19, .slice Az25 r20.length cz25] 29 (0, 0)) (by (with_reducible repeat (first | refine blk_drewN ?_ _ | refine blk_drew ?_ | refine blk_alloc ?_ _)); exact HX30.out) hb); have n6_ := Aside0.mk (blk_below (g := w4.heap.size) (o := .cells #[.int .i64 a1_0, .int .i64 a1_1, .slice Az34 (cvL l1_2).length cz34] 29 (0, 0)) (by (with_reducible repeat (first | refine blk_drewN ?_ _ | refine blk_drew ?_ | refine blk_alloc ?_ _)); exact HX43.out) hb); have n7_ := Aside0.mk (blk_below (g := w5.heap.size) (o := .cells #[.int .i64 r18, .int .i64 r19, .slice Az47 r20.length cz47] 29 (0, 0)) (by (with_reducible repeat (first | refine blk_drewN ?_ _ | refine blk_drew ?_ | refine blk_alloc ?_ _)); exact HX60.out) hb); have n8_ := Aside0.mk (below_step (by repeat (first | (with_reducible first | exact HB.out | apply below_alloc | apply pw_below_drewN | apply below_drew1) | exact HB.out)) hb); have C139 : Aside0 (w9.heap.size ≤ w10.heap.size) := ⟨by have h_ := hb.size; (try simp at h_); omega⟩; have CCn_ := Aside0.mk (And.intro CC.out C139.out); clear CC; have CC := CCn_; clear CCn_; clear HO24; clear HO33; clear HO46; clear HX1; clear HX30; clear HX43; clear HX60; clear HB; clear hl121; clear hx122; clear hx123; clear hx124; clear hl125; clear hx126; clear hx127; clear hx128; clear hl129; clear hx130; clear hx131; clear hx132; clear hl133; clear hx134; clear hx135; clear hx136; have HO24 := n1_; clear n1_; have HO33 := n2_; clear n2_; have HO46 := n3_; clear n3_; have HX1 := n4_; clear n4_; have HX30 := n5_; clear n5_; have HX43 := n6_; clear n6_; have HX60 := n7_; clear n7_; have HB := n8_; clear n8_; (try clear hb); have hl140 : w.heap.size < w10.heap.size := blk_lt HX1.out; have hx141 : w10.cell? ⟨w.heap.size, 0, none⟩ = some (.int .i64 a1_0) := (blk_cell HX1.out 0).trans rfl; have hx142 : w10.cell? ⟨w.heap.size, 1, none⟩ = some (.int .i64 a1_1) := (blk_cell HX1.out 1).trans rfl; have hx143 : w10.cell? ⟨w.heap.size, 2, none⟩ = some (.slice A1_2 l1_2.length c1_2) := (blk_cell HX1.out 2).trans rfl; have hl144 : w3.heap.size < w10.heap.size := blk_lt HX30.out; have hx145 : w10.cell? ⟨w3.heap.size, 0, none⟩ = some (.int .i64 r18) := (blk_cell HX30.out 0).trans rfl; have hx146 : w10.cell? ⟨w3.heap.size, 1, none⟩ = some (.int .i64 r19) := (blk_cell HX30.out 1).trans rfl; have hx147 : w10.cell? ⟨w3.heap.size, 2, none⟩ = some (.slice Az25 r20.length cz25) := (blk_cell HX30.out 2).trans rfl; have hl148 : w4.heap.size < w10.heap.size := blk_lt HX43.out; have hx149 : w10.cell? ⟨w4.heap.size, 0, none⟩ = some (.int .i64 a1_0) := (blk_cell HX43.out 0).trans rfl; have hx150 : w10.cell? ⟨w4.heap.size, 1, none⟩ = some (.int .i64 a1_1) := (blk_cell HX43.out 1).trans rfl; have hx151 : w10.cell? ⟨w4.heap.size, 2, none⟩ = some (.slice Az34 (cvL l1_2).length cz34) := (blk_cell HX43.out 2).trans rfl; have hl152 : w5.heap.size < w10.heap.size := blk_lt HX60.out; have hx153 : w10.cell? ⟨w5.heap.size, 0, none⟩ = some (.int .i64 r18) := (blk_cell HX60.out 0).trans rfl; have hx154 : w10.cell? ⟨w5.heap.size, 1, none⟩ = some (.int .i64 r19) := (blk_cell HX60.out 1).trans rfl; have hx155 : w10.cell? ⟨w5.heap.size, 2, none⟩ = some (.slice Az47 r20.length cz47) := (blk_cell HX60.out 2).trans rfl) | ((with_reducible refine gate_callee (f := 23) rfl ?_); refine goesL_ (some 68) rfl rfl Try.func23 (by kernel_rfl) rfl #[.agg #[.int .i64 r18, .int .i64 r19, .slice Az47 r20.length cz47], .int .i64 1] rfl (by (try simp only [List.map_toArray, List.map_cons, List.map_nil]); first | done | rfl | (simp only [List.length_drop, List.length_take]; rfl)) ?_; (with_reducible refine (laws_markGate.callsM k r18 r19 (fun k_ => w4.heap.size + 1 ≤ k_ ∧ k_ < w5.heap.size) (.slice Az47 r20.length cz47) r20 1 m156 ys157 w _ ?side1 ?side2 A158.out).mono ?_); (case side1 => repeat (first | (with_reducible first | exact HB.out | apply below_alloc | apply pw_below_drewN | apply below_drew1) | exact HB.out)); (case side2 => exact (by (with_reducible repeat (first | apply Kd.G_alloc | apply Kd.G_drewN | apply Kd.G_drew)); exact HO46.out)); rintro e w11 ⟨rfl, hm0_, hbk, hk⟩; refine ⟨_, rfl, ?_⟩; have n1_ := Aside0.mk (Kd.G_kept (by (with_reducible repeat (first | apply Kd.G_alloc | apply Kd.G_drewN | apply Kd.G_drew)); exact HO24.out) hk (fun k_ hk_ hs_ => by have := CC.out; have h1_ := hk_; have h2_ := hs_; omega)); have n2_ := Aside0.mk (Kd.G_kept (by (with_reducible repeat (first | apply Kd.G_alloc | apply Kd.G_drewN | apply Kd.G_drew)); exact HO33.out) hk (fun k_ hk_ hs_ => by have := CC.out; have h1_ := hk_; have h2_ := hs_; omega)); have n3_ := Aside0.mk (blk_kept (g := w.heap.size) (o := .cells #[.int .i64 a1_0, .int .i64 a1_1, .slice A1_2 l1_2.length c1_2] 24 (0, 0)) (by (with_reducible repeat (first | refine blk_drewN ?_ _ | refine blk_drew ?_ | refine blk_alloc ?_ _)); exact HX1.out) hk (fun hs_ => by have := CC.out; have h2_ := hs_; omega)); have n4_ := Aside0.mk (blk_kept (g := w3.heap.size) (o := .cells #[.int .i64 r18, .int .i64 r19, .slice Az25 r20.length cz25] 29 (0, 0)) (by (with_reducible repeat (first | refine blk_drewN ?_ _ | refine blk_drew ?_ | refine blk_alloc ?_ _)); exact HX30.out) hk (fun hs_ => by have := CC.out; have h2_ := hs_; omega)); have n5_ := Aside0.mk (blk_kept (g := w4.heap.size) (o := .cells #[.int .i64 a1_0, .int .i64 a1_1, .slice Az34 (cvL l1_2).length cz34] 29 (0, 0)) (by (with_reducible repeat (first | refine blk_drewN ?_ _ | refine blk_drew ?_ | refine blk_alloc ?_ _)); exact HX43.out) hk (fun hs_ => by have := CC.out; have h2_ := hs_; omega)); have n6_ := Aside0.mk (blk_kept (g := w5.heap.size) (o := .cells #[.int .i64 r18, .int .i64 r19, .slice Az47 r20.length cz47] 29 (0, 0)) (by (with_reducible repeat (first | refine blk_drewN ?_ _ | refine blk_drew ?_ | refine blk_alloc ?_ _)); exact HX60.out) hk (fun hs_ => by have := CC.out; have h2_ := hs_; omega)); have n7_ := Aside0.mk (hbk); have C159 : Aside0 (w10.heap.size ≤ w11.heap.size) := ⟨by have h_ := hk.1; (try simp at h_); omega⟩; have CCn_ := Aside0.mk (And.intro CC.out C159.out); clear CC; have CC := CCn_; clear CCn_; clear HO24; clear HO33; clear HX1; clear HX30; clear HX43; clear HX60; clear HB; clear hl140; clear hx141; clear hx142; clear hx143; clear hl144; clear hx145; clear hx146; clear hx147; clear hl148; clear hx149; clear hx150; clear hx151; clear hl152; clear hx153; clear hx154; clear hx155; have HO24 := n1_; clear n1_; have HO33 := n2_; clear n2_; have HX1 := n3_; clear n3_; have HX30 := n4_; clear n4_; have HX43 := n5_; clear n5_; have HX60 := n6_; clear n6_; have HB := n7_; clear n7_; clear HO46; have HO46 := Aside0.mk hm0_; (try clear hk); (try clear hbk); (try clear hm0_); have hl160 : w.heap.size < w11.heap.size := blk_lt HX1.out; have hx161 : w11.cell? ⟨w.heap.size, 0, none⟩ = some (.int .i64 a1_0) := (blk_cell HX1.out 0).trans rfl; have hx162 : w11.cell? ⟨w.heap.size, 1, none⟩ = some (.int .i64 a1_1) := (blk_cell HX1.out 1).trans rfl; have hx163 : w11.cell? ⟨w.heap.size, 2, none⟩ = some (.slice A1_2 l1_2.length c1_2) := (blk_cell HX1.out 2).trans rfl; have hl164 : w3.heap.size < w11.heap.size := blk_lt HX30.out; have hx165 : w11.cell? ⟨w3.heap.size, 0, none⟩ = some (.int .i64 r18) := (blk_cell HX30.out 0).trans rfl; have hx166 : w11.cell? ⟨w3.heap.size, 1, none⟩ = some (.int .i64 r19) := (blk_cell HX30.out 1).trans rfl; have hx167 : w11.cell? ⟨w3.heap.size, 2, none⟩ = some (.slice Az25 r20.length cz25) := (blk_cell HX30.out 2).trans rfl; have hl168 : w4.heap.size < w11.heap.size := blk_lt HX43.out; have hx169 : w11.cell? ⟨w4.heap.size, 0, none⟩ = some (.int .i64 a1_0) := (blk_cell HX43.out 0).trans rfl; have hx170 : w11.cell? ⟨w4.heap.size, 1, none⟩ = some (.int .i64 a1_1) := (blk_cell HX43.out 1).trans rfl; have hx171 : w11.cell? ⟨w4.heap.size, 2, none⟩ = some (.slice Az34 (cvL l1_2).length cz34) := (blk_cell HX43.out 2).trans rfl; have hl172 : w5.heap.size < w11.heap.size := blk_lt HX60.out; have hx173 : w11.cell? ⟨w5.heap.size, 0, none⟩ = some (.int .i64 r18) := (blk_cell HX60.out 0).trans rfl; have hx174 : w11.cell? ⟨w5.heap.size, 1, none⟩ = some (.int .i64 r19) := (blk_cell HX60.out 1).trans rfl; have hx175 : w11.cell? ⟨w5.heap.size, 2, none⟩ = some (.slice Az47 r20.length cz47) := (blk_cell HX60.out 2).trans rfl) | ((with_reducible refine gate_callee (f := 24) rfl ?_); refine goesL_ (some 71) rfl rfl Try.func24 (by kernel_rfl) rfl #[.agg #[.int .i64 r18, .int .i64 r19, .slice Az47 r20.length cz47], .int .i64 1] rfl (by (try simp only [List.map_toArray, List.map_cons, List.map_nil]); first | done | rfl | (simp only [List.length_drop, List.length_take]; rfl)) ?_; (with_reducible refine (calls_as ?eq_ (laws_heldGate.calls k r18 r19 Az47 cz47 ys157 1 m156 _ ?side1 ?side2 A176.out)).mono ?_); (case eq_ => rw [show ys157.length = r20.length from (Kd.G_reads' HO46.out).1.symm]); (case side1 => exact (Kd.G_reads' (n := r20.length) (A := Az47) (c := cz47) (by (with_reducible repeat (first | apply Kd.G_alloc | apply Kd.G_drewN | apply Kd.G_drew)); exact HO46.out)).2.2); (case side2 => exact Nat.le_trans (Nat.le_of_eq (Kd.G_reads' HO46.out).1.symm) (Kd.G_reads' HO46.out).2.1); rintro e w12 ⟨rfl, hb⟩; refine ⟨_, rfl, ?_⟩; have n1_ := Aside0.mk (Kd.G_below (by (with_reducible repeat (first | apply Kd.G_alloc | apply Kd.G_drewN | apply Kd.G_drew)); exact HO24.out) hb); have n2_ := Aside0.mk (Kd.G_below (by (with_reducible repeat (first | apply Kd.G_alloc | apply Kd.G_drewN | apply Kd.G_drew)); exact HO33.out) hb); have n3_ := Aside0.mk (Kd.G_below (by (with_reducible repeat (first | apply Kd.G_alloc | apply Kd.G_drewN | apply Kd.G_drew)); exact HO46.out) hb); have n4_ := Aside0.mk (blk_below (g := w.heap.size) (o := .cells #[.int .i64 a1_0, .int .i64 a1_1, .slice A1_2 l1_2.length c1_2] 24 (0, 0)) (by (with_reducible repeat (first | refine blk_drewN ?_ _ | refine blk_drew ?_ | refine blk_alloc ?_ _)); exact HX1.out) hb); have n5_ := Aside0.mk (blk_below (g := w3.heap.size) (o := .cells #[.int .i64 r18, .int .i64 r19, .slice Az25 r20.length cz25] 29 (0, 0)) (by (with_reducible repeat (first | refine blk_drewN ?_ _ | refine blk_drew ?_ | refine blk_alloc ?_ _)); exact HX30.out) hb); have n6_ := Aside0.mk (blk_below (g := w4.heap.size) (o := .cells #[.int .i64 a1_0, .int .i64 a1_1, .slice Az34 (cvL l1_2).length cz34] 29 (0, 0)) (by (with_reducible repeat (first | refine blk_drewN ?_ _ | refine blk_drew ?_ | refine blk_alloc ?_ _)); exact HX43.out) hb); have n7_ := Aside0.mk (blk_below (g := w5.heap.size) (o := .cells #[.int .i64 r18, .int .i64 r19, .slice Az47 r20.length cz47] 29 (0, 0)) (by (with_reducible repeat (first | refine blk_drewN ?_ _ | refine blk_drew ?_ | refine blk_alloc ?_ _)); exact HX60.out) hb); have n8_ := Aside0.mk (below_step (by repeat (first | (with_reducible first | exact HB.out | apply below_alloc | apply pw_below_drewN | apply below_drew1) | exact HB.out)) hb); have C177 : Aside0 (w11.heap.size ≤ w12.heap.size) := ⟨by have h_ := hb.size; (try simp at h_); omega⟩; have CCn_ := Aside0.mk (And.intro CC.out C177.out); clear CC; have CC := CCn_; clear CCn_; clear HO24; clear HO33; clear HO46; clear HX1; clear HX30; clear HX43; clear HX60; clear HB; clear hl160; clear hx161; clear hx162; clear hx163; clear hl164; clear hx165; clear hx166; clear hx167; clear hl168; clear hx169; clear hx170; clear hx171; clear hl172; clear hx173; clear hx174; clear hx175; have HO24 := n1_; clear n1_; have HO33 := n2_; clear n2_; have HO46 := n3_; clear n3_; have HX1 := n4_; clear n4_; have HX30 := n5_; clear n5_; have HX43 := n6_; clear n6_; have HX60 := n7_; clear n7_; have HB := n8_; clear n8_; (try clear hb); have hl178 : w.heap.size < w12.heap.size := blk_lt HX1.out; have hx179 : w12.cell? ⟨w.heap.size, 0, none⟩ = some (.int .i64 a1_0) := (blk_cell HX1.out 0).trans rfl; have hx180 : w12.cell? ⟨w.heap.size, 1, none⟩ = some (.int .i64 a1_1) := (blk_cell HX1.out 1).trans rfl; have hx181 : w12.cell? ⟨w.heap.size, 2, none⟩ = some (.slice A1_2 l1_2.length c1_2) := (blk_cell HX1.out 2).trans rfl; have hl182 : w3.heap.size < w12.heap.size := blk_lt HX30.out; have hx183 : w12.cell? ⟨w3.heap.size, 0, none⟩ = some (.int .i64 r18) := (blk_cell HX30.out 0).trans rfl; have hx184 : w12.cell? ⟨w3.heap.size, 1, none⟩ = some (.int .i64 r19) := (blk_cell HX30.out 1).trans rfl; have hx185 : w12.cell? ⟨w3.heap.size, 2, none⟩ = some (.slice Az25 r20.length cz25) := (blk_cell HX30.out 2).trans rfl; have hl186 : w4.heap.size < w12.heap.size := blk_lt HX43.out; have hx187 : w12.cell? ⟨w4.heap.size, 0, none⟩ = some (.int .i64 a1_0) := (blk_cell HX43.out 0).trans rfl; have hx188 : w12.cell? ⟨w4.heap.size, 1, none⟩ = some (.int .i64 a1_1) := (blk_cell HX43.out 1).trans rfl; have hx189 : w12.cell? ⟨w4.heap.size, 2, none⟩ = some (.slice Az34 (cvL l1_2).length cz34) := (blk_cell HX43.out 2).trans rfl; have hl190 : w5.heap.size < w12.heap.size := blk_lt HX60.out; have hx191 : w12.cell? ⟨w5.heap.size, 0, none⟩ = some (.int .i64 r18) := (blk_cell HX60.out 0).trans rfl; have hx192 : w12.cell? ⟨w5.heap.size, 1, none⟩ = some (.int .i64 r19) := (blk_cell HX60.out 1).trans rfl; have hx193 : w12.cell? ⟨w5.heap.size, 2, none⟩ = some (.slice Az47 r20.length cz47) := (blk_cell HX60.out 2).trans rfl) | ((with_reducible refine gate_callee (f := 14) rfl ?_); refine goesL_ (some 80) rfl rfl Try.func14 (by kernel_rfl) rfl #[.agg #[.int .i64 a1_0, .int .i64 a1_1, .slice A1_2 l1_2.length c1_2]] rfl (by (try simp only [List.map_toArray, List.map_cons, List.map_nil]); first | done | rfl | (simp only [List.length_drop, List.length_take]; rfl)) ?_; (with_reducible refine (laws_toGate.calls k a1_0 a1_1 _ _ l1_2 a1_0 a1_1 (cvL l1_2) _ ?side1 ?side2 A195.out).mono ?_); (case side1 => exact Kd.C_below HR1_2.out (by repeat (first | (with_reducible first | exact HB.out | apply below_alloc | apply pw_below_drewN | apply below_drew1) | exact HB.out))); (case side2 => exact HC1_2.out); rintro e w13 ⟨v100_, rfl, ho0_, hb⟩; refine ⟨_, rfl, ?_⟩; have n1_ := Aside0.mk (Kd.G_below (by (with_reducible repeat (first | apply Kd.G_alloc | apply Kd.G_drewN | apply Kd.G_drew)); exact HO24.out) hb); have n2_ := Aside0.mk (Kd.G_below (by (with_reducible repeat (first | apply Kd.G_alloc | apply Kd.G_drewN | apply Kd.G_drew)); exact HO33.out) hb); have n3_ := Aside0.mk (Kd.G_below (by (with_reducible repeat (first | apply Kd.G_alloc | apply Kd.G_drewN | apply Kd.G_drew)); exact HO46.out) hb); have n4_ := Aside0.mk (blk_below (g := w.heap.size) (o := .cells #[.int .i64 a1_0, .int .i64 a1_1, .slice A1_2 l1_2.length c1_2] 24 (0, 0)) (by (with_reducible repeat (first | refine blk_drewN ?_ _ | refine blk_drew ?_ | refine blk_alloc ?_ _)); exact HX1.out) hb); have n5_ := Aside0.mk (blk_below (g := w3.heap.size) (o := .cells #[.int .i64 r18, .int .i64 r19, .slice Az25 r20.length cz25] 29 (0, 0)) (by (with_reducible repeat (first | refine blk_drewN ?_ _ | refine blk_drew ?_ | refine blk_alloc ?_ _)); exact HX30.out) hb); have n6_ := Aside0.mk (blk_below (g := w4.heap.size) (o := .cells #[.int .i64 a1_0, .int .i64 a1_1, .slice Az34 (cvL l1_2).length cz34] 29 (0, 0)) (by (with_reducible repeat (first | refine blk_drewN ?_ _ | refine blk_drew ?_ | refine blk_alloc ?_ _)); exact HX43.out) hb); have n7_ := Aside0.mk (blk_below (g := w5.heap.size) (o := .cells #[.int .i64 r18, .int .i64 r19, .slice Az47 r20.length cz47] 29 (0, 0)) (by (with_reducible repeat (first | refine blk_drewN ?_ _ | refine blk_drew ?_ | refine blk_alloc ?_ _)); exact HX60.out) hb); have n8_ := Aside0.mk (below_step (by repeat (first | (with_reducible first | exact HB.out | apply below_alloc | apply pw_below_drewN | apply below_drew1) | exact HB.out)) hb); have C196 : Aside0 (w12.heap.size ≤ w13.heap.size) := ⟨by have h_ := hb.size; (try simp at h_); omega⟩; have CCn_ := Aside0.mk (And.intro CC.out C196.out); clear CC; have CC := CCn_; clear CCn_; clear HO24; clear HO33; clear HO46; clear HX1; clear HX30; clear HX43; clear HX60; clear HB; clear hl178; clear hx179; clear hx180; clear hx181; clear hl182; clear hx183; clear hx184; clear hx185; clear hl186; clear hx187; clear hx188; clear hx189; clear hl190; clear hx191; clear hx192; clear hx193; have HO24 := n1_; clear n1_; have HO33 := n2_; clear n2_; have HO46 := n3_; clear n3_; have HX1 := n4_; clear n4_; have HX30 := n5_; clear n5_; have HX43 := n6_; clear n6_; have HX60 := n7_; clear n7_; have HB := n8_; clear n8_; have HO197 := Aside0.mk (Kd.G_lower (base' := w.heap.size) (Kd.G_mono (Kd.G_bound ho0_) (ok' := fun k_ => w12.heap.size ≤ k_ ∧ k_ < w13.heap.size) (fun k_ hk_ => ⟨by have h_ := hk_.2.1; (try simp at h_); omega, hk_.2.2.1⟩)) (by have := CC.out; first | omega | (simp; done) | (simp; omega))); obtain ⟨Az198, cz198, ez198⟩ := Kd.G_slice HO197.out; subst ez198; (try clear hb); (try clear ho0_); have hl199 : w.heap.size < w13.heap.size := blk_lt HX1.out; have hx200 : w13.cell? ⟨w.heap.size, 0, none⟩ = some (.int .i64 a1_0) := (blk_cell HX1.out 0).trans rfl; have hx201 : w13.cell? ⟨w.heap.size, 1, none⟩ = some (.int .i64 a1_1) := (blk_cell HX1.out 1).trans rfl; have hx202 : w13.cell? ⟨w.heap.size, 2, none⟩ = some (.slice A1_2 l1_2.length c1_2) := (blk_cell HX1.out 2).trans rfl; have hl203 : w3.heap.size < w13.heap.size := blk_lt HX30.out; have hx204 : w13.cell? ⟨w3.heap.size, 0, none⟩ = some (.int .i64 r18) := (blk_cell HX30.out 0).trans rfl; have hx205 : w13.cell? ⟨w3.heap.size, 1, none⟩ = some (.int .i64 r19) := (blk_cell HX30.out 1).trans rfl; have hx206 : w13.cell? ⟨w3.heap.size, 2, none⟩ = some (.slice Az25 r20.length cz25) := (blk_cell HX30.out 2).trans rfl; have hl207 : w4.heap.size < w13.heap.size := blk_lt HX43.out; have hx208 : w13.cell? ⟨w4.heap.size, 0, none⟩ = some (.int .i64 a1_0) := (blk_cell HX43.out 0).trans rfl; have hx209 : w13.cell? ⟨w4.heap.size, 1, none⟩ = some (.int .i64 a1_1) := (blk_cell HX43.out 1).trans rfl; have hx210 : w13.cell? ⟨w4.heap.size, 2, none⟩ = some (.slice Az34 (cvL l1_2).length cz34) := (blk_cell HX43.out 2).trans rfl; have hl211 : w5.heap.size < w13.heap.size := blk_lt HX60.out; have hx212 : w13.cell? ⟨w5.heap.size, 0, none⟩ = some (.int .i64 r18) := (blk_cell HX60.out 0).trans rfl; have hx213 : w13.cell? ⟨w5.heap.size, 1, none⟩ = some (.int .i64 r19) := (blk_cell HX60.out 1).trans rfl; have hx214 : w13.cell? ⟨w5.heap.size, 2, none⟩ = some (.slice Az47 r20.length cz47) := (blk_cell HX60.out 2).trans rfl) | ((with_reducible refine gate_callee (f := 22) rfl ?_); refine goesL_ (some 81) rfl rfl Try.func22 (by kernel_rfl) rfl #[.int .i64 a0, .agg #[.int .i64 a1_0, .int .i64 a1_1, .slice Az198 (cvL l1_2).length cz198]] rfl (by (try simp only [List.map_toArray, List.map_cons, List.map_nil]); first | done | rfl | (simp only [List.length_drop, List.length_take]; rfl)) ?_; (with_reducible refine (impl_DualGate.calls k a0 a1_0 a1_1 _ _ (cvL l1_2) r18 r19 r20 r21 _ ?side1 ?side2 A215.out).mono ?_); (case side1 => exact (Kd.G_reads' (n := (cvL l1_2).length) (A := Az198) (c := cz198) (by (with_reducible repeat (first | apply Kd.G_alloc | apply Kd.G_drewN | apply Kd.G_drew)); exact HO197.out)).2.2); (case side2 => exact (Kd.G_reads' (n := (cvL l1_2).length) (A := Az198) (c := cz198) HO197.out).2.1); rintro e w14 ⟨v100_, rfl, ho0_, hb⟩; refine ⟨_, rfl, ?_⟩; have n1_ := Aside0.mk (Kd.G_below (by (with_reducible repeat (first | apply Kd.G_alloc | apply Kd.G_drewN | apply Kd.G_drew)); exact HO24.out) hb); have n2_ := Aside0.mk (Kd.G_below (by (with_reducible repeat (first | apply Kd.G_alloc | apply Kd.G_drewN | apply Kd.G_drew)); exact HO33.out) hb); have n3_ := Aside0.mk (Kd.G_below (by (with_reducible repeat (first | apply Kd.G_alloc | apply Kd.G_drewN | apply Kd.G_drew)); exact HO46.out) hb); have n4_ := Aside0.mk (Kd.G_below (by (with_reducible repeat (first | apply Kd.G_alloc | apply Kd.G_drewN | apply Kd.G_drew)); exact HO197.out) hb); have n5_ := Aside0.mk (blk_below (g := w.heap.size) (o := .cells #[.int .i64 a1_0, .int .i64 a1_1, .slice A1_2 l1_2.length c1_2] 24 (0, 0)) (by (with_reducible repeat (first | refine blk_drewN ?_ _ | refine blk_drew ?_ | refine blk_alloc ?_ _)); exact HX1.out) hb); have n6_ := Aside0.mk (blk_below (g := w3.heap.size) (o := .cells #[.int .i64 r18, .int .i64 r19, .slice Az25 r20.length cz25] 29 (0, 0)) (by (with_reducible repeat (first | refine blk_drewN ?_ _ | refine blk_drew ?_ | refine blk_alloc ?_ _)); exact HX30.out) hb); have n7_ := Aside0.mk (blk_below (g := w4.heap.size) (o := .cells #[.int .i64 a1_0, .int .i64 a1_1, .slice Az34 (cvL l1_2).length cz34] 29 (0, 0)) (by (with_reducible repeat (first | refine blk_drewN ?_ _ | refine blk_drew ?_ | refine blk_alloc ?_ _)); exact HX43.out) hb); have n8_ := Aside0.mk (blk_below (g := w5.heap.size) (o := .cells #[.int .i64 r18, .int .i64 r19, .slice Az47 r20.length cz47] 29 (0, 0)) (by (with_reducible repeat (first | refine blk_drewN ?_ _ | refine blk_drew ?_ | refine blk_alloc ?_ _)); exact HX60.out) hb); have n9_ := Aside0.mk (below_step (by repeat (first | (with_reducible first | exact HB.out | apply below_alloc | apply pw_below_drewN | apply below_drew1) | exact HB.out)) hb); have C216 : Aside0 (w13.heap.size ≤ w14.heap.size) := ⟨by have h_ := hb.size; (try simp at h_); omega⟩; have CCn_ := Aside0.mk (And.intro CC.out C216.out); clear CC; have CC := CCn_; clear CCn_; clear HO24; clear HO33; clear HO46; clear HO197; clear HX1; clear HX30; clear HX43; clear HX60; clear HB; clear hl199; clear hx200; clear hx201; clear hx202; clear hl203; clear hx204; clear hx205; clear hx206; clear hl207; clear hx208; clear hx209; clear hx210; clear hl211; clear hx212; clear hx213; clear hx214; have HO24 := n1_; clear n1_; have HO33 := n2_; clear n2_; have HO46 := n3_; clear n3_; have HO197 := n4_; clear n4_; have HX1 := n5_; clear n5_; have HX30 := n6_; clear n6_; have HX43 := n7_; clear n7_; have HX60 := n8_; clear n8_; have HB := n9_; clear n9_; have HO217 := Aside0.mk (Kd.G_lower (base' := w.heap.size) (Kd.G_mono (Kd.G_bound ho0_) (ok' := fun k_ => w13.heap.size ≤ k_ ∧ k_ < w14.heap.size) (fun k_ hk_ => ⟨by have h_ := hk_.2.1; (try simp at h_); omega, hk_.2.2.1⟩)) (by have := CC.out; first | omega | (simp; done) | (simp; omega))); obtain ⟨Az218, cz218, ez218⟩ := Kd.G_slice HO217.out; subst ez218; (try clear hb); (try clear ho0_); have hl219 : w.heap.size < w14.heap.size := blk_lt HX1.out; have hx220 : w14.cell? ⟨w.heap.size, 0, none⟩ = some (.int .i64 a1_0) := (blk_cell HX1.out 0).trans rfl; have hx221 : w14.cell? ⟨w.heap.size, 1, none⟩ = some (.int .i64 a1_1) := (blk_cell HX1.out 1).trans rfl; have hx222 : w14.cell? ⟨w.heap.size, 2, none⟩ = some (.slice A1_2 l1_2.length c1_2) := (blk_cell HX1.out 2).trans rfl; have hl223 : w3.heap.size < w14.heap.size := blk_lt HX30.out; have hx224 : w14.cell? ⟨w3.heap.size, 0, none⟩ = some (.int .i64 r18) := (blk_cell HX30.out 0).trans rfl; have hx225 : w14.cell? ⟨w3.heap.size, 1, none⟩ = some (.int .i64 r19) := (blk_cell HX30.out 1).trans rfl; have hx226 : w14.cell? ⟨w3.heap.size, 2, none⟩ = some (.slice Az25 r20.length cz25) := (blk_cell HX30.out 2).trans rfl; have hl227 : w4.heap.size < w14.heap.size := blk_lt HX43.out; have hx228 : w14.cell? ⟨w4.heap.size, 0, none⟩ = some (.int .i64 a1_0) := (blk_cell HX43.out 0).trans rfl; have hx229 : w14.cell? ⟨w4.heap.size, 1, none⟩ = some (.int .i64 a1_1) := (blk_cell HX43.out 1).trans rfl; have hx230 : w14.cell? ⟨w4.heap.size, 2, none⟩ = some (.slice Az34 (cvL l1_2).length cz34) := (blk_cell HX43.out 2).trans rfl; have hl231 : w5.heap.size < w14.heap.size := blk_lt HX60.out; have hx232 : w14.cell? ⟨w5.heap.size, 0, none⟩ = some (.int .i64 r18) := (blk_cell HX60.out 0).trans rfl; have hx233 : w14.cell? ⟨w5.heap.size, 1, none⟩ = some (.int .i64 r19) := (blk_cell HX60.out 1).trans rfl; have hx234 : w14.cell? ⟨w5.heap.size, 2, none⟩ = some (.slice Az47 r20.length cz47) := (blk_cell HX60.out 2).trans rfl) | ((with_reducible refine gate_callee (f := 16) rfl ?_); refine goesL_ (some 86) rfl rfl Try.func16 (by kernel_rfl) rfl #[.agg #[.int .i64 r18, .int .i64 r19, .slice Az218 r20.length cz218], .agg #[.int .i64 r18, .int .i64 r19, .slice Az25 r20.length cz25]] rfl (by (try simp only [List.map_toArray, List.map_cons, List.map_nil]); first | done | rfl | (simp only [List.length_drop, List.length_take]; rfl)) ?_; (with_reducible refine (laws_eqGate.calls k r18 r19 _ _ r20 r18 r19 _ _ r20 true _ ?side1 ?side2 ?side3 ?side4 A236.out).mono ?_); (case side1 => exact (Kd.G_reads' (n := r20.length) (A := Az218) (c := cz218) (by (with_reducible repeat (first | apply Kd.G_alloc | apply Kd.G_drewN | apply Kd.G_drew)); exact HO217.out)).2.2); (case side2 => exact (Kd.G_reads' (n := r20.length) (A := Az218) (c := cz218) HO217.out).2.1); (case side3 => exact (Kd.G_reads' (n := r20.length) (A := Az25) (c := cz25) (by (with_reducible repeat (first | apply Kd.G_alloc | apply Kd.G_drewN | apply Kd.G_drew)); exact HO24.out)).2.2); (case side4 => exact (Kd.G_reads' (n := r20.length) (A := Az25) (c := cz25) HO24.out).2.1); rintro e w15 ⟨rfl, hb⟩; refine ⟨_, rfl, ?_⟩; have n1_ := Aside0.mk (Kd.G_below (by (with_reducible repeat (first | apply Kd.G_alloc | apply Kd.G_drewN | apply Kd.G_drew)); exact HO24.out) hb); have n2_ := Aside0.mk (Kd.G_below (by (with_reducible repeat (first | apply Kd.G_alloc | apply Kd.G_drewN | apply Kd.G_drew)); exact HO33.out) hb); have n3_ := Aside0.mk (Kd.G_below (by (with_reducible repeat (first | apply Kd.G_alloc | apply Kd.G_drewN | apply Kd.G_drew)); exact HO46.out) hb); have n4_ := Aside0.mk (Kd.G_below (by (with_reducible repeat (first | apply Kd.G_alloc | apply Kd.G_drewN | apply Kd.G_drew)); exact HO217.out) hb); have n5_ := Aside0.mk (blk_below (g := w.heap.size) (o := .cells #[.int .i64 a1_0, .int .i64 a1_1, .slice A1_2 l1_2.length c1_2] 24 (0, 0)) (by (with_reducible repeat (first | refine blk_drewN ?_ _ | refine blk_drew ?_ | refine blk_alloc ?_ _)); exact HX1.out) hb); have n6_ := Aside0.mk (blk_below (g := w3.heap.size) (o := .cells #[.int .i64 r18, .int .i64 r19, .slice Az25 r20.length cz25] 29 (0, 0)) (by (with_reducible repeat (first | refine blk_drewN ?_ _ | refine blk_drew ?_ | refine blk_alloc ?_ _)); exact HX30.out) hb); have n7_ := Aside0.mk (blk_below (g := w4.heap.size) (o := .cells #[.int .i64 a1_0, .int .i64 a1_1, .slice Az34 (cvL l1_2).length cz34] 29 (0, 0)) (by (with_reducible repeat (first | refine blk_drewN ?_ _ | refine blk_drew ?_ | refine blk_alloc ?_ _)); exact HX43.out) hb); have n8_ := Aside0.mk (blk_below (g := w5.heap.size) (o := .cells #[.int .i64 r18, .int .i64 r19, .slice Az47 r20.length cz47] 29 (0, 0)) (by (with_reducible repeat (first | refine blk_drewN ?_ _ | refine blk_drew ?_ | refine blk_alloc ?_ _)); exact HX60.out) hb); have n9_ := Aside0.mk (blk_below (g := w14.heap.size) (o := .cells #[.int .i64 r18, .int .i64 r19, .slice Az218 r20.length cz218] 29 (0, 0)) (by repeat (first | exact blk_new_at (by simp) | (with_reducible refine blk_drewN ?_ _) | (with_reducible refine blk_drew ?_) | (with_reducible refine blk_alloc ?_ _))) hb); have n10_ := Aside0.mk (below_step (by repeat (first | (with_reducible first | exact HB.out | apply below_alloc | apply pw_below_drewN | apply below_drew1) | exact HB.out)) hb); have C237 : Aside0 (w14.heap.size + 1 ≤ w15.heap.size) := ⟨by have h_ := hb.size; (try simp at h_); omega⟩; have CCn_ := Aside0.mk (And.intro CC.out C237.out); clear CC; have CC := CCn_; clear CCn_; clear HO24; clear HO33; clear HO46; clear HO217; clear HX1; clear HX30; clear HX43; clear HX60; clear HB; clear hl219; clear hx220; clear hx221; clear hx222; clear hl223; clear hx224; clear hx225; clear hx226; clear hl227; clear hx228; clear hx229; clear hx230; clear hl231; clear hx232; clear hx233; clear hx234; have HO24 := n1_; clear n1_; have HO33 := n2_; clear n2_; have HO46 := n3_; clear n3_; have HO217 := n4_; clear n4_; have HX1 := n5_; clear n5_; have HX30 := n6_; clear n6_; have HX43 := n7_; clear n7_; have HX60 := n8_; clear n8_; have HX235 := n9_; clear n9_; have HB := n10_; clear n10_; (try clear hb); have hl238 : w.heap.size < w15.heap.size := blk_lt HX1.out; have hx239 : w15.cell? ⟨w.heap.size, 0, none⟩ = some (.int .i64 a1_0) := (blk_cell HX1.out 0).trans rfl; have hx240 : w15.cell? ⟨w.heap.size, 1, none⟩ = some (.int .i64 a1_1) := (blk_cell HX1.out 1).trans rfl; have hx241 : w15.cell? ⟨w.heap.size, 2, none⟩ = some (.slice A1_2 l1_2.length c1_2) := (blk_cell HX1.out 2).trans rfl; have hl242 : w3.heap.size < w15.heap.size := blk_lt HX30.out; have hx243 : w15.cell? ⟨w3.heap.size, 0, none⟩ = some (.int .i64 r18) := (blk_cell HX30.out 0).trans rfl; have hx244 : w15.cell? ⟨w3.heap.size, 1, none⟩ = some (.int .i64 r19) := (blk_cell HX30.out 1).trans rfl; have hx245 : w15.cell? ⟨w3.heap.size, 2, none⟩ = some (.slice Az25 r20.length cz25) := (blk_cell HX30.out 2).trans rfl; have hl246 : w4.heap.size < w15.heap.size := blk_lt HX43.out; have hx247 : w15.cell? ⟨w4.heap.size, 0, none⟩ = some (.int .i64 a1_0) := (blk_cell HX43.out 0).trans rfl; have hx248 : w15.cell? ⟨w4.heap.size, 1, none⟩ = some (.int .i64 a1_1) := (blk_cell HX43.out 1).trans rfl; have hx249 : w15.cell? ⟨w4.heap.size, 2, none⟩ = some (.slice Az34 (cvL l1_2).length cz34) := (blk_cell HX43.out 2).trans rfl; have hl250 : w5.heap.size < w15.heap.size := blk_lt HX60.out; have hx251 : w15.cell? ⟨w5.heap.size, 0, none⟩ = some (.int .i64 r18) := (blk_cell HX60.out 0).trans rfl; have hx252 : w15.cell? ⟨w5.heap.size, 1, none⟩ = some (.int .i64 r19) := (blk_cell HX60.out 1).trans rfl; have hx253 : w15.cell? ⟨w5.heap.size, 2, none⟩ = some (.slice Az47 r20.length cz47) := (blk_cell HX60.out 2).trans rfl; have hl254 : w14.heap.size < w15.heap.size := blk_lt HX235.out; have hx255 : w15.cell? ⟨w14.heap.size, 0, none⟩ = some (.int .i64 r18) := (blk_cell HX235.out 0).trans rfl; have hx256 : w15.cell? ⟨w14.heap.size, 1, none⟩ = some (.int .i64 r19) := (blk_cell HX235.out 1).trans rfl; have hx257 : w15.cell? ⟨w14.heap.size, 2, none⟩ = some (.slice Az218 r20.length cz218) := (blk_cell HX235.out 2).trans rfl) | ((with_reducible refine gate_callee (f := 24) rfl ?_); refine goesL_ (some 95) rfl rfl Try.func24 (by kernel_rfl) rfl #[.agg #[.int .i64 r18, .int .i64 r19, .slice Az47 r20.length cz47], .int .i64 1] rfl (by (try simp only [List.map_toArray, List.map_cons, List.map_nil]); first | done | rfl | (simp only [List.length_drop, List.length_take]; rfl)) ?_; (with_reducible refine (calls_as ?eq_ (laws_heldGate.calls k r18 r19 Az47 cz47 ys157 1 m156 _ ?side1 ?side2 A258.out)).mono ?_); (case eq_ => rw [show ys157.length = r20.length from (Kd.G_reads' HO46.out).1.symm]); (case side1 => exact (Kd.G_reads' (n := r20.length) (A := Az47) (c := cz47) (by (with_reducible repeat (first | apply Kd.G_alloc | apply Kd.G_drewN | apply Kd.G_drew)); exact HO46.out)).2.2); (case side2 => exact Nat.le_trans (Nat.le_of_eq (Kd.G_reads' HO46.out).1.symm) (Kd.G_reads' HO46.out).2.1); rintro e w16 ⟨rfl, hb⟩; refine ⟨_, rfl, ?_⟩; have n1_ := Aside0.mk (Kd.G_below (by (with_reducible repeat (first | apply Kd.G_alloc | apply Kd.G_drewN | apply Kd.G_drew)); exact HO24.out) hb); have n2_ := Aside0.mk (Kd.G_below (by (with_reducible repeat (first | apply Kd.G_alloc | apply Kd.G_drewN | apply Kd.G_drew)); exact HO33.out) hb); have n3_ := Aside0.mk (Kd.G_below (by (with_reducible repeat (first | apply Kd.G_alloc | apply Kd.G_drewN | apply Kd.G_drew)); exact HO46.out) hb); have n4_ := Aside0.mk (Kd.G_below (by (with_reducible repeat (first | apply Kd.G_alloc | apply Kd.G_drewN | apply Kd.G_drew)); exact HO217.out) hb); have n5_ := Aside0.mk (blk_below (g := w.heap.size) (o := .cells #[.int .i64 a1_0, .int .i64 a1_1, .slice A1_2 l1_2.length c1_2] 24 (0, 0)) (by (with_reducible repeat (first | refine blk_drewN ?_ _ | refine blk_drew ?_ | refine blk_alloc ?_ _)); exact HX1.out) hb); have n6_ := Aside0.mk (blk_below (g := w3.heap.size) (o := .cells #[.int .i64 r18, .int .i64 r19, .slice Az25 r20.length cz25] 29 (0, 0)) (by (with_reducible repeat (first | refine blk_drewN ?_ _ | refine blk_drew ?_ | refine blk_alloc ?_ _)); exact HX30.out) hb); have n7_ := Aside0.mk (blk_below (g := w4.heap.size) (o := .cells #[.int .i64 a1_0, .int .i64 a1_1, .slice Az34 (cvL l1_2).length cz34] 29 (0, 0)) (by (with_reducible repeat (first | refine blk_drewN ?_ _ | refine blk_drew ?_ | refine blk_alloc ?_ _)); exact HX43.out) hb); have n8_ := Aside0.mk (blk_below (g := w5.heap.size) (o := .cells #[.int .i64 r18, .int .i64 r19, .slice Az47 r20.length cz47] 29 (0, 0)) (by (with_reducible repeat (first | refine blk_drewN ?_ _ | refine blk_drew ?_ | refine blk_alloc ?_ _)); exact HX60.out) hb); have n9_ := Aside0.mk (blk_below (g := w14.heap.size) (o := .cells #[.int .i64 r18, .int .i64 r19, .slice Az218 r20.length cz218] 29 (0, 0)) (by (with_reducible repeat (first | refine blk_drewN ?_ _ | refine blk_drew ?_ | refine blk_alloc ?_ _)); exact HX235.out) hb); have n10_ := Aside0.mk (below_step (by repeat (first | (with_reducible first | exact HB.out | apply below_alloc | apply pw_below_drewN | apply below_drew1) | exact HB.out)) hb); have C259 : Aside0 (w15.heap.size ≤ w16.heap.size) := ⟨by have h_ := hb.size; (try simp at h_); omega⟩; have CCn_ := Aside0.mk (And.intro CC.out C259.out); clear CC; have CC := CCn_; clear CCn_; clear HO24; clear HO33; clear HO46; clear HO217; clear HX1; clear HX30; clear HX43; clear HX60; clear HX235; clear HB; clear hl238; clear hx239; clear hx240; clear hx241; clear hl242; clear hx243; clear hx244; clear hx245; clear hl246; clear hx247; clear hx248; clear hx249; clear hl250; clear hx251; clear hx252; clear hx253; clear hl254; clear hx255; clear hx256; clear hx257; have HO24 := n1_; clear n1_; have HO33 := n2_; clear n2_; have HO46 := n3_; clear n3_; have HO217 := n4_; clear n4_; have HX1 := n5_; clear n5_; have HX30 := n6_; clear n6_; have HX43 := n7_; clear n7_; have HX60 := n8_; clear n8_; have HX235 := n9_; clear n9_; have HB := n10_; clear n10_; (try clear hb); have hl260 : w.heap.size < w16.heap.size := blk_lt HX1.out; have hx261 : w16.cell? ⟨w.heap.size, 0, none⟩ = some (.int .i64 a1_0) := (blk_cell HX1.out 0).trans rfl; have hx262 : w16.cell? ⟨w.heap.size, 1, none⟩ = some (.int .i64 a1_1) := (blk_cell HX1.out 1).trans rfl; have hx263 : w16.cell? ⟨w.heap.size, 2, none⟩ = some (.slice A1_2 l1_2.length c1_2) := (blk_cell HX1.out 2).trans rfl; have hl264 : w3.heap.size < w16.heap.size := blk_lt HX30.out; have hx265 : w16.cell? ⟨w3.heap.size, 0, none⟩ = some (.int .i64 r18) := (blk_cell HX30.out 0).trans rfl; have hx266 : w16.cell? ⟨w3.heap.size, 1, none⟩ = some (.int .i64 r19) := (blk_cell HX30.out 1).trans rfl; have hx267 : w16.cell? ⟨w3.heap.size, 2, none⟩ = some (.slice Az25 r20.length cz25) := (blk_cell HX30.out 2).trans rfl; have hl268 : w4.heap.size < w16.heap.size := blk_lt HX43.out; have hx269 : w16.cell? ⟨w4.heap.size, 0, none⟩ = some (.int .i64 a1_0) := (blk_cell HX43.out 0).trans rfl; have hx270 : w16.cell? ⟨w4.heap.size, 1, none⟩ = some (.int .i64 a1_1) := (blk_cell HX43.out 1).trans rfl; have hx271 : w16.cell? ⟨w4.heap.size, 2, none⟩ = some (.slice Az34 (cvL l1_2).length cz34) := (blk_cell HX43.out 2).trans rfl; have hl272 : w5.heap.size < w16.heap.size := blk_lt HX60.out; have hx273 : w16.cell? ⟨w5.heap.size, 0, none⟩ = some (.int .i64 r18) := (blk_cell HX60.out 0).trans rfl; have hx274 : w16.cell? ⟨w5.heap.size, 1, none⟩ = some (.int .i64 r19) := (blk_cell HX60.out 1).trans rfl; have hx275 : w16.cell? ⟨w5.heap.size, 2, none⟩ = some (.slice Az47 r20.length cz47) := (blk_cell HX60.out 2).trans rfl; have hl276 : w14.heap.size < w16.heap.size := blk_lt HX235.out; have hx277 : w16.cell? ⟨w14.heap.size, 0, none⟩ = some (.int .i64 r18) := (blk_cell HX235.out 0).trans rfl; have hx278 : w16.cell? ⟨w14.heap.size, 1, none⟩ = some (.int .i64 r19) := (blk_cell HX235.out 1).trans rfl; have hx279 : w16.cell? ⟨w14.heap.size, 2, none⟩ = some (.slice Az218 r20.length cz218) := (blk_cell HX235.out 2).trans rfl))
  go_ret
  exact ⟨rfl, by repeat (first | (with_reducible first | exact HB.out | apply below_alloc | apply pw_below_drewN | apply below_drew1) | exact HB.out)⟩

end Go.Proofs.Ytjnobnmjhpmpfaa.P

namespace Go.Proofs.Ytjnobnmjhpmpfaa.P
open Go.RowKit Go.Proofs.YtjnobnmjhpmpfaaW.PrintWords Go.Proofs.YtjnobnmjhpmpfaaW.PrintLast Go.Proofs.YtjnobnmjhpmpfaaW.PrintMore
attribute [local go_sem] max2_int min2_int max_two min_two max_three min_three max_four min_four
set_option linter.unusedVariables false
set_option linter.unusedSimpArgs false

section
variable {H : Type} {enc : TypeId × Value → H} {P : Program} {w : World} {base : Nat} {held : Bool} {α : Type}
/-- Whatever reads as a datum of type t (at this depth) is a value of kind d. -/
def OpensAt (enc : TypeId × Value → H) (P : Program) (w : World) (base : Nat) (held : Bool) (n : Nat) (t : TypeId) (d : Kd α) (wf : α → Prop) : Prop :=
  ∀ cs x, DataW.trod enc P w base (fun _ => true) held n t cs = some x → ∃ a, d.K w a cs ∧ wf a
theorem opens_int (n : Nat) {t : TypeId} {k : IntKind} (ht : P.underlying t = some (.int k)) : OpensAt enc P w base held n t (Kd.int k) (fun a => (Lit.int k a).wf = true) := fun cs x h => by
  obtain ⟨a, rfl, _, hw⟩ := DataW.trod_int ht h
  exact ⟨a, rfl, hw⟩
theorem list_upto {Q : Nat → α → Prop} : ∀ n, (∀ i, i < n → ∃ y, Q i y) → ∃ xs : List α, xs.length = n ∧ ∀ (i : Nat) (y : α), xs[i]? = some y → Q i y
  | 0, _ => ⟨[], rfl, fun i y h => by simp at h⟩
  | n + 1, h => by
    obtain ⟨xs, hl, hx⟩ := list_upto n (fun i hi => h i (by omega))
    obtain ⟨y, hy⟩ := h n (by omega)
    refine ⟨xs ++ [y], by simp [hl], fun i z hz => ?_⟩
    by_cases e : i < xs.length
    · rw [List.getElem?_append_left e] at hz
      exact hx i z hz
    · rw [List.getElem?_append_right (by omega)] at hz
      have : i - xs.length = 0 := by
        have := (List.getElem?_eq_some_iff.1 hz).1
        simp at this
        omega
      rw [this] at hz
      obtain rfl : y = z := by simpa using hz
      obtain rfl : i = n := by omega
      exact hy
theorem opens_slice (n : Nat) {t e : TypeId} {d : Kd α} {wf : α → Prop} (ht : P.underlying t = some (.slice e)) (hc : P.cellsOf e = d.sz) (he : OpensAt enc P w base held n e d wf) :
    OpensAt enc P w base held (n + 1) t (Kd.slice e d) (fun xs => xs.length ≤ 9223372036854775807 ∧ ∀ x ∈ xs, wf x) := fun cs x h => by
  rcases DataW.trod_slice ht h with ⟨rfl, _⟩ | ⟨a, len, cap, elems, rest, m, hn, rfl, _, _, hl, hm, hlen, hel, _, _⟩
  · exact ⟨[], ⟨none, 0, rfl, Nat.le_refl _, ⟨rfl, by simp, fun h => absurd h (by simp)⟩⟩, by simp⟩
  · obtain rfl : n = m := by omega
    obtain ⟨xs, hxl, hx⟩ := list_upto (Q := fun i y => (∃ c : List Value, c.length = d.sz ∧ d.K w y c ∧ ∀ j u, c[j]? = some u → w.cell? (a.add (i * d.sz + j)) = some u) ∧ wf y) len (fun i hi => by
      have h1 := hel i hi
      rw [List.getElem?_eq_getElem (by omega)] at h1
      obtain ⟨c, hc1, hc2⟩ := Option.bind_eq_some_iff.1 h1
      obtain ⟨y, hy, hw⟩ := he c _ hc2
      obtain ⟨_, hcl, hcc⟩ := World.cells?_some hc1
      refine ⟨y, ⟨c, by rw [hcl, hc], hy, fun j u hu => ?_⟩, hw⟩
      have hj : j < P.cellsOf e := by rw [← hcl]; exact (List.getElem?_eq_some_iff.1 hu).1
      have h2 := hcc j hj
      rw [hu, hc] at h2
      rw [← h2, Addr.add_add])
    subst hxl
    unfold maxLen at hm
    refine ⟨xs, ⟨some a, cap, rfl, hl, ⟨rfl, by omega, fun _ => ⟨a, rfl, fun j p hj => (hx j p hj).1⟩⟩⟩, by omega, fun y hy => ?_⟩
    obtain ⟨i, hi⟩ := List.mem_iff_getElem?.1 hy
    exact (hx i y hi).2
/-- At any depth. -/
theorem OpensAt.any {t : TypeId} {d : Kd α} {wf : α → Prop} (h : ∀ n, OpensAt enc P w base held n t d wf) {v : Value} {y : DataW H} {p : List MemPlace} (hv : DataW.Trod enc P w base (fun _ => true) held t v y p) : ∃ a, d.K w a v.cells.toList ∧ wf a := by
  obtain ⟨fuel, hf⟩ := hv
  exact h fuel _ _ hf
theorem opens_slice_any {t e : TypeId} {d : Kd α} {wf : α → Prop} (ht : P.underlying t = some (.slice e)) (hc : P.cellsOf e = d.sz) (he : ∀ n, OpensAt enc P w base held n e d wf) : ∀ n, OpensAt enc P w base held n t (Kd.slice e d) (fun xs => xs.length ≤ 9223372036854775807 ∧ ∀ x ∈ xs, wf x)
  | 0 => fun cs x h => by simp [DataW.trod] at h
  | n + 1 => opens_slice n ht hc (he n)
end

end Go.Proofs.Ytjnobnmjhpmpfaa.P

namespace Go.Proofs.Ytjnobnmjhpmpfaa.P
open Go.RowKit Go.Proofs.YtjnobnmjhpmpfaaW.PrintWords Go.Proofs.YtjnobnmjhpmpfaaW.PrintLast Go.Proofs.YtjnobnmjhpmpfaaW.PrintMore
attribute [local go_sem] max2_int min2_int max_two min_two max_three min_three max_four min_four
set_option linter.unusedVariables false
set_option linter.unusedSimpArgs false

inductive wfS24 : S24 → Prop
  | mk (x : S24) : ((Lit.int .i64 x.f0).wf = true) → ((Lit.int .i64 x.f1).wf = true) → (x.f2.length ≤ 9223372036854775807) → (∀ y_ ∈ x.f2, wfS24 y_) → wfS24 x
theorem list_of_24 {α : Type} {l : List α} (h : l.length = 3) : ∃ c0 c1 c2, l = [c0, c1, c2] := by
  match l, h with
  | [c0, c1, c2], _ => exact ⟨c0, c1, c2, rfl⟩
theorem opensS24 {H : Type} {enc : TypeId × Value → H} {w : World} {base : Nat} {held : Bool} : ∀ n, OpensAt enc Try.prog w base held n 24 k24 wfS24
  | 0 => fun cs x h => by simp [DataW.trod] at h
  | 1 => fun cs x h => by
    obtain ⟨xs, m, hm, _, hl, hlen, hf⟩ := DataW.trod_struct Try.underlying24 h
    obtain rfl : 0 = m := by omega
    rw [show Try.prog.cellsOf 24 = 3 from by kernel_rfl] at hl
    obtain ⟨c0, c1, c2, rfl⟩ := list_of_24 hl
    have h0 : DataW.trod enc Try.prog w base (fun _ => true) held (0) 2 [c0] = xs[0]? := by
        have q := hf 0 _ rfl
        simpa [show Try.prog.cellsOf 2 = 1 from by kernel_rfl] using q
    rw [List.getElem?_eq_getElem (by rw [hlen]; decide)] at h0
    obtain ⟨a0, e0, w0⟩ := (fun n => opens_int n Try.underlying2) (0) _ _ h0
    cases e0
    have h1 : DataW.trod enc Try.prog w base (fun _ => true) held (0) 2 [c1] = xs[1]? := by
        have q := hf 1 _ rfl
        simpa [show Try.prog.cellsOf 2 = 1 from by kernel_rfl] using q
    rw [List.getElem?_eq_getElem (by rw [hlen]; decide)] at h1
    obtain ⟨a1, e1, w1⟩ := (fun n => opens_int n Try.underlying2) (0) _ _ h1
    cases e1
    have h2 : DataW.trod enc Try.prog w base (fun _ => true) held (0) 22 [c2] = xs[2]? := by
        have q := hf 2 _ rfl
        simpa [show Try.prog.cellsOf 22 = 1 from by kernel_rfl] using q
    rw [List.getElem?_eq_getElem (by rw [hlen]; decide)] at h2
    exact absurd h2 (by simp [DataW.trod])
  | n + 2 => fun cs x h => by
    obtain ⟨xs, m, hm, _, hl, hlen, hf⟩ := DataW.trod_struct Try.underlying24 h
    obtain rfl : n + 1 = m := by omega
    rw [show Try.prog.cellsOf 24 = 3 from by kernel_rfl] at hl
    obtain ⟨c0, c1, c2, rfl⟩ := list_of_24 hl
    have h0 : DataW.trod enc Try.prog w base (fun _ => true) held (n + 1) 2 [c0] = xs[0]? := by
        have q := hf 0 _ rfl
        simpa [show Try.prog.cellsOf 2 = 1 from by kernel_rfl] using q
    rw [List.getElem?_eq_getElem (by rw [hlen]; decide)] at h0
    obtain ⟨a0, e0, w0⟩ := (fun n => opens_int n Try.underlying2) (n + 1) _ _ h0
    cases e0
    have h1 : DataW.trod enc Try.prog w base (fun _ => true) held (n + 1) 2 [c1] = xs[1]? := by
        have q := hf 1 _ rfl
        simpa [show Try.prog.cellsOf 2 = 1 from by kernel_rfl] using q
    rw [List.getElem?_eq_getElem (by rw [hlen]; decide)] at h1
    obtain ⟨a1, e1, w1⟩ := (fun n => opens_int n Try.underlying2) (n + 1) _ _ h1
    cases e1
    have h2 : DataW.trod enc Try.prog w base (fun _ => true) held (n + 1) 22 [c2] = xs[2]? := by
        have q := hf 2 _ rfl
        simpa [show Try.prog.cellsOf 22 = 1 from by kernel_rfl] using q
    rw [List.getElem?_eq_getElem (by rw [hlen]; decide)] at h2
    obtain ⟨a2, ⟨A2, n2, e2, l2, g2⟩, w2⟩ := (opens_slice n Try.underlying22 (by kernel_rfl) (opensS24 n)) _ _ h2
    cases e2
    exact ⟨⟨a0, a1, a2⟩, k24_mk w ⟨a0, a1, a2⟩ l2 g2, .mk _ w0 w1 w2.1 w2.2⟩

end Go.Proofs.Ytjnobnmjhpmpfaa.P

namespace Go.Proofs.Ytjnobnmjhpmpfaa.P
open Go.RowKit Go.Proofs.YtjnobnmjhpmpfaaW.PrintWords Go.Proofs.YtjnobnmjhpmpfaaW.PrintLast Go.Proofs.YtjnobnmjhpmpfaaW.PrintMore
attribute [local go_sem] max2_int min2_int max_two min_two max_three min_three max_four min_four
set_option linter.unusedVariables false
set_option linter.unusedSimpArgs false

def laws_FnExactDualGate.Way0 (a0 : Int) (x1 : S24) : Prop := ∃ k : Nat, ∃ (s2 : Int), (laws_szGate.f k x1.f0 x1.f1 x1.f2 1048576 = some s2) ∧ (decide (s2 < 0) = true)
def laws_FnExactDualGate.Way1 (a0 : Int) (x1 : S24) : Prop := ∃ k : Nat, ∃ (s2 : Int) (r18 : Int) (r19 : Int) (r20 : List (S29)) (r21 : Int) (m117 : Int) (ys118 : List (S29)) (m156 : Int) (ys157 : List (S29)), (laws_szGate.f k x1.f0 x1.f1 x1.f2 1048576 = some s2) ∧ (decide (s2 < 0) = false) ∧ (laws_toGate.f k x1.f0 x1.f1 x1.f2 = some (x1.f0, x1.f1, (cvL x1.f2))) ∧ (spec_DualGate.f k a0 x1.f0 x1.f1 (cvL x1.f2) = some (r18, r19, r20, r21)) ∧ (laws_toGate.f k x1.f0 x1.f1 x1.f2 = some (x1.f0, x1.f1, (cvL x1.f2))) ∧ (impl_DualGate.f k a0 x1.f0 x1.f1 (cvL x1.f2) = some (r18, r19, r20, r21)) ∧ (laws_eqGate.f k r18 r19 r20 r18 r19 r20 = some true) ∧ (laws_toGate.f k x1.f0 x1.f1 x1.f2 = some (x1.f0, x1.f1, (cvL x1.f2))) ∧ (laws_eqGate.f k x1.f0 x1.f1 (cvL x1.f2) x1.f0 x1.f1 (cvL x1.f2) = some true) ∧ (laws_markGate.f k x1.f0 x1.f1 (cvL x1.f2) 1 = some (m117, ys118)) ∧ (decide (m117 < 0) = false) ∧ (laws_eqGate.f k r18 r19 r20 r18 r19 r20 = some true) ∧ (laws_markGate.f k r18 r19 r20 1 = some (m156, ys157)) ∧ (laws_heldGate.f k r18 r19 ys157 1 = some m156) ∧ (decide (m156 < 0) = false) ∧ (laws_toGate.f k x1.f0 x1.f1 x1.f2 = some (x1.f0, x1.f1, (cvL x1.f2))) ∧ (impl_DualGate.f k a0 x1.f0 x1.f1 (cvL x1.f2) = some (r18, r19, r20, r21)) ∧ (laws_eqGate.f k r18 r19 r20 r18 r19 r20 = some true) ∧ (laws_heldGate.f k r18 r19 ys157 1 = some m156) ∧ (decide (m156 < 0) = false)
def laws_FnExactDualGate.Pure : Prop := ∀ (a0 : Int) (x1 : S24), ((Lit.int .i64 a0).wf = true) → wfS24 x1 → laws_FnExactDualGate.Way0 a0 x1 ∨ laws_FnExactDualGate.Way1 a0 x1
theorem laws_FnExactDualGate.walk (P : laws_FnExactDualGate.Pure) (a0 : Int) (x1 : S24) (A1_2 : Option Addr) (c1_2 : Nat) (w : World) (hr1_2 : Kd.C k24 w A1_2 x1.f2.length x1.f2) (hc1_2 : x1.f2.length ≤ c1_2) (wf0 : ((Lit.int .i64 a0).wf = true)) (wf1 : wfS24 x1) :
    Calls Try.prog 6 #[.int .i64 a0, .agg #[.int .i64 x1.f0, .int .i64 x1.f1, .slice A1_2 x1.f2.length c1_2]] w fun e w' => e = .returned (.bool true) ∧ Below w.heap.size w w' := by
  rcases P a0 x1 wf0 wf1 with h | h
  · obtain ⟨k, s2, A3, t9⟩ := h
    exact laws_FnExactDualGate.way0 k a0 x1.f0 x1.f1 _ _ x1.f2 s2 w hr1_2 hc1_2 A3 t9
  · obtain ⟨k, s2, r18, r19, r20, r21, m117, ys118, m156, ys157, A3, t9, A10, A22, A31, A44, A61, A79, A99, A119, t137, A138, A158, A176, t194, A195, A215, A236, A258, t280⟩ := h
    exact laws_FnExactDualGate.way1 k a0 x1.f0 x1.f1 _ _ x1.f2 s2 r18 r19 r20 r21 m117 ys118 m156 ys157 w hr1_2 hc1_2 A3 t9 A10 A22 A31 A44 A61 A79 A99 A119 t137 A138 A158 A176 t194 A195 A215 A236 A258 t280

end Go.Proofs.Ytjnobnmjhpmpfaa.P

namespace Go.Proofs.Ytjnobnmjhpmpfaa.P
open Go.RowKit Go.Proofs.YtjnobnmjhpmpfaaW.PrintWords Go.Proofs.YtjnobnmjhpmpfaaW.PrintLast Go.Proofs.YtjnobnmjhpmpfaaW.PrintMore
attribute [local go_sem] max2_int min2_int max_two min_two max_three min_three max_four min_four
set_option linter.unusedVariables false
set_option linter.unusedSimpArgs false

mutual
/-- How many nodes lie below a gate. -/
def nT : S24 → Nat
  | ⟨_, _, l⟩ => nL l
def nL : List S24 → Nat
  | [] => 0
  | x :: l => 1 + nT x + nL l
end
mutual
def mT : S29 → Nat
  | ⟨_, _, l⟩ => mL l
def mL : List S29 → Nat
  | [] => 0
  | x :: l => 1 + mT x + mL l
end
def sT : List S24 → Nat
  | [] => 0
  | x :: l => nT x + sT l
theorem nT_kids (x : S24) : nT x = nL x.f2 := by cases x; simp [nT]
theorem mT_kids (x : S29) : mT x = mL x.f2 := by cases x; simp [mT]
theorem nL_sum : ∀ l : List S24, nL l = l.length + sT l
  | [] => by simp [nL, sT]
  | x :: l => by simp only [nL, sT, List.length_cons, nL_sum l]; omega
theorem nL_mem {l : List S24} {x : S24} (h : x ∈ l) : nT x < nL l := by
  induction l with
  | nil => simp at h
  | cons y l ih =>
    simp only [nL]
    rcases List.mem_cons.mp h with rfl | h
    · omega
    · have := ih h; omega
theorem mL_mem {l : List S29} {x : S29} (h : x ∈ l) : mT x < mL l := by
  induction l with
  | nil => simp at h
  | cons y l ih =>
    simp only [mL]
    rcases List.mem_cons.mp h with rfl | h
    · omega
    · have := ih h; omega
theorem mL_len : ∀ l : List S29, l.length ≤ mL l
  | [] => by simp [mL]
  | x :: l => by have := mL_len l; simp only [mL, List.length_cons]; omega
theorem cvL_map : ∀ l : List S24, cvL l = l.map cvT
  | [] => rfl
  | x :: l => by simp only [cvL, List.map_cons, cvL_map l]
mutual
theorem mT_cv : ∀ x : S24, mT (cvT x) = nT x
  | ⟨a, b, l⟩ => by simp only [cvT, mT, nT, mL_cv l]
theorem mL_cv : ∀ l : List S24, mL (cvL l) = nL l
  | [] => rfl
  | x :: l => by simp only [cvL, mL, nL, mT_cv x, mL_cv l]
end
theorem cvT_parts (x : S24) : cvT x = ⟨x.f0, x.f1, cvL x.f2⟩ := by cases x; simp only [cvT]
theorem rdT_law (xs : List S24) (i : Nat) (h : i < xs.length) : rd_T24 xs (i : Int) = xs[i] := by simp [rd_T24, h]
theorem rdT_impl (xs : List S29) (i : Nat) (h : i < xs.length) : rd_T29 xs (i : Int) = xs[i] := by simp [rd_T29, h]
/-- Lists that are no longer than a list may be. -/
inductive wfG : S24 → Prop
  | mk (x : S24) : x.f2.length ≤ 9223372036854775807 → (∀ y ∈ x.f2, wfG y) → wfG x
def wfL (l : List S24) : Prop := l.length ≤ 9223372036854775807 ∧ ∀ y ∈ l, wfG y
theorem wfL_kids {x : S24} (h : wfG x) : wfL x.f2 := by
  cases h with
  | mk _ h3 h4 => exact ⟨h3, h4⟩
def szV (left : Int) (m : Nat) : Int := if (m : Int) ≤ left then left - m else -1
theorem szGateS_ev : ∀ (n : Nat) (l : List S24), nL l ≤ n → wfL l → ∀ left : Int, 0 ≤ left → left ≤ 1048576 → Ev (fun k => laws_szGateS.f k l left) (szV left (nL l)) := by
  intro n
  induction n with
  | zero =>
    intro l hn hw left h0 h1
    have hs := nL_sum l
    refine Ev.step (f := fun k => laws_szGateS.l0 k l left 0) (fun k => ?_) (Ev.step (f := fun _ => some left) (fun k => ?_) ?_)
    · simp only [laws_szGateS.f]
      rw [wr (by omega) (by omega), if_neg (by omega), show left - (l.length : Int) = left by omega]
    · simp only [laws_szGateS.l0]
      rw [if_neg (by omega)]
    · rw [show szV left (nL l) = left from by unfold szV; rw [if_pos (by omega)]; omega]
      exact Ev.now _
  | succ n ih =>
    intro l hn hw left h0 h1
    have hs := nL_sum l
    have hlen := hw.1
    by_cases hc : left - (l.length : Int) < 0
    · refine Ev.step (f := fun _ => some (-1)) (fun k => ?_) ?_
      · simp only [laws_szGateS.f]
        rw [wr (by omega) (by omega), if_pos hc]
      · rw [show szV left (nL l) = -1 from by unfold szV; rw [if_neg (by omega)]]
        exact Ev.now _
    · have key : ∀ d i : Nat, i + d = l.length → ∀ b : Int, 0 ≤ b → b ≤ 1048576 → Ev (fun k => laws_szGateS.l0 k l b (i : Int)) (szV b (sT (l.drop i))) := by
        intro d
        induction d with
        | zero =>
          intro i hi b hb0 hb1
          rw [List.drop_eq_nil_of_le (by omega), show szV b (sT []) = b from by unfold szV sT; rw [if_pos (by omega)]; omega]
          refine Ev.step (f := fun _ => some b) (fun k => ?_) (Ev.now _)
          simp only [laws_szGateS.l0]
          rw [if_neg (by omega)]
        | succ d ihd =>
          intro i hi b hb0 hb1
          have hlt : i < l.length := by omega
          have hmem := List.getElem_mem hlt
          have hx := nL_mem hmem
          have hk := nT_kids l[i]
          have e1 : Ev (fun k => laws_szGate.f k l[i].f0 l[i].f1 l[i].f2 b) (szV b (nT l[i])) := by
            refine Ev.step (f := fun k => (laws_szGateS.f k l[i].f2 b).bind fun t => if t < 0 then some (-1) else some t) (fun k => by simp only [laws_szGate.f]) ?_
            refine Ev.bind (ih _ (by omega) (wfL_kids (hw.2 _ hmem)) b hb0 hb1) ?_
            rw [← hk]
            unfold szV
            by_cases hq : (nT l[i] : Int) ≤ b
            · rw [if_pos hq, if_neg (by omega)]; exact Ev.now _
            · rw [if_neg hq, if_pos (by omega)]; exact Ev.now _
          rw [List.drop_eq_getElem_cons hlt, show sT (l[i] :: l.drop (i + 1)) = nT l[i] + sT (l.drop (i + 1)) from rfl]
          refine Ev.step (f := fun k => (laws_szGate.f k l[i].f0 l[i].f1 l[i].f2 b).bind fun t => if t < 0 then some (-1) else laws_szGateS.l0 k l t ((i + 1 : Nat) : Int)) (fun k => ?_) (Ev.bind e1 ?_)
          · simp only [laws_szGateS.l0]
            rw [if_pos (by omega), if_pos (by omega), rdT_law l i hlt, wr (x := (i : Int) + 1) (by omega) (by omega)]
            rfl
          · by_cases hq : (nT l[i] : Int) ≤ b
            · have hv : szV b (nT l[i]) = b - nT l[i] := by unfold szV; rw [if_pos hq]
              rw [hv, show szV b (nT l[i] + sT (l.drop (i + 1))) = szV (b - nT l[i]) (sT (l.drop (i + 1))) from by unfold szV; by_cases h : ((sT (l.drop (i + 1)) : Nat) : Int) ≤ b - nT l[i]; rw [if_pos h, if_pos (by omega)]; omega; rw [if_neg h, if_neg (by omega)]]
              simp only [if_neg (show ¬ b - (nT l[i] : Int) < 0 by omega)]
              exact ihd (i + 1) (by omega) _ (by omega) (by omega)
            · have hv : szV b (nT l[i]) = -1 := by unfold szV; rw [if_neg hq]
              rw [hv, show szV b (nT l[i] + sT (l.drop (i + 1))) = -1 from by unfold szV; rw [if_neg (by omega)]]
              simp only [if_pos (show (-1 : Int) < 0 by omega)]
              exact Ev.now _
      have h := key l.length 0 (by omega) (left - (l.length : Int)) (by omega) (by omega)
      rw [List.drop_zero] at h
      refine Ev.step (f := fun k => laws_szGateS.l0 k l (left - (l.length : Int)) 0) (fun k => ?_) ?_
      · simp only [laws_szGateS.f]
        rw [wr (by omega) (by omega), if_neg hc]
      · rw [show szV left (nL l) = szV (left - (l.length : Int)) (sT l) from by unfold szV; rw [hs]; by_cases h : ((sT l : Nat) : Int) ≤ left - (l.length : Int); rw [if_pos h, if_pos (by omega)]; omega; rw [if_neg h, if_neg (by omega)]]
        exact h
theorem szGate_ev (a b : Int) (l : List S24) (hw : wfL l) (left : Int) (h0 : 0 ≤ left) (h1 : left ≤ 1048576) : Ev (fun k => laws_szGate.f k a b l left) (szV left (nL l)) := by
  refine Ev.step (f := fun k => (laws_szGateS.f k l left).bind fun t => if t < 0 then some (-1) else some t) (fun k => by simp only [laws_szGate.f]) ?_
  refine Ev.bind (szGateS_ev _ l (Nat.le_refl _) hw left h0 h1) ?_
  unfold szV
  by_cases hq : (nL l : Int) ≤ left
  · rw [if_pos hq, if_neg (by omega)]; exact Ev.now _
  · rw [if_neg hq, if_pos (by omega)]; exact Ev.now _
theorem toGateS_ev : ∀ (n : Nat) (l : List S24), nL l ≤ n → n ≤ 1048576 → Ev (fun k => laws_toGateS.f k l) (cvL l) := by
  intro n
  induction n with
  | zero =>
    intro l hn hm
    have hs := nL_sum l
    obtain rfl : l = [] := List.eq_nil_of_length_eq_zero (by omega)
    refine Ev.step (f := fun k => laws_toGateS.l0 k [] [] 0) (fun k => by simp [laws_toGateS.f]) (Ev.step (f := fun _ => some []) (fun k => by simp [laws_toGateS.l0]) (Ev.now _))
  | succ n ih =>
    intro l hn hm
    have hs := nL_sum l
    have key : ∀ d i : Nat, i + d = l.length → Ev (fun k => laws_toGateS.l0 k l ((l.take i).map cvT ++ List.replicate d z29) (i : Int)) (cvL l) := by
      intro d
      induction d with
      | zero =>
        intro i hi
        rw [List.take_of_length_le (by omega), List.replicate_zero, List.append_nil, ← cvL_map]
        refine Ev.step (f := fun _ => some (cvL l)) (fun k => ?_) (Ev.now _)
        simp only [laws_toGateS.l0]
        rw [if_neg (by omega)]
      | succ d ihd =>
        intro i hi
        have hlt : i < l.length := by omega
        have hmem := List.getElem_mem hlt
        have hx := nL_mem hmem
        have hk := nT_kids l[i]
        have e1 : Ev (fun k => laws_toGate.f k l[i].f0 l[i].f1 l[i].f2) (l[i].f0, l[i].f1, cvL l[i].f2) :=
          Ev.step (f := fun k => (laws_toGateS.f k l[i].f2).bind fun t => some (l[i].f0, l[i].f1, t)) (fun k => by simp only [laws_toGate.f]) (Ev.bind (ih l[i].f2 (by omega) (by omega)) (Ev.now _))
        refine Ev.step (f := fun k => (laws_toGate.f k l[i].f0 l[i].f1 l[i].f2).bind fun b => laws_toGateS.l0 k l (((l.take i).map cvT ++ List.replicate (d + 1) z29).set i ⟨b.1, b.2.1, b.2.2⟩) ((i + 1 : Nat) : Int)) (fun k => ?_) (Ev.bind e1 ?_)
        · simp only [laws_toGateS.l0]
          rw [if_pos (by omega), if_pos (by omega), rdT_law l i hlt, wr (by omega) (by omega)]
          simp only [if_pos (show (i : Int) < (((l.take i).map cvT ++ List.replicate (d + 1) z29).length : Int) by simp; omega), Int.toNat_natCast]
          rfl
        · have e0 : ((l.take i).map cvT).length = i := by rw [List.length_map, List.length_take]; omega
          have e : (((l.take i).map cvT) ++ List.replicate (d + 1) z29).set i ⟨l[i].f0, l[i].f1, cvL l[i].f2⟩ = (l.take (i + 1)).map cvT ++ List.replicate d z29 := by
            rw [List.set_append_right _ _ (by omega), e0, Nat.sub_self, List.replicate_succ, List.set_cons_zero, List.take_succ_eq_append_getElem hlt, List.map_append, List.append_assoc, ← cvT_parts]
            rfl
          dsimp only
          rw [e]
          exact ihd (i + 1) (by omega)
    have h := key l.length 0 (by omega)
    rw [List.take_zero, List.map_nil, List.nil_append] at h
    refine Ev.step (f := fun k => laws_toGateS.l0 k l (List.replicate l.length z29) 0) (fun k => ?_) h
    simp only [laws_toGateS.f]
    rw [if_pos (by omega), Int.toNat_natCast]
theorem toGate_ev (a b : Int) (l : List S24) (h : nL l ≤ 1048576) : Ev (fun k => laws_toGate.f k a b l) (a, b, cvL l) :=
  Ev.step (f := fun k => (laws_toGateS.f k l).bind fun t => some (a, b, t)) (fun k => by simp only [laws_toGate.f]) (Ev.bind (toGateS_ev _ l (Nat.le_refl _) h) (Ev.now _))
theorem eqGateS_same : ∀ (n : Nat) (l : List S29), mL l ≤ n → n ≤ 1048576 → Ev (fun k => laws_eqGateS.f k l l) true := by
  intro n
  induction n with
  | zero =>
    intro l hn hm
    have hs := mL_len l
    obtain rfl : l = [] := List.eq_nil_of_length_eq_zero (by omega)
    exact Ev.step (f := fun k => laws_eqGateS.l0 k [] [] 0) (fun k => by simp [laws_eqGateS.f]) (Ev.step (f := fun _ => some true) (fun k => by simp [laws_eqGateS.l0]) (Ev.now _))
  | succ n ih =>
    intro l hn hm
    have hs := mL_len l
    have key : ∀ d i : Nat, i + d = l.length → Ev (fun k => laws_eqGateS.l0 k l l (i : Int)) true := by
      intro d
      induction d with
      | zero =>
        intro i hi
        refine Ev.step (f := fun _ => some true) (fun k => ?_) (Ev.now _)
        simp only [laws_eqGateS.l0]
        rw [if_neg (by omega)]
      | succ d ihd =>
        intro i hi
        have hlt : i < l.length := by omega
        have hx := mL_mem (List.getElem_mem hlt)
        have hk := mT_kids l[i]
        have e1 : Ev (fun k => laws_eqGate.f k l[i].f0 l[i].f1 l[i].f2 l[i].f0 l[i].f1 l[i].f2) true :=
          Ev.step (f := fun k => (laws_eqGateS.f k l[i].f2 l[i].f2).bind fun t => if t = true then some true else some false) (fun k => by simp only [laws_eqGate.f, if_true]) (Ev.bind (ih l[i].f2 (by omega) (by omega)) (by simp only [if_true]; exact Ev.now _))
        refine Ev.step (f := fun k => (laws_eqGate.f k l[i].f0 l[i].f1 l[i].f2 l[i].f0 l[i].f1 l[i].f2).bind fun t => if t = true then laws_eqGateS.l0 k l l ((i + 1 : Nat) : Int) else some false) (fun k => ?_) (Ev.bind e1 ?_)
        · simp only [laws_eqGateS.l0]
          rw [if_pos (by omega), if_pos (by omega), if_pos (by omega), rdT_impl l i hlt, wr (by omega) (by omega)]
          rfl
        · exact ihd (i + 1) (by omega)
    exact Ev.step (f := fun k => laws_eqGateS.l0 k l l 0) (fun k => by simp only [laws_eqGateS.f, if_true]) (key l.length 0 (by omega))
theorem eqGate_same (a b : Int) (l : List S29) (h : mL l ≤ 1048576) : Ev (fun k => laws_eqGate.f k a b l a b l) true :=
  Ev.step (f := fun k => (laws_eqGateS.f k l l).bind fun t => if t = true then some true else some false) (fun k => by simp only [laws_eqGate.f, if_true]) (Ev.bind (eqGateS_same _ l (Nat.le_refl _) h) (by simp only [if_true]; exact Ev.now _))

end Go.Proofs.Ytjnobnmjhpmpfaa.P

namespace Go.Proofs.Ytjnobnmjhpmpfaa.P
open Go.RowKit Go.Proofs.YtjnobnmjhpmpfaaW.PrintWords Go.Proofs.YtjnobnmjhpmpfaaW.PrintLast Go.Proofs.YtjnobnmjhpmpfaaW.PrintMore
attribute [local go_sem] max2_int min2_int max_two min_two max_three min_three max_four min_four
set_option linter.unusedVariables false
set_option linter.unusedSimpArgs false

/-! ### laws_eqInt64S: function 27 -/
def laws_eqInt64S.l0 : Nat → List Int → List Int → Int → Option (Bool)
  | 0, _, _, _ => none
  | k + 1, x0, x1, x5 => if x5 < (x0.length : Int) then (if 0 ≤ x5 then (if x5 < (x1.length : Int) then (if (rd x0 x5) = (rd x1 x5) then (laws_eqInt64S.l0 k x0 x1 (wrap64 (x5 + 1))) else (some false)) else (none)) else (none)) else (some true)
def laws_eqInt64S.f (k : Nat) (l0 : List Int) (l1 : List Int) : Option (Bool) := if (l0.length : Int) = (l1.length : Int) then (laws_eqInt64S.l0 k l0 l1 0) else (some false)
theorem laws_eqInt64S.mono_l : ∀ k, (∀ y0 y1 y2, LeO (laws_eqInt64S.l0 k y0 y1 y2) (laws_eqInt64S.l0 (k + 1) y0 y1 y2))
  | 0 => fun _ _ _ r h => by simp [laws_eqInt64S.l0] at h
  | k + 1 => by
    have ih0 := laws_eqInt64S.mono_l k
    · intro y0 y1 y2
      unfold laws_eqInt64S.l0
      repeat' first
      | (with_reducible exact ih0 _ _ _)
      | (with_reducible exact LeO.refl _)
      | (with_reducible exact LeO.none _)
      | (with_reducible refine LeO.ite ?_ ?_)
      | (with_reducible refine LeO.bind ?_ (fun _ => ?_))
      | exact ih0 _ _ _
      | exact LeO.none _
      | refine LeO.ite ?_ ?_
      | refine LeO.bind ?_ (fun _ => ?_)
theorem laws_eqInt64S.mono : ∀ a0 a1 k, LeO (laws_eqInt64S.f k a0 a1) (laws_eqInt64S.f (k + 1) a0 a1) := by
  intro a0 a1 k
  have ih0 := laws_eqInt64S.mono_l k
  unfold laws_eqInt64S.f
  repeat' first
      | (with_reducible exact ih0 _ _ _)
      | (with_reducible exact LeO.refl _)
      | (with_reducible exact LeO.none _)
      | (with_reducible refine LeO.ite ?_ ?_)
      | (with_reducible refine LeO.bind ?_ (fun _ => ?_))
      | exact ih0 _ _ _
      | exact LeO.none _
      | refine LeO.ite ?_ ?_
      | refine LeO.bind ?_ (fun _ => ?_)
set_option maxHeartbeats 8000000 in
set_option maxRecDepth 100000 in
theorem laws_eqInt64S.calls (k : Nat) (A0 : Option Addr) (c0 : Nat) (l0 : List Int) (A1 : Option Addr) (c1 : Nat) (l1 : List Int) (r : Bool) (w : World) (hr0 : Kd.C (Kd.int .i64) w A0 l0.length l0) (hc0 : l0.length ≤ c0) (hr1 : Kd.C (Kd.int .i64) w A1 l1.length l1) (hc1 : l1.length ≤ c1) (h : laws_eqInt64S.f k l0 l1 = some r) :
    Calls Try.prog 27 #[.slice A0 l0.length c0, .slice A1 l1.length c1] w fun e w' => e = .returned (.bool r) ∧ Drawn0 w w' := by
  have HR0 := Aside0.mk hr0
  have HC0 := Aside0.mk hc0
  clear hr0 hc0
  have HR1 := Aside0.mk hr1
  have HC1 := Aside0.mk hc1
  clear hr1 hc1
  have H : (if (l0.length : Int) = (l1.length : Int) then (laws_eqInt64S.l0 k l0 l1 0) else (some false)) = some r := h
  clear h
  by_cases c3 : (l0.length : Int) = (l1.length : Int)
  · rw [if_pos c3] at H
    have c3b0 : ((l0.length : Int) == (l1.length : Int)) = true := beq_iff_eq.mpr c3
    have c3b1 : ((l0.length : Int) != (l1.length : Int)) = false := bne_eq_false_iff_eq.mpr c3
    have c3b2 : (l0.length == l1.length) = true := by first | simpa using c3 | (simp at c3 ⊢; omega)
    clear c3
    have H' := Aside0.mk H
    clear H
    go_enter Try.func27, Try.ntmps27
    go_wp2
    repeat (go_quiet (fail); try go_wp2)
    go_loopg [5] k (fun kq v5 w' => ∃ (x5_1 : Int), v5 = .int .i64 x5_1 ∧ Aside0 (laws_eqInt64S.l0 kq l0 l1 x5_1 = some r) ∧ Aside0 (kq ≤ k) ∧ Drawn0 w w')
    case atStart => exact ⟨(0), (by first | rfl | (simp; done) | (simp [*]; done)), H', ⟨Nat.le_refl _⟩, by repeat (first | exact Drawn0.refl _ | apply Drawn0.step)⟩
    case round =>
      clear H'
      try clear c1
      try clear c2
      try clear p2
      try clear c3
      try clear c3b0
      try clear c3b1
      try clear c3b2
      obtain ⟨x5_1, rfl, HA, HK1, ⟨m1, rfl⟩⟩ := hrel
      cases gk with
      | zero => exact absurd HA.out (by simp [laws_eqInt64S.l0])
      | succ k1 =>
        have H := HA.out
        clear HA
        simp only [laws_eqInt64S.l0] at H
        by_cases c4 : x5_1 < (l0.length : Int)
        · rw [if_pos c4] at H
          have c4b0 : decide (x5_1 < (l0.length : Int)) = true := decide_eq_true c4
          clear c4
          by_cases c5 : 0 ≤ x5_1
          · rw [if_pos c5] at H
            have c5b0 : decide (0 ≤ x5_1) = true := decide_eq_true c5
            clear c5
            by_cases c6 : x5_1 < (l1.length : Int)
            · rw [if_pos c6] at H
              have c6b0 : decide (x5_1 < (l1.length : Int)) = true := decide_eq_true c6
              clear c6
              by_cases c7 : (rd l0 x5_1) = (rd l1 x5_1)
              · rw [if_pos c7] at H
                have c7b0 : ((rd l0 x5_1) == (rd l1 x5_1)) = true := beq_iff_eq.mpr c7
                have c7b1 : ((rd l0 x5_1) != (rd l1 x5_1)) = false := bne_eq_false_iff_eq.mpr c7
                clear c7
                have H' := Aside0.mk H
                clear H
                have p151 : 0 ≤ (x5_1 : Int) := of_decide_eq_true (by first | (with_reducible assumption) | assumption)
                have q151 : x5_1 < (l0.length : Int) := of_decide_eq_true (by first | (with_reducible assumption) | assumption)
                obtain ⟨ad151, e151, hx151_0⟩ := Kd.at_int HR0.out x5_1 p151 q151
                cases e151
                replace p151 := eq_true p151
                replace q151 := eq_true q151
                have p152 : 0 ≤ (x5_1 : Int) := of_decide_eq_true (by first | (with_reducible assumption) | assumption)
                have q152 : x5_1 < (l1.length : Int) := of_decide_eq_true (by first | (with_reducible assumption) | assumption)
                obtain ⟨ad152, e152, hx152_0⟩ := Kd.at_int HR1.out x5_1 p152 q152
                cases e152
                replace p152 := eq_true p152
                replace q152 := eq_true q152
                go_wp2
                repeat (go_quiet (fail); try go_wp2)
                go_roundg k1
                case measure => have := HK1.out; omega
                case rel => exact ⟨(wrap64 (x5_1 + 1)), (by first | rfl | (simp; done) | (simp [*]; done)), H', ⟨by have := HK1.out; omega⟩, by repeat (first | exact Drawn0.refl _ | apply Drawn0.step)⟩
              · rw [if_neg c7] at H
                have c7b0 : ((rd l0 x5_1) == (rd l1 x5_1)) = false := beq_eq_false_iff_ne.mpr c7
                have c7b1 : ((rd l0 x5_1) != (rd l1 x5_1)) = true := bne_iff_ne.mpr c7
                obtain rfl := Option.some.inj H
                have p151 : 0 ≤ (x5_1 : Int) := of_decide_eq_true (by first | (with_reducible assumption) | assumption)
                have q151 : x5_1 < (l0.length : Int) := of_decide_eq_true (by first | (with_reducible assumption) | assumption)
                obtain ⟨ad151, e151, hx151_0⟩ := Kd.at_int HR0.out x5_1 p151 q151
                cases e151
                replace p151 := eq_true p151
                replace q151 := eq_true q151
                have p152 : 0 ≤ (x5_1 : Int) := of_decide_eq_true (by first | (with_reducible assumption) | assumption)
                have q152 : x5_1 < (l1.length : Int) := of_decide_eq_true (by first | (with_reducible assumption) | assumption)
                obtain ⟨ad152, e152, hx152_0⟩ := Kd.at_int HR1.out x5_1 p152 q152
                cases e152
                replace p152 := eq_true p152
                replace q152 := eq_true q152
                go_wp2
                repeat (go_quiet (fail); try go_wp2)
                go_ret
                exact ⟨by first | rfl | (simp; done) | (simp [*]; done), by repeat (first | exact Drawn0.refl _ | apply Drawn0.step)⟩
            · rw [if_neg c6] at H
              exact absurd H (by simp)
          · rw [if_neg c5] at H
            exact absurd H (by simp)
        · rw [if_neg c4] at H
          have c4b0 : decide (x5_1 < (l0.length : Int)) = false := decide_eq_false c4
          clear c4
          obtain rfl := Option.some.inj H
          go_wp2
          repeat (go_quiet (fail); try go_wp2)
          go_ret
          exact ⟨by first | rfl | (simp; done) | (simp [*]; done), by repeat (first | exact Drawn0.refl _ | apply Drawn0.step)⟩
  · rw [if_neg c3] at H
    have c3b0 : ((l0.length : Int) == (l1.length : Int)) = false := beq_eq_false_iff_ne.mpr c3
    have c3b1 : ((l0.length : Int) != (l1.length : Int)) = true := bne_iff_ne.mpr c3
    have c3b2 : (l0.length == l1.length) = false := by first | simpa using c3 | (simp at c3 ⊢; omega)
    obtain rfl := Option.some.inj H
    go_enter Try.func27, Try.ntmps27
    go_wp2
    repeat (go_quiet (fail); try go_wp2)
    go_ret
    exact ⟨by first | rfl | (simp; done) | (simp [*]; done), by repeat (first | exact Drawn0.refl _ | apply Drawn0.step)⟩

end Go.Proofs.Ytjnobnmjhpmpfaa.P

namespace Go.Proofs.Ytjnobnmjhpmpfaa.P
open Go.RowKit Go.Proofs.YtjnobnmjhpmpfaaW.PrintWords Go.Proofs.YtjnobnmjhpmpfaaW.PrintLast Go.Proofs.YtjnobnmjhpmpfaaW.PrintMore
attribute [local go_sem] max2_int min2_int max_two min_two max_three min_three max_four min_four
set_option linter.unusedVariables false
set_option linter.unusedSimpArgs false

/-! ### laws_toInt64S: function 31 -/
def laws_toInt64S.l0 : Nat → List Int → List Int → Int → Option (List Int)
  | 0, _, _, _ => none
  | k + 1, x0, x3, x4 => if x4 < (x0.length : Int) then (if 0 ≤ x4 then (if x4 < (x3.length : Int) then (laws_toInt64S.l0 k x0 (x3.set (x4 : Int).toNat (rd x0 x4)) (wrap64 (x4 + 1))) else (none)) else (none)) else (some x3)
def laws_toInt64S.f (k : Nat) (l0 : List Int) : Option (List Int) := if 0 ≤ (l0.length : Int) then (if ((l0.length : Int) : Int).toNat ≤ 35184372088832 then (laws_toInt64S.l0 k l0 (List.replicate ((l0.length : Int) : Int).toNat 0) 0) else (none)) else (none)
theorem laws_toInt64S.mono_l : ∀ k, (∀ y0 y1 y2, LeO (laws_toInt64S.l0 k y0 y1 y2) (laws_toInt64S.l0 (k + 1) y0 y1 y2))
  | 0 => fun _ _ _ r h => by simp [laws_toInt64S.l0] at h
  | k + 1 => by
    have ih0 := laws_toInt64S.mono_l k
    · intro y0 y1 y2
      unfold laws_toInt64S.l0
      repeat' first
      | (with_reducible exact ih0 _ _ _)
      | (with_reducible exact LeO.refl _)
      | (with_reducible exact LeO.none _)
      | (with_reducible refine LeO.ite ?_ ?_)
      | (with_reducible refine LeO.bind ?_ (fun _ => ?_))
      | exact ih0 _ _ _
      | exact LeO.none _
      | refine LeO.ite ?_ ?_
      | refine LeO.bind ?_ (fun _ => ?_)
theorem laws_toInt64S.mono : ∀ a0 k, LeO (laws_toInt64S.f k a0) (laws_toInt64S.f (k + 1) a0) := by
  intro a0 k
  have ih0 := laws_toInt64S.mono_l k
  unfold laws_toInt64S.f
  repeat' first
      | (with_reducible exact ih0 _ _ _)
      | (with_reducible exact LeO.refl _)
      | (with_reducible exact LeO.none _)
      | (with_reducible refine LeO.ite ?_ ?_)
      | (with_reducible refine LeO.bind ?_ (fun _ => ?_))
      | exact ih0 _ _ _
      | exact LeO.none _
      | refine LeO.ite ?_ ?_
      | refine LeO.bind ?_ (fun _ => ?_)
set_option maxHeartbeats 8000000 in
set_option maxRecDepth 100000 in
theorem laws_toInt64S.calls (k : Nat) (A0 : Option Addr) (c0 : Nat) (l0 : List Int) (r : List Int) (w : World) (hr0 : Kd.C (Kd.int .i64) w A0 l0.length l0) (hc0 : l0.length ≤ c0) (h : laws_toInt64S.f k l0 = some r) :
    Calls Try.prog 31 #[.slice A0 l0.length c0] w fun e w' => ∃ v0_ : Value, e = .returned (v0_) ∧ Kd.R (Kd.int .i64) 2 w' w.heap.size (fun _ => True) v0_ r ∧ Below w.heap.size w w' := by
  have HR0 := Aside0.mk hr0
  have HC0 := Aside0.mk hc0
  clear hr0 hc0
  have HB := Aside0.mk (Below.refl w.heap.size w)
  have H : (if 0 ≤ (l0.length : Int) then (if ((l0.length : Int) : Int).toNat ≤ 35184372088832 then (laws_toInt64S.l0 k l0 (List.replicate ((l0.length : Int) : Int).toNat 0) 0) else (none)) else (none)) = some r := h
  clear h
  by_cases c2 : 0 ≤ (l0.length : Int)
  · rw [if_pos c2] at H
    have c2b0 := eq_true c2
    have c2b1 : decide (0 ≤ (l0.length : Int)) = true := decide_eq_true c2
    clear c2
    by_cases c3 : ((l0.length : Int) : Int).toNat ≤ 35184372088832
    · rw [if_pos c3] at H
      have c3b0 := eq_true c3
      have c3b1 : decide (((l0.length : Int) : Int).toNat ≤ 35184372088832) = true := decide_eq_true c3
      clear c3
      obtain ⟨y204, hy204⟩ : ∃ y_ : List Int, y_ = (List.replicate ((l0.length : Int) : Int).toNat 0) := ⟨_, rfl⟩
      replace H : (laws_toInt64S.l0 k l0 y204 0) = some r := by first | (rw [hy204]; with_reducible exact H) | (have H2_ := (Option.bind_some _ _).symm.trans H; rw [hy204]; with_reducible exact H2_) | (have H2_ := (Option.bind_some _ _).symm.trans H; with_reducible exact H2_) | with_reducible exact H | (rw [hy204]; exact H) | exact H
      have Ny204 := Aside0.mk hy204
      clear hy204
      have H' := Aside0.mk H
      clear H
      go_enter Try.func31, Try.ntmps31
      go_wp2_with (first | ((with_reducible refine gate_dst (N := 7) rfl ?_); refine Kd.R_make (Kd.int .i64) _ 2 rfl (N := 7) rfl 39 _ _ rfl (l0.length : Int) rfl rfl Try.underlying39 (.int .i64 0) 8 info2 rfl (by decide) (by omega) 0 (ok := fun _ => True) (okp := fun _ => True) rfl (fun _ hk => hk) trivial (of_decide_eq_true (by first | (with_reducible assumption) | assumption)) (Nat.le_trans (Nat.mul_le_mul_right _ (of_decide_eq_true (by first | (with_reducible assumption) | assumption) : (l0.length : Int).toNat ≤ 35184372088832)) (by omega)) (Below.refl _ _) (Nat.le_refl _) ?_; intro v205 w4 ho5 hb hg_ hnew_; clear hg_ hnew_; (first | rw [← Ny204.out] at ho5 | (simp only [Int.reduceToNat] at ho5; rw [← Ny204.out] at ho5)); have n0_ := Aside0.mk (Kd.R_lower ho5 (below_size (by repeat (first | (with_reducible first | exact HB.out | apply below_alloc | apply pw_below_drewN | apply below_drew1) | exact HB.out)))); have n1_ := Aside0.mk (below_step (by repeat (first | (with_reducible first | exact HB.out | apply below_alloc | apply pw_below_drewN | apply below_drew1) | exact HB.out)) hb); clear HB; have HO206 := n0_; have HB := n1_; clear n0_ n1_; clear hb ho5))
      go_loopg [4] k (fun kq v4 w' => ∃ (x3_1 : List Int) (x4_1 : Int), v4 = .int .i64 x4_1 ∧ Aside0 (laws_toInt64S.l0 kq l0 x3_1 x4_1 = some r) ∧ Aside0 (kq ≤ k) ∧ Aside0 (Kd.R (Kd.int .i64) 2 w' w.heap.size (fun _ => True) v205 x3_1) ∧ Aside0 (Below w.heap.size w w'))
      case atStart => exact ⟨(y204), (0), (by first | rfl | (simp; done) | (simp [*]; done)), H', ⟨Nat.le_refl _⟩, ⟨by (with_reducible repeat (first | apply Kd.R_alloc | apply Kd.R_drewN | apply Kd.R_drew)); exact HO206.out⟩, ⟨by repeat (first | (with_reducible first | exact HB.out | apply below_alloc | apply pw_below_drewN | apply below_drew1) | exact HB.out)⟩⟩
      case round =>
        clear H'
        try clear c2
        try clear c2b0
        try clear c2b1
        try clear p2
        try clear c3
        try clear c3b0
        try clear c3b1
        obtain ⟨x3_1, x4_1, rfl, HA, HK1, HO_3, HB⟩ := hrel
        cases gk with
        | zero => exact absurd HA.out (by simp [laws_toInt64S.l0])
        | succ k1 =>
          have H := HA.out
          clear HA
          simp only [laws_toInt64S.l0] at H
          by_cases c6 : x4_1 < (l0.length : Int)
          · rw [if_pos c6] at H
            have c6b0 : decide (x4_1 < (l0.length : Int)) = true := decide_eq_true c6
            clear c6
            by_cases c7 : 0 ≤ x4_1
            · rw [if_pos c7] at H
              have c7b0 : decide (0 ≤ x4_1) = true := decide_eq_true c7
              clear c7
              by_cases c8 : x4_1 < (x3_1.length : Int)
              · rw [if_pos c8] at H
                have c8b0 : decide (x4_1 < (x3_1.length : Int)) = true := decide_eq_true c8
                clear c8
                obtain ⟨y208, hy208⟩ : ∃ y_ : List Int, y_ = (x3_1.set (x4_1 : Int).toNat (rd l0 x4_1)) := ⟨_, rfl⟩
                replace H : (laws_toInt64S.l0 k1 l0 y208 (wrap64 (x4_1 + 1))) = some r := by first | (rw [hy208]; with_reducible exact H) | (have H2_ := (Option.bind_some _ _).symm.trans H; rw [hy208]; with_reducible exact H2_) | (have H2_ := (Option.bind_some _ _).symm.trans H; with_reducible exact H2_) | with_reducible exact H | (rw [hy208]; exact H) | exact H
                have Ny208 := Aside0.mk hy208
                clear hy208
                have H' := Aside0.mk H
                clear H
                have p207 : 0 ≤ (x4_1 : Int) := of_decide_eq_true (by first | (with_reducible assumption) | assumption)
                have q207 : x4_1 < (l0.length : Int) := of_decide_eq_true (by first | (with_reducible assumption) | assumption)
                obtain ⟨ad207, e207, hx207_0⟩ := Kd.at_int HR0.out x4_1 p207 q207
                cases e207
                replace hx207_0 := (HB.out.cell (World.block_lt_of_cell? w _ hx207_0)).trans hx207_0
                replace p207 := eq_true p207
                replace q207 := eq_true q207
                have p9 : 0 ≤ (x4_1 : Int) := of_decide_eq_true (by first | (with_reducible assumption) | assumption)
                have q9 : (x4_1 : Int) < ((x3_1.length : Int) : Int) := of_decide_eq_true (by first | (with_reducible assumption) | assumption)
                obtain ⟨go9, co9, eo9, gb9, gl9, cl9, HG9⟩ := Kd.R_form HO_3.out (by omega)
                (first | cases eo9 | (injection eo9 with ea_ en_ ec_; (first | subst ea_ | (injection ea_ with ea_; subst ea_)); subst ec_; clear en_))
                have GB9 := Aside0.mk gb9
                have GG9 := Aside0.mk HG9
                clear gb9 gl9 HG9
                obtain ⟨hx9_0, hf9_0⟩ := Kd.R_celln 0 HO_3.out (x4_1 : Int) p9 q9
                replace p9 := eq_true p9
                replace q9 := eq_true q9
                have HP10 := Kd.R_putg HO_3.out (x4_1 : Int) (rd l0 x4_1)
                go_wp2_with (first | ((with_reducible refine gate_store (t := 2) (p := 20) rfl ?_); refine store_event (t := 2) (p := 20) (v := ?vo_w11) (w1 := (wr.setCell ⟨go9, (x4_1 : Int).toNat, none⟩ (.int .i64 (rd l0 x4_1)))) ?hg ?ho ?hn ?hr ?_; (case ho => rfl); (case hg => rfl); (case hn => rfl); (case hr => first | (go_simp; done) | (go_simp; rfl)); intro w11 hw; have hg : wr.grownBy w11 (some go9) := (by rw [hw]; exact HP10.2); have hp_ : Kd.R (Kd.int .i64) 2 w11 w.heap.size (fun _ => True) (.slice (some ⟨go9, 0, none⟩) x3_1.length co9) y208 := (by rw [hw, Ny208.out]; exact HP10.1); clear HP10; have n0_ := Aside0.mk (hp_); have n1_ := Aside0.mk ((by rw [hw]; exact below_set (HB.out) GB9.out : Below w.heap.size w w11)); clear HO_3; clear HB; have HO_3 := n0_; have HB := n1_; clear n0_ n1_; clear hg hw hp_))
                go_roundg k1
                case measure => have := HK1.out; omega
                case rel => exact ⟨(y208), (wrap64 (x4_1 + 1)), (by first | rfl | (simp; done) | (simp [*]; done)), H', ⟨by have := HK1.out; omega⟩, ⟨by (with_reducible repeat (first | apply Kd.R_alloc | apply Kd.R_drewN | apply Kd.R_drew)); exact HO_3.out⟩, ⟨by repeat (first | (with_reducible first | exact HB.out | apply below_alloc | apply pw_below_drewN | apply below_drew1) | exact HB.out)⟩⟩
              · rw [if_neg c8] at H
                exact absurd H (by simp)
            · rw [if_neg c7] at H
              exact absurd H (by simp)
          · rw [if_neg c6] at H
            have c6b0 : decide (x4_1 < (l0.length : Int)) = false := decide_eq_false c6
            clear c6
            obtain rfl := Option.some.inj H
            go_wp2
            go_ret
            exact ⟨_, by first | rfl | (simp [errW_none, errW_some] <;> rfl) | (simp [*, errW_none, errW_some] <;> rfl), by (with_reducible repeat (first | apply Kd.R_alloc | apply Kd.R_drewN | apply Kd.R_drew)); exact HO_3.out, by repeat (first | (with_reducible first | exact HB.out | apply below_alloc | apply pw_below_drewN | apply below_drew1) | exact HB.out)⟩
    · rw [if_neg c3] at H
      exact absurd H (by simp)
  · rw [if_neg c2] at H
    exact absurd H (by simp)

end Go.Proofs.Ytjnobnmjhpmpfaa.P

namespace Go.Proofs.Ytjnobnmjhpmpfaa.P
open Go.RowKit Go.Proofs.YtjnobnmjhpmpfaaW.PrintWords Go.Proofs.YtjnobnmjhpmpfaaW.PrintLast Go.Proofs.YtjnobnmjhpmpfaaW.PrintMore
attribute [local go_sem] max2_int min2_int max_two min_two max_three min_three max_four min_four
set_option linter.unusedVariables false
set_option linter.unusedSimpArgs false

/-! ### laws_szInt64S: function 91 -/
def laws_szInt64S.f (l0 : List Int) (a1 : Int) : Option (Int) := if (wrap64 (a1 - (l0.length : Int))) < 0 then (some (-1)) else (some (wrap64 (a1 - (l0.length : Int))))
set_option maxHeartbeats 8000000 in
set_option maxRecDepth 100000 in
theorem laws_szInt64S.calls (A0 : Option Addr) (c0 : Nat) (l0 : List Int) (a1 : Int) (r : Int) (w : World) (hr0 : Kd.C (Kd.int .i64) w A0 l0.length l0) (hc0 : l0.length ≤ c0) (h : laws_szInt64S.f l0 a1 = some r) :
    Calls Try.prog 91 #[.slice A0 l0.length c0, .int .i64 a1] w fun e w' => e = .returned (.int .i64 r) ∧ Drawn0 w w' := by
  have HR0 := Aside0.mk hr0
  have HC0 := Aside0.mk hc0
  clear hr0 hc0
  have H : (if (wrap64 (a1 - (l0.length : Int))) < 0 then (some (-1)) else (some (wrap64 (a1 - (l0.length : Int))))) = some r := h
  clear h
  by_cases c3 : (wrap64 (a1 - (l0.length : Int))) < 0
  · rw [if_pos c3] at H
    have c3b0 : decide ((wrap64 (a1 - (l0.length : Int))) < 0) = true := decide_eq_true c3
    clear c3
    obtain rfl := Option.some.inj H
    go_enter Try.func91, Try.ntmps91
    go_wp2
    go_ret
    exact ⟨by first | rfl | (simp; done) | (simp [*]; done), by repeat (first | exact Drawn0.refl _ | apply Drawn0.step)⟩
  · rw [if_neg c3] at H
    have c3b0 : decide ((wrap64 (a1 - (l0.length : Int))) < 0) = false := decide_eq_false c3
    clear c3
    obtain rfl := Option.some.inj H
    go_enter Try.func91, Try.ntmps91
    go_wp2
    go_ret
    exact ⟨by first | rfl | (simp; done) | (simp [*]; done), by repeat (first | exact Drawn0.refl _ | apply Drawn0.step)⟩

end Go.Proofs.Ytjnobnmjhpmpfaa.P

namespace Go.Proofs.Ytjnobnmjhpmpfaa.P
open Go.RowKit Go.Proofs.YtjnobnmjhpmpfaaW.PrintWords Go.Proofs.YtjnobnmjhpmpfaaW.PrintLast Go.Proofs.YtjnobnmjhpmpfaaW.PrintMore
attribute [local go_sem] max2_int min2_int max_two min_two max_three min_three max_four min_four
set_option linter.unusedVariables false
set_option linter.unusedSimpArgs false

/-! ### laws_szInt64SS: function 77 -/
def laws_szInt64SS.l0 : Nat → List (List Int) → Int → Int → Option (Int)
  | 0, _, _, _ => none
  | k + 1, x0, x1, x5 => if x5 < (x0.length : Int) then (if 0 ≤ x5 then ((laws_szInt64S.f (rd_L6 x0 x5) x1).bind fun t290 => (if t290 < 0 then (some (-1)) else (laws_szInt64SS.l0 k x0 t290 (wrap64 (x5 + 1))))) else (none)) else (some x1)
def laws_szInt64SS.f (k : Nat) (l0 : List (List Int)) (a1 : Int) : Option (Int) := if (wrap64 (a1 - (l0.length : Int))) < 0 then (some (-1)) else (laws_szInt64SS.l0 k l0 (wrap64 (a1 - (l0.length : Int))) 0)
theorem laws_szInt64SS.mono_l : ∀ k, (∀ y0 y1 y2, LeO (laws_szInt64SS.l0 k y0 y1 y2) (laws_szInt64SS.l0 (k + 1) y0 y1 y2))
  | 0 => fun _ _ _ r h => by simp [laws_szInt64SS.l0] at h
  | k + 1 => by
    have ih0 := laws_szInt64SS.mono_l k
    · intro y0 y1 y2
      unfold laws_szInt64SS.l0
      repeat' first
      | (with_reducible exact ih0 _ _ _)
      | (with_reducible exact LeO.refl _)
      | (with_reducible exact LeO.none _)
      | (with_reducible refine LeO.ite ?_ ?_)
      | (with_reducible refine LeO.bind ?_ (fun _ => ?_))
      | exact ih0 _ _ _
      | exact LeO.none _
      | refine LeO.ite ?_ ?_
      | refine LeO.bind ?_ (fun _ => ?_)
theorem laws_szInt64SS.mono : ∀ a0 a1 k, LeO (laws_szInt64SS.f k a0 a1) (laws_szInt64SS.f (k + 1) a0 a1) := by
  intro a0 a1 k
  have ih0 := laws_szInt64SS.mono_l k
  unfold laws_szInt64SS.f
  repeat' first
      | (with_reducible exact ih0 _ _ _)
      | (with_reducible exact LeO.refl _)
      | (with_reducible exact LeO.none _)
      | (with_reducible refine LeO.ite ?_ ?_)
      | (with_reducible refine LeO.bind ?_ (fun _ => ?_))
      | exact ih0 _ _ _
      | exact LeO.none _
      | refine LeO.ite ?_ ?_
      | refine LeO.bind ?_ (fun _ => ?_)
set_option maxHeartbeats 8000000 in
set_option maxRecDepth 100000 in
theorem laws_szInt64SS.calls (k : Nat) (A0 : Option Addr) (c0 : Nat) (l0 : List (List Int)) (a1 : Int) (r : Int) (w : World) (hr0 : Kd.C (Kd.slice 2 (Kd.int .i64)) w A0 l0.length l0) (hc0 : l0.length ≤ c0) (h : laws_szInt64SS.f k l0 a1 = some r) :
    Calls Try.prog 77 #[.slice A0 l0.length c0, .int .i64 a1] w fun e w' => e = .returned (.int .i64 r) ∧ Drawn0 w w' := by
  have HR0 := Aside0.mk hr0
  have HC0 := Aside0.mk hc0
  clear hr0 hc0
  have H : (if (wrap64 (a1 - (l0.length : Int))) < 0 then (some (-1)) else (laws_szInt64SS.l0 k l0 (wrap64 (a1 - (l0.length : Int))) 0)) = some r := h
  clear h
  by_cases c3 : (wrap64 (a1 - (l0.length : Int))) < 0
  · rw [if_pos c3] at H
    have c3b0 : decide ((wrap64 (a1 - (l0.length : Int))) < 0) = true := decide_eq_true c3
    clear c3
    obtain rfl := Option.some.inj H
    go_enter Try.func77, Try.ntmps77
    go_wp2
    go_ret
    exact ⟨by first | rfl | (simp; done) | (simp [*]; done), by repeat (first | exact Drawn0.refl _ | apply Drawn0.step)⟩
  · rw [if_neg c3] at H
    have c3b0 : decide ((wrap64 (a1 - (l0.length : Int))) < 0) = false := decide_eq_false c3
    clear c3
    have H' := Aside0.mk H
    clear H
    go_enter Try.func77, Try.ntmps77
    go_wp2
    go_loopg [1, 5] k (fun kq v1 v5 w' => ∃ (x1_1 : Int) (x5_1 : Int), v1 = .int .i64 x1_1 ∧ v5 = .int .i64 x5_1 ∧ Aside0 (laws_szInt64SS.l0 kq l0 x1_1 x5_1 = some r) ∧ Aside0 (kq ≤ k) ∧ Drawn0 w w')
    case atStart => exact ⟨(wrap64 (a1 - (l0.length : Int))), (0), (by first | rfl | (simp; done) | (simp [*]; done)), (by first | rfl | (simp; done) | (simp [*]; done)), H', ⟨Nat.le_refl _⟩, by repeat (first | exact Drawn0.refl _ | apply Drawn0.step)⟩
    case round =>
      clear H'
      try clear p2
      try clear c3
      try clear c3b0
      obtain ⟨x1_1, x5_1, rfl, rfl, HA, HK1, ⟨m1, rfl⟩⟩ := hrel
      cases gk with
      | zero => exact absurd HA.out (by simp [laws_szInt64SS.l0])
      | succ k1 =>
        have H := HA.out
        clear HA
        simp only [laws_szInt64SS.l0] at H
        by_cases c4 : x5_1 < (l0.length : Int)
        · rw [if_pos c4] at H
          have c4b0 : decide (x5_1 < (l0.length : Int)) = true := decide_eq_true c4
          clear c4
          by_cases c5 : 0 ≤ x5_1
          · rw [if_pos c5] at H
            have c5b0 : decide (0 ≤ x5_1) = true := decide_eq_true c5
            clear c5
            replace H := Option.bind_eq_some_iff.mp H
            obtain ⟨t290, A60, H⟩ := H
            replace H : (if t290 < 0 then (some (-1)) else (laws_szInt64SS.l0 k1 l0 t290 (wrap64 (x5_1 + 1)))) = some r := H
            have A6 := Aside0.mk A60
            clear A60
            by_cases c7 : t290 < 0
            · rw [if_pos c7] at H
              have c7b0 : decide (t290 < 0) = true := decide_eq_true c7
              clear c7
              obtain rfl := Option.some.inj H
              have p289 : 0 ≤ (x5_1 : Int) := of_decide_eq_true (by first | (with_reducible assumption) | assumption)
              have q289 : x5_1 < (l0.length : Int) := of_decide_eq_true (by first | (with_reducible assumption) | assumption)
              obtain ⟨ad289, A289_0, c289_0, e289, hx289_0, hl289_0, hi289_0⟩ := at_L6 HR0.out x5_1 p289 q289
              cases e289
              have HR289_0 := Aside0.mk hi289_0
              have HC289_0 := Aside0.mk hl289_0
              clear hi289_0 hl289_0
              replace p289 := eq_true p289
              replace q289 := eq_true q289
              go_wp2_with (first | ((with_reducible refine gate_callee (f := 91) rfl ?_); refine goesL_ (some 23) rfl rfl Try.func91 (by kernel_rfl) rfl #[.slice A289_0 (rd_L6 l0 x5_1).length c289_0, .int .i64 x1_1] rfl (by (try simp only [List.map_toArray, List.map_cons, List.map_nil]); first | done | rfl | (simp only [List.length_drop, List.length_take]; rfl)) ?_; (with_reducible refine (laws_szInt64S.calls _ _ (rd_L6 l0 x5_1) x1_1 t290 _ ?side1 ?side2 A6.out).mono ?_); (case side1 => repeat (first | exact HR289_0.out | (with_reducible refine Kd.C_alloc ?_ _) | (with_reducible refine Kd.C_drewN ?_ _) | (with_reducible refine Kd.C_drew ?_))); (case side2 => exact HC289_0.out); rintro e w' ⟨rfl, ⟨nd, rfl⟩⟩; refine ⟨_, rfl, ?_⟩))
              go_ret
              exact ⟨by first | rfl | (simp; done) | (simp [*]; done), by repeat (first | exact Drawn0.refl _ | apply Drawn0.step)⟩
            · rw [if_neg c7] at H
              have c7b0 : decide (t290 < 0) = false := decide_eq_false c7
              clear c7
              have H' := Aside0.mk H
              clear H
              have p289 : 0 ≤ (x5_1 : Int) := of_decide_eq_true (by first | (with_reducible assumption) | assumption)
              have q289 : x5_1 < (l0.length : Int) := of_decide_eq_true (by first | (with_reducible assumption) | assumption)
              obtain ⟨ad289, A289_0, c289_0, e289, hx289_0, hl289_0, hi289_0⟩ := at_L6 HR0.out x5_1 p289 q289
              cases e289
              have HR289_0 := Aside0.mk hi289_0
              have HC289_0 := Aside0.mk hl289_0
              clear hi289_0 hl289_0
              replace p289 := eq_true p289
              replace q289 := eq_true q289
              go_wp2_with (first | ((with_reducible refine gate_callee (f := 91) rfl ?_); refine goesL_ (some 23) rfl rfl Try.func91 (by kernel_rfl) rfl #[.slice A289_0 (rd_L6 l0 x5_1).length c289_0, .int .i64 x1_1] rfl (by (try simp only [List.map_toArray, List.map_cons, List.map_nil]); first | done | rfl | (simp only [List.length_drop, List.length_take]; rfl)) ?_; (with_reducible refine (laws_szInt64S.calls _ _ (rd_L6 l0 x5_1) x1_1 t290 _ ?side1 ?side2 A6.out).mono ?_); (case side1 => repeat (first | exact HR289_0.out | (with_reducible refine Kd.C_alloc ?_ _) | (with_reducible refine Kd.C_drewN ?_ _) | (with_reducible refine Kd.C_drew ?_))); (case side2 => exact HC289_0.out); rintro e w' ⟨rfl, ⟨nd, rfl⟩⟩; refine ⟨_, rfl, ?_⟩))
              go_roundg k1
              case measure => have := HK1.out; omega
              case rel => exact ⟨(t290), (wrap64 (x5_1 + 1)), (by first | rfl | (simp; done) | (simp [*]; done)), (by first | rfl | (simp; done) | (simp [*]; done)), H', ⟨by have := HK1.out; omega⟩, by repeat (first | exact Drawn0.refl _ | apply Drawn0.step)⟩
          · rw [if_neg c5] at H
            exact absurd H (by simp)
        · rw [if_neg c4] at H
          have c4b0 : decide (x5_1 < (l0.length : Int)) = false := decide_eq_false c4
          clear c4
          obtain rfl := Option.some.inj H
          go_wp2
          go_ret
          exact ⟨by first | rfl | (simp; done) | (simp [*]; done), by repeat (first | exact Drawn0.refl _ | apply Drawn0.step)⟩

end Go.Proofs.Ytjnobnmjhpmpfaa.P

namespace Go.Proofs.Ytjnobnmjhpmpfaa.P
open Go.RowKit Go.Proofs.YtjnobnmjhpmpfaaW.PrintWords Go.Proofs.YtjnobnmjhpmpfaaW.PrintLast Go.Proofs.YtjnobnmjhpmpfaaW.PrintMore
attribute [local go_sem] max2_int min2_int max_two min_two max_three min_three max_four min_four
set_option linter.unusedVariables false
set_option linter.unusedSimpArgs false

/-! ### laws_toInt64SS: function 79 -/
def laws_toInt64SS.l0 : Nat → List (List Int) → List (List Int) → Int → Option ((List (List Int)))
  | 0, _, _, _ => none
  | k + 1, x0, x3, x4 => if x4 < (x0.length : Int) then (if 0 ≤ x4 then ((laws_toInt64S.f k (rd_L6 x0 x4)).bind fun t358 => (if x4 < (x3.length : Int) then (laws_toInt64SS.l0 k x0 (x3.set (x4 : Int).toNat t358) (wrap64 (x4 + 1))) else (none))) else (none)) else (some x3)
def laws_toInt64SS.f (k : Nat) (l0 : List (List Int)) : Option ((List (List Int))) := if 0 ≤ (l0.length : Int) then (if ((l0.length : Int) : Int).toNat ≤ 11728124029610 then (laws_toInt64SS.l0 k l0 (List.replicate ((l0.length : Int) : Int).toNat []) 0) else (none)) else (none)
theorem laws_toInt64SS.mono_l : ∀ k, (∀ y0 y1 y2, LeO (laws_toInt64SS.l0 k y0 y1 y2) (laws_toInt64SS.l0 (k + 1) y0 y1 y2))
  | 0 => fun _ _ _ r h => by simp [laws_toInt64SS.l0] at h
  | k + 1 => by
    have ih0 := laws_toInt64SS.mono_l k
    · intro y0 y1 y2
      unfold laws_toInt64SS.l0
      repeat' first
      | (with_reducible exact ih0 _ _ _)
      | (with_reducible exact laws_toInt64S.mono _ _)
      | (with_reducible exact LeO.refl _)
      | (with_reducible exact LeO.none _)
      | (with_reducible refine LeO.ite ?_ ?_)
      | (with_reducible refine LeO.bind ?_ (fun _ => ?_))
      | exact ih0 _ _ _
      | exact laws_toInt64S.mono _ _
      | exact LeO.none _
      | refine LeO.ite ?_ ?_
      | refine LeO.bind ?_ (fun _ => ?_)
theorem laws_toInt64SS.mono : ∀ a0 k, LeO (laws_toInt64SS.f k a0) (laws_toInt64SS.f (k + 1) a0) := by
  intro a0 k
  have ih0 := laws_toInt64SS.mono_l k
  unfold laws_toInt64SS.f
  repeat' first
      | (with_reducible exact ih0 _ _ _)
      | (with_reducible exact laws_toInt64S.mono _ _)
      | (with_reducible exact LeO.refl _)
      | (with_reducible exact LeO.none _)
      | (with_reducible refine LeO.ite ?_ ?_)
      | (with_reducible refine LeO.bind ?_ (fun _ => ?_))
      | exact ih0 _ _ _
      | exact laws_toInt64S.mono _ _
      | exact LeO.none _
      | refine LeO.ite ?_ ?_
      | refine LeO.bind ?_ (fun _ => ?_)
set_option maxHeartbeats 8000000 in
set_option maxRecDepth 100000 in
theorem laws_toInt64SS.calls (k : Nat) (A0 : Option Addr) (c0 : Nat) (l0 : List (List Int)) (r : List (List Int)) (w : World) (hr0 : Kd.C (Kd.slice 2 (Kd.int .i64)) w A0 l0.length l0) (hc0 : l0.length ≤ c0) (h : laws_toInt64SS.f k l0 = some r) :
    Calls Try.prog 79 #[.slice A0 l0.length c0] w fun e w' => ∃ v0_ : Value, e = .returned (v0_) ∧ Kd.S (Kd.slice 2 (Kd.int .i64)) 39 w' w.heap.size (fun _ => True) v0_ r ∧ Below w.heap.size w w' := by
  have HR0 := Aside0.mk hr0
  have HC0 := Aside0.mk hc0
  clear hr0 hc0
  have HB := Aside0.mk (Below.refl w.heap.size w)
  have H : (if 0 ≤ (l0.length : Int) then (if ((l0.length : Int) : Int).toNat ≤ 11728124029610 then (laws_toInt64SS.l0 k l0 (List.replicate ((l0.length : Int) : Int).toNat []) 0) else (none)) else (none)) = some r := h
  clear h
  by_cases c2 : 0 ≤ (l0.length : Int)
  · rw [if_pos c2] at H
    have c2b0 := eq_true c2
    have c2b1 : decide (0 ≤ (l0.length : Int)) = true := decide_eq_true c2
    clear c2
    by_cases c3 : ((l0.length : Int) : Int).toNat ≤ 11728124029610
    · rw [if_pos c3] at H
      have c3b0 := eq_true c3
      have c3b1 : decide (((l0.length : Int) : Int).toNat ≤ 11728124029610) = true := decide_eq_true c3
      clear c3
      obtain ⟨y354, hy354⟩ : ∃ y_ : List (List Int), y_ = (List.replicate ((l0.length : Int) : Int).toNat []) := ⟨_, rfl⟩
      replace H : (laws_toInt64SS.l0 k l0 y354 0) = some r := by first | (rw [hy354]; with_reducible exact H) | (have H2_ := (Option.bind_some _ _).symm.trans H; rw [hy354]; with_reducible exact H2_) | (have H2_ := (Option.bind_some _ _).symm.trans H; with_reducible exact H2_) | with_reducible exact H | (rw [hy354]; exact H) | exact H
      have Ny354 := Aside0.mk hy354
      clear hy354
      have H' := Aside0.mk H
      clear H
      go_enter Try.func79, Try.ntmps79
      go_wp2_with (first | ((with_reducible refine gate_dst (N := 7) rfl ?_); refine Kd.S_make (Kd.slice 2 (Kd.int .i64)) _ 39 rfl (N := 7) rfl 48 _ _ rfl (l0.length : Int) rfl rfl Try.underlying48 (.slice none 0 0) 24 info39 rfl (by decide) (by omega) [] (ok := fun _ => True) (okp := fun _ => True) ⟨_, rfl, Kd.R_nil _ _ _ _ _⟩ (fun _ hk => hk) trivial (of_decide_eq_true (by first | (with_reducible assumption) | assumption)) (Nat.le_trans (Nat.mul_le_mul_right _ (of_decide_eq_true (by first | (with_reducible assumption) | assumption) : (l0.length : Int).toNat ≤ 11728124029610)) (by omega)) (Below.refl _ _) (Nat.le_refl _) ?_; intro v355 w4 ho5 hb hg_ hnew_; clear hg_ hnew_; (first | rw [← Ny354.out] at ho5 | (simp only [Int.reduceToNat] at ho5; rw [← Ny354.out] at ho5)); have n0_ := Aside0.mk (Kd.S_lower ho5 (below_size (by repeat (first | (with_reducible first | exact HB.out | apply below_alloc | apply pw_below_drewN | apply below_drew1) | exact HB.out)))); have n1_ := Aside0.mk (below_step (by repeat (first | (with_reducible first | exact HB.out | apply below_alloc | apply pw_below_drewN | apply below_drew1) | exact HB.out)) hb); clear HB; have HO356 := n0_; have HB := n1_; clear n0_ n1_; clear hb ho5))
      go_loopg [4] k (fun kq v4 w' => ∃ (x3_1 : List (List Int)) (x4_1 : Int), v4 = .int .i64 x4_1 ∧ Aside0 (laws_toInt64SS.l0 kq l0 x3_1 x4_1 = some r) ∧ Aside0 (kq ≤ k) ∧ Aside0 (Kd.S (Kd.slice 2 (Kd.int .i64)) 39 w' w.heap.size (fun _ => True) v355 x3_1) ∧ Aside0 (Below w.heap.size w w'))
      case atStart => exact ⟨(y354), (0), (by first | rfl | (simp; done) | (simp [*]; done)), H', ⟨Nat.le_refl _⟩, ⟨by (with_reducible repeat (first | apply Kd.S_alloc | apply Kd.S_drewN | apply Kd.S_drew)); exact HO356.out⟩, ⟨by repeat (first | (with_reducible first | exact HB.out | apply below_alloc | apply pw_below_drewN | apply below_drew1) | exact HB.out)⟩⟩
      case round =>
        clear H'
        try clear c2
        try clear c2b0
        try clear c2b1
        try clear p2
        try clear c3
        try clear c3b0
        try clear c3b1
        obtain ⟨x3_1, x4_1, rfl, HA, HK1, HO_3, HB⟩ := hrel
        cases gk with
        | zero => exact absurd HA.out (by simp [laws_toInt64SS.l0])
        | succ k1 =>
          have H := HA.out
          clear HA
          simp only [laws_toInt64SS.l0] at H
          by_cases c6 : x4_1 < (l0.length : Int)
          · rw [if_pos c6] at H
            have c6b0 : decide (x4_1 < (l0.length : Int)) = true := decide_eq_true c6
            clear c6
            by_cases c7 : 0 ≤ x4_1
            · rw [if_pos c7] at H
              have c7b0 : decide (0 ≤ x4_1) = true := decide_eq_true c7
              clear c7
              replace H := Option.bind_eq_some_iff.mp H
              obtain ⟨t358, A80, H⟩ := H
              replace H : (if x4_1 < (x3_1.length : Int) then (laws_toInt64SS.l0 k1 l0 (x3_1.set (x4_1 : Int).toNat t358) (wrap64 (x4_1 + 1))) else (none)) = some r := H
              have A8 := Aside0.mk A80
              clear A80
              by_cases c9 : x4_1 < (x3_1.length : Int)
              · rw [if_pos c9] at H
                have c9b0 : decide (x4_1 < (x3_1.length : Int)) = true := decide_eq_true c9
                clear c9
                obtain ⟨y361, hy361⟩ : ∃ y_ : List (List Int), y_ = (x3_1.set (x4_1 : Int).toNat t358) := ⟨_, rfl⟩
                replace H : (laws_toInt64SS.l0 k1 l0 y361 (wrap64 (x4_1 + 1))) = some r := by first | (rw [hy361]; with_reducible exact H) | (have H2_ := (Option.bind_some _ _).symm.trans H; rw [hy361]; with_reducible exact H2_) | (have H2_ := (Option.bind_some _ _).symm.trans H; with_reducible exact H2_) | with_reducible exact H | (rw [hy361]; exact H) | exact H
                have Ny361 := Aside0.mk hy361
                clear hy361
                have H' := Aside0.mk H
                clear H
                have p357 : 0 ≤ (x4_1 : Int) := of_decide_eq_true (by first | (with_reducible assumption) | assumption)
                have q357 : x4_1 < (l0.length : Int) := of_decide_eq_true (by first | (with_reducible assumption) | assumption)
                obtain ⟨ad357, A357_0, c357_0, e357, hx357_0, hl357_0, hi357_0⟩ := at_L6 HR0.out x4_1 p357 q357
                cases e357
                replace hx357_0 := (HB.out.cell (World.block_lt_of_cell? w _ hx357_0)).trans hx357_0
                have HR357_0 := Aside0.mk hi357_0
                have HC357_0 := Aside0.mk hl357_0
                clear hi357_0 hl357_0
                replace p357 := eq_true p357
                replace q357 := eq_true q357
                go_wp2_with (first | ((with_reducible refine gate_callee (f := 31) rfl ?_); refine goesL_ (some 20) rfl rfl Try.func31 (by kernel_rfl) rfl #[.slice A357_0 (rd_L6 l0 x4_1).length c357_0] rfl (by (try simp only [List.map_toArray, List.map_cons, List.map_nil]); first | done | rfl | (simp only [List.length_drop, List.length_take]; rfl)) ?_; (with_reducible refine (laws_toInt64S.calls k1 _ _ (rd_L6 l0 x4_1) t358 _ ?side1 ?side2 A8.out).mono ?_); (case side1 => repeat (first | exact (Kd.C_below HR357_0.out HB.out) | (with_reducible refine Kd.C_alloc ?_ _) | (with_reducible refine Kd.C_drewN ?_ _) | (with_reducible refine Kd.C_drew ?_))); (case side2 => exact HC357_0.out); rintro e w11 ⟨v359, rfl, ho0, hb⟩; refine ⟨_, rfl, ?_⟩; have n0_ := Aside0.mk (Kd.S_elder' (by (with_reducible repeat (first | apply Kd.S_alloc | apply Kd.S_drewN | apply Kd.S_drew)); exact HO_3.out) (Kd.R_base ho0) hb); have n1_ := Aside0.mk (Kd.R_lower ho0 (below_size (by repeat (first | (with_reducible first | exact HB.out | apply below_alloc | apply pw_below_drewN | apply below_drew1) | exact HB.out)))); have n2_ := Aside0.mk (below_step (by repeat (first | (with_reducible first | exact HB.out | apply below_alloc | apply pw_below_drewN | apply below_drew1) | exact HB.out)) hb); clear HO_3; clear HB; have HO_3 := n0_; have HO360 := n1_; have HB := n2_; clear n0_ n1_ n2_; (try clear hb); (try clear hb2); (try clear hk); (try clear hi); (try clear ho0); have p10 : 0 ≤ (x4_1 : Int) := of_decide_eq_true (by first | (with_reducible assumption) | assumption); have q10 : (x4_1 : Int) < ((x3_1.length : Int) : Int) := of_decide_eq_true (by first | (with_reducible assumption) | assumption); obtain ⟨go10, co10, eo10, gb10, gl10, cl10, HG10⟩ := Kd.S_form HO_3.out (by omega); (first | cases eo10 | (injection eo10 with ea_ en_ ec_; (first | subst ea_ | (injection ea_ with ea_; subst ea_)); subst ec_; clear en_)); have GB10 := Aside0.mk gb10; have GG10 := Aside0.mk HG10; clear gb10 gl10 HG10; obtain ⟨_, ce10, hcl10, hM10, hcc10, hfr10, _, _⟩ := Kd.S_elem HO_3.out [] (x4_1 : Int) p10 q10; obtain ⟨ve10_0, rfl, ge10_0⟩ := hM10; have hx10_0 := hcc10 0 _ rfl; have hf10_0 := hfr10 0; (try simp only [show ((Kd.slice 2 (Kd.int .i64))).sz = 1 from rfl, Nat.mul_one, Nat.add_zero] at hx10_0); (try simp only [show ((Kd.slice 2 (Kd.int .i64))).sz = 1 from rfl, Nat.mul_one, Nat.add_zero] at hf10_0); (try clear hM10); clear hcl10 hcc10 hfr10 ; replace p10 := eq_true p10; replace q10 := eq_true q10; have n_ := Aside0.mk (Kd.S_mono (ok' := (fun k_ => some k_ ≠ (v359 : Value).ownBlock)) HO_3.out (fun k_ hk => hk.2)); clear HO_3; have HO_3 := n_; clear n_; have HX12 := Aside0.mk (show Kd.S (Kd.slice 2 (Kd.int .i64)) 39 w11 w.heap.size (fun k_ => ((fun _ => True)) k_ ∧ ¬ ((fun k_ => some k_ = (v359 : Value).ownBlock)) k_) (.slice (some ⟨go10, 0, none⟩) x3_1.length co10) x3_1 from (by (with_reducible repeat (first | apply Kd.S_alloc | apply Kd.S_drewN | apply Kd.S_drew)); exact Kd.S_mono HO_3.out (fun k_ hk => ⟨trivial, fun e_ => hk e_⟩))); obtain ⟨oki12, ce12, hcl12, hM12, hcc12, hfr12, hoki12, hH12⟩ := Kd.S_elem HX12.out [] (x4_1 : Int) (of_decide_eq_true (by first | (with_reducible assumption) | assumption)) (by have h_ : (x4_1 : Int) < ((x3_1.length : Int) : Int) := of_decide_eq_true (by first | (with_reducible assumption) | assumption); first | exact h_ | (have e_ := (Kd.S_reads' HO_3.out).1; omega) | simpa using h_); obtain ⟨ve12_0, rfl, ge12_0⟩ := hM12; have HP12 := Kd.S_seg hH12 (of_decide_eq_true (by first | (with_reducible assumption) | assumption)) (by have h_ : (x4_1 : Int) < ((x3_1.length : Int) : Int) := of_decide_eq_true (by first | (with_reducible assumption) | assumption); first | exact h_ | (have e_ := (Kd.S_reads' HO_3.out).1; omega) | simpa using h_) (seg := [v359]) (j := 0) (show 1 ≤ 1 from by decide) (x' := t358) (Kd.M_row (Kd.R_mono (Kd.R_tight rfl (Kd.R_mono (ok' := fun k_ => ((fun _ => True)) k_ ∧ k_ ≠ go10) (Kd.R_apart' (HO360.out) (Kd.S_typed HO_3.out) (by decide)) (fun k_ hk => ⟨trivial, fun e_ => (hk.2) (by rw [e_]; rfl)⟩))) (fun _ h_ => Or.inr (h_)))) (fun _ hk => hk) (fun k_ hk_ => ((Kd.R_mono (ok' := fun k_ => ((fun _ => True)) k_ ∧ k_ ≠ go10) (Kd.R_apart' (HO360.out) (Kd.S_typed HO_3.out) (by decide)) (fun k_ hk => ⟨trivial, fun e_ => (hk.2) (by rw [e_]; rfl)⟩))).1 k_ hk_.symm); have hx12_0 := hcc12 0 _ rfl; (try simp only [show ((Kd.slice 2 (Kd.int .i64))).sz = 1 from rfl, Nat.mul_one, Nat.add_zero] at hx12_0); have hf12_0 := hfr12 0; (try simp only [show ((Kd.slice 2 (Kd.int .i64))).sz = 1 from rfl, Nat.mul_one, Nat.add_zero] at hf12_0); (try clear hM12); clear hcl12 hcc12 hfr12  hoki12 hH12; (try simp only [show ((Kd.slice 2 (Kd.int .i64))).sz = 1 from rfl, Nat.mul_one, Nat.add_zero] at HP12)) | ((with_reducible refine gate_store (t := 39) (p := 21) rfl ?_); refine store_event (t := 39) (p := 21) (v := ?vo_w13) (w1 := (w11.setCell ⟨go10, (x4_1 : Int).toNat, none⟩ (v359))) ?hg ?ho ?hn ?hr ?_; (case ho => rfl); (case hg => rfl); (case hn => rfl); (case hr => (first | (obtain ⟨_, _, ev_⟩ := Kd.R_slice HO360.out; subst ev_) | (obtain ⟨_, _, ev_⟩ := Kd.S_slice HO360.out; subst ev_)); first | (go_simp; done) | (go_simp; rfl)); intro w13 hw; have hg : w11.grownBy w13 (some go10) := (by rw [hw]; exact HP12.2); have hp_ : Kd.S (Kd.slice 2 (Kd.int .i64)) 39 w13 w.heap.size (fun _ => True) (.slice (some ⟨go10, 0, none⟩) x3_1.length co10) y361 := (by rw [hw, Ny361.out]; exact HP12.1); clear HP12; have n0_ := Aside0.mk (hp_); have n1_ := Aside0.mk ((by rw [hw]; exact below_set (HB.out) GB10.out : Below w.heap.size w w13)); clear HO_3; clear HB; clear HO360; have HO_3 := n0_; have HB := n1_; clear n0_ n1_; clear hg hw hp_))
                go_roundg k1
                case measure => have := HK1.out; omega
                case rel => exact ⟨(y361), (wrap64 (x4_1 + 1)), (by first | rfl | (simp; done) | (simp [*]; done)), H', ⟨by have := HK1.out; omega⟩, ⟨by (with_reducible repeat (first | apply Kd.S_alloc | apply Kd.S_drewN | apply Kd.S_drew)); exact HO_3.out⟩, ⟨by repeat (first | (with_reducible first | exact HB.out | apply below_alloc | apply pw_below_drewN | apply below_drew1) | exact HB.out)⟩⟩
              · rw [if_neg c9] at H
                exact absurd H (by simp)
            · rw [if_neg c7] at H
              exact absurd H (by simp)
          · rw [if_neg c6] at H
            have c6b0 : decide (x4_1 < (l0.length : Int)) = false := decide_eq_false c6
            clear c6
            obtain rfl := Option.some.inj H
            go_wp2
            go_ret
            exact ⟨_, by first | rfl | (simp [errW_none, errW_some] <;> rfl) | (simp [*, errW_none, errW_some] <;> rfl), by (with_reducible repeat (first | apply Kd.S_alloc | apply Kd.S_drewN | apply Kd.S_drew)); exact HO_3.out, by repeat (first | (with_reducible first | exact HB.out | apply below_alloc | apply pw_below_drewN | apply below_drew1) | exact HB.out)⟩
    · rw [if_neg c3] at H
      exact absurd H (by simp)
  · rw [if_neg c2] at H
    exact absurd H (by simp)

end Go.Proofs.Ytjnobnmjhpmpfaa.P
