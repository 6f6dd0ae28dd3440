/- For all arguments the program's LeavesOf and the reference's answer alike, the argument stays, and the result is memory of its own. This text: the theorem of the row, and part 3 of what it rests on. -/
import Derived.Test.YtjnobnmjhpmpfaaCFnExactLeavesOfb
import Derived.Below
import Derived.Carry
import Derived.ChangeOld
import Derived.OpenShut
import Derived.ProofKit
import Derived.ShutString
import Derived.SizedLaws
import Derived.Test.YtjnobnmjhpmpfaaRows
import Derived.WalkKit
namespace Go.Proofs.Ytjnobnmjhpmpfaa.P
open Go.RowKit Go.Proofs.YtjnobnmjhpmpfaaW.PrintWords Go.Proofs.YtjnobnmjhpmpfaaW.PrintLast Go.Proofs.YtjnobnmjhpmpfaaW.PrintMore
attribute [local go_sem] max2_int min2_int max_two min_two max_three min_three max_four min_four
set_option linter.unusedVariables false
set_option linter.unusedSimpArgs false

/-! ### laws_eqInt64SS: function 81 -/
def laws_eqInt64SS.l0 : Nat → List (List Int) → List (List Int) → Int → Option (Bool)
  | 0, _, _, _ => none
  | k + 1, x0, x1, x5 => if x5 < (x0.length : Int) then (if 0 ≤ x5 then (if x5 < (x1.length : Int) then ((laws_eqInt64S.f k (rd_L6 x0 x5) (rd_L6 x1 x5)).bind fun t409 => (if t409 = true then (laws_eqInt64SS.l0 k x0 x1 (wrap64 (x5 + 1))) else (some false))) else (none)) else (none)) else (some true)
def laws_eqInt64SS.f (k : Nat) (l0 : List (List Int)) (l1 : List (List Int)) : Option (Bool) := if (l0.length : Int) = (l1.length : Int) then (laws_eqInt64SS.l0 k l0 l1 0) else (some false)
theorem laws_eqInt64SS.mono_l : ∀ k, (∀ y0 y1 y2, LeO (laws_eqInt64SS.l0 k y0 y1 y2) (laws_eqInt64SS.l0 (k + 1) y0 y1 y2))
  | 0 => fun _ _ _ r h => by simp [laws_eqInt64SS.l0] at h
  | k + 1 => by
    have ih0 := laws_eqInt64SS.mono_l k
    · intro y0 y1 y2
      unfold laws_eqInt64SS.l0
      repeat' first
      | (with_reducible exact ih0 _ _ _)
      | (with_reducible exact laws_eqInt64S.mono _ _ _)
      | (with_reducible exact LeO.refl _)
      | (with_reducible exact LeO.none _)
      | (with_reducible refine LeO.ite ?_ ?_)
      | (with_reducible refine LeO.bind ?_ (fun _ => ?_))
      | exact ih0 _ _ _
      | exact laws_eqInt64S.mono _ _ _
      | exact LeO.none _
      | refine LeO.ite ?_ ?_
      | refine LeO.bind ?_ (fun _ => ?_)
theorem laws_eqInt64SS.mono : ∀ a0 a1 k, LeO (laws_eqInt64SS.f k a0 a1) (laws_eqInt64SS.f (k + 1) a0 a1) := by
  intro a0 a1 k
  have ih0 := laws_eqInt64SS.mono_l k
  unfold laws_eqInt64SS.f
  repeat' first
      | (with_reducible exact ih0 _ _ _)
      | (with_reducible exact laws_eqInt64S.mono _ _ _)
      | (with_reducible exact LeO.refl _)
      | (with_reducible exact LeO.none _)
      | (with_reducible refine LeO.ite ?_ ?_)
      | (with_reducible refine LeO.bind ?_ (fun _ => ?_))
      | exact ih0 _ _ _
      | exact laws_eqInt64S.mono _ _ _
      | exact LeO.none _
      | refine LeO.ite ?_ ?_
      | refine LeO.bind ?_ (fun _ => ?_)
set_option maxHeartbeats 8000000 in
set_option maxRecDepth 100000 in
theorem laws_eqInt64SS.calls (k : Nat) (A0 : Option Addr) (c0 : Nat) (l0 : List (List Int)) (A1 : Option Addr) (c1 : Nat) (l1 : List (List Int)) (r : Bool) (w : World) (hr0 : Kd.C (Kd.slice 2 (Kd.int .i64)) w A0 l0.length l0) (hc0 : l0.length ≤ c0) (hr1 : Kd.C (Kd.slice 2 (Kd.int .i64)) w A1 l1.length l1) (hc1 : l1.length ≤ c1) (h : laws_eqInt64SS.f k l0 l1 = some r) :
    Calls Try.prog 81 #[.slice A0 l0.length c0, .slice A1 l1.length c1] w fun e w' => e = .returned (.bool r) ∧ Drawn0 w w' := by
  have HR0 := Aside0.mk hr0
  have HC0 := Aside0.mk hc0
  clear hr0 hc0
  have HR1 := Aside0.mk hr1
  have HC1 := Aside0.mk hc1
  clear hr1 hc1
  have H : (if (l0.length : Int) = (l1.length : Int) then (laws_eqInt64SS.l0 k l0 l1 0) else (some false)) = some r := h
  clear h
  by_cases c3 : (l0.length : Int) = (l1.length : Int)
  · rw [if_pos c3] at H
    have c3b0 : ((l0.length : Int) == (l1.length : Int)) = true := beq_iff_eq.mpr c3
    have c3b1 : ((l0.length : Int) != (l1.length : Int)) = false := bne_eq_false_iff_eq.mpr c3
    have c3b2 : (l0.length == l1.length) = true := by first | simpa using c3 | (simp at c3 ⊢; omega)
    clear c3
    have H' := Aside0.mk H
    clear H
    go_enter Try.func81, Try.ntmps81
    go_wp2
    repeat (go_quiet (fail); try go_wp2)
    go_loopg [5] k (fun kq v5 w' => ∃ (x5_1 : Int), v5 = .int .i64 x5_1 ∧ Aside0 (laws_eqInt64SS.l0 kq l0 l1 x5_1 = some r) ∧ Aside0 (kq ≤ k) ∧ Drawn0 w w')
    case atStart => exact ⟨(0), (by first | rfl | (simp; done) | (simp [*]; done)), H', ⟨Nat.le_refl _⟩, by repeat (first | exact Drawn0.refl _ | apply Drawn0.step)⟩
    case round =>
      clear H'
      try clear c1
      try clear p2
      try clear c3
      try clear c3b0
      try clear c3b1
      try clear c3b2
      obtain ⟨x5_1, rfl, HA, HK1, ⟨m1, rfl⟩⟩ := hrel
      cases gk with
      | zero => exact absurd HA.out (by simp [laws_eqInt64SS.l0])
      | succ k1 =>
        have H := HA.out
        clear HA
        simp only [laws_eqInt64SS.l0] at H
        by_cases c4 : x5_1 < (l0.length : Int)
        · rw [if_pos c4] at H
          have c4b0 : decide (x5_1 < (l0.length : Int)) = true := decide_eq_true c4
          clear c4
          by_cases c5 : 0 ≤ x5_1
          · rw [if_pos c5] at H
            have c5b0 : decide (0 ≤ x5_1) = true := decide_eq_true c5
            clear c5
            by_cases c6 : x5_1 < (l1.length : Int)
            · rw [if_pos c6] at H
              have c6b0 : decide (x5_1 < (l1.length : Int)) = true := decide_eq_true c6
              clear c6
              replace H := Option.bind_eq_some_iff.mp H
              obtain ⟨t409, A70, H⟩ := H
              replace H : (if t409 = true then (laws_eqInt64SS.l0 k1 l0 l1 (wrap64 (x5_1 + 1))) else (some false)) = some r := H
              have A7 := Aside0.mk A70
              clear A70
              by_cases c8 : t409 = true
              · subst c8
                have H1 : (laws_eqInt64SS.l0 k1 l0 l1 (wrap64 (x5_1 + 1))) = some r := by rw [if_pos rfl] at H; exact H
                clear H
                have H := H1
                clear H1
                have H' := Aside0.mk H
                clear H
                have p407 : 0 ≤ (x5_1 : Int) := of_decide_eq_true (by first | (with_reducible assumption) | assumption)
                have q407 : x5_1 < (l0.length : Int) := of_decide_eq_true (by first | (with_reducible assumption) | assumption)
                obtain ⟨ad407, A407_0, c407_0, e407, hx407_0, hl407_0, hi407_0⟩ := at_L6 HR0.out x5_1 p407 q407
                cases e407
                have HR407_0 := Aside0.mk hi407_0
                have HC407_0 := Aside0.mk hl407_0
                clear hi407_0 hl407_0
                replace p407 := eq_true p407
                replace q407 := eq_true q407
                have p408 : 0 ≤ (x5_1 : Int) := of_decide_eq_true (by first | (with_reducible assumption) | assumption)
                have q408 : x5_1 < (l1.length : Int) := of_decide_eq_true (by first | (with_reducible assumption) | assumption)
                obtain ⟨ad408, A408_0, c408_0, e408, hx408_0, hl408_0, hi408_0⟩ := at_L6 HR1.out x5_1 p408 q408
                cases e408
                have HR408_0 := Aside0.mk hi408_0
                have HC408_0 := Aside0.mk hl408_0
                clear hi408_0 hl408_0
                replace p408 := eq_true p408
                replace q408 := eq_true q408
                go_wp2_with (first | (go_at_call 27; (with_reducible refine (laws_eqInt64S.calls k1 _ _ (rd_L6 l0 x5_1) _ _ (rd_L6 l1 x5_1) true _ ?side1 ?side2 ?side3 ?side4 A7.out).mono ?_); (case side1 => repeat (first | exact HR407_0.out | (with_reducible refine Kd.C_alloc ?_ _) | (with_reducible refine Kd.C_drewN ?_ _) | (with_reducible refine Kd.C_drew ?_))); (case side2 => exact HC407_0.out); (case side3 => repeat (first | exact HR408_0.out | (with_reducible refine Kd.C_alloc ?_ _) | (with_reducible refine Kd.C_drewN ?_ _) | (with_reducible refine Kd.C_drew ?_))); (case side4 => exact HC408_0.out); rintro e w' ⟨rfl, ⟨nd, rfl⟩⟩; (try first | exact ⟨rfl, _, World.drewN_drewN _ _ _⟩ | exact ⟨rfl, _, Eq.trans (World.drewN_drewN _ _ _) (congrArg (World.drewN _) (Nat.add_assoc _ _ _))⟩)))
                repeat (go_quiet (first | (go_at_call 27; (with_reducible refine (laws_eqInt64S.calls k1 _ _ (rd_L6 l0 x5_1) _ _ (rd_L6 l1 x5_1) true _ ?side1 ?side2 ?side3 ?side4 A7.out).mono ?_); (case side1 => repeat (first | exact HR407_0.out | (with_reducible refine Kd.C_alloc ?_ _) | (with_reducible refine Kd.C_drewN ?_ _) | (with_reducible refine Kd.C_drew ?_))); (case side2 => exact HC407_0.out); (case side3 => repeat (first | exact HR408_0.out | (with_reducible refine Kd.C_alloc ?_ _) | (with_reducible refine Kd.C_drewN ?_ _) | (with_reducible refine Kd.C_drew ?_))); (case side4 => exact HC408_0.out); rintro e w' ⟨rfl, ⟨nd, rfl⟩⟩; (try first | exact ⟨rfl, _, World.drewN_drewN _ _ _⟩ | exact ⟨rfl, _, Eq.trans (World.drewN_drewN _ _ _) (congrArg (World.drewN _) (Nat.add_assoc _ _ _))⟩))); try go_wp2_with (first | (go_at_call 27; (with_reducible refine (laws_eqInt64S.calls k1 _ _ (rd_L6 l0 x5_1) _ _ (rd_L6 l1 x5_1) true _ ?side1 ?side2 ?side3 ?side4 A7.out).mono ?_); (case side1 => repeat (first | exact HR407_0.out | (with_reducible refine Kd.C_alloc ?_ _) | (with_reducible refine Kd.C_drewN ?_ _) | (with_reducible refine Kd.C_drew ?_))); (case side2 => exact HC407_0.out); (case side3 => repeat (first | exact HR408_0.out | (with_reducible refine Kd.C_alloc ?_ _) | (with_reducible refine Kd.C_drewN ?_ _) | (with_reducible refine Kd.C_drew ?_))); (case side4 => exact HC408_0.out); rintro e w' ⟨rfl, ⟨nd, rfl⟩⟩; (try first | exact ⟨rfl, _, World.drewN_drewN _ _ _⟩ | exact ⟨rfl, _, Eq.trans (World.drewN_drewN _ _ _) (congrArg (World.drewN _) (Nat.add_assoc _ _ _))⟩))))
                go_roundg k1
                case measure => have := HK1.out; omega
                case rel => exact ⟨(wrap64 (x5_1 + 1)), (by first | rfl | (simp; done) | (simp [*]; done)), H', ⟨by have := HK1.out; omega⟩, by repeat (first | exact Drawn0.refl _ | apply Drawn0.step)⟩
              · replace c8 := Bool.eq_false_iff.mpr c8
                subst c8
                have H1 : (some false) = some r := by rw [if_neg (show ¬ (false = true) by decide)] at H; exact H
                clear H
                have H := H1
                clear H1
                obtain rfl := Option.some.inj H
                have p407 : 0 ≤ (x5_1 : Int) := of_decide_eq_true (by first | (with_reducible assumption) | assumption)
                have q407 : x5_1 < (l0.length : Int) := of_decide_eq_true (by first | (with_reducible assumption) | assumption)
                obtain ⟨ad407, A407_0, c407_0, e407, hx407_0, hl407_0, hi407_0⟩ := at_L6 HR0.out x5_1 p407 q407
                cases e407
                have HR407_0 := Aside0.mk hi407_0
                have HC407_0 := Aside0.mk hl407_0
                clear hi407_0 hl407_0
                replace p407 := eq_true p407
                replace q407 := eq_true q407
                have p408 : 0 ≤ (x5_1 : Int) := of_decide_eq_true (by first | (with_reducible assumption) | assumption)
                have q408 : x5_1 < (l1.length : Int) := of_decide_eq_true (by first | (with_reducible assumption) | assumption)
                obtain ⟨ad408, A408_0, c408_0, e408, hx408_0, hl408_0, hi408_0⟩ := at_L6 HR1.out x5_1 p408 q408
                cases e408
                have HR408_0 := Aside0.mk hi408_0
                have HC408_0 := Aside0.mk hl408_0
                clear hi408_0 hl408_0
                replace p408 := eq_true p408
                replace q408 := eq_true q408
                go_wp2_with (first | (go_at_call 27; (with_reducible refine (laws_eqInt64S.calls k1 _ _ (rd_L6 l0 x5_1) _ _ (rd_L6 l1 x5_1) false _ ?side1 ?side2 ?side3 ?side4 A7.out).mono ?_); (case side1 => repeat (first | exact HR407_0.out | (with_reducible refine Kd.C_alloc ?_ _) | (with_reducible refine Kd.C_drewN ?_ _) | (with_reducible refine Kd.C_drew ?_))); (case side2 => exact HC407_0.out); (case side3 => repeat (first | exact HR408_0.out | (with_reducible refine Kd.C_alloc ?_ _) | (with_reducible refine Kd.C_drewN ?_ _) | (with_reducible refine Kd.C_drew ?_))); (case side4 => exact HC408_0.out); rintro e w' ⟨rfl, ⟨nd, rfl⟩⟩; (try first | exact ⟨rfl, _, World.drewN_drewN _ _ _⟩ | exact ⟨rfl, _, Eq.trans (World.drewN_drewN _ _ _) (congrArg (World.drewN _) (Nat.add_assoc _ _ _))⟩)))
                repeat (go_quiet (first | (go_at_call 27; (with_reducible refine (laws_eqInt64S.calls k1 _ _ (rd_L6 l0 x5_1) _ _ (rd_L6 l1 x5_1) false _ ?side1 ?side2 ?side3 ?side4 A7.out).mono ?_); (case side1 => repeat (first | exact HR407_0.out | (with_reducible refine Kd.C_alloc ?_ _) | (with_reducible refine Kd.C_drewN ?_ _) | (with_reducible refine Kd.C_drew ?_))); (case side2 => exact HC407_0.out); (case side3 => repeat (first | exact HR408_0.out | (with_reducible refine Kd.C_alloc ?_ _) | (with_reducible refine Kd.C_drewN ?_ _) | (with_reducible refine Kd.C_drew ?_))); (case side4 => exact HC408_0.out); rintro e w' ⟨rfl, ⟨nd, rfl⟩⟩; (try first | exact ⟨rfl, _, World.drewN_drewN _ _ _⟩ | exact ⟨rfl, _, Eq.trans (World.drewN_drewN _ _ _) (congrArg (World.drewN _) (Nat.add_assoc _ _ _))⟩))); try go_wp2_with (first | (go_at_call 27; (with_reducible refine (laws_eqInt64S.calls k1 _ _ (rd_L6 l0 x5_1) _ _ (rd_L6 l1 x5_1) false _ ?side1 ?side2 ?side3 ?side4 A7.out).mono ?_); (case side1 => repeat (first | exact HR407_0.out | (with_reducible refine Kd.C_alloc ?_ _) | (with_reducible refine Kd.C_drewN ?_ _) | (with_reducible refine Kd.C_drew ?_))); (case side2 => exact HC407_0.out); (case side3 => repeat (first | exact HR408_0.out | (with_reducible refine Kd.C_alloc ?_ _) | (with_reducible refine Kd.C_drewN ?_ _) | (with_reducible refine Kd.C_drew ?_))); (case side4 => exact HC408_0.out); rintro e w' ⟨rfl, ⟨nd, rfl⟩⟩; (try first | exact ⟨rfl, _, World.drewN_drewN _ _ _⟩ | exact ⟨rfl, _, Eq.trans (World.drewN_drewN _ _ _) (congrArg (World.drewN _) (Nat.add_assoc _ _ _))⟩))))
                go_ret
                exact ⟨by first | rfl | (simp; done) | (simp [*]; done), by repeat (first | exact Drawn0.refl _ | apply Drawn0.step)⟩
            · rw [if_neg c6] at H
              exact absurd H (by simp)
          · rw [if_neg c5] at H
            exact absurd H (by simp)
        · rw [if_neg c4] at H
          have c4b0 : decide (x5_1 < (l0.length : Int)) = false := decide_eq_false c4
          clear c4
          obtain rfl := Option.some.inj H
          go_wp2
          repeat (go_quiet (fail); try go_wp2)
          go_ret
          exact ⟨by first | rfl | (simp; done) | (simp [*]; done), by repeat (first | exact Drawn0.refl _ | apply Drawn0.step)⟩
  · rw [if_neg c3] at H
    have c3b0 : ((l0.length : Int) == (l1.length : Int)) = false := beq_eq_false_iff_ne.mpr c3
    have c3b1 : ((l0.length : Int) != (l1.length : Int)) = true := bne_iff_ne.mpr c3
    have c3b2 : (l0.length == l1.length) = false := by first | simpa using c3 | (simp at c3 ⊢; omega)
    obtain rfl := Option.some.inj H
    go_enter Try.func81, Try.ntmps81
    go_wp2
    repeat (go_quiet (fail); try go_wp2)
    go_ret
    exact ⟨by first | rfl | (simp; done) | (simp [*]; done), by repeat (first | exact Drawn0.refl _ | apply Drawn0.step)⟩

end Go.Proofs.Ytjnobnmjhpmpfaa.P

namespace Go.Proofs.Ytjnobnmjhpmpfaa.P
open Go.RowKit Go.Proofs.YtjnobnmjhpmpfaaW.PrintWords Go.Proofs.YtjnobnmjhpmpfaaW.PrintLast Go.Proofs.YtjnobnmjhpmpfaaW.PrintMore
attribute [local go_sem] max2_int min2_int max_two min_two max_three min_three max_four min_four
set_option linter.unusedVariables false
set_option linter.unusedSimpArgs false

/-- A loop that goes on while q says yes, and ends with stop where it says no. -/
theorem scan_ev {ρ : Type} {l : Nat → Int → Option ρ} {n : Nat} {q : Nat → Bool} {fin stop : ρ}
    (hgo : ∀ i : Nat, i < n → q i = true → ∀ r, Ev (fun k => l k ((i + 1 : Nat) : Int)) r → Ev (fun k => l k (i : Int)) r)
    (hstop : ∀ i : Nat, i < n → q i = false → Ev (fun k => l k (i : Int)) stop)
    (hend : Ev (fun k => l k (n : Int)) fin) : Ev (fun k => l k 0) (if (List.range n).all q then fin else stop) := by
  have key : ∀ d i : Nat, i + d = n → Ev (fun k => l k (i : Int)) (if ((List.range n).drop i).all q then fin else stop) := by
    intro d
    induction d with
    | zero =>
      intro i hi
      obtain rfl : i = n := by omega
      rw [List.drop_eq_nil_of_le (by simp)]
      exact hend
    | succ d ih =>
      intro i hi
      rw [List.drop_eq_getElem_cons (by simp; omega), List.getElem_range, List.all_cons]
      cases hq : q i with
      | false => exact hstop i (by omega) hq
      | true => rw [Bool.true_and]; exact hgo i (by omega) hq _ (ih (i + 1) (by omega))
  have := key n 0 (by omega)
  rw [List.drop_zero] at this
  exact this
theorem range_all {α : Type} (xs : List α) (p : α → Bool) (q : Nat → Bool) (h : ∀ (i : Nat) (hi : i < xs.length), q i = p xs[i]) : (List.range xs.length).all q = xs.all p := by
  rw [Bool.eq_iff_iff, List.all_eq_true, List.all_eq_true]
  constructor
  · intro hq x hx
    obtain ⟨i, hi, rfl⟩ := List.getElem_of_mem hx
    rw [← h i hi]
    exact hq i (by simpa using hi)
  · intro hp i hi
    have hi' : i < xs.length := by simpa using hi
    rw [h i hi']
    exact hp _ (List.getElem_mem hi')
theorem rdL_nat (xs : List (List Int)) (i : Nat) (h : i < xs.length) : rd_L6 xs (i : Int) = xs[i] := by
  simp [rd_L6, h]
/-- How many values a list of lists holds, the lists themselves counted. -/
def bulk (rows : List (List Int)) : Nat := rows.length + (rows.map List.length).sum
theorem sum_take_le (l : List Nat) (i : Nat) : (l.take i).sum ≤ l.sum := by
  conv => rhs; rw [← List.take_append_drop i l, List.sum_append]
  omega
theorem sum_take_succ (l : List Nat) (i : Nat) (h : i < l.length) : (l.take (i + 1)).sum = (l.take i).sum + l[i] := by
  rw [List.take_succ_eq_append_getElem h, List.sum_append]; simp
theorem sum_mem_le (l : List Nat) (x : Nat) (h : x ∈ l) : x ≤ l.sum := by
  obtain ⟨i, hi, rfl⟩ := List.getElem_of_mem h
  have := sum_take_succ l i hi
  have := sum_take_le l (i + 1)
  omega
theorem szInt64S_eq (l : List Int) (a : Int) (ha : 0 ≤ a ∧ a ≤ 1048576) (hl : l.length ≤ 9223372036854775807) : laws_szInt64S.f l a = some (if (l.length : Int) ≤ a then a - l.length else -1) := by
  unfold laws_szInt64S.f
  rw [wr (by omega) (by omega)]
  by_cases h : (l.length : Int) ≤ a
  · rw [if_neg (by omega), if_pos h]
  · rw [if_pos (by omega), if_neg h]
theorem szInt64SS_ev (rows : List (List Int)) (a : Int) (ha : 0 ≤ a ∧ a ≤ 1048576) (hl : rows.length ≤ 9223372036854775807) (hr : ∀ r ∈ rows, r.length ≤ 9223372036854775807) :
    Ev (fun k => laws_szInt64SS.f k rows a) (if (bulk rows : Int) ≤ a then a - bulk rows else -1) := by
  unfold laws_szInt64SS.f
  rw [wr (by omega) (by omega)]
  by_cases h0 : a - (rows.length : Int) < 0
  · simp only [if_pos h0]
    rw [if_neg (by unfold bulk; omega)]
    exact Ev.now _
  · simp only [if_neg h0]
    have key : ∀ d i : Nat, i + d = rows.length → ∀ b : Int, 0 ≤ b → b = a - rows.length - ((rows.map List.length).take i).sum → Ev (fun k => laws_szInt64SS.l0 k rows b (i : Int)) (if (bulk rows : Int) ≤ a then a - bulk rows else -1) := by
      intro d
      induction d with
      | zero =>
        intro i hi b hb hbe
        rw [List.take_of_length_le (by simp; omega)] at hbe
        rw [if_pos (by unfold bulk; omega), show a - ((bulk rows : Nat) : Int) = b from by unfold bulk; omega]
        refine Ev.step (f := fun _ => some b) (fun k => ?_) (Ev.now _)
        simp only [laws_szInt64SS.l0]
        rw [if_neg (by omega)]
      | succ d ih =>
        intro i hi b hb hbe
        have hlt : i < rows.length := by omega
        have hs := sum_take_succ (rows.map List.length) i (by simpa using hlt)
        rw [List.getElem_map] at hs
        have hs2 := sum_take_le (rows.map List.length) (i + 1)
        have hri := hr _ (List.getElem_mem hlt)
        by_cases hc : ((rows[i]).length : Int) ≤ b
        · refine Ev.step (fun k => ?_) (ih (i + 1) (by omega) (b - (rows[i]).length) (by omega) (by omega))
          simp only [laws_szInt64SS.l0]
          rw [if_pos (by omega), if_pos (by omega), rdL_nat rows i hlt, szInt64S_eq _ _ (by omega) hri, if_pos hc, wr (x := (i : Int) + 1) (by omega) (by omega)]
          simp only [Option.bind_some]
          rw [if_neg (by omega)]
          rfl
        · refine Ev.step (f := fun _ => some (-1)) (fun k => ?_) ?_
          · simp only [laws_szInt64SS.l0]
            rw [if_pos (by omega), if_pos (by omega), rdL_nat rows i hlt, szInt64S_eq _ _ (by omega) hri, if_neg hc]
            rfl
          · rw [if_neg (by unfold bulk; omega)]
            exact Ev.now _
    exact key rows.length 0 (by omega) _ (by omega) (by simp)
theorem bulk_len {rows : List (List Int)} {n : Nat} (h : bulk rows ≤ n) : rows.length ≤ n ∧ ∀ r ∈ rows, r.length ≤ n := by
  unfold bulk at h
  refine ⟨by omega, fun r hr => ?_⟩
  have := sum_mem_le (rows.map List.length) r.length (List.mem_map_of_mem hr)
  omega
theorem toInt64SS_ev (l : List (List Int)) (hl : l.length ≤ 1048576) (hr : ∀ r ∈ l, r.length ≤ 1048576) : Ev (fun k => laws_toInt64SS.f k l) l := by
  unfold laws_toInt64SS.f
  simp only [if_pos (show (0 : Int) ≤ (l.length : Int) by omega), if_pos (show ((l.length : Int)).toNat ≤ 11728124029610 by omega)]
  have go : ∀ (d i : Nat), i + d = l.length → Ev (fun k => laws_toInt64SS.l0 k l (l.take i ++ List.replicate d []) (i : Int)) l := by
    intro d
    induction d with
    | zero =>
      intro i hi
      refine Ev.step (f := fun _ => some l) (fun k => ?_) (Ev.now _)
      simp only [laws_toInt64SS.l0]
      rw [if_neg (by omega)]
      simp [List.take_of_length_le (show l.length ≤ i by omega)]
    | succ d ih =>
      intro i hi
      have hlt : i < l.length := by omega
      refine Ev.step (f := fun k => (laws_toInt64S.f k l[i]).bind fun t => laws_toInt64SS.l0 k l ((l.take i ++ List.replicate (d + 1) []).set i t) ((i + 1 : Nat) : Int)) (fun k => ?_) ?_
      · simp only [laws_toInt64SS.l0]
        rw [if_pos (by omega), if_pos (by omega), rdL_nat l i hlt, wr (by omega) (by omega)]
        simp only [if_pos (show (i : Int) < ((l.take i ++ List.replicate (d + 1) ([] : List Int)).length : Int) by simp; omega), Int.toNat_natCast]
        rfl
      · refine Ev.bind (toInt64S_ev _ (hr _ (List.getElem_mem hlt))) ?_
        have e0 : (l.take i).length = i := by rw [List.length_take]; omega
        have e : (l.take i ++ List.replicate (d + 1) []).set i l[i] = l.take (i + 1) ++ List.replicate d [] := by
          rw [List.set_append_right _ _ (by omega), e0, Nat.sub_self, List.replicate_succ, List.set_cons_zero, List.take_succ_eq_append_getElem hlt, List.append_assoc]
          rfl
        rw [e]
        exact ih (i + 1) (by omega)
  have := go l.length 0 (by omega)
  rw [List.take_zero, List.nil_append] at this
  rw [Int.toNat_natCast]
  exact this
theorem eqInt64SS_ev (a b : List (List Int)) (hl : a.length ≤ 1048576) (hr : ∀ r ∈ a, r.length ≤ 1048576) : Ev (fun k => laws_eqInt64SS.f k a b) (decide (a = b)) := by
  unfold laws_eqInt64SS.f
  by_cases h : a.length = b.length
  · simp only [if_pos (show (a.length : Int) = (b.length : Int) by omega)]
    have key : ∀ (d i : Nat), i + d = a.length → Ev (fun k => laws_eqInt64SS.l0 k a b (i : Int)) (decide (a.drop i = b.drop i)) := by
      intro d
      induction d with
      | zero =>
        intro i hi
        refine Ev.step (f := fun _ => some true) (fun k => ?_) ?_
        · simp only [laws_eqInt64SS.l0]
          rw [if_neg (by omega)]
        · rw [List.drop_eq_nil_of_le (by omega), List.drop_eq_nil_of_le (by omega), decide_eq_true rfl]
          exact Ev.now _
      | succ d ih =>
        intro i hi
        have h1 : i < a.length := by omega
        have h2 : i < b.length := by omega
        have ed : (a.drop i = b.drop i) ↔ (a[i] = b[i] ∧ a.drop (i + 1) = b.drop (i + 1)) := by
          rw [List.drop_eq_getElem_cons h1, List.drop_eq_getElem_cons h2, List.cons.injEq]
        refine Ev.step (f := fun k => (laws_eqInt64S.f k a[i] b[i]).bind fun t => if t = true then laws_eqInt64SS.l0 k a b ((i + 1 : Nat) : Int) else some false) (fun k => ?_) ?_
        · simp only [laws_eqInt64SS.l0]
          rw [if_pos (by omega), if_pos (by omega), if_pos (by omega), rdL_nat a i h1, rdL_nat b i h2, wr (by omega) (by omega)]
          rfl
        · refine Ev.bind (eqInt64S_ev _ _ (hr _ (List.getElem_mem h1))) ?_
          by_cases e : a[i] = b[i]
          · rw [decide_eq_true e, show decide (a.drop i = b.drop i) = decide (a.drop (i + 1) = b.drop (i + 1)) from by simp only [ed, e, true_and]]
            exact ih (i + 1) (by omega)
          · rw [decide_eq_false e, decide_eq_false (by rw [ed]; simp [e])]
            exact Ev.now _
    have := key a.length 0 (by omega)
    rw [List.drop_zero, List.drop_zero] at this
    exact this
  · simp only [if_neg (show ¬ (a.length : Int) = (b.length : Int) by omega)]
    rw [decide_eq_false (by intro e; exact h (by rw [e]))]
    exact Ev.now _
theorem eqInt64SS_same (a : List (List Int)) (hl : a.length ≤ 1048576) (hr : ∀ r ∈ a, r.length ≤ 1048576) : Ev (fun k => laws_eqInt64SS.f k a a) true := by
  have := eqInt64SS_ev a a hl hr
  rwa [decide_eq_true rfl] at this

end Go.Proofs.Ytjnobnmjhpmpfaa.P

namespace Go.Proofs.Ytjnobnmjhpmpfaa.P
open Go.RowKit Go.Proofs.YtjnobnmjhpmpfaaW.PrintWords Go.Proofs.YtjnobnmjhpmpfaaW.PrintLast Go.Proofs.YtjnobnmjhpmpfaaW.PrintMore
attribute [local go_sem] max2_int min2_int max_two min_two max_three min_three max_four min_four
set_option linter.unusedVariables false
set_option linter.unusedSimpArgs false

/-- What holds from some number of rounds on. -/
def From (P : Nat → Prop) : Prop := ∃ K, ∀ k, K ≤ k → P k
theorem From.and {P Q : Nat → Prop} (hp : From P) (hq : From Q) : From fun k => P k ∧ Q k := by
  obtain ⟨K, hK⟩ := hp
  obtain ⟨L, hL⟩ := hq
  exact ⟨max K L, fun k h => ⟨hK k (by omega), hL k (by omega)⟩⟩
theorem From.ever {P : Prop} (h : P) : From fun _ => P := ⟨0, fun _ _ => h⟩
theorem From.now {P : Nat → Prop} (h : From P) : ∃ k, P k := by
  obtain ⟨K, hK⟩ := h
  exact ⟨K, hK K (Nat.le_refl _)⟩
theorem range_same {α : Type} [DecidableEq α] (a b : List α) (h : a.length = b.length) : (List.range a.length).all (fun i => decide (a[i]? = b[i]?)) = decide (a = b) := by
  rw [Bool.eq_iff_iff, List.all_eq_true, decide_eq_true_iff]
  constructor
  · intro hq
    refine List.ext_getElem? fun i => ?_
    by_cases hi : i < a.length
    · exact of_decide_eq_true (hq i (by simpa using hi))
    · rw [List.getElem?_eq_none (by omega), List.getElem?_eq_none (by omega)]
  · rintro rfl i _
    exact decide_eq_true rfl
/-- A loop that compares two lists of one length, place by place. -/
theorem same_ev {α : Type} [DecidableEq α] (a b : List α) (hab : a.length = b.length) {l : Nat → Int → Option Bool}
    (hgo : ∀ (i : Nat) (h1 : i < a.length) (h2 : i < b.length), a[i] = b[i] → ∀ r, Ev (fun k => l k ((i + 1 : Nat) : Int)) r → Ev (fun k => l k (i : Int)) r)
    (hstop : ∀ (i : Nat) (h1 : i < a.length) (h2 : i < b.length), a[i] ≠ b[i] → Ev (fun k => l k (i : Int)) false)
    (hend : Ev (fun k => l k (a.length : Int)) true) : Ev (fun k => l k 0) (decide (a = b)) := by
  have h := scan_ev (l := l) (n := a.length) (q := fun i => decide (a[i]? = b[i]?)) (fin := true) (stop := false)
    (fun i hi hq t ht => by
      have h2 : i < b.length := by omega
      have hq' := of_decide_eq_true hq
      rw [List.getElem?_eq_getElem hi, List.getElem?_eq_getElem h2, Option.some.injEq] at hq'
      exact hgo i hi h2 hq' t ht)
    (fun i hi hq => by
      have h2 : i < b.length := by omega
      have hq' := of_decide_eq_false hq
      rw [List.getElem?_eq_getElem hi, List.getElem?_eq_getElem h2, Option.some.injEq] at hq'
      exact hstop i hi h2 hq')
    hend
  rw [range_same a b hab] at h
  have e : (if decide (a = b) = true then true else false) = decide (a = b) := by cases decide (a = b) <;> rfl
  rwa [e] at h

end Go.Proofs.Ytjnobnmjhpmpfaa.P

namespace Go.Proofs.Ytjnobnmjhpmpfaa.P
open Go.RowKit Go.Proofs.YtjnobnmjhpmpfaaW.PrintWords Go.Proofs.YtjnobnmjhpmpfaaW.PrintLast Go.Proofs.YtjnobnmjhpmpfaaW.PrintMore
attribute [local go_sem] max2_int min2_int max_two min_two max_three min_three max_four min_four
set_option linter.unusedVariables false
set_option linter.unusedSimpArgs false

/-! ### laws_heldGateS: function 58 -/
mutual
def laws_heldGateS.l0 : Nat → List (S29) → Int → Int → Option (Int)
  | 0, _, _, _ => none
  | k + 1, x0, x1, x5 => if x5 < (x0.length : Int) then (if 0 ≤ x5 then (if ((rd_T29 x0 x5).f0) = x1 then (if ((rd_T29 x0 x5).f1) = (wrap64 (x1 + 1)) then ((laws_heldGateS.f k ((rd_T29 x0 x5).f2) (wrap64 ((wrap64 (x1 + 1)) + 1))).bind fun t133 => (if t133 < 0 then (some (-1)) else (laws_heldGateS.l0 k x0 t133 (wrap64 (x5 + 1))))) else (some (-1))) else (some (-1))) else (none)) else (some x1)
def laws_heldGateS.f : Nat → List (S29) → Int → Option (Int)
  | 0, _, _ => none
  | k + 1, l0, a1 => laws_heldGateS.l0 k l0 a1 0
end
theorem laws_heldGateS.mono_l : ∀ k, (∀ y0 y1, LeO (laws_heldGateS.f k y0 y1) (laws_heldGateS.f (k + 1) y0 y1)) ∧ (∀ y0 y1 y2, LeO (laws_heldGateS.l0 k y0 y1 y2) (laws_heldGateS.l0 (k + 1) y0 y1 y2))
  | 0 => ⟨fun _ _ r h => by simp [laws_heldGateS.f] at h, fun _ _ _ r h => by simp [laws_heldGateS.l0] at h⟩
  | k + 1 => by
    obtain ⟨ih0, ih1⟩ := laws_heldGateS.mono_l k
    refine ⟨?_, ?_⟩
    · intro y0 y1
      unfold laws_heldGateS.f
      repeat' first
      | (with_reducible exact ih0 _ _)
      | (with_reducible exact ih1 _ _ _)
      | (with_reducible exact LeO.refl _)
      | (with_reducible exact LeO.none _)
      | (with_reducible refine LeO.ite ?_ ?_)
      | (with_reducible refine LeO.bind ?_ (fun _ => ?_))
      | exact ih0 _ _
      | exact ih1 _ _ _
      | exact LeO.none _
      | refine LeO.ite ?_ ?_
      | refine LeO.bind ?_ (fun _ => ?_)
    · intro y0 y1 y2
      unfold laws_heldGateS.l0
      repeat' first
      | (with_reducible exact ih0 _ _)
      | (with_reducible exact ih1 _ _ _)
      | (with_reducible exact LeO.refl _)
      | (with_reducible exact LeO.none _)
      | (with_reducible refine LeO.ite ?_ ?_)
      | (with_reducible refine LeO.bind ?_ (fun _ => ?_))
      | exact ih0 _ _
      | exact ih1 _ _ _
      | exact LeO.none _
      | refine LeO.ite ?_ ?_
      | refine LeO.bind ?_ (fun _ => ?_)
theorem laws_heldGateS.mono : ∀ a0 a1 k, LeO (laws_heldGateS.f k a0 a1) (laws_heldGateS.f (k + 1) a0 a1) := by
  intro a0 a1 k
  obtain ⟨ih0, ih1⟩ := laws_heldGateS.mono_l k
  exact ih0 a0 a1
set_option maxHeartbeats 8000000 in
set_option maxRecDepth 100000 in
theorem laws_heldGateS.calls (k : Nat) : ∀ (A0 : Option Addr) (c0 : Nat) (l0 : List (S29)) (a1 : Int) (r : Int) (w : World) (hr0 : Kd.C k29 w A0 l0.length l0) (hc0 : l0.length ≤ c0) (h : laws_heldGateS.f k l0 a1 = some r),
    Calls Try.prog 58 #[.slice A0 l0.length c0, .int .i64 a1] w fun e w' => e = .returned (.int .i64 r) ∧ Drawn0 w w' := by
  induction k using Nat.strongRecOn with
  | _ k ih =>
  intro A0 c0 l0 a1 r w hr0 hc0 h
  cases k with
  | zero => exact absurd h (by simp [laws_heldGateS.f])
  | succ k =>
  simp only [laws_heldGateS.f] at h
  have HR0 := Aside0.mk hr0
  have HC0 := Aside0.mk hc0
  clear hr0 hc0
  have H : (laws_heldGateS.l0 k l0 a1 0) = some r := h
  clear h
  have H' := Aside0.mk H
  clear H
  go_enter Try.func58, Try.ntmps58
  go_wp2
  go_loopg [1, 5] k (fun kq v1 v5 w' => ∃ (x1_1 : Int) (x5_1 : Int), v1 = .int .i64 x1_1 ∧ v5 = .int .i64 x5_1 ∧ Aside0 (laws_heldGateS.l0 kq l0 x1_1 x5_1 = some r) ∧ Aside0 (kq ≤ k) ∧ Drawn0 w w')
  case atStart => exact ⟨(a1), (0), (by first | rfl | (simp; done) | (simp [*]; done)), (by first | rfl | (simp; done) | (simp [*]; done)), H', ⟨Nat.le_refl _⟩, by repeat (first | exact Drawn0.refl _ | apply Drawn0.step)⟩
  case round =>
    clear H'
    try clear p2
    obtain ⟨x1_1, x5_1, rfl, rfl, HA, HK1, ⟨m1, rfl⟩⟩ := hrel
    cases gk with
    | zero => exact absurd HA.out (by simp [laws_heldGateS.l0])
    | succ k1 =>
      have H := HA.out
      clear HA
      simp only [laws_heldGateS.l0] at H
      by_cases c3 : x5_1 < (l0.length : Int)
      · rw [if_pos c3] at H
        have c3b0 : decide (x5_1 < (l0.length : Int)) = true := decide_eq_true c3
        clear c3
        by_cases c4 : 0 ≤ x5_1
        · rw [if_pos c4] at H
          have c4b0 : decide (0 ≤ x5_1) = true := decide_eq_true c4
          clear c4
          by_cases c5 : ((rd_T29 l0 x5_1).f0) = x1_1
          · rw [if_pos c5] at H
            have c5b0 : (((rd_T29 l0 x5_1).f0) == x1_1) = true := beq_iff_eq.mpr c5
            have c5b1 : (((rd_T29 l0 x5_1).f0) != x1_1) = false := bne_eq_false_iff_eq.mpr c5
            clear c5
            by_cases c6 : ((rd_T29 l0 x5_1).f1) = (wrap64 (x1_1 + 1))
            · rw [if_pos c6] at H
              have c6b0 : (((rd_T29 l0 x5_1).f1) == (wrap64 (x1_1 + 1))) = true := beq_iff_eq.mpr c6
              have c6b1 : (((rd_T29 l0 x5_1).f1) != (wrap64 (x1_1 + 1))) = false := bne_eq_false_iff_eq.mpr c6
              clear c6
              replace H := Option.bind_eq_some_iff.mp H
              obtain ⟨t133, A70, H⟩ := H
              replace H : (if t133 < 0 then (some (-1)) else (laws_heldGateS.l0 k1 l0 t133 (wrap64 (x5_1 + 1)))) = some r := H
              have A7 := Aside0.mk A70
              clear A70
              by_cases c8 : t133 < 0
              · rw [if_pos c8] at H
                have c8b0 : decide (t133 < 0) = true := decide_eq_true c8
                clear c8
                obtain rfl := Option.some.inj H
                have p130 : 0 ≤ (x5_1 : Int) := of_decide_eq_true (by first | (with_reducible assumption) | assumption)
                have q130 : x5_1 < (l0.length : Int) := of_decide_eq_true (by first | (with_reducible assumption) | assumption)
                obtain ⟨ad130, A130_2, c130_2, e130, hx130_0, hx130_1, hx130_2, hl130_2, hi130_2⟩ := at_T29 HR0.out x5_1 p130 q130
                cases e130
                have HR130_2 := Aside0.mk hi130_2
                have HC130_2 := Aside0.mk hl130_2
                clear hi130_2 hl130_2
                replace p130 := eq_true p130
                replace q130 := eq_true q130
                have p131 : 0 ≤ (x5_1 : Int) := of_decide_eq_true (by first | (with_reducible assumption) | assumption)
                have q131 : x5_1 < (l0.length : Int) := of_decide_eq_true (by first | (with_reducible assumption) | assumption)
                obtain ⟨ad131, A131_2, c131_2, e131, hx131_0, hx131_1, hx131_2, hl131_2, hi131_2⟩ := at_T29 HR0.out x5_1 p131 q131
                obtain rfl : ad130 = ad131 := (by injection e131)
                have HR131_2 := Aside0.mk hi131_2
                have HC131_2 := Aside0.mk hl131_2
                clear hi131_2 hl131_2
                replace p131 := eq_true p131
                replace q131 := eq_true q131
                have ea_ := Option.some.inj (hx130_2.symm.trans hx131_2)
                injection ea_ with ea_ en_ ec_
                subst ea_
                subst ec_
                clear en_
                have p132 : 0 ≤ (x5_1 : Int) := of_decide_eq_true (by first | (with_reducible assumption) | assumption)
                have q132 : x5_1 < (l0.length : Int) := of_decide_eq_true (by first | (with_reducible assumption) | assumption)
                obtain ⟨ad132, A132_2, c132_2, e132, hx132_0, hx132_1, hx132_2, hl132_2, hi132_2⟩ := at_T29 HR0.out x5_1 p132 q132
                obtain rfl : ad130 = ad132 := (by injection e132)
                have HR132_2 := Aside0.mk hi132_2
                have HC132_2 := Aside0.mk hl132_2
                clear hi132_2 hl132_2
                replace p132 := eq_true p132
                replace q132 := eq_true q132
                have ea_ := Option.some.inj (hx130_2.symm.trans hx132_2)
                injection ea_ with ea_ en_ ec_
                subst ea_
                subst ec_
                clear en_
                go_wp2_with (first | ((with_reducible refine gate_callee (f := 58) rfl ?_); refine goesL_ (some 36) rfl rfl Try.func58 (by kernel_rfl) rfl #[.slice A130_2 ((rd_T29 l0 x5_1).f2).length c130_2, .int .i64 (wrap64 ((wrap64 (x1_1 + 1)) + 1))] rfl (by (try simp only [List.map_toArray, List.map_cons, List.map_nil]); first | done | rfl | (simp only [List.length_drop, List.length_take]; rfl)) ?_; (with_reducible refine (ih k1 (by have := HK1.out; omega) _ _ ((rd_T29 l0 x5_1).f2) (wrap64 ((wrap64 (x1_1 + 1)) + 1)) t133 _ ?side1 ?side2 A7.out).mono ?_); (case side1 => repeat (first | exact HR132_2.out | (with_reducible refine Kd.C_alloc ?_ _) | (with_reducible refine Kd.C_drewN ?_ _) | (with_reducible refine Kd.C_drew ?_))); (case side2 => exact HC132_2.out); rintro e w' ⟨rfl, ⟨nd, rfl⟩⟩; refine ⟨_, rfl, ?_⟩))
                go_ret
                exact ⟨by first | rfl | (simp; done) | (simp [*]; done), by repeat (first | exact Drawn0.refl _ | apply Drawn0.step)⟩
              · rw [if_neg c8] at H
                have c8b0 : decide (t133 < 0) = false := decide_eq_false c8
                clear c8
                have H' := Aside0.mk H
                clear H
                have p130 : 0 ≤ (x5_1 : Int) := of_decide_eq_true (by first | (with_reducible assumption) | assumption)
                have q130 : x5_1 < (l0.length : Int) := of_decide_eq_true (by first | (with_reducible assumption) | assumption)
                obtain ⟨ad130, A130_2, c130_2, e130, hx130_0, hx130_1, hx130_2, hl130_2, hi130_2⟩ := at_T29 HR0.out x5_1 p130 q130
                cases e130
                have HR130_2 := Aside0.mk hi130_2
                have HC130_2 := Aside0.mk hl130_2
                clear hi130_2 hl130_2
                replace p130 := eq_true p130
                replace q130 := eq_true q130
                have p131 : 0 ≤ (x5_1 : Int) := of_decide_eq_true (by first | (with_reducible assumption) | assumption)
                have q131 : x5_1 < (l0.length : Int) := of_decide_eq_true (by first | (with_reducible assumption) | assumption)
                obtain ⟨ad131, A131_2, c131_2, e131, hx131_0, hx131_1, hx131_2, hl131_2, hi131_2⟩ := at_T29 HR0.out x5_1 p131 q131
                obtain rfl : ad130 = ad131 := (by injection e131)
                have HR131_2 := Aside0.mk hi131_2
                have HC131_2 := Aside0.mk hl131_2
                clear hi131_2 hl131_2
                replace p131 := eq_true p131
                replace q131 := eq_true q131
                have ea_ := Option.some.inj (hx130_2.symm.trans hx131_2)
                injection ea_ with ea_ en_ ec_
                subst ea_
                subst ec_
                clear en_
                have p132 : 0 ≤ (x5_1 : Int) := of_decide_eq_true (by first | (with_reducible assumption) | assumption)
                have q132 : x5_1 < (l0.length : Int) := of_decide_eq_true (by first | (with_reducible assumption) | assumption)
                obtain ⟨ad132, A132_2, c132_2, e132, hx132_0, hx132_1, hx132_2, hl132_2, hi132_2⟩ := at_T29 HR0.out x5_1 p132 q132
                obtain rfl : ad130 = ad132 := (by injection e132)
                have HR132_2 := Aside0.mk hi132_2
                have HC132_2 := Aside0.mk hl132_2
                clear hi132_2 hl132_2
                replace p132 := eq_true p132
                replace q132 := eq_true q132
                have ea_ := Option.some.inj (hx130_2.symm.trans hx132_2)
                injection ea_ with ea_ en_ ec_
                subst ea_
                subst ec_
                clear en_
                go_wp2_with (first | ((with_reducible refine gate_callee (f := 58) rfl ?_); refine goesL_ (some 36) rfl rfl Try.func58 (by kernel_rfl) rfl #[.slice A130_2 ((rd_T29 l0 x5_1).f2).length c130_2, .int .i64 (wrap64 ((wrap64 (x1_1 + 1)) + 1))] rfl (by (try simp only [List.map_toArray, List.map_cons, List.map_nil]); first | done | rfl | (simp only [List.length_drop, List.length_take]; rfl)) ?_; (with_reducible refine (ih k1 (by have := HK1.out; omega) _ _ ((rd_T29 l0 x5_1).f2) (wrap64 ((wrap64 (x1_1 + 1)) + 1)) t133 _ ?side1 ?side2 A7.out).mono ?_); (case side1 => repeat (first | exact HR132_2.out | (with_reducible refine Kd.C_alloc ?_ _) | (with_reducible refine Kd.C_drewN ?_ _) | (with_reducible refine Kd.C_drew ?_))); (case side2 => exact HC132_2.out); rintro e w' ⟨rfl, ⟨nd, rfl⟩⟩; refine ⟨_, rfl, ?_⟩))
                go_roundg k1
                case measure => have := HK1.out; omega
                case rel => exact ⟨(t133), (wrap64 (x5_1 + 1)), (by first | rfl | (simp; done) | (simp [*]; done)), (by first | rfl | (simp; done) | (simp [*]; done)), H', ⟨by have := HK1.out; omega⟩, by repeat (first | exact Drawn0.refl _ | apply Drawn0.step)⟩
            · rw [if_neg c6] at H
              have c6b0 : (((rd_T29 l0 x5_1).f1) == (wrap64 (x1_1 + 1))) = false := beq_eq_false_iff_ne.mpr c6
              have c6b1 : (((rd_T29 l0 x5_1).f1) != (wrap64 (x1_1 + 1))) = true := bne_iff_ne.mpr c6
              obtain rfl := Option.some.inj H
              have p130 : 0 ≤ (x5_1 : Int) := of_decide_eq_true (by first | (with_reducible assumption) | assumption)
              have q130 : x5_1 < (l0.length : Int) := of_decide_eq_true (by first | (with_reducible assumption) | assumption)
              obtain ⟨ad130, A130_2, c130_2, e130, hx130_0, hx130_1, hx130_2, hl130_2, hi130_2⟩ := at_T29 HR0.out x5_1 p130 q130
              cases e130
              have HR130_2 := Aside0.mk hi130_2
              have HC130_2 := Aside0.mk hl130_2
              clear hi130_2 hl130_2
              replace p130 := eq_true p130
              replace q130 := eq_true q130
              have p131 : 0 ≤ (x5_1 : Int) := of_decide_eq_true (by first | (with_reducible assumption) | assumption)
              have q131 : x5_1 < (l0.length : Int) := of_decide_eq_true (by first | (with_reducible assumption) | assumption)
              obtain ⟨ad131, A131_2, c131_2, e131, hx131_0, hx131_1, hx131_2, hl131_2, hi131_2⟩ := at_T29 HR0.out x5_1 p131 q131
              obtain rfl : ad130 = ad131 := (by injection e131)
              have HR131_2 := Aside0.mk hi131_2
              have HC131_2 := Aside0.mk hl131_2
              clear hi131_2 hl131_2
              replace p131 := eq_true p131
              replace q131 := eq_true q131
              have ea_ := Option.some.inj (hx130_2.symm.trans hx131_2)
              injection ea_ with ea_ en_ ec_
              subst ea_
              subst ec_
              clear en_
              go_wp2
              go_ret
              exact ⟨by first | rfl | (simp; done) | (simp [*]; done), by repeat (first | exact Drawn0.refl _ | apply Drawn0.step)⟩
          · rw [if_neg c5] at H
            have c5b0 : (((rd_T29 l0 x5_1).f0) == x1_1) = false := beq_eq_false_iff_ne.mpr c5
            have c5b1 : (((rd_T29 l0 x5_1).f0) != x1_1) = true := bne_iff_ne.mpr c5
            obtain rfl := Option.some.inj H
            have p130 : 0 ≤ (x5_1 : Int) := of_decide_eq_true (by first | (with_reducible assumption) | assumption)
            have q130 : x5_1 < (l0.length : Int) := of_decide_eq_true (by first | (with_reducible assumption) | assumption)
            obtain ⟨ad130, A130_2, c130_2, e130, hx130_0, hx130_1, hx130_2, hl130_2, hi130_2⟩ := at_T29 HR0.out x5_1 p130 q130
            cases e130
            have HR130_2 := Aside0.mk hi130_2
            have HC130_2 := Aside0.mk hl130_2
            clear hi130_2 hl130_2
            replace p130 := eq_true p130
            replace q130 := eq_true q130
            go_wp2
            go_ret
            exact ⟨by first | rfl | (simp; done) | (simp [*]; done), by repeat (first | exact Drawn0.refl _ | apply Drawn0.step)⟩
        · rw [if_neg c4] at H
          exact absurd H (by simp)
      · rw [if_neg c3] at H
        have c3b0 : decide (x5_1 < (l0.length : Int)) = false := decide_eq_false c3
        clear c3
        obtain rfl := Option.some.inj H
        go_wp2
        go_ret
        exact ⟨by first | rfl | (simp; done) | (simp [*]; done), by repeat (first | exact Drawn0.refl _ | apply Drawn0.step)⟩

end Go.Proofs.Ytjnobnmjhpmpfaa.P

namespace Go.Proofs.Ytjnobnmjhpmpfaa.P
open Go.RowKit Go.Proofs.YtjnobnmjhpmpfaaW.PrintWords Go.Proofs.YtjnobnmjhpmpfaaW.PrintLast Go.Proofs.YtjnobnmjhpmpfaaW.PrintMore
attribute [local go_sem] max2_int min2_int max_two min_two max_three min_three max_four min_four
set_option linter.unusedVariables false
set_option linter.unusedSimpArgs false

/-! ### laws_heldGate: function 24 -/
def laws_heldGate.f (k : Nat) (a0_0 : Int) (a0_1 : Int) (l0_2 : List (S29)) (a1 : Int) : Option (Int) := (laws_heldGateS.f k l0_2 a1).bind fun t135 => (if t135 < 0 then (some (-1)) else (some t135))
theorem laws_heldGate.mono : ∀ a0 a1 a2 a3 k, LeO (laws_heldGate.f k a0 a1 a2 a3) (laws_heldGate.f (k + 1) a0 a1 a2 a3) := by
  intro a0 a1 a2 a3 k
  unfold laws_heldGate.f
  repeat' first
      | (with_reducible exact laws_heldGateS.mono _ _ _)
      | (with_reducible exact LeO.refl _)
      | (with_reducible exact LeO.none _)
      | (with_reducible refine LeO.ite ?_ ?_)
      | (with_reducible refine LeO.bind ?_ (fun _ => ?_))
      | exact laws_heldGateS.mono _ _ _
      | exact LeO.none _
      | refine LeO.ite ?_ ?_
      | refine LeO.bind ?_ (fun _ => ?_)
set_option maxHeartbeats 8000000 in
set_option maxRecDepth 100000 in
theorem laws_heldGate.calls (k : Nat) (a0_0 : Int) (a0_1 : Int) (A0_2 : Option Addr) (c0_2 : Nat) (l0_2 : List (S29)) (a1 : Int) (r : Int) (w : World) (hr0_2 : Kd.C k29 w A0_2 l0_2.length l0_2) (hc0_2 : l0_2.length ≤ c0_2) (h : laws_heldGate.f k a0_0 a0_1 l0_2 a1 = some r) :
    Calls Try.prog 24 #[.agg #[.int .i64 a0_0, .int .i64 a0_1, .slice A0_2 l0_2.length c0_2], .int .i64 a1] w fun e w' => e = .returned (.int .i64 r) ∧ Below w.heap.size w w' := by
  have hu29 := Try.underlying29
  have HR0_2 := Aside0.mk hr0_2
  have HC0_2 := Aside0.mk hc0_2
  clear hr0_2 hc0_2
  have HB := Aside0.mk (Below.refl w.heap.size w)
  have H : ((laws_heldGateS.f k l0_2 a1).bind fun t135 => (if t135 < 0 then (some (-1)) else (some t135))) = some r := h
  clear h
  replace H := Option.bind_eq_some_iff.mp H
  obtain ⟨t135, A30, H⟩ := H
  replace H : (if t135 < 0 then (some (-1)) else (some t135)) = some r := H
  have A3 := Aside0.mk A30
  clear A30
  by_cases c4 : t135 < 0
  · rw [if_pos c4] at H
    have c4b0 : decide (t135 < 0) = true := decide_eq_true c4
    clear c4
    obtain rfl := Option.some.inj H
    go_enter Try.func24, Try.ntmps24
    go_wp2_with (first | ((with_reducible refine gate_dst (N := 2) rfl ?_); refine box_event ?hg (N := 2) ?hd (cs := #[.int .i64 a0_0, .int .i64 a0_1, .slice A0_2 l0_2.length c0_2]) (t := 29) ?hr ?_; (case hd => rfl); (case hg => rfl); (case hr => first | (go_simp; done) | (go_simp; rfl)); intro gb134 hg w5 hbox hb; have n0_ := Aside0.mk (below_step (by repeat (first | (with_reducible first | exact HB.out | apply below_alloc | apply pw_below_drewN | apply below_drew1) | exact HB.out)) hb); have n1_ := Aside0.mk (hbox); have n2_ := Aside0.mk ((by rw [hg]; exact (below_size (by repeat (first | (with_reducible first | exact HB.out | apply below_alloc | apply pw_below_drewN | apply below_drew1) | exact HB.out))) : w.heap.size ≤ gb134)); have n3_ := Aside0.mk ((by rw [hg]; exact (below_size (by repeat (first | (with_reducible first | exact HB.out | apply below_alloc | apply pw_below_drewN | apply below_drew1) | exact HB.out))) : w.heap.size ≤ gb134)); clear HB; have HB := n0_; have BK134 := n1_; have GW134 := n2_; have GE134 := n3_; clear n0_ n1_ n2_ n3_; clear hb hbox hg; have hcz6_0 : w5.cell? ⟨gb134, 0, none⟩ = some (.int .i64 a0_0) := (blk_cell BK134.out 0).trans rfl; have hcz6_1 : w5.cell? ⟨gb134, 1, none⟩ = some (.int .i64 a0_1) := (blk_cell BK134.out 1).trans rfl; have hcz6_2 : w5.cell? ⟨gb134, 2, none⟩ = some (.slice A0_2 l0_2.length c0_2) := (blk_cell BK134.out 2).trans rfl; have hfz6_0 := blk_frozen BK134.out 0; have hfz6_1 := blk_frozen BK134.out 1; have hfz6_2 := blk_frozen BK134.out 2) | ((with_reducible refine gate_callee (f := 58) rfl ?_); refine goesL_ (some 8) rfl rfl Try.func58 (by kernel_rfl) rfl #[.slice A0_2 l0_2.length c0_2, .int .i64 a1] rfl (by (try simp only [List.map_toArray, List.map_cons, List.map_nil]); first | done | rfl | (simp only [List.length_drop, List.length_take]; rfl)) ?_; (with_reducible refine (laws_heldGateS.calls k _ _ l0_2 a1 t135 _ ?side1 ?side2 A3.out).mono ?_); (case side1 => repeat (first | exact (Kd.C_below HR0_2.out HB.out) | (with_reducible refine Kd.C_alloc ?_ _) | (with_reducible refine Kd.C_drewN ?_ _) | (with_reducible refine Kd.C_drew ?_))); (case side2 => exact HC0_2.out); rintro e w' ⟨rfl, ⟨nd, rfl⟩⟩; refine ⟨_, rfl, ?_⟩))
    go_ret
    exact ⟨by first | rfl | (simp [errW_none, errW_some] <;> rfl) | (simp [*, errW_none, errW_some] <;> rfl), by repeat (first | (with_reducible first | exact HB.out | apply below_alloc | apply pw_below_drewN | apply below_drew1 | refine below_set ?_ GE134.out) | exact HB.out)⟩
  · rw [if_neg c4] at H
    have c4b0 : decide (t135 < 0) = false := decide_eq_false c4
    clear c4
    obtain rfl := Option.some.inj H
    go_enter Try.func24, Try.ntmps24
    go_wp2_with (first | ((with_reducible refine gate_dst (N := 2) rfl ?_); refine box_event ?hg (N := 2) ?hd (cs := #[.int .i64 a0_0, .int .i64 a0_1, .slice A0_2 l0_2.length c0_2]) (t := 29) ?hr ?_; (case hd => rfl); (case hg => rfl); (case hr => first | (go_simp; done) | (go_simp; rfl)); intro gb134 hg w7 hbox hb; have n0_ := Aside0.mk (below_step (by repeat (first | (with_reducible first | exact HB.out | apply below_alloc | apply pw_below_drewN | apply below_drew1) | exact HB.out)) hb); have n1_ := Aside0.mk (hbox); have n2_ := Aside0.mk ((by rw [hg]; exact (below_size (by repeat (first | (with_reducible first | exact HB.out | apply below_alloc | apply pw_below_drewN | apply below_drew1) | exact HB.out))) : w.heap.size ≤ gb134)); have n3_ := Aside0.mk ((by rw [hg]; exact (below_size (by repeat (first | (with_reducible first | exact HB.out | apply below_alloc | apply pw_below_drewN | apply below_drew1) | exact HB.out))) : w.heap.size ≤ gb134)); clear HB; have HB := n0_; have BK134 := n1_; have GW134 := n2_; have GE134 := n3_; clear n0_ n1_ n2_ n3_; clear hb hbox hg; have hcz8_0 : w7.cell? ⟨gb134, 0, none⟩ = some (.int .i64 a0_0) := (blk_cell BK134.out 0).trans rfl; have hcz8_1 : w7.cell? ⟨gb134, 1, none⟩ = some (.int .i64 a0_1) := (blk_cell BK134.out 1).trans rfl; have hcz8_2 : w7.cell? ⟨gb134, 2, none⟩ = some (.slice A0_2 l0_2.length c0_2) := (blk_cell BK134.out 2).trans rfl; have hfz8_0 := blk_frozen BK134.out 0; have hfz8_1 := blk_frozen BK134.out 1; have hfz8_2 := blk_frozen BK134.out 2) | ((with_reducible refine gate_callee (f := 58) rfl ?_); refine goesL_ (some 8) rfl rfl Try.func58 (by kernel_rfl) rfl #[.slice A0_2 l0_2.length c0_2, .int .i64 a1] rfl (by (try simp only [List.map_toArray, List.map_cons, List.map_nil]); first | done | rfl | (simp only [List.length_drop, List.length_take]; rfl)) ?_; (with_reducible refine (laws_heldGateS.calls k _ _ l0_2 a1 t135 _ ?side1 ?side2 A3.out).mono ?_); (case side1 => repeat (first | exact (Kd.C_below HR0_2.out HB.out) | (with_reducible refine Kd.C_alloc ?_ _) | (with_reducible refine Kd.C_drewN ?_ _) | (with_reducible refine Kd.C_drew ?_))); (case side2 => exact HC0_2.out); rintro e w' ⟨rfl, ⟨nd, rfl⟩⟩; refine ⟨_, rfl, ?_⟩))
    go_ret
    exact ⟨by first | rfl | (simp [errW_none, errW_some] <;> rfl) | (simp [*, errW_none, errW_some] <;> rfl), by repeat (first | (with_reducible first | exact HB.out | apply below_alloc | apply pw_below_drewN | apply below_drew1 | refine below_set ?_ GE134.out) | exact HB.out)⟩

end Go.Proofs.Ytjnobnmjhpmpfaa.P

namespace Go.Proofs.Ytjnobnmjhpmpfaa.P
open Go.RowKit Go.Proofs.YtjnobnmjhpmpfaaW.PrintWords Go.Proofs.YtjnobnmjhpmpfaaW.PrintLast Go.Proofs.YtjnobnmjhpmpfaaW.PrintMore
attribute [local go_sem] max2_int min2_int max_two min_two max_three min_three max_four min_four
set_option linter.unusedVariables false
set_option linter.unusedSimpArgs false

mutual
/-- A gate's kids, marked from m on. -/
def mkT : Int → S29 → S29
  | m, ⟨_, _, l⟩ => ⟨m, m + 1, mkL (m + 2) l⟩
def mkL : Int → List S29 → List S29
  | _, [] => []
  | m, x :: l => mkT m x :: mkL (m + 2 + 2 * (mT x : Int)) l
end
theorem mkT_parts (m : Int) (x : S29) : mkT m x = ⟨m, m + 1, mkL (m + 2) x.f2⟩ := by cases x; simp only [mkT]
theorem mkL_cons (m : Int) (x : S29) (l : List S29) : mkL m (x :: l) = ⟨m, m + 1, mkL (m + 2) x.f2⟩ :: mkL (m + 2 + 2 * (mT x : Int)) l := by rw [← mkT_parts]; simp only [mkL]
theorem rdT_mid (pre r : List S29) (y : S29) : rd_T29 (pre ++ y :: r) (pre.length : Int) = y := by simp [rd_T29]
theorem mkL_length : ∀ (l : List S29) (m : Int), (mkL m l).length = l.length
  | [], _ => by simp only [mkL, List.length_nil]
  | x :: l, m => by rw [mkL_cons, List.length_cons, List.length_cons, mkL_length l]
theorem mL_cons (x : S29) (l : List S29) : mL (x :: l) = 1 + mT x + mL l := by simp only [mL]
theorem markGS_ev : ∀ (n : Nat) (rest : List S29), mL rest ≤ n → n ≤ 1048576 → ∀ (pre : List S29) (m : Int), 0 ≤ m → m + 2 * (mL rest : Int) ≤ 4611686018427387904 → pre.length + rest.length ≤ 4611686018427387904 → Ev (fun k => laws_markGateS.l0 k (pre ++ rest) m (pre.length : Int)) (m + 2 * (mL rest : Int), pre ++ mkL m rest) := by
  intro n
  induction n with
  | zero =>
    intro rest hn hm pre m h0 h1 hp
    cases rest with
    | cons x r => rw [mL_cons] at hn; omega
    | nil =>
      refine Ev.step (f := fun _ => some (m, pre ++ [])) (fun k => ?_) ?_
      · simp only [laws_markGateS.l0]
        rw [if_neg (show ¬ ((pre.length : Int) < ((pre ++ ([] : List S29)).length : Int)) by simp)]
      · rw [show m + 2 * ((mL ([] : List S29) : Nat) : Int) = m by simp [mL], show mkL m [] = [] by simp only [mkL]]
        exact Ev.now _
  | succ n ih =>
    intro rest hn hm pre m h0 h1 hp
    cases rest with
    | nil =>
      refine Ev.step (f := fun _ => some (m, pre ++ [])) (fun k => ?_) ?_
      · simp only [laws_markGateS.l0]
        rw [if_neg (show ¬ ((pre.length : Int) < ((pre ++ ([] : List S29)).length : Int)) by simp)]
      · rw [show m + 2 * ((mL ([] : List S29) : Nat) : Int) = m by simp [mL], show mkL m [] = [] by simp only [mkL]]
        exact Ev.now _
    | cons x r =>
      rw [mL_cons] at hn h1
      rw [List.length_cons] at hp
      have hk := mT_kids x
      have hlx := mL_len x.f2
      have e1 : Ev (fun k => laws_markGateS.f k x.f2 (m + 2)) (m + 2 + 2 * (mL x.f2 : Int), mkL (m + 2) x.f2) :=
        Ev.step (f := fun k => laws_markGateS.l0 k x.f2 (m + 2) 0) (fun k => by simp only [laws_markGateS.f]) (ih x.f2 (by omega) (by omega) [] (m + 2) (by omega) (by omega) (by rw [List.length_nil]; omega))
      refine Ev.step (f := fun k => (laws_markGateS.f k x.f2 (m + 2)).bind fun t => laws_markGateS.l0 k ((pre ++ x :: r).set pre.length ⟨m, m + 1, t.2⟩) t.1 ((pre.length + 1 : Nat) : Int)) (fun k => ?_) (Ev.bind e1 ?_)
      · simp only [laws_markGateS.l0]
        rw [if_pos (by simp; omega), if_pos (by omega), rdT_mid, wr (x := m + 1) (by omega) (by omega), wr (x := m + 1 + 1) (by omega) (by omega), wr (x := (pre.length : Int) + 1) (by omega) (by omega), Int.toNat_natCast, show m + 1 + 1 = m + 2 by omega]
        rfl
      · dsimp only
        have e : (pre ++ x :: r).set pre.length (⟨m, m + 1, mkL (m + 2) x.f2⟩ : S29) = (pre ++ [⟨m, m + 1, mkL (m + 2) x.f2⟩]) ++ r := by
          rw [List.set_append_right _ _ (Nat.le_refl _), Nat.sub_self, List.set_cons_zero, List.append_assoc]; rfl
        have hl := mL_len r
        have h3 := ih r (by omega) (by omega) (pre ++ [⟨m, m + 1, mkL (m + 2) x.f2⟩]) (m + 2 + 2 * (mL x.f2 : Int)) (by omega) (by omega) (by rw [List.length_append, List.length_singleton]; omega)
        rw [List.length_append, List.length_singleton] at h3
        rw [e, mkL_cons, mL_cons, hk, show m + 2 * (((1 + mL x.f2 + mL r : Nat)) : Int) = m + 2 + 2 * (mL x.f2 : Int) + 2 * (mL r : Int) by omega, show pre ++ (⟨m, m + 1, mkL (m + 2) x.f2⟩ : S29) :: mkL (m + 2 + 2 * ((mL x.f2 : Nat) : Int)) r = (pre ++ [⟨m, m + 1, mkL (m + 2) x.f2⟩]) ++ mkL (m + 2 + 2 * ((mL x.f2 : Nat) : Int)) r by rw [List.append_assoc]; rfl]
        exact h3
theorem markGate_ev (a b : Int) (l : List S29) (h : mL l ≤ 1048576) : Ev (fun k => laws_markGate.f k a b l 1) (1 + 2 * (mL l : Int), mkL 1 l) :=
  Ev.step (f := fun k => laws_markGateS.l0 k l 1 0) (fun k => by simp only [laws_markGate.f, laws_markGateS.f]) (markGS_ev 1048576 l h (Nat.le_refl _) [] 1 (by omega) (by omega) (by have := mL_len l; rw [List.length_nil]; omega))
theorem heldGS_ev : ∀ (n : Nat) (rest : List S29), mL rest ≤ n → n ≤ 1048576 → ∀ (pre : List S29) (m : Int), 0 ≤ m → m + 2 * (mL rest : Int) ≤ 4611686018427387904 → pre.length + rest.length ≤ 4611686018427387904 → Ev (fun k => laws_heldGateS.l0 k (pre ++ mkL m rest) m (pre.length : Int)) (m + 2 * (mL rest : Int)) := by
  intro n
  induction n with
  | zero =>
    intro rest hn hm pre m h0 h1 hp
    cases rest with
    | cons x r => rw [mL_cons] at hn; omega
    | nil =>
      refine Ev.step (f := fun _ => some m) (fun k => ?_) ?_
      · rw [show mkL m ([] : List S29) = [] by simp only [mkL]]
        simp only [laws_heldGateS.l0]
        rw [if_neg (show ¬ ((pre.length : Int) < ((pre ++ ([] : List S29)).length : Int)) by simp)]
      · rw [show m + 2 * ((mL ([] : List S29) : Nat) : Int) = m by simp [mL]]
        exact Ev.now _
  | succ n ih =>
    intro rest hn hm pre m h0 h1 hp
    cases rest with
    | nil =>
      refine Ev.step (f := fun _ => some m) (fun k => ?_) ?_
      · rw [show mkL m ([] : List S29) = [] by simp only [mkL]]
        simp only [laws_heldGateS.l0]
        rw [if_neg (show ¬ ((pre.length : Int) < ((pre ++ ([] : List S29)).length : Int)) by simp)]
      · rw [show m + 2 * ((mL ([] : List S29) : Nat) : Int) = m by simp [mL]]
        exact Ev.now _
    | cons x r =>
      rw [mL_cons] at hn h1
      rw [List.length_cons] at hp
      have hk := mT_kids x
      have hlx := mL_len x.f2
      have e1 : Ev (fun k => laws_heldGateS.f k (mkL (m + 2) x.f2) (m + 2)) (m + 2 + 2 * (mL x.f2 : Int)) :=
        Ev.step (f := fun k => laws_heldGateS.l0 k (mkL (m + 2) x.f2) (m + 2) 0) (fun k => by simp only [laws_heldGateS.f]) (ih x.f2 (by omega) (by omega) [] (m + 2) (by omega) (by omega) (by rw [List.length_nil]; omega))
      rw [mkL_cons]
      refine Ev.step (f := fun k => (laws_heldGateS.f k (mkL (m + 2) x.f2) (m + 2)).bind fun t => if t < 0 then some (-1) else laws_heldGateS.l0 k (pre ++ ⟨m, m + 1, mkL (m + 2) x.f2⟩ :: mkL (m + 2 + 2 * (mT x : Int)) r) t ((pre.length + 1 : Nat) : Int)) (fun k => ?_) (Ev.bind e1 ?_)
      · simp only [laws_heldGateS.l0]
        rw [if_pos (by simp; omega), if_pos (by omega), rdT_mid]
        dsimp only
        rw [if_pos rfl, wr (x := m + 1) (by omega) (by omega), if_pos rfl, wr (x := m + 1 + 1) (by omega) (by omega), wr (x := (pre.length : Int) + 1) (by omega) (by omega), show m + 1 + 1 = m + 2 by omega]
        rfl
      · simp only [if_neg (show ¬ (m + 2 + 2 * ((mL x.f2 : Nat) : Int) < 0) by omega)]
        have hl := mL_len r
        have h3 := ih r (by omega) (by omega) (pre ++ [⟨m, m + 1, mkL (m + 2) x.f2⟩]) (m + 2 + 2 * (mL x.f2 : Int)) (by omega) (by omega) (by rw [List.length_append, List.length_singleton]; omega)
        rw [List.length_append, List.length_singleton] at h3
        rw [mL_cons, hk, show m + 2 * (((1 + mL x.f2 + mL r : Nat)) : Int) = m + 2 + 2 * (mL x.f2 : Int) + 2 * (mL r : Int) by omega, show pre ++ (⟨m, m + 1, mkL (m + 2) x.f2⟩ : S29) :: mkL (m + 2 + 2 * ((mL x.f2 : Nat) : Int)) r = (pre ++ [⟨m, m + 1, mkL (m + 2) x.f2⟩]) ++ mkL (m + 2 + 2 * ((mL x.f2 : Nat) : Int)) r by rw [List.append_assoc]; rfl]
        exact h3
theorem heldGate_ev (a b : Int) (l : List S29) (h : mL l ≤ 1048576) : Ev (fun k => laws_heldGate.f k a b (mkL 1 l) 1) (1 + 2 * (mL l : Int)) := by
  unfold laws_heldGate.f
  refine Ev.bind (Ev.step (f := fun k => laws_heldGateS.l0 k (mkL 1 l) 1 0) (fun k => by simp only [laws_heldGateS.f]) (heldGS_ev 1048576 l h (Nat.le_refl _) [] 1 (by omega) (by omega) (by have := mL_len l; rw [List.length_nil]; omega))) ?_
  simp only [if_neg (show ¬ (1 + 2 * ((mL l : Nat) : Int) < 0) by omega)]
  exact Ev.now _

end Go.Proofs.Ytjnobnmjhpmpfaa.P

namespace Go.Proofs.Ytjnobnmjhpmpfaa.P
open Go.RowKit Go.Proofs.YtjnobnmjhpmpfaaW.PrintWords Go.Proofs.YtjnobnmjhpmpfaaW.PrintLast Go.Proofs.YtjnobnmjhpmpfaaW.PrintMore
attribute [local go_sem] max2_int min2_int max_two min_two max_three min_three max_four min_four
set_option linter.unusedVariables false
set_option linter.unusedSimpArgs false

/-! ### spec_ValidGate: function 19 (by hand) -/
def spec_ValidGate.f (k : Nat) (h : Int) (a1_0 : Int) (a1_1 : Int) (l1_2 : List S29) : Option Bool := spec_l02Ok.f k h ⟨a1_0, a1_1, l1_2⟩
theorem spec_ValidGate.mono : ∀ h a b l k, LeO (spec_ValidGate.f k h a b l) (spec_ValidGate.f (k + 1) h a b l) := fun h a b l k => spec_l02Ok.mono _ _ _
set_option maxHeartbeats 8000000 in
set_option maxRecDepth 100000 in
theorem spec_ValidGate.calls (k : Nat) (a0 : Int) (a1_0 : Int) (a1_1 : Int) (A1_2 : Option Addr) (c1_2 : Nat) (l1_2 : List S29) (r : Bool) (w : World) (hr1_2 : Kd.C k29 w A1_2 l1_2.length l1_2) (hc1_2 : l1_2.length ≤ c1_2) (h : spec_ValidGate.f k a0 a1_0 a1_1 l1_2 = some r) :
    Calls Try.prog 19 #[.int .i64 a0, .agg #[.int .i64 a1_0, .int .i64 a1_1, .slice A1_2 l1_2.length c1_2]] w fun e w' => e = .returned (.bool r) ∧ Below w.heap.size w w' := by
  have HR1 := Aside0.mk hr1_2
  have HC1 := Aside0.mk hc1_2
  clear hr1_2 hc1_2
  have hum := Try.underlying29
  have A1 := Aside0.mk (show spec_l02Ok.f k a0 ⟨a1_0, a1_1, l1_2⟩ = some r from h)
  clear h
  go_enter Try.func19, Try.ntmps19
  go_wp2_with (first | (go_at_call 49; (with_reducible refine (spec_l02Ok.calls k a0 _ ⟨a1_0, a1_1, l1_2⟩ r _ ?side1 A1.out).mono ?_); (case side1 => exact gate_box (by repeat (first | exact blk_new_at (by simp) | (with_reducible refine blk_drewN ?_ _) | (with_reducible refine blk_drew ?_) | (with_reducible refine blk_alloc ?_ _))) (by repeat (first | exact HR1.out | (with_reducible refine Kd.C_alloc ?_ _) | (with_reducible refine Kd.C_drewN ?_ _) | (with_reducible refine Kd.C_drew ?_))) HC1.out); rintro e w' ⟨rfl, ⟨nd, rfl⟩⟩))
  go_ret
  exact ⟨rfl, by repeat (first | exact Below.refl _ _ | apply below_alloc | apply pw_below_drewN | apply below_drew1)⟩

end Go.Proofs.Ytjnobnmjhpmpfaa.P

namespace Go.Proofs.Ytjnobnmjhpmpfaa.P
open Go.RowKit Go.Proofs.YtjnobnmjhpmpfaaW.PrintWords Go.Proofs.YtjnobnmjhpmpfaaW.PrintLast Go.Proofs.YtjnobnmjhpmpfaaW.PrintMore
attribute [local go_sem] max2_int min2_int max_two min_two max_three min_three max_four min_four
set_option linter.unusedVariables false
set_option linter.unusedSimpArgs false

/-! ### spec_l02Size: function 44 (by hand) -/
mutual
def spec_l02Size.l0 : Nat → S29 → Int → Int → Option Int
  | 0, _, _, _ => none
  | k + 1, x, n, i => if i < (x.f2.length : Int) then (if 0 ≤ i then ((spec_l02Size.f k (rd_T29 x.f2 i)).bind fun t => spec_l02Size.l0 k x (wrap64 (n + t)) (wrap64 (i + 1))) else none) else some n
def spec_l02Size.f : Nat → S29 → Option Int
  | 0, _ => none
  | k + 1, x => spec_l02Size.l0 k x 1 0
end
theorem spec_l02Size.mono_l : ∀ k, (∀ y0, LeO (spec_l02Size.f k y0) (spec_l02Size.f (k + 1) y0)) ∧ (∀ y0 y1 y2, LeO (spec_l02Size.l0 k y0 y1 y2) (spec_l02Size.l0 (k + 1) y0 y1 y2))
  | 0 => ⟨fun _  r h => by simp [spec_l02Size.f] at h, fun _ _ _  r h => by simp [spec_l02Size.l0] at h⟩
  | k + 1 => by
    obtain ⟨ih0, ih1⟩ := spec_l02Size.mono_l k
    refine ⟨?_, ?_⟩
    · intro y0
      unfold spec_l02Size.f
      repeat' first | (with_reducible exact ih0 _) | (with_reducible exact ih1 _ _ _) | (with_reducible exact LeO.refl _) | (with_reducible exact LeO.none _) | (with_reducible refine LeO.ite ?_ ?_) | (with_reducible refine LeO.bind ?_ (fun _ => ?_)) | exact ih0 _ | exact ih1 _ _ _ | exact LeO.none _ | refine LeO.ite ?_ ?_ | refine LeO.bind ?_ (fun _ => ?_)
    · intro y0 y1 y2
      unfold spec_l02Size.l0
      repeat' first | (with_reducible exact ih0 _) | (with_reducible exact ih1 _ _ _) | (with_reducible exact LeO.refl _) | (with_reducible exact LeO.none _) | (with_reducible refine LeO.ite ?_ ?_) | (with_reducible refine LeO.bind ?_ (fun _ => ?_)) | exact ih0 _ | exact ih1 _ _ _ | exact LeO.none _ | refine LeO.ite ?_ ?_ | refine LeO.bind ?_ (fun _ => ?_)
set_option maxHeartbeats 8000000 in
set_option maxRecDepth 100000 in
theorem spec_l02Size.calls (k : Nat) : ∀ (ad : Addr) (x : S29) (r : Int) (w : World) (hp : Kd.C k29 w (some ad) 1 [x]) (h : spec_l02Size.f k x = some r),
    Calls Try.prog 44 #[.pointer (some ad)] w fun e w' => e = .returned (.int .i64 r) ∧ Drawn0 w w' := by
  induction k using Nat.strongRecOn with
  | _ k ih =>
  intro ad x r w hp h
  cases k with
  | zero => exact absurd h (by simp [spec_l02Size.f])
  | succ k =>
  simp only [spec_l02Size.f] at h
  obtain ⟨A, c, hx0, hx1, hx2, hl, hC⟩ := gate_at hp
  have HP := Aside0.mk hp
  have HC := Aside0.mk hC
  clear hp hC hl
  have H' := Aside0.mk h
  clear h
  go_enter Try.func44, Try.ntmps44
  go_wp2
  repeat (go_quiet (fail); try go_wp2)
  go_loopg [3, 4] k (fun kq v3 v4 w' => ∃ (n : Int) (i : Int), v3 = .int .i64 n ∧ v4 = .int .i64 i ∧ Aside0 (spec_l02Size.l0 kq x n i = some r) ∧ Aside0 (kq ≤ k) ∧ Drawn0 w w')
  case atStart => exact ⟨1, 0, rfl, rfl, H', ⟨Nat.le_refl _⟩, by repeat (first | exact Drawn0.refl _ | apply Drawn0.step)⟩
  case round =>
    clear H'
    obtain ⟨n, i, rfl, rfl, HA, HK, ⟨m1, rfl⟩⟩ := hrel
    cases gk with
    | zero => exact absurd HA.out (by simp [spec_l02Size.l0])
    | succ k1 =>
      have H := HA.out
      clear HA
      simp only [spec_l02Size.l0] at H
      by_cases c6 : i < (x.f2.length : Int)
      · rw [if_pos c6] at H
        have c6b0 : decide (i < (x.f2.length : Int)) = true := decide_eq_true c6
        by_cases c7 : 0 ≤ i
        · rw [if_pos c7] at H
          have c7b0 : decide (0 ≤ i) = true := decide_eq_true c7
          replace H := Option.bind_eq_some_iff.mp H
          obtain ⟨t, At, H⟩ := H
          have A7 := Aside0.mk At
          have H' := Aside0.mk H
          clear At H
          obtain ⟨ad2, A2, c2, e2, _⟩ := at_T29 HC.out i c7 c6
          cases e2
          have HE := Aside0.mk (gate_el HC.out i c7 c6)
          replace c7 := eq_true c7
          replace c6 := eq_true c6
          go_wp2_with (first | (go_at_call 44; (with_reducible refine (ih k1 (by have := HK.out; omega) _ (rd_T29 x.f2 i) t _ ?side1 A7.out).mono ?_); (case side1 => repeat (first | exact HE.out | (with_reducible refine Kd.C_alloc ?_ _) | (with_reducible refine Kd.C_drewN ?_ _) | (with_reducible refine Kd.C_drew ?_))); rintro e w' ⟨rfl, ⟨nd, rfl⟩⟩; (try first | exact ⟨rfl, _, World.drewN_drewN _ _ _⟩ | exact ⟨rfl, _, Eq.trans (World.drewN_drewN _ _ _) (congrArg (World.drewN _) (Nat.add_assoc _ _ _))⟩)))
          repeat (go_quiet (first | (go_at_call 44; (with_reducible refine (ih k1 (by have := HK.out; omega) _ (rd_T29 x.f2 i) t _ ?side1 A7.out).mono ?_); (case side1 => repeat (first | exact HE.out | (with_reducible refine Kd.C_alloc ?_ _) | (with_reducible refine Kd.C_drewN ?_ _) | (with_reducible refine Kd.C_drew ?_))); rintro e w' ⟨rfl, ⟨nd, rfl⟩⟩; (try first | exact ⟨rfl, _, World.drewN_drewN _ _ _⟩ | exact ⟨rfl, _, Eq.trans (World.drewN_drewN _ _ _) (congrArg (World.drewN _) (Nat.add_assoc _ _ _))⟩))); try go_wp2_with (first | (go_at_call 44; (with_reducible refine (ih k1 (by have := HK.out; omega) _ (rd_T29 x.f2 i) t _ ?side1 A7.out).mono ?_); (case side1 => repeat (first | exact HE.out | (with_reducible refine Kd.C_alloc ?_ _) | (with_reducible refine Kd.C_drewN ?_ _) | (with_reducible refine Kd.C_drew ?_))); rintro e w' ⟨rfl, ⟨nd, rfl⟩⟩; (try first | exact ⟨rfl, _, World.drewN_drewN _ _ _⟩ | exact ⟨rfl, _, Eq.trans (World.drewN_drewN _ _ _) (congrArg (World.drewN _) (Nat.add_assoc _ _ _))⟩))))
          go_roundg k1
          case measure => have := HK.out; omega
          case rel => exact ⟨_, _, rfl, (by first | rfl | (simp; done)), H', ⟨by have := HK.out; omega⟩, by repeat (first | exact Drawn0.refl _ | apply Drawn0.step)⟩
        · rw [if_neg c7] at H
          exact absurd H (by simp)
      · rw [if_neg c6] at H
        have c6b0 : decide (i < (x.f2.length : Int)) = false := decide_eq_false c6
        clear c6
        obtain rfl := Option.some.inj H
        go_wp2
        repeat (go_quiet (fail); try go_wp2)
        go_ret
        exact ⟨rfl, by repeat (first | exact Drawn0.refl _ | apply Drawn0.step)⟩

end Go.Proofs.Ytjnobnmjhpmpfaa.P

namespace Go.Proofs.Ytjnobnmjhpmpfaa.P
open Go.RowKit Go.Proofs.YtjnobnmjhpmpfaaW.PrintWords Go.Proofs.YtjnobnmjhpmpfaaW.PrintLast Go.Proofs.YtjnobnmjhpmpfaaW.PrintMore
attribute [local go_sem] max2_int min2_int max_two min_two max_three min_three max_four min_four
set_option linter.unusedVariables false
set_option linter.unusedSimpArgs false

/-! ### spec_GateSize: function 13 (by hand) -/
def spec_GateSize.f (k : Nat) (a0_0 : Int) (a0_1 : Int) (l0_2 : List S29) : Option Int := spec_l02Size.f k ⟨a0_0, a0_1, l0_2⟩
theorem spec_GateSize.mono : ∀ a b l k, LeO (spec_GateSize.f k a b l) (spec_GateSize.f (k + 1) a b l) := fun a b l k => (spec_l02Size.mono_l k).1 _
set_option maxHeartbeats 8000000 in
set_option maxRecDepth 100000 in
theorem spec_GateSize.calls (k : Nat) (a0_0 : Int) (a0_1 : Int) (A0_2 : Option Addr) (c0_2 : Nat) (l0_2 : List S29) (r : Int) (w : World) (hr0_2 : Kd.C k29 w A0_2 l0_2.length l0_2) (hc0_2 : l0_2.length ≤ c0_2) (h : spec_GateSize.f k a0_0 a0_1 l0_2 = some r) :
    Calls Try.prog 13 #[.agg #[.int .i64 a0_0, .int .i64 a0_1, .slice A0_2 l0_2.length c0_2]] w fun e w' => e = .returned (.int .i64 r) ∧ Below w.heap.size w w' := by
  have HR0 := Aside0.mk hr0_2
  have HC0 := Aside0.mk hc0_2
  clear hr0_2 hc0_2
  have hum := Try.underlying29
  have A1 := Aside0.mk (show spec_l02Size.f k ⟨a0_0, a0_1, l0_2⟩ = some r from h)
  clear h
  go_enter Try.func13, Try.ntmps13
  go_wp2_with (first | (go_at_call 44; (with_reducible refine (spec_l02Size.calls k _ ⟨a0_0, a0_1, l0_2⟩ r _ ?side1 A1.out).mono ?_); (case side1 => exact gate_box (by repeat (first | exact blk_new_at (by simp) | (with_reducible refine blk_drewN ?_ _) | (with_reducible refine blk_drew ?_) | (with_reducible refine blk_alloc ?_ _))) (by repeat (first | exact HR0.out | (with_reducible refine Kd.C_alloc ?_ _) | (with_reducible refine Kd.C_drewN ?_ _) | (with_reducible refine Kd.C_drew ?_))) HC0.out); rintro e w' ⟨rfl, ⟨nd, rfl⟩⟩))
  go_ret
  exact ⟨rfl, by repeat (first | exact Below.refl _ _ | apply below_alloc | apply pw_below_drewN | apply below_drew1)⟩

end Go.Proofs.Ytjnobnmjhpmpfaa.P

namespace Go.Proofs.Ytjnobnmjhpmpfaa.P
open Go.RowKit Go.Proofs.YtjnobnmjhpmpfaaW.PrintWords Go.Proofs.YtjnobnmjhpmpfaaW.PrintLast Go.Proofs.YtjnobnmjhpmpfaaW.PrintMore
attribute [local go_sem] max2_int min2_int max_two min_two max_three min_three max_four min_four
set_option linter.unusedVariables false
set_option linter.unusedSimpArgs false

def rT : List S29 → Nat
  | [] => 0
  | x :: l => (1 + mT x) + rT l
theorem rT_mL : ∀ l : List S29, rT l = mL l
  | [] => rfl
  | x :: l => by simp only [rT, mL, rT_mL l]
theorem rT_drop (l : List S29) (i : Nat) : rT (l.drop i) ≤ rT l := by
  induction l generalizing i with
  | nil => simp
  | cons x l ih =>
    cases i with
    | zero => simp
    | succ i => have := ih i; simp only [List.drop_succ_cons, rT]; omega
theorem spec_l02Size_ev : ∀ (n : Nat) (x : S29), mT x ≤ n → n ≤ 1048576 → Ev (fun k => spec_l02Size.f k x) ((1 + mT x : Nat) : Int) := by
  intro n
  induction n using Nat.strongRecOn with
  | _ n ih =>
    intro x hn hm
    have hk := mT_kids x
    have hr := rT_mL x.f2
    have hl := mL_len x.f2
    have key : ∀ d i : Nat, i + d = x.f2.length → ∀ b : Nat, b + rT (x.f2.drop i) ≤ 1048577 → Ev (fun k => spec_l02Size.l0 k x (b : Int) (i : Int)) ((b + rT (x.f2.drop i) : Nat) : Int) := by
      intro d
      induction d with
      | zero =>
        intro i hi b hb
        rw [List.drop_eq_nil_of_le (by omega), show b + rT [] = b from rfl]
        refine Ev.step (f := fun _ => some (b : Int)) (fun k => ?_) (Ev.now _)
        simp only [spec_l02Size.l0]
        rw [if_neg (by omega)]
      | succ d ihd =>
        intro i hi b hb
        have hlt : i < x.f2.length := by omega
        have hx := mL_mem (List.getElem_mem hlt)
        rw [List.drop_eq_getElem_cons hlt, show rT (x.f2[i] :: x.f2.drop (i + 1)) = (1 + mT x.f2[i]) + rT (x.f2.drop (i + 1)) from rfl] at hb ⊢
        have hnext := ihd (i + 1) (by omega) (b + (1 + mT x.f2[i])) (by omega)
        refine Ev.step (f := fun k => (spec_l02Size.f k x.f2[i]).bind fun t => spec_l02Size.l0 k x (wrap64 ((b : Int) + t)) ((i + 1 : Nat) : Int)) (fun k => ?_) (Ev.bind (ih (mT x.f2[i]) (by omega) _ (Nat.le_refl _) (by omega)) ?_)
        · simp only [spec_l02Size.l0]
          rw [if_pos (by omega), if_pos (by omega), rdT_impl _ i hlt, wr (x := (i : Int) + 1) (by omega) (by omega)]
          rfl
        · rw [wr (by omega) (by omega), show (b : Int) + ((1 + mT x.f2[i] : Nat) : Int) = ((b + (1 + mT x.f2[i]) : Nat) : Int) by omega, show b + (1 + mT x.f2[i] + rT (x.f2.drop (i + 1))) = b + (1 + mT x.f2[i]) + rT (x.f2.drop (i + 1)) by omega]
          exact hnext
    have h := key x.f2.length 0 (by omega) 1 (by rw [List.drop_zero]; omega)
    rw [List.drop_zero, hr, ← hk] at h
    exact Ev.step (f := fun k => spec_l02Size.l0 k x 1 0) (fun k => by simp only [spec_l02Size.f]) h
theorem impl_GateSize_ev : ∀ (n : Nat) (a b : Int) (l : List S29), mL l ≤ n → n ≤ 1048576 → Ev (fun k => impl_GateSize.f k a b l) ((1 + mL l : Nat) : Int) := by
  intro n
  induction n using Nat.strongRecOn with
  | _ n ih =>
    intro a0 a1 l hn hm
    have hr := rT_mL l
    have hl := mL_len l
    have key : ∀ d i : Nat, i + d = l.length → ∀ b : Nat, b + rT (l.drop i) ≤ 1048577 → Ev (fun k => impl_GateSize.l0 k (b : Int) l (l.length : Int) (i : Int)) ((b + rT (l.drop i) : Nat) : Int) := by
      intro d
      induction d with
      | zero =>
        intro i hi b hb
        rw [List.drop_eq_nil_of_le (by omega), show b + rT [] = b from rfl]
        refine Ev.step (f := fun _ => some (b : Int)) (fun k => ?_) (Ev.now _)
        simp only [impl_GateSize.l0]
        rw [if_neg (by omega)]
      | succ d ihd =>
        intro i hi b hb
        have hlt : i < l.length := by omega
        have hx := mL_mem (List.getElem_mem hlt)
        have hk := mT_kids l[i]
        rw [List.drop_eq_getElem_cons hlt, show rT (l[i] :: l.drop (i + 1)) = (1 + mT l[i]) + rT (l.drop (i + 1)) from rfl] at hb ⊢
        have hnext := ihd (i + 1) (by omega) (b + (1 + mT l[i])) (by omega)
        refine Ev.step (f := fun k => (impl_GateSize.f k l[i].f0 l[i].f1 l[i].f2).bind fun t => impl_GateSize.l0 k (wrap64 ((b : Int) + t)) l (l.length : Int) ((i + 1 : Nat) : Int)) (fun k => ?_) (Ev.bind (ih (mL l[i].f2) (by omega) _ _ _ (Nat.le_refl _) (by omega)) ?_)
        · simp only [impl_GateSize.l0]
          rw [if_pos (by omega), if_pos (by omega), if_pos (by omega), rdT_impl _ i hlt, wr (x := (i : Int) + 1) (by omega) (by omega)]
          rfl
        · rw [← hk, wr (by omega) (by omega), show (b : Int) + ((1 + mT l[i] : Nat) : Int) = ((b + (1 + mT l[i]) : Nat) : Int) by omega, show b + (1 + mT l[i] + rT (l.drop (i + 1))) = b + (1 + mT l[i]) + rT (l.drop (i + 1)) by omega]
          exact hnext
    have h := key l.length 0 (by omega) 1 (by rw [List.drop_zero]; omega)
    rw [List.drop_zero, hr] at h
    exact Ev.step (f := fun k => impl_GateSize.l0 k 1 l (l.length : Int) 0) (fun k => by simp only [impl_GateSize.f]) h
theorem spec_GateSize_ev (a b : Int) (l : List S29) (h : mL l ≤ 1048576) : Ev (fun k => spec_GateSize.f k a b l) ((1 + mL l : Nat) : Int) := by
  have := spec_l02Size_ev (mT (⟨a, b, l⟩ : S29)) ⟨a, b, l⟩ (Nat.le_refl _) (by rw [mT_kids]; exact h)
  rw [mT_kids] at this
  exact this

end Go.Proofs.Ytjnobnmjhpmpfaa.P

namespace Go.Proofs.Ytjnobnmjhpmpfaa.P
open Go.RowKit Go.Proofs.YtjnobnmjhpmpfaaW.PrintWords Go.Proofs.YtjnobnmjhpmpfaaW.PrintLast Go.Proofs.YtjnobnmjhpmpfaaW.PrintMore
attribute [local go_sem] max2_int min2_int max_two min_two max_three min_three max_four min_four
set_option linter.unusedVariables false
set_option linter.unusedSimpArgs false

theorem idxG_ev (p : Nat → S29 → Option Bool) (q : S29 → Bool) (xs : List S29) (hlen : xs.length ≤ 4611686018427387904) (hp : ∀ x ∈ xs, Ev (fun k => p k x) (q x)) (hm : ∀ x k, LeO (p k x) (p (k + 1) x)) :
    ∀ d i : Nat, i + d = xs.length → ∃ r : Int, Ev (fun k => idxG.l0 k (p k) xs (i : Int)) r ∧ decide (0 ≤ r) = (xs.drop i).any q := by
  have up : ∀ {r : Int} {i : Int}, Ev (fun k => idxG.l0 k (p k) xs i) r → Ev (fun k => idxG.l0 k (p (k + 1)) xs i) r := by
    rintro r i ⟨K, h⟩
    exact ⟨K, fun k hk => idxG.mono_p _ _ _ _ _ (fun x => hm x k) r (h k hk)⟩
  have one : ∀ x ∈ xs, Ev (fun k => p (k + 1) x) (q x) := fun x hx => by
    obtain ⟨K, h⟩ := hp x hx
    exact ⟨K, fun k hk => h (k + 1) (by omega)⟩
  intro d
  induction d with
  | zero =>
    intro i hi
    refine ⟨-1, Ev.step (f := fun _ => some (-1)) (fun k => ?_) (Ev.now _), ?_⟩
    · simp only [idxG.l0]
      rw [if_neg (by omega)]
    · rw [List.drop_eq_nil_of_le (by omega)]; rfl
  | succ d ih =>
    intro i hi
    have hlt : i < xs.length := by omega
    obtain ⟨r, hr, hd⟩ := ih (i + 1) (by omega)
    have hx := one _ (List.getElem_mem hlt)
    rw [List.drop_eq_getElem_cons hlt, List.any_cons]
    have step : ∀ {r : Int}, Ev (fun k => (p (k + 1) xs[i]).bind fun t => if t = true then some (i : Int) else idxG.l0 k (p (k + 1)) xs ((i + 1 : Nat) : Int)) r → Ev (fun k => idxG.l0 k (p k) xs (i : Int)) r := fun h => by
      refine Ev.step (g := fun k => idxG.l0 k (p k) xs (i : Int)) (fun k => ?_) h
      simp only [idxG.l0]
      rw [if_pos (by omega), if_pos (by omega), rdT_impl xs i hlt, wr (by omega) (by omega)]
      rfl
    cases hq : q xs[i] with
    | true =>
      refine ⟨i, step (Ev.bind hx ?_), ?_⟩
      · simp only [hq, if_true]; exact Ev.now _
      · rw [Bool.true_or]; exact decide_eq_true (by omega)
    | false =>
      refine ⟨r, step (Ev.bind hx ?_), ?_⟩
      · simp only [hq]; exact up hr
      · rw [Bool.false_or]; exact hd
theorem hasG_ev (p : Nat → S29 → Option Bool) (q : S29 → Bool) (xs : List S29) (hlen : xs.length ≤ 4611686018427387904) (hp : ∀ x ∈ xs, Ev (fun k => p k x) (q x)) (hm : ∀ x k, LeO (p k x) (p (k + 1) x)) : Ev (fun k => hasG.f k (p k) xs) (xs.any q) := by
  obtain ⟨r, hr, hd⟩ := idxG_ev p q xs hlen hp hm xs.length 0 (by omega)
  rw [List.drop_zero] at hd
  rw [← hd]
  exact Ev.bind hr (Ev.now _)
theorem not_any_allG {α : Type} (l : List α) (q : α → Bool) : (!(l.any fun a => !q a)) = l.all q := by
  induction l with
  | nil => rfl
  | cons a l ih => rw [List.any_cons, List.all_cons, ← ih, Bool.not_or, Bool.not_not]
mutual
/-- How deep a gate is. -/
def dT : S29 → Nat
  | ⟨_, _, l⟩ => 1 + dL l
def dL : List S29 → Nat
  | [] => 0
  | x :: l => max (dT x) (dL l)
end
mutual
/-- Has a gate the form of one? -/
def fT (h : Int) : S29 → Bool
  | ⟨a, b, l⟩ => if l.isEmpty then (decide (b = 0) && decide (0 ≤ a ∧ a ≤ h - 1)) else (fL h l && (decide (a = -1) && decide (1 ≤ b ∧ b ≤ (l.length : Int))))
def fL (h : Int) : List S29 → Bool
  | [] => true
  | x :: l => fT h x && fL h l
end
theorem dT_parts (x : S29) : dT x = 1 + dL x.f2 := by cases x; simp only [dT]
theorem fT_parts (h : Int) (x : S29) : fT h x = if x.f2.isEmpty then (decide (x.f1 = 0) && decide (0 ≤ x.f0 ∧ x.f0 ≤ h - 1)) else (fL h x.f2 && (decide (x.f0 = -1) && decide (1 ≤ x.f1 ∧ x.f1 ≤ (x.f2.length : Int)))) := by cases x; simp only [fT]
theorem fL_all (h : Int) : ∀ l : List S29, fL h l = l.all (fT h)
  | [] => by simp only [fL, List.all_nil]
  | x :: l => by simp only [fL, List.all_cons, fL_all h l]
theorem dL_le : ∀ (l : List S29) (n : Nat), decide (dL l ≤ n) = l.all fun x => decide (dT x ≤ n)
  | [], n => by simp [dL]
  | x :: l, n => by
    have e : dL (x :: l) = max (dT x) (dL l) := by simp only [dL]
    rw [List.all_cons, ← dL_le l n]
    by_cases h1 : dT x ≤ n
    · by_cases h2 : dL l ≤ n
      · rw [decide_eq_true h1, decide_eq_true h2, decide_eq_true (show dL (x :: l) ≤ n by omega)]; rfl
      · rw [decide_eq_false h2, Bool.and_false, decide_eq_false (show ¬ dL (x :: l) ≤ n by omega)]
    · rw [decide_eq_false h1, Bool.false_and, decide_eq_false (show ¬ dL (x :: l) ≤ n by omega)]
theorem all_and {α : Type} (p q : α → Bool) (l : List α) : (l.all fun y => p y && q y) = (l.all p && l.all q) := by
  induction l with
  | nil => rfl
  | cons x l ih =>
    rw [List.all_cons, List.all_cons, List.all_cons, ih]
    cases p x <;> cases q x <;> simp
theorem dL_nil : dL [] = 0 := by simp only [dL]
theorem dL_cons (x : S29) (l : List S29) : dL (x :: l) = max (dT x) (dL l) := by simp only [dL]
theorem dL_mL : ∀ n, ∀ l : List S29, mL l ≤ n → dL l ≤ mL l := by
  intro n
  induction n with
  | zero =>
    intro l h
    cases l with
    | nil => rw [dL_nil]; exact Nat.zero_le _
    | cons x l => simp only [mL] at h; omega
  | succ n ih =>
    intro l h
    induction l with
    | nil => rw [dL_nil]; exact Nat.zero_le _
    | cons x l ihl =>
      rw [dL_cons, dT_parts]
      simp only [mL] at h ⊢
      have hk := mT_kids x
      have h1 := ih x.f2 (by omega)
      have h2 := ihl (by omega)
      exact Nat.max_le.mpr ⟨by omega, by omega⟩
/-- What is left: exact where it suffices, and less than 0 elsewhere. -/
theorem spec_l02Left_ev : ∀ (n : Nat) (x : S29), mT x ≤ n → n ≤ 1048576 → ∀ left : Int, 0 ≤ left → left ≤ 1048576 → ∃ t : Int, Ev (fun k => spec_l02Left.f k x left) t ∧ (((1 + mT x : Nat) : Int) ≤ left → t = left - ((1 + mT x : Nat) : Int)) ∧ (¬ ((1 + mT x : Nat) : Int) ≤ left → t < 0) ∧ -1 ≤ t := by
  intro n
  induction n using Nat.strongRecOn with
  | _ n ih =>
    intro x hn hm left h0 h1
    have hk := mT_kids x
    have hr := rT_mL x.f2
    have hl := mL_len x.f2
    have key : ∀ d i : Nat, i + d = x.f2.length → ∀ b : Int, -1 ≤ b → b ≤ 1048576 → ∃ t : Int, Ev (fun k => spec_l02Left.l0 k x b (i : Int)) t ∧ ((rT (x.f2.drop i) : Int) ≤ b → t = b - rT (x.f2.drop i)) ∧ (¬ (rT (x.f2.drop i) : Int) ≤ b → t < 0) ∧ -1 ≤ t := by
      intro d
      induction d with
      | zero =>
        intro i hi b hb0 hb1
        rw [List.drop_eq_nil_of_le (by omega), show rT [] = 0 from rfl]
        refine ⟨b, Ev.step (f := fun _ => some b) (fun k => ?_) (Ev.now _), fun _ => by omega, fun _ => by omega, hb0⟩
        simp only [spec_l02Left.l0]
        rw [if_neg (by omega)]
      | succ d ihd =>
        intro i hi b hb0 hb1
        have hlt : i < x.f2.length := by omega
        have hx := mL_mem (List.getElem_mem hlt)
        rw [List.drop_eq_getElem_cons hlt, show rT (x.f2[i] :: x.f2.drop (i + 1)) = (1 + mT x.f2[i]) + rT (x.f2.drop (i + 1)) from rfl]
        by_cases hb : b ≥ 0
        · obtain ⟨t, ht, h2, h3, h4⟩ := ih (mT x.f2[i]) (by omega) x.f2[i] (Nat.le_refl _) (by omega) b hb hb1
          have hle : t ≤ 1048576 := by
            by_cases q : ((1 + mT x.f2[i] : Nat) : Int) ≤ b
            · have := h2 q; omega
            · have := h3 q; omega
          obtain ⟨u, hu, g2, g3, g4⟩ := ihd (i + 1) (by omega) t h4 hle
          refine ⟨u, Ev.step (f := fun k => (spec_l02Left.f k x.f2[i] b).bind fun t => spec_l02Left.l0 k x t ((i + 1 : Nat) : Int)) (fun k => ?_) (Ev.bind ht hu), fun q => ?_, fun q => ?_, g4⟩
          · simp only [spec_l02Left.l0]
            rw [if_pos (by omega), if_pos hb, if_pos (by omega), rdT_impl _ i hlt, wr (x := (i : Int) + 1) (by omega) (by omega)]
            rfl
          · have e := h2 (by omega)
            have := g2 (by omega)
            omega
          · by_cases q2 : ((1 + mT x.f2[i] : Nat) : Int) ≤ b
            · have e := h2 q2
              exact g3 (by omega)
            · have e := h3 q2
              exact g3 (by omega)
        · refine ⟨b, Ev.step (f := fun _ => some b) (fun k => ?_) (Ev.now _), fun q => by omega, fun q => by omega, hb0⟩
          simp only [spec_l02Left.l0]
          rw [if_pos (by omega), if_neg hb]
    obtain ⟨t, ht, h2, h3, h4⟩ := key x.f2.length 0 (by omega) (left - 1) (by omega) (by omega)
    rw [List.drop_zero, hr, ← hk] at h2 h3
    refine ⟨t, Ev.step (f := fun k => spec_l02Left.l0 k x (left - 1) 0) (fun k => by simp only [spec_l02Left.f]; rw [wr (by omega) (by omega)]) ht, fun q => ?_, fun q => ?_, h4⟩
    · have := h2 (by omega); omega
    · exact h3 (by omega)
theorem max_eq (a b : Int) : spec_l00Max.f a b = some (max a b) := by
  unfold spec_l00Max.f
  by_cases h : a > b
  · rw [if_pos h]; exact congrArg some (by omega)
  · rw [if_neg h]; exact congrArg some (by omega)
theorem spec_l02Depth_ev : ∀ (n : Nat) (x : S29), mT x ≤ n → n ≤ 1048576 → Ev (fun k => spec_l02Depth.f k x) (dT x : Int) := by
  intro n
  induction n using Nat.strongRecOn with
  | _ n ih =>
    intro x hn hm
    have hk := mT_kids x
    have hl := mL_len x.f2
    have hd := dL_mL _ x.f2 (Nat.le_refl _)
    have key : ∀ d i : Nat, i + d = x.f2.length → ∀ b : Nat, b ≤ 1048577 → dL (x.f2.drop i) ≤ 1048577 → Ev (fun k => spec_l02Depth.l0 k x (b : Int) (i : Int)) ((1 + max b (dL (x.f2.drop i)) : Nat) : Int) := by
      intro d
      induction d with
      | zero =>
        intro i hi b hb _
        rw [List.drop_eq_nil_of_le (by omega), dL_nil]
        refine Ev.step (f := fun _ => some ((1 + max b 0 : Nat) : Int)) (fun k => ?_) (Ev.now _)
        simp only [spec_l02Depth.l0]
        rw [if_neg (by omega), wr (by omega) (by omega)]
        exact congrArg some (by omega)
      | succ d ihd =>
        intro i hi b hb hdl
        have hlt : i < x.f2.length := by omega
        have hx := mL_mem (List.getElem_mem hlt)
        rw [List.drop_eq_getElem_cons hlt, dL_cons] at hdl ⊢
        have hn2 := ihd (i + 1) (by omega) (max b (dT x.f2[i])) (by omega) (by omega)
        refine Ev.step (f := fun k => (spec_l02Depth.f k x.f2[i]).bind fun t => spec_l02Depth.l0 k x (max (b : Int) t) ((i + 1 : Nat) : Int)) (fun k => ?_) (Ev.bind (ih (mT x.f2[i]) (by omega) _ (Nat.le_refl _) (by omega)) ?_)
        · simp only [spec_l02Depth.l0, max_eq, Option.bind_some]
          rw [if_pos (by omega), if_pos (by omega), rdT_impl _ i hlt, wr (x := (i : Int) + 1) (by omega) (by omega)]
          rfl
        · rw [show max (b : Int) ((dT x.f2[i] : Nat) : Int) = ((max b (dT x.f2[i]) : Nat) : Int) by omega, show max b (max (dT x.f2[i]) (dL (x.f2.drop (i + 1)))) = max (max b (dT x.f2[i])) (dL (x.f2.drop (i + 1))) by omega]
          exact hn2
    have h := key x.f2.length 0 (by omega) 0 (by omega) (by rw [List.drop_zero]; omega)
    rw [List.drop_zero, Nat.zero_max, ← dT_parts] at h
    exact Ev.step (f := fun k => spec_l02Depth.l0 k x 0 0) (fun k => by simp only [spec_l02Depth.f]) h
theorem spec_l02Form_ev (h : Int) (hh : 1 ≤ h ∧ h ≤ 7) : ∀ (n : Nat) (x : S29), mT x ≤ n → n ≤ 1048576 → Ev (fun k => spec_l02Form.f k h x) (fT h x) := by
  intro n
  induction n using Nat.strongRecOn with
  | _ n ih =>
    intro x hn hm
    have hk := mT_kids x
    have hl := mL_len x.f2
    rw [fT_parts]
    by_cases c1 : (x.f2.length : Int) = 0
    · have e0 : x.f2.isEmpty = true := by
        rw [List.isEmpty_iff]
        exact List.eq_nil_of_length_eq_zero (by omega)
      rw [if_pos e0]
      refine Ev.step (f := fun _ => some (decide (x.f1 = 0) && decide (0 ≤ x.f0 ∧ x.f0 ≤ h - 1))) (fun k => ?_) (Ev.now _)
      simp only [spec_l02Form.f]
      rw [if_pos c1, wr (by omega) (by omega)]
      by_cases c2 : x.f1 = 0
      · rw [if_pos c2, spec_l00In_eq, decide_eq_true c2, Bool.true_and]
      · rw [if_neg c2, decide_eq_false c2, Bool.false_and]
    · have e0 : ¬ x.f2.isEmpty = true := by
        rw [List.isEmpty_iff]
        intro e
        rw [e] at c1
        exact c1 rfl
      rw [if_neg e0]
      have key : ∀ d i : Nat, i + d = x.f2.length → Ev (fun k => spec_l02Form.l0 k h x (i : Int)) (fL h (x.f2.drop i) && (decide (x.f0 = -1) && decide (1 ≤ x.f1 ∧ x.f1 ≤ (x.f2.length : Int)))) := by
        intro d
        induction d with
        | zero =>
          intro i hi
          rw [List.drop_eq_nil_of_le (by omega), show fL h [] = true from by simp only [fL], Bool.true_and]
          refine Ev.step (f := fun _ => some (decide (x.f0 = -1) && decide (1 ≤ x.f1 ∧ x.f1 ≤ (x.f2.length : Int)))) (fun k => ?_) (Ev.now _)
          simp only [spec_l02Form.l0]
          rw [if_neg (by omega)]
          by_cases c2 : x.f0 = -1
          · rw [if_pos c2, spec_l00In_eq, decide_eq_true c2, Bool.true_and]
          · rw [if_neg c2, decide_eq_false c2, Bool.false_and]
        | succ d ihd =>
          intro i hi
          have hlt : i < x.f2.length := by omega
          have hx := mL_mem (List.getElem_mem hlt)
          rw [List.drop_eq_getElem_cons hlt, show fL h (x.f2[i] :: x.f2.drop (i + 1)) = (fT h x.f2[i] && fL h (x.f2.drop (i + 1))) from by simp only [fL]]
          refine Ev.step (f := fun k => (spec_l02Form.f k h x.f2[i]).bind fun t => if t = true then spec_l02Form.l0 k h x ((i + 1 : Nat) : Int) else some false) (fun k => ?_) (Ev.bind (ih (mT x.f2[i]) (by omega) _ (Nat.le_refl _) (by omega)) ?_)
          · simp only [spec_l02Form.l0]
            rw [if_pos (by omega), if_pos (by omega), rdT_impl _ i hlt, wr (x := (i : Int) + 1) (by omega) (by omega)]
            rfl
          · cases fT h x.f2[i] with
            | true => rw [Bool.true_and]; exact ihd (i + 1) (by omega)
            | false => exact Ev.now _
      have hq := key x.f2.length 0 (by omega)
      rw [List.drop_zero] at hq
      exact Ev.step (f := fun k => spec_l02Form.l0 k h x 0) (fun k => by simp only [spec_l02Form.f]; rw [if_neg c1]) hq
theorem isFormed_ev (h : Int) (hh : 1 ≤ h ∧ h ≤ 7) : ∀ (d : Nat), d ≤ 1000 → ∀ x : S29, mT x ≤ 1048576 → Ev (fun k => impl_Gate_isFormed.f k x.f0 x.f1 x.f2 h (d : Int)) (decide (dT x ≤ d) && fT h x) := by
  intro d
  induction d with
  | zero =>
    intro hd x hm
    rw [decide_eq_false (by rw [dT_parts]; omega), Bool.false_and]
    exact Ev.step (f := fun _ => some false) (fun k => by simp only [impl_Gate_isFormed.f]; rw [if_pos (by omega)]) (Ev.now _)
  | succ d ih =>
    intro hd x hm
    have hk := mT_kids x
    have hl := mL_len x.f2
    rw [fT_parts]
    by_cases c1 : (x.f2.length : Int) = 0
    · have e1 : x.f2 = [] := List.eq_nil_of_length_eq_zero (by omega)
      have e0 : x.f2.isEmpty = true := by rw [List.isEmpty_iff]; exact e1
      rw [if_pos e0, decide_eq_true (by rw [dT_parts, e1, dL_nil]; omega), Bool.true_and]
      refine Ev.step (f := fun _ => some (decide (x.f1 = 0) && decide (0 ≤ x.f0 ∧ x.f0 ≤ h - 1))) (fun k => ?_) (Ev.now _)
      simp only [impl_Gate_isFormed.f]
      rw [if_neg (by omega), if_pos c1, impl_within_eq, wr (by omega) (by omega)]
      simp only [Option.bind_some]
      by_cases c2 : x.f1 = 0
      · rw [decide_eq_true c2, Bool.true_and, beq_iff_eq.mpr c2]
        cases decide (0 ≤ x.f0 ∧ x.f0 ≤ h - 1) <;> rfl
      · rw [decide_eq_false c2, Bool.false_and, beq_eq_false_iff_ne.mpr c2]
        cases decide (0 ≤ x.f0 ∧ x.f0 ≤ h - 1) <;> rfl
    · have e0 : ¬ x.f2.isEmpty = true := by
        rw [List.isEmpty_iff]
        intro e
        rw [e] at c1
        exact c1 rfl
      rw [if_neg e0, show decide (dT x ≤ d + 1) = decide (dL x.f2 ≤ d) from by rw [dT_parts]; by_cases q : dL x.f2 ≤ d; rw [decide_eq_true q, decide_eq_true (by omega)]; rw [decide_eq_false q, decide_eq_false (by omega)]]
      by_cases c2 : x.f0 = -1
      · cases hw : decide (1 ≤ x.f1 ∧ x.f1 ≤ (x.f2.length : Int)) with
        | false =>
          rw [Bool.and_false, Bool.and_false, Bool.and_false]
          refine Ev.step (f := fun _ => some false) (fun k => ?_) (Ev.now _)
          simp only [impl_Gate_isFormed.f]
          rw [if_neg (by omega), if_neg c1, if_pos c2, impl_within_eq, hw]
          rfl
        | true =>
          rw [decide_eq_true c2, Bool.true_and, Bool.and_true, dL_le, fL_all]
          have hb := hasG_ev (fun k y => (impl_Gate_isFormed.f k y.f0 y.f1 y.f2 h (d : Int)).bind fun t => some (!t)) (fun y => !(decide (dT y ≤ d) && fT h y)) x.f2 (by omega) (fun y hy => Ev.bind (ih (by omega) y (by have := mL_mem hy; omega)) (Ev.now _)) (fun y k => LeO.bind (impl_Gate_isFormed.mono_l k _ _ _ _ _) (fun _ => LeO.refl _))
          refine Ev.step (f := fun k => (hasG.f k (fun y => (impl_Gate_isFormed.f k y.f0 y.f1 y.f2 h (d : Int)).bind fun t => some (!t)) x.f2).bind fun v => some (!v)) (fun k => ?_) (Ev.bind hb ?_)
          · simp only [impl_Gate_isFormed.f]
            rw [if_neg (by omega), if_neg c1, if_pos c2, impl_within_eq, hw, wr (by omega) (by omega), show ((d + 1 : Nat) : Int) - 1 = (d : Int) by omega]
            rfl
          · rw [not_any_allG, show (x.f2.all fun y => decide (dT y ≤ d) && fT h y) = (x.f2.all (fun x => decide (dT x ≤ d)) && x.f2.all (fT h)) from all_and _ _ _]
            exact Ev.now _
      · rw [decide_eq_false c2, Bool.false_and, Bool.and_false, Bool.and_false]
        exact Ev.step (f := fun _ => some false) (fun k => by simp only [impl_Gate_isFormed.f]; rw [if_neg (by omega), if_neg c1, if_neg c2]) (Ev.now _)
/-- Is a gate valid? -/
def okT (h : Int) (x : S29) : Bool := decide (1 ≤ h ∧ h ≤ 7) && (decide (1 + mT x ≤ 60) && (decide (dT x ≤ 12) && fT h x))
theorem spec_ValidGate_ev (h a b : Int) (l : List S29) (hm : mL l ≤ 1048576) : Ev (fun k => spec_ValidGate.f k h a b l) (okT h ⟨a, b, l⟩) := by
  have hx : mT (⟨a, b, l⟩ : S29) ≤ 1048576 := by rw [mT_kids]; exact hm
  show Ev (fun k => spec_l02Ok.f k h ⟨a, b, l⟩) _
  generalize (⟨a, b, l⟩ : S29) = x at hx ⊢
  unfold spec_l02Ok.f okT
  rw [spec_l00In_eq]
  simp only [Option.bind_some]
  cases h1 : decide (1 ≤ h ∧ h ≤ 7) with
  | false => exact Ev.now _
  | true =>
    have hh := of_decide_eq_true h1
    simp only [if_true, Bool.true_and]
    obtain ⟨t, ht, g1, g2, _⟩ := spec_l02Left_ev _ x (Nat.le_refl _) hx 60 (by omega) (by omega)
    refine Ev.bind ht ?_
    by_cases c1 : 1 + mT x ≤ 60
    · have := g1 (by omega)
      simp only [if_pos (show t ≥ 0 by omega), decide_eq_true c1, Bool.true_and]
      refine Ev.bind (spec_l02Depth_ev _ x (Nat.le_refl _) hx) ?_
      by_cases c2 : dT x ≤ 12
      · simp only [if_pos (show (dT x : Int) ≤ 12 by omega), decide_eq_true c2, Bool.true_and]
        exact spec_l02Form_ev h hh _ x (Nat.le_refl _) hx
      · simp only [if_neg (show ¬ (dT x : Int) ≤ 12 by omega), decide_eq_false c2, Bool.false_and]
        exact Ev.now _
    · have := g2 (by omega)
      simp only [if_neg (show ¬ t ≥ 0 by omega), decide_eq_false c1, Bool.false_and]
      exact Ev.now _
theorem impl_ValidGate_ev (h a b : Int) (l : List S29) (hm : mL l ≤ 1048576) : Ev (fun k => impl_ValidGate.f k h a b l) (okT h ⟨a, b, l⟩) := by
  have hx : mT (⟨a, b, l⟩ : S29) ≤ 1048576 := by rw [mT_kids]; exact hm
  have hk : mT (⟨a, b, l⟩ : S29) = mL l := by rw [mT_kids]
  unfold impl_ValidGate.f okT
  rw [impl_within_eq]
  simp only [Option.bind_some]
  cases h1 : decide (1 ≤ h ∧ h ≤ 7) with
  | false => exact Ev.now _
  | true =>
    have hh := of_decide_eq_true h1
    simp only [if_true, Bool.true_and]
    refine Ev.bind (isFormed_ev h hh 12 (by omega) ⟨a, b, l⟩ hx) ?_
    cases decide (dT (⟨a, b, l⟩ : S29) ≤ 12) && fT h ⟨a, b, l⟩ with
    | false => rw [Bool.and_false]; exact Ev.now _
    | true =>
      rw [Bool.and_true, hk]
      simp only [if_true]
      refine Ev.bind (impl_GateSize_ev _ a b l (Nat.le_refl _) hm) ?_
      rw [show decide (((1 + mL l : Nat) : Int) ≤ 60) = decide (1 + mL l ≤ 60) from by by_cases q : 1 + mL l ≤ 60; rw [decide_eq_true q, decide_eq_true (by omega)]; rw [decide_eq_false q, decide_eq_false (by omega)]]
      exact Ev.now _

end Go.Proofs.Ytjnobnmjhpmpfaa.P

namespace Go.Proofs.Ytjnobnmjhpmpfaa.P
open Go.RowKit Go.Proofs.YtjnobnmjhpmpfaaW.PrintWords Go.Proofs.YtjnobnmjhpmpfaaW.PrintLast Go.Proofs.YtjnobnmjhpmpfaaW.PrintMore
attribute [local go_sem] max2_int min2_int max_two min_two max_three min_three max_four min_four
set_option linter.unusedVariables false
set_option linter.unusedSimpArgs false

/-! ### spec_l02Dual: function 52 (by hand) -/
mutual
def spec_l02Dual.l0 : Nat → S29 → List S29 → Int → Option S29
  | 0, _, _, _ => none
  | k + 1, x, out, i => if i < (x.f2.length : Int) then (if 0 ≤ i then ((spec_l02Dual.f k (rd_T29 x.f2 i)).bind fun t => if out.length < 1048576 then spec_l02Dual.l0 k x (out ++ [t]) (wrap64 (i + 1)) else none) else none) else some ⟨-1, wrap64 (wrap64 ((out.length : Int) - x.f1) + 1), out⟩
def spec_l02Dual.f : Nat → S29 → Option S29
  | 0, _ => none
  | k + 1, x => if (x.f2.length : Int) = 0 then some ⟨x.f0, 0, []⟩ else spec_l02Dual.l0 k x [] 0
end
theorem spec_l02Dual.mono_l : ∀ k, (∀ x out i, LeO (spec_l02Dual.l0 k x out i) (spec_l02Dual.l0 (k + 1) x out i)) ∧ (∀ x, LeO (spec_l02Dual.f k x) (spec_l02Dual.f (k + 1) x))
  | 0 => ⟨fun _ _ _ r h => by simp [spec_l02Dual.l0] at h, fun _ r h => by simp [spec_l02Dual.f] at h⟩
  | k + 1 => by
    obtain ⟨ih0, ih1⟩ := spec_l02Dual.mono_l k
    refine ⟨fun x out i => ?_, fun x => ?_⟩
    · unfold spec_l02Dual.l0; exact LeO.ite (LeO.ite (LeO.bind (ih1 _) (fun _ => LeO.ite (ih0 _ _ _) (LeO.refl _))) (LeO.refl _)) (LeO.refl _)
    · unfold spec_l02Dual.f; exact LeO.ite (LeO.refl _) (ih0 _ _ _)
theorem spec_l02Dual.mono : ∀ x k, LeO (spec_l02Dual.f k x) (spec_l02Dual.f (k + 1) x) := fun x k => (spec_l02Dual.mono_l k).2 x
set_option maxHeartbeats 8000000 in
set_option maxRecDepth 100000 in
theorem spec_l02Dual.calls (k : Nat) : ∀ (ad : Addr) (x y : S29) (w : World) (hp : Kd.C k29 w (some ad) 1 [x]) (h : spec_l02Dual.f k x = some y),
    Calls Try.prog 52 #[.pointer (some ad)] w fun e w' => ∃ v, e = .returned (.agg #[.int .i64 y.f0, .int .i64 y.f1, v]) ∧ Kd.S kG 29 w' w.heap.size (fun _ => True) v y.f2 ∧ Below w.heap.size w w' := by
  induction k using Nat.strongRecOn with
  | _ k ih =>
  intro ad x y w hp h
  cases k with
  | zero => exact absurd h (by simp [spec_l02Dual.f])
  | succ k =>
  simp only [spec_l02Dual.f] at h
  obtain ⟨A, c, hx0, hx1, hx2, hl, hC⟩ := gate_at hp
  have hq0 := Aside0.mk hx0
  have hq1 := Aside0.mk hx1
  have hq2 := Aside0.mk hx2
  have HC := Aside0.mk hC
  have IH := Aside0.mk ih
  have HB := Aside0.mk (Below.refl w.heap.size w)
  have hu29 := Try.underlying29
  clear hp hC hl ih
  by_cases c0 : (x.f2.length : Int) = 0
  · rw [if_pos c0] at h
    obtain rfl := Option.some.inj h
    clear h
    have c0b : ((x.f2.length : Int) == 0) = true := beq_iff_eq.mpr c0
    replace c0 := Aside0.mk c0
    go_enter Try.func52, Try.ntmps52
    go_wp2_with (first | ((with_reducible refine gate_dst (N := 2) rfl ?_); refine box_event ?hg (N := 2) ?hd (cs := #[.int .i64 0, .int .i64 0, .slice none 0 0]) (t := 29) ?hr ?_; (case hd => rfl); (case hg => rfl); (case hr => first | (go_simp; done) | (go_simp; rfl)); intro g2 hg w1 hbox hb; have n0_ := Aside0.mk (below_step (by repeat (first | (with_reducible first | exact HB.out | apply below_alloc | apply pw_below_drewN | apply below_drew1) | exact HB.out)) hb); have GW_g2 := Aside0.mk ((by rw [hg]; exact below_size (by repeat (first | (with_reducible first | exact HB.out | apply below_alloc | apply pw_below_drewN | apply below_drew1) | exact HB.out))) : w.heap.size ≤ g2); clear hx0 hx1 hx2; clear HB ; have HB := n0_; clear n0_; have BK_g2 := Aside0.mk hbox; clear hbox hb hg; have hz_g20 : w1.cell? ⟨g2, 0, none⟩ = some (.int .i64 0) := (blk_cell BK_g2.out 0).trans rfl; have hz_g2f0 := blk_frozen BK_g2.out 0; have hz_g21 : w1.cell? ⟨g2, 1, none⟩ = some (.int .i64 0) := (blk_cell BK_g2.out 1).trans rfl; have hz_g2f1 := blk_frozen BK_g2.out 1; have hz_g22 : w1.cell? ⟨g2, 2, none⟩ = some (.slice none 0 0) := (blk_cell BK_g2.out 2).trans rfl; have hz_g2f2 := blk_frozen BK_g2.out 2; have hx0 : w1.cell? ad = some (.int .i64 x.f0) := (HB.out.cell (World.block_lt_of_cell? w _ hq0.out)).trans hq0.out; have hx1 : w1.cell? ⟨ad.block, ad.off + 1, none⟩ = some (.int .i64 x.f1) := (HB.out.cell (World.block_lt_of_cell? w _ hq1.out)).trans hq1.out; have hx2 : w1.cell? ⟨ad.block, ad.off + 2, none⟩ = some (.slice A x.f2.length c) := (HB.out.cell (World.block_lt_of_cell? w _ hq2.out)).trans hq2.out) | (go_at_call 62; (with_reducible refine (spec_l02Leaf.callsT x.f0 _).mono ?_); rintro e w3 ⟨rfl, hb⟩; have n0_ := Aside0.mk (below_step (by repeat (first | (with_reducible first | exact HB.out | apply below_alloc | apply pw_below_drewN | apply below_drew1) | exact HB.out)) hb); have n1_ := Aside0.mk (blk_below (g := g2) (o := .cells #[.int .i64 0, .int .i64 0, .slice none 0 0] 29 (0, 0)) (by (with_reducible repeat (first | refine blk_drewN ?_ _ | refine blk_drew ?_ | refine blk_alloc ?_ _)); exact BK_g2.out) hb); clear HB BK_g2 hz_g20 hz_g2f0 hz_g21 hz_g2f1 hz_g22 hz_g2f2 hx0 hx1 hx2 hb; have HB := n0_; have BK_g2 := n1_; clear n0_ n1_; have hx0 : w3.cell? ad = some (.int .i64 x.f0) := (HB.out.cell (World.block_lt_of_cell? w _ hq0.out)).trans hq0.out; have hx1 : w3.cell? ⟨ad.block, ad.off + 1, none⟩ = some (.int .i64 x.f1) := (HB.out.cell (World.block_lt_of_cell? w _ hq1.out)).trans hq1.out; have hx2 : w3.cell? ⟨ad.block, ad.off + 2, none⟩ = some (.slice A x.f2.length c) := (HB.out.cell (World.block_lt_of_cell? w _ hq2.out)).trans hq2.out; have hz_g20 : w3.cell? ⟨g2, 0, none⟩ = some (.int .i64 0) := (blk_cell BK_g2.out 0).trans rfl; have hz_g2f0 := blk_frozen BK_g2.out 0; have hz_g21 : w3.cell? ⟨g2, 1, none⟩ = some (.int .i64 0) := (blk_cell BK_g2.out 1).trans rfl; have hz_g2f1 := blk_frozen BK_g2.out 1; have hz_g22 : w3.cell? ⟨g2, 2, none⟩ = some (.slice none 0 0) := (blk_cell BK_g2.out 2).trans rfl; have hz_g2f2 := blk_frozen BK_g2.out 2))
    refine bodyPost_ret (results_cell_row rfl _ _ g2 29 #[.int .i64 x.f0, .int .i64 0, .slice none 0 0] (0, 0) _ rfl (by (with_reducible repeat (first | refine blk_drewN ?_ _ | refine blk_drew ?_ | refine blk_alloc ?_ _)); refine blk_put (cs := #[.int .i64 x.f0, .int .i64 0, .slice none 0 0]) ?_ 2 _ rfl; (with_reducible repeat (first | refine blk_drewN ?_ _ | refine blk_drew ?_ | refine blk_alloc ?_ _)); refine blk_put (cs := #[.int .i64 x.f0, .int .i64 0, .slice none 0 0]) ?_ 1 _ rfl; (with_reducible repeat (first | refine blk_drewN ?_ _ | refine blk_drew ?_ | refine blk_alloc ?_ _)); refine blk_put (cs := #[.int .i64 0, .int .i64 0, .slice none 0 0]) ?_ 0 _ rfl; (with_reducible repeat (first | refine blk_drewN ?_ _ | refine blk_drew ?_ | refine blk_alloc ?_ _)); exact BK_g2.out) Try.underlying29 rfl (by kernel_rfl)) rfl ?_
    exact ⟨_, rfl, Kd.S_nil _ _ _ _ _, (by repeat (first | (with_reducible first | exact HB.out | apply below_alloc | apply pw_below_drewN | apply below_drew1 | refine below_set ?_ GW_g2.out) | exact HB.out))⟩
  · rw [if_neg c0] at h
    have A1 := Aside0.mk h
    clear h
    have c0b : ((x.f2.length : Int) == 0) = false := beq_eq_false_iff_ne.mpr c0
    replace c0 := Aside0.mk c0
    go_enter Try.func52, Try.ntmps52
    go_wp2_with (first | ((with_reducible refine gate_dst (N := 2) rfl ?_); refine box_event ?hg (N := 2) ?hd (cs := #[.int .i64 0, .int .i64 0, .slice none 0 0]) (t := 29) ?hr ?_; (case hd => rfl); (case hg => rfl); (case hr => first | (go_simp; done) | (go_simp; rfl)); intro g2 hg w1 hbox hb; have n0_ := Aside0.mk (below_step (by repeat (first | (with_reducible first | exact HB.out | apply below_alloc | apply pw_below_drewN | apply below_drew1) | exact HB.out)) hb); have GW_g2 := Aside0.mk ((by rw [hg]; exact below_size (by repeat (first | (with_reducible first | exact HB.out | apply below_alloc | apply pw_below_drewN | apply below_drew1) | exact HB.out))) : w.heap.size ≤ g2); clear hx0 hx1 hx2; clear HB ; have HB := n0_; clear n0_; have BK_g2 := Aside0.mk hbox; clear hbox hb hg; have hz_g20 : w1.cell? ⟨g2, 0, none⟩ = some (.int .i64 0) := (blk_cell BK_g2.out 0).trans rfl; have hz_g2f0 := blk_frozen BK_g2.out 0; have hz_g21 : w1.cell? ⟨g2, 1, none⟩ = some (.int .i64 0) := (blk_cell BK_g2.out 1).trans rfl; have hz_g2f1 := blk_frozen BK_g2.out 1; have hz_g22 : w1.cell? ⟨g2, 2, none⟩ = some (.slice none 0 0) := (blk_cell BK_g2.out 2).trans rfl; have hz_g2f2 := blk_frozen BK_g2.out 2; have hx0 : w1.cell? ad = some (.int .i64 x.f0) := (HB.out.cell (World.block_lt_of_cell? w _ hq0.out)).trans hq0.out; have hx1 : w1.cell? ⟨ad.block, ad.off + 1, none⟩ = some (.int .i64 x.f1) := (HB.out.cell (World.block_lt_of_cell? w _ hq1.out)).trans hq1.out; have hx2 : w1.cell? ⟨ad.block, ad.off + 2, none⟩ = some (.slice A x.f2.length c) := (HB.out.cell (World.block_lt_of_cell? w _ hq2.out)).trans hq2.out) | ((with_reducible refine gate_dst (N := 16) rfl ?_); refine Kd.S_lit kG _ 29 ?hg (N := 16) ?hd (xs := ([] : List S29)) (inner := []) (ok := fun k_ => g2 < k_) (okp := fun k_ => g2 < k_) ?hr ?hp (fun _ hk => hk) (blk_lt (o := .cells #[.int .i64 0, .int .i64 0, .slice none 0 0] 29 (0, 0)) (by (with_reducible repeat (first | refine blk_drewN ?_ _ | refine blk_drew ?_ | refine blk_alloc ?_ _)); exact BK_g2.out)) (Below.refl _ _) (Nat.le_refl _) (by simp) ?_; (case hd => rfl); (case hg => rfl); (case hr => first | (go_simp; done) | (go_simp; rfl)); (case hp => exact (Reps.none _ _)); intro v16 w4 ho3 hb hg_ hnew_; clear hg_ hnew_; have HO := Aside0.mk (Kd.S_lower (base' := w.heap.size) ho3 (below_size (by repeat (first | (with_reducible first | exact HB.out | apply below_alloc | apply pw_below_drewN | apply below_drew1) | exact HB.out)))); clear ho3; have n0_ := Aside0.mk (below_step (by repeat (first | (with_reducible first | exact HB.out | apply below_alloc | apply pw_below_drewN | apply below_drew1) | exact HB.out)) hb); have n1_ := Aside0.mk (blk_below (g := g2) (o := .cells #[.int .i64 0, .int .i64 0, .slice none 0 0] 29 (0, 0)) (by (with_reducible repeat (first | refine blk_drewN ?_ _ | refine blk_drew ?_ | refine blk_alloc ?_ _)); exact BK_g2.out) hb); clear HB BK_g2 hz_g20 hz_g2f0 hz_g21 hz_g2f1 hz_g22 hz_g2f2 hx0 hx1 hx2 hb; have HB := n0_; have BK_g2 := n1_; clear n0_ n1_; have hx0 : w4.cell? ad = some (.int .i64 x.f0) := (HB.out.cell (World.block_lt_of_cell? w _ hq0.out)).trans hq0.out; have hx1 : w4.cell? ⟨ad.block, ad.off + 1, none⟩ = some (.int .i64 x.f1) := (HB.out.cell (World.block_lt_of_cell? w _ hq1.out)).trans hq1.out; have hx2 : w4.cell? ⟨ad.block, ad.off + 2, none⟩ = some (.slice A x.f2.length c) := (HB.out.cell (World.block_lt_of_cell? w _ hq2.out)).trans hq2.out; have hz_g20 : w4.cell? ⟨g2, 0, none⟩ = some (.int .i64 0) := (blk_cell BK_g2.out 0).trans rfl; have hz_g2f0 := blk_frozen BK_g2.out 0; have hz_g21 : w4.cell? ⟨g2, 1, none⟩ = some (.int .i64 0) := (blk_cell BK_g2.out 1).trans rfl; have hz_g2f1 := blk_frozen BK_g2.out 1; have hz_g22 : w4.cell? ⟨g2, 2, none⟩ = some (.slice none 0 0) := (blk_cell BK_g2.out 2).trans rfl; have hz_g2f2 := blk_frozen BK_g2.out 2))
    go_loopg [3, 4] k (fun kq v3 v4 w' => ∃ (i : Int) (out : List S29), v4 = .int .i64 i ∧ Aside0 (spec_l02Dual.l0 kq x out i = some y) ∧ Aside0 (kq ≤ k) ∧ Aside0 (Kd.S kG 29 w' w.heap.size (fun k_ => g2 < k_) v3 out) ∧ Aside0 (w'.heap[g2]? = some (.cells #[.int .i64 0, .int .i64 0, .slice none 0 0] 29 (0, 0))) ∧ Aside0 (Below w.heap.size w w'))
    case atStart => exact ⟨0, [], rfl, A1, ⟨Nat.le_refl _⟩, ⟨by (with_reducible repeat (first | apply Kd.S_alloc | apply Kd.S_drewN | apply Kd.S_drew)); exact HO.out⟩, ⟨(by (with_reducible repeat (first | refine blk_drewN ?_ _ | refine blk_drew ?_ | refine blk_alloc ?_ _)); exact BK_g2.out)⟩, ⟨(by repeat (first | (with_reducible first | exact HB.out | apply below_alloc | apply pw_below_drewN | apply below_drew1) | exact HB.out))⟩⟩
    case round =>
      clear A1 HO BK_g2 HB hx0 hx1 hx2 hz_g20 hz_g2f0 hz_g21 hz_g2f1 hz_g22 hz_g2f2
      obtain ⟨i, out, rfl, HA, HK1, HO, BK_g2, HB⟩ := hrel
      have HLr : Aside0 (g2 < wr.heap.size) := ⟨blk_lt BK_g2.out⟩
      have hx0 : wr.cell? ad = some (.int .i64 x.f0) := (HB.out.cell (World.block_lt_of_cell? w _ hq0.out)).trans hq0.out
      have hx1 : wr.cell? ⟨ad.block, ad.off + 1, none⟩ = some (.int .i64 x.f1) := (HB.out.cell (World.block_lt_of_cell? w _ hq1.out)).trans hq1.out
      have hx2 : wr.cell? ⟨ad.block, ad.off + 2, none⟩ = some (.slice A x.f2.length c) := (HB.out.cell (World.block_lt_of_cell? w _ hq2.out)).trans hq2.out
      have hz_g20 : wr.cell? ⟨g2, 0, none⟩ = some (.int .i64 0) := (blk_cell BK_g2.out 0).trans rfl
      have hz_g2f0 := blk_frozen BK_g2.out 0
      have hz_g21 : wr.cell? ⟨g2, 1, none⟩ = some (.int .i64 0) := (blk_cell BK_g2.out 1).trans rfl
      have hz_g2f1 := blk_frozen BK_g2.out 1
      have hz_g22 : wr.cell? ⟨g2, 2, none⟩ = some (.slice none 0 0) := (blk_cell BK_g2.out 2).trans rfl
      have hz_g2f2 := blk_frozen BK_g2.out 2
      cases gk with
      | zero => exact absurd HA.out (by simp [spec_l02Dual.l0])
      | succ k1 =>
        have H' := HA.out
        clear HA
        simp only [spec_l02Dual.l0] at H'
        by_cases c6 : i < (x.f2.length : Int)
        · rw [if_pos c6] at H'
          by_cases c7 : 0 ≤ i
          case neg => rw [if_neg c7] at H'; exact absurd H' (by simp)
          rw [if_pos c7] at H'
          replace H' := Option.bind_eq_some_iff.mp H'
          obtain ⟨t, At, H'⟩ := H'
          have A7 := Aside0.mk At
          clear At
          by_cases c8 : out.length < 1048576
          case neg => rw [if_neg c8] at H'; exact absurd H' (by simp)
          rw [if_pos c8] at H'
          have LM := Aside0.mk c8
          have HF := Aside0.mk H'
          clear H' c8
          have c6b0 : decide (i < (x.f2.length : Int)) = true := decide_eq_true c6
          have c7b0 : decide (0 ≤ i) = true := decide_eq_true c7
          obtain ⟨ad2, A2, c2, e2, _⟩ := at_T29 HC.out i c7 c6
          cases e2
          have HE := Aside0.mk (gate_el HC.out i c7 c6)
          replace c7 := eq_true c7
          replace c6 := eq_true c6
          go_wp2_with (first | (go_at_call 52; (with_reducible refine (IH.out k1 (by have := HK1.out; omega) _ (rd_T29 x.f2 i) t _ ?sP A7.out).mono ?_); (case sP => exact Kd.C_below HE.out (by repeat (first | (with_reducible first | exact HB.out | apply below_alloc | apply pw_below_drewN | apply below_drew1) | exact HB.out))); rintro e w6 ⟨v, rfl, hS, hb⟩; have n2_ := Aside0.mk (Kd.S_old (by (with_reducible repeat (first | apply Kd.S_alloc | apply Kd.S_drewN | apply Kd.S_drew)); exact HO.out) hb); have HSv := Aside0.mk (Kd.S_lower (base' := w.heap.size) (Kd.S_mono (Kd.S_bound hS) (ok' := fun k_ => wr.heap.size ≤ k_) (fun k_ hk_ => hk_.2.1)) (below_size (by repeat (first | (with_reducible first | exact HB.out | apply below_alloc | apply pw_below_drewN | apply below_drew1) | exact HB.out)))); obtain ⟨Av, cv, ev⟩ := Kd.S_slice HSv.out; subst ev; clear hS HO; have HO : Aside0 (Kd.S kG 29 w6 w.heap.size (fun k_ => g2 < k_ ∧ k_ < wr.heap.size) u3 out) := n2_; clear n2_; have HZ6 : Aside0 (wr.heap.size ≤ w6.heap.size) := ⟨hb.size⟩; have n0_ := Aside0.mk (below_step (by repeat (first | (with_reducible first | exact HB.out | apply below_alloc | apply pw_below_drewN | apply below_drew1) | exact HB.out)) hb); have n1_ := Aside0.mk (blk_below (g := g2) (o := .cells #[.int .i64 0, .int .i64 0, .slice none 0 0] 29 (0, 0)) (by (with_reducible repeat (first | refine blk_drewN ?_ _ | refine blk_drew ?_ | refine blk_alloc ?_ _)); exact BK_g2.out) hb); clear HB BK_g2 hz_g20 hz_g2f0 hz_g21 hz_g2f1 hz_g22 hz_g2f2 hx0 hx1 hx2 hb; have HB := n0_; have BK_g2 := n1_; clear n0_ n1_; have hx0 : w6.cell? ad = some (.int .i64 x.f0) := (HB.out.cell (World.block_lt_of_cell? w _ hq0.out)).trans hq0.out; have hx1 : w6.cell? ⟨ad.block, ad.off + 1, none⟩ = some (.int .i64 x.f1) := (HB.out.cell (World.block_lt_of_cell? w _ hq1.out)).trans hq1.out; have hx2 : w6.cell? ⟨ad.block, ad.off + 2, none⟩ = some (.slice (some ad2) x.f2.length c) := (HB.out.cell (World.block_lt_of_cell? w _ hq2.out)).trans hq2.out; have hz_g20 : w6.cell? ⟨g2, 0, none⟩ = some (.int .i64 0) := (blk_cell BK_g2.out 0).trans rfl; have hz_g2f0 := blk_frozen BK_g2.out 0; have hz_g21 : w6.cell? ⟨g2, 1, none⟩ = some (.int .i64 0) := (blk_cell BK_g2.out 1).trans rfl; have hz_g2f1 := blk_frozen BK_g2.out 1; have hz_g22 : w6.cell? ⟨g2, 2, none⟩ = some (.slice none 0 0) := (blk_cell BK_g2.out 2).trans rfl; have hz_g2f2 := blk_frozen BK_g2.out 2) | ((with_reducible refine gate_builtin (b := .append) (xs := #[.tmp 26, .tmp 34]) rfl ?_); at_builtin; refine Kd.S_append kG (w0 := w) w.heap.size rfl (.tmp 26) (.tmp 34) 27 29 (.agg #[.int .i64 0, .int .i64 0, .slice none 0 0]) 40 rfl Try.underlying27 info29 rfl (by decide) (by omega) u3 out t [.int .i64 t.f0, .int .i64 t.f1, .slice Av t.f2.length cv] (fun k_ => g2 < k_) (fun k_ => wr.heap.size ≤ k_) rfl rfl ?aP ?aK ?aF ?aO ?aB ?aS ?aL ?_; (case aP => exact kG_mkM (x := t) HSv.out); (case aK => exact fun k_ hk_ => ⟨Nat.lt_of_lt_of_le HLr.out hk_, fun e_ => by have h_ := ((Kd.S_R HO.out).1 k_ e_.symm).2; omega⟩); (case aF => exact fun k_ hk_ => Nat.lt_of_lt_of_le (blk_lt BK_g2.out) hk_); (case aO => exact Kd.S_mono HO.out (fun k_ hk_ => ⟨hk_.1, Nat.not_le.2 hk_.2⟩)); (case aB => exact HB.out); (case aS => exact below_size HB.out); (case aL => have := LM.out; omega); intro v7b w7 ho hb hg hat; have hown : ∀ k_, (u3 : Value).ownBlock = some k_ → g2 < k_ := fun k_ e_ => ((Kd.S_R HO.out).1 k_ e_).1; have n1_ := Aside0.mk (blk_grown (g := g2) (o := .cells #[.int .i64 0, .int .i64 0, .slice none 0 0] 29 (0, 0)) BK_g2.out hg (fun e_ => by have := hown _ e_.symm; omega)); have HO7 := Aside0.mk ho; have HB7 := Aside0.mk hb; have B27 := n1_; clear n1_ ho hb hg hat hown HO BK_g2 HB HSv hx0 hx1 hx2 hz_g20 hz_g2f0 hz_g21 hz_g2f1 hz_g22 hz_g2f2))
          go_roundg k1
          case measure => have := HK1.out; omega
          case rel => exact ⟨_, out ++ [t], rfl, HF, ⟨by have := HK1.out; omega⟩, HO7, B27, HB7⟩
        · rw [if_neg c6] at H'
          obtain rfl := Option.some.inj H'
          clear H'
          have c6b0 : decide (i < (x.f2.length : Int)) = false := decide_eq_false c6
          clear c6
          obtain ⟨Ao, co, eo⟩ := Kd.S_slice HO.out
          subst eo
          go_wp2_with (first | (go_at_call 63; (with_reducible refine (spec_l02Gate.callsT (wrap64 (wrap64 ((out.length : Int) - x.f1) + 1)) Ao out.length co _).mono ?_); rintro e w8 ⟨rfl, hb⟩; have n2_ := Aside0.mk (Kd.S_below (by (with_reducible repeat (first | apply Kd.S_alloc | apply Kd.S_drewN | apply Kd.S_drew)); exact HO.out) hb); clear HO; have HO := n2_; clear n2_; have n0_ := Aside0.mk (below_step (by repeat (first | (with_reducible first | exact HB.out | apply below_alloc | apply pw_below_drewN | apply below_drew1) | exact HB.out)) hb); have n1_ := Aside0.mk (blk_below (g := g2) (o := .cells #[.int .i64 0, .int .i64 0, .slice none 0 0] 29 (0, 0)) (by (with_reducible repeat (first | refine blk_drewN ?_ _ | refine blk_drew ?_ | refine blk_alloc ?_ _)); exact BK_g2.out) hb); clear HB BK_g2 hz_g20 hz_g2f0 hz_g21 hz_g2f1 hz_g22 hz_g2f2 hx0 hx1 hx2 hb; have HB := n0_; have BK_g2 := n1_; clear n0_ n1_; have hx0 : w8.cell? ad = some (.int .i64 x.f0) := (HB.out.cell (World.block_lt_of_cell? w _ hq0.out)).trans hq0.out; have hx1 : w8.cell? ⟨ad.block, ad.off + 1, none⟩ = some (.int .i64 x.f1) := (HB.out.cell (World.block_lt_of_cell? w _ hq1.out)).trans hq1.out; have hx2 : w8.cell? ⟨ad.block, ad.off + 2, none⟩ = some (.slice A x.f2.length c) := (HB.out.cell (World.block_lt_of_cell? w _ hq2.out)).trans hq2.out; have hz_g20 : w8.cell? ⟨g2, 0, none⟩ = some (.int .i64 0) := (blk_cell BK_g2.out 0).trans rfl; have hz_g2f0 := blk_frozen BK_g2.out 0; have hz_g21 : w8.cell? ⟨g2, 1, none⟩ = some (.int .i64 0) := (blk_cell BK_g2.out 1).trans rfl; have hz_g2f1 := blk_frozen BK_g2.out 1; have hz_g22 : w8.cell? ⟨g2, 2, none⟩ = some (.slice none 0 0) := (blk_cell BK_g2.out 2).trans rfl; have hz_g2f2 := blk_frozen BK_g2.out 2))
          refine bodyPost_ret (results_cell_row rfl _ _ g2 29 #[.int .i64 (-1), .int .i64 (wrap64 (wrap64 ((out.length : Int) - x.f1) + 1)), .slice Ao out.length co] (0, 0) _ rfl (by (with_reducible repeat (first | refine blk_drewN ?_ _ | refine blk_drew ?_ | refine blk_alloc ?_ _)); refine blk_put (cs := #[.int .i64 (-1), .int .i64 (wrap64 (wrap64 ((out.length : Int) - x.f1) + 1)), .slice none 0 0]) ?_ 2 _ rfl; (with_reducible repeat (first | refine blk_drewN ?_ _ | refine blk_drew ?_ | refine blk_alloc ?_ _)); refine blk_put (cs := #[.int .i64 (-1), .int .i64 0, .slice none 0 0]) ?_ 1 _ rfl; (with_reducible repeat (first | refine blk_drewN ?_ _ | refine blk_drew ?_ | refine blk_alloc ?_ _)); refine blk_put (cs := #[.int .i64 0, .int .i64 0, .slice none 0 0]) ?_ 0 _ rfl; (with_reducible repeat (first | refine blk_drewN ?_ _ | refine blk_drew ?_ | refine blk_alloc ?_ _)); exact BK_g2.out) Try.underlying29 rfl (by kernel_rfl)) rfl ?_
          exact ⟨_, rfl, Kd.S_mono (Kd.S_far (p := ⟨g2, 2, none⟩) (Kd.S_far (p := ⟨g2, 1, none⟩) (Kd.S_far (p := ⟨g2, 0, none⟩) HO.out (fun k_ hk_ => by have h_ : g2 < k_ := hk_; show k_ ≠ g2; omega) _) (fun k_ hk_ => by have h_ : g2 < k_ := hk_; show k_ ≠ g2; omega) _) (fun k_ hk_ => by have h_ : g2 < k_ := hk_; show k_ ≠ g2; omega) _) (fun _ _ => trivial), (by repeat (first | (with_reducible first | exact HB.out | apply below_alloc | apply pw_below_drewN | apply below_drew1 | refine below_set ?_ GW_g2.out) | exact HB.out))⟩

end Go.Proofs.Ytjnobnmjhpmpfaa.P

namespace Go.Proofs.Ytjnobnmjhpmpfaa.P
open Go.RowKit Go.Proofs.YtjnobnmjhpmpfaaW.PrintWords Go.Proofs.YtjnobnmjhpmpfaaW.PrintLast Go.Proofs.YtjnobnmjhpmpfaaW.PrintMore
attribute [local go_sem] max2_int min2_int max_two min_two max_three min_three max_four min_four
set_option linter.unusedVariables false
set_option linter.unusedSimpArgs false

/-! ### spec_DualGate: function 21 (by hand) -/
def spec_DualGate.f (k : Nat) (a0 : Int) (a1_0 : Int) (a1_1 : Int) (l1_2 : List S29) : Option (Int × Int × List S29 × Int) := (spec_l02Ok.f k a0 ⟨a1_0, a1_1, l1_2⟩).bind fun t => (if t = true then ((spec_l02Dual.f k ⟨a1_0, a1_1, l1_2⟩).bind fun y => some (y.f0, y.f1, y.f2, 0)) else (some (0, 0, ([] : List S29), 1)))
theorem spec_DualGate.mono : ∀ a0 a1 a2 a3 k, LeO (spec_DualGate.f k a0 a1 a2 a3) (spec_DualGate.f (k + 1) a0 a1 a2 a3) := by
  intro a0 a1 a2 a3 k
  unfold spec_DualGate.f
  exact LeO.bind (spec_l02Ok.mono _ _ _) (fun _ => LeO.ite (LeO.bind (spec_l02Dual.mono _ _) (fun _ => LeO.refl _)) (LeO.refl _))
set_option maxHeartbeats 8000000 in
set_option maxRecDepth 100000 in
theorem spec_DualGate.calls (k : Nat) (a0 : Int) (a1_0 : Int) (a1_1 : Int) (A1_2 : Option Addr) (c1_2 : Nat) (l1_2 : List S29) (r1 : Int) (r2 : Int) (r3 : List S29) (r4 : Int) (w : World) (hr1_2 : Kd.C k29 w A1_2 l1_2.length l1_2) (hc1_2 : l1_2.length ≤ c1_2) (h : spec_DualGate.f k a0 a1_0 a1_1 l1_2 = some (r1, r2, r3, r4)) :
    Calls Try.prog 21 #[.int .i64 a0, .agg #[.int .i64 a1_0, .int .i64 a1_1, .slice A1_2 l1_2.length c1_2]] w fun e w' => ∃ v2_ : Value, e = .returned (.tuple #[.agg #[.int .i64 r1, .int .i64 r2, v2_], .int .i64 r4]) ∧ Kd.S kG 29 w' w.heap.size (fun _ => True) v2_ r3 ∧ Below w.heap.size w w' := by
  have hu29 := Try.underlying29
  have HR := Aside0.mk hr1_2
  have HC := Aside0.mk hc1_2
  clear hr1_2 hc1_2
  have HB := Aside0.mk (Below.refl w.heap.size w)
  unfold spec_DualGate.f at h
  replace h := Option.bind_eq_some_iff.mp h
  obtain ⟨t, At, H⟩ := h
  have A3 := Aside0.mk At
  clear At
  by_cases c4 : t = true
  · subst c4
    rw [if_pos rfl] at H
    replace H := Option.bind_eq_some_iff.mp H
    obtain ⟨y, At, H⟩ := H
    have A4 := Aside0.mk At
    clear At
    simp only [Option.some.injEq, Prod.mk.injEq] at H
    obtain ⟨rfl, rfl, rfl, rfl⟩ := H
    go_enter Try.func21, Try.ntmps21
    go_wp2_with (first | ((with_reducible refine gate_dst (N := 3) rfl ?_); refine box_event ?hg (N := 3) ?hd (cs := #[.int .i64 a1_0, .int .i64 a1_1, .slice A1_2 l1_2.length c1_2]) (t := 29) ?hr ?_; (case hd => rfl); (case hg => rfl); (case hr => first | (go_simp; done) | (go_simp; rfl)); intro g3 hg w1 hbox hb; have n0_ := Aside0.mk (below_step (by repeat (first | (with_reducible first | exact HB.out | apply below_alloc | apply pw_below_drewN | apply below_drew1) | exact HB.out)) hb); have GW_g3 := Aside0.mk ((by rw [hg]; exact below_size (by repeat (first | (with_reducible first | exact HB.out | apply below_alloc | apply pw_below_drewN | apply below_drew1) | exact HB.out))) : w.heap.size ≤ g3); clear HB ; have HB := n0_; clear n0_; have BK_g3 := Aside0.mk hbox; clear hbox hb hg; have hz_g30 : w1.cell? ⟨g3, 0, none⟩ = some (.int .i64 a1_0) := (blk_cell BK_g3.out 0).trans rfl; have hz_g3f0 := blk_frozen BK_g3.out 0; have hz_g31 : w1.cell? ⟨g3, 1, none⟩ = some (.int .i64 a1_1) := (blk_cell BK_g3.out 1).trans rfl; have hz_g3f1 := blk_frozen BK_g3.out 1; have hz_g32 : w1.cell? ⟨g3, 2, none⟩ = some (.slice A1_2 l1_2.length c1_2) := (blk_cell BK_g3.out 2).trans rfl; have hz_g3f2 := blk_frozen BK_g3.out 2) | ((with_reducible refine gate_dst (N := 4) rfl ?_); refine box_event ?hg (N := 4) ?hd (cs := #[.int .i64 0, .int .i64 0, .slice none 0 0]) (t := 29) ?hr ?_; (case hd => rfl); (case hg => rfl); (case hr => first | (go_simp; done) | (go_simp; rfl)); intro g4 hg w2 hbox hb; have n0_ := Aside0.mk (below_step (by repeat (first | (with_reducible first | exact HB.out | apply below_alloc | apply pw_below_drewN | apply below_drew1) | exact HB.out)) hb); have n1_ := Aside0.mk (blk_below (g := g3) (o := .cells #[.int .i64 a1_0, .int .i64 a1_1, .slice A1_2 l1_2.length c1_2] 29 (0, 0)) (by (with_reducible repeat (first | refine blk_drewN ?_ _ | refine blk_drew ?_ | refine blk_alloc ?_ _)); exact BK_g3.out) hb); have GW_g4 := Aside0.mk ((by rw [hg]; exact below_size (by repeat (first | (with_reducible first | exact HB.out | apply below_alloc | apply pw_below_drewN | apply below_drew1) | exact HB.out))) : w.heap.size ≤ g4); clear HB BK_g3; have HB := n0_; clear n0_; (try clear hz_g30 hz_g3f0 hz_g31 hz_g3f1 hz_g32 hz_g3f2); have BK_g3 := n1_; clear n1_; have BK_g4 := Aside0.mk hbox; clear hbox hb hg; have hz_g30 : w2.cell? ⟨g3, 0, none⟩ = some (.int .i64 a1_0) := (blk_cell BK_g3.out 0).trans rfl; have hz_g3f0 := blk_frozen BK_g3.out 0; have hz_g31 : w2.cell? ⟨g3, 1, none⟩ = some (.int .i64 a1_1) := (blk_cell BK_g3.out 1).trans rfl; have hz_g3f1 := blk_frozen BK_g3.out 1; have hz_g32 : w2.cell? ⟨g3, 2, none⟩ = some (.slice A1_2 l1_2.length c1_2) := (blk_cell BK_g3.out 2).trans rfl; have hz_g3f2 := blk_frozen BK_g3.out 2; have hz_g40 : w2.cell? ⟨g4, 0, none⟩ = some (.int .i64 0) := (blk_cell BK_g4.out 0).trans rfl; have hz_g4f0 := blk_frozen BK_g4.out 0; have hz_g41 : w2.cell? ⟨g4, 1, none⟩ = some (.int .i64 0) := (blk_cell BK_g4.out 1).trans rfl; have hz_g4f1 := blk_frozen BK_g4.out 1; have hz_g42 : w2.cell? ⟨g4, 2, none⟩ = some (.slice none 0 0) := (blk_cell BK_g4.out 2).trans rfl; have hz_g4f2 := blk_frozen BK_g4.out 2) | (go_at_call 49; (with_reducible refine (spec_l02Ok.calls k a0 _ ⟨a1_0, a1_1, l1_2⟩ true _ ?side1 A3.out).mono ?_); (case side1 => exact gate_box (by (with_reducible repeat (first | refine blk_drewN ?_ _ | refine blk_drew ?_ | refine blk_alloc ?_ _)); exact BK_g3.out) (Kd.C_below HR.out (by repeat (first | (with_reducible first | exact HB.out | apply below_alloc | apply pw_below_drewN | apply below_drew1) | exact HB.out))) HC.out); rintro e w' ⟨rfl, ⟨nd, rfl⟩⟩) | (go_at_call 52; (with_reducible refine (spec_l02Dual.calls k _ ⟨a1_0, a1_1, l1_2⟩ y _ ?sP A4.out).mono ?_); (case sP => exact gate_box (by (with_reducible repeat (first | refine blk_drewN ?_ _ | refine blk_drew ?_ | refine blk_alloc ?_ _)); exact BK_g3.out) (Kd.C_below HR.out (by repeat (first | (with_reducible first | exact HB.out | apply below_alloc | apply pw_below_drewN | apply below_drew1) | exact HB.out))) HC.out); rintro e w6 ⟨v, rfl, hS, hb⟩; have HSv := Aside0.mk (Kd.S_lower (base' := w.heap.size) (Kd.S_mono (Kd.S_bound hS) (ok' := fun k_ => g4 < k_) (fun k_ hk_ => by have h1_ := hk_.2.1; have h2_ := blk_lt (o := .cells #[.int .i64 0, .int .i64 0, .slice none 0 0] 29 (0, 0)) (by (with_reducible repeat (first | refine blk_drewN ?_ _ | refine blk_drew ?_ | refine blk_alloc ?_ _)); exact BK_g4.out); exact Nat.lt_of_lt_of_le h2_ h1_)) (below_size (by repeat (first | (with_reducible first | exact HB.out | apply below_alloc | apply pw_below_drewN | apply below_drew1) | exact HB.out)))); obtain ⟨Av, cv, ev⟩ := Kd.S_slice HSv.out; subst ev; have n2_ := Aside0.mk (blk_below (g := g4) (o := .cells #[.int .i64 0, .int .i64 0, .slice none 0 0] 29 (0, 0)) (by (with_reducible repeat (first | refine blk_drewN ?_ _ | refine blk_drew ?_ | refine blk_alloc ?_ _)); exact BK_g4.out) hb); clear hS BK_g3 BK_g4 hz_g30 hz_g3f0 hz_g31 hz_g3f1 hz_g32 hz_g3f2 hz_g40 hz_g4f0 hz_g41 hz_g4f1 hz_g42 hz_g4f2; have BK_g4 := n2_; clear n2_; have hz_g40 : w6.cell? ⟨g4, 0, none⟩ = some (.int .i64 0) := (blk_cell BK_g4.out 0).trans rfl; have hz_g4f0 := blk_frozen BK_g4.out 0; have hz_g41 : w6.cell? ⟨g4, 1, none⟩ = some (.int .i64 0) := (blk_cell BK_g4.out 1).trans rfl; have hz_g4f1 := blk_frozen BK_g4.out 1; have hz_g42 : w6.cell? ⟨g4, 2, none⟩ = some (.slice none 0 0) := (blk_cell BK_g4.out 2).trans rfl; have hz_g4f2 := blk_frozen BK_g4.out 2; have n0_ := Aside0.mk (below_step (by repeat (first | (with_reducible first | exact HB.out | apply below_alloc | apply pw_below_drewN | apply below_drew1) | exact HB.out)) hb); clear HB hb; have HB := n0_; clear n0_))
    refine bodyPost_ret (results_ct rfl _ _ g4 29 #[.int .i64 y.f0, .int .i64 y.f1, .slice Av y.f2.length cv] (0, 0) _ rfl (by (with_reducible repeat (first | refine blk_drewN ?_ _ | refine blk_drew ?_ | refine blk_alloc ?_ _)); refine blk_put (cs := #[.int .i64 y.f0, .int .i64 y.f1, .slice none 0 0]) ?_ 2 _ rfl; (with_reducible repeat (first | refine blk_drewN ?_ _ | refine blk_drew ?_ | refine blk_alloc ?_ _)); refine blk_put (cs := #[.int .i64 y.f0, .int .i64 0, .slice none 0 0]) ?_ 1 _ rfl; (with_reducible repeat (first | refine blk_drewN ?_ _ | refine blk_drew ?_ | refine blk_alloc ?_ _)); refine blk_put (cs := #[.int .i64 0, .int .i64 0, .slice none 0 0]) ?_ 0 _ rfl; (with_reducible repeat (first | refine blk_drewN ?_ _ | refine blk_drew ?_ | refine blk_alloc ?_ _)); exact BK_g4.out) Try.underlying29 rfl (by kernel_rfl)) rfl ?_
    exact ⟨_, rfl, Kd.S_mono (Kd.S_far (p := ⟨g4, 2, none⟩) (Kd.S_far (p := ⟨g4, 1, none⟩) (Kd.S_far (p := ⟨g4, 0, none⟩) HSv.out (fun k_ hk_ => by have h_ : g4 < k_ := hk_; show k_ ≠ g4; omega) _) (fun k_ hk_ => by have h_ : g4 < k_ := hk_; show k_ ≠ g4; omega) _) (fun k_ hk_ => by have h_ : g4 < k_ := hk_; show k_ ≠ g4; omega) _) (fun _ _ => trivial), (by repeat (first | (with_reducible first | exact HB.out | apply below_alloc | apply pw_below_drewN | apply below_drew1 | refine below_set ?_ GW_g4.out) | exact HB.out))⟩
  · replace c4 := Bool.eq_false_iff.mpr c4
    subst c4
    rw [if_neg (show ¬ (false = true) by decide)] at H
    simp only [Option.some.injEq, Prod.mk.injEq] at H
    obtain ⟨rfl, rfl, rfl, rfl⟩ := H
    go_enter Try.func21, Try.ntmps21
    go_wp2_with (first | ((with_reducible refine gate_dst (N := 3) rfl ?_); refine box_event ?hg (N := 3) ?hd (cs := #[.int .i64 a1_0, .int .i64 a1_1, .slice A1_2 l1_2.length c1_2]) (t := 29) ?hr ?_; (case hd => rfl); (case hg => rfl); (case hr => first | (go_simp; done) | (go_simp; rfl)); intro g3 hg w1 hbox hb; have n0_ := Aside0.mk (below_step (by repeat (first | (with_reducible first | exact HB.out | apply below_alloc | apply pw_below_drewN | apply below_drew1) | exact HB.out)) hb); have GW_g3 := Aside0.mk ((by rw [hg]; exact below_size (by repeat (first | (with_reducible first | exact HB.out | apply below_alloc | apply pw_below_drewN | apply below_drew1) | exact HB.out))) : w.heap.size ≤ g3); clear HB ; have HB := n0_; clear n0_; have BK_g3 := Aside0.mk hbox; clear hbox hb hg; have hz_g30 : w1.cell? ⟨g3, 0, none⟩ = some (.int .i64 a1_0) := (blk_cell BK_g3.out 0).trans rfl; have hz_g3f0 := blk_frozen BK_g3.out 0; have hz_g31 : w1.cell? ⟨g3, 1, none⟩ = some (.int .i64 a1_1) := (blk_cell BK_g3.out 1).trans rfl; have hz_g3f1 := blk_frozen BK_g3.out 1; have hz_g32 : w1.cell? ⟨g3, 2, none⟩ = some (.slice A1_2 l1_2.length c1_2) := (blk_cell BK_g3.out 2).trans rfl; have hz_g3f2 := blk_frozen BK_g3.out 2) | ((with_reducible refine gate_dst (N := 4) rfl ?_); refine box_event ?hg (N := 4) ?hd (cs := #[.int .i64 0, .int .i64 0, .slice none 0 0]) (t := 29) ?hr ?_; (case hd => rfl); (case hg => rfl); (case hr => first | (go_simp; done) | (go_simp; rfl)); intro g4 hg w2 hbox hb; have n0_ := Aside0.mk (below_step (by repeat (first | (with_reducible first | exact HB.out | apply below_alloc | apply pw_below_drewN | apply below_drew1) | exact HB.out)) hb); have n1_ := Aside0.mk (blk_below (g := g3) (o := .cells #[.int .i64 a1_0, .int .i64 a1_1, .slice A1_2 l1_2.length c1_2] 29 (0, 0)) (by (with_reducible repeat (first | refine blk_drewN ?_ _ | refine blk_drew ?_ | refine blk_alloc ?_ _)); exact BK_g3.out) hb); have GW_g4 := Aside0.mk ((by rw [hg]; exact below_size (by repeat (first | (with_reducible first | exact HB.out | apply below_alloc | apply pw_below_drewN | apply below_drew1) | exact HB.out))) : w.heap.size ≤ g4); clear HB BK_g3; have HB := n0_; clear n0_; (try clear hz_g30 hz_g3f0 hz_g31 hz_g3f1 hz_g32 hz_g3f2); have BK_g3 := n1_; clear n1_; have BK_g4 := Aside0.mk hbox; clear hbox hb hg; have hz_g30 : w2.cell? ⟨g3, 0, none⟩ = some (.int .i64 a1_0) := (blk_cell BK_g3.out 0).trans rfl; have hz_g3f0 := blk_frozen BK_g3.out 0; have hz_g31 : w2.cell? ⟨g3, 1, none⟩ = some (.int .i64 a1_1) := (blk_cell BK_g3.out 1).trans rfl; have hz_g3f1 := blk_frozen BK_g3.out 1; have hz_g32 : w2.cell? ⟨g3, 2, none⟩ = some (.slice A1_2 l1_2.length c1_2) := (blk_cell BK_g3.out 2).trans rfl; have hz_g3f2 := blk_frozen BK_g3.out 2; have hz_g40 : w2.cell? ⟨g4, 0, none⟩ = some (.int .i64 0) := (blk_cell BK_g4.out 0).trans rfl; have hz_g4f0 := blk_frozen BK_g4.out 0; have hz_g41 : w2.cell? ⟨g4, 1, none⟩ = some (.int .i64 0) := (blk_cell BK_g4.out 1).trans rfl; have hz_g4f1 := blk_frozen BK_g4.out 1; have hz_g42 : w2.cell? ⟨g4, 2, none⟩ = some (.slice none 0 0) := (blk_cell BK_g4.out 2).trans rfl; have hz_g4f2 := blk_frozen BK_g4.out 2) | (go_at_call 49; (with_reducible refine (spec_l02Ok.calls k a0 _ ⟨a1_0, a1_1, l1_2⟩ false _ ?side1 A3.out).mono ?_); (case side1 => exact gate_box (by (with_reducible repeat (first | refine blk_drewN ?_ _ | refine blk_drew ?_ | refine blk_alloc ?_ _)); exact BK_g3.out) (Kd.C_below HR.out (by repeat (first | (with_reducible first | exact HB.out | apply below_alloc | apply pw_below_drewN | apply below_drew1) | exact HB.out))) HC.out); rintro e w' ⟨rfl, ⟨nd, rfl⟩⟩))
    refine bodyPost_ret (results_ct rfl _ _ g4 29 #[.int .i64 0, .int .i64 0, .slice none 0 0] (0, 0) _ rfl (by (with_reducible repeat (first | refine blk_drewN ?_ _ | refine blk_drew ?_ | refine blk_alloc ?_ _)); refine blk_put (cs := #[.int .i64 0, .int .i64 0, .slice none 0 0]) ?_ 2 _ rfl; (with_reducible repeat (first | refine blk_drewN ?_ _ | refine blk_drew ?_ | refine blk_alloc ?_ _)); refine blk_put (cs := #[.int .i64 0, .int .i64 0, .slice none 0 0]) ?_ 1 _ rfl; (with_reducible repeat (first | refine blk_drewN ?_ _ | refine blk_drew ?_ | refine blk_alloc ?_ _)); refine blk_put (cs := #[.int .i64 0, .int .i64 0, .slice none 0 0]) ?_ 0 _ rfl; (with_reducible repeat (first | refine blk_drewN ?_ _ | refine blk_drew ?_ | refine blk_alloc ?_ _)); exact BK_g4.out) Try.underlying29 rfl (by kernel_rfl)) rfl ?_
    exact ⟨_, rfl, Kd.S_nil _ _ _ _ _, (by repeat (first | (with_reducible first | exact HB.out | apply below_alloc | apply pw_below_drewN | apply below_drew1 | refine below_set ?_ GW_g4.out) | exact HB.out))⟩

end Go.Proofs.Ytjnobnmjhpmpfaa.P

namespace Go.Proofs.Ytjnobnmjhpmpfaa.P
open Go.RowKit Go.Proofs.YtjnobnmjhpmpfaaW.PrintWords Go.Proofs.YtjnobnmjhpmpfaaW.PrintLast Go.Proofs.YtjnobnmjhpmpfaaW.PrintMore
attribute [local go_sem] max2_int min2_int max_two min_two max_three min_three max_four min_four
set_option linter.unusedVariables false
set_option linter.unusedSimpArgs false

/-! ### impl_DualGate: function 22 (by hand) -/
def impl_DualGate.f (k : Nat) (a0 : Int) (a1_0 : Int) (a1_1 : Int) (l1_2 : List S29) : Option (Int × Int × List S29 × Int) := (impl_ValidGate.f k a0 a1_0 a1_1 l1_2).bind fun t => (if t = true then ((mapB.f leafD dualD k () ⟨a1_0, a1_1, l1_2⟩).bind fun y => some (y.1.f0, y.1.f1, y.1.f2, 0)) else (some (0, 0, ([] : List S29), 1)))
theorem impl_DualGate.mono : ∀ a0 a1 a2 a3 k, LeO (impl_DualGate.f k a0 a1 a2 a3) (impl_DualGate.f (k + 1) a0 a1 a2 a3) := by
  intro a0 a1 a2 a3 k
  unfold impl_DualGate.f
  exact LeO.bind (impl_ValidGate.mono _ _ _ _ _) (fun _ => LeO.ite (LeO.bind ((mapB.mono_l (fun _ _ _ => LeO.refl _) (fun _ _ _ => LeO.refl _) _).2 _ _) (fun _ => LeO.refl _)) (LeO.refl _))
set_option maxHeartbeats 8000000 in
set_option maxRecDepth 100000 in
theorem impl_DualGate.calls (k : Nat) (a0 : Int) (a1_0 : Int) (a1_1 : Int) (A1_2 : Option Addr) (c1_2 : Nat) (l1_2 : List S29) (r1 : Int) (r2 : Int) (r3 : List S29) (r4 : Int) (w : World) (hr1_2 : Kd.C k29 w A1_2 l1_2.length l1_2) (hc1_2 : l1_2.length ≤ c1_2) (h : impl_DualGate.f k a0 a1_0 a1_1 l1_2 = some (r1, r2, r3, r4)) :
    Calls Try.prog 22 #[.int .i64 a0, .agg #[.int .i64 a1_0, .int .i64 a1_1, .slice A1_2 l1_2.length c1_2]] w fun e w' => ∃ v2_ : Value, e = .returned (.tuple #[.agg #[.int .i64 r1, .int .i64 r2, v2_], .int .i64 r4]) ∧ Kd.S kG 29 w' w.heap.size (fun _ => True) v2_ r3 ∧ Below w.heap.size w w' := by
  have hu29 := Try.underlying29
  have HR := Aside0.mk hr1_2
  have HC := Aside0.mk hc1_2
  clear hr1_2 hc1_2
  have HB := Aside0.mk (Below.refl w.heap.size w)
  unfold impl_DualGate.f at h
  replace h := Option.bind_eq_some_iff.mp h
  obtain ⟨t, At, H⟩ := h
  have A3 := Aside0.mk At
  clear At
  by_cases c4 : t = true
  · subst c4
    rw [if_pos rfl] at H
    replace H := Option.bind_eq_some_iff.mp H
    obtain ⟨⟨y, ⟨⟩⟩, At, H⟩ := H
    have A4 := Aside0.mk At
    clear At
    simp only [Option.some.injEq, Prod.mk.injEq] at H
    obtain ⟨rfl, rfl, rfl, rfl⟩ := H
    go_enter Try.func22, Try.ntmps22
    go_wp2_with (first | ((with_reducible refine gate_dst (N := 3) rfl ?_); refine box_event ?hg (N := 3) ?hd (cs := #[.int .i64 a1_0, .int .i64 a1_1, .slice A1_2 l1_2.length c1_2]) (t := 29) ?hr ?_; (case hd => rfl); (case hg => rfl); (case hr => first | (go_simp; done) | (go_simp; rfl)); intro g3 hg w1 hbox hb; have n0_ := Aside0.mk (below_step (by repeat (first | (with_reducible first | exact HB.out | apply below_alloc | apply pw_below_drewN | apply below_drew1) | exact HB.out)) hb); have GW_g3 := Aside0.mk ((by rw [hg]; exact below_size (by repeat (first | (with_reducible first | exact HB.out | apply below_alloc | apply pw_below_drewN | apply below_drew1) | exact HB.out))) : w.heap.size ≤ g3); clear HB ; have HB := n0_; clear n0_; have BK_g3 := Aside0.mk hbox; clear hbox hb hg; have hz_g30 : w1.cell? ⟨g3, 0, none⟩ = some (.int .i64 a1_0) := (blk_cell BK_g3.out 0).trans rfl; have hz_g3f0 := blk_frozen BK_g3.out 0; have hz_g31 : w1.cell? ⟨g3, 1, none⟩ = some (.int .i64 a1_1) := (blk_cell BK_g3.out 1).trans rfl; have hz_g3f1 := blk_frozen BK_g3.out 1; have hz_g32 : w1.cell? ⟨g3, 2, none⟩ = some (.slice A1_2 l1_2.length c1_2) := (blk_cell BK_g3.out 2).trans rfl; have hz_g3f2 := blk_frozen BK_g3.out 2) | ((with_reducible refine gate_dst (N := 4) rfl ?_); refine box_event ?hg (N := 4) ?hd (cs := #[.int .i64 0, .int .i64 0, .slice none 0 0]) (t := 29) ?hr ?_; (case hd => rfl); (case hg => rfl); (case hr => first | (go_simp; done) | (go_simp; rfl)); intro g4 hg w2 hbox hb; have n0_ := Aside0.mk (below_step (by repeat (first | (with_reducible first | exact HB.out | apply below_alloc | apply pw_below_drewN | apply below_drew1) | exact HB.out)) hb); have n1_ := Aside0.mk (blk_below (g := g3) (o := .cells #[.int .i64 a1_0, .int .i64 a1_1, .slice A1_2 l1_2.length c1_2] 29 (0, 0)) (by (with_reducible repeat (first | refine blk_drewN ?_ _ | refine blk_drew ?_ | refine blk_alloc ?_ _)); exact BK_g3.out) hb); have GW_g4 := Aside0.mk ((by rw [hg]; exact below_size (by repeat (first | (with_reducible first | exact HB.out | apply below_alloc | apply pw_below_drewN | apply below_drew1) | exact HB.out))) : w.heap.size ≤ g4); clear HB BK_g3; have HB := n0_; clear n0_; (try clear hz_g30 hz_g3f0 hz_g31 hz_g3f1 hz_g32 hz_g3f2); have BK_g3 := n1_; clear n1_; have BK_g4 := Aside0.mk hbox; clear hbox hb hg; have hz_g30 : w2.cell? ⟨g3, 0, none⟩ = some (.int .i64 a1_0) := (blk_cell BK_g3.out 0).trans rfl; have hz_g3f0 := blk_frozen BK_g3.out 0; have hz_g31 : w2.cell? ⟨g3, 1, none⟩ = some (.int .i64 a1_1) := (blk_cell BK_g3.out 1).trans rfl; have hz_g3f1 := blk_frozen BK_g3.out 1; have hz_g32 : w2.cell? ⟨g3, 2, none⟩ = some (.slice A1_2 l1_2.length c1_2) := (blk_cell BK_g3.out 2).trans rfl; have hz_g3f2 := blk_frozen BK_g3.out 2; have hz_g40 : w2.cell? ⟨g4, 0, none⟩ = some (.int .i64 0) := (blk_cell BK_g4.out 0).trans rfl; have hz_g4f0 := blk_frozen BK_g4.out 0; have hz_g41 : w2.cell? ⟨g4, 1, none⟩ = some (.int .i64 0) := (blk_cell BK_g4.out 1).trans rfl; have hz_g4f1 := blk_frozen BK_g4.out 1; have hz_g42 : w2.cell? ⟨g4, 2, none⟩ = some (.slice none 0 0) := (blk_cell BK_g4.out 2).trans rfl; have hz_g4f2 := blk_frozen BK_g4.out 2) | (go_at_call 20; (with_reducible refine (impl_ValidGate.calls k a0 a1_0 a1_1 _ _ l1_2 true _ ?side1 ?side2 A3.out).mono ?_); (case side1 => exact Kd.C_below HR.out (by repeat (first | (with_reducible first | exact HB.out | apply below_alloc | apply pw_below_drewN | apply below_drew1) | exact HB.out))); (case side2 => exact HC.out); rintro e w5 ⟨rfl, hb⟩; have n0_ := Aside0.mk (below_step (by repeat (first | (with_reducible first | exact HB.out | apply below_alloc | apply pw_below_drewN | apply below_drew1) | exact HB.out)) hb); have n1_ := Aside0.mk (blk_below (g := g3) (o := .cells #[.int .i64 a1_0, .int .i64 a1_1, .slice A1_2 l1_2.length c1_2] 29 (0, 0)) (by (with_reducible repeat (first | refine blk_drewN ?_ _ | refine blk_drew ?_ | refine blk_alloc ?_ _)); exact BK_g3.out) hb); have n2_ := Aside0.mk (blk_below (g := g4) (o := .cells #[.int .i64 0, .int .i64 0, .slice none 0 0] 29 (0, 0)) (by (with_reducible repeat (first | refine blk_drewN ?_ _ | refine blk_drew ?_ | refine blk_alloc ?_ _)); exact BK_g4.out) hb); clear HB BK_g3 BK_g4 hz_g30 hz_g3f0 hz_g31 hz_g3f1 hz_g32 hz_g3f2 hz_g40 hz_g4f0 hz_g41 hz_g4f1 hz_g42 hz_g4f2 hb; have HB := n0_; have BK_g3 := n1_; have BK_g4 := n2_; clear n0_ n1_ n2_; have hz_g30 : w5.cell? ⟨g3, 0, none⟩ = some (.int .i64 a1_0) := (blk_cell BK_g3.out 0).trans rfl; have hz_g3f0 := blk_frozen BK_g3.out 0; have hz_g31 : w5.cell? ⟨g3, 1, none⟩ = some (.int .i64 a1_1) := (blk_cell BK_g3.out 1).trans rfl; have hz_g3f1 := blk_frozen BK_g3.out 1; have hz_g32 : w5.cell? ⟨g3, 2, none⟩ = some (.slice A1_2 l1_2.length c1_2) := (blk_cell BK_g3.out 2).trans rfl; have hz_g3f2 := blk_frozen BK_g3.out 2; have hz_g40 : w5.cell? ⟨g4, 0, none⟩ = some (.int .i64 0) := (blk_cell BK_g4.out 0).trans rfl; have hz_g4f0 := blk_frozen BK_g4.out 0; have hz_g41 : w5.cell? ⟨g4, 1, none⟩ = some (.int .i64 0) := (blk_cell BK_g4.out 1).trans rfl; have hz_g4f1 := blk_frozen BK_g4.out 1; have hz_g42 : w5.cell? ⟨g4, 2, none⟩ = some (.slice none 0 0) := (blk_cell BK_g4.out 2).trans rfl; have hz_g4f2 := blk_frozen BK_g4.out 2) | (go_at_call 53; (with_reducible refine (mapB.calls (mapDual w) k () () ⟨a1_0, a1_1, l1_2⟩ y A1_2 c1_2 _ ?sB ?sN trivial HR.out HC.out A4.out).mono ?_); (case sB => exact (by repeat (first | (with_reducible first | exact HB.out | apply below_alloc | apply pw_below_drewN | apply below_drew1) | exact HB.out))); (case sN => exact below_size (by repeat (first | (with_reducible first | exact HB.out | apply below_alloc | apply pw_below_drewN | apply below_drew1) | exact HB.out))); rintro e w6 ⟨v, rfl, hS, hB6, hk6, _⟩; have HSv := Aside0.mk (Kd.S_lower (base' := w.heap.size) (Kd.S_mono (Kd.S_bound hS) (ok' := fun k_ => g4 < k_) (fun k_ hk_ => by have h1_ := hk_.2.1; have h2_ := blk_lt (o := .cells #[.int .i64 0, .int .i64 0, .slice none 0 0] 29 (0, 0)) (by (with_reducible repeat (first | refine blk_drewN ?_ _ | refine blk_drew ?_ | refine blk_alloc ?_ _)); exact BK_g4.out); exact Nat.lt_of_lt_of_le h2_ h1_)) (below_size (by repeat (first | (with_reducible first | exact HB.out | apply below_alloc | apply pw_below_drewN | apply below_drew1) | exact HB.out)))); obtain ⟨Av, cv, ev⟩ := Kd.S_slice HSv.out; subst ev; have n2_ := Aside0.mk (blk_kept (g := g4) (o := .cells #[.int .i64 0, .int .i64 0, .slice none 0 0] 29 (0, 0)) (by (with_reducible repeat (first | refine blk_drewN ?_ _ | refine blk_drew ?_ | refine blk_alloc ?_ _)); exact BK_g4.out) hk6 (fun h_ => h_.elim)); clear hS BK_g3 BK_g4 hz_g30 hz_g3f0 hz_g31 hz_g3f1 hz_g32 hz_g3f2 hz_g40 hz_g4f0 hz_g41 hz_g4f1 hz_g42 hz_g4f2; have BK_g4 := n2_; clear n2_; have hz_g40 : w6.cell? ⟨g4, 0, none⟩ = some (.int .i64 0) := (blk_cell BK_g4.out 0).trans rfl; have hz_g4f0 := blk_frozen BK_g4.out 0; have hz_g41 : w6.cell? ⟨g4, 1, none⟩ = some (.int .i64 0) := (blk_cell BK_g4.out 1).trans rfl; have hz_g4f1 := blk_frozen BK_g4.out 1; have hz_g42 : w6.cell? ⟨g4, 2, none⟩ = some (.slice none 0 0) := (blk_cell BK_g4.out 2).trans rfl; have hz_g4f2 := blk_frozen BK_g4.out 2; clear HB hk6; have HB := Aside0.mk hB6; clear hB6))
    refine bodyPost_ret (results_ct rfl _ _ g4 29 #[.int .i64 y.f0, .int .i64 y.f1, .slice Av y.f2.length cv] (0, 0) _ rfl (by (with_reducible repeat (first | refine blk_drewN ?_ _ | refine blk_drew ?_ | refine blk_alloc ?_ _)); refine blk_put (cs := #[.int .i64 y.f0, .int .i64 y.f1, .slice none 0 0]) ?_ 2 _ rfl; (with_reducible repeat (first | refine blk_drewN ?_ _ | refine blk_drew ?_ | refine blk_alloc ?_ _)); refine blk_put (cs := #[.int .i64 y.f0, .int .i64 0, .slice none 0 0]) ?_ 1 _ rfl; (with_reducible repeat (first | refine blk_drewN ?_ _ | refine blk_drew ?_ | refine blk_alloc ?_ _)); refine blk_put (cs := #[.int .i64 0, .int .i64 0, .slice none 0 0]) ?_ 0 _ rfl; (with_reducible repeat (first | refine blk_drewN ?_ _ | refine blk_drew ?_ | refine blk_alloc ?_ _)); exact BK_g4.out) Try.underlying29 rfl (by kernel_rfl)) rfl ?_
    exact ⟨_, rfl, Kd.S_mono (Kd.S_far (p := ⟨g4, 2, none⟩) (Kd.S_far (p := ⟨g4, 1, none⟩) (Kd.S_far (p := ⟨g4, 0, none⟩) HSv.out (fun k_ hk_ => by have h_ : g4 < k_ := hk_; show k_ ≠ g4; omega) _) (fun k_ hk_ => by have h_ : g4 < k_ := hk_; show k_ ≠ g4; omega) _) (fun k_ hk_ => by have h_ : g4 < k_ := hk_; show k_ ≠ g4; omega) _) (fun _ _ => trivial), (by repeat (first | (with_reducible first | exact HB.out | apply below_alloc | apply pw_below_drewN | apply below_drew1 | refine below_set ?_ GW_g4.out) | exact HB.out))⟩
  · replace c4 := Bool.eq_false_iff.mpr c4
    subst c4
    rw [if_neg (show ¬ (false = true) by decide)] at H
    simp only [Option.some.injEq, Prod.mk.injEq] at H
    obtain ⟨rfl, rfl, rfl, rfl⟩ := H
    go_enter Try.func22, Try.ntmps22
    go_wp2_with (first | ((with_reducible refine gate_dst (N := 3) rfl ?_); refine box_event ?hg (N := 3) ?hd (cs := #[.int .i64 a1_0, .int .i64 a1_1, .slice A1_2 l1_2.length c1_2]) (t := 29) ?hr ?_; (case hd => rfl); (case hg => rfl); (case hr => first | (go_simp; done) | (go_simp; rfl)); intro g3 hg w1 hbox hb; have n0_ := Aside0.mk (below_step (by repeat (first | (with_reducible first | exact HB.out | apply below_alloc | apply pw_below_drewN | apply below_drew1) | exact HB.out)) hb); have GW_g3 := Aside0.mk ((by rw [hg]; exact below_size (by repeat (first | (with_reducible first | exact HB.out | apply below_alloc | apply pw_below_drewN | apply below_drew1) | exact HB.out))) : w.heap.size ≤ g3); clear HB ; have HB := n0_; clear n0_; have BK_g3 := Aside0.mk hbox; clear hbox hb hg; have hz_g30 : w1.cell? ⟨g3, 0, none⟩ = some (.int .i64 a1_0) := (blk_cell BK_g3.out 0).trans rfl; have hz_g3f0 := blk_frozen BK_g3.out 0; have hz_g31 : w1.cell? ⟨g3, 1, none⟩ = some (.int .i64 a1_1) := (blk_cell BK_g3.out 1).trans rfl; have hz_g3f1 := blk_frozen BK_g3.out 1; have hz_g32 : w1.cell? ⟨g3, 2, none⟩ = some (.slice A1_2 l1_2.length c1_2) := (blk_cell BK_g3.out 2).trans rfl; have hz_g3f2 := blk_frozen BK_g3.out 2) | ((with_reducible refine gate_dst (N := 4) rfl ?_); refine box_event ?hg (N := 4) ?hd (cs := #[.int .i64 0, .int .i64 0, .slice none 0 0]) (t := 29) ?hr ?_; (case hd => rfl); (case hg => rfl); (case hr => first | (go_simp; done) | (go_simp; rfl)); intro g4 hg w2 hbox hb; have n0_ := Aside0.mk (below_step (by repeat (first | (with_reducible first | exact HB.out | apply below_alloc | apply pw_below_drewN | apply below_drew1) | exact HB.out)) hb); have n1_ := Aside0.mk (blk_below (g := g3) (o := .cells #[.int .i64 a1_0, .int .i64 a1_1, .slice A1_2 l1_2.length c1_2] 29 (0, 0)) (by (with_reducible repeat (first | refine blk_drewN ?_ _ | refine blk_drew ?_ | refine blk_alloc ?_ _)); exact BK_g3.out) hb); have GW_g4 := Aside0.mk ((by rw [hg]; exact below_size (by repeat (first | (with_reducible first | exact HB.out | apply below_alloc | apply pw_below_drewN | apply below_drew1) | exact HB.out))) : w.heap.size ≤ g4); clear HB BK_g3; have HB := n0_; clear n0_; (try clear hz_g30 hz_g3f0 hz_g31 hz_g3f1 hz_g32 hz_g3f2); have BK_g3 := n1_; clear n1_; have BK_g4 := Aside0.mk hbox; clear hbox hb hg; have hz_g30 : w2.cell? ⟨g3, 0, none⟩ = some (.int .i64 a1_0) := (blk_cell BK_g3.out 0).trans rfl; have hz_g3f0 := blk_frozen BK_g3.out 0; have hz_g31 : w2.cell? ⟨g3, 1, none⟩ = some (.int .i64 a1_1) := (blk_cell BK_g3.out 1).trans rfl; have hz_g3f1 := blk_frozen BK_g3.out 1; have hz_g32 : w2.cell? ⟨g3, 2, none⟩ = some (.slice A1_2 l1_2.length c1_2) := (blk_cell BK_g3.out 2).trans rfl; have hz_g3f2 := blk_frozen BK_g3.out 2; have hz_g40 : w2.cell? ⟨g4, 0, none⟩ = some (.int .i64 0) := (blk_cell BK_g4.out 0).trans rfl; have hz_g4f0 := blk_frozen BK_g4.out 0; have hz_g41 : w2.cell? ⟨g4, 1, none⟩ = some (.int .i64 0) := (blk_cell BK_g4.out 1).trans rfl; have hz_g4f1 := blk_frozen BK_g4.out 1; have hz_g42 : w2.cell? ⟨g4, 2, none⟩ = some (.slice none 0 0) := (blk_cell BK_g4.out 2).trans rfl; have hz_g4f2 := blk_frozen BK_g4.out 2) | (go_at_call 20; (with_reducible refine (impl_ValidGate.calls k a0 a1_0 a1_1 _ _ l1_2 false _ ?side1 ?side2 A3.out).mono ?_); (case side1 => exact Kd.C_below HR.out (by repeat (first | (with_reducible first | exact HB.out | apply below_alloc | apply pw_below_drewN | apply below_drew1) | exact HB.out))); (case side2 => exact HC.out); rintro e w5 ⟨rfl, hb⟩; have n0_ := Aside0.mk (below_step (by repeat (first | (with_reducible first | exact HB.out | apply below_alloc | apply pw_below_drewN | apply below_drew1) | exact HB.out)) hb); have n1_ := Aside0.mk (blk_below (g := g3) (o := .cells #[.int .i64 a1_0, .int .i64 a1_1, .slice A1_2 l1_2.length c1_2] 29 (0, 0)) (by (with_reducible repeat (first | refine blk_drewN ?_ _ | refine blk_drew ?_ | refine blk_alloc ?_ _)); exact BK_g3.out) hb); have n2_ := Aside0.mk (blk_below (g := g4) (o := .cells #[.int .i64 0, .int .i64 0, .slice none 0 0] 29 (0, 0)) (by (with_reducible repeat (first | refine blk_drewN ?_ _ | refine blk_drew ?_ | refine blk_alloc ?_ _)); exact BK_g4.out) hb); clear HB BK_g3 BK_g4 hz_g30 hz_g3f0 hz_g31 hz_g3f1 hz_g32 hz_g3f2 hz_g40 hz_g4f0 hz_g41 hz_g4f1 hz_g42 hz_g4f2 hb; have HB := n0_; have BK_g3 := n1_; have BK_g4 := n2_; clear n0_ n1_ n2_; have hz_g30 : w5.cell? ⟨g3, 0, none⟩ = some (.int .i64 a1_0) := (blk_cell BK_g3.out 0).trans rfl; have hz_g3f0 := blk_frozen BK_g3.out 0; have hz_g31 : w5.cell? ⟨g3, 1, none⟩ = some (.int .i64 a1_1) := (blk_cell BK_g3.out 1).trans rfl; have hz_g3f1 := blk_frozen BK_g3.out 1; have hz_g32 : w5.cell? ⟨g3, 2, none⟩ = some (.slice A1_2 l1_2.length c1_2) := (blk_cell BK_g3.out 2).trans rfl; have hz_g3f2 := blk_frozen BK_g3.out 2; have hz_g40 : w5.cell? ⟨g4, 0, none⟩ = some (.int .i64 0) := (blk_cell BK_g4.out 0).trans rfl; have hz_g4f0 := blk_frozen BK_g4.out 0; have hz_g41 : w5.cell? ⟨g4, 1, none⟩ = some (.int .i64 0) := (blk_cell BK_g4.out 1).trans rfl; have hz_g4f1 := blk_frozen BK_g4.out 1; have hz_g42 : w5.cell? ⟨g4, 2, none⟩ = some (.slice none 0 0) := (blk_cell BK_g4.out 2).trans rfl; have hz_g4f2 := blk_frozen BK_g4.out 2))
    refine bodyPost_ret (results_ct rfl _ _ g4 29 #[.int .i64 0, .int .i64 0, .slice none 0 0] (0, 0) _ rfl (by (with_reducible repeat (first | refine blk_drewN ?_ _ | refine blk_drew ?_ | refine blk_alloc ?_ _)); refine blk_put (cs := #[.int .i64 0, .int .i64 0, .slice none 0 0]) ?_ 2 _ rfl; (with_reducible repeat (first | refine blk_drewN ?_ _ | refine blk_drew ?_ | refine blk_alloc ?_ _)); refine blk_put (cs := #[.int .i64 0, .int .i64 0, .slice none 0 0]) ?_ 1 _ rfl; (with_reducible repeat (first | refine blk_drewN ?_ _ | refine blk_drew ?_ | refine blk_alloc ?_ _)); refine blk_put (cs := #[.int .i64 0, .int .i64 0, .slice none 0 0]) ?_ 0 _ rfl; (with_reducible repeat (first | refine blk_drewN ?_ _ | refine blk_drew ?_ | refine blk_alloc ?_ _)); exact BK_g4.out) Try.underlying29 rfl (by kernel_rfl)) rfl ?_
    exact ⟨_, rfl, Kd.S_nil _ _ _ _ _, (by repeat (first | (with_reducible first | exact HB.out | apply below_alloc | apply pw_below_drewN | apply below_drew1 | refine below_set ?_ GW_g4.out) | exact HB.out))⟩

end Go.Proofs.Ytjnobnmjhpmpfaa.P

namespace Go.Proofs.Ytjnobnmjhpmpfaa.P
open Go.RowKit Go.Proofs.YtjnobnmjhpmpfaaW.PrintWords Go.Proofs.YtjnobnmjhpmpfaaW.PrintLast Go.Proofs.YtjnobnmjhpmpfaaW.PrintMore
attribute [local go_sem] max2_int min2_int max_two min_two max_three min_three max_four min_four
set_option linter.unusedVariables false
set_option linter.unusedSimpArgs false

mutual
/-- What mapped answers: the leaves and the inner gates by functions, a state handed from leaf to leaf. -/
def mapT {σ : Type} (lv : σ → Int → S29 × σ) (iv : Int → List S29 → S29) : σ → S29 → S29 × σ
  | s, ⟨a, b, l⟩ => if l.isEmpty then lv s a else (iv b (mapL lv iv s l).1, (mapL lv iv s l).2)
def mapL {σ : Type} (lv : σ → Int → S29 × σ) (iv : Int → List S29 → S29) : σ → List S29 → List S29 × σ
  | s, [] => ([], s)
  | s, x :: l => ((mapT lv iv s x).1 :: (mapL lv iv (mapT lv iv s x).2 l).1, (mapL lv iv (mapT lv iv s x).2 l).2)
end
theorem mapT_parts {σ : Type} (lv : σ → Int → S29 × σ) (iv : Int → List S29 → S29) (s : σ) (x : S29) : mapT lv iv s x = if x.f2.isEmpty then lv s x.f0 else (iv x.f1 (mapL lv iv s x.f2).1, (mapL lv iv s x.f2).2) := by cases x; simp only [mapT]
theorem mapL_cons {σ : Type} (lv : σ → Int → S29 × σ) (iv : Int → List S29 → S29) (s : σ) (x : S29) (l : List S29) : mapL lv iv s (x :: l) = ((mapT lv iv s x).1 :: (mapL lv iv (mapT lv iv s x).2 l).1, (mapL lv iv (mapT lv iv s x).2 l).2) := by simp only [mapL]
theorem mapL_nil {σ : Type} (lv : σ → Int → S29 × σ) (iv : Int → List S29 → S29) (s : σ) : mapL lv iv s [] = ([], s) := by simp only [mapL]
mutual
/-- All leaves of a gate. -/
def lfT (Q : Int → Prop) : S29 → Prop
  | ⟨a, _, l⟩ => (l = [] → Q a) ∧ lfL Q l
def lfL (Q : Int → Prop) : List S29 → Prop
  | [] => True
  | x :: l => lfT Q x ∧ lfL Q l
end
theorem lfT_parts (Q : Int → Prop) (x : S29) : lfT Q x = ((x.f2 = [] → Q x.f0) ∧ lfL Q x.f2) := by cases x; simp only [lfT]
theorem lfL_cons (Q : Int → Prop) (x : S29) (l : List S29) : lfL Q (x :: l) = (lfT Q x ∧ lfL Q l) := by simp only [lfL]
mutual
theorem lfT_all : ∀ x : S29, lfT (fun _ => True) x
  | ⟨_, _, l⟩ => by simp only [lfT]; exact ⟨fun _ => trivial, lfL_all l⟩
theorem lfL_all : ∀ l : List S29, lfL (fun _ => True) l
  | [] => by simp only [lfL]
  | x :: l => by simp only [lfL]; exact ⟨lfT_all x, lfL_all l⟩
end
theorem mapB_ev {σ : Type} {leafF : Nat → σ → Int → Option (S29 × σ)} {innerF : Nat → Int → List S29 → Option S29} {lv : σ → Int → S29 × σ} {iv : Int → List S29 → S29} {Q : Int → Prop} {J : σ → Prop} (hl : ∀ s h, Q h → J s → Ev (fun k => leafF k s h) (lv s h) ∧ J (lv s h).2) (hi : ∀ n l, Ev (fun k => innerF k n l) (iv n l)) :
    ∀ (n : Nat) (x : S29), mT x ≤ n → n ≤ 1048576 → lfT Q x → ∀ s, J s → Ev (fun k => mapB.f leafF innerF k s x) (mapT lv iv s x) ∧ J (mapT lv iv s x).2 := by
  intro n
  induction n with
  | zero =>
    intro x hx hn hq s hj
    have hk := mT_kids x
    have hz : x.f2 = [] := by
      cases e : x.f2 with
      | nil => rfl
      | cons y r => rw [e, mL_cons] at hk; omega
    rw [lfT_parts] at hq
    obtain ⟨h1, h2⟩ := hl s x.f0 (hq.1 hz) hj
    rw [mapT_parts, hz]
    refine ⟨Ev.step (f := fun k => leafF k s x.f0) (fun k => ?_) h1, h2⟩
    simp only [mapB.f]
    rw [hz, if_pos (by rfl)]
  | succ n ih =>
    intro x hx hn hq s hj
    have hk := mT_kids x
    rw [lfT_parts] at hq
    cases e : x.f2 with
    | nil =>
      obtain ⟨h1, h2⟩ := hl s x.f0 (hq.1 e) hj
      rw [mapT_parts, e]
      refine ⟨Ev.step (f := fun k => leafF k s x.f0) (fun k => ?_) h1, h2⟩
      simp only [mapB.f]
      rw [e, if_pos (by rfl)]
    | cons y0 r0 =>
      have key : ∀ (r pre out : List S29) (s : σ), pre ++ r = x.f2 → out.length = pre.length → lfL Q r → J s → Ev (fun k => mapB.l0 leafF innerF k s x.f2 x.f1 out (pre.length : Int)) (iv x.f1 (out ++ (mapL lv iv s r).1), (mapL lv iv s r).2) ∧ J (mapL lv iv s r).2 := by
        intro r
        induction r with
        | nil =>
          intro pre out s hp ho hq hj
          rw [List.append_nil] at hp
          rw [mapL_nil, List.append_nil]
          refine ⟨Ev.step (f := fun k => (innerF k x.f1 out).bind fun y => some (y, s)) (fun k => ?_) (Ev.bind (hi _ _) (Ev.now _)), hj⟩
          simp only [mapB.l0]
          rw [if_neg (by rw [← hp]; omega)]
        | cons z r ihr =>
          intro pre out s hp ho hq hj
          rw [lfL_cons] at hq
          have hsz : mL x.f2 = mL (pre ++ z :: r) := by rw [hp]
          have hml : ∀ p q : List S29, mL (p ++ q) = mL p + mL q := by
            intro p q
            induction p with
            | nil => simp [mL]
            | cons u p ihp => rw [List.cons_append, mL_cons, mL_cons, ihp]; omega
          rw [hml, mL_cons] at hsz
          have hlp := mL_len pre
          obtain ⟨e1, j1⟩ := ih z (by omega) (by omega) hq.1 s hj
          obtain ⟨e2, j2⟩ := ihr (pre ++ [z]) (out ++ [(mapT lv iv s z).1]) (mapT lv iv s z).2 (by rw [← hp, List.append_assoc]; rfl) (by rw [List.length_append, List.length_append, ho]; rfl) hq.2 j1
          rw [mapL_cons]
          refine ⟨Ev.step (f := fun k => (mapB.f leafF innerF k s z).bind fun t => mapB.l0 leafF innerF k t.2 x.f2 x.f1 (out ++ [t.1]) ((pre.length + 1 : Nat) : Int)) (fun k => ?_) (Ev.bind e1 ?_), j2⟩
          · simp only [mapB.l0]
            have hlen : x.f2.length = pre.length + (r.length + 1) := by rw [← hp, List.length_append, List.length_cons]
            rw [if_pos (by omega), if_pos (by omega), show rd_T29 x.f2 (pre.length : Int) = z by rw [← hp]; exact rdT_mid pre r z, wr (x := (pre.length : Int) + 1) (by omega) (by omega)]
            simp only [if_pos (show out.length < 1048576 by omega)]
            rfl
          · rw [List.length_append, List.length_singleton, List.append_assoc] at e2
            exact e2
      rw [mapT_parts, e]
      obtain ⟨k1, k2⟩ := key (y0 :: r0) [] [] s (by rw [e]; rfl) rfl (by rw [← e]; exact hq.2) hj
      rw [List.nil_append] at k1
      refine ⟨Ev.step (f := fun k => mapB.l0 leafF innerF k s x.f2 x.f1 [] 0) (fun k => ?_) k1, k2⟩
      simp only [mapB.f]
      rw [if_neg (by rw [e, List.length_cons]; omega)]
def leafV (_ : Unit) (h : Int) : S29 × Unit := (⟨h, 0, []⟩, ())
def dualV (b : Int) (l : List S29) : S29 := ⟨-1, wrap64 (wrap64 ((l.length : Int) - b) + 1), l⟩
theorem spec_l02Dual_ev : ∀ (n : Nat) (x : S29), mT x ≤ n → n ≤ 1048576 → Ev (fun k => spec_l02Dual.f k x) (mapT leafV dualV () x).1 := by
  intro n
  induction n with
  | zero =>
    intro x hx hn
    have hk := mT_kids x
    have hz : x.f2 = [] := by
      cases e : x.f2 with
      | nil => rfl
      | cons y r => rw [e, mL_cons] at hk; omega
    rw [mapT_parts, hz]
    refine Ev.step (f := fun _ => some ⟨x.f0, 0, []⟩) (fun k => ?_) (Ev.now _)
    simp only [spec_l02Dual.f]
    rw [hz, if_pos (by rfl)]
  | succ n ih =>
    intro x hx hn
    have hk := mT_kids x
    cases e : x.f2 with
    | nil =>
      rw [mapT_parts, e]
      refine Ev.step (f := fun _ => some ⟨x.f0, 0, []⟩) (fun k => ?_) (Ev.now _)
      simp only [spec_l02Dual.f]
      rw [e, if_pos (by rfl)]
    | cons y0 r0 =>
      have key : ∀ (r pre out : List S29), pre ++ r = x.f2 → out.length = pre.length → Ev (fun k => spec_l02Dual.l0 k x out (pre.length : Int)) (dualV x.f1 (out ++ (mapL leafV dualV () r).1)) := by
        intro r
        induction r with
        | nil =>
          intro pre out hp ho
          rw [List.append_nil] at hp
          rw [mapL_nil, List.append_nil]
          refine Ev.step (f := fun _ => some (dualV x.f1 out)) (fun k => ?_) (Ev.now _)
          simp only [spec_l02Dual.l0]
          rw [if_neg (by rw [← hp]; omega)]
          rfl
        | cons z r ihr =>
          intro pre out hp ho
          have hsz : mL x.f2 = mL (pre ++ z :: r) := by rw [hp]
          have hml : ∀ p q : List S29, mL (p ++ q) = mL p + mL q := by
            intro p q
            induction p with
            | nil => simp [mL]
            | cons u p ihp => rw [List.cons_append, mL_cons, mL_cons, ihp]; omega
          rw [hml, mL_cons] at hsz
          have hlp := mL_len pre
          have e1 := ih z (by omega) (by omega)
          have e2 := ihr (pre ++ [z]) (out ++ [(mapT leafV dualV () z).1]) (by rw [← hp, List.append_assoc]; rfl) (by rw [List.length_append, List.length_append, ho]; rfl)
          rw [mapL_cons]
          refine Ev.step (f := fun k => (spec_l02Dual.f k z).bind fun t => spec_l02Dual.l0 k x (out ++ [t]) ((pre.length + 1 : Nat) : Int)) (fun k => ?_) (Ev.bind e1 ?_)
          · simp only [spec_l02Dual.l0]
            have hlen : x.f2.length = pre.length + (r.length + 1) := by rw [← hp, List.length_append, List.length_cons]
            rw [if_pos (by omega), if_pos (by omega), show rd_T29 x.f2 (pre.length : Int) = z by rw [← hp]; exact rdT_mid pre r z, wr (x := (pre.length : Int) + 1) (by omega) (by omega)]
            simp only [if_pos (show out.length < 1048576 by omega)]
            rfl
          · rw [List.length_append, List.length_singleton, List.append_assoc] at e2
            exact e2
      rw [mapT_parts, e]
      have k1 := key (y0 :: r0) [] [] (by rw [e]; rfl) rfl
      rw [List.nil_append] at k1
      refine Ev.step (f := fun k => spec_l02Dual.l0 k x [] 0) (fun k => ?_) k1
      simp only [spec_l02Dual.f]
      rw [if_neg (by rw [e, List.length_cons]; omega)]
/-- A map that keeps the form keeps the number of nodes. -/
theorem map_size {σ : Type} {lv : σ → Int → S29 × σ} {iv : Int → List S29 → S29} (hl : ∀ s h, (lv s h).1.f2 = []) (hi : ∀ n l, (iv n l).f2 = l) : ∀ (n : Nat), (∀ (x : S29) (s : σ), mT x ≤ n → mT (mapT lv iv s x).1 = mT x) ∧ (∀ (l : List S29) (s : σ), mL l ≤ n → mL (mapL lv iv s l).1 = mL l) := by
  intro n
  induction n with
  | zero =>
    refine ⟨fun x s hx => ?_, fun l s hl' => ?_⟩
    · have hk := mT_kids x
      have hz : x.f2 = [] := by
        cases e : x.f2 with
        | nil => rfl
        | cons y r => rw [e, mL_cons] at hk; omega
      rw [mapT_parts, hz, mT_kids, mT_kids, hz]
      simp only [List.isEmpty_nil, if_true, hl]
    · cases l with
      | nil => rw [mapL_nil]
      | cons y r => rw [mL_cons] at hl'; omega
  | succ n ih =>
    have hL : ∀ (l : List S29) (s : σ), mL l ≤ n + 1 → mL (mapL lv iv s l).1 = mL l := by
      intro l
      induction l with
      | nil => intro s _; rw [mapL_nil]
      | cons y r ihr =>
        intro s h
        rw [mL_cons] at h
        rw [mapL_cons]
        show mL ((mapT lv iv s y).1 :: (mapL lv iv (mapT lv iv s y).2 r).1) = _
        rw [mL_cons, mL_cons, ih.1 y s (by omega), ihr _ (by omega)]
    refine ⟨fun x s hx => ?_, hL⟩
    have hk := mT_kids x
    rw [mapT_parts, mT_kids, mT_kids]
    by_cases e : x.f2.isEmpty
    · rw [if_pos e, hl, List.isEmpty_iff.mp e]
    · rw [if_neg e]
      show mL (iv x.f1 (mapL lv iv s x.f2).1).f2 = _
      rw [hi, hL x.f2 s (by omega)]
def DualRes (h : Int) (x : S29) : S29 × Int := if okT h x = true then ((mapT leafV dualV () x).1, 0) else (⟨0, 0, []⟩, 1)
theorem spec_DualGate_ev (h a b : Int) (l : List S29) (hm : mL l ≤ 1048576) : Ev (fun k => spec_DualGate.f k h a b l) ((DualRes h ⟨a, b, l⟩).1.f0, (DualRes h ⟨a, b, l⟩).1.f1, (DualRes h ⟨a, b, l⟩).1.f2, (DualRes h ⟨a, b, l⟩).2) := by
  unfold spec_DualGate.f DualRes
  refine Ev.bind (spec_ValidGate_ev h a b l (by omega)) ?_
  by_cases e : okT h ⟨a, b, l⟩ = true
  · simp only [if_pos e]
    exact Ev.bind (spec_l02Dual_ev 1048576 ⟨a, b, l⟩ (by rw [mT_kids]; exact hm) (Nat.le_refl _)) (Ev.now _)
  · simp only [if_neg e]; exact Ev.now _
theorem impl_DualGate_ev (h a b : Int) (l : List S29) (hm : mL l ≤ 1048576) : Ev (fun k => impl_DualGate.f k h a b l) ((DualRes h ⟨a, b, l⟩).1.f0, (DualRes h ⟨a, b, l⟩).1.f1, (DualRes h ⟨a, b, l⟩).1.f2, (DualRes h ⟨a, b, l⟩).2) := by
  unfold impl_DualGate.f DualRes
  refine Ev.bind (impl_ValidGate_ev h a b l (by omega)) ?_
  by_cases e : okT h ⟨a, b, l⟩ = true
  · simp only [if_pos e]
    refine Ev.bind (mapB_ev (lv := leafV) (iv := dualV) (Q := fun _ => True) (J := fun _ => True) (fun s h _ _ => ⟨Ev.now _, trivial⟩) (fun n l => Ev.now _) 1048576 ⟨a, b, l⟩ (by rw [mT_kids]; exact hm) (Nat.le_refl _) (lfT_all _) () trivial).1 (Ev.now _)
  · simp only [if_neg e]; exact Ev.now _
theorem DualRes_size (h : Int) (x : S29) : mL (DualRes h x).1.f2 ≤ mL x.f2 := by
  unfold DualRes
  split
  · have := (map_size (lv := leafV) (iv := dualV) (fun _ _ => rfl) (fun _ _ => rfl) (mT x)).1 x () (Nat.le_refl _)
    rw [mT_kids, mT_kids] at this
    exact Nat.le_of_eq this
  · simp [mL]

end Go.Proofs.Ytjnobnmjhpmpfaa.P

namespace Go.Proofs.Ytjnobnmjhpmpfaa.P
open Go.RowKit Go.Proofs.YtjnobnmjhpmpfaaW.PrintWords Go.Proofs.YtjnobnmjhpmpfaaW.PrintLast Go.Proofs.YtjnobnmjhpmpfaaW.PrintMore
attribute [local go_sem] max2_int min2_int max_two min_two max_three min_three max_four min_four
set_option linter.unusedVariables false
set_option linter.unusedSimpArgs false

def incV (s : List Int) (h : Int) : S29 × List Int := (⟨h, 0, []⟩, s.set h.toNat (wrap64 (rd s h + 1)))
def nodeV (b : Int) (l : List S29) : S29 := ⟨-1, b, l⟩
/-- The leaves of a formed gate are holders. -/
theorem leaves_in (h : Int) : ∀ (n : Nat), (∀ x : S29, mT x ≤ n → fT h x = true → lfT (fun a => 0 ≤ a ∧ a < h) x) ∧ (∀ l : List S29, mL l ≤ n → fL h l = true → lfL (fun a => 0 ≤ a ∧ a < h) l) := by
  have leaf : ∀ x : S29, x.f2 = [] → fT h x = true → lfT (fun a => 0 ≤ a ∧ a < h) x := by
    intro x e hf
    rw [fT_parts, e] at hf
    simp only [List.isEmpty_nil, if_true, Bool.and_eq_true, decide_eq_true_eq] at hf
    rw [lfT_parts, e]
    exact ⟨fun _ => ⟨hf.2.1, by omega⟩, by simp only [lfL]⟩
  intro n
  induction n with
  | zero =>
    refine ⟨fun x hx hf => ?_, fun l hl hf => ?_⟩
    · have hk := mT_kids x
      cases e : x.f2 with
      | nil => exact leaf x e hf
      | cons y r => rw [e, mL_cons] at hk; omega
    · cases l with
      | nil => simp only [lfL]
      | cons y r => rw [mL_cons] at hl; omega
  | succ n ih =>
    have hL : ∀ l : List S29, mL l ≤ n + 1 → fL h l = true → lfL (fun a => 0 ≤ a ∧ a < h) l := by
      intro l
      induction l with
      | nil => intro _ _; simp only [lfL]
      | cons y r ihr =>
        intro hl hf
        rw [mL_cons] at hl
        simp only [fL, Bool.and_eq_true] at hf
        rw [lfL_cons]
        exact ⟨ih.1 y (by omega) hf.1, ihr (by omega) hf.2⟩
    refine ⟨fun x hx hf => ?_, hL⟩
    cases e : x.f2 with
    | nil => exact leaf x e hf
    | cons y r =>
      have hk := mT_kids x
      rw [fT_parts] at hf
      rw [e] at hf
      simp only [List.isEmpty_cons, Bool.false_eq_true, if_false, Bool.and_eq_true] at hf
      rw [lfT_parts]
      refine ⟨fun he => by rw [e] at he; exact absurd he (by simp), ?_⟩
      exact hL x.f2 (by omega) (by rw [e]; exact hf.1)
theorem incV_len (s : List Int) (h : Int) : (incV s h).2.length = s.length := by unfold incV; rw [List.length_set]
theorem spec_l02Leaves_ev (N : Nat) : ∀ (n : Nat) (x : S29), mT x ≤ n → n ≤ 1048576 → lfT (fun a => 0 ≤ a ∧ a < (N : Int)) x → ∀ s : List Int, s.length = N → Ev (fun k => spec_l02Leaves.f k x s) (mapT incV nodeV s x).2 ∧ (mapT incV nodeV s x).2.length = N := by
  have leaf : ∀ x : S29, x.f2 = [] → lfT (fun a => 0 ≤ a ∧ a < (N : Int)) x → ∀ s : List Int, s.length = N → Ev (fun k => spec_l02Leaves.f k x s) (mapT incV nodeV s x).2 ∧ (mapT incV nodeV s x).2.length = N := by
    intro x e hq s hs
    rw [lfT_parts] at hq
    obtain ⟨q0, q1⟩ := hq.1 e
    rw [mapT_parts, e]
    refine ⟨Ev.step (f := fun k => spec_l02Leaves.l0 k x (s.set x.f0.toNat (wrap64 (rd s x.f0 + 1))) 0) (fun k => ?_) (Ev.step (f := fun _ => some (s.set x.f0.toNat (wrap64 (rd s x.f0 + 1)))) (fun k => ?_) (Ev.now _)), ?_⟩
    · simp only [spec_l02Leaves.f]
      rw [e, if_pos (by rfl), if_pos q0, if_pos (by omega)]
    · simp only [spec_l02Leaves.l0]
      rw [e, if_neg (by simp)]
    · simp only [List.isEmpty_nil, if_true, incV_len, hs]
  intro n
  induction n with
  | zero =>
    intro x hx hn hq s hs
    have hk := mT_kids x
    cases e : x.f2 with
    | nil => exact leaf x e hq s hs
    | cons y r => rw [e, mL_cons] at hk; omega
  | succ n ih =>
    intro x hx hn hq s hs
    have hk := mT_kids x
    cases e : x.f2 with
    | nil => exact leaf x e hq s hs
    | cons y0 r0 =>
      rw [lfT_parts] at hq
      have key : ∀ (r pre : List S29) (s : List Int), pre ++ r = x.f2 → lfL (fun a => 0 ≤ a ∧ a < (N : Int)) r → s.length = N → Ev (fun k => spec_l02Leaves.l0 k x s (pre.length : Int)) (mapL incV nodeV s r).2 ∧ (mapL incV nodeV s r).2.length = N := by
        intro r
        induction r with
        | nil =>
          intro pre s hp _ hs
          rw [List.append_nil] at hp
          rw [mapL_nil]
          refine ⟨Ev.step (f := fun _ => some s) (fun k => ?_) (Ev.now _), hs⟩
          simp only [spec_l02Leaves.l0]
          rw [if_neg (by rw [← hp]; omega)]
        | cons z r ihr =>
          intro pre s hp hq hs
          rw [lfL_cons] at hq
          have hsz : mL x.f2 = mL (pre ++ z :: r) := by rw [hp]
          have hml : ∀ p q : List S29, mL (p ++ q) = mL p + mL q := by
            intro p q
            induction p with
            | nil => simp [mL]
            | cons u p ihp => rw [List.cons_append, mL_cons, mL_cons, ihp]; omega
          rw [hml, mL_cons] at hsz
          have hlp := mL_len pre
          obtain ⟨e1, j1⟩ := ih z (by omega) (by omega) hq.1 s hs
          obtain ⟨e2, j2⟩ := ihr (pre ++ [z]) (mapT incV nodeV s z).2 (by rw [← hp, List.append_assoc]; rfl) hq.2 j1
          rw [mapL_cons]
          refine ⟨Ev.step (f := fun k => (spec_l02Leaves.f k z s).bind fun t => spec_l02Leaves.l0 k x t ((pre.length + 1 : Nat) : Int)) (fun k => ?_) (Ev.bind e1 ?_), j2⟩
          · simp only [spec_l02Leaves.l0]
            have hlen : x.f2.length = pre.length + (r.length + 1) := by rw [← hp, List.length_append, List.length_cons]
            rw [if_pos (by omega), if_pos (by omega), show rd_T29 x.f2 (pre.length : Int) = z by rw [← hp]; exact rdT_mid pre r z, wr (x := (pre.length : Int) + 1) (by omega) (by omega)]
            rfl
          · rw [List.length_append, List.length_singleton] at e2
            exact e2
      rw [mapT_parts, e]
      obtain ⟨k1, k2⟩ := key (y0 :: r0) [] s (by rw [e]; rfl) (by rw [← e]; exact hq.2) hs
      refine ⟨Ev.step (f := fun k => spec_l02Leaves.l0 k x s 0) (fun k => ?_) k1, k2⟩
      simp only [spec_l02Leaves.f]
      rw [if_neg (by rw [e, List.length_cons]; omega)]
def LeavesRes (h : Int) (x : S29) : List Int × Int := if okT h x = true then ((mapT incV nodeV (List.replicate h.toNat 0) x).2, 0) else ([], 1)
theorem okT_parts {h : Int} {x : S29} (e : okT h x = true) : (1 ≤ h ∧ h ≤ 7) ∧ 1 + mT x ≤ 60 ∧ fT h x = true := by
  unfold okT at e
  simp only [Bool.and_eq_true, decide_eq_true_eq] at e
  exact ⟨e.1, e.2.1, e.2.2.2⟩
theorem leaves_q {h : Int} {x : S29} (e : okT h x = true) : lfT (fun a => 0 ≤ a ∧ a < ((h.toNat : Nat) : Int)) x := by
  obtain ⟨h1, h2, h3⟩ := okT_parts e
  have := (leaves_in h (mT x)).1 x (Nat.le_refl _) h3
  rwa [show ((h.toNat : Nat) : Int) = h by omega]
theorem spec_LeavesOf_ev (h a b : Int) (l : List S29) (hm : mL l ≤ 1048576) : Ev (fun k => spec_LeavesOf.f k h a b l) (LeavesRes h ⟨a, b, l⟩) := by
  unfold spec_LeavesOf.f LeavesRes
  refine Ev.bind (spec_ValidGate_ev h a b l (by omega)) ?_
  by_cases e : okT h ⟨a, b, l⟩ = true
  · obtain ⟨h1, _⟩ := okT_parts e
    simp only [if_pos e, if_pos h1.1, if_pos (show h.toNat ≤ 35184372088832 by omega)]
    exact Ev.bind (spec_l02Leaves_ev h.toNat 1048576 ⟨a, b, l⟩ (by rw [mT_kids]; exact hm) (Nat.le_refl _) (leaves_q e) (List.replicate h.toNat 0) (by rw [List.length_replicate])).1 (Ev.now _)
  · simp only [if_neg e]; exact Ev.now _
theorem impl_LeavesOf_ev (h a b : Int) (l : List S29) (hm : mL l ≤ 1048576) : Ev (fun k => impl_LeavesOf.f k h a b l) (LeavesRes h ⟨a, b, l⟩) := by
  unfold impl_LeavesOf.f LeavesRes
  refine Ev.bind (impl_ValidGate_ev h a b l (by omega)) ?_
  by_cases e : okT h ⟨a, b, l⟩ = true
  · obtain ⟨h1, _⟩ := okT_parts e
    simp only [if_pos e, if_pos h1.1, if_pos (show h.toNat ≤ 35184372088832 by omega)]
    refine Ev.bind (mapB_ev (lv := incV) (iv := nodeV) (Q := fun a => 0 ≤ a ∧ a < ((h.toNat : Nat) : Int)) (J := fun s : List Int => s.length = h.toNat) (fun s h' hq hj => ⟨?_, by rw [incV_len]; exact hj⟩) (fun n l => Ev.now _) 1048576 ⟨a, b, l⟩ (by rw [mT_kids]; exact hm) (Nat.le_refl _) (leaves_q e) (List.replicate h.toNat 0) (by rw [List.length_replicate])).1 (Ev.now _)
    have : leafC 0 s h' = some (incV s h') := by unfold leafC incV; rw [if_pos hq.1, if_pos (by rw [hj]; exact hq.2)]
    show Ev (fun _ => leafC 0 s h') _
    rw [this]
    exact Ev.now _
  · simp only [if_neg e]; exact Ev.now _
theorem LeavesRes_len (h : Int) (x : S29) (hm : mT x ≤ 1048576) : (LeavesRes h x).1.length ≤ 1000 := by
  unfold LeavesRes
  split
  · rename_i e
    obtain ⟨h1, _⟩ := okT_parts e
    have := (spec_l02Leaves_ev h.toNat 1048576 x hm (Nat.le_refl _) (leaves_q e) (List.replicate h.toNat 0) (by rw [List.length_replicate])).2
    show (mapT incV nodeV (List.replicate h.toNat 0) x).2.length ≤ 1000
    omega
  · simp

end Go.Proofs.Ytjnobnmjhpmpfaa.P

namespace Go.Proofs.Ytjnobnmjhpmpfaa.P
open Go.RowKit Go.Proofs.YtjnobnmjhpmpfaaW.PrintWords Go.Proofs.YtjnobnmjhpmpfaaW.PrintLast Go.Proofs.YtjnobnmjhpmpfaaW.PrintMore
attribute [local go_sem] max2_int min2_int max_two min_two max_three min_three max_four min_four
set_option linter.unusedVariables false
set_option linter.unusedSimpArgs false

/-! ### laws_markFamily: function 42 (by hand) -/
def laws_markFamily.f (k : Nat) (a0_0 : Int) (l0_1 : List (List Int)) (a1 : Int) : Option (Int × List (List Int)) := laws_markInt64SS.f k l0_1 a1
set_option maxHeartbeats 8000000 in
set_option maxRecDepth 100000 in
theorem laws_markFamily.callsM (k : Nat) (a0_0 : Int) (P0_ : Nat → Prop) (u : Value) (l0_1 : List (List Int)) (a1 : Int) (r1 : Int) (r2 : List (List Int)) (w0 w : World) (hB : Below w0.heap.size w0 w) (ho0 : Kd.S (Kd.slice 2 (Kd.int .i64)) 39 w w0.heap.size P0_ u l0_1) (h : laws_markFamily.f k a0_0 l0_1 a1 = some (r1, r2)) :
    Calls Try.prog 42 #[.agg #[.int .i64 a0_0, u], .int .i64 a1] w fun e w' => e = .returned (.int .i64 r1) ∧ Kd.S (Kd.slice 2 (Kd.int .i64)) 39 w' w0.heap.size P0_ u r2 ∧ Below w0.heap.size w0 w' ∧ Kept w w' P0_ := by
  have hum := Try.underlying53
  obtain ⟨Ao, co, rfl⟩ := Kd.S_slice ho0
  have HO := Aside0.mk ho0
  have HB := Aside0.mk hB
  have A3 := Aside0.mk (show laws_markInt64SS.f k _ a1 = some (r1, r2) from h)
  clear ho0 hB h
  go_enter Try.func42, Try.ntmps42
  go_wp2_with (first | (go_at_call 82; (with_reducible refine (laws_markInt64SS.callsM k P0_ _ l0_1 a1 r1 r2 w0 _ ?side1 ?side2 A3.out).mono ?_); (case side1 => repeat (first | (with_reducible first | exact HB.out | apply below_alloc | apply pw_below_drewN | apply below_drew1) | exact HB.out)); (case side2 => (with_reducible repeat (first | apply Kd.S_alloc | apply Kd.S_drewN | apply Kd.S_drew)); exact HO.out); rintro e w' ⟨rfl, hr, hb, hk⟩))
  go_ret
  exact ⟨rfl, hr, hb, Kept.then_ (by repeat (first | exact Kept.refl _ _ | apply Kept.alloc | apply Kept.drewN | apply Kept.drew)) hk (fun _ h => .inl h)⟩

end Go.Proofs.Ytjnobnmjhpmpfaa.P

namespace Go.Proofs.Ytjnobnmjhpmpfaa.P
open Go.RowKit Go.Proofs.YtjnobnmjhpmpfaaW.PrintWords Go.Proofs.YtjnobnmjhpmpfaaW.PrintLast Go.Proofs.YtjnobnmjhpmpfaaW.PrintMore
attribute [local go_sem] max2_int min2_int max_two min_two max_three min_three max_four min_four
set_option linter.unusedVariables false
set_option linter.unusedSimpArgs false

/-- The numbers from a on, n of them: what a mark leaves. -/
def upFrom (a : Int) (n : Nat) : List Int := (List.range n).map fun i : Nat => a + (i : Int)
theorem upFrom_length (a : Int) (n : Nat) : (upFrom a n).length = n := by simp [upFrom]
theorem upFrom_succ (a : Int) (n : Nat) : upFrom a (n + 1) = upFrom a n ++ [a + (n : Int)] := by simp [upFrom, List.range_succ]
/-- A loop that writes one place after another. -/
theorem markInt64S_ev (l : List Int) (a : Int) (ha : 0 ≤ a ∧ a ≤ 2147483648) (hl : l.length ≤ 4611686018427387904) : Ev (fun k => laws_markInt64S.f k l a) (a + (l.length : Int), upFrom a l.length) := by
  unfold laws_markInt64S.f
  have key : ∀ d i : Nat, i + d = l.length → Ev (fun k => laws_markInt64S.l0 k (upFrom a i ++ l.drop i) (a + (i : Int)) (i : Int)) (a + (l.length : Int), upFrom a l.length) := by
    intro d
    induction d with
    | zero =>
      intro i hi
      obtain rfl : i = l.length := by omega
      refine Ev.step (f := fun _ => some (a + (l.length : Int), upFrom a l.length)) (fun k => ?_) (Ev.now _)
      simp only [laws_markInt64S.l0]
      rw [if_neg (by simp [upFrom_length]), List.drop_length, List.append_nil]
    | succ d ih =>
      intro i hi
      have hlt : i < l.length := by omega
      refine Ev.step (fun k => ?_) (ih (i + 1) (by omega))
      simp only [laws_markInt64S.l0]
      rw [if_pos (by simp [upFrom_length]; omega), if_pos (by omega), wr (by omega) (by omega), wr (by omega) (by omega), Int.toNat_natCast, List.set_append_right _ _ (by rw [upFrom_length]; exact Nat.le_refl _), upFrom_length, Nat.sub_self, List.drop_eq_getElem_cons hlt, List.set_cons_zero, upFrom_succ, List.append_assoc]
      rw [show a + (i : Int) + 1 = a + ((i + 1 : Nat) : Int) by omega]
      rfl
  have := key l.length 0 (by omega)
  simpa [upFrom] using this
theorem heldInt64S_ev (a : Int) (n : Nat) (ha : 0 ≤ a ∧ a ≤ 2147483648) (hl : n ≤ 4611686018427387904) : Ev (fun k => laws_heldInt64S.f k (upFrom a n) a) (a + (n : Int)) := by
  unfold laws_heldInt64S.f
  have key : ∀ d i : Nat, i + d = n → Ev (fun k => laws_heldInt64S.l0 k (upFrom a n) (a + (i : Int)) (i : Int)) (a + (n : Int)) := by
    intro d
    induction d with
    | zero =>
      intro i hi
      obtain rfl : i = n := by omega
      refine Ev.step (f := fun _ => some (a + (i : Int))) (fun k => ?_) (Ev.now _)
      simp only [laws_heldInt64S.l0]
      rw [if_neg (by simp [upFrom_length])]
    | succ d ih =>
      intro i hi
      have hlt : i < (upFrom a n).length := by rw [upFrom_length]; omega
      refine Ev.step (fun k => ?_) (ih (i + 1) (by omega))
      simp only [laws_heldInt64S.l0]
      rw [if_pos (by simp [upFrom_length]; omega), if_pos (by omega), rd_nat _ i hlt, if_pos (by simp [upFrom]), wr (by omega) (by omega), wr (by omega) (by omega)]
      rw [show a + (i : Int) + 1 = a + ((i + 1 : Nat) : Int) by omega]
      rfl
  have := key n 0 (by omega)
  simpa using this
/-- How many values the first i rows hold. -/
def preLen (rows : List (List Int)) (i : Nat) : Nat := ((rows.map List.length).take i).sum
def allLen (rows : List (List Int)) : Nat := (rows.map List.length).sum
def upRow (a : Int) (rows : List (List Int)) (i : Nat) : List Int := upFrom (a + (preLen rows i : Int)) ((rows.map List.length).getD i 0)
/-- Rows as a mark leaves them. -/
def upRows (a : Int) (rows : List (List Int)) : List (List Int) := (List.range rows.length).map (upRow a rows)
theorem preLen_succ (rows : List (List Int)) (i : Nat) (h : i < rows.length) : preLen rows (i + 1) = preLen rows i + rows[i].length := by
  have := sum_take_succ (rows.map List.length) i (by simpa using h)
  rwa [List.getElem_map] at this
theorem preLen_le (rows : List (List Int)) (i : Nat) : preLen rows i ≤ allLen rows := sum_take_le _ _
theorem preLen_end (rows : List (List Int)) : preLen rows rows.length = allLen rows := by
  unfold preLen allLen
  rw [List.take_of_length_le (by simp)]
theorem upRows_length (a : Int) (rows : List (List Int)) : (upRows a rows).length = rows.length := by simp [upRows]
theorem upRow_eq (a : Int) (rows : List (List Int)) (i : Nat) (h : i < rows.length) : upRow a rows i = upFrom (a + (preLen rows i : Int)) rows[i].length := by
  unfold upRow
  rw [List.getD_eq_getElem?_getD, List.getElem?_map, List.getElem?_eq_getElem h]
  rfl
theorem markInt64SS_ev (rows : List (List Int)) (a : Int) (ha : 0 ≤ a ∧ a ≤ 1073741824) (hl : rows.length ≤ 1073741824) (hs : allLen rows ≤ 1073741824) : Ev (fun k => laws_markInt64SS.f k rows a) (a + (allLen rows : Int), upRows a rows) := by
  unfold laws_markInt64SS.f
  have key : ∀ d i : Nat, i + d = rows.length → Ev (fun k => laws_markInt64SS.l0 k ((List.range i).map (upRow a rows) ++ rows.drop i) (a + (preLen rows i : Int)) (i : Int)) (a + (allLen rows : Int), upRows a rows) := by
    intro d
    induction d with
    | zero =>
      intro i hi
      obtain rfl : i = rows.length := by omega
      refine Ev.step (f := fun _ => some (a + (allLen rows : Int), upRows a rows)) (fun k => ?_) (Ev.now _)
      simp only [laws_markInt64SS.l0]
      rw [if_neg (by simp), List.drop_length, List.append_nil, preLen_end]
      rfl
    | succ d ih =>
      intro i hi
      have hlt : i < rows.length := by omega
      have hp := preLen_succ rows i hlt
      have hp2 := preLen_le rows (i + 1)
      have hrow : rd_L6 ((List.range i).map (upRow a rows) ++ rows.drop i) (i : Int) = rows[i] := by
        rw [rdL_nat _ i (by simp; omega), List.getElem_append_right (by simp)]
        simp
      refine Ev.step (f := fun k => (laws_markInt64S.f k rows[i] (a + (preLen rows i : Int))).bind fun t => laws_markInt64SS.l0 k (((List.range i).map (upRow a rows) ++ rows.drop i).set i t.2) t.1 ((i + 1 : Nat) : Int)) (fun k => ?_) (Ev.bind (markInt64S_ev rows[i] _ (by omega) (by omega)) ?_)
      · simp only [laws_markInt64SS.l0]
        rw [if_pos (by simp; omega), if_pos (by omega), hrow, wr (by omega) (by omega), Int.toNat_natCast]
        rfl
      · have e : ((List.range i).map (upRow a rows) ++ rows.drop i).set i (upFrom (a + (preLen rows i : Int)) rows[i].length) = (List.range (i + 1)).map (upRow a rows) ++ rows.drop (i + 1) := by
          rw [List.set_append_right _ _ (by simp), List.length_map, List.length_range, Nat.sub_self, List.drop_eq_getElem_cons hlt, List.set_cons_zero, List.range_succ, List.map_append, List.append_assoc, ← upRow_eq a rows i hlt]
          rfl
        simp only [e]
        rw [show a + (preLen rows i : Int) + (rows[i].length : Int) = a + (preLen rows (i + 1) : Int) by omega]
        exact ih (i + 1) (by omega)
  have := key rows.length 0 (by omega)
  simpa [preLen] using this
theorem markFamily_ev (p : Int) (rows : List (List Int)) (a : Int) (ha : 0 ≤ a ∧ a ≤ 1073741824) (hl : rows.length ≤ 1073741824) (hs : allLen rows ≤ 1073741824) : Ev (fun k => laws_markFamily.f k p rows a) (a + (allLen rows : Int), upRows a rows) := by
  unfold laws_markFamily.f
  exact markInt64SS_ev rows a ha hl hs

end Go.Proofs.Ytjnobnmjhpmpfaa.P

/- For all arguments the program's LeavesOf and the reference's answer alike, the argument stays, and the result is memory of its own. -/
namespace Go.Proofs.Ytjnobnmjhpmpfaa.Pure
open Go.RowKit Go.Proofs.Ytjnobnmjhpmpfaa.P Go.Proofs.YtjnobnmjhpmpfaaW.PrintWords Go.Proofs.YtjnobnmjhpmpfaaW.PrintLast Go.Proofs.YtjnobnmjhpmpfaaW.PrintMore
set_option linter.unusedVariables false
set_option linter.unusedSimpArgs false

theorem wfG_ofL : ∀ {x : S24}, wfS24 x → wfG x
  | x, .mk _ _ _ h3 h4 => .mk x h3 (fun y hy => wfG_ofL (h4 y hy))
theorem FnExactLeavesOf : laws_FnExactLeavesOf.Pure := by
  intro h x _ hx
  have s1 := szGate_ev x.f0 x.f1 x.f2 (wfL_kids (wfG_ofL hx)) 1048576 (by omega) (by omega)
  by_cases hb : (nL x.f2 : Int) ≤ 1048576
  · rw [show szV 1048576 (nL x.f2) = 1048576 - (nL x.f2 : Int) from by unfold szV; rw [if_pos hb]] at s1
    have hm : mL (cvL x.f2) ≤ 1048576 := by rw [mL_cv]; omega
    have hs := LeavesRes_len h ⟨x.f0, x.f1, cvL x.f2⟩ (by rw [mT_kids]; exact hm)
    have e1 := spec_LeavesOf_ev h x.f0 x.f1 (cvL x.f2) hm
    have e2 := impl_LeavesOf_ev h x.f0 x.f1 (cvL x.f2) hm
    obtain ⟨⟨y, q⟩, er⟩ : ∃ r, r = LeavesRes h ⟨x.f0, x.f1, cvL x.f2⟩ := ⟨_, rfl⟩
    rw [← er] at e1 e2 hs
    dsimp only at hs
    obtain ⟨k, a1, a2, a3, a4, a5, a6, a7, a8, a9⟩ := From.now (From.and s1 (From.and (toGate_ev x.f0 x.f1 x.f2 (by omega)) (From.and e1 (From.and e2 (From.and (eqInt64S_same y (by omega)) (From.and (eqGate_same x.f0 x.f1 (cvL x.f2) hm) (From.and (markGate_ev x.f0 x.f1 (cvL x.f2) hm) (From.and (markInt64S_ev y 1 (by omega) (by omega)) (heldInt64S_ev 1 y.length (by omega) (by omega))))))))))
    exact Or.inr ⟨k, _, _, _, _, _, _, _, a1, decide_eq_false (by omega), a2, a3, a2, a4, a5, a2, a6, a7, decide_eq_false (by omega), a5, a8, a9, decide_eq_false (by omega), a2, a4, a5, a9, decide_eq_false (by omega)⟩
  · rw [show szV 1048576 (nL x.f2) = -1 from by unfold szV; rw [if_neg hb]] at s1
    obtain ⟨k, a1⟩ := From.now s1
    exact Or.inl ⟨k, _, a1, by decide⟩

end Go.Proofs.Ytjnobnmjhpmpfaa.Pure

/- The row of the law FnExactLeavesOf: whatever its arguments, it answers true, and they read as before. No condition. -/
namespace Go.Proofs.Ytjnobnmjhpmpfaa.fnExactLeavesOf
open Go.ChangeShapes Go.WideShapes Go.ChangeAt Go.RowKit Go.Proofs.Ytjnobnmjhpmpfaa.P Go.Proofs.YtjnobnmjhpmpfaaW.PrintWords Go.Proofs.YtjnobnmjhpmpfaaW.PrintLast Go.Proofs.YtjnobnmjhpmpfaaW.PrintMore
open Go.ChangeMaps (open_string shut_string)
set_option linter.unusedVariables false
theorem own : ownKnob Try.prog.godebug = none := by kernel_rfl
theorem laidOut : laidOutB Try.prog = true := by kernel_rfl
set_option maxRecDepth 100000 in
theorem lifted (os : Os) (started : os.Started) (H : Type) (enc : TypeId × Value → H) :
    ReturnsInHanded {} Try.checked os 7 .any (Rows.fnExactLeavesOfSpec.pre6 enc Try.prog Try.f7 Rows.fnExactLeavesOfRow.domain false) (Rows.fnExactLeavesOfSpec.post enc Try.prog Try.f7 false true false false) := by
  refine returnsInHanded_of_change_sized (C := Try.checked) own started (by kernel_rfl) Try.func7
    (ChangeSpec.witness6 (enc := enc) (C := Try.checked) false ⟨#[], #[.int .i64 0, .agg #[.int .i64 0, .int .i64 0, .slice none 0 0]], []⟩ 8 (by kernel_rfl) (by kernel_rfl) (by kernel_rfl) (by kernel_rfl)) ?_
  intro W base args ds gs before hval0 hW hcnd hsz0 _
  have hval : ∀ (j : Nat) t v, Try.f7.params[j]? = some t → args[j]? = some v → Value.okWide Try.prog W .any base t v := hval0
  have hW' := hW
  obtain ⟨p, q, hA0, hV, rfl, hfz, hnd⟩ := hW
  have hA : DataW.TrodAll enc Try.prog W 0 (fun _ => true) true Try.f7.params.toList args.toList ds p := hA0
  rw [Try.params7] at hA hval
  obtain ⟨v0, vs0, d0, ds0, p0, q0, hargs, rfl, rfl, h0, r0⟩ := trodAll_cons hA
  obtain ⟨v1, vs1, d1, ds1, p1, q1, rfl, rfl, rfl, h1, r1⟩ := trodAll_cons r0
  obtain ⟨rfl, rfl, rfl⟩ := trodAll_nil r1
  obtain rfl : args = #[v0, v1] := by cases args; simp_all
  obtain ⟨rfl, rfl⟩ := trodVars_none hV
  obtain ⟨a0, rfl, rfl, rfl, w0⟩ := open_int Try.underlying2 (hval 0 2 v0 rfl rfl) h0
  have k1 := h1
  have lt1 : ∀ x ∈ p1, x.block < W.heap.size := by obtain ⟨m, hm⟩ := k1; exact DataW.trod_lt m _ _ _ hm
  obtain ⟨cs1, rfl, _⟩ := okWide_struct Try.underlying24 (hval 1 24 v1 rfl rfl)
  obtain ⟨x1, hK1, wf1⟩ := OpensAt.any opensS24 h1
  obtain ⟨A1_2, c1_2, e1, l1_2, g1_2⟩ := k24_open hK1
  obtain rfl : cs1 = #[.int .i64 x1.f0, .int .i64 x1.f1, .slice A1_2 x1.f2.length c1_2] := by cases cs1; simpa [Value.cells] using e1
  clear hA0 hval0 hsz0
  refine (P.laws_FnExactLeavesOf.walk Pure.FnExactLeavesOf a0 x1 _ _ W g1_2 l1_2 w0 wf1).mono fun e W' ⟨he, bel⟩ => ?_
  subst he
  exact ⟨_, rfl, _, _, _, [], _, [], hW', trodAll_mk1 (shut_bool Try.underlying4 _), (trodAll_cons_mk (shut_int Try.underlying2 w0) (trodAll_cons_mk (Below.trod laidOut (by kernel_rfl) (of_decide_eq_true (by kernel_rfl)) k1 bel lt1) trodAll_mk0)), rfl, bel.frame _, fun h => by cases h⟩
theorem over : Rows.fnExactLeavesOfRow.holds Try.pinned (OpenSpec.ofChange Rows.fnExactLeavesOfSpec) :=
  OpenClaim.holds_of_wide 7 Try.f7 rfl rfl rfl rfl rfl rfl rfl ⟨rfl, rfl, rfl, rfl, rfl⟩ rfl rfl rfl rfl rfl (by kernel_rfl) Try.func7 (by kernel_rfl)
    (of_decide_eq_true (by kernel_rfl)) (by unfold Func.isWrapper; first | (rw [if_pos (by decide +kernel)]; kernel_rfl) | (rw [if_neg (by decide +kernel)]; exact ⟨rfl, rfl⟩))
    (fun os started H enc _ => lifted os started H enc)
theorem proved : Rows.FnExactLeavesOfSaid := over
#print axioms proved
end Go.Proofs.Ytjnobnmjhpmpfaa.fnExactLeavesOf
namespace Go.Proofs.Ytjnobnmjhpmpfaa
/-- The row, under a short name, for the claim. -/
theorem fnExactLeavesOf_holds : Rows.FnExactLeavesOfSaid := fnExactLeavesOf.proved
end Go.Proofs.Ytjnobnmjhpmpfaa
