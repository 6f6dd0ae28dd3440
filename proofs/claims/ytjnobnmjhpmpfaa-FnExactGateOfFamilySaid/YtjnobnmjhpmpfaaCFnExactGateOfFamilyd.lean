/- For every family the program's GateOfFamily and the reference's answer alike, the argument stays, and the result is memory of its own. This text: the theorem of the row, and part 4 of what it rests on. -/
import Derived.Test.YtjnobnmjhpmpfaaCFnExactGateOfFamilyc
import Derived.Below
import Derived.Carry
import Derived.ChangeArms
import Derived.ChangeOld
import Derived.Deep.Slices
import Derived.OpenShut
import Derived.ProofKit
import Derived.ShutString
import Derived.SizedLaws
import Derived.Test.YtjnobnmjhpmpfaaRows
import Derived.WalkKit
import Derived.WideShapes
namespace Go.Proofs.Ytjnobnmjhpmpfaa.P
open Go.RowKit Go.Proofs.YtjnobnmjhpmpfaaW.PrintWords Go.Proofs.YtjnobnmjhpmpfaaW.PrintLast Go.Proofs.YtjnobnmjhpmpfaaW.PrintMore
attribute [local go_sem] max2_int min2_int max_two min_two max_three min_three max_four min_four
set_option linter.unusedVariables false
set_option linter.unusedSimpArgs false

/-! ### laws_markInt64S: function 28 -/
def laws_markInt64S.l0 : Nat → List Int → Int → Int → Option (Int × List Int)
  | 0, _, _, _ => none
  | k + 1, x0, x1, x5 => if x5 < (x0.length : Int) then (if 0 ≤ x5 then (laws_markInt64S.l0 k (x0.set (x5 : Int).toNat x1) (wrap64 (x1 + 1)) (wrap64 (x5 + 1))) else (none)) else (some (x1, x0))
def laws_markInt64S.f (k : Nat) (l0 : List Int) (a1 : Int) : Option (Int × List Int) := laws_markInt64S.l0 k l0 a1 0
set_option maxHeartbeats 8000000 in
set_option maxRecDepth 100000 in
theorem laws_markInt64S.calls (k : Nat) (P0_ : Nat → Prop) (u9000_ : Value) (l0 : List Int) (a1 : Int) (r1 : Int) (r2 : List Int) (w0 w : World) (hB : Below w0.heap.size w0 w) (ho0 : Kd.R (Kd.int .i64) 2 w w0.heap.size P0_ u9000_ l0) (h : laws_markInt64S.f k l0 a1 = some (r1, r2)) :
    Calls Try.prog 28 #[u9000_, .int .i64 a1] w fun e w' => e = .returned (.int .i64 r1) ∧ Kd.R (Kd.int .i64) 2 w' w0.heap.size (fun k_ => (P0_ k_ ∨ w.heap.size ≤ k_)) u9000_ r2 ∧ Below w0.heap.size w0 w' ∧ Kept w w' (fun k_ => P0_ k_) := by
  have HO0 := Aside0.mk (show Kd.R (Kd.int .i64) 2 w w0.heap.size (fun k_ => (P0_ k_ ∨ w.heap.size ≤ k_)) u9000_ l0 from Kd.R_mono ho0 (fun k_ hk => (.inl hk)))
  have HK := Aside0.mk (Kept.refl w (fun k_ => P0_ k_))
  have HW0 := Aside0.mk hB.size
  have HB := Aside0.mk hB
  clear hB
  have H : (laws_markInt64S.l0 k l0 a1 0) = some (r1, r2) := h
  clear h
  have H' := Aside0.mk H
  clear H
  go_enter Try.func28, Try.ntmps28
  go_wp2
  go_loopg [1, 5] k (fun kq v1 v5 w' => ∃ (x0_1 : List Int) (x1_1 : Int) (x5_1 : Int), v1 = .int .i64 x1_1 ∧ v5 = .int .i64 x5_1 ∧ Aside0 (laws_markInt64S.l0 kq x0_1 x1_1 x5_1 = some (r1, r2)) ∧ Aside0 (kq ≤ k) ∧ Aside0 (Kd.R (Kd.int .i64) 2 w' w0.heap.size (fun k_ => (P0_ k_ ∨ w.heap.size ≤ k_)) u9000_ x0_1) ∧ Aside0 (Kept w w' (fun k_ => P0_ k_)) ∧ Aside0 (Below w0.heap.size w0 w'))
  case atStart => exact ⟨(l0), (a1), (0), (by first | rfl | (simp; done) | (simp [*]; done)), (by first | rfl | (simp; done) | (simp [*]; done)), H', ⟨Nat.le_refl _⟩, ⟨by (with_reducible repeat (first | apply Kd.R_alloc | apply Kd.R_drewN | apply Kd.R_drew)); exact HO0.out⟩, ⟨by repeat (first | (with_reducible first | exact HK.out | apply Kept.alloc | apply Kept.drewN | apply Kept.drew) | exact HK.out)⟩, ⟨by repeat (first | (with_reducible first | exact HB.out | apply below_alloc | apply pw_below_drewN | apply below_drew1) | exact HB.out)⟩⟩
  case round =>
    clear H'
    try clear c2
    try clear p2
    obtain ⟨x0_1, x1_1, x5_1, rfl, rfl, HA, HK1, HO_0, HK, HB⟩ := hrel
    cases gk with
    | zero => exact absurd HA.out (by simp [laws_markInt64S.l0])
    | succ k1 =>
      have H := HA.out
      clear HA
      simp only [laws_markInt64S.l0] at H
      by_cases c3 : x5_1 < (x0_1.length : Int)
      · rw [if_pos c3] at H
        have c3b0 : decide (x5_1 < (x0_1.length : Int)) = true := decide_eq_true c3
        clear c3
        by_cases c4 : 0 ≤ x5_1
        · rw [if_pos c4] at H
          have c4b0 : decide (0 ≤ x5_1) = true := decide_eq_true c4
          clear c4
          obtain ⟨y138, hy138⟩ : ∃ y_ : List Int, y_ = (x0_1.set (x5_1 : Int).toNat x1_1) := ⟨_, rfl⟩
          replace H : (laws_markInt64S.l0 k1 y138 (wrap64 (x1_1 + 1)) (wrap64 (x5_1 + 1))) = some (r1, r2) := by first | (rw [hy138]; with_reducible exact H) | (have H2_ := (Option.bind_some _ _).symm.trans H; rw [hy138]; with_reducible exact H2_) | (have H2_ := (Option.bind_some _ _).symm.trans H; with_reducible exact H2_) | with_reducible exact H | (rw [hy138]; exact H) | exact H
          have Ny138 := Aside0.mk hy138
          clear hy138
          have H' := Aside0.mk H
          clear H
          obtain ⟨Ao6, co6, eo6⟩ := Kd.R_slice HO_0.out
          subst eo6
          have p5 : 0 ≤ (x5_1 : Int) := of_decide_eq_true (by first | (with_reducible assumption) | assumption)
          have q5 : (x5_1 : Int) < ((x0_1.length : Int) : Int) := of_decide_eq_true (by first | (with_reducible assumption) | assumption)
          obtain ⟨go5, co5, eo5, gb5, gl5, cl5, HG5⟩ := Kd.R_form HO_0.out (by omega)
          (first | cases eo5 | (injection eo5 with ea_ en_ ec_; (first | subst ea_ | (injection ea_ with ea_; subst ea_)); subst ec_; clear en_))
          have GB5 := Aside0.mk gb5
          have GG5 := Aside0.mk HG5
          clear gb5 gl5 HG5
          have HMgo5 := Aside0.mk (show (P0_ go5 ∨ w.heap.size ≤ go5) from (HO_0.out.1 _ rfl))
          obtain ⟨hx5_0, hf5_0⟩ := Kd.R_celln 0 HO_0.out (x5_1 : Int) p5 q5
          replace p5 := eq_true p5
          replace q5 := eq_true q5
          have HP7 := Kd.R_putg HO_0.out (x5_1 : Int) x1_1
          go_wp2_with (first | ((with_reducible refine gate_store (t := 2) (p := 15) rfl ?_); refine store_event (t := 2) (p := 15) (v := ?vo_w8) (w1 := (wr.setCell ⟨go5, (x5_1 : Int).toNat, none⟩ (.int .i64 x1_1))) ?hg ?ho ?hn ?hr ?_; (case ho => rfl); (case hg => rfl); (case hn => rfl); (case hr => first | (go_simp; done) | (go_simp; rfl)); intro w8 hw; have hg : wr.grownBy w8 (some go5) := (by rw [hw]; exact HP7.2); have hp_ : Kd.R (Kd.int .i64) 2 w8 w0.heap.size (fun k_ => (P0_ k_ ∨ w.heap.size ≤ k_)) (.slice (some ⟨go5, 0, none⟩) x0_1.length co6) y138 := (by rw [hw, Ny138.out]; exact HP7.1); clear HP7; have n0_ := Aside0.mk (hp_); have n1_ := Aside0.mk ((by rw [hw]; exact below_set (HB.out) GB5.out : Below w0.heap.size w0 w8)); have n2_ := Aside0.mk (Kept.of_grown (S := (fun k_ => P0_ k_)) hg (by repeat (first | (with_reducible first | exact HK.out | apply Kept.alloc | apply Kept.drewN | apply Kept.drew) | exact HK.out)) (fun k_ e_ => (HO_0.out.1 k_ e_))); clear HO_0; clear HB; clear HK; have HO_0 := n0_; have HB := n1_; have HK := n2_; clear n0_ n1_ n2_; clear hg hw hp_))
          go_roundg k1
          case measure => have := HK1.out; omega
          case rel => exact ⟨(y138), (wrap64 (x1_1 + 1)), (wrap64 (x5_1 + 1)), (by first | rfl | (simp; done) | (simp [*]; done)), (by first | rfl | (simp; done) | (simp [*]; done)), H', ⟨by have := HK1.out; omega⟩, ⟨by (with_reducible repeat (first | apply Kd.R_alloc | apply Kd.R_drewN | apply Kd.R_drew)); exact HO_0.out⟩, ⟨by repeat (first | (with_reducible first | exact HK.out | apply Kept.alloc | apply Kept.drewN | apply Kept.drew) | exact HK.out)⟩, ⟨by repeat (first | (with_reducible first | exact HB.out | apply below_alloc | apply pw_below_drewN | apply below_drew1) | exact HB.out)⟩⟩
        · rw [if_neg c4] at H
          exact absurd H (by simp)
      · rw [if_neg c3] at H
        have c3b0 : decide (x5_1 < (x0_1.length : Int)) = false := decide_eq_false c3
        clear c3
        simp only [Option.some.injEq, Prod.mk.injEq] at H
        obtain ⟨rfl, rfl⟩ := H
        obtain ⟨Ao9, co9, eo9⟩ := Kd.R_slice HO_0.out
        subst eo9
        go_wp2
        go_ret
        exact ⟨by first | rfl | (simp [errW_none, errW_some] <;> rfl) | (simp [*, errW_none, errW_some] <;> rfl), by (with_reducible repeat (first | apply Kd.R_alloc | apply Kd.R_drewN | apply Kd.R_drew)); exact HO_0.out, by repeat (first | (with_reducible first | exact HB.out | apply below_alloc | apply pw_below_drewN | apply below_drew1) | exact HB.out), by repeat (first | (with_reducible first | exact HK.out | apply Kept.alloc | apply Kept.drewN | apply Kept.drew) | exact HK.out)⟩

end Go.Proofs.Ytjnobnmjhpmpfaa.P

namespace Go.Proofs.Ytjnobnmjhpmpfaa.P
open Go.RowKit Go.Proofs.YtjnobnmjhpmpfaaW.PrintWords Go.Proofs.YtjnobnmjhpmpfaaW.PrintLast Go.Proofs.YtjnobnmjhpmpfaaW.PrintMore
attribute [local go_sem] max2_int min2_int max_two min_two max_three min_three max_four min_four
set_option linter.unusedVariables false
set_option linter.unusedSimpArgs false

/-! ### laws_markInt64SS: function 82 (by hand) -/
/-- The mark of a flat row, in one form for all marks: it writes into the row's own blocks alone. -/
theorem laws_markInt64S.callsM (k : Nat) (P0_ : Nat → Prop) (u : Value) (l0 : List Int) (a1 : Int) (r1 : Int) (r2 : List Int) (w0 w : World) (hB : Below w0.heap.size w0 w) (ho0 : Kd.R (Kd.int .i64) 2 w w0.heap.size P0_ u l0) (h : laws_markInt64S.f k l0 a1 = some (r1, r2)) :
    Calls Try.prog 28 #[u, .int .i64 a1] w fun e w' => e = .returned (.int .i64 r1) ∧ Kd.R (Kd.int .i64) 2 w' w0.heap.size P0_ u r2 ∧ Below w0.heap.size w0 w' ∧ Kept w w' P0_ := by
  refine (laws_markInt64S.calls k P0_ u l0 a1 r1 r2 w0 w hB ho0 h).mono ?_
  rintro e w' ⟨he, hr, hb, hk⟩
  exact ⟨he, Kd.R_reok rfl hr (fun k_ e_ => ho0.1 k_ e_), hb, hk⟩
def laws_markInt64SS.l0 : Nat → List (List Int) → Int → Int → Option (Int × List (List Int))
  | 0, _, _, _ => none
  | k + 1, xs, m, i => if i < (xs.length : Int) then (if 0 ≤ i then ((laws_markInt64S.f k (rd_L6 xs i) m).bind fun t => laws_markInt64SS.l0 k (xs.set i.toNat t.2) t.1 (wrap64 (i + 1))) else none) else some (m, xs)
def laws_markInt64SS.f (k : Nat) (l0 : List (List Int)) (a1 : Int) : Option (Int × List (List Int)) := laws_markInt64SS.l0 k l0 a1 0
set_option maxHeartbeats 8000000 in
set_option maxRecDepth 100000 in
theorem laws_markInt64SS.callsM (k : Nat) (P0_ : Nat → Prop) (u : Value) (l0 : List (List Int)) (a1 : Int) (r1 : Int) (r2 : List (List Int)) (w0 w : World) (hB : Below w0.heap.size w0 w) (ho0 : Kd.S (Kd.slice 2 (Kd.int .i64)) 39 w w0.heap.size P0_ u l0) (h : laws_markInt64SS.f k l0 a1 = some (r1, r2)) :
    Calls Try.prog 82 #[u, .int .i64 a1] w fun e w' => e = .returned (.int .i64 r1) ∧ Kd.S (Kd.slice 2 (Kd.int .i64)) 39 w' w0.heap.size P0_ u r2 ∧ Below w0.heap.size w0 w' ∧ Kept w w' P0_ := by
  obtain ⟨Ao, co, rfl⟩ := Kd.S_slice ho0
  have HO := Aside0.mk ho0
  have HB := Aside0.mk hB
  have HK := Aside0.mk (Kept.refl w P0_)
  have H' := Aside0.mk h
  clear ho0 hB h
  go_enter Try.func82, Try.ntmps82
  go_wp2
  go_loopg [1, 5] k (fun kq v1 v5 w' => ∃ (x1 x5 : Int) (xs : List (List Int)), v1 = .int .i64 x1 ∧ v5 = .int .i64 x5 ∧ Aside0 (laws_markInt64SS.l0 kq xs x1 x5 = some (r1, r2)) ∧ Aside0 (kq ≤ k) ∧ Aside0 (Kd.S (Kd.slice 2 (Kd.int .i64)) 39 w' w0.heap.size P0_ (.slice Ao l0.length co) xs) ∧ Aside0 (Below w0.heap.size w0 w') ∧ Aside0 (Kept w w' P0_))
  case atStart => exact ⟨a1, 0, l0, rfl, rfl, H', ⟨Nat.le_refl _⟩, HO, HB, HK⟩
  case round =>
    clear H' HB HK HO
    obtain ⟨x1, x5, xs, rfl, rfl, HA, HK1, HO, HB, HK⟩ := hrel
    cases gk with
    | zero => exact absurd HA.out (by simp [laws_markInt64SS.l0])
    | succ k1 =>
      have H := HA.out
      clear HA
      simp only [laws_markInt64SS.l0] at H
      have hlen := (Kd.S_reads' HO.out).1
      by_cases c6 : x5 < (xs.length : Int)
      · rw [if_pos c6] at H
        have c6b0 : decide (x5 < (l0.length : Int)) = true := decide_eq_true (by omega)
        by_cases c7 : 0 ≤ x5
        · rw [if_pos c7] at H
          have c7b0 : decide (0 ≤ x5) = true := decide_eq_true c7
          replace H := Option.bind_eq_some_iff.mp H
          obtain ⟨⟨t1, t2⟩, At, H⟩ := H
          have A3 := Aside0.mk At
          have H' := Aside0.mk H
          clear At H
          obtain ⟨g, cap, eo, hg0, hg1, _⟩ := Kd.S_form HO.out (by omega)
          injection eo with ea_ en_ ec_
          subst ea_
          obtain ⟨oki, c, hcl, hM, hcc, hoki, hH⟩ := Kd.S_lend HO.out ([] : List Int) x5 c7 (by omega)
          obtain ⟨v1, rfl, hR⟩ := hM
          have hx := hcc 0 _ rfl
          simp only [show (Kd.slice 2 (Kd.int .i64)).sz = 1 from rfl, Nat.mul_one, Nat.add_zero] at hx
          obtain ⟨Ae, ce, rfl⟩ := Kd.R_slice hR
          have HR := Aside0.mk hR
          have HH := Aside0.mk hH
          have HOK := Aside0.mk hoki
          have p6 : (x5 < (l0.length : Int)) = True := eq_true (by omega)
          have p7 := eq_true c7
          clear hR hH hoki hcc hcl hg0 hg1 en_ ec_ c6 c7 hlen
          go_wp2_with (first | (go_at_call 28; (refine (laws_markInt64S.callsM k1 oki _ (xs.getD x5.toNat []) x1 t1 t2 w0 _ ?side1 ?side2 A3.out).mono ?_); (case side1 => exact HB.out); (case side2 => exact HR.out); rintro e w' ⟨rfl, hr, hb, hk⟩))
          go_roundg k1
          case measure => have := HK1.out; omega
          case rel => exact ⟨t1, _, xs.set x5.toNat t2, rfl, rfl, H', ⟨by have := HK1.out; omega⟩, ⟨Kd.H_back (Kd.H_kept HH.out hk (fun k_ _ hn => hn)) ⟨_, rfl, hr⟩ (fun _ h => h)⟩, ⟨hb⟩, ⟨Kept.then_ HK.out hk (fun k_ h_ => .inl (HOK.out k_ h_).1)⟩⟩
        · rw [if_neg c7] at H
          exact absurd H (by simp)
      · rw [if_neg c6] at H
        have c6b0 : decide (x5 < (l0.length : Int)) = false := decide_eq_false (by omega)
        clear c6 hlen
        injection H with H
        injection H with e1 e2
        subst e1 e2
        go_wp2
        go_ret
        exact ⟨rfl, HO.out, HB.out, HK.out⟩

end Go.Proofs.Ytjnobnmjhpmpfaa.P

namespace Go.Proofs.Ytjnobnmjhpmpfaa.P
open Go.RowKit Go.Proofs.YtjnobnmjhpmpfaaW.PrintWords Go.Proofs.YtjnobnmjhpmpfaaW.PrintLast Go.Proofs.YtjnobnmjhpmpfaaW.PrintMore
attribute [local go_sem] max2_int min2_int max_two min_two max_three min_three max_four min_four
set_option linter.unusedVariables false
set_option linter.unusedSimpArgs false

/-! ### laws_markFamily: function 42 (by hand) -/
def laws_markFamily.f (k : Nat) (a0_0 : Int) (l0_1 : List (List Int)) (a1 : Int) : Option (Int × List (List Int)) := laws_markInt64SS.f k l0_1 a1
set_option maxHeartbeats 8000000 in
set_option maxRecDepth 100000 in
theorem laws_markFamily.callsM (k : Nat) (a0_0 : Int) (P0_ : Nat → Prop) (u : Value) (l0_1 : List (List Int)) (a1 : Int) (r1 : Int) (r2 : List (List Int)) (w0 w : World) (hB : Below w0.heap.size w0 w) (ho0 : Kd.S (Kd.slice 2 (Kd.int .i64)) 39 w w0.heap.size P0_ u l0_1) (h : laws_markFamily.f k a0_0 l0_1 a1 = some (r1, r2)) :
    Calls Try.prog 42 #[.agg #[.int .i64 a0_0, u], .int .i64 a1] w fun e w' => e = .returned (.int .i64 r1) ∧ Kd.S (Kd.slice 2 (Kd.int .i64)) 39 w' w0.heap.size P0_ u r2 ∧ Below w0.heap.size w0 w' ∧ Kept w w' P0_ := by
  have hum := Try.underlying53
  obtain ⟨Ao, co, rfl⟩ := Kd.S_slice ho0
  have HO := Aside0.mk ho0
  have HB := Aside0.mk hB
  have A3 := Aside0.mk (show laws_markInt64SS.f k _ a1 = some (r1, r2) from h)
  clear ho0 hB h
  go_enter Try.func42, Try.ntmps42
  go_wp2_with (first | (go_at_call 82; (with_reducible refine (laws_markInt64SS.callsM k P0_ _ l0_1 a1 r1 r2 w0 _ ?side1 ?side2 A3.out).mono ?_); (case side1 => repeat (first | (with_reducible first | exact HB.out | apply below_alloc | apply pw_below_drewN | apply below_drew1) | exact HB.out)); (case side2 => (with_reducible repeat (first | apply Kd.S_alloc | apply Kd.S_drewN | apply Kd.S_drew)); exact HO.out); rintro e w' ⟨rfl, hr, hb, hk⟩))
  go_ret
  exact ⟨rfl, hr, hb, Kept.then_ (by repeat (first | exact Kept.refl _ _ | apply Kept.alloc | apply Kept.drewN | apply Kept.drew)) hk (fun _ h => .inl h)⟩

end Go.Proofs.Ytjnobnmjhpmpfaa.P

namespace Go.Proofs.Ytjnobnmjhpmpfaa.P
open Go.RowKit Go.Proofs.YtjnobnmjhpmpfaaW.PrintWords Go.Proofs.YtjnobnmjhpmpfaaW.PrintLast Go.Proofs.YtjnobnmjhpmpfaaW.PrintMore
attribute [local go_sem] max2_int min2_int max_two min_two max_three min_three max_four min_four
set_option linter.unusedVariables false
set_option linter.unusedSimpArgs false

/-! ### laws_eqGateS: function 46 -/
mutual
def laws_eqGateS.l0 : Nat → List (S29) → List (S29) → Int → Option (Bool)
  | 0, _, _, _ => none
  | k + 1, x0, x1, x5 => if x5 < (x0.length : Int) then (if 0 ≤ x5 then (if x5 < (x1.length : Int) then ((laws_eqGate.f k ((rd_T29 x0 x5).f0) ((rd_T29 x0 x5).f1) ((rd_T29 x0 x5).f2) ((rd_T29 x1 x5).f0) ((rd_T29 x1 x5).f1) ((rd_T29 x1 x5).f2)).bind fun t124 => (if t124 = true then (laws_eqGateS.l0 k x0 x1 (wrap64 (x5 + 1))) else (some false))) else (none)) else (none)) else (some true)
def laws_eqGateS.f : Nat → List (S29) → List (S29) → Option (Bool)
  | 0, _, _ => none
  | k + 1, l0, l1 => if (l0.length : Int) = (l1.length : Int) then (laws_eqGateS.l0 k l0 l1 0) else (some false)
def laws_eqGate.f : Nat → Int → Int → (List (S29)) → Int → Int → (List (S29)) → Option (Bool)
  | 0, _, _, _, _, _, _ => none
  | k + 1, a0_0, a0_1, l0_2, a1_0, a1_1, l1_2 => if a0_0 = a1_0 then (if a0_1 = a1_1 then ((laws_eqGateS.f k l0_2 l1_2).bind fun t121 => (if t121 = true then (some true) else (some false))) else (some false)) else (some false)
end
def laws_eqGateS.T6 : Bool × List (List Nat × List Nat) := (true, [([], []), ([], []), ([0, 1], [0, 1]), ([2], [2]), ([], []), ([], []), ([4, 5], [4, 5]), ([6], [6]), ([3, 7], [3, 7]), ([8], [8])])
def laws_eqGateS.B6 : List Nat := [0, 0, 3, 7, 0, 0, 48, 112, 255, 511]
theorem laws_eqGateS.tab6 : rtab .any (opsOf Try.f46 6) = laws_eqGateS.T6 := by kernel_rfl
theorem laws_eqGateS.bits6 : waitsOk laws_eqGateS.T6.2 laws_eqGateS.B6 = true := by kernel_rfl
set_option maxHeartbeats 8000000 in
set_option maxRecDepth 100000 in
theorem laws_eqGate.calls_of (k : Nat) (IH : ∀ (A0 : Option Addr) (c0 : Nat) (l0 : List (S29)) (A1 : Option Addr) (c1 : Nat) (l1 : List (S29)) (r : Bool) (w : World) (hr0 : Kd.C k29 w A0 l0.length l0) (hc0 : l0.length ≤ c0) (hr1 : Kd.C k29 w A1 l1.length l1) (hc1 : l1.length ≤ c1) (h : laws_eqGateS.f k l0 l1 = some r), Calls Try.prog 46 #[.slice A0 l0.length c0, .slice A1 l1.length c1] w fun e w' => e = .returned (.bool r) ∧ Below w.heap.size w w') (a0_0 : Int) (a0_1 : Int) (A0_2 : Option Addr) (c0_2 : Nat) (l0_2 : List (S29)) (a1_0 : Int) (a1_1 : Int) (A1_2 : Option Addr) (c1_2 : Nat) (l1_2 : List (S29)) (r : Bool) (w : World) (hr0_2 : Kd.C k29 w A0_2 l0_2.length l0_2) (hc0_2 : l0_2.length ≤ c0_2) (hr1_2 : Kd.C k29 w A1_2 l1_2.length l1_2) (hc1_2 : l1_2.length ≤ c1_2) (h : laws_eqGate.f (k + 1) a0_0 a0_1 l0_2 a1_0 a1_1 l1_2 = some r) :
    Calls Try.prog 16 #[.agg #[.int .i64 a0_0, .int .i64 a0_1, .slice A0_2 l0_2.length c0_2], .agg #[.int .i64 a1_0, .int .i64 a1_1, .slice A1_2 l1_2.length c1_2]] w fun e w' => e = .returned (.bool r) ∧ Below w.heap.size w w' := by
  simp only [laws_eqGate.f] at h
  have hu29 := Try.underlying29
  have HR0_2 := Aside0.mk hr0_2
  have HC0_2 := Aside0.mk hc0_2
  clear hr0_2 hc0_2
  have HR1_2 := Aside0.mk hr1_2
  have HC1_2 := Aside0.mk hc1_2
  clear hr1_2 hc1_2
  have HB := Aside0.mk (Below.refl w.heap.size w)
  have H : (if a0_0 = a1_0 then (if a0_1 = a1_1 then ((laws_eqGateS.f k l0_2 l1_2).bind fun t121 => (if t121 = true then (some true) else (some false))) else (some false)) else (some false)) = some r := h
  clear h
  by_cases c3 : a0_0 = a1_0
  · rw [if_pos c3] at H
    have c3b0 : (a0_0 == a1_0) = true := beq_iff_eq.mpr c3
    have c3b1 : (a0_0 != a1_0) = false := bne_eq_false_iff_eq.mpr c3
    clear c3
    by_cases c4 : a0_1 = a1_1
    · rw [if_pos c4] at H
      have c4b0 : (a0_1 == a1_1) = true := beq_iff_eq.mpr c4
      have c4b1 : (a0_1 != a1_1) = false := bne_eq_false_iff_eq.mpr c4
      clear c4
      replace H := Option.bind_eq_some_iff.mp H
      obtain ⟨t121, A50, H⟩ := H
      replace H : (if t121 = true then (some true) else (some false)) = some r := H
      have A5 := Aside0.mk A50
      clear A50
      by_cases c6 : t121 = true
      · subst c6
        have H1 : (some true) = some r := by rw [if_pos rfl] at H; exact H
        clear H
        have H := H1
        clear H1
        obtain rfl := Option.some.inj H
        go_enter Try.func16, Try.ntmps16
        go_wp2_with (first | ((with_reducible refine gate_dst (N := 2) rfl ?_); refine box_event ?hg (N := 2) ?hd (cs := #[.int .i64 a0_0, .int .i64 a0_1, .slice A0_2 l0_2.length c0_2]) (t := 29) ?hr ?_; (case hd => rfl); (case hg => rfl); (case hr => first | (go_simp; done) | (go_simp; rfl)); intro gb119 hg w7 hbox hb; have n0_ := Aside0.mk (below_step (by repeat (first | (with_reducible first | exact HB.out | apply below_alloc | apply pw_below_drewN | apply below_drew1) | exact HB.out)) hb); have n1_ := Aside0.mk (hbox); have n2_ := Aside0.mk ((by rw [hg]; exact (below_size (by repeat (first | (with_reducible first | exact HB.out | apply below_alloc | apply pw_below_drewN | apply below_drew1) | exact HB.out))) : w.heap.size ≤ gb119)); have n3_ := Aside0.mk ((by rw [hg]; exact (below_size (by repeat (first | (with_reducible first | exact HB.out | apply below_alloc | apply pw_below_drewN | apply below_drew1) | exact HB.out))) : w.heap.size ≤ gb119)); clear HB; have HB := n0_; have BK119 := n1_; have GW119 := n2_; have GE119 := n3_; clear n0_ n1_ n2_ n3_; clear hb hbox hg) | ((with_reducible refine gate_dst (N := 3) rfl ?_); refine box_event ?hg (N := 3) ?hd (cs := #[.int .i64 a1_0, .int .i64 a1_1, .slice A1_2 l1_2.length c1_2]) (t := 29) ?hr ?_; (case hd => rfl); (case hg => rfl); (case hr => first | (go_simp; done) | (go_simp; rfl)); intro gb120 hg w8 hbox hb; have n0_ := Aside0.mk (blk_below (g := gb119) (o := .cells #[.int .i64 a0_0, .int .i64 a0_1, .slice A0_2 l0_2.length c0_2] 29 (0, 0)) (by (with_reducible repeat (first | refine blk_drewN ?_ _ | refine blk_drew ?_ | refine blk_alloc ?_ _)); exact BK119.out) hb); have n1_ := Aside0.mk (below_step (by repeat (first | (with_reducible first | exact HB.out | apply below_alloc | apply pw_below_drewN | apply below_drew1 | refine below_set ?_ GE119.out) | exact HB.out)) hb); have n2_ := Aside0.mk (hbox); have n3_ := Aside0.mk ((by rw [hg]; exact (below_size (by repeat (first | (with_reducible first | exact HB.out | apply below_alloc | apply pw_below_drewN | apply below_drew1 | refine below_set ?_ GE119.out) | exact HB.out))) : w.heap.size ≤ gb120)); have n4_ := Aside0.mk ((by rw [hg]; exact (below_size (by repeat (first | (with_reducible first | exact HB.out | apply below_alloc | apply pw_below_drewN | apply below_drew1 | refine below_set ?_ GE119.out) | exact HB.out))) : w.heap.size ≤ gb120)); have n5_ := Aside0.mk ((by rw [hg]; exact Nat.ne_of_lt (blk_lt (g := gb119) (o := .cells #[.int .i64 a0_0, .int .i64 a0_1, .slice A0_2 l0_2.length c0_2] 29 (0, 0)) (by (with_reducible repeat (first | refine blk_drewN ?_ _ | refine blk_drew ?_ | refine blk_alloc ?_ _)); exact BK119.out)) : gb119 ≠ gb120)); have n6_ := Aside0.mk ((by rw [hg]; exact Nat.ne_of_gt (blk_lt (g := gb119) (o := .cells #[.int .i64 a0_0, .int .i64 a0_1, .slice A0_2 l0_2.length c0_2] 29 (0, 0)) (by (with_reducible repeat (first | refine blk_drewN ?_ _ | refine blk_drew ?_ | refine blk_alloc ?_ _)); exact BK119.out)) : gb120 ≠ gb119)); clear BK119; clear HB; have BK119 := n0_; have HB := n1_; have BK120 := n2_; have GW120 := n3_; have GE120 := n4_; have NB119_120 := n5_; have NB120_119 := n6_; clear n0_ n1_ n2_ n3_ n4_ n5_ n6_; clear hb hbox hg; have hnb9 := NB119_120.out; have hnc9 := NB120_119.out; have hcz10_0 : w8.cell? ⟨gb119, 0, none⟩ = some (.int .i64 a0_0) := (blk_cell BK119.out 0).trans rfl; have hcz10_1 : w8.cell? ⟨gb119, 1, none⟩ = some (.int .i64 a0_1) := (blk_cell BK119.out 1).trans rfl; have hcz10_2 : w8.cell? ⟨gb119, 2, none⟩ = some (.slice A0_2 l0_2.length c0_2) := (blk_cell BK119.out 2).trans rfl; have hfz10_0 := blk_frozen BK119.out 0; have hfz10_1 := blk_frozen BK119.out 1; have hfz10_2 := blk_frozen BK119.out 2; have hcz11_0 : w8.cell? ⟨gb120, 0, none⟩ = some (.int .i64 a1_0) := (blk_cell BK120.out 0).trans rfl; have hcz11_1 : w8.cell? ⟨gb120, 1, none⟩ = some (.int .i64 a1_1) := (blk_cell BK120.out 1).trans rfl; have hcz11_2 : w8.cell? ⟨gb120, 2, none⟩ = some (.slice A1_2 l1_2.length c1_2) := (blk_cell BK120.out 2).trans rfl; have hfz11_0 := blk_frozen BK120.out 0; have hfz11_1 := blk_frozen BK120.out 1; have hfz11_2 := blk_frozen BK120.out 2) | ((with_reducible refine gate_callee (f := 46) rfl ?_); refine goesL_ (some 19) rfl rfl Try.func46 (by kernel_rfl) rfl #[.slice A0_2 l0_2.length c0_2, .slice A1_2 l1_2.length c1_2] rfl (by (try simp only [List.map_toArray, List.map_cons, List.map_nil]); first | done | rfl | (simp only [List.length_drop, List.length_take]; rfl)) ?_; (with_reducible refine (IH _ _ l0_2 _ _ l1_2 true _ ?side1 ?side2 ?side3 ?side4 A5.out).mono ?_); (case side1 => repeat (first | exact (Kd.C_below HR0_2.out HB.out) | (with_reducible refine Kd.C_alloc ?_ _) | (with_reducible refine Kd.C_drewN ?_ _) | (with_reducible refine Kd.C_drew ?_))); (case side2 => exact HC0_2.out); (case side3 => repeat (first | exact (Kd.C_below HR1_2.out HB.out) | (with_reducible refine Kd.C_alloc ?_ _) | (with_reducible refine Kd.C_drewN ?_ _) | (with_reducible refine Kd.C_drew ?_))); (case side4 => exact HC1_2.out); rintro e w12 ⟨rfl, hb⟩; refine ⟨_, rfl, ?_⟩; have n0_ := Aside0.mk (blk_below (g := gb119) (o := .cells #[.int .i64 a0_0, .int .i64 a0_1, .slice A0_2 l0_2.length c0_2] 29 (0, 0)) (by (with_reducible repeat (first | refine blk_drewN ?_ _ | refine blk_drew ?_ | refine blk_alloc ?_ _)); exact BK119.out) hb); have n1_ := Aside0.mk (blk_below (g := gb120) (o := .cells #[.int .i64 a1_0, .int .i64 a1_1, .slice A1_2 l1_2.length c1_2] 29 (0, 0)) (by (with_reducible repeat (first | refine blk_drewN ?_ _ | refine blk_drew ?_ | refine blk_alloc ?_ _)); exact BK120.out) hb); have n2_ := Aside0.mk (below_step (by repeat (first | (with_reducible first | exact HB.out | apply below_alloc | apply pw_below_drewN | apply below_drew1 | refine below_set ?_ GE119.out | refine below_set ?_ GE120.out) | exact HB.out)) hb); clear BK119; clear BK120; clear HB; have BK119 := n0_; have BK120 := n1_; have HB := n2_; clear n0_ n1_ n2_; (try clear hb); (try clear hb2); (try clear hk); (try clear hi)))
        go_ret
        exact ⟨by first | rfl | (simp [errW_none, errW_some] <;> rfl) | (simp [*, errW_none, errW_some] <;> rfl), by repeat (first | (with_reducible first | exact HB.out | apply below_alloc | apply pw_below_drewN | apply below_drew1 | refine below_set ?_ GE119.out | refine below_set ?_ GE120.out) | exact HB.out)⟩
      · replace c6 := Bool.eq_false_iff.mpr c6
        subst c6
        have H1 : (some false) = some r := by rw [if_neg (show ¬ (false = true) by decide)] at H; exact H
        clear H
        have H := H1
        clear H1
        obtain rfl := Option.some.inj H
        go_enter Try.func16, Try.ntmps16
        go_wp2_with (first | ((with_reducible refine gate_dst (N := 2) rfl ?_); refine box_event ?hg (N := 2) ?hd (cs := #[.int .i64 a0_0, .int .i64 a0_1, .slice A0_2 l0_2.length c0_2]) (t := 29) ?hr ?_; (case hd => rfl); (case hg => rfl); (case hr => first | (go_simp; done) | (go_simp; rfl)); intro gb119 hg w13 hbox hb; have n0_ := Aside0.mk (below_step (by repeat (first | (with_reducible first | exact HB.out | apply below_alloc | apply pw_below_drewN | apply below_drew1) | exact HB.out)) hb); have n1_ := Aside0.mk (hbox); have n2_ := Aside0.mk ((by rw [hg]; exact (below_size (by repeat (first | (with_reducible first | exact HB.out | apply below_alloc | apply pw_below_drewN | apply below_drew1) | exact HB.out))) : w.heap.size ≤ gb119)); have n3_ := Aside0.mk ((by rw [hg]; exact (below_size (by repeat (first | (with_reducible first | exact HB.out | apply below_alloc | apply pw_below_drewN | apply below_drew1) | exact HB.out))) : w.heap.size ≤ gb119)); clear HB; have HB := n0_; have BK119 := n1_; have GW119 := n2_; have GE119 := n3_; clear n0_ n1_ n2_ n3_; clear hb hbox hg) | ((with_reducible refine gate_dst (N := 3) rfl ?_); refine box_event ?hg (N := 3) ?hd (cs := #[.int .i64 a1_0, .int .i64 a1_1, .slice A1_2 l1_2.length c1_2]) (t := 29) ?hr ?_; (case hd => rfl); (case hg => rfl); (case hr => first | (go_simp; done) | (go_simp; rfl)); intro gb120 hg w14 hbox hb; have n0_ := Aside0.mk (blk_below (g := gb119) (o := .cells #[.int .i64 a0_0, .int .i64 a0_1, .slice A0_2 l0_2.length c0_2] 29 (0, 0)) (by (with_reducible repeat (first | refine blk_drewN ?_ _ | refine blk_drew ?_ | refine blk_alloc ?_ _)); exact BK119.out) hb); have n1_ := Aside0.mk (below_step (by repeat (first | (with_reducible first | exact HB.out | apply below_alloc | apply pw_below_drewN | apply below_drew1 | refine below_set ?_ GE119.out) | exact HB.out)) hb); have n2_ := Aside0.mk (hbox); have n3_ := Aside0.mk ((by rw [hg]; exact (below_size (by repeat (first | (with_reducible first | exact HB.out | apply below_alloc | apply pw_below_drewN | apply below_drew1 | refine below_set ?_ GE119.out) | exact HB.out))) : w.heap.size ≤ gb120)); have n4_ := Aside0.mk ((by rw [hg]; exact (below_size (by repeat (first | (with_reducible first | exact HB.out | apply below_alloc | apply pw_below_drewN | apply below_drew1 | refine below_set ?_ GE119.out) | exact HB.out))) : w.heap.size ≤ gb120)); have n5_ := Aside0.mk ((by rw [hg]; exact Nat.ne_of_lt (blk_lt (g := gb119) (o := .cells #[.int .i64 a0_0, .int .i64 a0_1, .slice A0_2 l0_2.length c0_2] 29 (0, 0)) (by (with_reducible repeat (first | refine blk_drewN ?_ _ | refine blk_drew ?_ | refine blk_alloc ?_ _)); exact BK119.out)) : gb119 ≠ gb120)); have n6_ := Aside0.mk ((by rw [hg]; exact Nat.ne_of_gt (blk_lt (g := gb119) (o := .cells #[.int .i64 a0_0, .int .i64 a0_1, .slice A0_2 l0_2.length c0_2] 29 (0, 0)) (by (with_reducible repeat (first | refine blk_drewN ?_ _ | refine blk_drew ?_ | refine blk_alloc ?_ _)); exact BK119.out)) : gb120 ≠ gb119)); clear BK119; clear HB; have BK119 := n0_; have HB := n1_; have BK120 := n2_; have GW120 := n3_; have GE120 := n4_; have NB119_120 := n5_; have NB120_119 := n6_; clear n0_ n1_ n2_ n3_ n4_ n5_ n6_; clear hb hbox hg; have hnb15 := NB119_120.out; have hnc15 := NB120_119.out; have hcz16_0 : w14.cell? ⟨gb119, 0, none⟩ = some (.int .i64 a0_0) := (blk_cell BK119.out 0).trans rfl; have hcz16_1 : w14.cell? ⟨gb119, 1, none⟩ = some (.int .i64 a0_1) := (blk_cell BK119.out 1).trans rfl; have hcz16_2 : w14.cell? ⟨gb119, 2, none⟩ = some (.slice A0_2 l0_2.length c0_2) := (blk_cell BK119.out 2).trans rfl; have hfz16_0 := blk_frozen BK119.out 0; have hfz16_1 := blk_frozen BK119.out 1; have hfz16_2 := blk_frozen BK119.out 2; have hcz17_0 : w14.cell? ⟨gb120, 0, none⟩ = some (.int .i64 a1_0) := (blk_cell BK120.out 0).trans rfl; have hcz17_1 : w14.cell? ⟨gb120, 1, none⟩ = some (.int .i64 a1_1) := (blk_cell BK120.out 1).trans rfl; have hcz17_2 : w14.cell? ⟨gb120, 2, none⟩ = some (.slice A1_2 l1_2.length c1_2) := (blk_cell BK120.out 2).trans rfl; have hfz17_0 := blk_frozen BK120.out 0; have hfz17_1 := blk_frozen BK120.out 1; have hfz17_2 := blk_frozen BK120.out 2) | ((with_reducible refine gate_callee (f := 46) rfl ?_); refine goesL_ (some 19) rfl rfl Try.func46 (by kernel_rfl) rfl #[.slice A0_2 l0_2.length c0_2, .slice A1_2 l1_2.length c1_2] rfl (by (try simp only [List.map_toArray, List.map_cons, List.map_nil]); first | done | rfl | (simp only [List.length_drop, List.length_take]; rfl)) ?_; (with_reducible refine (IH _ _ l0_2 _ _ l1_2 false _ ?side1 ?side2 ?side3 ?side4 A5.out).mono ?_); (case side1 => repeat (first | exact (Kd.C_below HR0_2.out HB.out) | (with_reducible refine Kd.C_alloc ?_ _) | (with_reducible refine Kd.C_drewN ?_ _) | (with_reducible refine Kd.C_drew ?_))); (case side2 => exact HC0_2.out); (case side3 => repeat (first | exact (Kd.C_below HR1_2.out HB.out) | (with_reducible refine Kd.C_alloc ?_ _) | (with_reducible refine Kd.C_drewN ?_ _) | (with_reducible refine Kd.C_drew ?_))); (case side4 => exact HC1_2.out); rintro e w18 ⟨rfl, hb⟩; refine ⟨_, rfl, ?_⟩; have n0_ := Aside0.mk (blk_below (g := gb119) (o := .cells #[.int .i64 a0_0, .int .i64 a0_1, .slice A0_2 l0_2.length c0_2] 29 (0, 0)) (by (with_reducible repeat (first | refine blk_drewN ?_ _ | refine blk_drew ?_ | refine blk_alloc ?_ _)); exact BK119.out) hb); have n1_ := Aside0.mk (blk_below (g := gb120) (o := .cells #[.int .i64 a1_0, .int .i64 a1_1, .slice A1_2 l1_2.length c1_2] 29 (0, 0)) (by (with_reducible repeat (first | refine blk_drewN ?_ _ | refine blk_drew ?_ | refine blk_alloc ?_ _)); exact BK120.out) hb); have n2_ := Aside0.mk (below_step (by repeat (first | (with_reducible first | exact HB.out | apply below_alloc | apply pw_below_drewN | apply below_drew1 | refine below_set ?_ GE119.out | refine below_set ?_ GE120.out) | exact HB.out)) hb); clear BK119; clear BK120; clear HB; have BK119 := n0_; have BK120 := n1_; have HB := n2_; clear n0_ n1_ n2_; (try clear hb); (try clear hb2); (try clear hk); (try clear hi)))
        go_ret
        exact ⟨by first | rfl | (simp [errW_none, errW_some] <;> rfl) | (simp [*, errW_none, errW_some] <;> rfl), by repeat (first | (with_reducible first | exact HB.out | apply below_alloc | apply pw_below_drewN | apply below_drew1 | refine below_set ?_ GE119.out | refine below_set ?_ GE120.out) | exact HB.out)⟩
    · rw [if_neg c4] at H
      have c4b0 : (a0_1 == a1_1) = false := beq_eq_false_iff_ne.mpr c4
      have c4b1 : (a0_1 != a1_1) = true := bne_iff_ne.mpr c4
      obtain rfl := Option.some.inj H
      go_enter Try.func16, Try.ntmps16
      go_wp2_with (first | ((with_reducible refine gate_dst (N := 2) rfl ?_); refine box_event ?hg (N := 2) ?hd (cs := #[.int .i64 a0_0, .int .i64 a0_1, .slice A0_2 l0_2.length c0_2]) (t := 29) ?hr ?_; (case hd => rfl); (case hg => rfl); (case hr => first | (go_simp; done) | (go_simp; rfl)); intro gb119 hg w19 hbox hb; have n0_ := Aside0.mk (below_step (by repeat (first | (with_reducible first | exact HB.out | apply below_alloc | apply pw_below_drewN | apply below_drew1) | exact HB.out)) hb); have n1_ := Aside0.mk (hbox); have n2_ := Aside0.mk ((by rw [hg]; exact (below_size (by repeat (first | (with_reducible first | exact HB.out | apply below_alloc | apply pw_below_drewN | apply below_drew1) | exact HB.out))) : w.heap.size ≤ gb119)); have n3_ := Aside0.mk ((by rw [hg]; exact (below_size (by repeat (first | (with_reducible first | exact HB.out | apply below_alloc | apply pw_below_drewN | apply below_drew1) | exact HB.out))) : w.heap.size ≤ gb119)); clear HB; have HB := n0_; have BK119 := n1_; have GW119 := n2_; have GE119 := n3_; clear n0_ n1_ n2_ n3_; clear hb hbox hg) | ((with_reducible refine gate_dst (N := 3) rfl ?_); refine box_event ?hg (N := 3) ?hd (cs := #[.int .i64 a1_0, .int .i64 a1_1, .slice A1_2 l1_2.length c1_2]) (t := 29) ?hr ?_; (case hd => rfl); (case hg => rfl); (case hr => first | (go_simp; done) | (go_simp; rfl)); intro gb120 hg w20 hbox hb; have n0_ := Aside0.mk (blk_below (g := gb119) (o := .cells #[.int .i64 a0_0, .int .i64 a0_1, .slice A0_2 l0_2.length c0_2] 29 (0, 0)) (by (with_reducible repeat (first | refine blk_drewN ?_ _ | refine blk_drew ?_ | refine blk_alloc ?_ _)); exact BK119.out) hb); have n1_ := Aside0.mk (below_step (by repeat (first | (with_reducible first | exact HB.out | apply below_alloc | apply pw_below_drewN | apply below_drew1 | refine below_set ?_ GE119.out) | exact HB.out)) hb); have n2_ := Aside0.mk (hbox); have n3_ := Aside0.mk ((by rw [hg]; exact (below_size (by repeat (first | (with_reducible first | exact HB.out | apply below_alloc | apply pw_below_drewN | apply below_drew1 | refine below_set ?_ GE119.out) | exact HB.out))) : w.heap.size ≤ gb120)); have n4_ := Aside0.mk ((by rw [hg]; exact (below_size (by repeat (first | (with_reducible first | exact HB.out | apply below_alloc | apply pw_below_drewN | apply below_drew1 | refine below_set ?_ GE119.out) | exact HB.out))) : w.heap.size ≤ gb120)); have n5_ := Aside0.mk ((by rw [hg]; exact Nat.ne_of_lt (blk_lt (g := gb119) (o := .cells #[.int .i64 a0_0, .int .i64 a0_1, .slice A0_2 l0_2.length c0_2] 29 (0, 0)) (by (with_reducible repeat (first | refine blk_drewN ?_ _ | refine blk_drew ?_ | refine blk_alloc ?_ _)); exact BK119.out)) : gb119 ≠ gb120)); have n6_ := Aside0.mk ((by rw [hg]; exact Nat.ne_of_gt (blk_lt (g := gb119) (o := .cells #[.int .i64 a0_0, .int .i64 a0_1, .slice A0_2 l0_2.length c0_2] 29 (0, 0)) (by (with_reducible repeat (first | refine blk_drewN ?_ _ | refine blk_drew ?_ | refine blk_alloc ?_ _)); exact BK119.out)) : gb120 ≠ gb119)); clear BK119; clear HB; have BK119 := n0_; have HB := n1_; have BK120 := n2_; have GW120 := n3_; have GE120 := n4_; have NB119_120 := n5_; have NB120_119 := n6_; clear n0_ n1_ n2_ n3_ n4_ n5_ n6_; clear hb hbox hg; have hnb21 := NB119_120.out; have hnc21 := NB120_119.out; have hcz22_0 : w20.cell? ⟨gb119, 0, none⟩ = some (.int .i64 a0_0) := (blk_cell BK119.out 0).trans rfl; have hcz22_1 : w20.cell? ⟨gb119, 1, none⟩ = some (.int .i64 a0_1) := (blk_cell BK119.out 1).trans rfl; have hcz22_2 : w20.cell? ⟨gb119, 2, none⟩ = some (.slice A0_2 l0_2.length c0_2) := (blk_cell BK119.out 2).trans rfl; have hfz22_0 := blk_frozen BK119.out 0; have hfz22_1 := blk_frozen BK119.out 1; have hfz22_2 := blk_frozen BK119.out 2; have hcz23_0 : w20.cell? ⟨gb120, 0, none⟩ = some (.int .i64 a1_0) := (blk_cell BK120.out 0).trans rfl; have hcz23_1 : w20.cell? ⟨gb120, 1, none⟩ = some (.int .i64 a1_1) := (blk_cell BK120.out 1).trans rfl; have hcz23_2 : w20.cell? ⟨gb120, 2, none⟩ = some (.slice A1_2 l1_2.length c1_2) := (blk_cell BK120.out 2).trans rfl; have hfz23_0 := blk_frozen BK120.out 0; have hfz23_1 := blk_frozen BK120.out 1; have hfz23_2 := blk_frozen BK120.out 2))
      go_ret
      exact ⟨by first | rfl | (simp [errW_none, errW_some] <;> rfl) | (simp [*, errW_none, errW_some] <;> rfl), by repeat (first | (with_reducible first | exact HB.out | apply below_alloc | apply pw_below_drewN | apply below_drew1 | refine below_set ?_ GE119.out | refine below_set ?_ GE120.out) | exact HB.out)⟩
  · rw [if_neg c3] at H
    have c3b0 : (a0_0 == a1_0) = false := beq_eq_false_iff_ne.mpr c3
    have c3b1 : (a0_0 != a1_0) = true := bne_iff_ne.mpr c3
    obtain rfl := Option.some.inj H
    go_enter Try.func16, Try.ntmps16
    go_wp2_with (first | ((with_reducible refine gate_dst (N := 2) rfl ?_); refine box_event ?hg (N := 2) ?hd (cs := #[.int .i64 a0_0, .int .i64 a0_1, .slice A0_2 l0_2.length c0_2]) (t := 29) ?hr ?_; (case hd => rfl); (case hg => rfl); (case hr => first | (go_simp; done) | (go_simp; rfl)); intro gb119 hg w24 hbox hb; have n0_ := Aside0.mk (below_step (by repeat (first | (with_reducible first | exact HB.out | apply below_alloc | apply pw_below_drewN | apply below_drew1) | exact HB.out)) hb); have n1_ := Aside0.mk (hbox); have n2_ := Aside0.mk ((by rw [hg]; exact (below_size (by repeat (first | (with_reducible first | exact HB.out | apply below_alloc | apply pw_below_drewN | apply below_drew1) | exact HB.out))) : w.heap.size ≤ gb119)); have n3_ := Aside0.mk ((by rw [hg]; exact (below_size (by repeat (first | (with_reducible first | exact HB.out | apply below_alloc | apply pw_below_drewN | apply below_drew1) | exact HB.out))) : w.heap.size ≤ gb119)); clear HB; have HB := n0_; have BK119 := n1_; have GW119 := n2_; have GE119 := n3_; clear n0_ n1_ n2_ n3_; clear hb hbox hg) | ((with_reducible refine gate_dst (N := 3) rfl ?_); refine box_event ?hg (N := 3) ?hd (cs := #[.int .i64 a1_0, .int .i64 a1_1, .slice A1_2 l1_2.length c1_2]) (t := 29) ?hr ?_; (case hd => rfl); (case hg => rfl); (case hr => first | (go_simp; done) | (go_simp; rfl)); intro gb120 hg w25 hbox hb; have n0_ := Aside0.mk (blk_below (g := gb119) (o := .cells #[.int .i64 a0_0, .int .i64 a0_1, .slice A0_2 l0_2.length c0_2] 29 (0, 0)) (by (with_reducible repeat (first | refine blk_drewN ?_ _ | refine blk_drew ?_ | refine blk_alloc ?_ _)); exact BK119.out) hb); have n1_ := Aside0.mk (below_step (by repeat (first | (with_reducible first | exact HB.out | apply below_alloc | apply pw_below_drewN | apply below_drew1 | refine below_set ?_ GE119.out) | exact HB.out)) hb); have n2_ := Aside0.mk (hbox); have n3_ := Aside0.mk ((by rw [hg]; exact (below_size (by repeat (first | (with_reducible first | exact HB.out | apply below_alloc | apply pw_below_drewN | apply below_drew1 | refine below_set ?_ GE119.out) | exact HB.out))) : w.heap.size ≤ gb120)); have n4_ := Aside0.mk ((by rw [hg]; exact (below_size (by repeat (first | (with_reducible first | exact HB.out | apply below_alloc | apply pw_below_drewN | apply below_drew1 | refine below_set ?_ GE119.out) | exact HB.out))) : w.heap.size ≤ gb120)); have n5_ := Aside0.mk ((by rw [hg]; exact Nat.ne_of_lt (blk_lt (g := gb119) (o := .cells #[.int .i64 a0_0, .int .i64 a0_1, .slice A0_2 l0_2.length c0_2] 29 (0, 0)) (by (with_reducible repeat (first | refine blk_drewN ?_ _ | refine blk_drew ?_ | refine blk_alloc ?_ _)); exact BK119.out)) : gb119 ≠ gb120)); have n6_ := Aside0.mk ((by rw [hg]; exact Nat.ne_of_gt (blk_lt (g := gb119) (o := .cells #[.int .i64 a0_0, .int .i64 a0_1, .slice A0_2 l0_2.length c0_2] 29 (0, 0)) (by (with_reducible repeat (first | refine blk_drewN ?_ _ | refine blk_drew ?_ | refine blk_alloc ?_ _)); exact BK119.out)) : gb120 ≠ gb119)); clear BK119; clear HB; have BK119 := n0_; have HB := n1_; have BK120 := n2_; have GW120 := n3_; have GE120 := n4_; have NB119_120 := n5_; have NB120_119 := n6_; clear n0_ n1_ n2_ n3_ n4_ n5_ n6_; clear hb hbox hg; have hnb26 := NB119_120.out; have hnc26 := NB120_119.out; have hcz27_0 : w25.cell? ⟨gb119, 0, none⟩ = some (.int .i64 a0_0) := (blk_cell BK119.out 0).trans rfl; have hcz27_1 : w25.cell? ⟨gb119, 1, none⟩ = some (.int .i64 a0_1) := (blk_cell BK119.out 1).trans rfl; have hcz27_2 : w25.cell? ⟨gb119, 2, none⟩ = some (.slice A0_2 l0_2.length c0_2) := (blk_cell BK119.out 2).trans rfl; have hfz27_0 := blk_frozen BK119.out 0; have hfz27_1 := blk_frozen BK119.out 1; have hfz27_2 := blk_frozen BK119.out 2; have hcz28_0 : w25.cell? ⟨gb120, 0, none⟩ = some (.int .i64 a1_0) := (blk_cell BK120.out 0).trans rfl; have hcz28_1 : w25.cell? ⟨gb120, 1, none⟩ = some (.int .i64 a1_1) := (blk_cell BK120.out 1).trans rfl; have hcz28_2 : w25.cell? ⟨gb120, 2, none⟩ = some (.slice A1_2 l1_2.length c1_2) := (blk_cell BK120.out 2).trans rfl; have hfz28_0 := blk_frozen BK120.out 0; have hfz28_1 := blk_frozen BK120.out 1; have hfz28_2 := blk_frozen BK120.out 2))
    go_ret
    exact ⟨by first | rfl | (simp [errW_none, errW_some] <;> rfl) | (simp [*, errW_none, errW_some] <;> rfl), by repeat (first | (with_reducible first | exact HB.out | apply below_alloc | apply pw_below_drewN | apply below_drew1 | refine below_set ?_ GE119.out | refine below_set ?_ GE120.out) | exact HB.out)⟩
set_option maxHeartbeats 8000000 in
set_option maxRecDepth 100000 in
theorem laws_eqGateS.calls (k : Nat) : ∀ (A0 : Option Addr) (c0 : Nat) (l0 : List (S29)) (A1 : Option Addr) (c1 : Nat) (l1 : List (S29)) (r : Bool) (w : World) (hr0 : Kd.C k29 w A0 l0.length l0) (hc0 : l0.length ≤ c0) (hr1 : Kd.C k29 w A1 l1.length l1) (hc1 : l1.length ≤ c1) (h : laws_eqGateS.f k l0 l1 = some r),
    Calls Try.prog 46 #[.slice A0 l0.length c0, .slice A1 l1.length c1] w fun e w' => e = .returned (.bool r) ∧ Below w.heap.size w w' := by
  induction k using Nat.strongRecOn with
  | _ k ih =>
  have ihG : ∀ m, m < k → ∀ (a0_0 : Int) (a0_1 : Int) (A0_2 : Option Addr) (c0_2 : Nat) (l0_2 : List (S29)) (a1_0 : Int) (a1_1 : Int) (A1_2 : Option Addr) (c1_2 : Nat) (l1_2 : List (S29)) (r : Bool) (w : World) (hr0_2 : Kd.C k29 w A0_2 l0_2.length l0_2) (hc0_2 : l0_2.length ≤ c0_2) (hr1_2 : Kd.C k29 w A1_2 l1_2.length l1_2) (hc1_2 : l1_2.length ≤ c1_2) (h : laws_eqGate.f m a0_0 a0_1 l0_2 a1_0 a1_1 l1_2 = some r), Calls Try.prog 16 #[.agg #[.int .i64 a0_0, .int .i64 a0_1, .slice A0_2 l0_2.length c0_2], .agg #[.int .i64 a1_0, .int .i64 a1_1, .slice A1_2 l1_2.length c1_2]] w fun e w' => e = .returned (.bool r) ∧ Below w.heap.size w w' := by
    intro m hm
    cases m with
    | zero => intro a0_0 a0_1 A0_2 c0_2 l0_2 a1_0 a1_1 A1_2 c1_2 l1_2 r w hr0_2 hc0_2 hr1_2 hc1_2 h; exact absurd h (by simp [laws_eqGate.f])
    | succ m => exact fun a0_0 a0_1 A0_2 c0_2 l0_2 a1_0 a1_1 A1_2 c1_2 l1_2 r w hr0_2 hc0_2 hr1_2 hc1_2 h => laws_eqGate.calls_of m (ih m (by omega)) a0_0 a0_1 A0_2 c0_2 l0_2 a1_0 a1_1 A1_2 c1_2 l1_2 r w hr0_2 hc0_2 hr1_2 hc1_2 h
  intro A0 c0 l0 A1 c1 l1 r w hr0 hc0 hr1 hc1 h
  cases k with
  | zero => exact absurd h (by simp [laws_eqGateS.f])
  | succ k =>
  simp only [laws_eqGateS.f] at h
  have hu29 := Try.underlying29
  have HR0 := Aside0.mk hr0
  have HC0 := Aside0.mk hc0
  clear hr0 hc0
  have HR1 := Aside0.mk hr1
  have HC1 := Aside0.mk hc1
  clear hr1 hc1
  have HB := Aside0.mk (Below.refl w.heap.size w)
  have H : (if (l0.length : Int) = (l1.length : Int) then (laws_eqGateS.l0 k l0 l1 0) else (some false)) = some r := h
  clear h
  by_cases c3 : (l0.length : Int) = (l1.length : Int)
  · rw [if_pos c3] at H
    have c3b0 : ((l0.length : Int) == (l1.length : Int)) = true := beq_iff_eq.mpr c3
    have c3b1 : ((l0.length : Int) != (l1.length : Int)) = false := bne_eq_false_iff_eq.mpr c3
    have c3b2 : (l0.length == l1.length) = true := by first | simpa using c3 | (simp at c3 ⊢; omega)
    clear c3
    have H' := Aside0.mk H
    clear H
    go_enter Try.func46, Try.ntmps46
    go_wp2
    go_loopg [5] k (fun kq v5 w' => ∃ (x5_1 : Int), v5 = .int .i64 x5_1 ∧ Aside0 (laws_eqGateS.l0 kq l0 l1 x5_1 = some r) ∧ Aside0 (kq ≤ k) ∧ Aside0 (Below w.heap.size w w'))
    case atStart => exact ⟨(0), (by first | rfl | (simp; done) | (simp [*]; done)), H', ⟨Nat.le_refl _⟩, ⟨by repeat (first | (with_reducible first | exact HB.out | apply below_alloc | apply pw_below_drewN | apply below_drew1) | exact HB.out)⟩⟩
    case round =>
      clear H'
      try clear c1
      try clear p2
      try clear c3
      try clear c3b0
      try clear c3b1
      try clear c3b2
      obtain ⟨x5_1, rfl, HA, HK1, HB⟩ := hrel
      cases gk with
      | zero => exact absurd HA.out (by simp [laws_eqGateS.l0])
      | succ k1 =>
        have H := HA.out
        clear HA
        simp only [laws_eqGateS.l0] at H
        by_cases c4 : x5_1 < (l0.length : Int)
        · rw [if_pos c4] at H
          have c4b0 : decide (x5_1 < (l0.length : Int)) = true := decide_eq_true c4
          clear c4
          by_cases c5 : 0 ≤ x5_1
          · rw [if_pos c5] at H
            have c5b0 : decide (0 ≤ x5_1) = true := decide_eq_true c5
            clear c5
            by_cases c6 : x5_1 < (l1.length : Int)
            · rw [if_pos c6] at H
              have c6b0 : decide (x5_1 < (l1.length : Int)) = true := decide_eq_true c6
              clear c6
              replace H := Option.bind_eq_some_iff.mp H
              obtain ⟨t124, A70, H⟩ := H
              replace H : (if t124 = true then (laws_eqGateS.l0 k1 l0 l1 (wrap64 (x5_1 + 1))) else (some false)) = some r := H
              have A7 := Aside0.mk A70
              clear A70
              by_cases c8 : t124 = true
              · subst c8
                have H1 : (laws_eqGateS.l0 k1 l0 l1 (wrap64 (x5_1 + 1))) = some r := by rw [if_pos rfl] at H; exact H
                clear H
                have H := H1
                clear H1
                have H' := Aside0.mk H
                clear H
                try go_wp2
                have n0_ := Aside0.mk (below_drew1 HB.out)
                clear HB
                have HB := n0_
                clear n0_
                have p122 : 0 ≤ (x5_1 : Int) := of_decide_eq_true (by first | (with_reducible assumption) | assumption)
                have q122 : x5_1 < (l0.length : Int) := of_decide_eq_true (by first | (with_reducible assumption) | assumption)
                obtain ⟨ad122, A122_2, c122_2, e122, hx122_0, hx122_1, hx122_2, hl122_2, hi122_2⟩ := at_T29 HR0.out x5_1 p122 q122
                have hw122_2 := hx122_2
                have hw122_1 := hx122_1
                have hw122_0 := hx122_0
                cases e122
                replace hx122_0 := (HB.out.cell (World.block_lt_of_cell? w _ hx122_0)).trans hx122_0
                replace hx122_1 := (HB.out.cell (World.block_lt_of_cell? w _ hx122_1)).trans hx122_1
                replace hx122_2 := (HB.out.cell (World.block_lt_of_cell? w _ hx122_2)).trans hx122_2
                have HR122_2 := Aside0.mk hi122_2
                have HC122_2 := Aside0.mk hl122_2
                clear hi122_2 hl122_2
                replace p122 := eq_true p122
                replace q122 := eq_true q122
                have p123 : 0 ≤ (x5_1 : Int) := of_decide_eq_true (by first | (with_reducible assumption) | assumption)
                have q123 : x5_1 < (l1.length : Int) := of_decide_eq_true (by first | (with_reducible assumption) | assumption)
                obtain ⟨ad123, A123_2, c123_2, e123, hx123_0, hx123_1, hx123_2, hl123_2, hi123_2⟩ := at_T29 HR1.out x5_1 p123 q123
                have hw123_2 := hx123_2
                have hw123_1 := hx123_1
                have hw123_0 := hx123_0
                cases e123
                replace hx123_0 := (HB.out.cell (World.block_lt_of_cell? w _ hx123_0)).trans hx123_0
                replace hx123_1 := (HB.out.cell (World.block_lt_of_cell? w _ hx123_1)).trans hx123_1
                replace hx123_2 := (HB.out.cell (World.block_lt_of_cell? w _ hx123_2)).trans hx123_2
                have HR123_2 := Aside0.mk hi123_2
                have HC123_2 := Aside0.mk hl123_2
                clear hi123_2 hl123_2
                replace p123 := eq_true p123
                replace q123 := eq_true q123
                refine start_ (n := 10) (S := fun w' => w'.cell? (ad122.add ((x5_1).toNat * 3)) = some (.int .i64 ((rd_T29 l0 x5_1).f0)) ∧ w'.cell? ⟨(ad122.add ((x5_1).toNat * 3)).block, (ad122.add ((x5_1).toNat * 3)).off + 1, none⟩ = some (.int .i64 ((rd_T29 l0 x5_1).f1)) ∧ w'.cell? ⟨(ad122.add ((x5_1).toNat * 3)).block, (ad122.add ((x5_1).toNat * 3)).off + 2, none⟩ = some (.slice A122_2 ((rd_T29 l0 x5_1).f2).length c122_2) ∧ w'.cell? (ad123.add ((x5_1).toNat * 3)) = some (.int .i64 ((rd_T29 l1 x5_1).f0)) ∧ w'.cell? ⟨(ad123.add ((x5_1).toNat * 3)).block, (ad123.add ((x5_1).toNat * 3)).off + 1, none⟩ = some (.int .i64 ((rd_T29 l1 x5_1).f1)) ∧ w'.cell? ⟨(ad123.add ((x5_1).toNat * 3)).block, (ad123.add ((x5_1).toNat * 3)).off + 2, none⟩ = some (.slice A123_2 ((rd_T29 l1 x5_1).f2).length c123_2)) (ds := []) #[false, false, false, false, false, false, false, false, false, false] (by kernel_rfl) rfl rfl ⟨((HB.out.cell (World.block_lt_of_cell? w _ hw122_0)).trans hw122_0), ((HB.out.cell (World.block_lt_of_cell? w _ hw122_1)).trans hw122_1), ((HB.out.cell (World.block_lt_of_cell? w _ hw122_2)).trans hw122_2), ((HB.out.cell (World.block_lt_of_cell? w _ hw123_0)).trans hw123_0), ((HB.out.cell (World.block_lt_of_cell? w _ hw123_1)).trans hw123_1), ((HB.out.cell (World.block_lt_of_cell? w _ hw123_2)).trans hw123_2)⟩ (fun hHeld => ?_); refine with_tabW laws_eqGateS.tab6 laws_eqGateS.bits6 (fun HT_ HW_ => ?_)
                generalize wr.drew = w9 at HB HR122_2 HR123_2 hx122_0 hx122_1 hx122_2 hx123_0 hx123_1 hx123_2 hHeld ⊢
                refine pure_ (i := 0) (N := some 17) (v := ?_) (a' := ?_) #[true, false, false, false, false, false, false, false, false, false] rfl rfl (any_of HT_.out (by kernel_rfl)) (fun _ _ _ h => h) (Or.inl ⟨by rfl, ?_⟩) ?_ ?_
                rotate_left
                · intro w'
                  first | (go_simp; with_reducible rfl) | (simp [go_sem, Instr.field, asAgg] <;> with_reducible rfl)
                rotate_left
                · simp only [Act.put, List.setIfInBounds_toArray, List.set_cons_zero, List.set_cons_succ, i64_w, i32_w]
                  rfl
                refine pure_ (i := 1) (N := some 18) (v := ?_) (a' := ?_) #[true, true, false, false, false, false, false, false, false, false] rfl rfl (any_of HT_.out (by kernel_rfl)) (fun _ _ _ h => h) (Or.inl ⟨by rfl, ?_⟩) ?_ ?_
                rotate_left
                · intro w'
                  first | (go_simp; with_reducible rfl) | (simp [go_sem, Instr.field, asAgg] <;> with_reducible rfl)
                rotate_left
                · simp only [Act.put, List.setIfInBounds_toArray, List.set_cons_zero, List.set_cons_succ, i64_w, i32_w]
                  rfl
                refine pure_ (i := 2) (N := some 19) (v := ?_) (a' := ?_) #[true, true, true, false, false, false, false, false, false, false] rfl rfl (any_of HT_.out (by kernel_rfl)) (fun _ _ _ h => h) (Or.inl ⟨by rfl, ?_⟩) ?_ ?_
                rotate_left
                · intro w'
                  first | (go_simp; with_reducible rfl) | (simp [go_sem, Instr.field, asAgg] <;> with_reducible rfl)
                rotate_left
                · simp only [Act.put, List.setIfInBounds_toArray, List.set_cons_zero, List.set_cons_succ, i64_w, i32_w]
                  rfl
                refine pure_ (i := 4) (N := some 21) (v := ?_) (a' := ?_) #[true, true, true, false, true, false, false, false, false, false] rfl rfl (any_of HT_.out (by kernel_rfl)) (fun _ _ _ h => h) (Or.inl ⟨by rfl, ?_⟩) ?_ ?_
                rotate_left
                · intro w'
                  first | (go_simp; with_reducible rfl) | (simp [go_sem, Instr.field, asAgg] <;> with_reducible rfl)
                rotate_left
                · simp only [Act.put, List.setIfInBounds_toArray, List.set_cons_zero, List.set_cons_succ, i64_w, i32_w]
                  rfl
                refine pure_ (i := 5) (N := some 22) (v := ?_) (a' := ?_) #[true, true, true, false, true, true, false, false, false, false] rfl rfl (any_of HT_.out (by kernel_rfl)) (fun _ _ _ h => h) (Or.inl ⟨by rfl, ?_⟩) ?_ ?_
                rotate_left
                · intro w'
                  first | (go_simp; with_reducible rfl) | (simp [go_sem, Instr.field, asAgg] <;> with_reducible rfl)
                rotate_left
                · simp only [Act.put, List.setIfInBounds_toArray, List.set_cons_zero, List.set_cons_succ, i64_w, i32_w]
                  rfl
                refine pure_ (i := 6) (N := some 23) (v := ?_) (a' := ?_) #[true, true, true, false, true, true, true, false, false, false] rfl rfl (any_of HT_.out (by kernel_rfl)) (fun _ _ _ h => h) (Or.inl ⟨by rfl, ?_⟩) ?_ ?_
                rotate_left
                · intro w'
                  first | (go_simp; with_reducible rfl) | (simp [go_sem, Instr.field, asAgg] <;> with_reducible rfl)
                rotate_left
                · simp only [Act.put, List.setIfInBounds_toArray, List.set_cons_zero, List.set_cons_succ, i64_w, i32_w]
                  rfl
                refine take_ (i := 3) (N := some 20) (v := ?_) (a' := ?_) #[true, true, true, true, true, true, true, false, false, false] rfl rfl (take_ofW HT_.out HW_.out (by kernel_rfl)) (fun _ _ _ h => h) (Or.inl ⟨by rfl, ?_⟩) hHeld ?_ ?_
                rotate_left
                · rintro w' ⟨s0, s1, s2, s3, s4, s5⟩
                  go_simp
                  with_reducible rfl
                rotate_left
                · simp only [Act.put, List.setIfInBounds_toArray, List.set_cons_zero, List.set_cons_succ, i64_w, i32_w]
                  rfl
                refine take_ (i := 7) (N := some 24) (v := ?_) (a' := ?_) #[true, true, true, true, true, true, true, true, false, false] rfl rfl (take_ofW HT_.out HW_.out (by kernel_rfl)) (fun _ _ _ h => h) (Or.inl ⟨by rfl, ?_⟩) hHeld ?_ ?_
                rotate_left
                · rintro w' ⟨s0, s1, s2, s3, s4, s5⟩
                  go_simp
                  with_reducible rfl
                rotate_left
                · simp only [Act.put, List.setIfInBounds_toArray, List.set_cons_zero, List.set_cons_succ, i64_w, i32_w]
                  rfl
                refine one_ (i := 8) (N := some 25) #[true, true, true, true, true, true, true, true, true, false] rfl rfl (one_of HT_.out (by kernel_rfl)) (by decide) (fun K hK => ?_)
                refine goes_ Try.func16 (by kernel_rfl) rfl #[.agg #[.int .i64 ((rd_T29 l0 x5_1).f0), .int .i64 ((rd_T29 l0 x5_1).f1), .slice A122_2 ((rd_T29 l0 x5_1).f2).length c122_2], .agg #[.int .i64 ((rd_T29 l1 x5_1).f0), .int .i64 ((rd_T29 l1 x5_1).f1), .slice A123_2 ((rd_T29 l1 x5_1).f2).length c123_2]] (by rfl) rfl rfl (by (try simp only [List.map_toArray, List.map_cons, List.map_nil]); first | done | rfl | (simp only [List.length_drop, List.length_take]; rfl)) ?_
                with_reducible refine (ihG k1 (by have := HK1.out; omega) ((rd_T29 l0 x5_1).f0) ((rd_T29 l0 x5_1).f1) _ _ ((rd_T29 l0 x5_1).f2) ((rd_T29 l1 x5_1).f0) ((rd_T29 l1 x5_1).f1) _ _ ((rd_T29 l1 x5_1).f2) true _ ?side1 ?side2 ?side3 ?side4 A7.out).mono ?_
                (case side1 => repeat (first | exact (Kd.C_below HR122_2.out HB.out) | (with_reducible refine Kd.C_alloc ?_ _) | (with_reducible refine Kd.C_drewN ?_ _) | (with_reducible refine Kd.C_drew ?_)))
                (case side2 => exact HC122_2.out)
                (case side3 => repeat (first | exact (Kd.C_below HR123_2.out HB.out) | (with_reducible refine Kd.C_alloc ?_ _) | (with_reducible refine Kd.C_drewN ?_ _) | (with_reducible refine Kd.C_drew ?_)))
                (case side4 => exact HC123_2.out)
                rintro e w10 ⟨rfl, hb⟩
                refine ⟨_, rfl, ?_⟩
                have n0_ := Aside0.mk (below_step (by repeat (first | (with_reducible first | exact HB.out | apply below_alloc | apply pw_below_drewN | apply below_drew1) | exact HB.out)) hb)
                clear HB
                have HB := n0_
                clear n0_
                (try clear hb)
                (try clear hb2)
                (try clear hk)
                (try clear hi)
                refine hK.out _ _ ⟨((HB.out.cell (World.block_lt_of_cell? w _ hw122_0)).trans hw122_0), ((HB.out.cell (World.block_lt_of_cell? w _ hw122_1)).trans hw122_1), ((HB.out.cell (World.block_lt_of_cell? w _ hw122_2)).trans hw122_2), ((HB.out.cell (World.block_lt_of_cell? w _ hw123_0)).trans hw123_0), ((HB.out.cell (World.block_lt_of_cell? w _ hw123_1)).trans hw123_1), ((HB.out.cell (World.block_lt_of_cell? w _ hw123_2)).trans hw123_2)⟩ (fun hHeld => ?_)
                clear hK K
                refine norm_ (a' := ?_) ?_ ?_
                rotate_left
                · show Act.put _ (some 25) _ = _
                  simp only [Act.put, List.setIfInBounds_toArray, List.set_cons_zero, List.set_cons_succ, i64_w, i32_w]
                  rfl
                refine pure_ (i := 9) (N := some 26) (v := ?_) (a' := ?_) #[true, true, true, true, true, true, true, true, true, true] rfl rfl (any_of HT_.out (by kernel_rfl)) (fun _ _ _ h => h) (Or.inl ⟨by rfl, ?_⟩) ?_ ?_
                rotate_left
                · intro w'
                  first | (go_simp; with_reducible rfl) | (simp [go_sem, Instr.field, asAgg] <;> with_reducible rfl)
                rotate_left
                · simp only [Act.put, List.setIfInBounds_toArray, List.set_cons_zero, List.set_cons_succ, i64_w, i32_w]
                  rfl
                refine done_ (done_of HT_.out (by kernel_rfl)) ?_
                try go_wp2
                go_roundg k1
                case measure => have := HK1.out; omega
                case rel => exact ⟨(wrap64 (x5_1 + 1)), (by first | rfl | (simp; done) | (simp [*]; done)), H', ⟨by have := HK1.out; omega⟩, ⟨by repeat (first | (with_reducible first | exact HB.out | apply below_alloc | apply pw_below_drewN | apply below_drew1) | exact HB.out)⟩⟩
              · replace c8 := Bool.eq_false_iff.mpr c8
                subst c8
                have H1 : (some false) = some r := by rw [if_neg (show ¬ (false = true) by decide)] at H; exact H
                clear H
                have H := H1
                clear H1
                obtain rfl := Option.some.inj H
                try go_wp2
                have n0_ := Aside0.mk (below_drew1 HB.out)
                clear HB
                have HB := n0_
                clear n0_
                have p122 : 0 ≤ (x5_1 : Int) := of_decide_eq_true (by first | (with_reducible assumption) | assumption)
                have q122 : x5_1 < (l0.length : Int) := of_decide_eq_true (by first | (with_reducible assumption) | assumption)
                obtain ⟨ad122, A122_2, c122_2, e122, hx122_0, hx122_1, hx122_2, hl122_2, hi122_2⟩ := at_T29 HR0.out x5_1 p122 q122
                have hw122_2 := hx122_2
                have hw122_1 := hx122_1
                have hw122_0 := hx122_0
                cases e122
                replace hx122_0 := (HB.out.cell (World.block_lt_of_cell? w _ hx122_0)).trans hx122_0
                replace hx122_1 := (HB.out.cell (World.block_lt_of_cell? w _ hx122_1)).trans hx122_1
                replace hx122_2 := (HB.out.cell (World.block_lt_of_cell? w _ hx122_2)).trans hx122_2
                have HR122_2 := Aside0.mk hi122_2
                have HC122_2 := Aside0.mk hl122_2
                clear hi122_2 hl122_2
                replace p122 := eq_true p122
                replace q122 := eq_true q122
                have p123 : 0 ≤ (x5_1 : Int) := of_decide_eq_true (by first | (with_reducible assumption) | assumption)
                have q123 : x5_1 < (l1.length : Int) := of_decide_eq_true (by first | (with_reducible assumption) | assumption)
                obtain ⟨ad123, A123_2, c123_2, e123, hx123_0, hx123_1, hx123_2, hl123_2, hi123_2⟩ := at_T29 HR1.out x5_1 p123 q123
                have hw123_2 := hx123_2
                have hw123_1 := hx123_1
                have hw123_0 := hx123_0
                cases e123
                replace hx123_0 := (HB.out.cell (World.block_lt_of_cell? w _ hx123_0)).trans hx123_0
                replace hx123_1 := (HB.out.cell (World.block_lt_of_cell? w _ hx123_1)).trans hx123_1
                replace hx123_2 := (HB.out.cell (World.block_lt_of_cell? w _ hx123_2)).trans hx123_2
                have HR123_2 := Aside0.mk hi123_2
                have HC123_2 := Aside0.mk hl123_2
                clear hi123_2 hl123_2
                replace p123 := eq_true p123
                replace q123 := eq_true q123
                refine start_ (n := 10) (S := fun w' => w'.cell? (ad122.add ((x5_1).toNat * 3)) = some (.int .i64 ((rd_T29 l0 x5_1).f0)) ∧ w'.cell? ⟨(ad122.add ((x5_1).toNat * 3)).block, (ad122.add ((x5_1).toNat * 3)).off + 1, none⟩ = some (.int .i64 ((rd_T29 l0 x5_1).f1)) ∧ w'.cell? ⟨(ad122.add ((x5_1).toNat * 3)).block, (ad122.add ((x5_1).toNat * 3)).off + 2, none⟩ = some (.slice A122_2 ((rd_T29 l0 x5_1).f2).length c122_2) ∧ w'.cell? (ad123.add ((x5_1).toNat * 3)) = some (.int .i64 ((rd_T29 l1 x5_1).f0)) ∧ w'.cell? ⟨(ad123.add ((x5_1).toNat * 3)).block, (ad123.add ((x5_1).toNat * 3)).off + 1, none⟩ = some (.int .i64 ((rd_T29 l1 x5_1).f1)) ∧ w'.cell? ⟨(ad123.add ((x5_1).toNat * 3)).block, (ad123.add ((x5_1).toNat * 3)).off + 2, none⟩ = some (.slice A123_2 ((rd_T29 l1 x5_1).f2).length c123_2)) (ds := []) #[false, false, false, false, false, false, false, false, false, false] (by kernel_rfl) rfl rfl ⟨((HB.out.cell (World.block_lt_of_cell? w _ hw122_0)).trans hw122_0), ((HB.out.cell (World.block_lt_of_cell? w _ hw122_1)).trans hw122_1), ((HB.out.cell (World.block_lt_of_cell? w _ hw122_2)).trans hw122_2), ((HB.out.cell (World.block_lt_of_cell? w _ hw123_0)).trans hw123_0), ((HB.out.cell (World.block_lt_of_cell? w _ hw123_1)).trans hw123_1), ((HB.out.cell (World.block_lt_of_cell? w _ hw123_2)).trans hw123_2)⟩ (fun hHeld => ?_); refine with_tabW laws_eqGateS.tab6 laws_eqGateS.bits6 (fun HT_ HW_ => ?_)
                generalize wr.drew = w11 at HB HR122_2 HR123_2 hx122_0 hx122_1 hx122_2 hx123_0 hx123_1 hx123_2 hHeld ⊢
                refine pure_ (i := 0) (N := some 17) (v := ?_) (a' := ?_) #[true, false, false, false, false, false, false, false, false, false] rfl rfl (any_of HT_.out (by kernel_rfl)) (fun _ _ _ h => h) (Or.inl ⟨by rfl, ?_⟩) ?_ ?_
                rotate_left
                · intro w'
                  first | (go_simp; with_reducible rfl) | (simp [go_sem, Instr.field, asAgg] <;> with_reducible rfl)
                rotate_left
                · simp only [Act.put, List.setIfInBounds_toArray, List.set_cons_zero, List.set_cons_succ, i64_w, i32_w]
                  rfl
                refine pure_ (i := 1) (N := some 18) (v := ?_) (a' := ?_) #[true, true, false, false, false, false, false, false, false, false] rfl rfl (any_of HT_.out (by kernel_rfl)) (fun _ _ _ h => h) (Or.inl ⟨by rfl, ?_⟩) ?_ ?_
                rotate_left
                · intro w'
                  first | (go_simp; with_reducible rfl) | (simp [go_sem, Instr.field, asAgg] <;> with_reducible rfl)
                rotate_left
                · simp only [Act.put, List.setIfInBounds_toArray, List.set_cons_zero, List.set_cons_succ, i64_w, i32_w]
                  rfl
                refine pure_ (i := 2) (N := some 19) (v := ?_) (a' := ?_) #[true, true, true, false, false, false, false, false, false, false] rfl rfl (any_of HT_.out (by kernel_rfl)) (fun _ _ _ h => h) (Or.inl ⟨by rfl, ?_⟩) ?_ ?_
                rotate_left
                · intro w'
                  first | (go_simp; with_reducible rfl) | (simp [go_sem, Instr.field, asAgg] <;> with_reducible rfl)
                rotate_left
                · simp only [Act.put, List.setIfInBounds_toArray, List.set_cons_zero, List.set_cons_succ, i64_w, i32_w]
                  rfl
                refine pure_ (i := 4) (N := some 21) (v := ?_) (a' := ?_) #[true, true, true, false, true, false, false, false, false, false] rfl rfl (any_of HT_.out (by kernel_rfl)) (fun _ _ _ h => h) (Or.inl ⟨by rfl, ?_⟩) ?_ ?_
                rotate_left
                · intro w'
                  first | (go_simp; with_reducible rfl) | (simp [go_sem, Instr.field, asAgg] <;> with_reducible rfl)
                rotate_left
                · simp only [Act.put, List.setIfInBounds_toArray, List.set_cons_zero, List.set_cons_succ, i64_w, i32_w]
                  rfl
                refine pure_ (i := 5) (N := some 22) (v := ?_) (a' := ?_) #[true, true, true, false, true, true, false, false, false, false] rfl rfl (any_of HT_.out (by kernel_rfl)) (fun _ _ _ h => h) (Or.inl ⟨by rfl, ?_⟩) ?_ ?_
                rotate_left
                · intro w'
                  first | (go_simp; with_reducible rfl) | (simp [go_sem, Instr.field, asAgg] <;> with_reducible rfl)
                rotate_left
                · simp only [Act.put, List.setIfInBounds_toArray, List.set_cons_zero, List.set_cons_succ, i64_w, i32_w]
                  rfl
                refine pure_ (i := 6) (N := some 23) (v := ?_) (a' := ?_) #[true, true, true, false, true, true, true, false, false, false] rfl rfl (any_of HT_.out (by kernel_rfl)) (fun _ _ _ h => h) (Or.inl ⟨by rfl, ?_⟩) ?_ ?_
                rotate_left
                · intro w'
                  first | (go_simp; with_reducible rfl) | (simp [go_sem, Instr.field, asAgg] <;> with_reducible rfl)
                rotate_left
                · simp only [Act.put, List.setIfInBounds_toArray, List.set_cons_zero, List.set_cons_succ, i64_w, i32_w]
                  rfl
                refine take_ (i := 3) (N := some 20) (v := ?_) (a' := ?_) #[true, true, true, true, true, true, true, false, false, false] rfl rfl (take_ofW HT_.out HW_.out (by kernel_rfl)) (fun _ _ _ h => h) (Or.inl ⟨by rfl, ?_⟩) hHeld ?_ ?_
                rotate_left
                · rintro w' ⟨s0, s1, s2, s3, s4, s5⟩
                  go_simp
                  with_reducible rfl
                rotate_left
                · simp only [Act.put, List.setIfInBounds_toArray, List.set_cons_zero, List.set_cons_succ, i64_w, i32_w]
                  rfl
                refine take_ (i := 7) (N := some 24) (v := ?_) (a' := ?_) #[true, true, true, true, true, true, true, true, false, false] rfl rfl (take_ofW HT_.out HW_.out (by kernel_rfl)) (fun _ _ _ h => h) (Or.inl ⟨by rfl, ?_⟩) hHeld ?_ ?_
                rotate_left
                · rintro w' ⟨s0, s1, s2, s3, s4, s5⟩
                  go_simp
                  with_reducible rfl
                rotate_left
                · simp only [Act.put, List.setIfInBounds_toArray, List.set_cons_zero, List.set_cons_succ, i64_w, i32_w]
                  rfl
                refine one_ (i := 8) (N := some 25) #[true, true, true, true, true, true, true, true, true, false] rfl rfl (one_of HT_.out (by kernel_rfl)) (by decide) (fun K hK => ?_)
                refine goes_ Try.func16 (by kernel_rfl) rfl #[.agg #[.int .i64 ((rd_T29 l0 x5_1).f0), .int .i64 ((rd_T29 l0 x5_1).f1), .slice A122_2 ((rd_T29 l0 x5_1).f2).length c122_2], .agg #[.int .i64 ((rd_T29 l1 x5_1).f0), .int .i64 ((rd_T29 l1 x5_1).f1), .slice A123_2 ((rd_T29 l1 x5_1).f2).length c123_2]] (by rfl) rfl rfl (by (try simp only [List.map_toArray, List.map_cons, List.map_nil]); first | done | rfl | (simp only [List.length_drop, List.length_take]; rfl)) ?_
                with_reducible refine (ihG k1 (by have := HK1.out; omega) ((rd_T29 l0 x5_1).f0) ((rd_T29 l0 x5_1).f1) _ _ ((rd_T29 l0 x5_1).f2) ((rd_T29 l1 x5_1).f0) ((rd_T29 l1 x5_1).f1) _ _ ((rd_T29 l1 x5_1).f2) false _ ?side1 ?side2 ?side3 ?side4 A7.out).mono ?_
                (case side1 => repeat (first | exact (Kd.C_below HR122_2.out HB.out) | (with_reducible refine Kd.C_alloc ?_ _) | (with_reducible refine Kd.C_drewN ?_ _) | (with_reducible refine Kd.C_drew ?_)))
                (case side2 => exact HC122_2.out)
                (case side3 => repeat (first | exact (Kd.C_below HR123_2.out HB.out) | (with_reducible refine Kd.C_alloc ?_ _) | (with_reducible refine Kd.C_drewN ?_ _) | (with_reducible refine Kd.C_drew ?_)))
                (case side4 => exact HC123_2.out)
                rintro e w12 ⟨rfl, hb⟩
                refine ⟨_, rfl, ?_⟩
                have n0_ := Aside0.mk (below_step (by repeat (first | (with_reducible first | exact HB.out | apply below_alloc | apply pw_below_drewN | apply below_drew1) | exact HB.out)) hb)
                clear HB
                have HB := n0_
                clear n0_
                (try clear hb)
                (try clear hb2)
                (try clear hk)
                (try clear hi)
                refine hK.out _ _ ⟨((HB.out.cell (World.block_lt_of_cell? w _ hw122_0)).trans hw122_0), ((HB.out.cell (World.block_lt_of_cell? w _ hw122_1)).trans hw122_1), ((HB.out.cell (World.block_lt_of_cell? w _ hw122_2)).trans hw122_2), ((HB.out.cell (World.block_lt_of_cell? w _ hw123_0)).trans hw123_0), ((HB.out.cell (World.block_lt_of_cell? w _ hw123_1)).trans hw123_1), ((HB.out.cell (World.block_lt_of_cell? w _ hw123_2)).trans hw123_2)⟩ (fun hHeld => ?_)
                clear hK K
                refine norm_ (a' := ?_) ?_ ?_
                rotate_left
                · show Act.put _ (some 25) _ = _
                  simp only [Act.put, List.setIfInBounds_toArray, List.set_cons_zero, List.set_cons_succ, i64_w, i32_w]
                  rfl
                refine pure_ (i := 9) (N := some 26) (v := ?_) (a' := ?_) #[true, true, true, true, true, true, true, true, true, true] rfl rfl (any_of HT_.out (by kernel_rfl)) (fun _ _ _ h => h) (Or.inl ⟨by rfl, ?_⟩) ?_ ?_
                rotate_left
                · intro w'
                  first | (go_simp; with_reducible rfl) | (simp [go_sem, Instr.field, asAgg] <;> with_reducible rfl)
                rotate_left
                · simp only [Act.put, List.setIfInBounds_toArray, List.set_cons_zero, List.set_cons_succ, i64_w, i32_w]
                  rfl
                refine done_ (done_of HT_.out (by kernel_rfl)) ?_
                try go_wp2
                go_ret
                exact ⟨by first | rfl | (simp [errW_none, errW_some] <;> rfl) | (simp [*, errW_none, errW_some] <;> rfl), by repeat (first | (with_reducible first | exact HB.out | apply below_alloc | apply pw_below_drewN | apply below_drew1) | exact HB.out)⟩
            · rw [if_neg c6] at H
              exact absurd H (by simp)
          · rw [if_neg c5] at H
            exact absurd H (by simp)
        · rw [if_neg c4] at H
          have c4b0 : decide (x5_1 < (l0.length : Int)) = false := decide_eq_false c4
          clear c4
          obtain rfl := Option.some.inj H
          go_wp2
          go_ret
          exact ⟨by first | rfl | (simp [errW_none, errW_some] <;> rfl) | (simp [*, errW_none, errW_some] <;> rfl), by repeat (first | (with_reducible first | exact HB.out | apply below_alloc | apply pw_below_drewN | apply below_drew1) | exact HB.out)⟩
  · rw [if_neg c3] at H
    have c3b0 : ((l0.length : Int) == (l1.length : Int)) = false := beq_eq_false_iff_ne.mpr c3
    have c3b1 : ((l0.length : Int) != (l1.length : Int)) = true := bne_iff_ne.mpr c3
    have c3b2 : (l0.length == l1.length) = false := by first | simpa using c3 | (simp at c3 ⊢; omega)
    obtain rfl := Option.some.inj H
    go_enter Try.func46, Try.ntmps46
    go_wp2
    go_ret
    exact ⟨by first | rfl | (simp [errW_none, errW_some] <;> rfl) | (simp [*, errW_none, errW_some] <;> rfl), by repeat (first | (with_reducible first | exact HB.out | apply below_alloc | apply pw_below_drewN | apply below_drew1) | exact HB.out)⟩
theorem laws_eqGate.calls (k : Nat) (a0_0 : Int) (a0_1 : Int) (A0_2 : Option Addr) (c0_2 : Nat) (l0_2 : List (S29)) (a1_0 : Int) (a1_1 : Int) (A1_2 : Option Addr) (c1_2 : Nat) (l1_2 : List (S29)) (r : Bool) (w : World) (hr0_2 : Kd.C k29 w A0_2 l0_2.length l0_2) (hc0_2 : l0_2.length ≤ c0_2) (hr1_2 : Kd.C k29 w A1_2 l1_2.length l1_2) (hc1_2 : l1_2.length ≤ c1_2) (h : laws_eqGate.f k a0_0 a0_1 l0_2 a1_0 a1_1 l1_2 = some r) :
    Calls Try.prog 16 #[.agg #[.int .i64 a0_0, .int .i64 a0_1, .slice A0_2 l0_2.length c0_2], .agg #[.int .i64 a1_0, .int .i64 a1_1, .slice A1_2 l1_2.length c1_2]] w fun e w' => e = .returned (.bool r) ∧ Below w.heap.size w w' := by
  cases k with
  | zero => exact absurd h (by simp [laws_eqGate.f])
  | succ k => exact laws_eqGate.calls_of k (laws_eqGateS.calls k) a0_0 a0_1 A0_2 c0_2 l0_2 a1_0 a1_1 A1_2 c1_2 l1_2 r w hr0_2 hc0_2 hr1_2 hc1_2 h

end Go.Proofs.Ytjnobnmjhpmpfaa.P

namespace Go.Proofs.Ytjnobnmjhpmpfaa.P
open Go.RowKit Go.Proofs.YtjnobnmjhpmpfaaW.PrintWords Go.Proofs.YtjnobnmjhpmpfaaW.PrintLast Go.Proofs.YtjnobnmjhpmpfaaW.PrintMore
attribute [local go_sem] max2_int min2_int max_two min_two max_three min_three max_four min_four
set_option linter.unusedVariables false
set_option linter.unusedSimpArgs false

/-! ### laws_FnExactGateOfFamily: function 11 (the law's walk, by a program of this session) -/
set_option maxHeartbeats 8000000 in
set_option maxRecDepth 100000 in
theorem laws_FnExactGateOfFamily.way0 (k : Nat) (a0_0 : Int) (A0_1 : Option Addr) (c0_1 : Nat) (l0_1 : List (List Int)) (s2 : Int) (w : World) (hr0_1 : Kd.C (Kd.slice 2 (Kd.int .i64)) w A0_1 l0_1.length l0_1) (hc0_1 : l0_1.length ≤ c0_1) (A3 : laws_szFamily.f k a0_0 l0_1 1048576 = some s2) (t8 : decide (s2 < 0) = true) :
    Calls Try.prog 11 #[.agg #[.int .i64 a0_0, .slice A0_1 l0_1.length c0_1]] w fun e w' => e = .returned (.bool true) ∧ Below w.heap.size w w' := by
  have hu50 := Try.underlying50
  have HR0_1 := Aside0.mk hr0_1
  have HC0_1 := Aside0.mk hc0_1
  clear hr0_1 hc0_1
  have HB := Aside0.mk (Below.refl w.heap.size w)
  replace A3 := Aside0.mk A3
  go_enter Try.func11, Try.ntmps11
  go_wp2_with (first | ((with_reducible refine gate_callee (f := 37) rfl ?_); refine goesL_ (some 16) rfl rfl Try.func37 (by kernel_rfl) rfl #[.agg #[.int .i64 a0_0, .slice A0_1 l0_1.length c0_1], .int .i64 1048576] rfl (by (try simp only [List.map_toArray, List.map_cons, List.map_nil]); first | done | rfl | (simp only [List.length_drop, List.length_take]; rfl)) ?_; (with_reducible refine (laws_szFamily.calls k a0_0 _ _ l0_1 1048576 s2 _ ?side1 ?side2 A3.out).mono ?_); (case side1 => exact Kd.C_below HR0_1.out (by repeat (first | (with_reducible first | exact HB.out | apply below_alloc | apply pw_below_drewN | apply below_drew1) | exact HB.out))); (case side2 => exact HC0_1.out); rintro e w1 ⟨rfl, hb⟩; refine ⟨_, rfl, ?_⟩; have n1_ := Aside0.mk (blk_below (g := w.heap.size) (o := .cells #[.int .i64 a0_0, .slice A0_1 l0_1.length c0_1] 50 (0, 0)) (by repeat (first | exact blk_new_at (by simp) | (with_reducible refine blk_drewN ?_ _) | (with_reducible refine blk_drew ?_) | (with_reducible refine blk_alloc ?_ _))) hb); have n2_ := Aside0.mk (below_step (by repeat (first | (with_reducible first | exact HB.out | apply below_alloc | apply pw_below_drewN | apply below_drew1) | exact HB.out)) hb); have C4 : Aside0 (w.heap.size + 1 ≤ w1.heap.size) := ⟨by have h_ := hb.size; (try simp at h_); omega⟩; have CC := Aside0.mk C4.out; clear HB; have HX1 := n1_; clear n1_; have HB := n2_; clear n2_; (try clear hb); have hl5 : w.heap.size < w1.heap.size := blk_lt HX1.out; have hx6 : w1.cell? ⟨w.heap.size, 0, none⟩ = some (.int .i64 a0_0) := (blk_cell HX1.out 0).trans rfl; have hx7 : w1.cell? ⟨w.heap.size, 1, none⟩ = some (.slice A0_1 l0_1.length c0_1) := (blk_cell HX1.out 1).trans rfl))
  go_ret
  exact ⟨rfl, by repeat (first | (with_reducible first | exact HB.out | apply below_alloc | apply pw_below_drewN | apply below_drew1) | exact HB.out)⟩
set_option maxHeartbeats 8000000 in
set_option maxRecDepth 100000 in
theorem laws_FnExactGateOfFamily.way1 (k : Nat) (a0_0 : Int) (A0_1 : Option Addr) (c0_1 : Nat) (l0_1 : List (List Int)) (s2 : Int) (r16 : Int) (r17 : Int) (r18 : List (S29)) (r19 : Int) (m105 : Int) (ys106 : List (List Int)) (m140 : Int) (ys141 : List (S29)) (w : World) (hr0_1 : Kd.C (Kd.slice 2 (Kd.int .i64)) w A0_1 l0_1.length l0_1) (hc0_1 : l0_1.length ≤ c0_1) (A3 : laws_szFamily.f k a0_0 l0_1 1048576 = some s2) (t8 : decide (s2 < 0) = false) (A9 : laws_toFamily.f k a0_0 l0_1 = some (a0_0, l0_1)) (A20 : spec_GateOfFamily.f k a0_0 l0_1 = some (r16, r17, r18, r19)) (A28 : laws_toFamily.f k a0_0 l0_1 = some (a0_0, l0_1)) (A40 : impl_GateOfFamily.f k a0_0 l0_1 = some (r16, r17, r18, r19)) (A55 : laws_eqGate.f k r16 r17 r18 r16 r17 r18 = some true) (A71 : laws_toFamily.f k a0_0 l0_1 = some (a0_0, l0_1)) (A89 : laws_eqFamily.f k a0_0 l0_1 a0_0 l0_1 = some true) (A107 : laws_markFamily.f k a0_0 l0_1 1 = some (m105, ys106)) (t123 : decide (m105 < 0) = false) (A124 : laws_eqGate.f k r16 r17 r18 r16 r17 r18 = some true) (A142 : laws_markGate.f k r16 r17 r18 1 = some (m140, ys141)) (A158 : laws_heldGate.f k r16 r17 ys141 1 = some m140) (t174 : decide (m140 < 0) = false) (A175 : laws_toFamily.f k a0_0 l0_1 = some (a0_0, l0_1)) (A193 : impl_GateOfFamily.f k a0_0 l0_1 = some (r16, r17, r18, r19)) (A212 : laws_eqGate.f k r16 r17 r18 r16 r17 r18 = some true) (A232 : laws_heldGate.f k r16 r17 ys141 1 = some m140) (t252 : decide (m140 < 0) = false) :
    Calls Try.prog 11 #[.agg #[.int .i64 a0_0, .slice A0_1 l0_1.length c0_1]] w fun e w' => e = .returned (.bool true) ∧ Below w.heap.size w w' := by
  have hu29 := Try.underlying29
  have hu50 := Try.underlying50
  have hu53 := Try.underlying53
  have HR0_1 := Aside0.mk hr0_1
  have HC0_1 := Aside0.mk hc0_1
  clear hr0_1 hc0_1
  have HB := Aside0.mk (Below.refl w.heap.size w)
  replace A3 := Aside0.mk A3
  replace A9 := Aside0.mk A9
  replace A20 := Aside0.mk A20
  replace A28 := Aside0.mk A28
  replace A40 := Aside0.mk A40
  replace A55 := Aside0.mk A55
  replace A71 := Aside0.mk A71
  replace A89 := Aside0.mk A89
  replace A107 := Aside0.mk A107
  replace A124 := Aside0.mk A124
  replace A142 := Aside0.mk A142
  replace A158 := Aside0.mk A158
  replace A175 := Aside0.mk A175
  replace A193 := Aside0.mk A193
  replace A212 := Aside0.mk A212
  replace A232 := Aside0.mk A232
  go_enter Try.func11, Try.ntmps11
  go_wp2_with (first | ((with_reducible refine gate_callee (f := 37) rfl ?_); refine goesL_ (some 16) rfl rfl Try.func37 (by kernel_rfl) rfl #[.agg #[.int .i64 a0_0, .slice A0_1 l0_1.length c0_1], .int .i64 1048576] rfl (by (try simp only [List.map_toArray, List.map_cons, List.map_nil]); first | done | rfl | (simp only [List.length_drop, List.length_take]; rfl)) ?_; (with_reducible refine (laws_szFamily.calls k a0_0 _ _ l0_1 1048576 s2 _ ?side1 ?side2 A3.out).mono ?_); (case side1 => exact Kd.C_below HR0_1.out (by repeat (first | (with_reducible first | exact HB.out | apply below_alloc | apply pw_below_drewN | apply below_drew1) | exact HB.out))); (case side2 => exact HC0_1.out); rintro e w1 ⟨rfl, hb⟩; refine ⟨_, rfl, ?_⟩; have n1_ := Aside0.mk (blk_below (g := w.heap.size) (o := .cells #[.int .i64 a0_0, .slice A0_1 l0_1.length c0_1] 50 (0, 0)) (by repeat (first | exact blk_new_at (by simp) | (with_reducible refine blk_drewN ?_ _) | (with_reducible refine blk_drew ?_) | (with_reducible refine blk_alloc ?_ _))) hb); have n2_ := Aside0.mk (below_step (by repeat (first | (with_reducible first | exact HB.out | apply below_alloc | apply pw_below_drewN | apply below_drew1) | exact HB.out)) hb); have C4 : Aside0 (w.heap.size + 1 ≤ w1.heap.size) := ⟨by have h_ := hb.size; (try simp at h_); omega⟩; have CC := Aside0.mk C4.out; clear HB; have HX1 := n1_; clear n1_; have HB := n2_; clear n2_; (try clear hb); have hl5 : w.heap.size < w1.heap.size := blk_lt HX1.out; have hx6 : w1.cell? ⟨w.heap.size, 0, none⟩ = some (.int .i64 a0_0) := (blk_cell HX1.out 0).trans rfl; have hx7 : w1.cell? ⟨w.heap.size, 1, none⟩ = some (.slice A0_1 l0_1.length c0_1) := (blk_cell HX1.out 1).trans rfl) | ((with_reducible refine gate_callee (f := 39) rfl ?_); refine goesL_ (some 21) rfl rfl Try.func39 (by kernel_rfl) rfl #[.agg #[.int .i64 a0_0, .slice A0_1 l0_1.length c0_1]] rfl (by (try simp only [List.map_toArray, List.map_cons, List.map_nil]); first | done | rfl | (simp only [List.length_drop, List.length_take]; rfl)) ?_; (with_reducible refine (laws_toFamily.calls k a0_0 _ _ l0_1 a0_0 l0_1 _ ?side1 ?side2 A9.out).mono ?_); (case side1 => exact Kd.C_below HR0_1.out (by repeat (first | (with_reducible first | exact HB.out | apply below_alloc | apply pw_below_drewN | apply below_drew1) | exact HB.out))); (case side2 => exact HC0_1.out); rintro e w2 ⟨v100_, rfl, ho0_, hb⟩; refine ⟨_, rfl, ?_⟩; have n1_ := Aside0.mk (blk_below (g := w.heap.size) (o := .cells #[.int .i64 a0_0, .slice A0_1 l0_1.length c0_1] 50 (0, 0)) (by (with_reducible repeat (first | refine blk_drewN ?_ _ | refine blk_drew ?_ | refine blk_alloc ?_ _)); exact HX1.out) hb); have n2_ := Aside0.mk (below_step (by repeat (first | (with_reducible first | exact HB.out | apply below_alloc | apply pw_below_drewN | apply below_drew1) | exact HB.out)) hb); have C10 : Aside0 (w1.heap.size ≤ w2.heap.size) := ⟨by have h_ := hb.size; (try simp at h_); omega⟩; have CCn_ := Aside0.mk (And.intro CC.out C10.out); clear CC; have CC := CCn_; clear CCn_; clear HX1; clear HB; clear hl5; clear hx6; clear hx7; have HX1 := n1_; clear n1_; have HB := n2_; clear n2_; have HO11 := Aside0.mk (Kd.S_lower (base' := w.heap.size) (Kd.S_mono (Kd.S_bound ho0_) (ok' := fun k_ => w1.heap.size ≤ k_ ∧ k_ < w2.heap.size) (fun k_ hk_ => ⟨by have h_ := hk_.2.1; (try simp at h_); omega, hk_.2.2.1⟩)) (by have := CC.out; first | omega | (simp; done) | (simp; omega))); obtain ⟨Az12, cz12, ez12⟩ := Kd.S_slice HO11.out; subst ez12; (try clear hb); (try clear ho0_); have hl13 : w.heap.size < w2.heap.size := blk_lt HX1.out; have hx14 : w2.cell? ⟨w.heap.size, 0, none⟩ = some (.int .i64 a0_0) := (blk_cell HX1.out 0).trans rfl; have hx15 : w2.cell? ⟨w.heap.size, 1, none⟩ = some (.slice A0_1 l0_1.length c0_1) := (blk_cell HX1.out 1).trans rfl) | ((with_reducible refine gate_callee (f := 38) rfl ?_); refine goesL_ (some 22) rfl rfl Try.func38 (by kernel_rfl) rfl #[.agg #[.int .i64 a0_0, .slice Az12 l0_1.length cz12]] rfl (by (try simp only [List.map_toArray, List.map_cons, List.map_nil]); first | done | rfl | (simp only [List.length_drop, List.length_take]; rfl)) ?_; (with_reducible refine (spec_GateOfFamily.calls k a0_0 _ _ l0_1 r16 r17 r18 r19 _ ?side1 ?side2 A20.out).mono ?_); (case side1 => exact (Kd.S_reads' (n := l0_1.length) (A := Az12) (c := cz12) (by (with_reducible repeat (first | apply Kd.S_alloc | apply Kd.S_drewN | apply Kd.S_drew)); exact HO11.out)).2.2); (case side2 => exact (Kd.S_reads' (n := l0_1.length) (A := Az12) (c := cz12) HO11.out).2.1); rintro e w3 ⟨v100_, rfl, ho0_, hb⟩; refine ⟨_, rfl, ?_⟩; have n1_ := Aside0.mk (Kd.S_below (by (with_reducible repeat (first | apply Kd.S_alloc | apply Kd.S_drewN | apply Kd.S_drew)); exact HO11.out) hb); have n2_ := Aside0.mk (blk_below (g := w.heap.size) (o := .cells #[.int .i64 a0_0, .slice A0_1 l0_1.length c0_1] 50 (0, 0)) (by (with_reducible repeat (first | refine blk_drewN ?_ _ | refine blk_drew ?_ | refine blk_alloc ?_ _)); exact HX1.out) hb); have n3_ := Aside0.mk (below_step (by repeat (first | (with_reducible first | exact HB.out | apply below_alloc | apply pw_below_drewN | apply below_drew1) | exact HB.out)) hb); have C21 : Aside0 (w2.heap.size ≤ w3.heap.size) := ⟨by have h_ := hb.size; (try simp at h_); omega⟩; have CCn_ := Aside0.mk (And.intro CC.out C21.out); clear CC; have CC := CCn_; clear CCn_; clear HO11; clear HX1; clear HB; clear hl13; clear hx14; clear hx15; have HO11 := n1_; clear n1_; have HX1 := n2_; clear n2_; have HB := n3_; clear n3_; have HO22 := Aside0.mk (Kd.G_lower (base' := w.heap.size) (Kd.G_mono (Kd.G_bound ho0_) (ok' := fun k_ => w2.heap.size ≤ k_ ∧ k_ < w3.heap.size) (fun k_ hk_ => ⟨by have h_ := hk_.2.1; (try simp at h_); omega, hk_.2.2.1⟩)) (by have := CC.out; first | omega | (simp; done) | (simp; omega))); obtain ⟨Az23, cz23, ez23⟩ := Kd.G_slice HO22.out; subst ez23; (try clear hb); (try clear ho0_); have hl24 : w.heap.size < w3.heap.size := blk_lt HX1.out; have hx25 : w3.cell? ⟨w.heap.size, 0, none⟩ = some (.int .i64 a0_0) := (blk_cell HX1.out 0).trans rfl; have hx26 : w3.cell? ⟨w.heap.size, 1, none⟩ = some (.slice A0_1 l0_1.length c0_1) := (blk_cell HX1.out 1).trans rfl) | ((with_reducible refine gate_callee (f := 39) rfl ?_); refine goesL_ (some 26) rfl rfl Try.func39 (by kernel_rfl) rfl #[.agg #[.int .i64 a0_0, .slice A0_1 l0_1.length c0_1]] rfl (by (try simp only [List.map_toArray, List.map_cons, List.map_nil]); first | done | rfl | (simp only [List.length_drop, List.length_take]; rfl)) ?_; (with_reducible refine (laws_toFamily.calls k a0_0 _ _ l0_1 a0_0 l0_1 _ ?side1 ?side2 A28.out).mono ?_); (case side1 => exact Kd.C_below HR0_1.out (by repeat (first | (with_reducible first | exact HB.out | apply below_alloc | apply pw_below_drewN | apply below_drew1) | exact HB.out))); (case side2 => exact HC0_1.out); rintro e w4 ⟨v100_, rfl, ho0_, hb⟩; refine ⟨_, rfl, ?_⟩; have n1_ := Aside0.mk (Kd.G_below (by (with_reducible repeat (first | apply Kd.G_alloc | apply Kd.G_drewN | apply Kd.G_drew)); exact HO22.out) hb); have n2_ := Aside0.mk (blk_below (g := w.heap.size) (o := .cells #[.int .i64 a0_0, .slice A0_1 l0_1.length c0_1] 50 (0, 0)) (by (with_reducible repeat (first | refine blk_drewN ?_ _ | refine blk_drew ?_ | refine blk_alloc ?_ _)); exact HX1.out) hb); have n3_ := Aside0.mk (blk_below (g := w3.heap.size) (o := .cells #[.int .i64 r16, .int .i64 r17, .slice Az23 r18.length cz23] 29 (0, 0)) (by repeat (first | exact blk_new_at (by simp) | (with_reducible refine blk_drewN ?_ _) | (with_reducible refine blk_drew ?_) | (with_reducible refine blk_alloc ?_ _))) hb); have n4_ := Aside0.mk (below_step (by repeat (first | (with_reducible first | exact HB.out | apply below_alloc | apply pw_below_drewN | apply below_drew1) | exact HB.out)) hb); have C29 : Aside0 (w3.heap.size + 1 ≤ w4.heap.size) := ⟨by have h_ := hb.size; (try simp at h_); omega⟩; have CCn_ := Aside0.mk (And.intro CC.out C29.out); clear CC; have CC := CCn_; clear CCn_; clear HO22; clear HX1; clear HB; clear hl24; clear hx25; clear hx26; have HO22 := n1_; clear n1_; have HX1 := n2_; clear n2_; have HX27 := n3_; clear n3_; have HB := n4_; clear n4_; have HO30 := Aside0.mk (Kd.S_lower (base' := w.heap.size) (Kd.S_mono (Kd.S_bound ho0_) (ok' := fun k_ => w3.heap.size + 1 ≤ k_ ∧ k_ < w4.heap.size) (fun k_ hk_ => ⟨by have h_ := hk_.2.1; (try simp at h_); omega, hk_.2.2.1⟩)) (by have := CC.out; first | omega | (simp; done) | (simp; omega))); obtain ⟨Az31, cz31, ez31⟩ := Kd.S_slice HO30.out; subst ez31; (try clear hb); (try clear ho0_); have hl32 : w.heap.size < w4.heap.size := blk_lt HX1.out; have hx33 : w4.cell? ⟨w.heap.size, 0, none⟩ = some (.int .i64 a0_0) := (blk_cell HX1.out 0).trans rfl; have hx34 : w4.cell? ⟨w.heap.size, 1, none⟩ = some (.slice A0_1 l0_1.length c0_1) := (blk_cell HX1.out 1).trans rfl; have hl35 : w3.heap.size < w4.heap.size := blk_lt HX27.out; have hx36 : w4.cell? ⟨w3.heap.size, 0, none⟩ = some (.int .i64 r16) := (blk_cell HX27.out 0).trans rfl; have hx37 : w4.cell? ⟨w3.heap.size, 1, none⟩ = some (.int .i64 r17) := (blk_cell HX27.out 1).trans rfl; have hx38 : w4.cell? ⟨w3.heap.size, 2, none⟩ = some (.slice Az23 r18.length cz23) := (blk_cell HX27.out 2).trans rfl) | ((with_reducible refine gate_callee (f := 40) rfl ?_); refine goesL_ (some 29) rfl rfl Try.func40 (by kernel_rfl) rfl #[.agg #[.int .i64 a0_0, .slice Az31 l0_1.length cz31]] rfl (by (try simp only [List.map_toArray, List.map_cons, List.map_nil]); first | done | rfl | (simp only [List.length_drop, List.length_take]; rfl)) ?_; (with_reducible refine (impl_GateOfFamily.calls k a0_0 _ _ l0_1 r16 r17 r18 r19 _ ?side1 ?side2 A40.out).mono ?_); (case side1 => exact (Kd.S_reads' (n := l0_1.length) (A := Az31) (c := cz31) (by (with_reducible repeat (first | apply Kd.S_alloc | apply Kd.S_drewN | apply Kd.S_drew)); exact HO30.out)).2.2); (case side2 => exact (Kd.S_reads' (n := l0_1.length) (A := Az31) (c := cz31) HO30.out).2.1); rintro e w5 ⟨v100_, rfl, ho0_, hb⟩; refine ⟨_, rfl, ?_⟩; have n1_ := Aside0.mk (Kd.G_below (by (with_reducible repeat (first | apply Kd.G_alloc | apply Kd.G_drewN | apply Kd.G_drew)); exact HO22.out) hb); have n2_ := Aside0.mk (Kd.S_below (by (with_reducible repeat (first | apply Kd.S_alloc | apply Kd.S_drewN | apply Kd.S_drew)); exact HO30.out) hb); have n3_ := Aside0.mk (blk_below (g := w.heap.size) (o := .cells #[.int .i64 a0_0, .slice A0_1 l0_1.length c0_1] 50 (0, 0)) (by (with_reducible repeat (first | refine blk_drewN ?_ _ | refine blk_drew ?_ | refine blk_alloc ?_ _)); exact HX1.out) hb); have n4_ := Aside0.mk (blk_below (g := w3.heap.size) (o := .cells #[.int .i64 r16, .int .i64 r17, .slice Az23 r18.length cz23] 29 (0, 0)) (by (with_reducible repeat (first | refine blk_drewN ?_ _ | refine blk_drew ?_ | refine blk_alloc ?_ _)); exact HX27.out) hb); have n5_ := Aside0.mk (blk_below (g := w4.heap.size) (o := .cells #[.int .i64 a0_0, .slice Az31 l0_1.length cz31] 53 (0, 0)) (by repeat (first | exact blk_new_at (by simp) | (with_reducible refine blk_drewN ?_ _) | (with_reducible refine blk_drew ?_) | (with_reducible refine blk_alloc ?_ _))) hb); have n6_ := Aside0.mk (below_step (by repeat (first | (with_reducible first | exact HB.out | apply below_alloc | apply pw_below_drewN | apply below_drew1) | exact HB.out)) hb); have C41 : Aside0 (w4.heap.size + 1 ≤ w5.heap.size) := ⟨by have h_ := hb.size; (try simp at h_); omega⟩; have CCn_ := Aside0.mk (And.intro CC.out C41.out); clear CC; have CC := CCn_; clear CCn_; clear HO22; clear HO30; clear HX1; clear HX27; clear HB; clear hl32; clear hx33; clear hx34; clear hl35; clear hx36; clear hx37; clear hx38; have HO22 := n1_; clear n1_; have HO30 := n2_; clear n2_; have HX1 := n3_; clear n3_; have HX27 := n4_; clear n4_; have HX39 := n5_; clear n5_; have HB := n6_; clear n6_; have HO42 := Aside0.mk (Kd.G_lower (base' := w.heap.size) (Kd.G_mono (Kd.G_bound ho0_) (ok' := fun k_ => w4.heap.size + 1 ≤ k_ ∧ k_ < w5.heap.size) (fun k_ hk_ => ⟨by have h_ := hk_.2.1; (try simp at h_); omega, hk_.2.2.1⟩)) (by have := CC.out; first | omega | (simp; done) | (simp; omega))); obtain ⟨Az43, cz43, ez43⟩ := Kd.G_slice HO42.out; subst ez43; (try clear hb); (try clear ho0_); have hl44 : w.heap.size < w5.heap.size := blk_lt HX1.out; have hx45 : w5.cell? ⟨w.heap.size, 0, none⟩ = some (.int .i64 a0_0) := (blk_cell HX1.out 0).trans rfl; have hx46 : w5.cell? ⟨w.heap.size, 1, none⟩ = some (.slice A0_1 l0_1.length c0_1) := (blk_cell HX1.out 1).trans rfl; have hl47 : w3.heap.size < w5.heap.size := blk_lt HX27.out; have hx48 : w5.cell? ⟨w3.heap.size, 0, none⟩ = some (.int .i64 r16) := (blk_cell HX27.out 0).trans rfl; have hx49 : w5.cell? ⟨w3.heap.size, 1, none⟩ = some (.int .i64 r17) := (blk_cell HX27.out 1).trans rfl; have hx50 : w5.cell? ⟨w3.heap.size, 2, none⟩ = some (.slice Az23 r18.length cz23) := (blk_cell HX27.out 2).trans rfl; have hl51 : w4.heap.size < w5.heap.size := blk_lt HX39.out; have hx52 : w5.cell? ⟨w4.heap.size, 0, none⟩ = some (.int .i64 a0_0) := (blk_cell HX39.out 0).trans rfl; have hx53 : w5.cell? ⟨w4.heap.size, 1, none⟩ = some (.slice Az31 l0_1.length cz31) := (blk_cell HX39.out 1).trans rfl) | ((with_reducible refine gate_callee (f := 16) rfl ?_); refine goesL_ (some 34) rfl rfl Try.func16 (by kernel_rfl) rfl #[.agg #[.int .i64 r16, .int .i64 r17, .slice Az43 r18.length cz43], .agg #[.int .i64 r16, .int .i64 r17, .slice Az23 r18.length cz23]] rfl (by (try simp only [List.map_toArray, List.map_cons, List.map_nil]); first | done | rfl | (simp only [List.length_drop, List.length_take]; rfl)) ?_; (with_reducible refine (laws_eqGate.calls k r16 r17 _ _ r18 r16 r17 _ _ r18 true _ ?side1 ?side2 ?side3 ?side4 A55.out).mono ?_); (case side1 => exact (Kd.G_reads' (n := r18.length) (A := Az43) (c := cz43) (by (with_reducible repeat (first | apply Kd.G_alloc | apply Kd.G_drewN | apply Kd.G_drew)); exact HO42.out)).2.2); (case side2 => exact (Kd.G_reads' (n := r18.length) (A := Az43) (c := cz43) HO42.out).2.1); (case side3 => exact (Kd.G_reads' (n := r18.length) (A := Az23) (c := cz23) (by (with_reducible repeat (first | apply Kd.G_alloc | apply Kd.G_drewN | apply Kd.G_drew)); exact HO22.out)).2.2); (case side4 => exact (Kd.G_reads' (n := r18.length) (A := Az23) (c := cz23) HO22.out).2.1); rintro e w6 ⟨rfl, hb⟩; refine ⟨_, rfl, ?_⟩; have n1_ := Aside0.mk (Kd.G_below (by (with_reducible repeat (first | apply Kd.G_alloc | apply Kd.G_drewN | apply Kd.G_drew)); exact HO22.out) hb); have n2_ := Aside0.mk (Kd.S_below (by (with_reducible repeat (first | apply Kd.S_alloc | apply Kd.S_drewN | apply Kd.S_drew)); exact HO30.out) hb); have n3_ := Aside0.mk (Kd.G_below (by (with_reducible repeat (first | apply Kd.G_alloc | apply Kd.G_drewN | apply Kd.G_drew)); exact HO42.out) hb); have n4_ := Aside0.mk (blk_below (g := w.heap.size) (o := .cells #[.int .i64 a0_0, .slice A0_1 l0_1.length c0_1] 50 (0, 0)) (by (with_reducible repeat (first | refine blk_drewN ?_ _ | refine blk_drew ?_ | refine blk_alloc ?_ _)); exact HX1.out) hb); have n5_ := Aside0.mk (blk_below (g := w3.heap.size) (o := .cells #[.int .i64 r16, .int .i64 r17, .slice Az23 r18.length cz23] 29 (0, 0)) (by (with_reducible repeat (first | refine blk_drewN ?_ _ | refine blk_drew ?_ | refine blk_alloc ?_ _)); exact HX27.out) hb); have n6_ := Aside0.mk (blk_below (g := w4.heap.size) (o := .cells #[.int .i64 a0_0, .slice Az31 l0_1.length cz31] 53 (0, 0)) (by (with_reducible repeat (first | refine blk_drewN ?_ _ | refine blk_drew ?_ | refine blk_alloc ?_ _)); exact HX39.out) hb); have n7_ := Aside0.mk (blk_below (g := w5.heap.size) (o := .cells #[.int .i64 r16, .int .i64 r17, .slice Az43 r18.length cz43] 29 (0, 0)) (by repeat (first | exact blk_new_at (by simp) | (with_reducible refine blk_drewN ?_ _) | (with_reducible refine blk_drew ?_) | (with_reducible refine blk_alloc ?_ _))) hb); have n8_ := Aside0.mk (below_step (by repeat (first | (with_reducible first | exact HB.out | apply below_alloc | apply pw_below_drewN | apply below_drew1) | exact HB.out)) hb); have C56 : Aside0 (w5.heap.size + 1 ≤ w6.heap.size) := ⟨by have h_ := hb.size; (try simp at h_); omega⟩; have CCn_ := Aside0.mk (And.intro CC.out C56.out); clear CC; have CC := CCn_; clear CCn_; clear HO22; clear HO30; clear HO42; clear HX1; clear HX27; clear HX39; clear HB; clear hl44; clear hx45; clear hx46; clear hl47; clear hx48; clear hx49; clear hx50; clear hl51; clear hx52; clear hx53; have HO22 := n1_; clear n1_; have HO30 := n2_; clear n2_; have HO42 := n3_; clear n3_; have HX1 := n4_; clear n4_; have HX27 := n5_; clear n5_; have HX39 := n6_; clear n6_; have HX54 := n7_; clear n7_; have HB := n8_; clear n8_; (try clear hb); have hl57 : w.heap.size < w6.heap.size := blk_lt HX1.out; have hx58 : w6.cell? ⟨w.heap.size, 0, none⟩ = some (.int .i64 a0_0) := (blk_cell HX1.out 0).trans rfl; have hx59 : w6.cell? ⟨w.heap.size, 1, none⟩ = some (.slice A0_1 l0_1.length c0_1) := (blk_cell HX1.out 1).trans rfl; have hl60 : w3.heap.size < w6.heap.size := blk_lt HX27.out; have hx61 : w6.cell? ⟨w3.heap.size, 0, none⟩ = some (.int .i64 r16) := (blk_cell HX27.out 0).trans rfl; have hx62 : w6.cell? ⟨w3.heap.size, 1, none⟩ = some (.int .i64 r17) := (blk_cell HX27.out 1).trans rfl; have hx63 : w6.cell? ⟨w3.heap.size, 2, none⟩ = some (.slice Az23 r18.length cz23) := (blk_cell HX27.out 2).trans rfl; have hl64 : w4.heap.size < w6.heap.size := blk_lt HX39.out; have hx65 : w6.cell? ⟨w4.heap.size, 0, none⟩ = some (.int .i64 a0_0) := (blk_cell HX39.out 0).trans rfl; have hx66 : w6.cell? ⟨w4.heap.size, 1, none⟩ = some (.slice Az31 l0_1.length cz31) := (blk_cell HX39.out 1).trans rfl; have hl67 : w5.heap.size < w6.heap.size := blk_lt HX54.out; have hx68 : w6.cell? ⟨w5.heap.size, 0, none⟩ = some (.int .i64 r16) := (blk_cell HX54.out 0).trans rfl; have hx69 : w6.cell? ⟨w5.heap.size, 1, none⟩ = some (.int .i64 r17) := (blk_cell HX54.out 1).trans rfl; have hx70 : w6.cell? ⟨w5.heap.size, 2, none⟩ = some (.slice Az43 r18.length cz43) := (blk_cell HX54.out 2).trans rfl))
  go_region_held3 (fun w' => w'.cell? ⟨w4.heap.size, 0, none⟩ = some (.int .i64 a0_0) ∧ w'.cell? ⟨w4.heap.size, 1, none⟩ = some (.slice Az31 l0_1.length cz31) ∧ w'.cell? ⟨w.heap.size, 0, none⟩ = some (.int .i64 a0_0) ∧ w'.cell? ⟨w.heap.size, 1, none⟩ = some (.slice A0_1 l0_1.length c0_1)) (first | ((repeat' apply And.intro) <;> assumption) | go_keep) (first | (go_at_call 39; (with_reducible refine (laws_toFamily.calls k a0_0 _ _ l0_1 a0_0 l0_1 _ ?side1 ?side2 A71.out).mono ?_); (case side1 => exact Kd.C_below HR0_1.out (by repeat (first | (with_reducible first | exact HB.out | apply below_alloc | apply pw_below_drewN | apply below_drew1) | exact HB.out))); (case side2 => exact HC0_1.out); rintro e w7 ⟨v100_, rfl, ho0_, hb⟩; have n1_ := Aside0.mk (Kd.G_below (by (with_reducible repeat (first | apply Kd.G_alloc | apply Kd.G_drewN | apply Kd.G_drew)); exact HO22.out) hb); have n2_ := Aside0.mk (Kd.S_below (by (with_reducible repeat (first | apply Kd.S_alloc | apply Kd.S_drewN | apply Kd.S_drew)); exact HO30.out) hb); have n3_ := Aside0.mk (Kd.G_below (by (with_reducible repeat (first | apply Kd.G_alloc | apply Kd.G_drewN | apply Kd.G_drew)); exact HO42.out) hb); have n4_ := Aside0.mk (blk_below (g := w.heap.size) (o := .cells #[.int .i64 a0_0, .slice A0_1 l0_1.length c0_1] 50 (0, 0)) (by (with_reducible repeat (first | refine blk_drewN ?_ _ | refine blk_drew ?_ | refine blk_alloc ?_ _)); exact HX1.out) hb); have n5_ := Aside0.mk (blk_below (g := w3.heap.size) (o := .cells #[.int .i64 r16, .int .i64 r17, .slice Az23 r18.length cz23] 29 (0, 0)) (by (with_reducible repeat (first | refine blk_drewN ?_ _ | refine blk_drew ?_ | refine blk_alloc ?_ _)); exact HX27.out) hb); have n6_ := Aside0.mk (blk_below (g := w4.heap.size) (o := .cells #[.int .i64 a0_0, .slice Az31 l0_1.length cz31] 53 (0, 0)) (by (with_reducible repeat (first | refine blk_drewN ?_ _ | refine blk_drew ?_ | refine blk_alloc ?_ _)); exact HX39.out) hb); have n7_ := Aside0.mk (blk_below (g := w5.heap.size) (o := .cells #[.int .i64 r16, .int .i64 r17, .slice Az43 r18.length cz43] 29 (0, 0)) (by (with_reducible repeat (first | refine blk_drewN ?_ _ | refine blk_drew ?_ | refine blk_alloc ?_ _)); exact HX54.out) hb); have n8_ := Aside0.mk (below_step (by repeat (first | (with_reducible first | exact HB.out | apply below_alloc | apply pw_below_drewN | apply below_drew1) | exact HB.out)) hb); have C72 : Aside0 (w6.heap.size ≤ w7.heap.size) := ⟨by have h_ := hb.size; (try simp at h_); omega⟩; have CCn_ := Aside0.mk (And.intro CC.out C72.out); clear CC; have CC := CCn_; clear CCn_; clear HO22; clear HO30; clear HO42; clear HX1; clear HX27; clear HX39; clear HX54; clear HB; clear hl57; clear hx58; clear hx59; clear hl60; clear hx61; clear hx62; clear hx63; clear hl64; clear hx65; clear hx66; clear hl67; clear hx68; clear hx69; clear hx70; have HO22 := n1_; clear n1_; have HO30 := n2_; clear n2_; have HO42 := n3_; clear n3_; have HX1 := n4_; clear n4_; have HX27 := n5_; clear n5_; have HX39 := n6_; clear n6_; have HX54 := n7_; clear n7_; have HB := n8_; clear n8_; have HO73 := Aside0.mk (Kd.S_lower (base' := w.heap.size) (Kd.S_mono (Kd.S_bound ho0_) (ok' := fun k_ => w6.heap.size ≤ k_ ∧ k_ < w7.heap.size) (fun k_ hk_ => ⟨by have h_ := hk_.2.1; (try simp at h_); omega, hk_.2.2.1⟩)) (by have := CC.out; first | omega | (simp; done) | (simp; omega))); obtain ⟨Az74, cz74, ez74⟩ := Kd.S_slice HO73.out; subst ez74; (try clear hb); (try clear ho0_); have hl75 : w.heap.size < w7.heap.size := blk_lt HX1.out; have hx76 : w7.cell? ⟨w.heap.size, 0, none⟩ = some (.int .i64 a0_0) := (blk_cell HX1.out 0).trans rfl; have hx77 : w7.cell? ⟨w.heap.size, 1, none⟩ = some (.slice A0_1 l0_1.length c0_1) := (blk_cell HX1.out 1).trans rfl; have hl78 : w3.heap.size < w7.heap.size := blk_lt HX27.out; have hx79 : w7.cell? ⟨w3.heap.size, 0, none⟩ = some (.int .i64 r16) := (blk_cell HX27.out 0).trans rfl; have hx80 : w7.cell? ⟨w3.heap.size, 1, none⟩ = some (.int .i64 r17) := (blk_cell HX27.out 1).trans rfl; have hx81 : w7.cell? ⟨w3.heap.size, 2, none⟩ = some (.slice Az23 r18.length cz23) := (blk_cell HX27.out 2).trans rfl; have hl82 : w4.heap.size < w7.heap.size := blk_lt HX39.out; have hx83 : w7.cell? ⟨w4.heap.size, 0, none⟩ = some (.int .i64 a0_0) := (blk_cell HX39.out 0).trans rfl; have hx84 : w7.cell? ⟨w4.heap.size, 1, none⟩ = some (.slice Az31 l0_1.length cz31) := (blk_cell HX39.out 1).trans rfl; have hl85 : w5.heap.size < w7.heap.size := blk_lt HX54.out; have hx86 : w7.cell? ⟨w5.heap.size, 0, none⟩ = some (.int .i64 r16) := (blk_cell HX54.out 0).trans rfl; have hx87 : w7.cell? ⟨w5.heap.size, 1, none⟩ = some (.int .i64 r17) := (blk_cell HX54.out 1).trans rfl; have hx88 : w7.cell? ⟨w5.heap.size, 2, none⟩ = some (.slice Az43 r18.length cz43) := (blk_cell HX54.out 2).trans rfl) | (go_at_call 41; (with_reducible refine (laws_eqFamily.calls k a0_0 _ _ l0_1 a0_0 _ _ l0_1 true _ ?side1 ?side2 ?side3 ?side4 A89.out).mono ?_); (case side1 => exact (Kd.S_reads' (n := l0_1.length) (A := Az31) (c := cz31) (by (with_reducible repeat (first | apply Kd.S_alloc | apply Kd.S_drewN | apply Kd.S_drew)); exact HO30.out)).2.2); (case side2 => exact (Kd.S_reads' (n := l0_1.length) (A := Az31) (c := cz31) HO30.out).2.1); (case side3 => exact (Kd.S_reads' (n := l0_1.length) (A := Az74) (c := cz74) (by (with_reducible repeat (first | apply Kd.S_alloc | apply Kd.S_drewN | apply Kd.S_drew)); exact HO73.out)).2.2); (case side4 => exact (Kd.S_reads' (n := l0_1.length) (A := Az74) (c := cz74) HO73.out).2.1); rintro e w8 ⟨rfl, hb⟩; have n1_ := Aside0.mk (Kd.G_below (by (with_reducible repeat (first | apply Kd.G_alloc | apply Kd.G_drewN | apply Kd.G_drew)); exact HO22.out) hb); have n2_ := Aside0.mk (Kd.S_below (by (with_reducible repeat (first | apply Kd.S_alloc | apply Kd.S_drewN | apply Kd.S_drew)); exact HO30.out) hb); have n3_ := Aside0.mk (Kd.G_below (by (with_reducible repeat (first | apply Kd.G_alloc | apply Kd.G_drewN | apply Kd.G_drew)); exact HO42.out) hb); have n4_ := Aside0.mk (Kd.S_below (by (with_reducible repeat (first | apply Kd.S_alloc | apply Kd.S_drewN | apply Kd.S_drew)); exact HO73.out) hb); have n5_ := Aside0.mk (blk_below (g := w.heap.size) (o := .cells #[.int .i64 a0_0, .slice A0_1 l0_1.length c0_1] 50 (0, 0)) (by (with_reducible repeat (first | refine blk_drewN ?_ _ | refine blk_drew ?_ | refine blk_alloc ?_ _)); exact HX1.out) hb); have n6_ := Aside0.mk (blk_below (g := w3.heap.size) (o := .cells #[.int .i64 r16, .int .i64 r17, .slice Az23 r18.length cz23] 29 (0, 0)) (by (with_reducible repeat (first | refine blk_drewN ?_ _ | refine blk_drew ?_ | refine blk_alloc ?_ _)); exact HX27.out) hb); have n7_ := Aside0.mk (blk_below (g := w4.heap.size) (o := .cells #[.int .i64 a0_0, .slice Az31 l0_1.length cz31] 53 (0, 0)) (by (with_reducible repeat (first | refine blk_drewN ?_ _ | refine blk_drew ?_ | refine blk_alloc ?_ _)); exact HX39.out) hb); have n8_ := Aside0.mk (blk_below (g := w5.heap.size) (o := .cells #[.int .i64 r16, .int .i64 r17, .slice Az43 r18.length cz43] 29 (0, 0)) (by (with_reducible repeat (first | refine blk_drewN ?_ _ | refine blk_drew ?_ | refine blk_alloc ?_ _)); exact HX54.out) hb); have n9_ := Aside0.mk (below_step (by repeat (first | (with_reducible first | exact HB.out | apply below_alloc | apply pw_below_drewN | apply below_drew1) | exact HB.out)) hb); have C90 : Aside0 (w7.heap.size ≤ w8.heap.size) := ⟨by have h_ := hb.size; (try simp at h_); omega⟩; have CCn_ := Aside0.mk (And.intro CC.out C90.out); clear CC; have CC := CCn_; clear CCn_; clear HO22; clear HO30; clear HO42; clear HO73; clear HX1; clear HX27; clear HX39; clear HX54; clear HB; clear hl75; clear hx76; clear hx77; clear hl78; clear hx79; clear hx80; clear hx81; clear hl82; clear hx83; clear hx84; clear hl85; clear hx86; clear hx87; clear hx88; have HO22 := n1_; clear n1_; have HO30 := n2_; clear n2_; have HO42 := n3_; clear n3_; have HO73 := n4_; clear n4_; have HX1 := n5_; clear n5_; have HX27 := n6_; clear n6_; have HX39 := n7_; clear n7_; have HX54 := n8_; clear n8_; have HB := n9_; clear n9_; (try clear hb); have hl91 : w.heap.size < w8.heap.size := blk_lt HX1.out; have hx92 : w8.cell? ⟨w.heap.size, 0, none⟩ = some (.int .i64 a0_0) := (blk_cell HX1.out 0).trans rfl; have hx93 : w8.cell? ⟨w.heap.size, 1, none⟩ = some (.slice A0_1 l0_1.length c0_1) := (blk_cell HX1.out 1).trans rfl; have hl94 : w3.heap.size < w8.heap.size := blk_lt HX27.out; have hx95 : w8.cell? ⟨w3.heap.size, 0, none⟩ = some (.int .i64 r16) := (blk_cell HX27.out 0).trans rfl; have hx96 : w8.cell? ⟨w3.heap.size, 1, none⟩ = some (.int .i64 r17) := (blk_cell HX27.out 1).trans rfl; have hx97 : w8.cell? ⟨w3.heap.size, 2, none⟩ = some (.slice Az23 r18.length cz23) := (blk_cell HX27.out 2).trans rfl; have hl98 : w4.heap.size < w8.heap.size := blk_lt HX39.out; have hx99 : w8.cell? ⟨w4.heap.size, 0, none⟩ = some (.int .i64 a0_0) := (blk_cell HX39.out 0).trans rfl; have hx100 : w8.cell? ⟨w4.heap.size, 1, none⟩ = some (.slice Az31 l0_1.length cz31) := (blk_cell HX39.out 1).trans rfl; have hl101 : w5.heap.size < w8.heap.size := blk_lt HX54.out; have hx102 : w8.cell? ⟨w5.heap.size, 0, none⟩ = some (.int .i64 r16) := (blk_cell HX54.out 0).trans rfl; have hx103 : w8.cell? ⟨w5.heap.size, 1, none⟩ = some (.int .i64 r17) := (blk_cell HX54.out 1).trans rfl; have hx104 : w8.cell? ⟨w5.heap.size, 2, none⟩ = some (.slice Az43 r18.length cz43) := (blk_cell HX54.out 2).trans rfl))
  go_wp2_with (first | ((with_reducible refine gate_callee (f := 42) rfl ?_); refine goesL_ (some 48) rfl rfl Try.func42 (by kernel_rfl) rfl #[.agg #[.int .i64 a0_0, .slice Az31 l0_1.length cz31], .int .i64 1] rfl (by (try simp only [List.map_toArray, List.map_cons, List.map_nil]); first | done | rfl | (simp only [List.length_drop, List.length_take]; rfl)) ?_; (with_reducible refine (laws_markFamily.callsM k a0_0 (fun k_ => w3.heap.size + 1 ≤ k_ ∧ k_ < w4.heap.size) (.slice Az31 l0_1.length cz31) l0_1 1 m105 ys106 w _ ?side1 ?side2 A107.out).mono ?_); (case side1 => repeat (first | (with_reducible first | exact HB.out | apply below_alloc | apply pw_below_drewN | apply below_drew1) | exact HB.out)); (case side2 => exact (by (with_reducible repeat (first | apply Kd.S_alloc | apply Kd.S_drewN | apply Kd.S_drew)); exact HO30.out)); rintro e w9 ⟨rfl, hm0_, hbk, hk⟩; refine ⟨_, rfl, ?_⟩; have n1_ := Aside0.mk (Kd.G_kept (by (with_reducible repeat (first | apply Kd.G_alloc | apply Kd.G_drewN | apply Kd.G_drew)); exact HO22.out) hk (fun k_ hk_ hs_ => by have := CC.out; have h1_ := hk_; have h2_ := hs_; omega)); have n2_ := Aside0.mk (Kd.G_kept (by (with_reducible repeat (first | apply Kd.G_alloc | apply Kd.G_drewN | apply Kd.G_drew)); exact HO42.out) hk (fun k_ hk_ hs_ => by have := CC.out; have h1_ := hk_; have h2_ := hs_; omega)); have n3_ := Aside0.mk (blk_kept (g := w.heap.size) (o := .cells #[.int .i64 a0_0, .slice A0_1 l0_1.length c0_1] 50 (0, 0)) (by (with_reducible repeat (first | refine blk_drewN ?_ _ | refine blk_drew ?_ | refine blk_alloc ?_ _)); exact HX1.out) hk (fun hs_ => by have := CC.out; have h2_ := hs_; omega)); have n4_ := Aside0.mk (blk_kept (g := w3.heap.size) (o := .cells #[.int .i64 r16, .int .i64 r17, .slice Az23 r18.length cz23] 29 (0, 0)) (by (with_reducible repeat (first | refine blk_drewN ?_ _ | refine blk_drew ?_ | refine blk_alloc ?_ _)); exact HX27.out) hk (fun hs_ => by have := CC.out; have h2_ := hs_; omega)); have n5_ := Aside0.mk (blk_kept (g := w4.heap.size) (o := .cells #[.int .i64 a0_0, .slice Az31 l0_1.length cz31] 53 (0, 0)) (by (with_reducible repeat (first | refine blk_drewN ?_ _ | refine blk_drew ?_ | refine blk_alloc ?_ _)); exact HX39.out) hk (fun hs_ => by have := CC.out; have h2_ := hs_; omega)); have n6_ := Aside0.mk (blk_kept (g := w5.heap.size) (o := .cells #[.int .i64 r16, .int .i64 r17, .slice Az43 r18.length cz43] 29 (0, 0)) (by (with_reducible repeat (first | refine blk_drewN ?_ _ | refine blk_drew ?_ | refine blk_alloc ?_ _)); exact HX54.out) hk (fun hs_ => by have := CC.out; have h2_ := hs_; omega)); have n7_ := Aside0.mk (hbk); have C108 : Aside0 (w8.heap.size ≤ w9.heap.size) := ⟨by have h_ := hk.1; (try simp at h_); omega⟩; have CCn_ := Aside0.mk (And.intro CC.out C108.out); clear CC; have CC := CCn_; clear CCn_; clear HO22; clear HO42; clear HX1; clear HX27; clear HX39; clear HX54; clear HB; clear hl91; clear hx92; clear hx93; clear hl94; clear hx95; clear hx96; clear hx97; clear hl98; clear hx99; clear hx100; clear hl101; clear hx102; clear hx103; clear hx104; have HO22 := n1_; clear n1_; have HO42 := n2_; clear n2_; have HX1 := n3_; clear n3_; have HX27 := n4_; clear n4_; have HX39 := n5_; clear n5_; have HX54 := n6_; clear n6_; have HB := n7_; clear n7_; clear HO30; have HO30 := Aside0.mk hm0_; (try clear hk); (try clear hbk); (try clear hm0_); have hl109 : w.heap.size < w9.heap.size := blk_lt HX1.out; have hx110 : w9.cell? ⟨w.heap.size, 0, none⟩ = some (.int .i64 a0_0) := (blk_cell HX1.out 0).trans rfl; have hx111 : w9.cell? ⟨w.heap.size, 1, none⟩ = some (.slice A0_1 l0_1.length c0_1) := (blk_cell HX1.out 1).trans rfl; have hl112 : w3.heap.size < w9.heap.size := blk_lt HX27.out; have hx113 : w9.cell? ⟨w3.heap.size, 0, none⟩ = some (.int .i64 r16) := (blk_cell HX27.out 0).trans rfl; have hx114 : w9.cell? ⟨w3.heap.size, 1, none⟩ = some (.int .i64 r17) := (blk_cell HX27.out 1).trans rfl; have hx115 : w9.cell? ⟨w3.heap.size, 2, none⟩ = some (.slice Az23 r18.length cz23) := (blk_cell HX27.out 2).trans rfl; have hl116 : w4.heap.size < w9.heap.size := blk_lt HX39.out; have hx117 : w9.cell? ⟨w4.heap.size, 0, none⟩ = some (.int .i64 a0_0) := (blk_cell HX39.out 0).trans rfl; have hx118 : w9.cell? ⟨w4.heap.size, 1, none⟩ = some (.slice Az31 l0_1.length cz31) := (blk_cell HX39.out 1).trans rfl; have hl119 : w5.heap.size < w9.heap.size := blk_lt HX54.out; have hx120 : w9.cell? ⟨w5.heap.size, 0, none⟩ = some (.int .i64 r16) := (blk_cell HX54.out 0).trans rfl; have hx121 : w9.cell? ⟨w5.heap.size, 1, none⟩ = some (.int .i64 r17) := (blk_cell HX54.out 1).trans rfl; have hx122 : w9.cell? ⟨w5.heap.size, 2, none⟩ = some (.slice Az43 r18.length cz43) := (blk_cell HX54.out 2).trans rfl) | (go_at_call 16; (with_reducible refine (laws_eqGate.calls k r16 r17 _ _ r18 r16 r17 _ _ r18 true _ ?side1 ?side2 ?side3 ?side4 A124.out).mono ?_); (case side1 => exact (Kd.G_reads' (n := r18.length) (A := Az43) (c := cz43) (by (with_reducible repeat (first | apply Kd.G_alloc | apply Kd.G_drewN | apply Kd.G_drew)); exact HO42.out)).2.2); (case side2 => exact (Kd.G_reads' (n := r18.length) (A := Az43) (c := cz43) HO42.out).2.1); (case side3 => exact (Kd.G_reads' (n := r18.length) (A := Az23) (c := cz23) (by (with_reducible repeat (first | apply Kd.G_alloc | apply Kd.G_drewN | apply Kd.G_drew)); exact HO22.out)).2.2); (case side4 => exact (Kd.G_reads' (n := r18.length) (A := Az23) (c := cz23) HO22.out).2.1); rintro e w10 ⟨rfl, hb⟩; have n1_ := Aside0.mk (Kd.G_below (by (with_reducible repeat (first | apply Kd.G_alloc | apply Kd.G_drewN | apply Kd.G_drew)); exact HO22.out) hb); have n2_ := Aside0.mk (Kd.S_below (by (with_reducible repeat (first | apply Kd.S_alloc | apply Kd.S_drewN | apply Kd.S_drew)); exact HO30.out) hb); have n3_ := Aside0.mk (Kd.G_below (by (with_reducible repeat (first | apply Kd.G_alloc | apply Kd.G_drewN | apply Kd.G_drew)); exact HO42.out) hb); have n4_ := Aside0.mk (blk_below (g := w.heap.size) (o := .cells #[.int .i64 a0_0, .slice A0_1 l0_1.length c0_1] 50 (0, 0)) (by (with_reducible repeat (first | refine blk_drewN ?_ _ | refine blk_drew ?_ | refine blk_alloc ?_ _)); exact HX1.out) hb); have n5_ := Aside0.mk (blk_below (g := w3.heap.size) (o := .cells #[.int .i64 r16, .int .i64 r17, .slice Az23 r18.length cz23] 29 (0, 0)) (by (with_reducible repeat (first | refine blk_drewN ?_ _ | refine blk_drew ?_ | refine blk_alloc ?_ _)); exact HX27.out) hb); have n6_ := Aside0.mk (blk_below (g := w4.heap.size) (o := .cells #[.int .i64 a0_0, .slice Az31 l0_1.length cz31] 53 (0, 0)) (by (with_reducible repeat (first | refine blk_drewN ?_ _ | refine blk_drew ?_ | refine blk_alloc ?_ _)); exact HX39.out) hb); have n7_ := Aside0.mk (blk_below (g := w5.heap.size) (o := .cells #[.int .i64 r16, .int .i64 r17, .slice Az43 r18.length cz43] 29 (0, 0)) (by (with_reducible repeat (first | refine blk_drewN ?_ _ | refine blk_drew ?_ | refine blk_alloc ?_ _)); exact HX54.out) hb); have n8_ := Aside0.mk (below_step (by repeat (first | (with_reducible first | exact HB.out | apply below_alloc | apply pw_below_drewN | apply below_drew1) | exact HB.out)) hb); have C125 : Aside0 (w9.heap.size ≤ w10.heap.size) := ⟨by have h_ := hb.size; (try simp at h_); omega⟩; have CCn_ := Aside0.mk (And.intro CC.out C125.out); clear CC; have CC := CCn_; clear CCn_; clear HO22; clear HO30; clear HO42; clear HX1; clear HX27; clear HX39; clear HX54; clear HB; clear hl109; clear hx110; clear hx111; clear hl112; clear hx113; clear hx114; clear hx115; clear hl116; clear hx117; clear hx118; clear hl119; clear hx120; clear hx121; clear hx122; have HO22 := n1_; clear n1_; have HO30 := n2_; clear n2_; have HO42 := n3_; clear n3_; have HX1 := n4_; clear n4_; have HX27 := n5_; clear n5_; have HX39 := n6_; clear n6_; have HX54 := n7_; clear n7_; have HB := n8_; clear n8_; (try clear hb); have hl126 : w.heap.size < w10.heap.size := blk_lt HX1.out; have hx127 : w10.cell? ⟨w.heap.size, 0, none⟩ = some (.int .i64 a0_0) := (blk_cell HX1.out 0).trans rfl; have hx128 : w10.cell? ⟨w.heap.size, 1, none⟩ = some (.slice A0_1 l0_1.length c0_1) := (blk_cell HX1.out 1).trans rfl; have hl129 : w3.heap.size < w10.heap.size := blk_lt HX27.out; have hx130 : w10.cell? ⟨w3.heap.size, 0, none⟩ = some (.int .i64 r16) := (blk_cell HX27.out 0).trans rfl; have hx131 : w10.cell? ⟨w3.heap.size, 1, none⟩ = some (.int .i64 r17) := (blk_cell HX27.out 1).trans rfl; have hx132 : w10.cell? ⟨w3.heap.size, 2, none⟩ = some (.slice Az23 r18.length cz23) := (blk_cell HX27.out 2).trans rfl; have hl133 : w4.heap.size < w10.heap.size := blk_lt HX39.out; have hx134 : w10.cell? ⟨w4.heap.size, 0, none⟩ = some (.int .i64 a0_0) := (blk_cell HX39.out 0).trans rfl; have hx135 : w10.cell? ⟨w4.heap.size, 1, none⟩ = some (.slice Az31 l0_1.length cz31) := (blk_cell HX39.out 1).trans rfl; have hl136 : w5.heap.size < w10.heap.size := blk_lt HX54.out; have hx137 : w10.cell? ⟨w5.heap.size, 0, none⟩ = some (.int .i64 r16) := (blk_cell HX54.out 0).trans rfl; have hx138 : w10.cell? ⟨w5.heap.size, 1, none⟩ = some (.int .i64 r17) := (blk_cell HX54.out 1).trans rfl; have hx139 : w10.cell? ⟨w5.heap.size, 2, none⟩ = some (.slice Az43 r18.length cz43) := (blk_cell HX54.out 2).trans rfl) | ((with_reducible refine gate_callee (f := 23) rfl ?_); refine goesL_ (some 64) rfl rfl Try.func23 (by kernel_rfl) rfl #[.agg #[.int .i64 r16, .int .i64 r17, .slice Az43 r18.length cz43], .int .i64 1] rfl (by (try simp only [List.map_toArray, List.map_cons, List.map_nil]); first | done | rfl | (simp only [List.length_drop, List.length_take]; rfl)) ?_; (with_reducible refine (laws_markGate.callsM k r16 r17 (fun k_ => w4.heap.size + 1 ≤ k_ ∧ k_ < w5.heap.size) (.slice Az43 r18.length cz43) r18 1 m140 ys141 w _ ?side1 ?side2 A142.out).mono ?_); (case side1 => repeat (first | (with_reducible first | exact HB.out | apply below_alloc | apply pw_below_drewN | apply below_drew1) | exact HB.out)); (case side2 => exact (by (with_reducible repeat (first | apply Kd.G_alloc | apply Kd.G_drewN | apply Kd.G_drew)); exact HO42.out)); rintro e w11 ⟨rfl, hm0_, hbk, hk⟩; refine ⟨_, rfl, ?_⟩; have n1_ := Aside0.mk (Kd.G_kept (by (with_reducible repeat (first | apply Kd.G_alloc | apply Kd.G_drewN | apply Kd.G_drew)); exact HO22.out) hk (fun k_ hk_ hs_ => by have := CC.out; have h1_ := hk_; have h2_ := hs_; omega)); have n2_ := Aside0.mk (Kd.S_kept (by (with_reducible repeat (first | apply Kd.S_alloc | apply Kd.S_drewN | apply Kd.S_drew)); exact HO30.out) hk (fun k_ hk_ hs_ => by have := CC.out; have h1_ := hk_; have h2_ := hs_; omega)); have n3_ := Aside0.mk (blk_kept (g := w.heap.size) (o := .cells #[.int .i64 a0_0, .slice A0_1 l0_1.length c0_1] 50 (0, 0)) (by (with_reducible repeat (first | refine blk_drewN ?_ _ | refine blk_drew ?_ | refine blk_alloc ?_ _)); exact HX1.out) hk (fun hs_ => by have := CC.out; have h2_ := hs_; omega)); have n4_ := Aside0.mk (blk_kept (g := w3.heap.size) (o := .cells #[.int .i64 r16, .int .i64 r17, .slice Az23 r18.length cz23] 29 (0, 0)) (by (with_reducible repeat (first | refine blk_drewN ?_ _ | refine blk_drew ?_ | refine blk_alloc ?_ _)); exact HX27.out) hk (fun hs_ => by have := CC.out; have h2_ := hs_; omega)); have n5_ := Aside0.mk (blk_kept (g := w4.heap.size) (o := .cells #[.int .i64 a0_0, .slice Az31 l0_1.length cz31] 53 (0, 0)) (by (with_reducible repeat (first | refine blk_drewN ?_ _ | refine blk_drew ?_ | refine blk_alloc ?_ _)); exact HX39.out) hk (fun hs_ => by have := CC.out; have h2_ := hs_; omega)); have n6_ := Aside0.mk (blk_kept (g := w5.heap.size) (o := .cells #[.int .i64 r16, .int .i64 r17, .slice Az43 r18.length cz43] 29 (0, 0)) (by (with_reducible repeat (first | refine blk_drewN ?_ _ | refine blk_drew ?_ | refine blk_alloc ?_ _)); exact HX54.out) hk (fun hs_ => by have := CC.out; have h2_ := hs_; omega)); have n7_ := Aside0.mk (hbk); have C143 : Aside0 (w10.heap.size ≤ w11.heap.size) := ⟨by have h_ := hk.1; (try simp at h_); omega⟩; have CCn_ := Aside0.mk (And.intro CC.out C143.out); clear CC; have CC := CCn_; clear CCn_; clear HO22; clear HO30; clear HX1; clear HX27; clear HX39; clear HX54; clear HB; clear hl126; clear hx127; clear hx128; clear hl129; clear hx130; clear hx131; clear hx132; clear hl133; clear hx134; clear hx135; clear hl136; clear hx137; clear hx138; clear hx139; have HO22 := n1_; clear n1_; have HO30 := n2_; clear n2_; have HX1 := n3_; clear n3_; have HX27 := n4_; clear n4_; have HX39 := n5_; clear n5_; have HX54 := n6_; clear n6_; have HB := n7_; clear n7_; clear HO42; have HO42 := Aside0.mk hm0_; (try clear hk); (try clear hbk); (try clear hm0_); have hl144 : w.heap.size < w11.heap.size := blk_lt HX1.out; have hx145 : w11.cell? ⟨w.heap.size, 0, none⟩ = some (.int .i64 a0_0) := (blk_cell HX1.out 0).trans rfl; have hx146 : w11.cell? ⟨w.heap.size, 1, none⟩ = some (.slice A0_1 l0_1.length c0_1) := (blk_cell HX1.out 1).trans rfl; have hl147 : w3.heap.size < w11.heap.size := blk_lt HX27.out; have hx148 : w11.cell? ⟨w3.heap.size, 0, none⟩ = some (.int .i64 r16) := (blk_cell HX27.out 0).trans rfl; have hx149 : w11.cell? ⟨w3.heap.size, 1, none⟩ = some (.int .i64 r17) := (blk_cell HX27.out 1).trans rfl; have hx150 : w11.cell? ⟨w3.heap.size, 2, none⟩ = some (.slice Az23 r18.length cz23) := (blk_cell HX27.out 2).trans rfl; have hl151 : w4.heap.size < w11.heap.size := blk_lt HX39.out; have hx152 : w11.cell? ⟨w4.heap.size, 0, none⟩ = some (.int .i64 a0_0) := (blk_cell HX39.out 0).trans rfl; have hx153 : w11.cell? ⟨w4.heap.size, 1, none⟩ = some (.slice Az31 l0_1.length cz31) := (blk_cell HX39.out 1).trans rfl; have hl154 : w5.heap.size < w11.heap.size := blk_lt HX54.out; have hx155 : w11.cell? ⟨w5.heap.size, 0, none⟩ = some (.int .i64 r16) := (blk_cell HX54.out 0).trans rfl; have hx156 : w11.cell? ⟨w5.heap.size, 1, none⟩ = some (.int .i64 r17) := (blk_cell HX54.out 1).trans rfl; have hx157 : w11.cell? ⟨w5.heap.size, 2, none⟩ = some (.slice Az43 r18.length cz43) := (blk_cell HX54.out 2).trans rfl) | ((with_reducible refine gate_callee (f := 24) rfl ?_); refine goesL_ (some 67) rfl rfl Try.func24 (by kernel_rfl) rfl #[.agg #[.int .i64 r16, .int .i64 r17, .slice Az43 r18.length cz43], .int .i64 1] rfl (by (try simp only [List.map_toArray, List.map_cons, List.map_nil]); first | done | rfl | (simp only [List.length_drop, List.length_take]; rfl)) ?_; (with_reducible refine (calls_as ?eq_ (laws_heldGate.calls k r16 r17 Az43 cz43 ys141 1 m140 _ ?side1 ?side2 A158.out)).mono ?_); (case eq_ => rw [show ys141.length = r18.length from (Kd.G_reads' HO42.out).1.symm]); (case side1 => exact (Kd.G_reads' (n := r18.length) (A := Az43) (c := cz43) (by (with_reducible repeat (first | apply Kd.G_alloc | apply Kd.G_drewN | apply Kd.G_drew)); exact HO42.out)).2.2); (case side2 => exact Nat.le_trans (Nat.le_of_eq (Kd.G_reads' HO42.out).1.symm) (Kd.G_reads' HO42.out).2.1); rintro e w12 ⟨rfl, hb⟩; refine ⟨_, rfl, ?_⟩; have n1_ := Aside0.mk (Kd.G_below (by (with_reducible repeat (first | apply Kd.G_alloc | apply Kd.G_drewN | apply Kd.G_drew)); exact HO22.out) hb); have n2_ := Aside0.mk (Kd.S_below (by (with_reducible repeat (first | apply Kd.S_alloc | apply Kd.S_drewN | apply Kd.S_drew)); exact HO30.out) hb); have n3_ := Aside0.mk (Kd.G_below (by (with_reducible repeat (first | apply Kd.G_alloc | apply Kd.G_drewN | apply Kd.G_drew)); exact HO42.out) hb); have n4_ := Aside0.mk (blk_below (g := w.heap.size) (o := .cells #[.int .i64 a0_0, .slice A0_1 l0_1.length c0_1] 50 (0, 0)) (by (with_reducible repeat (first | refine blk_drewN ?_ _ | refine blk_drew ?_ | refine blk_alloc ?_ _)); exact HX1.out) hb); have n5_ := Aside0.mk (blk_below (g := w3.heap.size) (o := .cells #[.int .i64 r16, .int .i64 r17, .slice Az23 r18.length cz23] 29 (0, 0)) (by (with_reducible repeat (first | refine blk_drewN ?_ _ | refine blk_drew ?_ | refine blk_alloc ?_ _)); exact HX27.out) hb); have n6_ := Aside0.mk (blk_below (g := w4.heap.size) (o := .cells #[.int .i64 a0_0, .slice Az31 l0_1.length cz31] 53 (0, 0)) (by (with_reducible repeat (first | refine blk_drewN ?_ _ | refine blk_drew ?_ | refine blk_alloc ?_ _)); exact HX39.out) hb); have n7_ := Aside0.mk (blk_below (g := w5.heap.size) (o := .cells #[.int .i64 r16, .int .i64 r17, .slice Az43 r18.length cz43] 29 (0, 0)) (by (with_reducible repeat (first | refine blk_drewN ?_ _ | refine blk_drew ?_ | refine blk_alloc ?_ _)); exact HX54.out) hb); have n8_ := Aside0.mk (below_step (by repeat (first | (with_reducible first | exact HB.out | apply below_alloc | apply pw_below_drewN | apply below_drew1) | exact HB.out)) hb); have C159 : Aside0 (w11.heap.size ≤ w12.heap.size) := ⟨by have h_ := hb.size; (try simp at h_); omega⟩; have CCn_ := Aside0.mk (And.intro CC.out C159.out); clear CC; have CC := CCn_; clear CCn_; clear HO22; clear HO30; clear HO42; clear HX1; clear HX27; clear HX39; clear HX54; clear HB; clear hl144; clear hx145; clear hx146; clear hl147; clear hx148; clear hx149; clear hx150; clear hl151; clear hx152; clear hx153; clear hl154; clear hx155; clear hx156; clear hx157; have HO22 := n1_; clear n1_; have HO30 := n2_; clear n2_; have HO42 := n3_; clear n3_; have HX1 := n4_; clear n4_; have HX27 := n5_; clear n5_; have HX39 := n6_; clear n6_; have HX54 := n7_; clear n7_; have HB := n8_; clear n8_; (try clear hb); have hl160 : w.heap.size < w12.heap.size := blk_lt HX1.out; have hx161 : w12.cell? ⟨w.heap.size, 0, none⟩ = some (.int .i64 a0_0) := (blk_cell HX1.out 0).trans rfl; have hx162 : w12.cell? ⟨w.heap.size, 1, none⟩ = some (.slice A0_1 l0_1.length c0_1) := (blk_cell HX1.out 1).trans rfl; have hl163 : w3.heap.size < w12.heap.size := blk_lt HX27.out; have hx164 : w12.cell? ⟨w3.heap.size, 0, none⟩ = some (.int .i64 r16) := (blk_cell HX27.out 0).trans rfl; have hx165 : w12.cell? ⟨w3.heap.size, 1, none⟩ = some (.int .i64 r17) := (blk_cell HX27.out 1).trans rfl; have hx166 : w12.cell? ⟨w3.heap.size, 2, none⟩ = some (.slice Az23 r18.length cz23) := (blk_cell HX27.out 2).trans rfl; have hl167 : w4.heap.size < w12.heap.size := blk_lt HX39.out; have hx168 : w12.cell? ⟨w4.heap.size, 0, none⟩ = some (.int .i64 a0_0) := (blk_cell HX39.out 0).trans rfl; have hx169 : w12.cell? ⟨w4.heap.size, 1, none⟩ = some (.slice Az31 l0_1.length cz31) := (blk_cell HX39.out 1).trans rfl; have hl170 : w5.heap.size < w12.heap.size := blk_lt HX54.out; have hx171 : w12.cell? ⟨w5.heap.size, 0, none⟩ = some (.int .i64 r16) := (blk_cell HX54.out 0).trans rfl; have hx172 : w12.cell? ⟨w5.heap.size, 1, none⟩ = some (.int .i64 r17) := (blk_cell HX54.out 1).trans rfl; have hx173 : w12.cell? ⟨w5.heap.size, 2, none⟩ = some (.slice Az43 r18.length cz43) := (blk_cell HX54.out 2).trans rfl) | ((with_reducible refine gate_callee (f := 39) rfl ?_); refine goesL_ (some 75) rfl rfl Try.func39 (by kernel_rfl) rfl #[.agg #[.int .i64 a0_0, .slice A0_1 l0_1.length c0_1]] rfl (by (try simp only [List.map_toArray, List.map_cons, List.map_nil]); first | done | rfl | (simp only [List.length_drop, List.length_take]; rfl)) ?_; (with_reducible refine (laws_toFamily.calls k a0_0 _ _ l0_1 a0_0 l0_1 _ ?side1 ?side2 A175.out).mono ?_); (case side1 => exact Kd.C_below HR0_1.out (by repeat (first | (with_reducible first | exact HB.out | apply below_alloc | apply pw_below_drewN | apply below_drew1) | exact HB.out))); (case side2 => exact HC0_1.out); rintro e w13 ⟨v100_, rfl, ho0_, hb⟩; refine ⟨_, rfl, ?_⟩; have n1_ := Aside0.mk (Kd.G_below (by (with_reducible repeat (first | apply Kd.G_alloc | apply Kd.G_drewN | apply Kd.G_drew)); exact HO22.out) hb); have n2_ := Aside0.mk (Kd.S_below (by (with_reducible repeat (first | apply Kd.S_alloc | apply Kd.S_drewN | apply Kd.S_drew)); exact HO30.out) hb); have n3_ := Aside0.mk (Kd.G_below (by (with_reducible repeat (first | apply Kd.G_alloc | apply Kd.G_drewN | apply Kd.G_drew)); exact HO42.out) hb); have n4_ := Aside0.mk (blk_below (g := w.heap.size) (o := .cells #[.int .i64 a0_0, .slice A0_1 l0_1.length c0_1] 50 (0, 0)) (by (with_reducible repeat (first | refine blk_drewN ?_ _ | refine blk_drew ?_ | refine blk_alloc ?_ _)); exact HX1.out) hb); have n5_ := Aside0.mk (blk_below (g := w3.heap.size) (o := .cells #[.int .i64 r16, .int .i64 r17, .slice Az23 r18.length cz23] 29 (0, 0)) (by (with_reducible repeat (first | refine blk_drewN ?_ _ | refine blk_drew ?_ | refine blk_alloc ?_ _)); exact HX27.out) hb); have n6_ := Aside0.mk (blk_below (g := w4.heap.size) (o := .cells #[.int .i64 a0_0, .slice Az31 l0_1.length cz31] 53 (0, 0)) (by (with_reducible repeat (first | refine blk_drewN ?_ _ | refine blk_drew ?_ | refine blk_alloc ?_ _)); exact HX39.out) hb); have n7_ := Aside0.mk (blk_below (g := w5.heap.size) (o := .cells #[.int .i64 r16, .int .i64 r17, .slice Az43 r18.length cz43] 29 (0, 0)) (by (with_reducible repeat (first | refine blk_drewN ?_ _ | refine blk_drew ?_ | refine blk_alloc ?_ _)); exact HX54.out) hb); have n8_ := Aside0.mk (below_step (by repeat (first | (with_reducible first | exact HB.out | apply below_alloc | apply pw_below_drewN | apply below_drew1) | exact HB.out)) hb); have C176 : Aside0 (w12.heap.size ≤ w13.heap.size) := ⟨by have h_ := hb.size; (try simp at h_); omega⟩; have CCn_ := Aside0.mk (And.intro CC.out C176.out); clear CC; have CC := CCn_; clear CCn_; clear HO22; clear HO30; clear HO42; clear HX1; clear HX27; clear HX39; clear HX54; clear HB; clear hl160; clear hx161; clear hx162; clear hl163; clear hx164; clear hx165; clear hx166; clear hl167; clear hx168; clear hx169; clear hl170; clear hx171; clear hx172; clear hx173; have HO22 := n1_; clear n1_; have HO30 := n2_; clear n2_; have HO42 := n3_; clear n3_; have HX1 := n4_; clear n4_; have HX27 := n5_; clear n5_; have HX39 := n6_; clear n6_; have HX54 := n7_; clear n7_; have HB := n8_; clear n8_; have HO177 := Aside0.mk (Kd.S_lower (base' := w.heap.size) (Kd.S_mono (Kd.S_bound ho0_) (ok' := fun k_ => w12.heap.size ≤ k_ ∧ k_ < w13.heap.size) (fun k_ hk_ => ⟨by have h_ := hk_.2.1; (try simp at h_); omega, hk_.2.2.1⟩)) (by have := CC.out; first | omega | (simp; done) | (simp; omega))); obtain ⟨Az178, cz178, ez178⟩ := Kd.S_slice HO177.out; subst ez178; (try clear hb); (try clear ho0_); have hl179 : w.heap.size < w13.heap.size := blk_lt HX1.out; have hx180 : w13.cell? ⟨w.heap.size, 0, none⟩ = some (.int .i64 a0_0) := (blk_cell HX1.out 0).trans rfl; have hx181 : w13.cell? ⟨w.heap.size, 1, none⟩ = some (.slice A0_1 l0_1.length c0_1) := (blk_cell HX1.out 1).trans rfl; have hl182 : w3.heap.size < w13.heap.size := blk_lt HX27.out; have hx183 : w13.cell? ⟨w3.heap.size, 0, none⟩ = some (.int .i64 r16) := (blk_cell HX27.out 0).trans rfl; have hx184 : w13.cell? ⟨w3.heap.size, 1, none⟩ = some (.int .i64 r17) := (blk_cell HX27.out 1).trans rfl; have hx185 : w13.cell? ⟨w3.heap.size, 2, none⟩ = some (.slice Az23 r18.length cz23) := (blk_cell HX27.out 2).trans rfl; have hl186 : w4.heap.size < w13.heap.size := blk_lt HX39.out; have hx187 : w13.cell? ⟨w4.heap.size, 0, none⟩ = some (.int .i64 a0_0) := (blk_cell HX39.out 0).trans rfl; have hx188 : w13.cell? ⟨w4.heap.size, 1, none⟩ = some (.slice Az31 l0_1.length cz31) := (blk_cell HX39.out 1).trans rfl; have hl189 : w5.heap.size < w13.heap.size := blk_lt HX54.out; have hx190 : w13.cell? ⟨w5.heap.size, 0, none⟩ = some (.int .i64 r16) := (blk_cell HX54.out 0).trans rfl; have hx191 : w13.cell? ⟨w5.heap.size, 1, none⟩ = some (.int .i64 r17) := (blk_cell HX54.out 1).trans rfl; have hx192 : w13.cell? ⟨w5.heap.size, 2, none⟩ = some (.slice Az43 r18.length cz43) := (blk_cell HX54.out 2).trans rfl) | ((with_reducible refine gate_callee (f := 40) rfl ?_); refine goesL_ (some 76) rfl rfl Try.func40 (by kernel_rfl) rfl #[.agg #[.int .i64 a0_0, .slice Az178 l0_1.length cz178]] rfl (by (try simp only [List.map_toArray, List.map_cons, List.map_nil]); first | done | rfl | (simp only [List.length_drop, List.length_take]; rfl)) ?_; (with_reducible refine (impl_GateOfFamily.calls k a0_0 _ _ l0_1 r16 r17 r18 r19 _ ?side1 ?side2 A193.out).mono ?_); (case side1 => exact (Kd.S_reads' (n := l0_1.length) (A := Az178) (c := cz178) (by (with_reducible repeat (first | apply Kd.S_alloc | apply Kd.S_drewN | apply Kd.S_drew)); exact HO177.out)).2.2); (case side2 => exact (Kd.S_reads' (n := l0_1.length) (A := Az178) (c := cz178) HO177.out).2.1); rintro e w14 ⟨v100_, rfl, ho0_, hb⟩; refine ⟨_, rfl, ?_⟩; have n1_ := Aside0.mk (Kd.G_below (by (with_reducible repeat (first | apply Kd.G_alloc | apply Kd.G_drewN | apply Kd.G_drew)); exact HO22.out) hb); have n2_ := Aside0.mk (Kd.S_below (by (with_reducible repeat (first | apply Kd.S_alloc | apply Kd.S_drewN | apply Kd.S_drew)); exact HO30.out) hb); have n3_ := Aside0.mk (Kd.G_below (by (with_reducible repeat (first | apply Kd.G_alloc | apply Kd.G_drewN | apply Kd.G_drew)); exact HO42.out) hb); have n4_ := Aside0.mk (Kd.S_below (by (with_reducible repeat (first | apply Kd.S_alloc | apply Kd.S_drewN | apply Kd.S_drew)); exact HO177.out) hb); have n5_ := Aside0.mk (blk_below (g := w.heap.size) (o := .cells #[.int .i64 a0_0, .slice A0_1 l0_1.length c0_1] 50 (0, 0)) (by (with_reducible repeat (first | refine blk_drewN ?_ _ | refine blk_drew ?_ | refine blk_alloc ?_ _)); exact HX1.out) hb); have n6_ := Aside0.mk (blk_below (g := w3.heap.size) (o := .cells #[.int .i64 r16, .int .i64 r17, .slice Az23 r18.length cz23] 29 (0, 0)) (by (with_reducible repeat (first | refine blk_drewN ?_ _ | refine blk_drew ?_ | refine blk_alloc ?_ _)); exact HX27.out) hb); have n7_ := Aside0.mk (blk_below (g := w4.heap.size) (o := .cells #[.int .i64 a0_0, .slice Az31 l0_1.length cz31] 53 (0, 0)) (by (with_reducible repeat (first | refine blk_drewN ?_ _ | refine blk_drew ?_ | refine blk_alloc ?_ _)); exact HX39.out) hb); have n8_ := Aside0.mk (blk_below (g := w5.heap.size) (o := .cells #[.int .i64 r16, .int .i64 r17, .slice Az43 r18.length cz43] 29 (0, 0)) (by (with_reducible repeat (first | refine blk_drewN ?_ _ | refine blk_drew ?_ | refine blk_alloc ?_ _)); exact HX54.out) hb); have n9_ := Aside0.mk (below_step (by repeat (first | (with_reducible first | exact HB.out | apply below_alloc | apply pw_below_drewN | apply below_drew1) | exact HB.out)) hb); have C194 : Aside0 (w13.heap.size ≤ w14.heap.size) := ⟨by have h_ := hb.size; (try simp at h_); omega⟩; have CCn_ := Aside0.mk (And.intro CC.out C194.out); clear CC; have CC := CCn_; clear CCn_; clear HO22; clear HO30; clear HO42; clear HO177; clear HX1; clear HX27; clear HX39; clear HX54; clear HB; clear hl179; clear hx180; clear hx181; clear hl182; clear hx183; clear hx184; clear hx185; clear hl186; clear hx187; clear hx188; clear hl189; clear hx190; clear hx191; clear hx192; have HO22 := n1_; clear n1_; have HO30 := n2_; clear n2_; have HO42 := n3_; clear n3_; have HO177 := n4_; clear n4_; have HX1 := n5_; clear n5_; have HX27 := n6_; clear n6_; have HX39 := n7_; clear n7_; have HX54 := n8_; clear n8_; have HB := n9_; clear n9_; have HO195 := Aside0.mk (Kd.G_lower (base' := w.heap.size) (Kd.G_mono (Kd.G_bound ho0_) (ok' := fun k_ => w13.heap.size ≤ k_ ∧ k_ < w14.heap.size) (fun k_ hk_ => ⟨by have h_ := hk_.2.1; (try simp at h_); omega, hk_.2.2.1⟩)) (by have := CC.out; first | omega | (simp; done) | (simp; omega))); obtain ⟨Az196, cz196, ez196⟩ := Kd.G_slice HO195.out; subst ez196; (try clear hb); (try clear ho0_); have hl197 : w.heap.size < w14.heap.size := blk_lt HX1.out; have hx198 : w14.cell? ⟨w.heap.size, 0, none⟩ = some (.int .i64 a0_0) := (blk_cell HX1.out 0).trans rfl; have hx199 : w14.cell? ⟨w.heap.size, 1, none⟩ = some (.slice A0_1 l0_1.length c0_1) := (blk_cell HX1.out 1).trans rfl; have hl200 : w3.heap.size < w14.heap.size := blk_lt HX27.out; have hx201 : w14.cell? ⟨w3.heap.size, 0, none⟩ = some (.int .i64 r16) := (blk_cell HX27.out 0).trans rfl; have hx202 : w14.cell? ⟨w3.heap.size, 1, none⟩ = some (.int .i64 r17) := (blk_cell HX27.out 1).trans rfl; have hx203 : w14.cell? ⟨w3.heap.size, 2, none⟩ = some (.slice Az23 r18.length cz23) := (blk_cell HX27.out 2).trans rfl; have hl204 : w4.heap.size < w14.heap.size := blk_lt HX39.out; have hx205 : w14.cell? ⟨w4.heap.size, 0, none⟩ = some (.int .i64 a0_0) := (blk_cell HX39.out 0).trans rfl; have hx206 : w14.cell? ⟨w4.heap.size, 1, none⟩ = some (.slice Az31 l0_1.length cz31) := (blk_cell HX39.out 1).trans rfl; have hl207 : w5.heap.size < w14.heap.size := blk_lt HX54.out; have hx208 : w14.cell? ⟨w5.heap.size, 0, none⟩ = some (.int .i64 r16) := (blk_cell HX54.out 0).trans rfl; have hx209 : w14.cell? ⟨w5.heap.size, 1, none⟩ = some (.int .i64 r17) := (blk_cell HX54.out 1).trans rfl; have hx210 : w14.cell? ⟨w5.heap.size, 2, none⟩ = some (.slice Az43 r18.length cz43) := (blk_cell HX54.out 2).trans rfl) | ((with_reducible refine gate_callee (f := 16) rfl ?_); refine goesL_ (some 81) rfl rfl Try.func16 (by kernel_rfl) rfl #[.agg #[.int .i64 r16, .int .i64 r17, .slice Az196 r18.length cz196], .agg #[.int .i64 r16, .int .i64 r17, .slice Az23 r18.length cz23]] rfl (by (try simp only [List.map_toArray, List.map_cons, List.map_nil]); first | done | rfl | (simp only [List.length_drop, List.length_take]; rfl)) ?_; (with_reducible refine (laws_eqGate.calls k r16 r17 _ _ r18 r16 r17 _ _ r18 true _ ?side1 ?side2 ?side3 ?side4 A212.out).mono ?_); (case side1 => exact (Kd.G_reads' (n := r18.length) (A := Az196) (c := cz196) (by (with_reducible repeat (first | apply Kd.G_alloc | apply Kd.G_drewN | apply Kd.G_drew)); exact HO195.out)).2.2); (case side2 => exact (Kd.G_reads' (n := r18.length) (A := Az196) (c := cz196) HO195.out).2.1); (case side3 => exact (Kd.G_reads' (n := r18.length) (A := Az23) (c := cz23) (by (with_reducible repeat (first | apply Kd.G_alloc | apply Kd.G_drewN | apply Kd.G_drew)); exact HO22.out)).2.2); (case side4 => exact (Kd.G_reads' (n := r18.length) (A := Az23) (c := cz23) HO22.out).2.1); rintro e w15 ⟨rfl, hb⟩; refine ⟨_, rfl, ?_⟩; have n1_ := Aside0.mk (Kd.G_below (by (with_reducible repeat (first | apply Kd.G_alloc | apply Kd.G_drewN | apply Kd.G_drew)); exact HO22.out) hb); have n2_ := Aside0.mk (Kd.S_below (by (with_reducible repeat (first | apply Kd.S_alloc | apply Kd.S_drewN | apply Kd.S_drew)); exact HO30.out) hb); have n3_ := Aside0.mk (Kd.G_below (by (with_reducible repeat (first | apply Kd.G_alloc | apply Kd.G_drewN | apply Kd.G_drew)); exact HO42.out) hb); have n4_ := Aside0.mk (Kd.G_below (by (with_reducible repeat (first | apply Kd.G_alloc | apply Kd.G_drewN | apply Kd.G_drew)); exact HO195.out) hb); have n5_ := Aside0.mk (blk_below (g := w.heap.size) (o := .cells #[.int .i64 a0_0, .slice A0_1 l0_1.length c0_1] 50 (0, 0)) (by (with_reducible repeat (first | refine blk_drewN ?_ _ | refine blk_drew ?_ | refine blk_alloc ?_ _)); exact HX1.out) hb); have n6_ := Aside0.mk (blk_below (g := w3.heap.size) (o := .cells #[.int .i64 r16, .int .i64 r17, .slice Az23 r18.length cz23] 29 (0, 0)) (by (with_reducible repeat (first | refine blk_drewN ?_ _ | refine blk_drew ?_ | refine blk_alloc ?_ _)); exact HX27.out) hb); have n7_ := Aside0.mk (blk_below (g := w4.heap.size) (o := .cells #[.int .i64 a0_0, .slice Az31 l0_1.length cz31] 53 (0, 0)) (by (with_reducible repeat (first | refine blk_drewN ?_ _ | refine blk_drew ?_ | refine blk_alloc ?_ _)); exact HX39.out) hb); have n8_ := Aside0.mk (blk_below (g := w5.heap.size) (o := .cells #[.int .i64 r16, .int .i64 r17, .slice Az43 r18.length cz43] 29 (0, 0)) (by (with_reducible repeat (first | refine blk_drewN ?_ _ | refine blk_drew ?_ | refine blk_alloc ?_ _)); exact HX54.out) hb); have n9_ := Aside0.mk (blk_below (g := w14.heap.size) (o := .cells #[.int .i64 r16, .int .i64 r17, .slice Az196 r18.length cz196] 29 (0, 0)) (by repeat (first | exact blk_new_at (by simp) | (with_reducible refine blk_drewN ?_ _) | (with_reducible refine blk_drew ?_) | (with_reducible refine blk_alloc ?_ _))) hb); have n10_ := Aside0.mk (below_step (by repeat (first | (with_reducible first | exact HB.out | apply below_alloc | apply pw_below_drewN | apply below_drew1) | exact HB.out)) hb); have C213 : Aside0 (w14.heap.size + 1 ≤ w15.heap.size) := ⟨by have h_ := hb.size; (try simp at h_); omega⟩; have CCn_ := Aside0.mk (And.intro CC.out C213.out); clear CC; have CC := CCn_; clear CCn_; clear HO22; clear HO30; clear HO42; clear HO195; clear HX1; clear HX27; clear HX39; clear HX54; clear HB; clear hl197; clear hx198; clear hx199; clear hl200; clear hx201; clear hx202; clear hx203; clear hl204; clear hx205; clear hx206; clear hl207; clear hx208; clear hx209; clear hx210; have HO22 := n1_; clear n1_; have HO30 := n2_; clear n2_; have HO42 := n3_; clear n3_; have HO195 := n4_; clear n4_; have HX1 := n5_; clear n5_; have HX27 := n6_; clear n6_; have HX39 := n7_; clear n7_; have HX54 := n8_; clear n8_; have HX211 := n9_; clear n9_; have HB := n10_; clear n10_; (try clear hb); have hl214 : w.heap.size < w15.heap.size := blk_lt HX1.out; have hx215 : w15.cell? ⟨w.heap.size, 0, none⟩ = some (.int .i64 a0_0) := (blk_cell HX1.out 0).trans rfl; have hx216 : w15.cell? ⟨w.heap.size, 1, none⟩ = some (.slice A0_1 l0_1.length c0_1) := (blk_cell HX1.out 1).trans rfl; have hl217 : w3.heap.size < w15.heap.size := blk_lt HX27.out; have hx218 : w15.cell? ⟨w3.heap.size, 0, none⟩ = some (.int .i64 r16) := (blk_cell HX27.out 0).trans rfl; have hx219 : w15.cell? ⟨w3.heap.size, 1, none⟩ = some (.int .i64 r17) := (blk_cell HX27.out 1).trans rfl; have hx220 : w15.cell? ⟨w3.heap.size, 2, none⟩ = some (.slice Az23 r18.length cz23) := (blk_cell HX27.out 2).trans rfl; have hl221 : w4.heap.size < w15.heap.size := blk_lt HX39.out; have hx222 : w15.cell? ⟨w4.heap.size, 0, none⟩ = some (.int .i64 a0_0) := (blk_cell HX39.out 0).trans rfl; have hx223 : w15.cell? ⟨w4.heap.size, 1, none⟩ = some (.slice Az31 l0_1.length cz31) := (blk_cell HX39.out 1).trans rfl; have hl224 : w5.heap.size < w15.heap.size := blk_lt HX54.out; have hx225 : w15.cell? ⟨w5.heap.size, 0, none⟩ = some (.int .i64 r16) := (blk_cell HX54.out 0).trans rfl; have hx226 : w15.cell? ⟨w5.heap.size, 1, none⟩ = some (.int .i64 r17) := (blk_cell HX54.out 1).trans rfl; have hx227 : w15.cell? ⟨w5.heap.size, 2, none⟩ = some (.slice Az43 r18.length cz43) := (blk_cell HX54.out 2).trans rfl; have hl228 : w14.heap.size < w15.heap.size := blk_lt HX211.out; have hx229 : w15.cell? ⟨w14.heap.size, 0, none⟩ = some (.int .i64 r16) := (blk_cell HX211.out 0).trans rfl; have hx230 : w15.cell? ⟨w14.heap.size, 1, none⟩ = some (.int .i64 r17) := (blk_cell HX211.out 1).trans rfl; have hx231 : w15.cell? ⟨w14.heap.size, 2, none⟩ = some (.slice Az196 r18.length cz196) := (blk_cell HX211.out 2).trans rfl) | ((with_reducible refine gate_callee (f := 24) rfl ?_); refine goesL_ (some 90) rfl rfl Try.func24 (by kernel_rfl) rfl #[.agg #[.int .i64 r16, .int .i64 r17, .slice Az43 r18.length cz43], .int .i64 1] rfl (by (try simp only [List.map_toArray, List.map_cons, List.map_nil]); first | done | rfl | (simp only [List.length_drop, List.length_take]; rfl)) ?_; (with_reducible refine (calls_as ?eq_ (laws_heldGate.calls k r16 r17 Az43 cz43 ys141 1 m140 _ ?side1 ?side2 A232.out)).mono ?_); (case eq_ => rw [show ys141.length = r18.length from (Kd.G_reads' HO42.out).1.symm]); (case side1 => exact (Kd.G_reads' (n := r18.length) (A := Az43) (c := cz43) (by (with_reducible repeat (first | apply Kd.G_alloc | apply Kd.G_drewN | apply Kd.G_drew)); exact HO42.out)).2.2); (case side2 => exact Nat.le_trans (Nat.le_of_eq (Kd.G_reads' HO42.out).1.symm) (Kd.G_reads' HO42.out).2.1); rintro e w16 ⟨rfl, hb⟩; refine ⟨_, rfl, ?_⟩; have n1_ := Aside0.mk (Kd.G_below (by (with_reducible repeat (first | apply Kd.G_alloc | apply Kd.G_drewN | apply Kd.G_drew)); exact HO22.out) hb); have n2_ := Aside0.mk (Kd.S_below (by (with_reducible repeat (first | apply Kd.S_alloc | apply Kd.S_drewN | apply Kd.S_drew)); exact HO30.out) hb); have n3_ := Aside0.mk (Kd.G_below (by (with_reducible repeat (first | apply Kd.G_alloc | apply Kd.G_drewN | apply Kd.G_drew)); exact HO42.out) hb); have n4_ := Aside0.mk (Kd.G_below (by (with_reducible repeat (first | apply Kd.G_alloc | apply Kd.G_drewN | apply Kd.G_drew)); exact HO195.out) hb); have n5_ := Aside0.mk (blk_below (g := w.heap.size) (o := .cells #[.int .i64 a0_0, .slice A0_1 l0_1.length c0_1] 50 (0, 0)) (by (with_reducible repeat (first | refine blk_drewN ?_ _ | refine blk_drew ?_ | refine blk_alloc ?_ _)); exact HX1.out) hb); have n6_ := Aside0.mk (blk_below (g := w3.heap.size) (o := .cells #[.int .i64 r16, .int .i64 r17, .slice Az23 r18.length cz23] 29 (0, 0)) (by (with_reducible repeat (first | refine blk_drewN ?_ _ | refine blk_drew ?_ | refine blk_alloc ?_ _)); exact HX27.out) hb); have n7_ := Aside0.mk (blk_below (g := w4.heap.size) (o := .cells #[.int .i64 a0_0, .slice Az31 l0_1.length cz31] 53 (0, 0)) (by (with_reducible repeat (first | refine blk_drewN ?_ _ | refine blk_drew ?_ | refine blk_alloc ?_ _)); exact HX39.out) hb); have n8_ := Aside0.mk (blk_below (g := w5.heap.size) (o := .cells #[.int .i64 r16, .int .i64 r17, .slice Az43 r18.length cz43] 29 (0, 0)) (by (with_reducible repeat (first | refine blk_drewN ?_ _ | refine blk_drew ?_ | refine blk_alloc ?_ _)); exact HX54.out) hb); have n9_ := Aside0.mk (blk_below (g := w14.heap.size) (o := .cells #[.int .i64 r16, .int .i64 r17, .slice Az196 r18.length cz196] 29 (0, 0)) (by (with_reducible repeat (first | refine blk_drewN ?_ _ | refine blk_drew ?_ | refine blk_alloc ?_ _)); exact HX211.out) hb); have n10_ := Aside0.mk (below_step (by repeat (first | (with_reducible first | exact HB.out | apply below_alloc | apply pw_below_drewN | apply below_drew1) | exact HB.out)) hb); have C233 : Aside0 (w15.heap.size ≤ w16.heap.size) := ⟨by have h_ := hb.size; (try simp at h_); omega⟩; have CCn_ := Aside0.mk (And.intro CC.out C233.out); clear CC; have CC := CCn_; clear CCn_; clear HO22; clear HO30; clear HO42; clear HO195; clear HX1; clear HX27; clear HX39; clear HX54; clear HX211; clear HB; clear hl214; clear hx215; clear hx216; clear hl217; clear hx218; clear hx219; clear hx220; clear hl221; clear hx222; clear hx223; clear hl224; clear hx225; clear hx226; clear hx227; clear hl228; clear hx229; clear hx230; clear hx231; have HO22 := n1_; clear n1_; have HO30 := n2_; clear n2_; have HO42 := n3_; clear n3_; have HO195 := n4_; clear n4_; have HX1 := n5_; clear n5_; have HX27 := n6_; clear n6_; have HX39 := n7_; clear n7_; have HX54 := n8_; clear n8_; have HX211 := n9_; clear n9_; have HB := n10_; clear n10_; (try clear hb); have hl234 : w.heap.size < w16.heap.size := blk_lt HX1.out; have hx235 : w16.cell? ⟨w.heap.size, 0, none⟩ = some (.int .i64 a0_0) := (blk_cell HX1.out 0).trans rfl; have hx236 : w16.cell? ⟨w.heap.size, 1, none⟩ = some (.slice A0_1 l0_1.length c0_1) := (blk_cell HX1.out 1).trans rfl; have hl237 : w3.heap.size < w16.heap.size := blk_lt HX27.out; have hx238 : w16.cell? ⟨w3.heap.size, 0, none⟩ = some (.int .i64 r16) := (blk_cell HX27.out 0).trans rfl; have hx239 : w16.cell? ⟨w3.heap.size, 1, none⟩ = some (.int .i64 r17) := (blk_cell HX27.out 1).trans rfl; have hx240 : w16.cell? ⟨w3.heap.size, 2, none⟩ = some (.slice Az23 r18.length cz23) := (blk_cell HX27.out 2).trans rfl; have hl241 : w4.heap.size < w16.heap.size := blk_lt HX39.out; have hx242 : w16.cell? ⟨w4.heap.size, 0, none⟩ = some (.int .i64 a0_0) := (blk_cell HX39.out 0).trans rfl; have hx243 : w16.cell? ⟨w4.heap.size, 1, none⟩ = some (.slice Az31 l0_1.length cz31) := (blk_cell HX39.out 1).trans rfl; have hl244 : w5.heap.size < w16.heap.size := blk_lt HX54.out; have hx245 : w16.cell? ⟨w5.heap.size, 0, none⟩ = some (.int .i64 r16) := (blk_cell HX54.out 0).trans rfl; have hx246 : w16.cell? ⟨w5.heap.size, 1, none⟩ = some (.int .i64 r17) := (blk_cell HX54.out 1).trans rfl; have hx247 : w16.cell? ⟨w5.heap.size, 2, none⟩ = some (.slice Az43 r18.length cz43) := (blk_cell HX54.out 2).trans rfl; have hl248 : w14.heap.size < w16.heap.size := blk_lt HX211.out; have hx249 : w16.cell? ⟨w14.heap.size, 0, none⟩ = some (.int .i64 r16) := (blk_cell HX211.out 0).trans rfl; have hx250 : w16.cell? ⟨w14.heap.size, 1, none⟩ = some (.int .i64 r17) := (blk_cell HX211.out 1).trans rfl; have hx251 : w16.cell? ⟨w14.heap.size, 2, none⟩ = some (.slice Az196 r18.length cz196) := (blk_cell HX211.out 2).trans rfl))
  go_ret
  exact ⟨rfl, by repeat (first | (with_reducible first | exact HB.out | apply below_alloc | apply pw_below_drewN | apply below_drew1) | exact HB.out)⟩

end Go.Proofs.Ytjnobnmjhpmpfaa.P

namespace Go.Proofs.Ytjnobnmjhpmpfaa.P
open Go.RowKit Go.Proofs.YtjnobnmjhpmpfaaW.PrintWords Go.Proofs.YtjnobnmjhpmpfaaW.PrintLast Go.Proofs.YtjnobnmjhpmpfaaW.PrintMore
attribute [local go_sem] max2_int min2_int max_two min_two max_three min_three max_four min_four
set_option linter.unusedVariables false
set_option linter.unusedSimpArgs false

section
variable {H : Type} {enc : TypeId × Value → H} {P : Program} {w : World} {base : Nat} {held : Bool} {α : Type}
/-- Whatever reads as a datum of type t (at this depth) is a value of kind d. -/
def OpensAt (enc : TypeId × Value → H) (P : Program) (w : World) (base : Nat) (held : Bool) (n : Nat) (t : TypeId) (d : Kd α) (wf : α → Prop) : Prop :=
  ∀ cs x, DataW.trod enc P w base (fun _ => true) held n t cs = some x → ∃ a, d.K w a cs ∧ wf a
theorem opens_int (n : Nat) {t : TypeId} {k : IntKind} (ht : P.underlying t = some (.int k)) : OpensAt enc P w base held n t (Kd.int k) (fun a => (Lit.int k a).wf = true) := fun cs x h => by
  obtain ⟨a, rfl, _, hw⟩ := DataW.trod_int ht h
  exact ⟨a, rfl, hw⟩
theorem list_upto {Q : Nat → α → Prop} : ∀ n, (∀ i, i < n → ∃ y, Q i y) → ∃ xs : List α, xs.length = n ∧ ∀ (i : Nat) (y : α), xs[i]? = some y → Q i y
  | 0, _ => ⟨[], rfl, fun i y h => by simp at h⟩
  | n + 1, h => by
    obtain ⟨xs, hl, hx⟩ := list_upto n (fun i hi => h i (by omega))
    obtain ⟨y, hy⟩ := h n (by omega)
    refine ⟨xs ++ [y], by simp [hl], fun i z hz => ?_⟩
    by_cases e : i < xs.length
    · rw [List.getElem?_append_left e] at hz
      exact hx i z hz
    · rw [List.getElem?_append_right (by omega)] at hz
      have : i - xs.length = 0 := by
        have := (List.getElem?_eq_some_iff.1 hz).1
        simp at this
        omega
      rw [this] at hz
      obtain rfl : y = z := by simpa using hz
      obtain rfl : i = n := by omega
      exact hy
theorem opens_slice (n : Nat) {t e : TypeId} {d : Kd α} {wf : α → Prop} (ht : P.underlying t = some (.slice e)) (hc : P.cellsOf e = d.sz) (he : OpensAt enc P w base held n e d wf) :
    OpensAt enc P w base held (n + 1) t (Kd.slice e d) (fun xs => xs.length ≤ 9223372036854775807 ∧ ∀ x ∈ xs, wf x) := fun cs x h => by
  rcases DataW.trod_slice ht h with ⟨rfl, _⟩ | ⟨a, len, cap, elems, rest, m, hn, rfl, _, _, hl, hm, hlen, hel, _, _⟩
  · exact ⟨[], ⟨none, 0, rfl, Nat.le_refl _, ⟨rfl, by simp, fun h => absurd h (by simp)⟩⟩, by simp⟩
  · obtain rfl : n = m := by omega
    obtain ⟨xs, hxl, hx⟩ := list_upto (Q := fun i y => (∃ c : List Value, c.length = d.sz ∧ d.K w y c ∧ ∀ j u, c[j]? = some u → w.cell? (a.add (i * d.sz + j)) = some u) ∧ wf y) len (fun i hi => by
      have h1 := hel i hi
      rw [List.getElem?_eq_getElem (by omega)] at h1
      obtain ⟨c, hc1, hc2⟩ := Option.bind_eq_some_iff.1 h1
      obtain ⟨y, hy, hw⟩ := he c _ hc2
      obtain ⟨_, hcl, hcc⟩ := World.cells?_some hc1
      refine ⟨y, ⟨c, by rw [hcl, hc], hy, fun j u hu => ?_⟩, hw⟩
      have hj : j < P.cellsOf e := by rw [← hcl]; exact (List.getElem?_eq_some_iff.1 hu).1
      have h2 := hcc j hj
      rw [hu, hc] at h2
      rw [← h2, Addr.add_add])
    subst hxl
    unfold maxLen at hm
    refine ⟨xs, ⟨some a, cap, rfl, hl, ⟨rfl, by omega, fun _ => ⟨a, rfl, fun j p hj => (hx j p hj).1⟩⟩⟩, by omega, fun y hy => ?_⟩
    obtain ⟨i, hi⟩ := List.mem_iff_getElem?.1 hy
    exact (hx i y hi).2
/-- At any depth. -/
theorem OpensAt.any {t : TypeId} {d : Kd α} {wf : α → Prop} (h : ∀ n, OpensAt enc P w base held n t d wf) {v : Value} {y : DataW H} {p : List MemPlace} (hv : DataW.Trod enc P w base (fun _ => true) held t v y p) : ∃ a, d.K w a v.cells.toList ∧ wf a := by
  obtain ⟨fuel, hf⟩ := hv
  exact h fuel _ _ hf
theorem opens_slice_any {t e : TypeId} {d : Kd α} {wf : α → Prop} (ht : P.underlying t = some (.slice e)) (hc : P.cellsOf e = d.sz) (he : ∀ n, OpensAt enc P w base held n e d wf) : ∀ n, OpensAt enc P w base held n t (Kd.slice e d) (fun xs => xs.length ≤ 9223372036854775807 ∧ ∀ x ∈ xs, wf x)
  | 0 => fun cs x h => by simp [DataW.trod] at h
  | n + 1 => opens_slice n ht hc (he n)
end

end Go.Proofs.Ytjnobnmjhpmpfaa.P

namespace Go.Proofs.Ytjnobnmjhpmpfaa.P
open Go.RowKit Go.Proofs.YtjnobnmjhpmpfaaW.PrintWords Go.Proofs.YtjnobnmjhpmpfaaW.PrintLast Go.Proofs.YtjnobnmjhpmpfaaW.PrintMore
attribute [local go_sem] max2_int min2_int max_two min_two max_three min_three max_four min_four
set_option linter.unusedVariables false
set_option linter.unusedSimpArgs false

def wfS50 (x : S50) : Prop := ((Lit.int .i64 x.f0).wf = true) ∧ (x.f1.length ≤ 9223372036854775807 ∧ ∀ y12_ ∈ x.f1, y12_.length ≤ 9223372036854775807 ∧ ∀ y7_ ∈ y12_, (Lit.int .i64 y7_).wf = true)
theorem list_of_50 {α : Type} {l : List α} (h : l.length = 2) : ∃ c0 c1, l = [c0, c1] := by
  match l, h with
  | [c0, c1], _ => exact ⟨c0, c1, rfl⟩
theorem opensS50 {H : Type} {enc : TypeId × Value → H} {w : World} {base : Nat} {held : Bool} : ∀ n, OpensAt enc Try.prog w base held n 50 k50 wfS50
  | 0 => fun cs x h => by simp [DataW.trod] at h
  | n + 1 => fun cs x h => by
    obtain ⟨xs, m, hm, _, hl, hlen, hf⟩ := DataW.trod_struct Try.underlying50 h
    obtain rfl : n = m := by omega
    rw [show Try.prog.cellsOf 50 = 2 from by kernel_rfl] at hl
    obtain ⟨c0, c1, rfl⟩ := list_of_50 hl
    have h0 : DataW.trod enc Try.prog w base (fun _ => true) held (n) 2 [c0] = xs[0]? := by
        have q := hf 0 _ rfl
        simpa [show Try.prog.cellsOf 2 = 1 from by kernel_rfl] using q
    rw [List.getElem?_eq_getElem (by rw [hlen]; decide)] at h0
    obtain ⟨a0, e0, w0⟩ := (fun n => opens_int n Try.underlying2) (n) _ _ h0
    cases e0
    have h1 : DataW.trod enc Try.prog w base (fun _ => true) held (n) 48 [c1] = xs[1]? := by
        have q := hf 1 _ rfl
        simpa [show Try.prog.cellsOf 48 = 1 from by kernel_rfl] using q
    rw [List.getElem?_eq_getElem (by rw [hlen]; decide)] at h1
    obtain ⟨a1, ⟨A1, n1, e1, l1, g1⟩, w1⟩ := (opens_slice_any Try.underlying48 (by kernel_rfl) (opens_slice_any Try.underlying39 (by kernel_rfl) (fun n => opens_int n Try.underlying2))) (n) _ _ h1
    cases e1
    exact ⟨⟨a0, a1⟩, k50_mk w ⟨a0, a1⟩ l1 g1, w0, w1⟩

end Go.Proofs.Ytjnobnmjhpmpfaa.P

namespace Go.Proofs.Ytjnobnmjhpmpfaa.P
open Go.RowKit Go.Proofs.YtjnobnmjhpmpfaaW.PrintWords Go.Proofs.YtjnobnmjhpmpfaaW.PrintLast Go.Proofs.YtjnobnmjhpmpfaaW.PrintMore
attribute [local go_sem] max2_int min2_int max_two min_two max_three min_three max_four min_four
set_option linter.unusedVariables false
set_option linter.unusedSimpArgs false

def laws_FnExactGateOfFamily.Way0 (x0 : S50) : Prop := ∃ k : Nat, ∃ (s2 : Int), (laws_szFamily.f k x0.f0 x0.f1 1048576 = some s2) ∧ (decide (s2 < 0) = true)
def laws_FnExactGateOfFamily.Way1 (x0 : S50) : Prop := ∃ k : Nat, ∃ (s2 : Int) (r16 : Int) (r17 : Int) (r18 : List (S29)) (r19 : Int) (m105 : Int) (ys106 : List (List Int)) (m140 : Int) (ys141 : List (S29)), (laws_szFamily.f k x0.f0 x0.f1 1048576 = some s2) ∧ (decide (s2 < 0) = false) ∧ (laws_toFamily.f k x0.f0 x0.f1 = some (x0.f0, x0.f1)) ∧ (spec_GateOfFamily.f k x0.f0 x0.f1 = some (r16, r17, r18, r19)) ∧ (laws_toFamily.f k x0.f0 x0.f1 = some (x0.f0, x0.f1)) ∧ (impl_GateOfFamily.f k x0.f0 x0.f1 = some (r16, r17, r18, r19)) ∧ (laws_eqGate.f k r16 r17 r18 r16 r17 r18 = some true) ∧ (laws_toFamily.f k x0.f0 x0.f1 = some (x0.f0, x0.f1)) ∧ (laws_eqFamily.f k x0.f0 x0.f1 x0.f0 x0.f1 = some true) ∧ (laws_markFamily.f k x0.f0 x0.f1 1 = some (m105, ys106)) ∧ (decide (m105 < 0) = false) ∧ (laws_eqGate.f k r16 r17 r18 r16 r17 r18 = some true) ∧ (laws_markGate.f k r16 r17 r18 1 = some (m140, ys141)) ∧ (laws_heldGate.f k r16 r17 ys141 1 = some m140) ∧ (decide (m140 < 0) = false) ∧ (laws_toFamily.f k x0.f0 x0.f1 = some (x0.f0, x0.f1)) ∧ (impl_GateOfFamily.f k x0.f0 x0.f1 = some (r16, r17, r18, r19)) ∧ (laws_eqGate.f k r16 r17 r18 r16 r17 r18 = some true) ∧ (laws_heldGate.f k r16 r17 ys141 1 = some m140) ∧ (decide (m140 < 0) = false)
def laws_FnExactGateOfFamily.Pure : Prop := ∀ (x0 : S50), wfS50 x0 → laws_FnExactGateOfFamily.Way0 x0 ∨ laws_FnExactGateOfFamily.Way1 x0
theorem laws_FnExactGateOfFamily.walk (P : laws_FnExactGateOfFamily.Pure) (x0 : S50) (A0_1 : Option Addr) (c0_1 : Nat) (w : World) (hr0_1 : Kd.C (Kd.slice 2 (Kd.int .i64)) w A0_1 x0.f1.length x0.f1) (hc0_1 : x0.f1.length ≤ c0_1) (wf0 : wfS50 x0) :
    Calls Try.prog 11 #[.agg #[.int .i64 x0.f0, .slice A0_1 x0.f1.length c0_1]] w fun e w' => e = .returned (.bool true) ∧ Below w.heap.size w w' := by
  rcases P x0 wf0 with h | h
  · obtain ⟨k, s2, A3, t8⟩ := h
    exact laws_FnExactGateOfFamily.way0 k x0.f0 _ _ x0.f1 s2 w hr0_1 hc0_1 A3 t8
  · obtain ⟨k, s2, r16, r17, r18, r19, m105, ys106, m140, ys141, A3, t8, A9, A20, A28, A40, A55, A71, A89, A107, t123, A124, A142, A158, t174, A175, A193, A212, A232, t252⟩ := h
    exact laws_FnExactGateOfFamily.way1 k x0.f0 _ _ x0.f1 s2 r16 r17 r18 r19 m105 ys106 m140 ys141 w hr0_1 hc0_1 A3 t8 A9 A20 A28 A40 A55 A71 A89 A107 t123 A124 A142 A158 t174 A175 A193 A212 A232 t252

end Go.Proofs.Ytjnobnmjhpmpfaa.P

namespace Go.Proofs.Ytjnobnmjhpmpfaa.P
open Go.RowKit Go.Proofs.YtjnobnmjhpmpfaaW.PrintWords Go.Proofs.YtjnobnmjhpmpfaaW.PrintLast Go.Proofs.YtjnobnmjhpmpfaaW.PrintMore
attribute [local go_sem] max2_int min2_int max_two min_two max_three min_three max_four min_four
set_option linter.unusedVariables false
set_option linter.unusedSimpArgs false

/-! ### laws_szGateS: function 43 -/
end Go.Proofs.Ytjnobnmjhpmpfaa.P

namespace Go.Proofs.Ytjnobnmjhpmpfaa.P
open Go.RowKit Go.Proofs.YtjnobnmjhpmpfaaW.PrintWords Go.Proofs.YtjnobnmjhpmpfaaW.PrintLast Go.Proofs.YtjnobnmjhpmpfaaW.PrintMore
attribute [local go_sem] max2_int min2_int max_two min_two max_three min_three max_four min_four
set_option linter.unusedVariables false
set_option linter.unusedSimpArgs false

/-! ### laws_toGateS: function 45 (by hand) -/
end Go.Proofs.Ytjnobnmjhpmpfaa.P

namespace Go.Proofs.Ytjnobnmjhpmpfaa.P
open Go.RowKit Go.Proofs.YtjnobnmjhpmpfaaW.PrintWords Go.Proofs.YtjnobnmjhpmpfaaW.PrintLast Go.Proofs.YtjnobnmjhpmpfaaW.PrintMore
attribute [local go_sem] max2_int min2_int max_two min_two max_three min_three max_four min_four
set_option linter.unusedVariables false
set_option linter.unusedSimpArgs false

end Go.Proofs.Ytjnobnmjhpmpfaa.P

namespace Go.Proofs.Ytjnobnmjhpmpfaa.P
open Go.RowKit Go.Proofs.YtjnobnmjhpmpfaaW.PrintWords Go.Proofs.YtjnobnmjhpmpfaaW.PrintLast Go.Proofs.YtjnobnmjhpmpfaaW.PrintMore
attribute [local go_sem] max2_int min2_int max_two min_two max_three min_three max_four min_four
set_option linter.unusedVariables false
set_option linter.unusedSimpArgs false

mutual
def mT : S29 → Nat
  | ⟨_, _, l⟩ => mL l
def mL : List S29 → Nat
  | [] => 0
  | x :: l => 1 + mT x + mL l
end
theorem mT_kids (x : S29) : mT x = mL x.f2 := by cases x; simp [mT]
theorem mL_mem {l : List S29} {x : S29} (h : x ∈ l) : mT x < mL l := by
  induction l with
  | nil => simp at h
  | cons y l ih =>
    simp only [mL]
    rcases List.mem_cons.mp h with rfl | h
    · omega
    · have := ih h; omega
theorem mL_len : ∀ l : List S29, l.length ≤ mL l
  | [] => by simp [mL]
  | x :: l => by have := mL_len l; simp only [mL, List.length_cons]; omega
theorem rdT_impl (xs : List S29) (i : Nat) (h : i < xs.length) : rd_T29 xs (i : Int) = xs[i] := by simp [rd_T29, h]
/-- Lists that are no longer than a list may be. -/
inductive wfG : S24 → Prop
  | mk (x : S24) : x.f2.length ≤ 9223372036854775807 → (∀ y ∈ x.f2, wfG y) → wfG x
theorem eqGateS_same : ∀ (n : Nat) (l : List S29), mL l ≤ n → n ≤ 1048576 → Ev (fun k => laws_eqGateS.f k l l) true := by
  intro n
  induction n with
  | zero =>
    intro l hn hm
    have hs := mL_len l
    obtain rfl : l = [] := List.eq_nil_of_length_eq_zero (by omega)
    exact Ev.step (f := fun k => laws_eqGateS.l0 k [] [] 0) (fun k => by simp [laws_eqGateS.f]) (Ev.step (f := fun _ => some true) (fun k => by simp [laws_eqGateS.l0]) (Ev.now _))
  | succ n ih =>
    intro l hn hm
    have hs := mL_len l
    have key : ∀ d i : Nat, i + d = l.length → Ev (fun k => laws_eqGateS.l0 k l l (i : Int)) true := by
      intro d
      induction d with
      | zero =>
        intro i hi
        refine Ev.step (f := fun _ => some true) (fun k => ?_) (Ev.now _)
        simp only [laws_eqGateS.l0]
        rw [if_neg (by omega)]
      | succ d ihd =>
        intro i hi
        have hlt : i < l.length := by omega
        have hx := mL_mem (List.getElem_mem hlt)
        have hk := mT_kids l[i]
        have e1 : Ev (fun k => laws_eqGate.f k l[i].f0 l[i].f1 l[i].f2 l[i].f0 l[i].f1 l[i].f2) true :=
          Ev.step (f := fun k => (laws_eqGateS.f k l[i].f2 l[i].f2).bind fun t => if t = true then some true else some false) (fun k => by simp only [laws_eqGate.f, if_true]) (Ev.bind (ih l[i].f2 (by omega) (by omega)) (by simp only [if_true]; exact Ev.now _))
        refine Ev.step (f := fun k => (laws_eqGate.f k l[i].f0 l[i].f1 l[i].f2 l[i].f0 l[i].f1 l[i].f2).bind fun t => if t = true then laws_eqGateS.l0 k l l ((i + 1 : Nat) : Int) else some false) (fun k => ?_) (Ev.bind e1 ?_)
        · simp only [laws_eqGateS.l0]
          rw [if_pos (by omega), if_pos (by omega), if_pos (by omega), rdT_impl l i hlt, wr (by omega) (by omega)]
          rfl
        · exact ihd (i + 1) (by omega)
    exact Ev.step (f := fun k => laws_eqGateS.l0 k l l 0) (fun k => by simp only [laws_eqGateS.f, if_true]) (key l.length 0 (by omega))
theorem eqGate_same (a b : Int) (l : List S29) (h : mL l ≤ 1048576) : Ev (fun k => laws_eqGate.f k a b l a b l) true :=
  Ev.step (f := fun k => (laws_eqGateS.f k l l).bind fun t => if t = true then some true else some false) (fun k => by simp only [laws_eqGate.f, if_true]) (Ev.bind (eqGateS_same _ l (Nat.le_refl _) h) (by simp only [if_true]; exact Ev.now _))

end Go.Proofs.Ytjnobnmjhpmpfaa.P

namespace Go.Proofs.Ytjnobnmjhpmpfaa.P
open Go.RowKit Go.Proofs.YtjnobnmjhpmpfaaW.PrintWords Go.Proofs.YtjnobnmjhpmpfaaW.PrintLast Go.Proofs.YtjnobnmjhpmpfaaW.PrintMore
attribute [local go_sem] max2_int min2_int max_two min_two max_three min_three max_four min_four
set_option linter.unusedVariables false
set_option linter.unusedSimpArgs false

theorem toInt64S_loop (l : List Int) (hl : l.length ≤ 1048576) : ∀ (d i : Nat), i + d = l.length → Ev (fun k => laws_toInt64S.l0 k l (l.take i ++ List.replicate d 0) (i : Int)) l := by
  intro d
  induction d with
  | zero =>
    intro i hi
    refine Ev.step (f := fun _ => some l) (fun k => ?_) (Ev.now _)
    simp only [laws_toInt64S.l0]
    rw [if_neg (by omega)]
    simp [List.take_of_length_le (show l.length ≤ i by omega)]
  | succ d ih =>
    intro i hi
    have hlt : i < l.length := by omega
    refine Ev.step (fun k => ?_) (ih (i + 1) (by omega))
    simp only [laws_toInt64S.l0]
    rw [if_pos (by omega), if_pos (by omega), if_pos (by simp; omega), wr (by omega) (by omega), rd_nat l i hlt]
    have e : (l.take i ++ List.replicate (d + 1) 0).set ((i : Int)).toNat l[i] = l.take (i + 1) ++ List.replicate d 0 := by
      have e0 : (l.take i).length = i := by rw [List.length_take]; omega
      rw [Int.toNat_natCast, List.set_append_right _ _ (by omega), e0, Nat.sub_self, List.replicate_succ, List.set_cons_zero, List.take_succ_eq_append_getElem hlt, List.append_assoc]
      rfl
    rw [e]
    rfl
theorem toInt64S_ev (l : List Int) (hl : l.length ≤ 1048576) : Ev (fun k => laws_toInt64S.f k l) l := by
  unfold laws_toInt64S.f
  simp only [if_pos (show (0 : Int) ≤ (l.length : Int) by omega), if_pos (show ((l.length : Int)).toNat ≤ 35184372088832 by omega)]
  have := toInt64S_loop l hl l.length 0 (by omega)
  rw [List.take_zero, List.nil_append] at this
  rw [Int.toNat_natCast]
  exact this
theorem eqInt64S_loop (a b : List Int) (hl : a.length ≤ 1048576) (hab : a.length = b.length) : ∀ (d i : Nat), i + d = a.length → Ev (fun k => laws_eqInt64S.l0 k a b (i : Int)) (decide (a.drop i = b.drop i)) := by
  intro d
  induction d with
  | zero =>
    intro i hi
    refine Ev.step (f := fun _ => some true) (fun k => ?_) ?_
    · simp only [laws_eqInt64S.l0]
      rw [if_neg (by omega)]
    · rw [List.drop_eq_nil_of_le (by omega), List.drop_eq_nil_of_le (by omega), decide_eq_true rfl]
      exact Ev.now _
  | succ d ih =>
    intro i hi
    have h1 : i < a.length := by omega
    have h2 : i < b.length := by omega
    have ed : (a.drop i = b.drop i) ↔ (a[i] = b[i] ∧ a.drop (i + 1) = b.drop (i + 1)) := by
      rw [List.drop_eq_getElem_cons h1, List.drop_eq_getElem_cons h2, List.cons.injEq]
    by_cases e : a[i] = b[i]
    · rw [show decide (a.drop i = b.drop i) = decide (a.drop (i + 1) = b.drop (i + 1)) from by simp only [ed, e, true_and]]
      refine Ev.step (fun k => ?_) (ih (i + 1) (by omega))
      simp only [laws_eqInt64S.l0]
      rw [if_pos (by omega), if_pos (by omega), if_pos (by omega), rd_nat a i h1, rd_nat b i h2, if_pos e, wr (by omega) (by omega)]
      rfl
    · refine Ev.step (f := fun _ => some false) (fun k => ?_) ?_
      · simp only [laws_eqInt64S.l0]
        rw [if_pos (by omega), if_pos (by omega), if_pos (by omega), rd_nat a i h1, rd_nat b i h2, if_neg e]
      · rw [decide_eq_false (by rw [ed]; simp [e])]
        exact Ev.now _
theorem eqInt64S_ev (a b : List Int) (hl : a.length ≤ 1048576) : Ev (fun k => laws_eqInt64S.f k a b) (decide (a = b)) := by
  unfold laws_eqInt64S.f
  by_cases h : a.length = b.length
  · simp only [if_pos (show (a.length : Int) = (b.length : Int) by omega)]
    have := eqInt64S_loop a b hl h a.length 0 (by omega)
    rw [List.drop_zero, List.drop_zero] at this
    exact this
  · simp only [if_neg (show ¬ (a.length : Int) = (b.length : Int) by omega)]
    rw [decide_eq_false (by intro e; exact h (by rw [e]))]
    exact Ev.now _
/-- Numbers that rise, from behind y on, and lie in lo .. hi. -/
def risesB (lo hi : Int) : Option Int → List Int → Bool
  | _, [] => true
  | none, x :: l => decide (lo ≤ x ∧ x ≤ hi) && risesB lo hi (some x) l
  | some y, x :: l => decide (lo ≤ x ∧ x ≤ hi) && (decide (y < x) && risesB lo hi (some x) l)
/-- l is a group of h holders. -/
def groupB (h : Int) (l : List Int) : Bool := risesB 0 (h - 1) none l
def before (l : List Int) (i : Nat) : Option Int := if i = 0 then none else l[i - 1]?
theorem before_succ (l : List Int) (i : Nat) (h : i < l.length) : before l (i + 1) = some l[i] := by
  simp [before, h]
theorem spec_rises_loop (xs : List Int) (lo hi : Int) (hl : xs.length ≤ 4611686018427387904) : ∀ (d i : Nat), i + d = xs.length → Ev (fun k => spec_l00Rises.l0 k xs lo hi (i : Int)) (risesB lo hi (before xs i) (xs.drop i)) := by
  intro d
  induction d with
  | zero =>
    intro i hid
    refine Ev.step (f := fun _ => some true) (fun k => ?_) ?_
    · simp only [spec_l00Rises.l0]
      rw [if_neg (by omega)]
    · rw [List.drop_eq_nil_of_le (by omega)]
      rw [show risesB lo _ (before xs i) [] = true from by simp [risesB]]
      exact Ev.now _
  | succ d ih =>
    intro i hid
    have h1 : i < xs.length := by omega
    have IH := ih (i + 1) (by omega)
    rw [before_succ xs i h1] at IH
    rw [List.drop_eq_getElem_cons h1]
    refine Ev.step (f := fun k => if decide (lo ≤ xs[i] ∧ xs[i] ≤ hi) = true then (if ((i : Int)) > 0 then (if 0 ≤ (wrap64 ((i : Int) - 1)) then (if (wrap64 ((i : Int) - 1)) < (xs.length : Int) then (if (rd xs (wrap64 ((i : Int) - 1))) ≥ xs[i] then (some false) else (spec_l00Rises.l0 k xs lo hi ((i + 1 : Nat) : Int))) else (none)) else (none)) else (spec_l00Rises.l0 k xs lo hi ((i + 1 : Nat) : Int))) else (some false)) (fun k => ?_) ?_
    · simp only [spec_l00Rises.l0]
      rw [if_pos (by omega), if_pos (by omega), rd_nat xs i h1, spec_l00In_eq, wr (x := (i : Int) + 1) (by omega) (by omega)]
      rfl
    · by_cases hc : lo ≤ xs[i] ∧ xs[i] ≤ hi
      · simp only [decide_eq_true hc, if_true]
        by_cases h0 : i = 0
        · subst h0
          simp only [show ¬ (((0 : Nat) : Int) > 0) by omega, if_false]
          simp only [before, if_true, risesB, decide_eq_true hc, Bool.true_and]
          exact IH
        · have hp : i - 1 < xs.length := by omega
          have e1 : wrap64 ((i : Int) - 1) = ((i - 1 : Nat) : Int) := by rw [wr (by omega) (by omega)]; omega
          simp only [if_pos (show (i : Int) > 0 by omega), e1, if_pos (show (0 : Int) ≤ ((i - 1 : Nat) : Int) by omega), if_pos (show ((i - 1 : Nat) : Int) < (xs.length : Int) by omega), rd_nat xs (i - 1) hp]
          simp only [before, if_neg h0, List.getElem?_eq_getElem hp, risesB, decide_eq_true hc, Bool.true_and]
          by_cases hb : xs[i - 1] < xs[i]
          · simp only [if_neg (show ¬ xs[i - 1] ≥ xs[i] by omega), decide_eq_true hb, Bool.true_and]
            exact IH
          · simp only [if_pos (show xs[i - 1] ≥ xs[i] by omega), decide_eq_false hb, Bool.false_and]
            exact Ev.now _
      · simp only [decide_eq_false hc]
        rw [show risesB lo hi (before xs i) (xs[i] :: xs.drop (i + 1)) = false from by cases before xs i <;> simp only [risesB, decide_eq_false hc, Bool.false_and]]
        exact Ev.now _
theorem spec_group_ev (h : Int) (l : List Int) (hl : l.length ≤ 4611686018427387904) (hh : -1000 ≤ h ∧ h ≤ 1000) : Ev (fun k => spec_l01Group.f k h l) (groupB h l) := by
  unfold spec_l01Group.f
  rw [wr (by omega) (by omega)]
  refine Ev.bind (f := fun _ t => some t) ?_ (Ev.now _)
  unfold spec_l00Rises.f
  exact spec_rises_loop l 0 (h - 1) hl l.length 0 (by omega)
theorem impl_group_loop (h : Int) (hh : -1000 ≤ h ∧ h ≤ 1000) (xs : List Int) (hl : xs.length ≤ 4611686018427387904) : ∀ (d i : Nat), i + d = xs.length → Ev (fun k => impl_isGroup.l0 k h xs xs (xs.length : Int) (i : Int)) (risesB 0 (h - 1) (before xs i) (xs.drop i)) := by
  intro d
  induction d with
  | zero =>
    intro i hi
    refine Ev.step (f := fun _ => some true) (fun k => ?_) ?_
    · simp only [impl_isGroup.l0]
      rw [if_neg (by omega)]
    · rw [List.drop_eq_nil_of_le (by omega)]
      rw [show risesB 0 (h - 1) (before xs i) [] = true from by simp [risesB]]
      exact Ev.now _
  | succ d ih =>
    intro i hi
    have h1 : i < xs.length := by omega
    have IH := ih (i + 1) (by omega)
    rw [before_succ xs i h1] at IH
    rw [List.drop_eq_getElem_cons h1]
    refine Ev.step (f := fun k => if decide (0 ≤ xs[i] ∧ xs[i] ≤ h - 1) = true then (if ((i : Int)) > 0 then (if 0 ≤ (wrap64 ((i : Int) - 1)) then (if (wrap64 ((i : Int) - 1)) < (xs.length : Int) then (if xs[i] ≤ (rd xs (wrap64 ((i : Int) - 1))) then (some false) else (impl_isGroup.l0 k h xs xs (xs.length : Int) ((i + 1 : Nat) : Int))) else (none)) else (none)) else (impl_isGroup.l0 k h xs xs (xs.length : Int) ((i + 1 : Nat) : Int))) else (some false)) (fun k => ?_) ?_
    · simp only [impl_isGroup.l0]
      rw [if_pos (by omega), if_pos (by omega), if_pos (by omega), rd_nat xs i h1, impl_within_eq, wr (x := h - 1) (by omega) (by omega), wr (x := (i : Int) + 1) (by omega) (by omega)]
      rfl
    · by_cases hc : 0 ≤ xs[i] ∧ xs[i] ≤ h - 1
      · simp only [decide_eq_true hc, if_true]
        by_cases h0 : i = 0
        · subst h0
          simp only [show ¬ (((0 : Nat) : Int) > 0) by omega, if_false]
          simp only [before, if_true, risesB, decide_eq_true hc, Bool.true_and]
          exact IH
        · have hp : i - 1 < xs.length := by omega
          have e1 : wrap64 ((i : Int) - 1) = ((i - 1 : Nat) : Int) := by rw [wr (by omega) (by omega)]; omega
          simp only [if_pos (show (i : Int) > 0 by omega), e1, if_pos (show (0 : Int) ≤ ((i - 1 : Nat) : Int) by omega), if_pos (show ((i - 1 : Nat) : Int) < (xs.length : Int) by omega), rd_nat xs (i - 1) hp]
          simp only [before, if_neg h0, List.getElem?_eq_getElem hp, risesB, decide_eq_true hc, Bool.true_and]
          by_cases hb : xs[i - 1] < xs[i]
          · simp only [if_neg (show ¬ xs[i] ≤ xs[i - 1] by omega), decide_eq_true hb, Bool.true_and]
            exact IH
          · simp only [if_pos (show xs[i] ≤ xs[i - 1] by omega), decide_eq_false hb, Bool.false_and]
            exact Ev.now _
      · simp only [decide_eq_false hc]
        rw [show risesB 0 (h - 1) (before xs i) (xs[i] :: xs.drop (i + 1)) = false from by cases before xs i <;> simp only [risesB, decide_eq_false hc, Bool.false_and]]
        exact Ev.now _
theorem impl_group_ev (h : Int) (l : List Int) (hl : l.length ≤ 4611686018427387904) (hh : -1000 ≤ h ∧ h ≤ 1000) : Ev (fun k => impl_isGroup.f k h l) (groupB h l) := by
  unfold impl_isGroup.f
  exact impl_group_loop h hh l hl l.length 0 (by omega)

end Go.Proofs.Ytjnobnmjhpmpfaa.P

namespace Go.Proofs.Ytjnobnmjhpmpfaa.P
open Go.RowKit Go.Proofs.YtjnobnmjhpmpfaaW.PrintWords Go.Proofs.YtjnobnmjhpmpfaaW.PrintLast Go.Proofs.YtjnobnmjhpmpfaaW.PrintMore
attribute [local go_sem] max2_int min2_int max_two min_two max_three min_three max_four min_four
set_option linter.unusedVariables false
set_option linter.unusedSimpArgs false

/-- A loop that goes on while q says yes, and ends with stop where it says no. -/
theorem scan_ev {ρ : Type} {l : Nat → Int → Option ρ} {n : Nat} {q : Nat → Bool} {fin stop : ρ}
    (hgo : ∀ i : Nat, i < n → q i = true → ∀ r, Ev (fun k => l k ((i + 1 : Nat) : Int)) r → Ev (fun k => l k (i : Int)) r)
    (hstop : ∀ i : Nat, i < n → q i = false → Ev (fun k => l k (i : Int)) stop)
    (hend : Ev (fun k => l k (n : Int)) fin) : Ev (fun k => l k 0) (if (List.range n).all q then fin else stop) := by
  have key : ∀ d i : Nat, i + d = n → Ev (fun k => l k (i : Int)) (if ((List.range n).drop i).all q then fin else stop) := by
    intro d
    induction d with
    | zero =>
      intro i hi
      obtain rfl : i = n := by omega
      rw [List.drop_eq_nil_of_le (by simp)]
      exact hend
    | succ d ih =>
      intro i hi
      rw [List.drop_eq_getElem_cons (by simp; omega), List.getElem_range, List.all_cons]
      cases hq : q i with
      | false => exact hstop i (by omega) hq
      | true => rw [Bool.true_and]; exact hgo i (by omega) hq _ (ih (i + 1) (by omega))
  have := key n 0 (by omega)
  rw [List.drop_zero] at this
  exact this
theorem rdL_nat (xs : List (List Int)) (i : Nat) (h : i < xs.length) : rd_L6 xs (i : Int) = xs[i] := by
  simp [rd_L6, h]
/-- How many values a list of lists holds, the lists themselves counted. -/
def bulk (rows : List (List Int)) : Nat := rows.length + (rows.map List.length).sum
theorem sum_take_le (l : List Nat) (i : Nat) : (l.take i).sum ≤ l.sum := by
  conv => rhs; rw [← List.take_append_drop i l, List.sum_append]
  omega
theorem sum_take_succ (l : List Nat) (i : Nat) (h : i < l.length) : (l.take (i + 1)).sum = (l.take i).sum + l[i] := by
  rw [List.take_succ_eq_append_getElem h, List.sum_append]; simp
theorem sum_mem_le (l : List Nat) (x : Nat) (h : x ∈ l) : x ≤ l.sum := by
  obtain ⟨i, hi, rfl⟩ := List.getElem_of_mem h
  have := sum_take_succ l i hi
  have := sum_take_le l (i + 1)
  omega
theorem szInt64S_eq (l : List Int) (a : Int) (ha : 0 ≤ a ∧ a ≤ 1048576) (hl : l.length ≤ 9223372036854775807) : laws_szInt64S.f l a = some (if (l.length : Int) ≤ a then a - l.length else -1) := by
  unfold laws_szInt64S.f
  rw [wr (by omega) (by omega)]
  by_cases h : (l.length : Int) ≤ a
  · rw [if_neg (by omega), if_pos h]
  · rw [if_pos (by omega), if_neg h]
theorem szInt64SS_ev (rows : List (List Int)) (a : Int) (ha : 0 ≤ a ∧ a ≤ 1048576) (hl : rows.length ≤ 9223372036854775807) (hr : ∀ r ∈ rows, r.length ≤ 9223372036854775807) :
    Ev (fun k => laws_szInt64SS.f k rows a) (if (bulk rows : Int) ≤ a then a - bulk rows else -1) := by
  unfold laws_szInt64SS.f
  rw [wr (by omega) (by omega)]
  by_cases h0 : a - (rows.length : Int) < 0
  · simp only [if_pos h0]
    rw [if_neg (by unfold bulk; omega)]
    exact Ev.now _
  · simp only [if_neg h0]
    have key : ∀ d i : Nat, i + d = rows.length → ∀ b : Int, 0 ≤ b → b = a - rows.length - ((rows.map List.length).take i).sum → Ev (fun k => laws_szInt64SS.l0 k rows b (i : Int)) (if (bulk rows : Int) ≤ a then a - bulk rows else -1) := by
      intro d
      induction d with
      | zero =>
        intro i hi b hb hbe
        rw [List.take_of_length_le (by simp; omega)] at hbe
        rw [if_pos (by unfold bulk; omega), show a - ((bulk rows : Nat) : Int) = b from by unfold bulk; omega]
        refine Ev.step (f := fun _ => some b) (fun k => ?_) (Ev.now _)
        simp only [laws_szInt64SS.l0]
        rw [if_neg (by omega)]
      | succ d ih =>
        intro i hi b hb hbe
        have hlt : i < rows.length := by omega
        have hs := sum_take_succ (rows.map List.length) i (by simpa using hlt)
        rw [List.getElem_map] at hs
        have hs2 := sum_take_le (rows.map List.length) (i + 1)
        have hri := hr _ (List.getElem_mem hlt)
        by_cases hc : ((rows[i]).length : Int) ≤ b
        · refine Ev.step (fun k => ?_) (ih (i + 1) (by omega) (b - (rows[i]).length) (by omega) (by omega))
          simp only [laws_szInt64SS.l0]
          rw [if_pos (by omega), if_pos (by omega), rdL_nat rows i hlt, szInt64S_eq _ _ (by omega) hri, if_pos hc, wr (x := (i : Int) + 1) (by omega) (by omega)]
          simp only [Option.bind_some]
          rw [if_neg (by omega)]
          rfl
        · refine Ev.step (f := fun _ => some (-1)) (fun k => ?_) ?_
          · simp only [laws_szInt64SS.l0]
            rw [if_pos (by omega), if_pos (by omega), rdL_nat rows i hlt, szInt64S_eq _ _ (by omega) hri, if_neg hc]
            rfl
          · rw [if_neg (by unfold bulk; omega)]
            exact Ev.now _
    exact key rows.length 0 (by omega) _ (by omega) (by simp)
theorem bulk_len {rows : List (List Int)} {n : Nat} (h : bulk rows ≤ n) : rows.length ≤ n ∧ ∀ r ∈ rows, r.length ≤ n := by
  unfold bulk at h
  refine ⟨by omega, fun r hr => ?_⟩
  have := sum_mem_le (rows.map List.length) r.length (List.mem_map_of_mem hr)
  omega
theorem toInt64SS_ev (l : List (List Int)) (hl : l.length ≤ 1048576) (hr : ∀ r ∈ l, r.length ≤ 1048576) : Ev (fun k => laws_toInt64SS.f k l) l := by
  unfold laws_toInt64SS.f
  simp only [if_pos (show (0 : Int) ≤ (l.length : Int) by omega), if_pos (show ((l.length : Int)).toNat ≤ 11728124029610 by omega)]
  have go : ∀ (d i : Nat), i + d = l.length → Ev (fun k => laws_toInt64SS.l0 k l (l.take i ++ List.replicate d []) (i : Int)) l := by
    intro d
    induction d with
    | zero =>
      intro i hi
      refine Ev.step (f := fun _ => some l) (fun k => ?_) (Ev.now _)
      simp only [laws_toInt64SS.l0]
      rw [if_neg (by omega)]
      simp [List.take_of_length_le (show l.length ≤ i by omega)]
    | succ d ih =>
      intro i hi
      have hlt : i < l.length := by omega
      refine Ev.step (f := fun k => (laws_toInt64S.f k l[i]).bind fun t => laws_toInt64SS.l0 k l ((l.take i ++ List.replicate (d + 1) []).set i t) ((i + 1 : Nat) : Int)) (fun k => ?_) ?_
      · simp only [laws_toInt64SS.l0]
        rw [if_pos (by omega), if_pos (by omega), rdL_nat l i hlt, wr (by omega) (by omega)]
        simp only [if_pos (show (i : Int) < ((l.take i ++ List.replicate (d + 1) ([] : List Int)).length : Int) by simp; omega), Int.toNat_natCast]
        rfl
      · refine Ev.bind (toInt64S_ev _ (hr _ (List.getElem_mem hlt))) ?_
        have e0 : (l.take i).length = i := by rw [List.length_take]; omega
        have e : (l.take i ++ List.replicate (d + 1) []).set i l[i] = l.take (i + 1) ++ List.replicate d [] := by
          rw [List.set_append_right _ _ (by omega), e0, Nat.sub_self, List.replicate_succ, List.set_cons_zero, List.take_succ_eq_append_getElem hlt, List.append_assoc]
          rfl
        rw [e]
        exact ih (i + 1) (by omega)
  have := go l.length 0 (by omega)
  rw [List.take_zero, List.nil_append] at this
  rw [Int.toNat_natCast]
  exact this
theorem eqInt64SS_ev (a b : List (List Int)) (hl : a.length ≤ 1048576) (hr : ∀ r ∈ a, r.length ≤ 1048576) : Ev (fun k => laws_eqInt64SS.f k a b) (decide (a = b)) := by
  unfold laws_eqInt64SS.f
  by_cases h : a.length = b.length
  · simp only [if_pos (show (a.length : Int) = (b.length : Int) by omega)]
    have key : ∀ (d i : Nat), i + d = a.length → Ev (fun k => laws_eqInt64SS.l0 k a b (i : Int)) (decide (a.drop i = b.drop i)) := by
      intro d
      induction d with
      | zero =>
        intro i hi
        refine Ev.step (f := fun _ => some true) (fun k => ?_) ?_
        · simp only [laws_eqInt64SS.l0]
          rw [if_neg (by omega)]
        · rw [List.drop_eq_nil_of_le (by omega), List.drop_eq_nil_of_le (by omega), decide_eq_true rfl]
          exact Ev.now _
      | succ d ih =>
        intro i hi
        have h1 : i < a.length := by omega
        have h2 : i < b.length := by omega
        have ed : (a.drop i = b.drop i) ↔ (a[i] = b[i] ∧ a.drop (i + 1) = b.drop (i + 1)) := by
          rw [List.drop_eq_getElem_cons h1, List.drop_eq_getElem_cons h2, List.cons.injEq]
        refine Ev.step (f := fun k => (laws_eqInt64S.f k a[i] b[i]).bind fun t => if t = true then laws_eqInt64SS.l0 k a b ((i + 1 : Nat) : Int) else some false) (fun k => ?_) ?_
        · simp only [laws_eqInt64SS.l0]
          rw [if_pos (by omega), if_pos (by omega), if_pos (by omega), rdL_nat a i h1, rdL_nat b i h2, wr (by omega) (by omega)]
          rfl
        · refine Ev.bind (eqInt64S_ev _ _ (hr _ (List.getElem_mem h1))) ?_
          by_cases e : a[i] = b[i]
          · rw [decide_eq_true e, show decide (a.drop i = b.drop i) = decide (a.drop (i + 1) = b.drop (i + 1)) from by simp only [ed, e, true_and]]
            exact ih (i + 1) (by omega)
          · rw [decide_eq_false e, decide_eq_false (by rw [ed]; simp [e])]
            exact Ev.now _
    have := key a.length 0 (by omega)
    rw [List.drop_zero, List.drop_zero] at this
    exact this
  · simp only [if_neg (show ¬ (a.length : Int) = (b.length : Int) by omega)]
    rw [decide_eq_false (by intro e; exact h (by rw [e]))]
    exact Ev.now _
theorem eqInt64SS_same (a : List (List Int)) (hl : a.length ≤ 1048576) (hr : ∀ r ∈ a, r.length ≤ 1048576) : Ev (fun k => laws_eqInt64SS.f k a a) true := by
  have := eqInt64SS_ev a a hl hr
  rwa [decide_eq_true rfl] at this

end Go.Proofs.Ytjnobnmjhpmpfaa.P

namespace Go.Proofs.Ytjnobnmjhpmpfaa.P
open Go.RowKit Go.Proofs.YtjnobnmjhpmpfaaW.PrintWords Go.Proofs.YtjnobnmjhpmpfaaW.PrintLast Go.Proofs.YtjnobnmjhpmpfaaW.PrintMore
attribute [local go_sem] max2_int min2_int max_two min_two max_three min_three max_four min_four
set_option linter.unusedVariables false
set_option linter.unusedSimpArgs false

/-- What holds from some number of rounds on. -/
def From (P : Nat → Prop) : Prop := ∃ K, ∀ k, K ≤ k → P k
theorem From.and {P Q : Nat → Prop} (hp : From P) (hq : From Q) : From fun k => P k ∧ Q k := by
  obtain ⟨K, hK⟩ := hp
  obtain ⟨L, hL⟩ := hq
  exact ⟨max K L, fun k h => ⟨hK k (by omega), hL k (by omega)⟩⟩
theorem From.now {P : Nat → Prop} (h : From P) : ∃ k, P k := by
  obtain ⟨K, hK⟩ := h
  exact ⟨K, hK K (Nat.le_refl _)⟩
end Go.Proofs.Ytjnobnmjhpmpfaa.P

namespace Go.Proofs.Ytjnobnmjhpmpfaa.P
open Go.RowKit Go.Proofs.YtjnobnmjhpmpfaaW.PrintWords Go.Proofs.YtjnobnmjhpmpfaaW.PrintLast Go.Proofs.YtjnobnmjhpmpfaaW.PrintMore
attribute [local go_sem] max2_int min2_int max_two min_two max_three min_three max_four min_four
set_option linter.unusedVariables false
set_option linter.unusedSimpArgs false

mutual
/-- A gate's kids, marked from m on. -/
def mkT : Int → S29 → S29
  | m, ⟨_, _, l⟩ => ⟨m, m + 1, mkL (m + 2) l⟩
def mkL : Int → List S29 → List S29
  | _, [] => []
  | m, x :: l => mkT m x :: mkL (m + 2 + 2 * (mT x : Int)) l
end
theorem mkT_parts (m : Int) (x : S29) : mkT m x = ⟨m, m + 1, mkL (m + 2) x.f2⟩ := by cases x; simp only [mkT]
theorem mkL_cons (m : Int) (x : S29) (l : List S29) : mkL m (x :: l) = ⟨m, m + 1, mkL (m + 2) x.f2⟩ :: mkL (m + 2 + 2 * (mT x : Int)) l := by rw [← mkT_parts]; simp only [mkL]
theorem rdT_mid (pre r : List S29) (y : S29) : rd_T29 (pre ++ y :: r) (pre.length : Int) = y := by simp [rd_T29]
theorem mL_cons (x : S29) (l : List S29) : mL (x :: l) = 1 + mT x + mL l := by simp only [mL]
theorem markGS_ev : ∀ (n : Nat) (rest : List S29), mL rest ≤ n → n ≤ 1048576 → ∀ (pre : List S29) (m : Int), 0 ≤ m → m + 2 * (mL rest : Int) ≤ 4611686018427387904 → pre.length + rest.length ≤ 4611686018427387904 → Ev (fun k => laws_markGateS.l0 k (pre ++ rest) m (pre.length : Int)) (m + 2 * (mL rest : Int), pre ++ mkL m rest) := by
  intro n
  induction n with
  | zero =>
    intro rest hn hm pre m h0 h1 hp
    cases rest with
    | cons x r => rw [mL_cons] at hn; omega
    | nil =>
      refine Ev.step (f := fun _ => some (m, pre ++ [])) (fun k => ?_) ?_
      · simp only [laws_markGateS.l0]
        rw [if_neg (show ¬ ((pre.length : Int) < ((pre ++ ([] : List S29)).length : Int)) by simp)]
      · rw [show m + 2 * ((mL ([] : List S29) : Nat) : Int) = m by simp [mL], show mkL m [] = [] by simp only [mkL]]
        exact Ev.now _
  | succ n ih =>
    intro rest hn hm pre m h0 h1 hp
    cases rest with
    | nil =>
      refine Ev.step (f := fun _ => some (m, pre ++ [])) (fun k => ?_) ?_
      · simp only [laws_markGateS.l0]
        rw [if_neg (show ¬ ((pre.length : Int) < ((pre ++ ([] : List S29)).length : Int)) by simp)]
      · rw [show m + 2 * ((mL ([] : List S29) : Nat) : Int) = m by simp [mL], show mkL m [] = [] by simp only [mkL]]
        exact Ev.now _
    | cons x r =>
      rw [mL_cons] at hn h1
      rw [List.length_cons] at hp
      have hk := mT_kids x
      have hlx := mL_len x.f2
      have e1 : Ev (fun k => laws_markGateS.f k x.f2 (m + 2)) (m + 2 + 2 * (mL x.f2 : Int), mkL (m + 2) x.f2) :=
        Ev.step (f := fun k => laws_markGateS.l0 k x.f2 (m + 2) 0) (fun k => by simp only [laws_markGateS.f]) (ih x.f2 (by omega) (by omega) [] (m + 2) (by omega) (by omega) (by rw [List.length_nil]; omega))
      refine Ev.step (f := fun k => (laws_markGateS.f k x.f2 (m + 2)).bind fun t => laws_markGateS.l0 k ((pre ++ x :: r).set pre.length ⟨m, m + 1, t.2⟩) t.1 ((pre.length + 1 : Nat) : Int)) (fun k => ?_) (Ev.bind e1 ?_)
      · simp only [laws_markGateS.l0]
        rw [if_pos (by simp; omega), if_pos (by omega), rdT_mid, wr (x := m + 1) (by omega) (by omega), wr (x := m + 1 + 1) (by omega) (by omega), wr (x := (pre.length : Int) + 1) (by omega) (by omega), Int.toNat_natCast, show m + 1 + 1 = m + 2 by omega]
        rfl
      · dsimp only
        have e : (pre ++ x :: r).set pre.length (⟨m, m + 1, mkL (m + 2) x.f2⟩ : S29) = (pre ++ [⟨m, m + 1, mkL (m + 2) x.f2⟩]) ++ r := by
          rw [List.set_append_right _ _ (Nat.le_refl _), Nat.sub_self, List.set_cons_zero, List.append_assoc]; rfl
        have hl := mL_len r
        have h3 := ih r (by omega) (by omega) (pre ++ [⟨m, m + 1, mkL (m + 2) x.f2⟩]) (m + 2 + 2 * (mL x.f2 : Int)) (by omega) (by omega) (by rw [List.length_append, List.length_singleton]; omega)
        rw [List.length_append, List.length_singleton] at h3
        rw [e, mkL_cons, mL_cons, hk, show m + 2 * (((1 + mL x.f2 + mL r : Nat)) : Int) = m + 2 + 2 * (mL x.f2 : Int) + 2 * (mL r : Int) by omega, show pre ++ (⟨m, m + 1, mkL (m + 2) x.f2⟩ : S29) :: mkL (m + 2 + 2 * ((mL x.f2 : Nat) : Int)) r = (pre ++ [⟨m, m + 1, mkL (m + 2) x.f2⟩]) ++ mkL (m + 2 + 2 * ((mL x.f2 : Nat) : Int)) r by rw [List.append_assoc]; rfl]
        exact h3
theorem markGate_ev (a b : Int) (l : List S29) (h : mL l ≤ 1048576) : Ev (fun k => laws_markGate.f k a b l 1) (1 + 2 * (mL l : Int), mkL 1 l) :=
  Ev.step (f := fun k => laws_markGateS.l0 k l 1 0) (fun k => by simp only [laws_markGate.f, laws_markGateS.f]) (markGS_ev 1048576 l h (Nat.le_refl _) [] 1 (by omega) (by omega) (by have := mL_len l; rw [List.length_nil]; omega))
theorem heldGS_ev : ∀ (n : Nat) (rest : List S29), mL rest ≤ n → n ≤ 1048576 → ∀ (pre : List S29) (m : Int), 0 ≤ m → m + 2 * (mL rest : Int) ≤ 4611686018427387904 → pre.length + rest.length ≤ 4611686018427387904 → Ev (fun k => laws_heldGateS.l0 k (pre ++ mkL m rest) m (pre.length : Int)) (m + 2 * (mL rest : Int)) := by
  intro n
  induction n with
  | zero =>
    intro rest hn hm pre m h0 h1 hp
    cases rest with
    | cons x r => rw [mL_cons] at hn; omega
    | nil =>
      refine Ev.step (f := fun _ => some m) (fun k => ?_) ?_
      · rw [show mkL m ([] : List S29) = [] by simp only [mkL]]
        simp only [laws_heldGateS.l0]
        rw [if_neg (show ¬ ((pre.length : Int) < ((pre ++ ([] : List S29)).length : Int)) by simp)]
      · rw [show m + 2 * ((mL ([] : List S29) : Nat) : Int) = m by simp [mL]]
        exact Ev.now _
  | succ n ih =>
    intro rest hn hm pre m h0 h1 hp
    cases rest with
    | nil =>
      refine Ev.step (f := fun _ => some m) (fun k => ?_) ?_
      · rw [show mkL m ([] : List S29) = [] by simp only [mkL]]
        simp only [laws_heldGateS.l0]
        rw [if_neg (show ¬ ((pre.length : Int) < ((pre ++ ([] : List S29)).length : Int)) by simp)]
      · rw [show m + 2 * ((mL ([] : List S29) : Nat) : Int) = m by simp [mL]]
        exact Ev.now _
    | cons x r =>
      rw [mL_cons] at hn h1
      rw [List.length_cons] at hp
      have hk := mT_kids x
      have hlx := mL_len x.f2
      have e1 : Ev (fun k => laws_heldGateS.f k (mkL (m + 2) x.f2) (m + 2)) (m + 2 + 2 * (mL x.f2 : Int)) :=
        Ev.step (f := fun k => laws_heldGateS.l0 k (mkL (m + 2) x.f2) (m + 2) 0) (fun k => by simp only [laws_heldGateS.f]) (ih x.f2 (by omega) (by omega) [] (m + 2) (by omega) (by omega) (by rw [List.length_nil]; omega))
      rw [mkL_cons]
      refine Ev.step (f := fun k => (laws_heldGateS.f k (mkL (m + 2) x.f2) (m + 2)).bind fun t => if t < 0 then some (-1) else laws_heldGateS.l0 k (pre ++ ⟨m, m + 1, mkL (m + 2) x.f2⟩ :: mkL (m + 2 + 2 * (mT x : Int)) r) t ((pre.length + 1 : Nat) : Int)) (fun k => ?_) (Ev.bind e1 ?_)
      · simp only [laws_heldGateS.l0]
        rw [if_pos (by simp; omega), if_pos (by omega), rdT_mid]
        dsimp only
        rw [if_pos rfl, wr (x := m + 1) (by omega) (by omega), if_pos rfl, wr (x := m + 1 + 1) (by omega) (by omega), wr (x := (pre.length : Int) + 1) (by omega) (by omega), show m + 1 + 1 = m + 2 by omega]
        rfl
      · simp only [if_neg (show ¬ (m + 2 + 2 * ((mL x.f2 : Nat) : Int) < 0) by omega)]
        have hl := mL_len r
        have h3 := ih r (by omega) (by omega) (pre ++ [⟨m, m + 1, mkL (m + 2) x.f2⟩]) (m + 2 + 2 * (mL x.f2 : Int)) (by omega) (by omega) (by rw [List.length_append, List.length_singleton]; omega)
        rw [List.length_append, List.length_singleton] at h3
        rw [mL_cons, hk, show m + 2 * (((1 + mL x.f2 + mL r : Nat)) : Int) = m + 2 + 2 * (mL x.f2 : Int) + 2 * (mL r : Int) by omega, show pre ++ (⟨m, m + 1, mkL (m + 2) x.f2⟩ : S29) :: mkL (m + 2 + 2 * ((mL x.f2 : Nat) : Int)) r = (pre ++ [⟨m, m + 1, mkL (m + 2) x.f2⟩]) ++ mkL (m + 2 + 2 * ((mL x.f2 : Nat) : Int)) r by rw [List.append_assoc]; rfl]
        exact h3
theorem heldGate_ev (a b : Int) (l : List S29) (h : mL l ≤ 1048576) : Ev (fun k => laws_heldGate.f k a b (mkL 1 l) 1) (1 + 2 * (mL l : Int)) := by
  unfold laws_heldGate.f
  refine Ev.bind (Ev.step (f := fun k => laws_heldGateS.l0 k (mkL 1 l) 1 0) (fun k => by simp only [laws_heldGateS.f]) (heldGS_ev 1048576 l h (Nat.le_refl _) [] 1 (by omega) (by omega) (by have := mL_len l; rw [List.length_nil]; omega))) ?_
  simp only [if_neg (show ¬ (1 + 2 * ((mL l : Nat) : Int) < 0) by omega)]
  exact Ev.now _

end Go.Proofs.Ytjnobnmjhpmpfaa.P

namespace Go.Proofs.Ytjnobnmjhpmpfaa.P
open Go.RowKit Go.Proofs.YtjnobnmjhpmpfaaW.PrintWords Go.Proofs.YtjnobnmjhpmpfaaW.PrintLast Go.Proofs.YtjnobnmjhpmpfaaW.PrintMore
attribute [local go_sem] max2_int min2_int max_two min_two max_three min_three max_four min_four
set_option linter.unusedVariables false
set_option linter.unusedSimpArgs false

/-! ### spec_ValidGate: function 19 (by hand) -/
end Go.Proofs.Ytjnobnmjhpmpfaa.P

namespace Go.Proofs.Ytjnobnmjhpmpfaa.P
open Go.RowKit Go.Proofs.YtjnobnmjhpmpfaaW.PrintWords Go.Proofs.YtjnobnmjhpmpfaaW.PrintLast Go.Proofs.YtjnobnmjhpmpfaaW.PrintMore
attribute [local go_sem] max2_int min2_int max_two min_two max_three min_three max_four min_four
set_option linter.unusedVariables false
set_option linter.unusedSimpArgs false

/-! ### spec_l02Size: function 44 (by hand) -/
end Go.Proofs.Ytjnobnmjhpmpfaa.P

namespace Go.Proofs.Ytjnobnmjhpmpfaa.P
open Go.RowKit Go.Proofs.YtjnobnmjhpmpfaaW.PrintWords Go.Proofs.YtjnobnmjhpmpfaaW.PrintLast Go.Proofs.YtjnobnmjhpmpfaaW.PrintMore
attribute [local go_sem] max2_int min2_int max_two min_two max_three min_three max_four min_four
set_option linter.unusedVariables false
set_option linter.unusedSimpArgs false

/-! ### spec_GateSize: function 13 (by hand) -/
end Go.Proofs.Ytjnobnmjhpmpfaa.P

namespace Go.Proofs.Ytjnobnmjhpmpfaa.P
open Go.RowKit Go.Proofs.YtjnobnmjhpmpfaaW.PrintWords Go.Proofs.YtjnobnmjhpmpfaaW.PrintLast Go.Proofs.YtjnobnmjhpmpfaaW.PrintMore
attribute [local go_sem] max2_int min2_int max_two min_two max_three min_three max_four min_four
set_option linter.unusedVariables false
set_option linter.unusedSimpArgs false

def rT : List S29 → Nat
  | [] => 0
  | x :: l => (1 + mT x) + rT l
theorem rT_mL : ∀ l : List S29, rT l = mL l
  | [] => rfl
  | x :: l => by simp only [rT, mL, rT_mL l]
theorem impl_GateSize_ev : ∀ (n : Nat) (a b : Int) (l : List S29), mL l ≤ n → n ≤ 1048576 → Ev (fun k => impl_GateSize.f k a b l) ((1 + mL l : Nat) : Int) := by
  intro n
  induction n using Nat.strongRecOn with
  | _ n ih =>
    intro a0 a1 l hn hm
    have hr := rT_mL l
    have hl := mL_len l
    have key : ∀ d i : Nat, i + d = l.length → ∀ b : Nat, b + rT (l.drop i) ≤ 1048577 → Ev (fun k => impl_GateSize.l0 k (b : Int) l (l.length : Int) (i : Int)) ((b + rT (l.drop i) : Nat) : Int) := by
      intro d
      induction d with
      | zero =>
        intro i hi b hb
        rw [List.drop_eq_nil_of_le (by omega), show b + rT [] = b from rfl]
        refine Ev.step (f := fun _ => some (b : Int)) (fun k => ?_) (Ev.now _)
        simp only [impl_GateSize.l0]
        rw [if_neg (by omega)]
      | succ d ihd =>
        intro i hi b hb
        have hlt : i < l.length := by omega
        have hx := mL_mem (List.getElem_mem hlt)
        have hk := mT_kids l[i]
        rw [List.drop_eq_getElem_cons hlt, show rT (l[i] :: l.drop (i + 1)) = (1 + mT l[i]) + rT (l.drop (i + 1)) from rfl] at hb ⊢
        have hnext := ihd (i + 1) (by omega) (b + (1 + mT l[i])) (by omega)
        refine Ev.step (f := fun k => (impl_GateSize.f k l[i].f0 l[i].f1 l[i].f2).bind fun t => impl_GateSize.l0 k (wrap64 ((b : Int) + t)) l (l.length : Int) ((i + 1 : Nat) : Int)) (fun k => ?_) (Ev.bind (ih (mL l[i].f2) (by omega) _ _ _ (Nat.le_refl _) (by omega)) ?_)
        · simp only [impl_GateSize.l0]
          rw [if_pos (by omega), if_pos (by omega), if_pos (by omega), rdT_impl _ i hlt, wr (x := (i : Int) + 1) (by omega) (by omega)]
          rfl
        · rw [← hk, wr (by omega) (by omega), show (b : Int) + ((1 + mT l[i] : Nat) : Int) = ((b + (1 + mT l[i]) : Nat) : Int) by omega, show b + (1 + mT l[i] + rT (l.drop (i + 1))) = b + (1 + mT l[i]) + rT (l.drop (i + 1)) by omega]
          exact hnext
    have h := key l.length 0 (by omega) 1 (by rw [List.drop_zero]; omega)
    rw [List.drop_zero, hr] at h
    exact Ev.step (f := fun k => impl_GateSize.l0 k 1 l (l.length : Int) 0) (fun k => by simp only [impl_GateSize.f]) h
end Go.Proofs.Ytjnobnmjhpmpfaa.P

namespace Go.Proofs.Ytjnobnmjhpmpfaa.P
open Go.RowKit Go.Proofs.YtjnobnmjhpmpfaaW.PrintWords Go.Proofs.YtjnobnmjhpmpfaaW.PrintLast Go.Proofs.YtjnobnmjhpmpfaaW.PrintMore
attribute [local go_sem] max2_int min2_int max_two min_two max_three min_three max_four min_four
set_option linter.unusedVariables false
set_option linter.unusedSimpArgs false

theorem idxG_ev (p : Nat → S29 → Option Bool) (q : S29 → Bool) (xs : List S29) (hlen : xs.length ≤ 4611686018427387904) (hp : ∀ x ∈ xs, Ev (fun k => p k x) (q x)) (hm : ∀ x k, LeO (p k x) (p (k + 1) x)) :
    ∀ d i : Nat, i + d = xs.length → ∃ r : Int, Ev (fun k => idxG.l0 k (p k) xs (i : Int)) r ∧ decide (0 ≤ r) = (xs.drop i).any q := by
  have up : ∀ {r : Int} {i : Int}, Ev (fun k => idxG.l0 k (p k) xs i) r → Ev (fun k => idxG.l0 k (p (k + 1)) xs i) r := by
    rintro r i ⟨K, h⟩
    exact ⟨K, fun k hk => idxG.mono_p _ _ _ _ _ (fun x => hm x k) r (h k hk)⟩
  have one : ∀ x ∈ xs, Ev (fun k => p (k + 1) x) (q x) := fun x hx => by
    obtain ⟨K, h⟩ := hp x hx
    exact ⟨K, fun k hk => h (k + 1) (by omega)⟩
  intro d
  induction d with
  | zero =>
    intro i hi
    refine ⟨-1, Ev.step (f := fun _ => some (-1)) (fun k => ?_) (Ev.now _), ?_⟩
    · simp only [idxG.l0]
      rw [if_neg (by omega)]
    · rw [List.drop_eq_nil_of_le (by omega)]; rfl
  | succ d ih =>
    intro i hi
    have hlt : i < xs.length := by omega
    obtain ⟨r, hr, hd⟩ := ih (i + 1) (by omega)
    have hx := one _ (List.getElem_mem hlt)
    rw [List.drop_eq_getElem_cons hlt, List.any_cons]
    have step : ∀ {r : Int}, Ev (fun k => (p (k + 1) xs[i]).bind fun t => if t = true then some (i : Int) else idxG.l0 k (p (k + 1)) xs ((i + 1 : Nat) : Int)) r → Ev (fun k => idxG.l0 k (p k) xs (i : Int)) r := fun h => by
      refine Ev.step (g := fun k => idxG.l0 k (p k) xs (i : Int)) (fun k => ?_) h
      simp only [idxG.l0]
      rw [if_pos (by omega), if_pos (by omega), rdT_impl xs i hlt, wr (by omega) (by omega)]
      rfl
    cases hq : q xs[i] with
    | true =>
      refine ⟨i, step (Ev.bind hx ?_), ?_⟩
      · simp only [hq, if_true]; exact Ev.now _
      · rw [Bool.true_or]; exact decide_eq_true (by omega)
    | false =>
      refine ⟨r, step (Ev.bind hx ?_), ?_⟩
      · simp only [hq]; exact up hr
      · rw [Bool.false_or]; exact hd
theorem hasG_ev (p : Nat → S29 → Option Bool) (q : S29 → Bool) (xs : List S29) (hlen : xs.length ≤ 4611686018427387904) (hp : ∀ x ∈ xs, Ev (fun k => p k x) (q x)) (hm : ∀ x k, LeO (p k x) (p (k + 1) x)) : Ev (fun k => hasG.f k (p k) xs) (xs.any q) := by
  obtain ⟨r, hr, hd⟩ := idxG_ev p q xs hlen hp hm xs.length 0 (by omega)
  rw [List.drop_zero] at hd
  rw [← hd]
  exact Ev.bind hr (Ev.now _)
theorem not_any_allG {α : Type} (l : List α) (q : α → Bool) : (!(l.any fun a => !q a)) = l.all q := by
  induction l with
  | nil => rfl
  | cons a l ih => rw [List.any_cons, List.all_cons, ← ih, Bool.not_or, Bool.not_not]
mutual
/-- How deep a gate is. -/
def dT : S29 → Nat
  | ⟨_, _, l⟩ => 1 + dL l
def dL : List S29 → Nat
  | [] => 0
  | x :: l => max (dT x) (dL l)
end
mutual
/-- Has a gate the form of one? -/
def fT (h : Int) : S29 → Bool
  | ⟨a, b, l⟩ => if l.isEmpty then (decide (b = 0) && decide (0 ≤ a ∧ a ≤ h - 1)) else (fL h l && (decide (a = -1) && decide (1 ≤ b ∧ b ≤ (l.length : Int))))
def fL (h : Int) : List S29 → Bool
  | [] => true
  | x :: l => fT h x && fL h l
end
theorem dT_parts (x : S29) : dT x = 1 + dL x.f2 := by cases x; simp only [dT]
theorem fT_parts (h : Int) (x : S29) : fT h x = if x.f2.isEmpty then (decide (x.f1 = 0) && decide (0 ≤ x.f0 ∧ x.f0 ≤ h - 1)) else (fL h x.f2 && (decide (x.f0 = -1) && decide (1 ≤ x.f1 ∧ x.f1 ≤ (x.f2.length : Int)))) := by cases x; simp only [fT]
theorem fL_all (h : Int) : ∀ l : List S29, fL h l = l.all (fT h)
  | [] => by simp only [fL, List.all_nil]
  | x :: l => by simp only [fL, List.all_cons, fL_all h l]
theorem dL_le : ∀ (l : List S29) (n : Nat), decide (dL l ≤ n) = l.all fun x => decide (dT x ≤ n)
  | [], n => by simp [dL]
  | x :: l, n => by
    have e : dL (x :: l) = max (dT x) (dL l) := by simp only [dL]
    rw [List.all_cons, ← dL_le l n]
    by_cases h1 : dT x ≤ n
    · by_cases h2 : dL l ≤ n
      · rw [decide_eq_true h1, decide_eq_true h2, decide_eq_true (show dL (x :: l) ≤ n by omega)]; rfl
      · rw [decide_eq_false h2, Bool.and_false, decide_eq_false (show ¬ dL (x :: l) ≤ n by omega)]
    · rw [decide_eq_false h1, Bool.false_and, decide_eq_false (show ¬ dL (x :: l) ≤ n by omega)]
theorem all_and {α : Type} (p q : α → Bool) (l : List α) : (l.all fun y => p y && q y) = (l.all p && l.all q) := by
  induction l with
  | nil => rfl
  | cons x l ih =>
    rw [List.all_cons, List.all_cons, List.all_cons, ih]
    cases p x <;> cases q x <;> simp
theorem dL_nil : dL [] = 0 := by simp only [dL]
theorem dL_cons (x : S29) (l : List S29) : dL (x :: l) = max (dT x) (dL l) := by simp only [dL]
theorem dL_mL : ∀ n, ∀ l : List S29, mL l ≤ n → dL l ≤ mL l := by
  intro n
  induction n with
  | zero =>
    intro l h
    cases l with
    | nil => rw [dL_nil]; exact Nat.zero_le _
    | cons x l => simp only [mL] at h; omega
  | succ n ih =>
    intro l h
    induction l with
    | nil => rw [dL_nil]; exact Nat.zero_le _
    | cons x l ihl =>
      rw [dL_cons, dT_parts]
      simp only [mL] at h ⊢
      have hk := mT_kids x
      have h1 := ih x.f2 (by omega)
      have h2 := ihl (by omega)
      exact Nat.max_le.mpr ⟨by omega, by omega⟩
/-- What is left: exact where it suffices, and less than 0 elsewhere. -/
theorem spec_l02Left_ev : ∀ (n : Nat) (x : S29), mT x ≤ n → n ≤ 1048576 → ∀ left : Int, 0 ≤ left → left ≤ 1048576 → ∃ t : Int, Ev (fun k => spec_l02Left.f k x left) t ∧ (((1 + mT x : Nat) : Int) ≤ left → t = left - ((1 + mT x : Nat) : Int)) ∧ (¬ ((1 + mT x : Nat) : Int) ≤ left → t < 0) ∧ -1 ≤ t := by
  intro n
  induction n using Nat.strongRecOn with
  | _ n ih =>
    intro x hn hm left h0 h1
    have hk := mT_kids x
    have hr := rT_mL x.f2
    have hl := mL_len x.f2
    have key : ∀ d i : Nat, i + d = x.f2.length → ∀ b : Int, -1 ≤ b → b ≤ 1048576 → ∃ t : Int, Ev (fun k => spec_l02Left.l0 k x b (i : Int)) t ∧ ((rT (x.f2.drop i) : Int) ≤ b → t = b - rT (x.f2.drop i)) ∧ (¬ (rT (x.f2.drop i) : Int) ≤ b → t < 0) ∧ -1 ≤ t := by
      intro d
      induction d with
      | zero =>
        intro i hi b hb0 hb1
        rw [List.drop_eq_nil_of_le (by omega), show rT [] = 0 from rfl]
        refine ⟨b, Ev.step (f := fun _ => some b) (fun k => ?_) (Ev.now _), fun _ => by omega, fun _ => by omega, hb0⟩
        simp only [spec_l02Left.l0]
        rw [if_neg (by omega)]
      | succ d ihd =>
        intro i hi b hb0 hb1
        have hlt : i < x.f2.length := by omega
        have hx := mL_mem (List.getElem_mem hlt)
        rw [List.drop_eq_getElem_cons hlt, show rT (x.f2[i] :: x.f2.drop (i + 1)) = (1 + mT x.f2[i]) + rT (x.f2.drop (i + 1)) from rfl]
        by_cases hb : b ≥ 0
        · obtain ⟨t, ht, h2, h3, h4⟩ := ih (mT x.f2[i]) (by omega) x.f2[i] (Nat.le_refl _) (by omega) b hb hb1
          have hle : t ≤ 1048576 := by
            by_cases q : ((1 + mT x.f2[i] : Nat) : Int) ≤ b
            · have := h2 q; omega
            · have := h3 q; omega
          obtain ⟨u, hu, g2, g3, g4⟩ := ihd (i + 1) (by omega) t h4 hle
          refine ⟨u, Ev.step (f := fun k => (spec_l02Left.f k x.f2[i] b).bind fun t => spec_l02Left.l0 k x t ((i + 1 : Nat) : Int)) (fun k => ?_) (Ev.bind ht hu), fun q => ?_, fun q => ?_, g4⟩
          · simp only [spec_l02Left.l0]
            rw [if_pos (by omega), if_pos hb, if_pos (by omega), rdT_impl _ i hlt, wr (x := (i : Int) + 1) (by omega) (by omega)]
            rfl
          · have e := h2 (by omega)
            have := g2 (by omega)
            omega
          · by_cases q2 : ((1 + mT x.f2[i] : Nat) : Int) ≤ b
            · have e := h2 q2
              exact g3 (by omega)
            · have e := h3 q2
              exact g3 (by omega)
        · refine ⟨b, Ev.step (f := fun _ => some b) (fun k => ?_) (Ev.now _), fun q => by omega, fun q => by omega, hb0⟩
          simp only [spec_l02Left.l0]
          rw [if_pos (by omega), if_neg hb]
    obtain ⟨t, ht, h2, h3, h4⟩ := key x.f2.length 0 (by omega) (left - 1) (by omega) (by omega)
    rw [List.drop_zero, hr, ← hk] at h2 h3
    refine ⟨t, Ev.step (f := fun k => spec_l02Left.l0 k x (left - 1) 0) (fun k => by simp only [spec_l02Left.f]; rw [wr (by omega) (by omega)]) ht, fun q => ?_, fun q => ?_, h4⟩
    · have := h2 (by omega); omega
    · exact h3 (by omega)
theorem max_eq (a b : Int) : spec_l00Max.f a b = some (max a b) := by
  unfold spec_l00Max.f
  by_cases h : a > b
  · rw [if_pos h]; exact congrArg some (by omega)
  · rw [if_neg h]; exact congrArg some (by omega)
theorem spec_l02Depth_ev : ∀ (n : Nat) (x : S29), mT x ≤ n → n ≤ 1048576 → Ev (fun k => spec_l02Depth.f k x) (dT x : Int) := by
  intro n
  induction n using Nat.strongRecOn with
  | _ n ih =>
    intro x hn hm
    have hk := mT_kids x
    have hl := mL_len x.f2
    have hd := dL_mL _ x.f2 (Nat.le_refl _)
    have key : ∀ d i : Nat, i + d = x.f2.length → ∀ b : Nat, b ≤ 1048577 → dL (x.f2.drop i) ≤ 1048577 → Ev (fun k => spec_l02Depth.l0 k x (b : Int) (i : Int)) ((1 + max b (dL (x.f2.drop i)) : Nat) : Int) := by
      intro d
      induction d with
      | zero =>
        intro i hi b hb _
        rw [List.drop_eq_nil_of_le (by omega), dL_nil]
        refine Ev.step (f := fun _ => some ((1 + max b 0 : Nat) : Int)) (fun k => ?_) (Ev.now _)
        simp only [spec_l02Depth.l0]
        rw [if_neg (by omega), wr (by omega) (by omega)]
        exact congrArg some (by omega)
      | succ d ihd =>
        intro i hi b hb hdl
        have hlt : i < x.f2.length := by omega
        have hx := mL_mem (List.getElem_mem hlt)
        rw [List.drop_eq_getElem_cons hlt, dL_cons] at hdl ⊢
        have hn2 := ihd (i + 1) (by omega) (max b (dT x.f2[i])) (by omega) (by omega)
        refine Ev.step (f := fun k => (spec_l02Depth.f k x.f2[i]).bind fun t => spec_l02Depth.l0 k x (max (b : Int) t) ((i + 1 : Nat) : Int)) (fun k => ?_) (Ev.bind (ih (mT x.f2[i]) (by omega) _ (Nat.le_refl _) (by omega)) ?_)
        · simp only [spec_l02Depth.l0, max_eq, Option.bind_some]
          rw [if_pos (by omega), if_pos (by omega), rdT_impl _ i hlt, wr (x := (i : Int) + 1) (by omega) (by omega)]
          rfl
        · rw [show max (b : Int) ((dT x.f2[i] : Nat) : Int) = ((max b (dT x.f2[i]) : Nat) : Int) by omega, show max b (max (dT x.f2[i]) (dL (x.f2.drop (i + 1)))) = max (max b (dT x.f2[i])) (dL (x.f2.drop (i + 1))) by omega]
          exact hn2
    have h := key x.f2.length 0 (by omega) 0 (by omega) (by rw [List.drop_zero]; omega)
    rw [List.drop_zero, Nat.zero_max, ← dT_parts] at h
    exact Ev.step (f := fun k => spec_l02Depth.l0 k x 0 0) (fun k => by simp only [spec_l02Depth.f]) h
theorem spec_l02Form_ev (h : Int) (hh : 1 ≤ h ∧ h ≤ 7) : ∀ (n : Nat) (x : S29), mT x ≤ n → n ≤ 1048576 → Ev (fun k => spec_l02Form.f k h x) (fT h x) := by
  intro n
  induction n using Nat.strongRecOn with
  | _ n ih =>
    intro x hn hm
    have hk := mT_kids x
    have hl := mL_len x.f2
    rw [fT_parts]
    by_cases c1 : (x.f2.length : Int) = 0
    · have e0 : x.f2.isEmpty = true := by
        rw [List.isEmpty_iff]
        exact List.eq_nil_of_length_eq_zero (by omega)
      rw [if_pos e0]
      refine Ev.step (f := fun _ => some (decide (x.f1 = 0) && decide (0 ≤ x.f0 ∧ x.f0 ≤ h - 1))) (fun k => ?_) (Ev.now _)
      simp only [spec_l02Form.f]
      rw [if_pos c1, wr (by omega) (by omega)]
      by_cases c2 : x.f1 = 0
      · rw [if_pos c2, spec_l00In_eq, decide_eq_true c2, Bool.true_and]
      · rw [if_neg c2, decide_eq_false c2, Bool.false_and]
    · have e0 : ¬ x.f2.isEmpty = true := by
        rw [List.isEmpty_iff]
        intro e
        rw [e] at c1
        exact c1 rfl
      rw [if_neg e0]
      have key : ∀ d i : Nat, i + d = x.f2.length → Ev (fun k => spec_l02Form.l0 k h x (i : Int)) (fL h (x.f2.drop i) && (decide (x.f0 = -1) && decide (1 ≤ x.f1 ∧ x.f1 ≤ (x.f2.length : Int)))) := by
        intro d
        induction d with
        | zero =>
          intro i hi
          rw [List.drop_eq_nil_of_le (by omega), show fL h [] = true from by simp only [fL], Bool.true_and]
          refine Ev.step (f := fun _ => some (decide (x.f0 = -1) && decide (1 ≤ x.f1 ∧ x.f1 ≤ (x.f2.length : Int)))) (fun k => ?_) (Ev.now _)
          simp only [spec_l02Form.l0]
          rw [if_neg (by omega)]
          by_cases c2 : x.f0 = -1
          · rw [if_pos c2, spec_l00In_eq, decide_eq_true c2, Bool.true_and]
          · rw [if_neg c2, decide_eq_false c2, Bool.false_and]
        | succ d ihd =>
          intro i hi
          have hlt : i < x.f2.length := by omega
          have hx := mL_mem (List.getElem_mem hlt)
          rw [List.drop_eq_getElem_cons hlt, show fL h (x.f2[i] :: x.f2.drop (i + 1)) = (fT h x.f2[i] && fL h (x.f2.drop (i + 1))) from by simp only [fL]]
          refine Ev.step (f := fun k => (spec_l02Form.f k h x.f2[i]).bind fun t => if t = true then spec_l02Form.l0 k h x ((i + 1 : Nat) : Int) else some false) (fun k => ?_) (Ev.bind (ih (mT x.f2[i]) (by omega) _ (Nat.le_refl _) (by omega)) ?_)
          · simp only [spec_l02Form.l0]
            rw [if_pos (by omega), if_pos (by omega), rdT_impl _ i hlt, wr (x := (i : Int) + 1) (by omega) (by omega)]
            rfl
          · cases fT h x.f2[i] with
            | true => rw [Bool.true_and]; exact ihd (i + 1) (by omega)
            | false => exact Ev.now _
      have hq := key x.f2.length 0 (by omega)
      rw [List.drop_zero] at hq
      exact Ev.step (f := fun k => spec_l02Form.l0 k h x 0) (fun k => by simp only [spec_l02Form.f]; rw [if_neg c1]) hq
theorem isFormed_ev (h : Int) (hh : 1 ≤ h ∧ h ≤ 7) : ∀ (d : Nat), d ≤ 1000 → ∀ x : S29, mT x ≤ 1048576 → Ev (fun k => impl_Gate_isFormed.f k x.f0 x.f1 x.f2 h (d : Int)) (decide (dT x ≤ d) && fT h x) := by
  intro d
  induction d with
  | zero =>
    intro hd x hm
    rw [decide_eq_false (by rw [dT_parts]; omega), Bool.false_and]
    exact Ev.step (f := fun _ => some false) (fun k => by simp only [impl_Gate_isFormed.f]; rw [if_pos (by omega)]) (Ev.now _)
  | succ d ih =>
    intro hd x hm
    have hk := mT_kids x
    have hl := mL_len x.f2
    rw [fT_parts]
    by_cases c1 : (x.f2.length : Int) = 0
    · have e1 : x.f2 = [] := List.eq_nil_of_length_eq_zero (by omega)
      have e0 : x.f2.isEmpty = true := by rw [List.isEmpty_iff]; exact e1
      rw [if_pos e0, decide_eq_true (by rw [dT_parts, e1, dL_nil]; omega), Bool.true_and]
      refine Ev.step (f := fun _ => some (decide (x.f1 = 0) && decide (0 ≤ x.f0 ∧ x.f0 ≤ h - 1))) (fun k => ?_) (Ev.now _)
      simp only [impl_Gate_isFormed.f]
      rw [if_neg (by omega), if_pos c1, impl_within_eq, wr (by omega) (by omega)]
      simp only [Option.bind_some]
      by_cases c2 : x.f1 = 0
      · rw [decide_eq_true c2, Bool.true_and, beq_iff_eq.mpr c2]
        cases decide (0 ≤ x.f0 ∧ x.f0 ≤ h - 1) <;> rfl
      · rw [decide_eq_false c2, Bool.false_and, beq_eq_false_iff_ne.mpr c2]
        cases decide (0 ≤ x.f0 ∧ x.f0 ≤ h - 1) <;> rfl
    · have e0 : ¬ x.f2.isEmpty = true := by
        rw [List.isEmpty_iff]
        intro e
        rw [e] at c1
        exact c1 rfl
      rw [if_neg e0, show decide (dT x ≤ d + 1) = decide (dL x.f2 ≤ d) from by rw [dT_parts]; by_cases q : dL x.f2 ≤ d; rw [decide_eq_true q, decide_eq_true (by omega)]; rw [decide_eq_false q, decide_eq_false (by omega)]]
      by_cases c2 : x.f0 = -1
      · cases hw : decide (1 ≤ x.f1 ∧ x.f1 ≤ (x.f2.length : Int)) with
        | false =>
          rw [Bool.and_false, Bool.and_false, Bool.and_false]
          refine Ev.step (f := fun _ => some false) (fun k => ?_) (Ev.now _)
          simp only [impl_Gate_isFormed.f]
          rw [if_neg (by omega), if_neg c1, if_pos c2, impl_within_eq, hw]
          rfl
        | true =>
          rw [decide_eq_true c2, Bool.true_and, Bool.and_true, dL_le, fL_all]
          have hb := hasG_ev (fun k y => (impl_Gate_isFormed.f k y.f0 y.f1 y.f2 h (d : Int)).bind fun t => some (!t)) (fun y => !(decide (dT y ≤ d) && fT h y)) x.f2 (by omega) (fun y hy => Ev.bind (ih (by omega) y (by have := mL_mem hy; omega)) (Ev.now _)) (fun y k => LeO.bind (impl_Gate_isFormed.mono_l k _ _ _ _ _) (fun _ => LeO.refl _))
          refine Ev.step (f := fun k => (hasG.f k (fun y => (impl_Gate_isFormed.f k y.f0 y.f1 y.f2 h (d : Int)).bind fun t => some (!t)) x.f2).bind fun v => some (!v)) (fun k => ?_) (Ev.bind hb ?_)
          · simp only [impl_Gate_isFormed.f]
            rw [if_neg (by omega), if_neg c1, if_pos c2, impl_within_eq, hw, wr (by omega) (by omega), show ((d + 1 : Nat) : Int) - 1 = (d : Int) by omega]
            rfl
          · rw [not_any_allG, show (x.f2.all fun y => decide (dT y ≤ d) && fT h y) = (x.f2.all (fun x => decide (dT x ≤ d)) && x.f2.all (fT h)) from all_and _ _ _]
            exact Ev.now _
      · rw [decide_eq_false c2, Bool.false_and, Bool.and_false, Bool.and_false]
        exact Ev.step (f := fun _ => some false) (fun k => by simp only [impl_Gate_isFormed.f]; rw [if_neg (by omega), if_neg c1, if_neg c2]) (Ev.now _)
/-- Is a gate valid? -/
def okT (h : Int) (x : S29) : Bool := decide (1 ≤ h ∧ h ≤ 7) && (decide (1 + mT x ≤ 60) && (decide (dT x ≤ 12) && fT h x))
theorem spec_l02Ok_ev (h : Int) (x : S29) (hx : mT x ≤ 1048576) : Ev (fun k => spec_l02Ok.f k h x) (okT h x) := by
  unfold spec_l02Ok.f okT
  rw [spec_l00In_eq]
  simp only [Option.bind_some]
  cases h1 : decide (1 ≤ h ∧ h ≤ 7) with
  | false => exact Ev.now _
  | true =>
    have hh := of_decide_eq_true h1
    simp only [if_true, Bool.true_and]
    obtain ⟨t, ht, g1, g2, _⟩ := spec_l02Left_ev _ x (Nat.le_refl _) hx 60 (by omega) (by omega)
    refine Ev.bind ht ?_
    by_cases c1 : 1 + mT x ≤ 60
    · have := g1 (by omega)
      simp only [if_pos (show t ≥ 0 by omega), decide_eq_true c1, Bool.true_and]
      refine Ev.bind (spec_l02Depth_ev _ x (Nat.le_refl _) hx) ?_
      by_cases c2 : dT x ≤ 12
      · simp only [if_pos (show (dT x : Int) ≤ 12 by omega), decide_eq_true c2, Bool.true_and]
        exact spec_l02Form_ev h hh _ x (Nat.le_refl _) hx
      · simp only [if_neg (show ¬ (dT x : Int) ≤ 12 by omega), decide_eq_false c2, Bool.false_and]
        exact Ev.now _
    · have := g2 (by omega)
      simp only [if_neg (show ¬ t ≥ 0 by omega), decide_eq_false c1, Bool.false_and]
      exact Ev.now _
theorem impl_ValidGate_ev (h a b : Int) (l : List S29) (hm : mL l ≤ 1048576) : Ev (fun k => impl_ValidGate.f k h a b l) (okT h ⟨a, b, l⟩) := by
  have hx : mT (⟨a, b, l⟩ : S29) ≤ 1048576 := by rw [mT_kids]; exact hm
  have hk : mT (⟨a, b, l⟩ : S29) = mL l := by rw [mT_kids]
  unfold impl_ValidGate.f okT
  rw [impl_within_eq]
  simp only [Option.bind_some]
  cases h1 : decide (1 ≤ h ∧ h ≤ 7) with
  | false => exact Ev.now _
  | true =>
    have hh := of_decide_eq_true h1
    simp only [if_true, Bool.true_and]
    refine Ev.bind (isFormed_ev h hh 12 (by omega) ⟨a, b, l⟩ hx) ?_
    cases decide (dT (⟨a, b, l⟩ : S29) ≤ 12) && fT h ⟨a, b, l⟩ with
    | false => rw [Bool.and_false]; exact Ev.now _
    | true =>
      rw [Bool.and_true, hk]
      simp only [if_true]
      refine Ev.bind (impl_GateSize_ev _ a b l (Nat.le_refl _) hm) ?_
      rw [show decide (((1 + mL l : Nat) : Int) ≤ 60) = decide (1 + mL l ≤ 60) from by by_cases q : 1 + mL l ≤ 60; rw [decide_eq_true q, decide_eq_true (by omega)]; rw [decide_eq_false q, decide_eq_false (by omega)]]
      exact Ev.now _

end Go.Proofs.Ytjnobnmjhpmpfaa.P

namespace Go.Proofs.Ytjnobnmjhpmpfaa.P
open Go.RowKit Go.Proofs.YtjnobnmjhpmpfaaW.PrintWords Go.Proofs.YtjnobnmjhpmpfaaW.PrintLast Go.Proofs.YtjnobnmjhpmpfaaW.PrintMore
attribute [local go_sem] max2_int min2_int max_two min_two max_three min_three max_four min_four
set_option linter.unusedVariables false
set_option linter.unusedSimpArgs false

/-- A loop that goes on while q says yes; each round knows what the ones before it found. -/
theorem scan2_ev {ρ : Type} {l : Nat → Int → Option ρ} {n : Nat} {q : Nat → Bool} {fin stop : ρ}
    (hgo : ∀ i : Nat, i < n → (∀ j, j < i → q j = true) → q i = true → ∀ r, Ev (fun k => l k ((i + 1 : Nat) : Int)) r → Ev (fun k => l k (i : Int)) r)
    (hstop : ∀ i : Nat, i < n → (∀ j, j < i → q j = true) → q i = false → Ev (fun k => l k (i : Int)) stop)
    (hend : (∀ j, j < n → q j = true) → Ev (fun k => l k (n : Int)) fin) : Ev (fun k => l k 0) (if (List.range n).all q then fin else stop) := by
  have key : ∀ d i : Nat, i + d = n → (∀ j, j < i → q j = true) → Ev (fun k => l k (i : Int)) (if ((List.range n).drop i).all q then fin else stop) := by
    intro d
    induction d with
    | zero =>
      intro i hi hp
      obtain rfl : i = n := by omega
      rw [List.drop_eq_nil_of_le (by simp)]
      exact hend hp
    | succ d ih =>
      intro i hi hp
      rw [List.drop_eq_getElem_cons (by simp; omega), List.getElem_range, List.all_cons]
      cases hq : q i with
      | false => exact hstop i (by omega) hp hq
      | true =>
        rw [Bool.true_and]
        refine hgo i (by omega) hp hq _ (ih (i + 1) (by omega) fun j hj => ?_)
        rcases Nat.lt_succ_iff_lt_or_eq.mp hj with hj | rfl
        · exact hp j hj
        · exact hq
  have := key n 0 (by omega) (by omega)
  rw [List.drop_zero] at this
  exact this
/-- A loop that stops where q says no, if q says no anywhere. -/
theorem stop_ev {ρ : Type} {l : Nat → Int → Option ρ} {n : Nat} {q : Nat → Bool} {stop : ρ}
    (hgo : ∀ i : Nat, i < n → q i = true → ∀ r, Ev (fun k => l k ((i + 1 : Nat) : Int)) r → Ev (fun k => l k (i : Int)) r)
    (hstop : ∀ i : Nat, i < n → q i = false → Ev (fun k => l k (i : Int)) stop)
    (hn : (List.range n).all q = false) : Ev (fun k => l k 0) stop := by
  have key : ∀ d i : Nat, i + d = n → ((List.range n).drop i).all q = false → Ev (fun k => l k (i : Int)) stop := by
    intro d
    induction d with
    | zero =>
      intro i hi h
      rw [List.drop_eq_nil_of_le (by simp; omega)] at h
      simp at h
    | succ d ih =>
      intro i hi h
      rw [List.drop_eq_getElem_cons (by simp; omega), List.getElem_range, List.all_cons] at h
      cases hq : q i with
      | false => exact hstop i (by omega) hq
      | true =>
        rw [hq, Bool.true_and] at h
        exact hgo i (by omega) hq _ (ih (i + 1) (by omega) h)
  exact key n 0 (by omega) (by rwa [List.drop_zero])
def grp (gs : List (List Int)) (i : Nat) : List Int := gs.getD i []
theorem rdL_grp (gs : List (List Int)) (i : Nat) (h : i < gs.length) : rd_L6 gs (i : Int) = grp gs i := by
  rw [rdL_nat gs i h]; simp [grp, h]
theorem grp_len {gs : List (List Int)} {m : Nat} (hr : ∀ r ∈ gs, r.length ≤ m) (i : Nat) : (grp gs i).length ≤ m := by
  unfold grp
  by_cases h : i < gs.length
  · rw [List.getD_eq_getElem?_getD, List.getElem?_eq_getElem h]; exact hr _ (List.getElem_mem h)
  · rw [List.getD_eq_getElem?_getD, List.getElem?_eq_none (by omega)]; exact Nat.zero_le _

end Go.Proofs.Ytjnobnmjhpmpfaa.P

namespace Go.Proofs.Ytjnobnmjhpmpfaa.P
open Go.RowKit Go.Proofs.YtjnobnmjhpmpfaaW.PrintWords Go.Proofs.YtjnobnmjhpmpfaaW.PrintLast Go.Proofs.YtjnobnmjhpmpfaaW.PrintMore
attribute [local go_sem] max2_int min2_int max_two min_two max_three min_three max_four min_four
set_option linter.unusedVariables false
set_option linter.unusedSimpArgs false

theorem orI0 : ∀ x : Fin 128, ∀ y : Fin 128, Go.bits .or .i64 (x.val : Int) (y.val : Int) = ((x.val ||| y.val : Nat) : Int) := by decide +kernel
theorem orU0 : ∀ x : Fin 128, ∀ y : Fin 128, Go.bits .or .u64 (x.val : Int) (y.val : Int) = ((x.val ||| y.val : Nat) : Int) := by decide +kernel
theorem andI0 : ∀ x : Fin 128, ∀ y : Fin 128, Go.bits .and .i64 (x.val : Int) (y.val : Int) = ((x.val &&& y.val : Nat) : Int) := by decide +kernel
theorem andU0 : ∀ x : Fin 128, ∀ y : Fin 128, Go.bits .and .u64 (x.val : Int) (y.val : Int) = ((x.val &&& y.val : Nat) : Int) := by decide +kernel
theorem orI {x y : Nat} (hx : x < 128) (hy : y < 128) : Go.bits .or .i64 (x : Int) (y : Int) = ((x ||| y : Nat) : Int) := orI0 ⟨x, hx⟩ ⟨y, hy⟩
theorem orU {x y : Nat} (hx : x < 128) (hy : y < 128) : Go.bits .or .u64 (x : Int) (y : Int) = ((x ||| y : Nat) : Int) := orU0 ⟨x, hx⟩ ⟨y, hy⟩
theorem andI {x y : Nat} (hx : x < 128) (hy : y < 128) : Go.bits .and .i64 (x : Int) (y : Int) = ((x &&& y : Nat) : Int) := andI0 ⟨x, hx⟩ ⟨y, hy⟩
theorem andU {x y : Nat} (hx : x < 128) (hy : y < 128) : Go.bits .and .u64 (x : Int) (y : Int) = ((x &&& y : Nat) : Int) := andU0 ⟨x, hx⟩ ⟨y, hy⟩
theorem shlI0 : ∀ h : Fin 7, shl .i64 1 (IntKind.u64.wrap (h.val : Int)) = ((2 ^ h.val : Nat) : Int) := by decide +kernel
theorem shlU0 : ∀ h : Fin 7, shl .u64 1 (h.val : Int) = ((2 ^ h.val : Nat) : Int) := by decide +kernel
theorem wrapU0 : ∀ h : Fin 8, (0 : Int) ≤ IntKind.u64.wrap (h.val : Int) := by decide +kernel
theorem shlI {h : Int} (h0 : 0 ≤ h ∧ h ≤ 6) : shl .i64 1 (IntKind.u64.wrap h) = ((2 ^ h.toNat : Nat) : Int) := by
  have := shlI0 ⟨h.toNat, by omega⟩
  rwa [show ((⟨h.toNat, by omega⟩ : Fin 7).val : Int) = h from by simp; omega] at this
theorem shlU {h : Int} (h0 : 0 ≤ h ∧ h ≤ 6) : shl .u64 1 h = ((2 ^ h.toNat : Nat) : Int) := by
  have := shlU0 ⟨h.toNat, by omega⟩
  rwa [show ((⟨h.toNat, by omega⟩ : Fin 7).val : Int) = h from by simp; omega] at this
theorem wrapU {h : Int} (h0 : 0 ≤ h ∧ h ≤ 7) : (0 : Int) ≤ IntKind.u64.wrap h := by
  have := wrapU0 ⟨h.toNat, by omega⟩
  rwa [show ((⟨h.toNat, by omega⟩ : Fin 8).val : Int) = h from by simp; omega] at this
/-- A group as a number. -/
def maskN (l : List Int) : Nat := l.foldl (fun m h => m ||| 2 ^ h.toNat) 0
theorem maskN_take (l : List Int) (i : Nat) (h : i < l.length) : maskN (l.take (i + 1)) = maskN (l.take i) ||| 2 ^ l[i].toNat := by
  unfold maskN
  rw [List.take_succ_eq_append_getElem h, List.foldl_append]
  rfl
theorem two_lt {h : Int} (h0 : 0 ≤ h ∧ h ≤ 6) : 2 ^ h.toNat < 128 := by
  have : 2 ^ h.toNat ≤ 2 ^ 6 := Nat.pow_le_pow_right (by omega) (by omega)
  omega
theorem or_lt {x y : Nat} (hx : x < 128) (hy : y < 128) : x ||| y < 128 := Nat.or_lt_two_pow (n := 7) hx hy
theorem mask_lt (l : List Int) (h : ∀ x ∈ l, 0 ≤ x ∧ x ≤ 6) : ∀ m, m < 128 → l.foldl (fun m h => m ||| 2 ^ h.toNat) m < 128 := by
  induction l with
  | nil => exact fun m hm => hm
  | cons a l ih =>
    intro m hm
    exact ih (fun x hx => h x (List.mem_cons_of_mem _ hx)) _ (or_lt hm (two_lt (h a (List.mem_cons_self ..))))
theorem maskN_lt (l : List Int) (h : ∀ x ∈ l, 0 ≤ x ∧ x ≤ 6) : maskN l < 128 := mask_lt l h 0 (by omega)
theorem take_small {l : List Int} (h : ∀ x ∈ l, 0 ≤ x ∧ x ≤ 6) (i : Nat) : ∀ x ∈ l.take i, 0 ≤ x ∧ x ≤ 6 := fun x hx => h x (List.mem_of_mem_take hx)
theorem risesB_mem {lo hi : Int} : ∀ (l : List Int) (o : Option Int), risesB lo hi o l = true → ∀ x ∈ l, lo ≤ x ∧ x ≤ hi
  | [], _, _, x, hx => by simp at hx
  | a :: l, o, h, x, hx => by
    have h1 : (lo ≤ a ∧ a ≤ hi) ∧ risesB lo hi (some a) l = true := by
      cases o <;> simp [risesB] at h <;> simp_all
    rcases List.mem_cons.mp hx with rfl | hx
    · exact h1.1
    · exact risesB_mem l (some a) h1.2 x hx
theorem group_small {h : Int} (hh : h ≤ 7) {l : List Int} (hg : groupB h l = true) : ∀ x ∈ l, 0 ≤ x ∧ x ≤ 6 := fun x hx => by
  have := risesB_mem l none hg x hx
  omega
theorem impl_crowdOf_ev (l : List Int) (h : ∀ x ∈ l, 0 ≤ x ∧ x ≤ 6) (hl : l.length ≤ 4611686018427387904) : Ev (fun k => impl_crowdOf.f k l) (maskN l : Int) := by
  unfold impl_crowdOf.f
  have key : ∀ d i : Nat, i + d = l.length → Ev (fun k => impl_crowdOf.l0 k (maskN (l.take i) : Int) l (l.length : Int) (i : Int)) (maskN l : Int) := by
    intro d
    induction d with
    | zero =>
      intro i hi
      refine Ev.step (f := fun _ => some (maskN l : Int)) (fun k => ?_) (Ev.now _)
      simp only [impl_crowdOf.l0]
      rw [if_neg (by omega), List.take_of_length_le (by omega)]
    | succ d ih =>
      intro i hi
      have hlt : i < l.length := by omega
      have hx := h _ (List.getElem_mem hlt)
      refine Ev.step (fun k => ?_) (ih (i + 1) (by omega))
      simp only [impl_crowdOf.l0]
      rw [if_pos (by omega), if_pos (by omega), if_pos (by omega), rd_nat l i hlt, if_pos hx.1, shlU hx, orU (maskN_lt _ (take_small h i)) (two_lt hx), wr (by omega) (by omega), ← maskN_take l i hlt]
      rfl
  exact key l.length 0 (by omega)
theorem spec_l01Bits_ev (l : List Int) (h : ∀ x ∈ l, 0 ≤ x ∧ x ≤ 6) (hl : l.length ≤ 4611686018427387904) : Ev (fun k => spec_l01Bits.f k l) (maskN l : Int) := by
  unfold spec_l01Bits.f
  have key : ∀ d i : Nat, i + d = l.length → Ev (fun k => spec_l01Bits.l0 k l (maskN (l.take i) : Int) (i : Int)) (maskN l : Int) := by
    intro d
    induction d with
    | zero =>
      intro i hi
      refine Ev.step (f := fun _ => some (maskN l : Int)) (fun k => ?_) (Ev.now _)
      simp only [spec_l01Bits.l0]
      rw [if_neg (by omega), List.take_of_length_le (by omega)]
    | succ d ih =>
      intro i hi
      have hlt : i < l.length := by omega
      have hx := h _ (List.getElem_mem hlt)
      refine Ev.step (fun k => ?_) (ih (i + 1) (by omega))
      simp only [spec_l01Bits.l0]
      rw [if_pos (by omega), if_pos (by omega), rd_nat l i hlt, if_pos (wrapU (by omega)), shlI hx, orI (maskN_lt _ (take_small h i)) (two_lt hx), wr (by omega) (by omega), ← maskN_take l i hlt]
      rfl
  exact key l.length 0 (by omega)
/-- The order of lists. -/
def ltB : List Int → List Int → Bool
  | [], [] => false
  | [], _ :: _ => true
  | _ :: _, [] => false
  | x :: a, y :: b => if x = y then ltB a b else decide (x < y)
theorem spec_l01Before_ev (a b : List Int) (ha : a.length ≤ 4611686018427387904) (hb : b.length ≤ 4611686018427387904) : Ev (fun k => spec_l01Before.f k a b) (ltB a b) := by
  unfold spec_l01Before.f
  have key : ∀ d i : Nat, i + d = a.length → i ≤ b.length → Ev (fun k => spec_l01Before.l0 k a b (i : Int)) (ltB (a.drop i) (b.drop i)) := by
    intro d
    induction d with
    | zero =>
      intro i hi hib
      rw [List.drop_eq_nil_of_le (show a.length ≤ i by omega)]
      refine Ev.step (f := fun k => spec_l01Before.j1 k a b (i : Int) false) (fun k => ?_) (Ev.step (f := fun _ => some (decide ((a.length : Int) < (b.length : Int)))) (fun k => ?_) ?_)
      · simp only [spec_l01Before.l0]
        rw [if_neg (by omega)]
      · simp only [spec_l01Before.j1]
        rw [if_neg (by decide)]
      · by_cases hlt : i < b.length
        · rw [List.drop_eq_getElem_cons hlt, decide_eq_true (by omega)]
          exact Ev.now _
        · rw [List.drop_eq_nil_of_le (by omega), decide_eq_false (by omega)]
          exact Ev.now _
    | succ d ih =>
      intro i hi hib
      have h1 : i < a.length := by omega
      rw [List.drop_eq_getElem_cons h1]
      by_cases h2 : i < b.length
      · rw [List.drop_eq_getElem_cons h2]
        refine Ev.step (f := fun k => spec_l01Before.j1 k a b (i : Int) true) (fun k => ?_) ?_
        · simp only [spec_l01Before.l0]
          rw [if_pos (by omega), decide_eq_true (by omega)]
        · unfold ltB
          by_cases e : a[i] = b[i]
          · rw [if_pos e]
            refine Ev.step (fun k => ?_) (ih (i + 1) (by omega) (by omega))
            simp only [spec_l01Before.j1, if_true]
            rw [if_pos (by omega), if_pos (by omega), if_pos (by omega), rd_nat a i h1, rd_nat b i h2, if_pos e, wr (by omega) (by omega)]
            rfl
          · rw [if_neg e]
            refine Ev.step (f := fun _ => some (decide (a[i] < b[i]))) (fun k => ?_) (Ev.now _)
            simp only [spec_l01Before.j1, if_true]
            rw [if_pos (by omega), if_pos (by omega), if_pos (by omega), rd_nat a i h1, rd_nat b i h2, if_neg e]
      · rw [List.drop_eq_nil_of_le (show b.length ≤ i by omega)]
        refine Ev.step (f := fun k => spec_l01Before.j1 k a b (i : Int) false) (fun k => ?_) (Ev.step (f := fun _ => some (decide ((a.length : Int) < (b.length : Int)))) (fun k => ?_) ?_)
        · simp only [spec_l01Before.l0]
          rw [if_pos (by omega), decide_eq_false (by omega)]
        · simp only [spec_l01Before.j1]
          rw [if_neg (by decide)]
        · rw [decide_eq_false (by omega)]
          exact Ev.now _
  exact key a.length 0 (by omega) (by omega)
theorem cmp_lt {x y : Int} (h : x < y) : cmp_Compare_int64.f x y = some (-1) := by
  simp [cmp_Compare_int64.f, cmp_isNaN_int64.f, h]
theorem cmp_gt {x y : Int} (h : y < x) : cmp_Compare_int64.f x y = some 1 := by
  simp [cmp_Compare_int64.f, cmp_isNaN_int64.f, h]
  omega
theorem cmp_eq {x y : Int} (h : x = y) : cmp_Compare_int64.f x y = some 0 := by
  simp [cmp_Compare_int64.f, cmp_isNaN_int64.f, h]
theorem sliceCmp_ev (a b : List Int) (ha : a.length ≤ 4611686018427387904) (hb : b.length ≤ 4611686018427387904) : ∃ t : Int, Ev (fun k => slices_Compare_int64_int64.f k a b) t ∧ decide (t ≥ 0) = !ltB a b := by
  have key : ∀ d i : Nat, i + d = a.length → i ≤ b.length → ∃ t : Int, Ev (fun k => slices_Compare_int64_int64.l0 k a b a (a.length : Int) (i : Int)) t ∧ decide (t ≥ 0) = !ltB (a.drop i) (b.drop i) := by
    intro d
    induction d with
    | zero =>
      intro i hi hib
      rw [List.drop_eq_nil_of_le (show a.length ≤ i by omega)]
      by_cases hlt : i < b.length
      · refine ⟨-1, Ev.step (f := fun _ => some (-1)) (fun k => ?_) (Ev.now _), ?_⟩
        · simp only [slices_Compare_int64_int64.l0]
          rw [if_neg (by omega), if_pos (by omega)]
        · rw [List.drop_eq_getElem_cons hlt]; rfl
      · refine ⟨0, Ev.step (f := fun _ => some 0) (fun k => ?_) (Ev.now _), ?_⟩
        · simp only [slices_Compare_int64_int64.l0]
          rw [if_neg (by omega), if_neg (by omega)]
        · rw [List.drop_eq_nil_of_le (by omega)]; rfl
    | succ d ih =>
      intro i hi hib
      have h1 : i < a.length := by omega
      rw [List.drop_eq_getElem_cons h1]
      by_cases h2 : i < b.length
      · rw [List.drop_eq_getElem_cons h2]
        unfold ltB
        have one : ∀ {t : Int} {f : Nat → Option Int}, (∀ k, (cmp_Compare_int64.f a[i] b[i]).bind (fun t => if t = 0 then slices_Compare_int64_int64.l0 k a b a (a.length : Int) ((i + 1 : Nat) : Int) else some t) = f k) → Ev f t → Ev (fun k => slices_Compare_int64_int64.l0 k a b a (a.length : Int) (i : Int)) t := fun h he => by
          refine Ev.step (fun k => ?_) he
          rw [← h]
          simp only [slices_Compare_int64_int64.l0]
          rw [if_pos (by omega), if_pos (by omega), if_pos (by omega), if_neg (by omega), if_pos (by omega), rd_nat a i h1, rd_nat b i h2, wr (by omega) (by omega)]
          rfl
        by_cases e : a[i] = b[i]
        · rw [if_pos e]
          obtain ⟨t, ht, hd⟩ := ih (i + 1) (by omega) (by omega)
          refine ⟨t, one (fun k => ?_) ht, hd⟩
          rw [cmp_eq e, Option.bind_some, if_pos rfl]
        · rw [if_neg e]
          by_cases hlt : a[i] < b[i]
          · refine ⟨-1, one (f := fun _ => some (-1)) (fun k => ?_) (Ev.now _), ?_⟩
            · rw [cmp_lt hlt, Option.bind_some, if_neg (by decide)]
            · rw [decide_eq_true hlt]; rfl
          · refine ⟨1, one (f := fun _ => some 1) (fun k => ?_) (Ev.now _), ?_⟩
            · rw [cmp_gt (by omega), Option.bind_some, if_neg (by decide)]
            · rw [decide_eq_false hlt]; rfl
      · rw [List.drop_eq_nil_of_le (show b.length ≤ i by omega)]
        refine ⟨1, Ev.step (f := fun _ => some 1) (fun k => ?_) (Ev.now _), rfl⟩
        simp only [slices_Compare_int64_int64.l0]
        rw [if_pos (by omega), if_pos (by omega), if_pos (by omega), if_pos (by omega)]
  exact key a.length 0 (by omega) (by omega)

end Go.Proofs.Ytjnobnmjhpmpfaa.P

namespace Go.Proofs.Ytjnobnmjhpmpfaa.P
open Go.RowKit Go.Proofs.YtjnobnmjhpmpfaaW.PrintWords Go.Proofs.YtjnobnmjhpmpfaaW.PrintLast Go.Proofs.YtjnobnmjhpmpfaaW.PrintMore
attribute [local go_sem] max2_int min2_int max_two min_two max_three min_three max_four min_four
set_option linter.unusedVariables false
set_option linter.unusedSimpArgs false

def okAt (h : Int) (gs : List (List Int)) (i : Nat) : Bool := groupB h (grp gs i) && (decide (i = 0) || ltB (grp gs (i - 1)) (grp gs i))
def withinB (a b : List Int) : Bool := (maskN a &&& maskN b) == maskN a
def pairB (gs : List (List Int)) (i j : Nat) : Bool := !withinB (grp gs i) (grp gs j) && !withinB (grp gs j) (grp gs i)
def famB (h : Int) (gs : List (List Int)) : Bool := decide (1 ≤ h ∧ h ≤ 7) && (List.range gs.length).all fun i => okAt h gs i && (List.range i).all (pairB gs i)
theorem okAt_group {h : Int} {gs : List (List Int)} {i : Nat} (ho : okAt h gs i = true) : groupB h (grp gs i) = true := by
  unfold okAt at ho
  exact (Bool.and_eq_true _ _ ▸ ho).1
theorem spec_l01Within_ev (a b : List Int) (ha : ∀ x ∈ a, 0 ≤ x ∧ x ≤ 6) (hb : ∀ x ∈ b, 0 ≤ x ∧ x ≤ 6) (hla : a.length ≤ 4611686018427387904) (hlb : b.length ≤ 4611686018427387904) : Ev (fun k => spec_l01Within.f k a b) (withinB a b) := by
  unfold spec_l01Within.f
  refine Ev.bind (spec_l01Bits_ev a ha hla) (Ev.bind (spec_l01Bits_ev b hb hlb) ?_)
  rw [andI (maskN_lt a ha) (maskN_lt b hb)]
  rw [show (((maskN a &&& maskN b : Nat) : Int) == (maskN a : Int)) = withinB a b from by
    unfold withinB
    by_cases e : (maskN a &&& maskN b) = maskN a
    · rw [e]; simp
    · rw [beq_eq_false_iff_ne.mpr (by omega), beq_eq_false_iff_ne.mpr e]]
  exact Ev.now _
theorem contains_eq (a b : List Int) (ha : ∀ x ∈ a, 0 ≤ x ∧ x ≤ 6) (hb : ∀ x ∈ b, 0 ≤ x ∧ x ≤ 6) : impl_crowd_contains.f (maskN a : Int) (maskN b : Int) = some (withinB b a) := by
  unfold impl_crowd_contains.f
  rw [andU (maskN_lt a ha) (maskN_lt b hb)]
  congr 1
  unfold withinB
  by_cases e : (maskN b &&& maskN a) = maskN b
  · rw [Nat.and_comm, e]; simp
  · rw [beq_eq_false_iff_ne.mpr (by rw [Nat.and_comm]; omega), beq_eq_false_iff_ne.mpr e]
theorem impl_ValidFamily_ev (h : Int) (gs : List (List Int)) (hl : gs.length ≤ 4611686018427387904) (hr : ∀ r ∈ gs, r.length ≤ 4611686018427387904) : Ev (fun k => impl_ValidFamily.f k h gs) (famB h gs) := by
  unfold impl_ValidFamily.f famB
  rw [impl_within_eq]
  simp only [Option.bind_some]
  cases hh : decide (1 ≤ h ∧ h ≤ 7) with
  | false => exact Ev.now _
  | true =>
    have hh' := of_decide_eq_true hh
    simp only [if_true, Bool.true_and]
    have inner : ∀ (i : Nat), i < gs.length → (∀ j, j ≤ i → okAt h gs j = true) → ∀ {r : Bool}, ((List.range i).all (pairB gs i) = true → Ev (fun k => impl_ValidFamily.l0 k gs (gs.length : Int) ((i + 1 : Nat) : Int) h gs) r) → Ev (fun k => impl_ValidFamily.j1 k (i : Int) (grp gs i) gs (gs.length : Int) (i : Int) false h gs) (if (List.range i).all (pairB gs i) then r else false) := by
      intro i hi hok r hr'
      have sm : ∀ j, j ≤ i → ∀ x ∈ grp gs j, 0 ≤ x ∧ x ≤ 6 := fun j hj => group_small hh'.2 (okAt_group (hok j hj))
      have hyl : (gs.take i).length = i := by rw [List.length_take]; omega
      refine Ev.step (f := fun k => impl_ValidFamily.l1 k (grp gs i) gs (gs.length : Int) (i : Int) (gs.take i) ((gs.take i).length : Int) 0 h gs) (fun k => ?_) ?_
      · simp only [impl_ValidFamily.j1]
        rw [if_neg (by decide), if_pos (by omega), if_pos (by omega), Option.bind_some, Int.toNat_natCast]
      · have one : ∀ j, j < i → Ev (fun k => impl_ValidFamily.l1 (k + 1) (grp gs i) gs (gs.length : Int) (i : Int) (gs.take i) ((gs.take i).length : Int) (j : Int) h gs) = Ev (fun k => (impl_crowdOf.f k (grp gs j)).bind fun t185 => ((impl_crowdOf.f k (grp gs i)).bind fun t186 => ((impl_crowd_contains.f t185 t186).bind fun t187 => (if t187 = true then (some false) else ((impl_crowd_contains.f t186 t185).bind fun t188 => (if t188 = true then (some false) else (impl_ValidFamily.l1 k (grp gs i) gs (gs.length : Int) (i : Int) (gs.take i) ((gs.take i).length : Int) ((j + 1 : Nat) : Int) h gs))))))) := fun j hj => by
          congr 1
          funext k
          simp only [impl_ValidFamily.l1]
          have hrow : rd_L6 (gs.take i) (j : Int) = grp gs j := by
            rw [rdL_nat _ j (by omega), List.getElem_take]
            simp [grp, show j < gs.length by omega]
          rw [if_pos (by omega), if_pos (by omega), if_pos (by omega), hrow, wr (by omega) (by omega)]
          rfl
        have body : ∀ j, j < i → ∀ {f : Nat → Option Bool} {t : Bool}, (∀ k, (if pairB gs i j then impl_ValidFamily.l1 k (grp gs i) gs (gs.length : Int) (i : Int) (gs.take i) ((gs.take i).length : Int) ((j + 1 : Nat) : Int) h gs else some false) = f k) → Ev f t → Ev (fun k => impl_ValidFamily.l1 k (grp gs i) gs (gs.length : Int) (i : Int) (gs.take i) ((gs.take i).length : Int) (j : Int) h gs) t := by
          intro j hj f t hf he
          refine Ev.step (f := fun k => impl_ValidFamily.l1 (k + 1) (grp gs i) gs (gs.length : Int) (i : Int) (gs.take i) ((gs.take i).length : Int) (j : Int) h gs) (fun k => rfl) ?_
          rw [one j hj]
          refine Ev.bind (impl_crowdOf_ev _ (sm j (by omega)) (grp_len hr j)) (Ev.bind (impl_crowdOf_ev _ (sm i (Nat.le_refl i)) (grp_len hr i)) ?_)
          rw [contains_eq _ _ (sm j (by omega)) (sm i (Nat.le_refl i)), contains_eq _ _ (sm i (Nat.le_refl i)) (sm j (by omega))]
          refine Ev.congr (fun k => ?_) he
          rw [← hf k]
          unfold pairB
          cases withinB (grp gs i) (grp gs j) <;> cases withinB (grp gs j) (grp gs i) <;> rfl
        have hgo : ∀ j : Nat, j < i → pairB gs i j = true → ∀ t, Ev (fun k => impl_ValidFamily.l1 k (grp gs i) gs (gs.length : Int) (i : Int) (gs.take i) ((gs.take i).length : Int) ((j + 1 : Nat) : Int) h gs) t → Ev (fun k => impl_ValidFamily.l1 k (grp gs i) gs (gs.length : Int) (i : Int) (gs.take i) ((gs.take i).length : Int) (j : Int) h gs) t := fun j hj hq t ht => body j hj (fun k => by rw [if_pos hq]) ht
        have hstop : ∀ j : Nat, j < i → pairB gs i j = false → Ev (fun k => impl_ValidFamily.l1 k (grp gs i) gs (gs.length : Int) (i : Int) (gs.take i) ((gs.take i).length : Int) (j : Int) h gs) false := fun j hj hq => body j hj (f := fun _ => some false) (fun k => by rw [hq]; rfl) (Ev.now _)
        cases ha : (List.range i).all (pairB gs i) with
        | false => exact stop_ev (l := fun k j => impl_ValidFamily.l1 k (grp gs i) gs (gs.length : Int) (i : Int) (gs.take i) ((gs.take i).length : Int) j h gs) hgo hstop ha
        | true =>
          have := scan_ev (l := fun k j => impl_ValidFamily.l1 k (grp gs i) gs (gs.length : Int) (i : Int) (gs.take i) ((gs.take i).length : Int) j h gs) (fin := r) (stop := false) hgo hstop (by
            refine Ev.step (fun k => ?_) (hr' ha)
            simp only [impl_ValidFamily.l1]
            rw [if_neg (by omega), wr (by omega) (by omega)]
            rfl)
          rwa [ha] at this
    have hs := scan2_ev (l := fun k i => impl_ValidFamily.l0 k gs (gs.length : Int) i h gs) (n := gs.length) (q := fun i => okAt h gs i && (List.range i).all (pairB gs i)) (fin := true) (stop := false)
      (fun i hi hp hq t ht => by
        have hq' := (Bool.and_eq_true _ _ ▸ hq)
        have hok : ∀ j, j ≤ i → okAt h gs j = true := fun j hj => by
          rcases Nat.lt_or_eq_of_le hj with hj | rfl
          · exact (Bool.and_eq_true _ _ ▸ hp j hj).1
          · exact hq'.1
        have hin := inner i hi hok (r := t) (fun _ => ht)
        rw [hq'.2, if_pos rfl] at hin
        have hg := okAt_group hq'.1
        refine Ev.step (f := fun k => (impl_isGroup.f k h (grp gs i)).bind fun t => if t = true then (if (i : Int) > 0 then (slices_Compare_int64_int64.f k (grp gs (i - 1)) (grp gs i)).bind fun t => impl_ValidFamily.j1 k (i : Int) (grp gs i) gs (gs.length : Int) (i : Int) (decide (t ≥ 0)) h gs else impl_ValidFamily.j1 k (i : Int) (grp gs i) gs (gs.length : Int) (i : Int) false h gs) else impl_ValidFamily.j1 k (i : Int) (grp gs i) gs (gs.length : Int) (i : Int) true h gs) (fun k => ?_) (Ev.bind (impl_group_ev h (grp gs i) (grp_len hr i) (by omega)) ?_)
        · simp only [impl_ValidFamily.l0]
          rw [if_pos (by omega), if_pos (by omega), if_pos (by omega), rdL_grp gs i hi]
          by_cases h0 : (i : Int) > 0
          · simp only [if_pos h0]
            rw [wr (x := (i : Int) - 1) (by omega) (by omega), if_pos (by omega), if_pos (by omega), show ((i : Int) - 1) = ((i - 1 : Nat) : Int) by omega, rdL_grp gs (i - 1) (by omega)]
          · simp only [if_neg h0]
        · simp only [hg, if_true]
          by_cases h0 : (i : Int) > 0
          · simp only [if_pos h0]
            obtain ⟨c, hc, hd⟩ := sliceCmp_ev (grp gs (i - 1)) (grp gs i) (grp_len hr _) (grp_len hr _)
            refine Ev.bind hc ?_
            have : ltB (grp gs (i - 1)) (grp gs i) = true := by
              have h1 := hq'.1
              unfold okAt at h1
              rw [hg, decide_eq_false (show ¬ i = 0 by omega)] at h1
              simpa using h1
            rw [hd, this]
            exact hin
          · simp only [if_neg h0]
            exact hin)
      (fun i hi hp hq => by
        have bad : Ev (fun k => impl_ValidFamily.j1 k (i : Int) (grp gs i) gs (gs.length : Int) (i : Int) true h gs) false := Ev.step (f := fun _ => some false) (fun k => by simp only [impl_ValidFamily.j1, if_true]) (Ev.now _)
        have pre : ∀ j, j < i → okAt h gs j = true := fun j hj => (Bool.and_eq_true _ _ ▸ hp j hj).1
        refine Ev.step (f := fun k => (impl_isGroup.f k h (grp gs i)).bind fun t => if t = true then (if (i : Int) > 0 then (slices_Compare_int64_int64.f k (grp gs (i - 1)) (grp gs i)).bind fun t => impl_ValidFamily.j1 k (i : Int) (grp gs i) gs (gs.length : Int) (i : Int) (decide (t ≥ 0)) h gs else impl_ValidFamily.j1 k (i : Int) (grp gs i) gs (gs.length : Int) (i : Int) false h gs) else impl_ValidFamily.j1 k (i : Int) (grp gs i) gs (gs.length : Int) (i : Int) true h gs) (fun k => ?_) (Ev.bind (impl_group_ev h (grp gs i) (grp_len hr i) (by omega)) ?_)
        · simp only [impl_ValidFamily.l0]
          rw [if_pos (by omega), if_pos (by omega), if_pos (by omega), rdL_grp gs i hi]
          by_cases h0 : (i : Int) > 0
          · simp only [if_pos h0]
            rw [wr (x := (i : Int) - 1) (by omega) (by omega), if_pos (by omega), if_pos (by omega), show ((i : Int) - 1) = ((i - 1 : Nat) : Int) by omega, rdL_grp gs (i - 1) (by omega)]
          · simp only [if_neg h0]
        · cases hg : groupB h (grp gs i) with
          | false => simp only [Bool.false_eq_true, if_false]; exact bad
          | true =>
            simp only [if_true]
            have fin : ∀ {b : Bool}, okAt h gs i = !b → Ev (fun k => impl_ValidFamily.j1 k (i : Int) (grp gs i) gs (gs.length : Int) (i : Int) b h gs) false := by
              intro b hb
              cases b with
              | true => exact bad
              | false =>
                have hok : ∀ j, j ≤ i → okAt h gs j = true := fun j hj => by
                  rcases Nat.lt_or_eq_of_le hj with hj | rfl
                  · exact pre j hj
                  · exact hb
                have hall : (List.range i).all (pairB gs i) = false := by
                  rw [hok i (Nat.le_refl i), Bool.true_and] at hq
                  exact hq
                have := inner i hi hok (r := false) (fun h2 => by rw [hall] at h2; exact absurd h2 (by decide))
                rwa [hall] at this
            by_cases h0 : (i : Int) > 0
            · simp only [if_pos h0]
              obtain ⟨c, hc, hd⟩ := sliceCmp_ev (grp gs (i - 1)) (grp gs i) (grp_len hr _) (grp_len hr _)
              refine Ev.bind hc ?_
              rw [hd]
              refine fin ?_
              unfold okAt
              rw [hg, decide_eq_false (show ¬ i = 0 by omega)]
              simp
            · simp only [if_neg h0]
              refine fin ?_
              unfold okAt
              rw [hg, decide_eq_true (show i = 0 by omega)]
              rfl)
      (fun _ => Ev.step (f := fun _ => some true) (fun k => by
        simp only [impl_ValidFamily.l0]
        rw [if_neg (by omega)]) (Ev.now _))
    rwa [show (if (List.range gs.length).all (fun i => okAt h gs i && (List.range i).all (pairB gs i)) then true else false) = (List.range gs.length).all (fun i => okAt h gs i && (List.range i).all (pairB gs i)) from by cases (List.range gs.length).all (fun i => okAt h gs i && (List.range i).all (pairB gs i)) <;> rfl] at hs

end Go.Proofs.Ytjnobnmjhpmpfaa.P

namespace Go.Proofs.Ytjnobnmjhpmpfaa.P
open Go.RowKit Go.Proofs.YtjnobnmjhpmpfaaW.PrintWords Go.Proofs.YtjnobnmjhpmpfaaW.PrintLast Go.Proofs.YtjnobnmjhpmpfaaW.PrintMore
attribute [local go_sem] max2_int min2_int max_two min_two max_three min_three max_four min_four
set_option linter.unusedVariables false
set_option linter.unusedSimpArgs false

theorem and2 {a b : Bool} (h : (a && b) = true) : a = true ∧ b = true := by simpa using h
def apartAt (gs : List (List Int)) (i : Nat) : Bool := (List.range gs.length).all fun k => decide (i = k) || !withinB (grp gs i) (grp gs k)
theorem famB_eq (h : Int) (gs : List (List Int)) : famB h gs = (decide (1 ≤ h ∧ h ≤ 7) && ((List.range gs.length).all (okAt h gs) && (List.range gs.length).all (apartAt gs))) := by
  unfold famB
  congr 1
  rw [Bool.eq_iff_iff, Bool.and_eq_true, List.all_eq_true, List.all_eq_true, List.all_eq_true]
  constructor
  · intro hq
    refine ⟨fun i hi => (Bool.and_eq_true _ _ ▸ hq i hi).1, fun i hi => ?_⟩
    unfold apartAt
    refine List.all_eq_true.mpr fun k hk => ?_
    rcases Nat.lt_trichotomy i k with hlt | rfl | hlt
    · have := List.all_eq_true.mp (Bool.and_eq_true _ _ ▸ hq k hk).2 i (List.mem_range.mpr hlt)
      unfold pairB at this
      rw [(and2 this).2, Bool.or_true]
    · rw [decide_eq_true rfl, Bool.true_or]
    · have := List.all_eq_true.mp (Bool.and_eq_true _ _ ▸ hq i hi).2 k (List.mem_range.mpr hlt)
      unfold pairB at this
      rw [(and2 this).1, Bool.or_true]
  · rintro ⟨h1, h2⟩ i hi
    rw [h1 i hi, Bool.true_and]
    refine List.all_eq_true.mpr fun j hj => ?_
    have hj' := List.mem_range.mp hj
    have hi' := List.mem_range.mp hi
    have a := h2 i hi
    have b := h2 j (List.mem_range.mpr (by omega))
    unfold apartAt at a b
    have a := List.all_eq_true.mp a j (List.mem_range.mpr (by omega))
    have b := List.all_eq_true.mp b i hi
    rw [decide_eq_false (by omega), Bool.false_or] at a b
    unfold pairB
    rw [a, b]; rfl
theorem spec_l01Ok_ev (h : Int) (gs : List (List Int)) (hl : gs.length ≤ 4611686018427387904) (hr : ∀ r ∈ gs, r.length ≤ 4611686018427387904) : Ev (fun k => spec_l01Ok.f k h gs) (famB h gs) := by
  rw [famB_eq]
  unfold spec_l01Ok.f
  rw [spec_l00In_eq]
  simp only [Option.bind_some]
  cases hh : decide (1 ≤ h ∧ h ≤ 7) with
  | false => exact Ev.now _
  | true =>
    have hh' := of_decide_eq_true hh
    simp only [if_true, Bool.true_and]
    have two : (∀ j, j < gs.length → okAt h gs j = true) → Ev (fun k => spec_l01Ok.l1 k 0 h gs) ((List.range gs.length).all (apartAt gs)) := by
      intro hok
      have sm : ∀ j, j < gs.length → ∀ x ∈ grp gs j, 0 ≤ x ∧ x ≤ 6 := fun j hj => group_small hh'.2 (okAt_group (hok j hj))
      have step : ∀ i j, i < gs.length → j < gs.length → ∀ {f : Nat → Option Bool} {t : Bool}, (∀ k, (if (decide (i = j) || !withinB (grp gs i) (grp gs j)) = true then spec_l01Ok.l2 k (i : Int) ((j + 1 : Nat) : Int) h gs else some false) = f k) → Ev f t → Ev (fun k => spec_l01Ok.l2 k (i : Int) (j : Int) h gs) t := by
        intro i j hi hj f t hf he
        by_cases e : i = j
        · refine Ev.step (fun k => ?_) he
          rw [← hf k, decide_eq_true e, Bool.true_or, if_pos rfl]
          simp only [spec_l01Ok.l2]
          rw [if_pos (by omega), if_pos (by omega), wr (by omega) (by omega)]
          rfl
        · refine Ev.step (f := fun k => (spec_l01Within.f k (grp gs i) (grp gs j)).bind fun t => if t = true then some false else spec_l01Ok.l2 k (i : Int) ((j + 1 : Nat) : Int) h gs) (fun k => ?_) (Ev.bind (spec_l01Within_ev _ _ (sm i hi) (sm j hj) (grp_len hr i) (grp_len hr j)) (Ev.congr (fun k => ?_) he))
          · simp only [spec_l01Ok.l2]
            rw [if_pos (by omega), if_neg (by omega), if_pos (by omega), if_pos (by omega), if_pos (by omega), rdL_grp gs i hi, rdL_grp gs j hj, wr (by omega) (by omega)]
            rfl
          · rw [← hf k, decide_eq_false e, Bool.false_or]
            cases withinB (grp gs i) (grp gs j) <;> rfl
      have row : ∀ i, i < gs.length → ∀ {r : Bool}, (apartAt gs i = true → Ev (fun k => spec_l01Ok.l1 k ((i + 1 : Nat) : Int) h gs) r) → Ev (fun k => spec_l01Ok.l1 k (i : Int) h gs) (if apartAt gs i then r else false) := by
        intro i hi r hr'
        refine Ev.step (f := fun k => spec_l01Ok.l2 k (i : Int) 0 h gs) (fun k => ?_) ?_
        · simp only [spec_l01Ok.l1]
          rw [if_pos (by omega)]
        · have hgo : ∀ j : Nat, j < gs.length → (decide (i = j) || !withinB (grp gs i) (grp gs j)) = true → ∀ t, Ev (fun k => spec_l01Ok.l2 k (i : Int) ((j + 1 : Nat) : Int) h gs) t → Ev (fun k => spec_l01Ok.l2 k (i : Int) (j : Int) h gs) t := fun j hj hq t ht => step i j hi hj (fun k => by rw [if_pos hq]) ht
          have hstop : ∀ j : Nat, j < gs.length → (decide (i = j) || !withinB (grp gs i) (grp gs j)) = false → Ev (fun k => spec_l01Ok.l2 k (i : Int) (j : Int) h gs) false := fun j hj hq => step i j hi hj (f := fun _ => some false) (fun k => by rw [hq]; rfl) (Ev.now _)
          cases ha : apartAt gs i with
          | false => exact stop_ev (l := fun k j => spec_l01Ok.l2 k (i : Int) j h gs) hgo hstop ha
          | true =>
            have := scan_ev (l := fun k j => spec_l01Ok.l2 k (i : Int) j h gs) (fin := r) (stop := false) hgo hstop (by
              refine Ev.step (fun k => ?_) (hr' ha)
              simp only [spec_l01Ok.l2]
              rw [if_neg (by omega), wr (by omega) (by omega)]
              rfl)
            rw [show (List.range gs.length).all (fun k => decide (i = k) || !withinB (grp gs i) (grp gs k)) = true from ha] at this
            exact this
      have hs := scan2_ev (l := fun k i => spec_l01Ok.l1 k i h gs) (n := gs.length) (q := apartAt gs) (fin := true) (stop := false)
        (fun i hi _ hq t ht => by
          have := row i hi (r := t) (fun _ => ht)
          rwa [hq] at this)
        (fun i hi _ hq => by
          have := row i hi (r := false) (fun h2 => by rw [hq] at h2; exact absurd h2 (by decide))
          rwa [hq] at this)
        (fun _ => Ev.step (f := fun _ => some true) (fun k => by
          simp only [spec_l01Ok.l1]
          rw [if_neg (by omega)]) (Ev.now _))
      rwa [show (if (List.range gs.length).all (apartAt gs) then true else false) = (List.range gs.length).all (apartAt gs) from by cases (List.range gs.length).all (apartAt gs) <;> rfl] at hs
    have body : ∀ i, i < gs.length → ∀ {f : Nat → Option Bool} {t : Bool}, (∀ k, (if okAt h gs i = true then spec_l01Ok.l0 k ((i + 1 : Nat) : Int) h gs else some false) = f k) → Ev f t → Ev (fun k => spec_l01Ok.l0 k (i : Int) h gs) t := by
      intro i hi f t hf he
      refine Ev.step (f := fun k => (spec_l01Group.f k h (grp gs i)).bind fun t => if t = true then (if (i : Int) > 0 then (spec_l01Before.f k (grp gs (i - 1)) (grp gs i)).bind fun t => if t = true then spec_l01Ok.l0 k ((i + 1 : Nat) : Int) h gs else some false else spec_l01Ok.l0 k ((i + 1 : Nat) : Int) h gs) else some false) (fun k => ?_) (Ev.bind (spec_group_ev h (grp gs i) (grp_len hr i) (by omega)) ?_)
      · simp only [spec_l01Ok.l0]
        rw [if_pos (by omega), if_pos (by omega), rdL_grp gs i hi, wr (x := (i : Int) + 1) (by omega) (by omega)]
        by_cases h0 : (i : Int) > 0
        · simp only [if_pos h0]
          rw [wr (x := (i : Int) - 1) (by omega) (by omega), if_pos (by omega), if_pos (by omega), show ((i : Int) - 1) = ((i - 1 : Nat) : Int) by omega, rdL_grp gs (i - 1) (by omega)]
          rfl
        · simp only [if_neg h0]
          rfl
      · cases hg : groupB h (grp gs i) with
        | false =>
          refine Ev.congr (fun k => ?_) he
          rw [← hf k, show okAt h gs i = false from by unfold okAt; rw [hg]; rfl]
          rfl
        | true =>
          simp only [if_true]
          by_cases h0 : (i : Int) > 0
          · simp only [if_pos h0]
            refine Ev.bind (spec_l01Before_ev _ _ (grp_len hr _) (grp_len hr _)) (Ev.congr (fun k => ?_) he)
            rw [← hf k, show okAt h gs i = ltB (grp gs (i - 1)) (grp gs i) from by unfold okAt; rw [hg, decide_eq_false (show ¬ i = 0 by omega)]; simp]
          · simp only [if_neg h0]
            refine Ev.congr (fun k => ?_) he
            rw [← hf k, show okAt h gs i = true from by unfold okAt; rw [hg, decide_eq_true (show i = 0 by omega)]; rfl]
            rfl
    have hgo : ∀ j : Nat, j < gs.length → okAt h gs j = true → ∀ t, Ev (fun k => spec_l01Ok.l0 k ((j + 1 : Nat) : Int) h gs) t → Ev (fun k => spec_l01Ok.l0 k (j : Int) h gs) t := fun j hj hq t ht => body j hj (fun k => by rw [if_pos hq]) ht
    have hstop : ∀ j : Nat, j < gs.length → okAt h gs j = false → Ev (fun k => spec_l01Ok.l0 k (j : Int) h gs) false := fun j hj hq => body j hj (f := fun _ => some false) (fun k => by rw [hq]; rfl) (Ev.now _)
    cases ha : (List.range gs.length).all (okAt h gs) with
    | false => exact stop_ev (l := fun k j => spec_l01Ok.l0 k j h gs) hgo hstop ha
    | true =>
      have hok : ∀ j, j < gs.length → okAt h gs j = true := fun j hj => List.all_eq_true.mp ha j (List.mem_range.mpr hj)
      have := scan_ev (l := fun k j => spec_l01Ok.l0 k j h gs) (fin := (List.range gs.length).all (apartAt gs)) (stop := false) hgo hstop (by
        refine Ev.step (fun k => ?_) (two hok)
        simp only [spec_l01Ok.l0]
        rw [if_neg (by omega)])
      rw [ha] at this
      rw [Bool.true_and]
      exact this

end Go.Proofs.Ytjnobnmjhpmpfaa.P

namespace Go.Proofs.Ytjnobnmjhpmpfaa.P
open Go.RowKit Go.Proofs.YtjnobnmjhpmpfaaW.PrintWords Go.Proofs.YtjnobnmjhpmpfaaW.PrintLast Go.Proofs.YtjnobnmjhpmpfaaW.PrintMore
attribute [local go_sem] max2_int min2_int max_two min_two max_three min_three max_four min_four
set_option linter.unusedVariables false
set_option linter.unusedSimpArgs false

def lfs (g : List Int) : List S29 := g.map fun h => ⟨h, 0, []⟩
def kidsB (gs : List (List Int)) : List S29 := gs.map fun g => ⟨-1, (g.length : Int), lfs g⟩
theorem lfs_snoc (pre : List Int) (a : Int) : lfs (pre ++ [a]) = lfs pre ++ [⟨a, 0, []⟩] := by simp [lfs]
theorem lfs_len (g : List Int) : (lfs g).length = g.length := by simp [lfs]
theorem kidsB_snoc (pre : List (List Int)) (g : List Int) : kidsB (pre ++ [g]) = kidsB pre ++ [⟨-1, (g.length : Int), lfs g⟩] := by simp [kidsB]
theorem kidsB_len (gs : List (List Int)) : (kidsB gs).length = gs.length := by simp [kidsB]
theorem rd_midI (pre r : List Int) (a : Int) : rd (pre ++ a :: r) (pre.length : Int) = a := by simp [rd]
theorem rdL_mid (pre r : List (List Int)) (g : List Int) : rd_L6 (pre ++ g :: r) (pre.length : Int) = g := by simp [rd_L6]
theorem mL_lfs : ∀ g : List Int, mL (lfs g) = g.length
  | [] => by simp [lfs, mL]
  | a :: g => by
    show mL ((⟨a, 0, []⟩ : S29) :: lfs g) = _
    rw [mL_cons, mL_lfs g, mT_kids, List.length_cons]
    simp only [mL]
    omega
theorem mL_kidsB : ∀ gs : List (List Int), mL (kidsB gs) = bulk gs
  | [] => by simp [kidsB, mL, bulk]
  | g :: gs => by
    show mL ((⟨-1, (g.length : Int), lfs g⟩ : S29) :: kidsB gs) = _
    have h := mL_kidsB gs
    unfold bulk at h ⊢
    rw [mL_cons, h, mT_kids, List.length_cons, List.map_cons, List.sum_cons]
    show 1 + mL (lfs g) + _ = _
    rw [mL_lfs]
    omega
theorem impl_leaves_ev (l : List Int) (hl : l.length ≤ 1048576) : Ev (fun k => impl_leaves.f k l) (lfs l) := by
  have key : ∀ (r pre : List Int), pre ++ r = l → Ev (fun k => impl_leaves.l0 k (lfs pre) l (l.length : Int) (pre.length : Int)) (lfs l) := by
    intro r
    induction r with
    | nil =>
      intro pre hp
      rw [List.append_nil] at hp
      subst hp
      refine Ev.step (f := fun _ => some (lfs pre)) (fun k => ?_) (Ev.now _)
      simp only [impl_leaves.l0]
      rw [if_neg (by omega)]
    | cons a r ihr =>
      intro pre hp
      have hll : l.length = pre.length + (r.length + 1) := by rw [← hp, List.length_append, List.length_cons]
      have e3 := ihr (pre ++ [a]) (by rw [← hp, List.append_assoc]; rfl)
      rw [List.length_append, List.length_singleton, lfs_snoc] at e3
      refine Ev.step (f := fun k => impl_leaves.l0 k (lfs pre ++ [⟨a, 0, []⟩]) l (l.length : Int) ((pre.length + 1 : Nat) : Int)) (fun k => ?_) e3
      simp only [impl_leaves.l0]
      rw [if_pos (by omega), if_pos (by omega), if_pos (by omega), if_pos (by rw [lfs_len]; omega), show rd l (pre.length : Int) = a by rw [← hp]; exact rd_midI pre r a, wr (x := (pre.length : Int) + 1) (by omega) (by omega)]
      rfl
  exact key l [] rfl
theorem gofI_ev (gs : List (List Int)) (hl : gs.length ≤ 1048576) (hr : ∀ r ∈ gs, r.length ≤ 1048576) : Ev (fun k => gofI.l0 k gs [] 0) (kidsB gs) := by
  have key : ∀ (r pre : List (List Int)), pre ++ r = gs → Ev (fun k => gofI.l0 k gs (kidsB pre) (pre.length : Int)) (kidsB gs) := by
    intro r
    induction r with
    | nil =>
      intro pre hp
      rw [List.append_nil] at hp
      subst hp
      refine Ev.step (f := fun _ => some (kidsB pre)) (fun k => ?_) (Ev.now _)
      simp only [gofI.l0]
      rw [if_neg (by omega)]
    | cons g r ihr =>
      intro pre hp
      have hll : gs.length = pre.length + (r.length + 1) := by rw [← hp, List.length_append, List.length_cons]
      have e3 := ihr (pre ++ [g]) (by rw [← hp, List.append_assoc]; rfl)
      rw [List.length_append, List.length_singleton, kidsB_snoc] at e3
      refine Ev.step (f := fun k => (impl_leaves.f k g).bind fun ls => gofI.l0 k gs (kidsB pre ++ [⟨-1, (g.length : Int), ls⟩]) ((pre.length + 1 : Nat) : Int)) (fun k => ?_) (Ev.bind (impl_leaves_ev g (hr g (by rw [← hp]; simp))) e3)
      simp only [gofI.l0]
      rw [if_pos (by omega), if_pos (by omega), show rd_L6 gs (pre.length : Int) = g by rw [← hp]; exact rdL_mid pre r g, wr (x := (pre.length : Int) + 1) (by omega) (by omega)]
      simp only [if_pos (show (kidsB pre).length < 1048576 by rw [kidsB_len]; omega)]
      rfl
  exact key gs [] rfl
theorem gofS1_ev (g : List Int) (hl : g.length ≤ 1048576) : Ev (fun k => gofS.l1 k g [] 0) (lfs g) := by
  have key : ∀ (r pre : List Int), pre ++ r = g → Ev (fun k => gofS.l1 k g (lfs pre) (pre.length : Int)) (lfs g) := by
    intro r
    induction r with
    | nil =>
      intro pre hp
      rw [List.append_nil] at hp
      subst hp
      refine Ev.step (f := fun _ => some (lfs pre)) (fun k => ?_) (Ev.now _)
      simp only [gofS.l1]
      rw [if_neg (by omega)]
    | cons a r ihr =>
      intro pre hp
      have hll : g.length = pre.length + (r.length + 1) := by rw [← hp, List.length_append, List.length_cons]
      have e3 := ihr (pre ++ [a]) (by rw [← hp, List.append_assoc]; rfl)
      rw [List.length_append, List.length_singleton, lfs_snoc] at e3
      refine Ev.step (f := fun k => gofS.l1 k g (lfs pre ++ [⟨a, 0, []⟩]) ((pre.length + 1 : Nat) : Int)) (fun k => ?_) e3
      simp only [gofS.l1]
      rw [if_pos (by omega), if_pos (by omega), if_pos (by rw [lfs_len]; omega), show rd g (pre.length : Int) = a by rw [← hp]; exact rd_midI pre r a, wr (x := (pre.length : Int) + 1) (by omega) (by omega)]
      rfl
  exact key g [] rfl
theorem gofS_ev (gs : List (List Int)) (hl : gs.length ≤ 1048576) (hr : ∀ r ∈ gs, r.length ≤ 1048576) : Ev (fun k => gofS.l0 k gs [] 0) (if (gs.all fun g => !g.isEmpty) = true then some (kidsB gs) else none) := by
  have key : ∀ (r pre : List (List Int)), pre ++ r = gs → Ev (fun k => gofS.l0 k gs (kidsB pre) (pre.length : Int)) (if (r.all fun g => !g.isEmpty) = true then some (kidsB gs) else none) := by
    intro r
    induction r with
    | nil =>
      intro pre hp
      rw [List.append_nil] at hp
      subst hp
      refine Ev.step (f := fun _ => some (some (kidsB pre))) (fun k => ?_) (by rw [List.all_nil, if_pos rfl]; exact Ev.now _)
      simp only [gofS.l0]
      rw [if_neg (by omega)]
    | cons g r ihr =>
      intro pre hp
      have hll : gs.length = pre.length + (r.length + 1) := by rw [← hp, List.length_append, List.length_cons]
      have e3 := ihr (pre ++ [g]) (by rw [← hp, List.append_assoc]; rfl)
      rw [List.length_append, List.length_singleton, kidsB_snoc] at e3
      refine Ev.step (f := fun k => (gofS.l1 k g [] 0).bind fun ls => if (ls.length : Int) = 0 then some none else gofS.l0 k gs (kidsB pre ++ [⟨-1, (ls.length : Int), ls⟩]) ((pre.length + 1 : Nat) : Int)) (fun k => ?_) (Ev.bind (gofS1_ev g (hr g (by rw [← hp]; simp))) ?_)
      · simp only [gofS.l0]
        rw [if_pos (by omega), if_pos (by omega), show rd_L6 gs (pre.length : Int) = g by rw [← hp]; exact rdL_mid pre r g, wr (x := (pre.length : Int) + 1) (by omega) (by omega)]
        simp only [if_pos (show (kidsB pre).length < 1048576 by rw [kidsB_len]; omega)]
        rfl
      · rw [lfs_len]
        cases g with
        | nil =>
          simp only [List.length_nil, List.all_cons, List.isEmpty_nil]
          exact Ev.now _
        | cons a g =>
          rw [List.all_cons]
          simp only [List.isEmpty_cons, Bool.not_false, Bool.true_and]
          simp only [if_neg (show ¬ (((a :: g).length : Nat) : Int) = 0 by rw [List.length_cons]; omega)]
          exact e3
  exact key gs [] rfl
def endB (h : Int) (kids : List S29) : Int × Int × List S29 × Int := if okT h ⟨-1, 1, kids⟩ = true then (-1, 1, kids, 0) else (0, 0, [], 3)
theorem impl_orLimit_ev (h : Int) (kids : List S29) (hm : mL kids ≤ 1048576) : Ev (fun k => impl_orLimit.f k h (-1) 1 kids) (endB h kids) := by
  unfold impl_orLimit.f endB
  refine Ev.bind (impl_ValidGate_ev h (-1) 1 kids hm) ?_
  by_cases e : okT h ⟨-1, 1, kids⟩ = true
  · simp only [if_pos e]; exact Ev.now _
  · simp only [if_neg e]; exact Ev.now _
theorem spec_l02Told_ev (h : Int) (kids : List S29) (hm : mL kids ≤ 1048576) : Ev (fun k => spec_l02Told.f k h (-1) 1 kids) (endB h kids) := by
  unfold spec_l02Told.f endB
  refine Ev.bind (spec_l02Ok_ev h ⟨-1, 1, kids⟩ (by rw [mT_kids]; exact hm)) ?_
  by_cases e : okT h ⟨-1, 1, kids⟩ = true
  · simp only [if_pos e]; exact Ev.now _
  · simp only [if_neg e]; exact Ev.now _
theorem fam_first {h : Int} {gs : List (List Int)} (hf : famB h gs = true) (h0 : grp gs 0 ≠ []) : (gs.all fun g => !g.isEmpty) = true := by
  rw [List.all_eq_true]
  intro g hg
  obtain ⟨i, hi, rfl⟩ := List.getElem_of_mem hg
  cases i with
  | zero =>
    have : grp gs 0 = gs[0] := by simp [grp, hi]
    rw [this] at h0
    cases e : gs[0] with
    | nil => exact absurd e h0
    | cons _ _ => rfl
  | succ i =>
    unfold famB at hf
    rw [Bool.and_eq_true, List.all_eq_true] at hf
    have h1 := hf.2 (i + 1) (List.mem_range.mpr hi)
    rw [Bool.and_eq_true, List.all_eq_true] at h1
    have h2 := h1.2 0 (List.mem_range.mpr (Nat.succ_pos i))
    unfold pairB at h2
    rw [Bool.and_eq_true] at h2
    have h3 := h2.1
    have e1 : grp gs (i + 1) = gs[i + 1] := by simp [grp, hi]
    rw [e1] at h3
    cases e : gs[i + 1] with
    | nil =>
      rw [e] at h3
      have : withinB [] (grp gs 0) = true := by unfold withinB maskN; simp
      rw [this] at h3
      exact absurd h3 (by simp)
    | cons _ _ => rfl
def GofRes (h : Int) (gs : List (List Int)) : Int × Int × List S29 × Int := if famB h gs = true then (if (gs.length : Int) = 0 then (0, 0, [], 4) else if ((grp gs 0).length : Int) = 0 then (0, 0, [], 4) else endB h (kidsB gs)) else (0, 0, [], 1)
theorem impl_GateOfFamily_ev (h : Int) (gs : List (List Int)) (hb : bulk gs ≤ 1048576) : Ev (fun k => impl_GateOfFamily.f k h gs) (GofRes h gs) := by
  obtain ⟨h1, h2⟩ := bulk_len hb
  unfold impl_GateOfFamily.f GofRes
  refine Ev.bind (impl_ValidFamily_ev h gs (by omega) (fun r hr => Nat.le_trans (h2 r hr) (by omega))) ?_
  by_cases e : famB h gs = true
  · simp only [if_pos e]
    by_cases c1 : (gs.length : Int) = 0
    · simp only [if_pos c1]; exact Ev.now _
    · simp only [if_neg c1]
      rw [show (rd_L6 gs 0) = grp gs 0 from rdL_grp gs 0 (by omega)]
      by_cases c2 : ((grp gs 0).length : Int) = 0
      · simp only [if_pos c2]; exact Ev.now _
      · simp only [if_neg c2]
        exact Ev.bind (gofI_ev gs h1 h2) (impl_orLimit_ev h (kidsB gs) (by rw [mL_kidsB]; exact hb))
  · simp only [if_neg e]; exact Ev.now _
theorem spec_GateOfFamily_ev (h : Int) (gs : List (List Int)) (hb : bulk gs ≤ 1048576) : Ev (fun k => spec_GateOfFamily.f k h gs) (GofRes h gs) := by
  obtain ⟨h1, h2⟩ := bulk_len hb
  unfold spec_GateOfFamily.f GofRes
  refine Ev.bind (spec_l01Ok_ev h gs (by omega) (fun r hr => Nat.le_trans (h2 r hr) (by omega))) ?_
  by_cases e : famB h gs = true
  · simp only [if_pos e]
    refine Ev.bind (gofS_ev gs h1 h2) ?_
    by_cases c1 : (gs.length : Int) = 0
    · obtain rfl : gs = [] := List.eq_nil_of_length_eq_zero (by omega)
      simp only [if_pos c1, List.all_nil, if_true, gofS.fin, kidsB, List.map_nil, List.length_nil]
      exact Ev.now _
    · simp only [if_neg c1]
      by_cases c2 : ((grp gs 0).length : Int) = 0
      · simp only [if_pos c2]
        have : (gs.all fun g => !g.isEmpty) = false := by
          rw [← Bool.not_eq_true, List.all_eq_true]
          intro hall
          have h0 : 0 < gs.length := by omega
          have h3 := hall gs[0] (List.getElem_mem h0)
          have e1 : grp gs 0 = gs[0] := by simp [grp, h0]
          rw [e1] at c2
          rw [List.eq_nil_of_length_eq_zero (by omega : gs[0].length = 0)] at h3
          exact absurd h3 (by simp)
        rw [this]
        exact Ev.now _
      · simp only [if_neg c2]
        rw [fam_first e (by intro he; rw [he] at c2; exact c2 rfl), if_pos rfl]
        simp only [gofS.fin]
        simp only [if_neg (show ¬ (((kidsB gs).length : Nat) : Int) = 0 by rw [kidsB_len]; exact c1)]
        exact spec_l02Told_ev h (kidsB gs) (by rw [mL_kidsB]; exact hb)
  · simp only [if_neg e]; exact Ev.now _
theorem endB_size (h : Int) (kids : List S29) (hm : mL kids ≤ 1048576) : mL (endB h kids).2.2.1 ≤ 1048576 := by
  unfold endB
  split
  · exact hm
  · simp [mL]
theorem GofRes_size (h : Int) (gs : List (List Int)) (hb : bulk gs ≤ 1048576) : mL (GofRes h gs).2.2.1 ≤ 1048576 := by
  unfold GofRes
  split
  · split
    · simp [mL]
    · split
      · simp [mL]
      · exact endB_size h _ (by rw [mL_kidsB]; exact hb)
  · simp [mL]

end Go.Proofs.Ytjnobnmjhpmpfaa.P

namespace Go.Proofs.Ytjnobnmjhpmpfaa.P
open Go.RowKit Go.Proofs.YtjnobnmjhpmpfaaW.PrintWords Go.Proofs.YtjnobnmjhpmpfaaW.PrintLast Go.Proofs.YtjnobnmjhpmpfaaW.PrintMore
attribute [local go_sem] max2_int min2_int max_two min_two max_three min_three max_four min_four
set_option linter.unusedVariables false
set_option linter.unusedSimpArgs false

/-! ### laws_heldInt64S: function 29 -/
end Go.Proofs.Ytjnobnmjhpmpfaa.P

namespace Go.Proofs.Ytjnobnmjhpmpfaa.P
open Go.RowKit Go.Proofs.YtjnobnmjhpmpfaaW.PrintWords Go.Proofs.YtjnobnmjhpmpfaaW.PrintLast Go.Proofs.YtjnobnmjhpmpfaaW.PrintMore
attribute [local go_sem] max2_int min2_int max_two min_two max_three min_three max_four min_four
set_option linter.unusedVariables false
set_option linter.unusedSimpArgs false

/-- The numbers from a on, n of them: what a mark leaves. -/
def upFrom (a : Int) (n : Nat) : List Int := (List.range n).map fun i : Nat => a + (i : Int)
theorem upFrom_length (a : Int) (n : Nat) : (upFrom a n).length = n := by simp [upFrom]
theorem upFrom_succ (a : Int) (n : Nat) : upFrom a (n + 1) = upFrom a n ++ [a + (n : Int)] := by simp [upFrom, List.range_succ]
/-- A loop that writes one place after another. -/
theorem markInt64S_ev (l : List Int) (a : Int) (ha : 0 ≤ a ∧ a ≤ 2147483648) (hl : l.length ≤ 4611686018427387904) : Ev (fun k => laws_markInt64S.f k l a) (a + (l.length : Int), upFrom a l.length) := by
  unfold laws_markInt64S.f
  have key : ∀ d i : Nat, i + d = l.length → Ev (fun k => laws_markInt64S.l0 k (upFrom a i ++ l.drop i) (a + (i : Int)) (i : Int)) (a + (l.length : Int), upFrom a l.length) := by
    intro d
    induction d with
    | zero =>
      intro i hi
      obtain rfl : i = l.length := by omega
      refine Ev.step (f := fun _ => some (a + (l.length : Int), upFrom a l.length)) (fun k => ?_) (Ev.now _)
      simp only [laws_markInt64S.l0]
      rw [if_neg (by simp [upFrom_length]), List.drop_length, List.append_nil]
    | succ d ih =>
      intro i hi
      have hlt : i < l.length := by omega
      refine Ev.step (fun k => ?_) (ih (i + 1) (by omega))
      simp only [laws_markInt64S.l0]
      rw [if_pos (by simp [upFrom_length]; omega), if_pos (by omega), wr (by omega) (by omega), wr (by omega) (by omega), Int.toNat_natCast, List.set_append_right _ _ (by rw [upFrom_length]; exact Nat.le_refl _), upFrom_length, Nat.sub_self, List.drop_eq_getElem_cons hlt, List.set_cons_zero, upFrom_succ, List.append_assoc]
      rw [show a + (i : Int) + 1 = a + ((i + 1 : Nat) : Int) by omega]
      rfl
  have := key l.length 0 (by omega)
  simpa [upFrom] using this
/-- How many values the first i rows hold. -/
def preLen (rows : List (List Int)) (i : Nat) : Nat := ((rows.map List.length).take i).sum
def allLen (rows : List (List Int)) : Nat := (rows.map List.length).sum
def upRow (a : Int) (rows : List (List Int)) (i : Nat) : List Int := upFrom (a + (preLen rows i : Int)) ((rows.map List.length).getD i 0)
/-- Rows as a mark leaves them. -/
def upRows (a : Int) (rows : List (List Int)) : List (List Int) := (List.range rows.length).map (upRow a rows)
theorem preLen_succ (rows : List (List Int)) (i : Nat) (h : i < rows.length) : preLen rows (i + 1) = preLen rows i + rows[i].length := by
  have := sum_take_succ (rows.map List.length) i (by simpa using h)
  rwa [List.getElem_map] at this
theorem preLen_le (rows : List (List Int)) (i : Nat) : preLen rows i ≤ allLen rows := sum_take_le _ _
theorem preLen_end (rows : List (List Int)) : preLen rows rows.length = allLen rows := by
  unfold preLen allLen
  rw [List.take_of_length_le (by simp)]
theorem upRow_eq (a : Int) (rows : List (List Int)) (i : Nat) (h : i < rows.length) : upRow a rows i = upFrom (a + (preLen rows i : Int)) rows[i].length := by
  unfold upRow
  rw [List.getD_eq_getElem?_getD, List.getElem?_map, List.getElem?_eq_getElem h]
  rfl
theorem markInt64SS_ev (rows : List (List Int)) (a : Int) (ha : 0 ≤ a ∧ a ≤ 1073741824) (hl : rows.length ≤ 1073741824) (hs : allLen rows ≤ 1073741824) : Ev (fun k => laws_markInt64SS.f k rows a) (a + (allLen rows : Int), upRows a rows) := by
  unfold laws_markInt64SS.f
  have key : ∀ d i : Nat, i + d = rows.length → Ev (fun k => laws_markInt64SS.l0 k ((List.range i).map (upRow a rows) ++ rows.drop i) (a + (preLen rows i : Int)) (i : Int)) (a + (allLen rows : Int), upRows a rows) := by
    intro d
    induction d with
    | zero =>
      intro i hi
      obtain rfl : i = rows.length := by omega
      refine Ev.step (f := fun _ => some (a + (allLen rows : Int), upRows a rows)) (fun k => ?_) (Ev.now _)
      simp only [laws_markInt64SS.l0]
      rw [if_neg (by simp), List.drop_length, List.append_nil, preLen_end]
      rfl
    | succ d ih =>
      intro i hi
      have hlt : i < rows.length := by omega
      have hp := preLen_succ rows i hlt
      have hp2 := preLen_le rows (i + 1)
      have hrow : rd_L6 ((List.range i).map (upRow a rows) ++ rows.drop i) (i : Int) = rows[i] := by
        rw [rdL_nat _ i (by simp; omega), List.getElem_append_right (by simp)]
        simp
      refine Ev.step (f := fun k => (laws_markInt64S.f k rows[i] (a + (preLen rows i : Int))).bind fun t => laws_markInt64SS.l0 k (((List.range i).map (upRow a rows) ++ rows.drop i).set i t.2) t.1 ((i + 1 : Nat) : Int)) (fun k => ?_) (Ev.bind (markInt64S_ev rows[i] _ (by omega) (by omega)) ?_)
      · simp only [laws_markInt64SS.l0]
        rw [if_pos (by simp; omega), if_pos (by omega), hrow, wr (by omega) (by omega), Int.toNat_natCast]
        rfl
      · have e : ((List.range i).map (upRow a rows) ++ rows.drop i).set i (upFrom (a + (preLen rows i : Int)) rows[i].length) = (List.range (i + 1)).map (upRow a rows) ++ rows.drop (i + 1) := by
          rw [List.set_append_right _ _ (by simp), List.length_map, List.length_range, Nat.sub_self, List.drop_eq_getElem_cons hlt, List.set_cons_zero, List.range_succ, List.map_append, List.append_assoc, ← upRow_eq a rows i hlt]
          rfl
        simp only [e]
        rw [show a + (preLen rows i : Int) + (rows[i].length : Int) = a + (preLen rows (i + 1) : Int) by omega]
        exact ih (i + 1) (by omega)
  have := key rows.length 0 (by omega)
  simpa [preLen] using this
theorem markFamily_ev (p : Int) (rows : List (List Int)) (a : Int) (ha : 0 ≤ a ∧ a ≤ 1073741824) (hl : rows.length ≤ 1073741824) (hs : allLen rows ≤ 1073741824) : Ev (fun k => laws_markFamily.f k p rows a) (a + (allLen rows : Int), upRows a rows) := by
  unfold laws_markFamily.f
  exact markInt64SS_ev rows a ha hl hs

end Go.Proofs.Ytjnobnmjhpmpfaa.P

namespace Go.Proofs.Ytjnobnmjhpmpfaa.P
open Go.RowKit Go.Proofs.YtjnobnmjhpmpfaaW.PrintWords Go.Proofs.YtjnobnmjhpmpfaaW.PrintLast Go.Proofs.YtjnobnmjhpmpfaaW.PrintMore
attribute [local go_sem] max2_int min2_int max_two min_two max_three min_three max_four min_four
set_option linter.unusedVariables false
set_option linter.unusedSimpArgs false

theorem szFamily_ev (p : Int) (rows : List (List Int)) (a : Int) (ha : 0 ≤ a ∧ a ≤ 1048576) (hl : rows.length ≤ 9223372036854775807) (hr : ∀ r ∈ rows, r.length ≤ 9223372036854775807) :
    Ev (fun k => laws_szFamily.f k p rows a) (if (bulk rows : Int) ≤ a then a - bulk rows else -1) := by
  unfold laws_szFamily.f
  refine Ev.bind (szInt64SS_ev rows a ha hl hr) ?_
  by_cases h : (bulk rows : Int) ≤ a
  · simp only [if_pos h, if_neg (show ¬ (a - (bulk rows : Int) < 0) by omega)]
    exact Ev.now _
  · simp only [if_neg h]
    exact Ev.now _
theorem toFamily_ev (p : Int) (l : List (List Int)) (hl : l.length ≤ 1048576) (hr : ∀ r ∈ l, r.length ≤ 1048576) : Ev (fun k => laws_toFamily.f k p l) (p, l) := by
  unfold laws_toFamily.f
  exact Ev.bind (toInt64SS_ev l hl hr) (Ev.now _)
theorem eqFamily_same (p : Int) (l : List (List Int)) (hl : l.length ≤ 1048576) (hr : ∀ r ∈ l, r.length ≤ 1048576) : Ev (fun k => laws_eqFamily.f k p l p l) true := by
  unfold laws_eqFamily.f
  simp only [if_true]
  refine Ev.bind (eqInt64SS_same l hl hr) ?_
  simp only [if_true]
  exact Ev.now _

end Go.Proofs.Ytjnobnmjhpmpfaa.P

/- For every family the program's GateOfFamily and the reference's answer alike, the argument stays, and the result is memory of its own. -/
namespace Go.Proofs.Ytjnobnmjhpmpfaa.Pure
open Go.RowKit Go.Proofs.Ytjnobnmjhpmpfaa.P Go.Proofs.YtjnobnmjhpmpfaaW.PrintWords Go.Proofs.YtjnobnmjhpmpfaaW.PrintLast Go.Proofs.YtjnobnmjhpmpfaaW.PrintMore
set_option linter.unusedVariables false
set_option linter.unusedSimpArgs false

theorem FnExactGateOfFamily : laws_FnExactGateOfFamily.Pure := by
  intro x hx
  obtain ⟨xp, xs⟩ := x
  have hl : xs.length ≤ 9223372036854775807 := hx.2.1
  have hr : ∀ r ∈ xs, r.length ≤ 9223372036854775807 := fun r h => (hx.2.2 r h).1
  have s1 := szFamily_ev xp xs 1048576 (by omega) hl hr
  by_cases h : (bulk xs : Int) ≤ 1048576
  · rw [if_pos h] at s1
    obtain ⟨h1, h2⟩ := bulk_len (rows := xs) (n := 1048576) (by omega)
    have h5 : allLen xs ≤ 1048576 := by unfold bulk at h; unfold allLen; omega
    have z := GofRes_size xp xs (by omega)
    have e1 := spec_GateOfFamily_ev xp xs (by omega)
    have e2 := impl_GateOfFamily_ev xp xs (by omega)
    obtain ⟨⟨r1, r2, r3, r4⟩, er⟩ : ∃ r, r = GofRes xp xs := ⟨_, rfl⟩
    rw [← er] at e1 e2 z
    dsimp only at z
    obtain ⟨k, a1, a2, a3, a4, a5, a6, a7, a8, a9⟩ := From.now (From.and s1 (From.and (toFamily_ev xp xs h1 h2) (From.and e1 (From.and e2 (From.and (eqGate_same r1 r2 r3 z) (From.and (eqFamily_same xp xs h1 h2) (From.and (markFamily_ev xp xs 1 (by omega) (by omega) (by omega)) (From.and (markGate_ev r1 r2 r3 z) (heldGate_ev r1 r2 r3 z)))))))))
    exact Or.inr ⟨k, _, r1, r2, r3, r4, _, _, _, _, a1, decide_eq_false (by omega), a2, a3, a2, a4, a5, a2, a6, a7, decide_eq_false (by omega), a5, a8, a9, decide_eq_false (by omega), a2, a4, a5, a9, decide_eq_false (by omega)⟩
  · rw [if_neg h] at s1
    obtain ⟨k, a1⟩ := From.now s1
    exact Or.inl ⟨k, _, a1, by decide⟩

end Go.Proofs.Ytjnobnmjhpmpfaa.Pure

/- The row of the law FnExactGateOfFamily: whatever its arguments, it answers true, and they read as before. No condition. -/
namespace Go.Proofs.Ytjnobnmjhpmpfaa.fnExactGateOfFamily
open Go.ChangeShapes Go.WideShapes Go.ChangeAt Go.RowKit Go.Proofs.Ytjnobnmjhpmpfaa.P Go.Proofs.YtjnobnmjhpmpfaaW.PrintWords Go.Proofs.YtjnobnmjhpmpfaaW.PrintLast Go.Proofs.YtjnobnmjhpmpfaaW.PrintMore
open Go.ChangeMaps (open_string shut_string)
set_option linter.unusedVariables false
theorem own : ownKnob Try.prog.godebug = none := by kernel_rfl
theorem laidOut : laidOutB Try.prog = true := by kernel_rfl
set_option maxRecDepth 100000 in
theorem lifted (os : Os) (started : os.Started) (H : Type) (enc : TypeId × Value → H) :
    ReturnsInHanded {} Try.checked os 11 .any (Rows.fnExactGateOfFamilySpec.pre6 enc Try.prog Try.f11 Rows.fnExactGateOfFamilyRow.domain false) (Rows.fnExactGateOfFamilySpec.post enc Try.prog Try.f11 false true false false) := by
  refine returnsInHanded_of_change_sized (C := Try.checked) own started (by kernel_rfl) Try.func11
    (ChangeSpec.witness6 (enc := enc) (C := Try.checked) false ⟨#[], #[.agg #[.int .i64 0, .slice none 0 0]], []⟩ 8 (by kernel_rfl) (by kernel_rfl) (by kernel_rfl) (by kernel_rfl)) ?_
  intro W base args ds gs before hval0 hW hcnd hsz0 _
  have hval : ∀ (j : Nat) t v, Try.f11.params[j]? = some t → args[j]? = some v → Value.okWide Try.prog W .any base t v := hval0
  have hW' := hW
  obtain ⟨p, q, hA0, hV, rfl, hfz, hnd⟩ := hW
  have hA : DataW.TrodAll enc Try.prog W 0 (fun _ => true) true Try.f11.params.toList args.toList ds p := hA0
  rw [Try.params11] at hA hval
  obtain ⟨v0, vs0, d0, ds0, p0, q0, hargs, rfl, rfl, h0, r0⟩ := trodAll_cons hA
  obtain ⟨rfl, rfl, rfl⟩ := trodAll_nil r0
  obtain rfl : args = #[v0] := by cases args; simp_all
  obtain ⟨rfl, rfl⟩ := trodVars_none hV
  have k0 := h0
  have lt0 : ∀ x ∈ p0, x.block < W.heap.size := by obtain ⟨m, hm⟩ := k0; exact DataW.trod_lt m _ _ _ hm
  obtain ⟨cs0, rfl, _⟩ := okWide_struct Try.underlying50 (hval 0 50 v0 rfl rfl)
  obtain ⟨x0, hK0, wf0⟩ := OpensAt.any opensS50 h0
  obtain ⟨A0_1, c0_1, e0, l0_1, g0_1⟩ := k50_open hK0
  obtain rfl : cs0 = #[.int .i64 x0.f0, .slice A0_1 x0.f1.length c0_1] := by cases cs0; simpa [Value.cells] using e0
  clear hA0 hval0 hsz0
  refine (P.laws_FnExactGateOfFamily.walk Pure.FnExactGateOfFamily x0 _ _ W g0_1 l0_1 wf0).mono fun e W' ⟨he, bel⟩ => ?_
  subst he
  exact ⟨_, rfl, _, _, _, [], _, [], hW', trodAll_mk1 (shut_bool Try.underlying4 _), (trodAll_cons_mk (Below.trod laidOut (by kernel_rfl) (of_decide_eq_true (by kernel_rfl)) k0 bel lt0) trodAll_mk0), rfl, bel.frame _, fun h => by cases h⟩
theorem over : Rows.fnExactGateOfFamilyRow.holds Try.pinned (OpenSpec.ofChange Rows.fnExactGateOfFamilySpec) :=
  OpenClaim.holds_of_wide 11 Try.f11 rfl rfl rfl rfl rfl rfl rfl ⟨rfl, rfl, rfl, rfl, rfl⟩ rfl rfl rfl rfl rfl (by kernel_rfl) Try.func11 (by kernel_rfl)
    (of_decide_eq_true (by kernel_rfl)) (by unfold Func.isWrapper; first | (rw [if_pos (by decide +kernel)]; kernel_rfl) | (rw [if_neg (by decide +kernel)]; exact ⟨rfl, rfl⟩))
    (fun os started H enc _ => lifted os started H enc)
theorem proved : Rows.FnExactGateOfFamilySaid := over
#print axioms proved
end Go.Proofs.Ytjnobnmjhpmpfaa.fnExactGateOfFamily
namespace Go.Proofs.Ytjnobnmjhpmpfaa
/-- The row, under a short name, for the claim. -/
theorem fnExactGateOfFamily_holds : Rows.FnExactGateOfFamilySaid := fnExactGateOfFamily.proved
end Go.Proofs.Ytjnobnmjhpmpfaa
