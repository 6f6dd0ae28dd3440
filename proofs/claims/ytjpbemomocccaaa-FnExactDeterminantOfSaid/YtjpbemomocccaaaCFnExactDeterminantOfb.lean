/- For every matrix the program's DeterminantOf and the reference's answer alike, and the argument stays. This text: part 2 of what it rests on: functions of the translation as plain Lean functions, and that the machine's calls come to their answers. -/
import Derived.Test.YtjpbemomocccaaaCFnExactDeterminantOfa
import Derived.Lib.SliceRun
import Derived.Shelf.Abstract
namespace Go.Proofs.Ytjpbemomocccaaa.P
open Go.RowKit Go.Proofs.YtjpbemomocccaaaW.PrintWords Go.Proofs.YtjpbemomocccaaaW.PrintLast Go.Proofs.YtjpbemomocccaaaW.PrintMore
attribute [local go_sem] max2_int min2_int max_two min_two max_three min_three max_four min_four
set_option linter.unusedVariables false
set_option linter.unusedSimpArgs false

/-! ### spec_DeterminantOf: function 23 (by hand) -/
def spec_DeterminantOf.l2 : Nat → Int → Int → Int → List (List Int) → Int → Option (List (List Int))
  | 0, _, _, _, _, _ => none
  | k + 1, p, c, inv, rows, i => if i < (rows.length : Int) then (if c < i then (if c < ((rd_L1 rows i).length : Int) then ((spec_l03Add.f k p (rd_L1 rows i) (rd_L1 rows c) (Int.tmod (wrap64 (wrap64 (p - rd (rd_L1 rows i) c) * inv)) p)).bind fun r => spec_DeterminantOf.l2 k p c inv (rows.set i.toNat r) (wrap64 (i + 1))) else none) else none) else some rows
def spec_DeterminantOf.st (k : Nat) (p c : Int) (rows : List (List Int)) (out : Int) : Option (List (List Int) × Int) := if 0 ≤ c then (if c < (rows.length : Int) then (if rows.length ≤ 1048576 then (if c < ((rd_L1 rows c).length : Int) then (if p = 0 then none else ((spec_l03Inverse.f k p (rd (rd_L1 rows c) c)).bind fun inv => ((spec_DeterminantOf.l2 k p c inv rows (wrap64 (c + 1))).bind fun rows2 => some (rows2, Int.tmod (wrap64 (out * rd (rd_L1 rows c) c)) p)))) else none) else none) else none) else none
def spec_DeterminantOf.l0 : Nat → Int → List (List Int) → Int → Int → Option (Int × Int)
  | 0, _, _, _, _ => none
  | k + 1, p, rows, out, c => if c < (rows.length : Int) then (if rows.length ≤ 1048576 then ((findB k rows c c).bind fun a => if a = (rows.length : Int) then some (0, 0) else (if c < a then (if 0 ≤ a then (if a < (rows.length : Int) then (if 0 ≤ c then (if p = 0 then none else ((spec_DeterminantOf.st k p c (swapB rows a.toNat c.toNat) (Int.tmod (wrap64 (p - out)) p)).bind fun t => spec_DeterminantOf.l0 k p t.1 t.2 (wrap64 (c + 1)))) else none) else none) else none) else ((spec_DeterminantOf.st k p c rows out).bind fun t => spec_DeterminantOf.l0 k p t.1 t.2 (wrap64 (c + 1))))) else none) else some (out, 0)
def spec_DeterminantOf.f (k : Nat) (a0_0 : Int) (a0_1 : Int) (l0_2 : List (List Int)) : Option (Int × Int) := (spec_l03Ok.f k a0_0 a0_1 l0_2).bind fun t => if t = true then (if (l0_2.length : Int) = a0_1 then ((spec_l03Copy.f k a0_0 a0_1 l0_2).bind fun q => spec_DeterminantOf.l0 k a0_0 q.2.2 1 0) else some (0, 2)) else some (0, 1)
set_option maxHeartbeats 8000000 in
set_option maxRecDepth 100000 in
theorem spec_DeterminantOf.calls (k : Nat) (a0_0 : Int) (a0_1 : Int) (A0_2 : Option Addr) (c0_2 : Nat) (l0_2 : List (List Int)) (r1 : Int) (r2 : Int) (w : World) (hr0_2 : Kd.C (Kd.slice 2 (Kd.int .i64)) w A0_2 l0_2.length l0_2) (hc0_2 : l0_2.length ≤ c0_2) (h : spec_DeterminantOf.f k a0_0 a0_1 l0_2 = some (r1, r2)) :
    Calls Try.prog 23 #[.agg #[.int .i64 a0_0, .int .i64 a0_1, .slice A0_2 l0_2.length c0_2]] w fun e w' => e = .returned (.tuple #[.int .i64 r1, .int .i64 r2]) ∧ Below w.heap.size w w' := by
  have hum := Try.underlying26
  have HR := Aside0.mk hr0_2
  have HC := Aside0.mk hc0_2
  clear hr0_2 hc0_2
  unfold spec_DeterminantOf.f at h
  replace h := Option.bind_eq_some_iff.mp h
  obtain ⟨tv, At1, h⟩ := h
  have A1_ := Aside0.mk At1
  clear At1
  go_enter Try.func23, Try.ntmps23
  cases tv with
  | false =>
    rw [if_neg (by decide)] at h
    obtain ⟨rfl, rfl⟩ := (by simpa using h : 0 = r1 ∧ 1 = r2)
    clear h
    go_wp2_with (first | (go_at_call 47; (with_reducible refine (spec_l03Ok.calls k w.heap.size a0_0 a0_1 A0_2 c0_2 l0_2 false _ ?sideX ?side1 ?side2 A1_.out).mono ?_); (case sideX => exact (by repeat (first | exact blk_new_at (by simp) | (with_reducible refine blk_drewN ?_ _) | (with_reducible refine blk_drew ?_) | (with_reducible refine blk_alloc ?_ _)))); (case side1 => exact (by repeat (first | (with_reducible exact HR.out) | (with_reducible refine Kd.C_alloc ?_ _) | (with_reducible refine Kd.C_drewN ?_ _) | (with_reducible refine Kd.C_drew ?_) | exact HR.out))); (case side2 => exact HC.out); rintro e w1 ⟨rfl, hb⟩; have BK := Aside0.mk (blk_below (g := w.heap.size) (o := .cells #[.int .i64 a0_0, .int .i64 a0_1, .slice A0_2 l0_2.length c0_2] 26 (0, 0)) (by repeat (first | exact blk_new_at (by simp) | (with_reducible refine blk_drewN ?_ _) | (with_reducible refine blk_drew ?_) | (with_reducible refine blk_alloc ?_ _))) hb); have HB : Aside0 (Below w.heap.size w w1) := ⟨below_step (by repeat (first | exact Below.refl _ _ | apply below_alloc | apply pw_below_drewN | apply below_drew1)) hb⟩; have HR2 : Aside0 (Kd.C (Kd.slice 2 (Kd.int .i64)) w1 A0_2 l0_2.length l0_2) := ⟨Kd.C_below (by repeat (first | (with_reducible exact HR.out) | (with_reducible refine Kd.C_alloc ?_ _) | (with_reducible refine Kd.C_drewN ?_ _) | (with_reducible refine Kd.C_drew ?_) | exact HR.out)) hb⟩; clear HR hb; have HR := HR2; clear HR2; have hm0_ : w1.cell? ⟨w.heap.size, 0, none⟩ = some (.int .i64 a0_0) := (blk_cell BK.out 0).trans rfl; have hm1_ : w1.cell? ⟨w.heap.size, 1, none⟩ = some (.int .i64 a0_1) := (blk_cell BK.out 1).trans rfl; have hm2_ : w1.cell? ⟨w.heap.size, 2, none⟩ = some (.slice A0_2 l0_2.length c0_2) := (blk_cell BK.out 2).trans rfl))
    go_ret2
    exact ⟨rfl, HB.out⟩
  | true =>
    rw [if_pos rfl] at h
    by_cases csq : (l0_2.length : Int) = a0_1
    · rw [if_pos csq] at h
      have csb : ((l0_2.length : Int) == a0_1) = true := beq_iff_eq.mpr csq
      have csc : ((l0_2.length : Int) != a0_1) = false := by rw [bne, csb]; rfl
      replace csq := Aside0.mk csq
      replace h := Option.bind_eq_some_iff.mp h
      obtain ⟨⟨q1, q2, rows0⟩, At3, h⟩ := h
      dsimp only at h
      have A3_ := Aside0.mk At3
      have H' := Aside0.mk h
      clear At3 h
      go_wp2_with (first | (go_at_call 47; (with_reducible refine (spec_l03Ok.calls k w.heap.size a0_0 a0_1 A0_2 c0_2 l0_2 true _ ?sideX ?side1 ?side2 A1_.out).mono ?_); (case sideX => exact (by repeat (first | exact blk_new_at (by simp) | (with_reducible refine blk_drewN ?_ _) | (with_reducible refine blk_drew ?_) | (with_reducible refine blk_alloc ?_ _)))); (case side1 => exact (by repeat (first | (with_reducible exact HR.out) | (with_reducible refine Kd.C_alloc ?_ _) | (with_reducible refine Kd.C_drewN ?_ _) | (with_reducible refine Kd.C_drew ?_) | exact HR.out))); (case side2 => exact HC.out); rintro e w1 ⟨rfl, hb⟩; have BK := Aside0.mk (blk_below (g := w.heap.size) (o := .cells #[.int .i64 a0_0, .int .i64 a0_1, .slice A0_2 l0_2.length c0_2] 26 (0, 0)) (by repeat (first | exact blk_new_at (by simp) | (with_reducible refine blk_drewN ?_ _) | (with_reducible refine blk_drew ?_) | (with_reducible refine blk_alloc ?_ _))) hb); have HB : Aside0 (Below w.heap.size w w1) := ⟨below_step (by repeat (first | exact Below.refl _ _ | apply below_alloc | apply pw_below_drewN | apply below_drew1)) hb⟩; have HR2 : Aside0 (Kd.C (Kd.slice 2 (Kd.int .i64)) w1 A0_2 l0_2.length l0_2) := ⟨Kd.C_below (by repeat (first | (with_reducible exact HR.out) | (with_reducible refine Kd.C_alloc ?_ _) | (with_reducible refine Kd.C_drewN ?_ _) | (with_reducible refine Kd.C_drew ?_) | exact HR.out)) hb⟩; clear HR hb; have HR := HR2; clear HR2; have hm0_ : w1.cell? ⟨w.heap.size, 0, none⟩ = some (.int .i64 a0_0) := (blk_cell BK.out 0).trans rfl; have hm1_ : w1.cell? ⟨w.heap.size, 1, none⟩ = some (.int .i64 a0_1) := (blk_cell BK.out 1).trans rfl; have hm2_ : w1.cell? ⟨w.heap.size, 2, none⟩ = some (.slice A0_2 l0_2.length c0_2) := (blk_cell BK.out 2).trans rfl) | (go_at_call 65; (with_reducible refine (spec_l03Copy.calls k w.heap.size a0_0 a0_1 A0_2 c0_2 l0_2 q1 q2 rows0 _ ?sideX ?side1 ?side2 A3_.out).mono ?_); (case sideX => ((with_reducible repeat (first | refine blk_drewN ?_ _ | refine blk_drew ?_ | refine blk_alloc ?_ _)); exact BK.out)); (case side1 => exact (by repeat (first | (with_reducible exact HR.out) | (with_reducible refine Kd.C_alloc ?_ _) | (with_reducible refine Kd.C_drewN ?_ _) | (with_reducible refine Kd.C_drew ?_) | exact HR.out))); (case side2 => exact HC.out); rintro e w3 ⟨v, rfl, ho, hb⟩; have hlt := blk_lt BK.out; obtain ⟨vs0, hmx⟩ := Mx.of_S (lo := w.heap.size + 1) (hi := w3.heap.size) (Kd.S_mono (Kd.S_bound ho) (fun k_ hk_ => ⟨by have h_ := hk_.2.1; (try simp at h_); omega, hk_.2.2.1⟩)); have n1_ := Aside0.mk (blk_below (g := w.heap.size) (o := .cells #[.int .i64 a0_0, .int .i64 a0_1, .slice A0_2 l0_2.length c0_2] 26 (0, 0)) (by (with_reducible repeat (first | refine blk_drewN ?_ _ | refine blk_drew ?_ | refine blk_alloc ?_ _)); exact BK.out) hb); have n3_ : Aside0 (Below w.heap.size w w3) := ⟨below_step (by repeat (first | (with_reducible first | exact HB.out | apply below_alloc | apply pw_below_drewN | apply below_drew1) | exact HB.out)) hb⟩; have HSZ : Aside0 (w.heap.size + 1 ≤ w3.heap.size) := ⟨blk_lt n1_.out⟩; have E0 := Aside0.mk (hmx.lower (base' := w.heap.size) (by (try simp); omega)); obtain ⟨A1, c1, e1, hc1⟩ := E0.out.slice; subst e1; clear ho hb hmx hlt hc1 BK HB hm0_ hm1_ hm2_ HR; have BK := n1_; have hm0_ : w3.cell? ⟨w.heap.size, 0, none⟩ = some (.int .i64 a0_0) := (blk_cell BK.out 0).trans rfl; have hm1_ : w3.cell? ⟨w.heap.size, 1, none⟩ = some (.int .i64 a0_1) := (blk_cell BK.out 1).trans rfl; have hm2_ : w3.cell? ⟨w.heap.size, 2, none⟩ = some (.slice A0_2 l0_2.length c0_2) := (blk_cell BK.out 2).trans rfl; have hlt1 := blk_lt n1_.out))
      have E := Aside0.mk (Mw.mk (w := w) (lo := w.heap.size + 1) (hi := w3.heap.size) (top := w3.heap.size + 1) (bx := [(w.heap.size, .cells #[.int .i64 a0_0, .int .i64 a0_1, .slice A0_2 l0_2.length c0_2] 26 (0, 0)), (w3.heap.size, .cells #[.int .i64 q1, .int .i64 q2, (.slice A1 rows0.length c1)] 26 (0, 0))]) (E0.out.alloc (.cells #[.int .i64 q1, .int .i64 q2, (.slice A1 rows0.length c1)] 26 (0, 0))) (fun b hm => by rcases List.mem_cons.1 hm with rfl | hm; exact ⟨blk_alloc n1_.out _, .inl (by show w.heap.size < _; omega), (by show w.heap.size < _; have := HSZ.out; omega)⟩; rcases List.mem_cons.1 hm with rfl | hm; exact ⟨blk_new _ _, .inr (Nat.le_refl _), Nat.lt_succ_self _⟩; cases hm) (below_alloc n3_.out _) (by omega) (by omega) (by simp))
      clear E0 BK n1_ n3_ hm0_ hm1_ hm2_ hlt1
      obtain ⟨n0, hn0⟩ : ∃ n, n = rows0.length := ⟨_, rfl⟩
      rw [← hn0] at E ⊢
      obtain ⟨hi, hhi⟩ : ∃ m, m = w3.heap.size := ⟨_, rfl⟩
      simp only [← hhi] at E HSZ ⊢
      clear hn0 hhi
      go_loopg [6, 7] k (fun kq v6 v7 w' => ∃ (out : Int) (c : Int) (rows : List (List Int)) (vs : List Value), v6 = .int .i64 out ∧ v7 = .int .i64 c ∧ Aside0 (spec_DeterminantOf.l0 kq a0_0 rows out c = some (r1, r2)) ∧ Aside0 (kq ≤ k) ∧ Aside0 (Mw w w' (w.heap.size + 1) hi (hi + 1) ([(w.heap.size, .cells #[.int .i64 a0_0, .int .i64 a0_1, .slice A0_2 l0_2.length c0_2] 26 (0, 0)), (hi, .cells #[.int .i64 q1, .int .i64 q2, (.slice A1 n0 c1)] 26 (0, 0))]) (.slice A1 n0 c1) vs rows))
      case atStart => exact ⟨1, 0, rows0, vs0, rfl, rfl, H', ⟨Nat.le_refl _⟩, E⟩
      case round =>
        clear E H'
        obtain ⟨out, c, rows, vs, rfl, rfl, HA, HK1, E⟩ := hrel
        have hcnt := Aside0.mk E.out.mx.count
        have hc2_ : wr.cell? ⟨hi, 2, none⟩ = some ((.slice A1 n0 c1)) := (blk_cell (E.out.box (b := hi) (o := .cells #[.int .i64 q1, .int .i64 q2, (.slice A1 n0 c1)] 26 (0, 0)) (by simp)) 2).trans rfl
        cases gk with
        | zero => exact absurd HA.out (by simp [spec_DeterminantOf.l0])
        | succ k1 =>
          have H := HA.out
          clear HA
          simp only [spec_DeterminantOf.l0] at H
          by_cases c2 : c < (rows.length : Int)
          · rw [if_pos c2] at H
            have c2b : decide (c < (n0 : Int)) = true := decide_eq_true (by have := hcnt.out.1; omega)
            have c2c := eq_true (show c < (n0 : Int) by have := hcnt.out.1; omega)
            have C2 := Aside0.mk c2
            clear c2
            by_cases hsm : rows.length ≤ 1048576
            case neg => rw [if_neg hsm] at H; exact absurd H (by simp)
            rw [if_pos hsm] at H
            have HSM := Aside0.mk hsm
            clear hsm
            replace H := Option.bind_eq_some_iff.mp H
            obtain ⟨at_, At1, H⟩ := H
            have B1 := Aside0.mk At1
            have H1 := Aside0.mk H
            clear At1 H
            obtain ⟨wo, rfl⟩ : ∃ wo : World, wo = wr := ⟨_, rfl⟩
            go_wp2
            go_loopg [8] k1 (fun kq v8 w' => ∃ (a : Int), v8 = .int .i64 a ∧ Aside0 (c ≤ a) ∧ Aside0 (a ≤ (rows.length : Int)) ∧ Aside0 (findB kq rows c a = some at_) ∧ Aside0 (kq ≤ k1) ∧ Aside0 (Mw w w' (w.heap.size + 1) hi (hi + 1) ([(w.heap.size, .cells #[.int .i64 a0_0, .int .i64 a0_1, .slice A0_2 l0_2.length c0_2] 26 (0, 0)), (hi, .cells #[.int .i64 q1, .int .i64 q2, (.slice A1 n0 c1)] 26 (0, 0))]) (.slice A1 n0 c1) vs rows))
            case atStart => exact ⟨c, rfl, ⟨Int.le_refl _⟩, ⟨Int.le_of_lt C2.out⟩, B1, ⟨Nat.le_refl _⟩, E⟩
            case round =>
              clear B1 E hc2_
              obtain ⟨a, rfl, AC, AR, HA, HK2, E⟩ := hrel
              have hc2_ : wr.cell? ⟨hi, 2, none⟩ = some ((.slice A1 n0 c1)) := (blk_cell (E.out.box (b := hi) (o := .cells #[.int .i64 q1, .int .i64 q2, (.slice A1 n0 c1)] 26 (0, 0)) (by simp)) 2).trans rfl
              cases gk with
              | zero => exact absurd HA.out (by simp [findB])
              | succ k2 =>
                have H := HA.out
                clear HA
                simp only [findB] at H
                by_cases c3 : a < (rows.length : Int)
                · rw [if_pos c3] at H
                  by_cases c4 : 0 ≤ a
                  case neg => rw [if_neg c4] at H; exact absurd H (by simp)
                  rw [if_pos c4] at H
                  by_cases c5_ : 0 ≤ c
                  case neg => rw [if_neg c5_] at H; exact absurd H (by simp)
                  rw [if_pos c5_] at H
                  by_cases c6 : c < ((rd_L1 rows a).length : Int)
                  case neg => rw [if_neg c6] at H; exact absurd H (by simp)
                  rw [if_pos c6] at H
                  obtain ⟨u, hu, hr⟩ := E.out.mx.rd_ a c4 c3
                  obtain ⟨b, cb, e, b1, b2, hx⟩ := E.out.mx.get hu hr c c5_ c6
                  obtain ⟨la, hla⟩ : ∃ m, m = (rd_L1 rows a).length := ⟨_, rfl⟩
                  rw [← hla] at e c6
                  subst e
                  obtain ⟨g, cg, e, g1, g2, g3, g4⟩ := E.out.mx.form (by omega)
                  injection e with e1 e2 e3
                  subst e1
                  have hy := (E.out.mx.cell hu).1
                  have a1b : decide (a < (n0 : Int)) = true := decide_eq_true (by have := hcnt.out.1; omega)
                  have a1c := eq_true (show a < (n0 : Int) by have := hcnt.out.1; omega)
                  have a2b : decide (0 ≤ a) = true := decide_eq_true c4
                  have a3b : decide (0 ≤ c) = true := decide_eq_true c5_
                  have a4b : decide (c < (la : Int)) = true := decide_eq_true c6
                  have G := Aside0.mk (And.intro g1 (And.intro g2 (And.intro b1 b2)))
                  have KK := Aside0.mk (And.intro c3 (And.intro c4 (And.intro c5_ c6)))
                  have HUR := Aside0.mk (And.intro hu hr)
                  have HLA := Aside0.mk hla
                  clear g1 g2 g3 g4 e2 e3 b1 b2 hu hr hla
                  replace c3 := eq_true c3
                  replace c4 := eq_true c4
                  replace c5_ := eq_true c5_
                  replace c6 := eq_true c6
                  by_cases c7 : rd (rd_L1 rows a) c = 0
                  · rw [if_pos c7] at H
                    have a5b : (rd (rd_L1 rows a) c == 0) = true := by rw [c7]; rfl
                    replace c7 := Aside0.mk c7
                    have H' := Aside0.mk H
                    clear H
                    go_wp2
                    go_roundg k2
                    case measure => have := HK1.out; have := HK2.out; omega
                    case rel => exact ⟨_, rfl, ⟨by have := AC.out; have := AR.out; have := HSM.out; have := KK.out; have := hcnt.out.1; unfold wrap64; omega⟩, ⟨by have := KK.out.1; have := KK.out.2.1; have := HSM.out; have := hcnt.out.1; unfold wrap64; omega⟩, H', ⟨by have := HK2.out; omega⟩, E⟩
                  · rw [if_neg c7] at H
                    have a5b : (rd (rd_L1 rows a) c == 0) = false := beq_eq_false_iff_ne.mpr c7
                    replace c7 := Aside0.mk c7
                    obtain rfl := Option.some.inj H
                    clear H
                    have H := H1.out
                    clear H1
                    have ca : ¬ a = (rows.length : Int) := by have := KK.out.1; omega
                    rw [if_neg ca] at H
                    have a6b : (a == (n0 : Int)) = false := beq_eq_false_iff_ne.mpr (by have := hcnt.out.1; omega)
                    clear ca
                    by_cases c8 : c < a
                    · rw [if_pos c8, if_pos KK.out.2.1, if_pos KK.out.1, if_pos KK.out.2.2.1] at H
                      by_cases c11 : a0_0 = 0
                      case pos => rw [if_pos c11] at H; exact absurd H (by simp)
                      rw [if_neg c11] at H
                      clear c11
                      have a8b : decide (c < a) = true := decide_eq_true c8
                      have C8 := Aside0.mk c8
                      replace c8 := eq_true c8
                      replace H := Option.bind_eq_some_iff.mp H
                      obtain ⟨⟨rows2, out2⟩, At, H⟩ := H
                      have B2 := Aside0.mk At
                      clear At
                      dsimp only at H
                      have H' := Aside0.mk H
                      clear H
                      have J := B2.out
                      clear B2
                      unfold spec_DeterminantOf.st at J
                      by_cases j1 : 0 ≤ c
                      case neg => rw [if_neg j1] at J; exact absurd J (by simp)
                      rw [if_pos j1] at J
                      by_cases j2 : c < ((swapB rows a.toNat c.toNat).length : Int)
                      case neg => rw [if_neg j2] at J; exact absurd J (by simp)
                      rw [if_pos j2] at J
                      by_cases js : (swapB rows a.toNat c.toNat).length ≤ 1048576
                      case neg => rw [if_neg js] at J; exact absurd J (by simp)
                      rw [if_pos js] at J
                      by_cases j3 : c < ((rd_L1 (swapB rows a.toNat c.toNat) c).length : Int)
                      case neg => rw [if_neg j3] at J; exact absurd J (by simp)
                      rw [if_pos j3] at J
                      by_cases j4 : a0_0 = 0
                      case pos => rw [if_pos j4] at J; exact absurd J (by simp)
                      rw [if_neg j4] at J
                      replace J := Option.bind_eq_some_iff.mp J
                      obtain ⟨inv, At, J⟩ := J
                      have B3 := Aside0.mk At
                      clear At
                      replace J := Option.bind_eq_some_iff.mp J
                      obtain ⟨rows3, At, J⟩ := J
                      have B5 := Aside0.mk At
                      clear At
                      obtain ⟨rfl, ho2⟩ := (by simpa using J : rows3 = rows2 ∧ Int.tmod (wrap64 ((Int.tmod (wrap64 (a0_0 - out)) a0_0) * rd (rd_L1 (swapB rows a.toNat c.toNat) c) c)) a0_0 = out2)
                      subst ho2
                      clear J
                      have JJ := Aside0.mk (And.intro j1 (And.intro j2 j3))
                      have JS := Aside0.mk js
                      have j4b : (a0_0 == 0) = false := beq_eq_false_iff_ne.mpr j4
                      replace j4 := eq_false j4
                      have j1b : decide (0 ≤ c) = true := decide_eq_true j1
                      have j3b : decide (c < ((rd_L1 (swapB rows a.toNat c.toNat) c).length : Int)) = true := decide_eq_true j3
                      have j3c := eq_true j3
                      have j2b : decide (c < (n0 : Int)) = true := decide_eq_true (by have := hcnt.out.1; have := KK.out.1; have := C2.out; omega)
                      have j2c := eq_true (show c < (n0 : Int) by have := hcnt.out.1; have := C2.out; omega)
                      have j2d := eq_true (show c.toNat < n0 by have := hcnt.out.1; have := C2.out; omega)
                      clear j1 j2 js j3
                      obtain ⟨un, hun, hrn⟩ := E.out.mx.rd_ c JJ.out.1 C2.out
                      obtain ⟨An, cn, en, _, _⟩ := E.out.mx.rslice hun hrn
                      subst en
                      have HN := Aside0.mk (And.intro hun hrn)
                      clear hun hrn
                      go_wp2
                      have E1 := Aside0.mk E.out.drew
                      clear E hx hy hc2_
                      refine start_ (n := 10) (S := fun w' => w'.cell? ⟨hi, 2, none⟩ = some (.slice (some ⟨g, 0, none⟩) n0 c1) ∧ w'.cell? ⟨g, c.toNat, none⟩ = some (.slice An (rd_L1 rows c).length cn)) (ds := [9]) #[false, false, false, false, false, false, false, false, false, false] (by kernel_rfl) rfl rfl ⟨(blk_cell (E1.out.box (b := hi) (o := .cells #[.int .i64 q1, .int .i64 q2, (.slice (some ⟨g, 0, none⟩) n0 c1)] 26 (0, 0)) (by simp)) 2).trans rfl, (E1.out.mx.cell HN.out.1).1⟩ (fun hHeld => ?_)
                      generalize wr.drew = w5 at E1 hHeld ⊢
                      obtain ⟨hs1, hs2⟩ := E1.out.mx.cell HUR.out.1
                      have hgh : hi ≠ g := by have := G.out; omega
                      have hgb : b ≠ g := blk_ne_row E1.out.mx HUR.out.1 HUR.out.2 (by have := KK.out; have := HLA.out; omega)
                      have hs3 : (w5.setCell ⟨g, a.toNat, none⟩ (.slice An (rd_L1 rows c).length cn)).cell? ⟨hi, 2, none⟩ = some (.slice (some ⟨g, 0, none⟩) n0 c1) := (cell_far (p := ⟨g, a.toNat, none⟩) (a := ⟨hi, 2, none⟩) hgh _).trans ((blk_cell (E1.out.box (b := hi) (o := .cells #[.int .i64 q1, .int .i64 q2, (.slice (some ⟨g, 0, none⟩) n0 c1)] 26 (0, 0)) (by simp)) 2).trans rfl)
                      obtain ⟨vb, hs4⟩ := cell?_setCell_some (w := w5) (p := ⟨g, a.toNat, none⟩) (x := (.slice An (rd_L1 rows c).length cn)) (q := ⟨g, c.toNat, none⟩) (E1.out.mx.cell HN.out.1).1
                      have hs5 : (w5.setCell ⟨g, a.toNat, none⟩ (.slice An (rd_L1 rows c).length cn)).frozen? ⟨g, c.toNat, none⟩ = false := (frozen_set _ _ _ _).trans (E1.out.mx.cell HN.out.1).2
                      have hs3b : ((w5.setCell ⟨g, a.toNat, none⟩ (.slice An (rd_L1 rows c).length cn)).setCell ⟨g, c.toNat, none⟩ (.slice (some ⟨b, 0, none⟩) la cb)).cell? ⟨hi, 2, none⟩ = some (.slice (some ⟨g, 0, none⟩) n0 c1) := (cell_far (p := ⟨g, c.toNat, none⟩) (a := ⟨hi, 2, none⟩) hgh _).trans hs3
                      have hs7 : ((w5.setCell ⟨g, a.toNat, none⟩ (.slice An (rd_L1 rows c).length cn)).setCell ⟨g, c.toNat, none⟩ (.slice (some ⟨b, 0, none⟩) la cb)).cell? ⟨g, c.toNat, none⟩ = some (.slice (some ⟨b, 0, none⟩) la cb) := World.cell?_setCell_same _ _ _ hs4
                      have hs6 : ((w5.setCell ⟨g, a.toNat, none⟩ (.slice An (rd_L1 rows c).length cn)).setCell ⟨g, c.toNat, none⟩ (.slice (some ⟨b, 0, none⟩) la cb)).cell? ⟨b, c.toNat, none⟩ = some (.int .i64 (rd (rd_L1 rows a) c)) := (cell_far (p := ⟨g, c.toNat, none⟩) (a := ⟨b, c.toNat, none⟩) hgb _).trans ((cell_far (p := ⟨g, a.toNat, none⟩) (a := ⟨b, c.toNat, none⟩) hgb _).trans (E1.out.mx.num HUR.out.1 HUR.out.2 c KK.out.2.2.1 (by have := KK.out; have := HLA.out; omega)))
                      refine pure_ (i := 0) (N := some 62) (v := ?_) (a' := ?_) #[true, false, false, false, false, false, false, false, false, false] rfl rfl (by kernel_rfl) (fun _ _ _ h => h) (Or.inl ⟨by rfl, ?_⟩) ?_ ?_
                      rotate_left
                      · intro w'
                        first | (go_simp; with_reducible rfl) | (simp [go_sem, Instr.field, asAgg] <;> with_reducible rfl)
                      rotate_left
                      · simp only [Act.put, List.setIfInBounds_toArray, List.set_cons_zero, List.set_cons_succ, i64_w, i32_w]
                        rfl
                      refine pure_ (i := 2) (N := some 64) (v := ?_) (a' := ?_) #[true, false, true, false, false, false, false, false, false, false] rfl rfl (by kernel_rfl) (fun _ _ _ h => h) (Or.inl ⟨by rfl, ?_⟩) ?_ ?_
                      rotate_left
                      · intro w'
                        first | (go_simp; with_reducible rfl) | (simp [go_sem, Instr.field, asAgg] <;> with_reducible rfl)
                      rotate_left
                      · simp only [Act.put, List.setIfInBounds_toArray, List.set_cons_zero, List.set_cons_succ, i64_w, i32_w]
                        rfl
                      refine pure_ (i := 3) (N := some 65) (v := ?_) (a' := ?_) #[true, false, true, true, false, false, false, false, false, false] rfl rfl (by kernel_rfl) (fun _ _ _ h => h) (Or.inl ⟨by rfl, ?_⟩) ?_ ?_
                      rotate_left
                      · intro w'
                        first | (go_simp; with_reducible rfl) | (simp [go_sem, Instr.field, asAgg] <;> with_reducible rfl)
                      rotate_left
                      · simp only [Act.put, List.setIfInBounds_toArray, List.set_cons_zero, List.set_cons_succ, i64_w, i32_w]
                        rfl
                      refine pure_ (i := 5) (N := some 67) (v := ?_) (a' := ?_) #[true, false, true, true, false, true, false, false, false, false] rfl rfl (by kernel_rfl) (fun _ _ _ h => h) (Or.inl ⟨by rfl, ?_⟩) ?_ ?_
                      rotate_left
                      · intro w'
                        first | (go_simp; with_reducible rfl) | (simp [go_sem, Instr.field, asAgg] <;> with_reducible rfl)
                      rotate_left
                      · simp only [Act.put, List.setIfInBounds_toArray, List.set_cons_zero, List.set_cons_succ, i64_w, i32_w]
                        rfl
                      refine take_ (i := 1) (N := some 63) (v := ?_) (a' := ?_) #[true, true, true, true, false, true, false, false, false, false] rfl rfl (by kernel_rfl) (fun _ _ _ h => h) (Or.inl ⟨by rfl, ?_⟩) hHeld ?_ ?_
                      rotate_left
                      · rintro w' ⟨s0, s1⟩
                        go_simp
                        with_reducible rfl
                      rotate_left
                      · simp only [Act.put, List.setIfInBounds_toArray, List.set_cons_zero, List.set_cons_succ, i64_w, i32_w]
                        rfl
                      refine take_ (i := 4) (N := some 66) (v := ?_) (a' := ?_) #[true, true, true, true, true, true, false, false, false, false] rfl rfl (by kernel_rfl) (fun _ _ _ h => h) (Or.inl ⟨by rfl, ?_⟩) hHeld ?_ ?_
                      rotate_left
                      · rintro w' ⟨s0, s1⟩
                        go_simp
                        with_reducible rfl
                      rotate_left
                      · simp only [Act.put, List.setIfInBounds_toArray, List.set_cons_zero, List.set_cons_succ, i64_w, i32_w]
                        rfl
                      refine pure_ (i := 6) (N := some 68) (v := ?_) (a' := ?_) #[true, true, true, true, true, true, true, false, false, false] rfl rfl (by kernel_rfl) (fun _ _ _ h => h) (Or.inl ⟨by rfl, ?_⟩) ?_ ?_
                      rotate_left
                      · intro w'
                        first | (go_simp; with_reducible rfl) | (simp [go_sem, Instr.field, asAgg] <;> with_reducible rfl)
                      rotate_left
                      · simp only [Act.put, List.setIfInBounds_toArray, List.set_cons_zero, List.set_cons_succ, i64_w, i32_w]
                        rfl
                      refine take_ (i := 7) (N := some 69) (v := ?_) (a' := ?_) #[true, true, true, true, true, true, true, true, false, false] rfl rfl (by kernel_rfl) (fun _ _ _ h => h) (Or.inl ⟨by rfl, ?_⟩) hHeld ?_ ?_
                      rotate_left
                      · rintro w' ⟨s0, s1⟩
                        go_simp
                        with_reducible rfl
                      rotate_left
                      · simp only [Act.put, List.setIfInBounds_toArray, List.set_cons_zero, List.set_cons_succ, i64_w, i32_w]
                        rfl
                      refine pure_ (i := 8) (N := some 70) (v := ?_) (a' := ?_) #[true, true, true, true, true, true, true, true, true, false] rfl rfl (by kernel_rfl) (fun _ _ _ h => h) (Or.inl ⟨by rfl, ?_⟩) ?_ ?_
                      rotate_left
                      · intro w'
                        first | (go_simp; with_reducible rfl) | (simp [go_sem, Instr.field, asAgg] <;> with_reducible rfl)
                      rotate_left
                      · simp only [Act.put, List.setIfInBounds_toArray, List.set_cons_zero, List.set_cons_succ, i64_w, i32_w]
                        rfl
                      refine last_ (i := 9) (N := none) #[true, true, true, true, true, true, true, true, true, true] rfl rfl (by kernel_rfl) (by decide) (fun K hK => ?_)
                      refine skip_ (w1 := ?_) (by rfl) rfl ?_ ?_
                      rotate_left
                      · go_simp
                        rfl
                      refine hK.out _ _ ?_
                      clear hK K
                      refine done_ (by kernel_rfl) ?_
                      clear hHeld
                      have hrs : rd_L1 (swapB rows a.toNat c.toNat) c = rd_L1 rows a := by unfold swapB; rw [Int.toNat_of_nonneg KK.out.2.1, Int.toNat_of_nonneg KK.out.2.2.1]; unfold rd_L1; rw [List.getD_eq_getElem?_getD, List.getElem?_set_self (by rw [List.length_set]; have := C2.out; have := KK.out.2.2.1; omega)]; rfl
                      rw [hrs] at B3 H'
                      skip
                      go_wp2_with (first | (go_at_call 66; (with_reducible refine (spec_l03Inverse.calls k1 a0_0 (rd (rd_L1 rows a) c) inv _ B3.out).mono ?_); rintro e w7 ⟨rfl, hd⟩; have E2 := Aside0.mk ((E1.out.swap HUR.out.1 HN.out.1 HUR.out.2 HN.out.2).below hd.below); rw [show (rows.set a.toNat (rd_L1 rows c)).set c.toNat (rd_L1 rows a) = (swapB rows a.toNat c.toNat) from by unfold swapB; rw [Int.toNat_of_nonneg KK.out.2.1, Int.toNat_of_nonneg KK.out.2.2.1]] at E2; clear E1 hs1 hs2 hs3 hs3b hs4 hs5 hs6 hs7; have hc2_ : w7.cell? ⟨hi, 2, none⟩ = some ((.slice (some ⟨g, 0, none⟩) n0 c1)) := (blk_cell (E2.out.box (b := hi) (o := .cells #[.int .i64 q1, .int .i64 q2, (.slice (some ⟨g, 0, none⟩) n0 c1)] 26 (0, 0)) (by simp)) 2).trans rfl; clear hd))
                      generalize ((vs.set a.toNat (.slice An (rd_L1 rows c).length cn)).set c.toNat (.slice (some ⟨b, 0, none⟩) la cb)) = vs2 at E2
                      have hw1 : wrap64 (c + 1) = c + 1 := by have := JJ.out.1; have := JJ.out.2.1; have := JS.out; unfold wrap64; omega
                      go_loopg [11] k1 (fun kq v11 w' => ∃ (i : Int) (rx : List (List Int)), v11 = .int .i64 i ∧ Aside0 (spec_DeterminantOf.l2 kq a0_0 c inv rx i = some rows3) ∧ Aside0 (kq ≤ k1) ∧ Aside0 (Mw w w' (w.heap.size + 1) hi (hi + 1) ([(w.heap.size, .cells #[.int .i64 a0_0, .int .i64 a0_1, .slice A0_2 l0_2.length c0_2] 26 (0, 0)), (hi, .cells #[.int .i64 q1, .int .i64 q2, (.slice (some ⟨g, 0, none⟩) n0 c1)] 26 (0, 0))]) (.slice (some ⟨g, 0, none⟩) n0 c1) vs2 rx))
                      case atStart => exact ⟨_, (swapB rows a.toNat c.toNat), rfl, B5, ⟨Nat.le_refl _⟩, E2⟩
                      case round =>
                        clear B5 E2 hw1 hc2_
                        obtain ⟨i, rx, rfl, HA, HK3, E⟩ := hrel
                        have hct := Aside0.mk E.out.mx.count
                        have hc2_ : wr.cell? ⟨hi, 2, none⟩ = some ((.slice (some ⟨g, 0, none⟩) n0 c1)) := (blk_cell (E.out.box (b := hi) (o := .cells #[.int .i64 q1, .int .i64 q2, (.slice (some ⟨g, 0, none⟩) n0 c1)] 26 (0, 0)) (by simp)) 2).trans rfl
                        cases gk with
                        | zero => exact absurd HA.out (by simp [spec_DeterminantOf.l2])
                        | succ k3 =>
                          have H := HA.out
                          clear HA
                          simp only [spec_DeterminantOf.l2] at H
                          by_cases d1 : i < (rx.length : Int)
                          · rw [if_pos d1] at H
                            by_cases d2 : c < i
                            case neg => rw [if_neg d2] at H; exact absurd H (by simp)
                            rw [if_pos d2] at H
                            by_cases d6 : c < ((rd_L1 rx i).length : Int)
                            case neg => rw [if_neg d6] at H; exact absurd H (by simp)
                            rw [if_pos d6] at H
                            replace H := Option.bind_eq_some_iff.mp H
                            obtain ⟨q, At, H⟩ := H
                            have B6 := Aside0.mk At
                            clear At
                            have H' := Aside0.mk H
                            clear H
                            have hj0 := JJ.out.1
                            obtain ⟨u, hu, hr⟩ := E.out.mx.rd_ i (by omega) d1
                            obtain ⟨bu, cu, e, _, _, _⟩ := E.out.mx.get hu hr c hj0 d6
                            subst e
                            obtain ⟨un, hun, hrn⟩ := E.out.mx.rd_ c hj0 (by omega)
                            obtain ⟨Am, cm, em, hcm, _⟩ := E.out.mx.rslice hun hrn
                            subst em
                            have HU := Aside0.mk (And.intro hu hr)
                            have HM := Aside0.mk (And.intro hun (And.intro hrn hcm))
                            have d1b : decide (i < (n0 : Int)) = true := decide_eq_true (by have := hct.out.1; omega)
                            have d1c := eq_true (show i < (n0 : Int) by have := hct.out.1; omega)
                            have d2b : decide (0 ≤ i) = true := decide_eq_true (by omega)
                            have d2c := eq_true (show 0 ≤ i by omega)
                            have d6b : decide (c < ((rd_L1 rx i).length : Int)) = true := decide_eq_true d6
                            have DD := Aside0.mk (And.intro d1 (And.intro d2 d6))
                            replace d6 := eq_true d6
                            clear hu hr hun hrn hcm d1 d2 hj0
                            go_wp2
                            have E6 := Aside0.mk E.out.drew
                            clear E hc2_
                            refine start_ (n := 26) (S := fun w' => w'.cell? ⟨hi, 2, none⟩ = some (.slice (some ⟨g, 0, none⟩) n0 c1) ∧ w'.cell? ⟨g, i.toNat, none⟩ = some (.slice (some ⟨bu, 0, none⟩) (rd_L1 rx i).length cu) ∧ w'.cell? ⟨g, c.toNat, none⟩ = some (.slice Am (rd_L1 rx c).length cm) ∧ w'.cell? ⟨bu, c.toNat, none⟩ = some (.int .i64 (rd (rd_L1 rx i) c))) (ds := [25]) #[false, false, false, false, false, false, false, false, false, false, false, false, false, false, false, false, false, false, false, false, false, false, false, false, false, false] (by kernel_rfl) rfl rfl ⟨(blk_cell (E6.out.box (b := hi) (o := .cells #[.int .i64 q1, .int .i64 q2, (.slice (some ⟨g, 0, none⟩) n0 c1)] 26 (0, 0)) (by simp)) 2).trans rfl, (E6.out.mx.cell HU.out.1).1, (E6.out.mx.cell HM.out.1).1, E6.out.mx.num HU.out.1 HU.out.2 c JJ.out.1 DD.out.2.2⟩ (fun hHeld => ?_)
                            generalize wr.drew = w11 at E6 hHeld ⊢
                            refine pure_ (i := 0) (N := some 112) (v := ?_) (a' := ?_) #[true, false, false, false, false, false, false, false, false, false, false, false, false, false, false, false, false, false, false, false, false, false, false, false, false, false] rfl rfl (by kernel_rfl) (fun _ _ _ h => h) (Or.inl ⟨by rfl, ?_⟩) ?_ ?_
                            rotate_left
                            · intro w'
                              first | (go_simp; with_reducible rfl) | (simp [go_sem, Instr.field, asAgg] <;> with_reducible rfl)
                            rotate_left
                            · simp only [Act.put, List.setIfInBounds_toArray, List.set_cons_zero, List.set_cons_succ, i64_w, i32_w]
                              rfl
                            refine pure_ (i := 1) (N := some 113) (v := ?_) (a' := ?_) #[true, true, false, false, false, false, false, false, false, false, false, false, false, false, false, false, false, false, false, false, false, false, false, false, false, false] rfl rfl (by kernel_rfl) (fun _ _ _ h => h) (Or.inl ⟨by rfl, ?_⟩) ?_ ?_
                            rotate_left
                            · intro w'
                              first | (go_simp; with_reducible rfl) | (simp [go_sem, Instr.field, asAgg] <;> with_reducible rfl)
                            rotate_left
                            · simp only [Act.put, List.setIfInBounds_toArray, List.set_cons_zero, List.set_cons_succ, i64_w, i32_w]
                              rfl
                            refine pure_ (i := 3) (N := some 115) (v := ?_) (a' := ?_) #[true, true, false, true, false, false, false, false, false, false, false, false, false, false, false, false, false, false, false, false, false, false, false, false, false, false] rfl rfl (by kernel_rfl) (fun _ _ _ h => h) (Or.inl ⟨by rfl, ?_⟩) ?_ ?_
                            rotate_left
                            · intro w'
                              first | (go_simp; with_reducible rfl) | (simp [go_sem, Instr.field, asAgg] <;> with_reducible rfl)
                            rotate_left
                            · simp only [Act.put, List.setIfInBounds_toArray, List.set_cons_zero, List.set_cons_succ, i64_w, i32_w]
                              rfl
                            refine pure_ (i := 6) (N := some 118) (v := ?_) (a' := ?_) #[true, true, false, true, false, false, true, false, false, false, false, false, false, false, false, false, false, false, false, false, false, false, false, false, false, false] rfl rfl (by kernel_rfl) (fun _ _ _ h => h) (Or.inl ⟨by rfl, ?_⟩) ?_ ?_
                            rotate_left
                            · intro w'
                              first | (go_simp; with_reducible rfl) | (simp [go_sem, Instr.field, asAgg] <;> with_reducible rfl)
                            rotate_left
                            · simp only [Act.put, List.setIfInBounds_toArray, List.set_cons_zero, List.set_cons_succ, i64_w, i32_w]
                              rfl
                            refine pure_ (i := 8) (N := some 120) (v := ?_) (a' := ?_) #[true, true, false, true, false, false, true, false, true, false, false, false, false, false, false, false, false, false, false, false, false, false, false, false, false, false] rfl rfl (by kernel_rfl) (fun _ _ _ h => h) (Or.inl ⟨by rfl, ?_⟩) ?_ ?_
                            rotate_left
                            · intro w'
                              first | (go_simp; with_reducible rfl) | (simp [go_sem, Instr.field, asAgg] <;> with_reducible rfl)
                            rotate_left
                            · simp only [Act.put, List.setIfInBounds_toArray, List.set_cons_zero, List.set_cons_succ, i64_w, i32_w]
                              rfl
                            refine pure_ (i := 11) (N := some 123) (v := ?_) (a' := ?_) #[true, true, false, true, false, false, true, false, true, false, false, true, false, false, false, false, false, false, false, false, false, false, false, false, false, false] rfl rfl (by kernel_rfl) (fun _ _ _ h => h) (Or.inl ⟨by rfl, ?_⟩) ?_ ?_
                            rotate_left
                            · intro w'
                              first | (go_simp; with_reducible rfl) | (simp [go_sem, Instr.field, asAgg] <;> with_reducible rfl)
                            rotate_left
                            · simp only [Act.put, List.setIfInBounds_toArray, List.set_cons_zero, List.set_cons_succ, i64_w, i32_w]
                              rfl
                            refine pure_ (i := 12) (N := some 124) (v := ?_) (a' := ?_) #[true, true, false, true, false, false, true, false, true, false, false, true, true, false, false, false, false, false, false, false, false, false, false, false, false, false] rfl rfl (by kernel_rfl) (fun _ _ _ h => h) (Or.inl ⟨by rfl, ?_⟩) ?_ ?_
                            rotate_left
                            · intro w'
                              first | (go_simp; with_reducible rfl) | (simp [go_sem, Instr.field, asAgg] <;> with_reducible rfl)
                            rotate_left
                            · simp only [Act.put, List.setIfInBounds_toArray, List.set_cons_zero, List.set_cons_succ, i64_w, i32_w]
                              rfl
                            refine pure_ (i := 14) (N := some 126) (v := ?_) (a' := ?_) #[true, true, false, true, false, false, true, false, true, false, false, true, true, false, true, false, false, false, false, false, false, false, false, false, false, false] rfl rfl (by kernel_rfl) (fun _ _ _ h => h) (Or.inl ⟨by rfl, ?_⟩) ?_ ?_
                            rotate_left
                            · intro w'
                              first | (go_simp; with_reducible rfl) | (simp [go_sem, Instr.field, asAgg] <;> with_reducible rfl)
                            rotate_left
                            · simp only [Act.put, List.setIfInBounds_toArray, List.set_cons_zero, List.set_cons_succ, i64_w, i32_w]
                              rfl
                            refine pure_ (i := 17) (N := some 129) (v := ?_) (a' := ?_) #[true, true, false, true, false, false, true, false, true, false, false, true, true, false, true, false, false, true, false, false, false, false, false, false, false, false] rfl rfl (by kernel_rfl) (fun _ _ _ h => h) (Or.inl ⟨by rfl, ?_⟩) ?_ ?_
                            rotate_left
                            · intro w'
                              first | (go_simp; with_reducible rfl) | (simp [go_sem, Instr.field, asAgg] <;> with_reducible rfl)
                            rotate_left
                            · simp only [Act.put, List.setIfInBounds_toArray, List.set_cons_zero, List.set_cons_succ, i64_w, i32_w]
                              rfl
                            refine pure_ (i := 21) (N := some 133) (v := ?_) (a' := ?_) #[true, true, false, true, false, false, true, false, true, false, false, true, true, false, true, false, false, true, false, false, false, true, false, false, false, false] rfl rfl (by kernel_rfl) (fun _ _ _ h => h) (Or.inl ⟨by rfl, ?_⟩) ?_ ?_
                            rotate_left
                            · intro w'
                              first | (go_simp; with_reducible rfl) | (simp [go_sem, Instr.field, asAgg] <;> with_reducible rfl)
                            rotate_left
                            · simp only [Act.put, List.setIfInBounds_toArray, List.set_cons_zero, List.set_cons_succ, i64_w, i32_w]
                              rfl
                            refine pure_ (i := 23) (N := some 135) (v := ?_) (a' := ?_) #[true, true, false, true, false, false, true, false, true, false, false, true, true, false, true, false, false, true, false, false, false, true, false, true, false, false] rfl rfl (by kernel_rfl) (fun _ _ _ h => h) (Or.inl ⟨by rfl, ?_⟩) ?_ ?_
                            rotate_left
                            · intro w'
                              first | (go_simp; with_reducible rfl) | (simp [go_sem, Instr.field, asAgg] <;> with_reducible rfl)
                            rotate_left
                            · simp only [Act.put, List.setIfInBounds_toArray, List.set_cons_zero, List.set_cons_succ, i64_w, i32_w]
                              rfl
                            refine take_ (i := 2) (N := some 114) (v := ?_) (a' := ?_) #[true, true, true, true, false, false, true, false, true, false, false, true, true, false, true, false, false, true, false, false, false, true, false, true, false, false] rfl rfl (by kernel_rfl) (fun _ _ _ h => h) (Or.inl ⟨by rfl, ?_⟩) hHeld ?_ ?_
                            rotate_left
                            · rintro w' ⟨s0, s1, s2, s3⟩
                              go_simp
                              with_reducible rfl
                            rotate_left
                            · simp only [Act.put, List.setIfInBounds_toArray, List.set_cons_zero, List.set_cons_succ, i64_w, i32_w]
                              rfl
                            refine pure_ (i := 4) (N := some 116) (v := ?_) (a' := ?_) #[true, true, true, true, true, false, true, false, true, false, false, true, true, false, true, false, false, true, false, false, false, true, false, true, false, false] rfl rfl (by kernel_rfl) (fun _ _ _ h => h) (Or.inl ⟨by rfl, ?_⟩) ?_ ?_
                            rotate_left
                            · intro w'
                              first | (go_simp; with_reducible rfl) | (simp [go_sem, Instr.field, asAgg] <;> with_reducible rfl)
                            rotate_left
                            · simp only [Act.put, List.setIfInBounds_toArray, List.set_cons_zero, List.set_cons_succ, i64_w, i32_w]
                              rfl
                            refine take_ (i := 5) (N := some 117) (v := ?_) (a' := ?_) #[true, true, true, true, true, true, true, false, true, false, false, true, true, false, true, false, false, true, false, false, false, true, false, true, false, false] rfl rfl (by kernel_rfl) (fun _ _ _ h => h) (Or.inl ⟨by rfl, ?_⟩) hHeld ?_ ?_
                            rotate_left
                            · rintro w' ⟨s0, s1, s2, s3⟩
                              go_simp
                              with_reducible rfl
                            rotate_left
                            · simp only [Act.put, List.setIfInBounds_toArray, List.set_cons_zero, List.set_cons_succ, i64_w, i32_w]
                              rfl
                            refine take_ (i := 7) (N := some 119) (v := ?_) (a' := ?_) #[true, true, true, true, true, true, true, true, true, false, false, true, true, false, true, false, false, true, false, false, false, true, false, true, false, false] rfl rfl (by kernel_rfl) (fun _ _ _ h => h) (Or.inl ⟨by rfl, ?_⟩) hHeld ?_ ?_
                            rotate_left
                            · rintro w' ⟨s0, s1, s2, s3⟩
                              go_simp
                              with_reducible rfl
                            rotate_left
                            · simp only [Act.put, List.setIfInBounds_toArray, List.set_cons_zero, List.set_cons_succ, i64_w, i32_w]
                              rfl
                            refine pure_ (i := 9) (N := some 121) (v := ?_) (a' := ?_) #[true, true, true, true, true, true, true, true, true, true, false, true, true, false, true, false, false, true, false, false, false, true, false, true, false, false] rfl rfl (by kernel_rfl) (fun _ _ _ h => h) (Or.inl ⟨by rfl, ?_⟩) ?_ ?_
                            rotate_left
                            · intro w'
                              first | (go_simp; with_reducible rfl) | (simp [go_sem, Instr.field, asAgg] <;> with_reducible rfl)
                            rotate_left
                            · simp only [Act.put, List.setIfInBounds_toArray, List.set_cons_zero, List.set_cons_succ, i64_w, i32_w]
                              rfl
                            refine take_ (i := 10) (N := some 122) (v := ?_) (a' := ?_) #[true, true, true, true, true, true, true, true, true, true, true, true, true, false, true, false, false, true, false, false, false, true, false, true, false, false] rfl rfl (by kernel_rfl) (fun _ _ _ h => h) (Or.inl ⟨by rfl, ?_⟩) hHeld ?_ ?_
                            rotate_left
                            · rintro w' ⟨s0, s1, s2, s3⟩
                              go_simp
                              with_reducible rfl
                            rotate_left
                            · simp only [Act.put, List.setIfInBounds_toArray, List.set_cons_zero, List.set_cons_succ, i64_w, i32_w]
                              rfl
                            refine take_ (i := 13) (N := some 125) (v := ?_) (a' := ?_) #[true, true, true, true, true, true, true, true, true, true, true, true, true, true, true, false, false, true, false, false, false, true, false, true, false, false] rfl rfl (by kernel_rfl) (fun _ _ _ h => h) (Or.inl ⟨by rfl, ?_⟩) hHeld ?_ ?_
                            rotate_left
                            · rintro w' ⟨s0, s1, s2, s3⟩
                              go_simp
                              with_reducible rfl
                            rotate_left
                            · simp only [Act.put, List.setIfInBounds_toArray, List.set_cons_zero, List.set_cons_succ, i64_w, i32_w]
                              rfl
                            refine pure_ (i := 15) (N := some 127) (v := ?_) (a' := ?_) #[true, true, true, true, true, true, true, true, true, true, true, true, true, true, true, true, false, true, false, false, false, true, false, true, false, false] rfl rfl (by kernel_rfl) (fun _ _ _ h => h) (Or.inl ⟨by rfl, ?_⟩) ?_ ?_
                            rotate_left
                            · intro w'
                              first | (go_simp; with_reducible rfl) | (simp [go_sem, Instr.field, asAgg] <;> with_reducible rfl)
                            rotate_left
                            · simp only [Act.put, List.setIfInBounds_toArray, List.set_cons_zero, List.set_cons_succ, i64_w, i32_w]
                              rfl
                            refine take_ (i := 16) (N := some 128) (v := ?_) (a' := ?_) #[true, true, true, true, true, true, true, true, true, true, true, true, true, true, true, true, true, true, false, false, false, true, false, true, false, false] rfl rfl (by kernel_rfl) (fun _ _ _ h => h) (Or.inl ⟨by rfl, ?_⟩) hHeld ?_ ?_
                            rotate_left
                            · rintro w' ⟨s0, s1, s2, s3⟩
                              go_simp
                              with_reducible rfl
                            rotate_left
                            · simp only [Act.put, List.setIfInBounds_toArray, List.set_cons_zero, List.set_cons_succ, i64_w, i32_w]
                              rfl
                            refine pure_ (i := 18) (N := some 130) (v := ?_) (a' := ?_) #[true, true, true, true, true, true, true, true, true, true, true, true, true, true, true, true, true, true, true, false, false, true, false, true, false, false] rfl rfl (by kernel_rfl) (fun _ _ _ h => h) (Or.inl ⟨by rfl, ?_⟩) ?_ ?_
                            rotate_left
                            · intro w'
                              first | (go_simp; with_reducible rfl) | (simp [go_sem, Instr.field, asAgg] <;> with_reducible rfl)
                            rotate_left
                            · simp only [Act.put, List.setIfInBounds_toArray, List.set_cons_zero, List.set_cons_succ, i64_w, i32_w]
                              rfl
                            refine take_ (i := 19) (N := some 131) (v := ?_) (a' := ?_) #[true, true, true, true, true, true, true, true, true, true, true, true, true, true, true, true, true, true, true, true, false, true, false, true, false, false] rfl rfl (by kernel_rfl) (fun _ _ _ h => h) (Or.inl ⟨by rfl, ?_⟩) hHeld ?_ ?_
                            rotate_left
                            · rintro w' ⟨s0, s1, s2, s3⟩
                              go_simp
                              with_reducible rfl
                            rotate_left
                            · simp only [Act.put, List.setIfInBounds_toArray, List.set_cons_zero, List.set_cons_succ, i64_w, i32_w]
                              rfl
                            refine pure_ (i := 20) (N := some 132) (v := ?_) (a' := ?_) #[true, true, true, true, true, true, true, true, true, true, true, true, true, true, true, true, true, true, true, true, true, true, false, true, false, false] rfl rfl (by kernel_rfl) (fun _ _ _ h => h) (Or.inl ⟨by rfl, ?_⟩) ?_ ?_
                            rotate_left
                            · intro w'
                              first | (go_simp; with_reducible rfl) | (simp [go_sem, Instr.field, asAgg] <;> with_reducible rfl)
                            rotate_left
                            · simp only [Act.put, List.setIfInBounds_toArray, List.set_cons_zero, List.set_cons_succ, i64_w, i32_w]
                              rfl
                            refine pure_ (i := 22) (N := some 134) (v := ?_) (a' := ?_) #[true, true, true, true, true, true, true, true, true, true, true, true, true, true, true, true, true, true, true, true, true, true, true, true, false, false] rfl rfl (by kernel_rfl) (fun _ _ _ h => h) (Or.inl ⟨by rfl, ?_⟩) ?_ ?_
                            rotate_left
                            · intro w'
                              first | (go_simp; with_reducible rfl) | (simp [go_sem, Instr.field, asAgg] <;> with_reducible rfl)
                            rotate_left
                            · simp only [Act.put, List.setIfInBounds_toArray, List.set_cons_zero, List.set_cons_succ, i64_w, i32_w]
                              rfl
                            refine pure_ (i := 24) (N := some 136) (v := ?_) (a' := ?_) #[true, true, true, true, true, true, true, true, true, true, true, true, true, true, true, true, true, true, true, true, true, true, true, true, true, false] rfl rfl (by kernel_rfl) (fun _ _ _ h => h) (Or.inl ⟨by rfl, ?_⟩) ?_ ?_
                            rotate_left
                            · intro w'
                              first | (go_simp; with_reducible rfl) | (simp [go_sem, Instr.field, asAgg] <;> with_reducible rfl)
                            rotate_left
                            · simp only [Act.put, List.setIfInBounds_toArray, List.set_cons_zero, List.set_cons_succ, i64_w, i32_w]
                              rfl
                            refine last_ (i := 25) (N := some 137) #[true, true, true, true, true, true, true, true, true, true, true, true, true, true, true, true, true, true, true, true, true, true, true, true, true, true] rfl rfl (by kernel_rfl) (by decide) (fun K hK => ?_)
                            refine goes_ Try.func67 (by kernel_rfl) rfl #[.int .i64 a0_0, (.slice (some ⟨bu, 0, none⟩) (rd_L1 rx i).length cu), (.slice Am (rd_L1 rx c).length cm), .int .i64 (Int.tmod (wrap64 (wrap64 (a0_0 - (rd (rd_L1 rx i) c)) * inv)) a0_0)] (by rfl) rfl rfl (by simp only [List.map_toArray, List.map_cons, List.map_nil]; rfl) ?_
                            with_reducible refine (spec_l03Add.calls k3 a0_0 (fun k_ => some k_ = ((.slice (some ⟨bu, 0, none⟩) (rd_L1 rx i).length cu) : Value).ownBlock ∧ w.heap.size + 1 ≤ k_ ∧ k_ < hi) (.slice (some ⟨bu, 0, none⟩) (rd_L1 rx i).length cu) (rd_L1 rx i) Am cm (rd_L1 rx c) (Int.tmod (wrap64 (wrap64 (a0_0 - (rd (rd_L1 rx i) c)) * inv)) a0_0) q w _ E6.out.be (E6.out.mx.row _ _ _ HU.out.1 HU.out.2) (E6.out.mx.other (by have := DD.out; have := JJ.out.1; omega) HU.out.1 HM.out.1 HM.out.2.1) HM.out.2.2 B6.out).mono ?_
                            rintro e w12 ⟨rfl, hR, hBw, hK⟩
                            refine ⟨_, rfl, ?_⟩
                            have E7 := Aside0.mk (E6.out.put HU.out.1 HU.out.2 hR hK hBw)
                            clear E6 hR hBw hK
                            refine hK.out _ _ ?_
                            clear hK K
                            refine norm_ (a' := ?_) ?_ ?_
                            rotate_left
                            · show Act.put _ (some 137) _ = _
                              simp only [Act.put, List.setIfInBounds_toArray, List.set_cons_zero, List.set_cons_succ, i64_w, i32_w]
                              rfl
                            refine done_ (by kernel_rfl) ?_
                            clear hHeld
                            (try go_wp2)
                            go_roundg k3
                            case measure => have := HK1.out; have := HK2.out; have := HK3.out; omega
                            case rel => exact ⟨_, _, rfl, H', ⟨by have := HK3.out; omega⟩, E7⟩
                          · rw [if_neg d1] at H
                            obtain rfl := Option.some.inj H
                            clear H
                            have d1b : decide (i < (n0 : Int)) = false := decide_eq_false (by have := hct.out.1; omega)
                            replace d1 := Aside0.mk d1
                            go_wp2
                            go_roundg k1
                            case measure => have := HK1.out; have := HK2.out; have := HK3.out; omega
                            case rel => exact ⟨_, _, _, vs2, rfl, rfl, H', ⟨by have := HK1.out; omega⟩, E⟩
                    · rw [if_neg c8] at H
                      have a8b : decide (c < a) = false := decide_eq_false c8
                      replace c8 := eq_false c8
                      replace H := Option.bind_eq_some_iff.mp H
                      obtain ⟨⟨rows2, out2⟩, At, H⟩ := H
                      have B2 := Aside0.mk At
                      clear At
                      dsimp only at H
                      have H' := Aside0.mk H
                      clear H
                      have J := B2.out
                      clear B2
                      unfold spec_DeterminantOf.st at J
                      by_cases j1 : 0 ≤ c
                      case neg => rw [if_neg j1] at J; exact absurd J (by simp)
                      rw [if_pos j1] at J
                      by_cases j2 : c < (rows.length : Int)
                      case neg => rw [if_neg j2] at J; exact absurd J (by simp)
                      rw [if_pos j2] at J
                      by_cases js : rows.length ≤ 1048576
                      case neg => rw [if_neg js] at J; exact absurd J (by simp)
                      rw [if_pos js] at J
                      by_cases j3 : c < ((rd_L1 rows c).length : Int)
                      case neg => rw [if_neg j3] at J; exact absurd J (by simp)
                      rw [if_pos j3] at J
                      by_cases j4 : a0_0 = 0
                      case pos => rw [if_pos j4] at J; exact absurd J (by simp)
                      rw [if_neg j4] at J
                      replace J := Option.bind_eq_some_iff.mp J
                      obtain ⟨inv, At, J⟩ := J
                      have B3 := Aside0.mk At
                      clear At
                      replace J := Option.bind_eq_some_iff.mp J
                      obtain ⟨rows3, At, J⟩ := J
                      have B5 := Aside0.mk At
                      clear At
                      obtain ⟨rfl, ho2⟩ := (by simpa using J : rows3 = rows2 ∧ Int.tmod (wrap64 (out * rd (rd_L1 rows c) c)) a0_0 = out2)
                      subst ho2
                      clear J
                      have JJ := Aside0.mk (And.intro j1 (And.intro j2 j3))
                      have JS := Aside0.mk js
                      have j4b : (a0_0 == 0) = false := beq_eq_false_iff_ne.mpr j4
                      replace j4 := eq_false j4
                      have j1b : decide (0 ≤ c) = true := decide_eq_true j1
                      have j3b : decide (c < ((rd_L1 rows c).length : Int)) = true := decide_eq_true j3
                      have j3c := eq_true j3
                      have j2b : decide (c < (n0 : Int)) = true := decide_eq_true (by have := hcnt.out.1; have := KK.out.1; have := C2.out; omega)
                      have j2c := eq_true (show c < (n0 : Int) by have := hcnt.out.1; have := C2.out; omega)
                      have j2d := eq_true (show c.toNat < n0 by have := hcnt.out.1; have := C2.out; omega)
                      clear j1 j2 js j3
                      obtain ⟨un, hun, hrn⟩ := E.out.mx.rd_ c JJ.out.1 JJ.out.2.1
                      obtain ⟨b2, cb2, e, _, _, hxn⟩ := E.out.mx.get hun hrn c JJ.out.1 JJ.out.2.2
                      subst e
                      have hyn := (E.out.mx.cell hun).1
                      clear hun hrn
                      go_wp2_with (first | (go_at_call 66; (with_reducible refine (spec_l03Inverse.calls k1 a0_0 (rd (rd_L1 rows c) c) inv _ B3.out).mono ?_); rintro e w7 ⟨rfl, hd⟩; have E2 := Aside0.mk (E.out.below hd.below); clear E hx hy hxn hyn hc2_; have hc2_ : w7.cell? ⟨hi, 2, none⟩ = some ((.slice (some ⟨g, 0, none⟩) n0 c1)) := (blk_cell (E2.out.box (b := hi) (o := .cells #[.int .i64 q1, .int .i64 q2, (.slice (some ⟨g, 0, none⟩) n0 c1)] 26 (0, 0)) (by simp)) 2).trans rfl; clear hd))
                      have hw1 : wrap64 (c + 1) = c + 1 := by have := JJ.out.1; have := JJ.out.2.1; have := JS.out; unfold wrap64; omega
                      go_loopg [11] k1 (fun kq v11 w' => ∃ (i : Int) (rx : List (List Int)), v11 = .int .i64 i ∧ Aside0 (spec_DeterminantOf.l2 kq a0_0 c inv rx i = some rows3) ∧ Aside0 (kq ≤ k1) ∧ Aside0 (Mw w w' (w.heap.size + 1) hi (hi + 1) ([(w.heap.size, .cells #[.int .i64 a0_0, .int .i64 a0_1, .slice A0_2 l0_2.length c0_2] 26 (0, 0)), (hi, .cells #[.int .i64 q1, .int .i64 q2, (.slice (some ⟨g, 0, none⟩) n0 c1)] 26 (0, 0))]) (.slice (some ⟨g, 0, none⟩) n0 c1) vs rx))
                      case atStart => exact ⟨_, rows, rfl, B5, ⟨Nat.le_refl _⟩, E2⟩
                      case round =>
                        clear B5 E2 hw1 hc2_
                        obtain ⟨i, rx, rfl, HA, HK3, E⟩ := hrel
                        have hct := Aside0.mk E.out.mx.count
                        have hc2_ : wr.cell? ⟨hi, 2, none⟩ = some ((.slice (some ⟨g, 0, none⟩) n0 c1)) := (blk_cell (E.out.box (b := hi) (o := .cells #[.int .i64 q1, .int .i64 q2, (.slice (some ⟨g, 0, none⟩) n0 c1)] 26 (0, 0)) (by simp)) 2).trans rfl
                        cases gk with
                        | zero => exact absurd HA.out (by simp [spec_DeterminantOf.l2])
                        | succ k3 =>
                          have H := HA.out
                          clear HA
                          simp only [spec_DeterminantOf.l2] at H
                          by_cases d1 : i < (rx.length : Int)
                          · rw [if_pos d1] at H
                            by_cases d2 : c < i
                            case neg => rw [if_neg d2] at H; exact absurd H (by simp)
                            rw [if_pos d2] at H
                            by_cases d6 : c < ((rd_L1 rx i).length : Int)
                            case neg => rw [if_neg d6] at H; exact absurd H (by simp)
                            rw [if_pos d6] at H
                            replace H := Option.bind_eq_some_iff.mp H
                            obtain ⟨q, At, H⟩ := H
                            have B6 := Aside0.mk At
                            clear At
                            have H' := Aside0.mk H
                            clear H
                            have hj0 := JJ.out.1
                            obtain ⟨u, hu, hr⟩ := E.out.mx.rd_ i (by omega) d1
                            obtain ⟨bu, cu, e, _, _, _⟩ := E.out.mx.get hu hr c hj0 d6
                            subst e
                            obtain ⟨un, hun, hrn⟩ := E.out.mx.rd_ c hj0 (by omega)
                            obtain ⟨Am, cm, em, hcm, _⟩ := E.out.mx.rslice hun hrn
                            subst em
                            have HU := Aside0.mk (And.intro hu hr)
                            have HM := Aside0.mk (And.intro hun (And.intro hrn hcm))
                            have d1b : decide (i < (n0 : Int)) = true := decide_eq_true (by have := hct.out.1; omega)
                            have d1c := eq_true (show i < (n0 : Int) by have := hct.out.1; omega)
                            have d2b : decide (0 ≤ i) = true := decide_eq_true (by omega)
                            have d2c := eq_true (show 0 ≤ i by omega)
                            have d6b : decide (c < ((rd_L1 rx i).length : Int)) = true := decide_eq_true d6
                            have DD := Aside0.mk (And.intro d1 (And.intro d2 d6))
                            replace d6 := eq_true d6
                            clear hu hr hun hrn hcm d1 d2 hj0
                            go_wp2
                            have E6 := Aside0.mk E.out.drew
                            clear E hc2_
                            refine start_ (n := 26) (S := fun w' => w'.cell? ⟨hi, 2, none⟩ = some (.slice (some ⟨g, 0, none⟩) n0 c1) ∧ w'.cell? ⟨g, i.toNat, none⟩ = some (.slice (some ⟨bu, 0, none⟩) (rd_L1 rx i).length cu) ∧ w'.cell? ⟨g, c.toNat, none⟩ = some (.slice Am (rd_L1 rx c).length cm) ∧ w'.cell? ⟨bu, c.toNat, none⟩ = some (.int .i64 (rd (rd_L1 rx i) c))) (ds := [25]) #[false, false, false, false, false, false, false, false, false, false, false, false, false, false, false, false, false, false, false, false, false, false, false, false, false, false] (by kernel_rfl) rfl rfl ⟨(blk_cell (E6.out.box (b := hi) (o := .cells #[.int .i64 q1, .int .i64 q2, (.slice (some ⟨g, 0, none⟩) n0 c1)] 26 (0, 0)) (by simp)) 2).trans rfl, (E6.out.mx.cell HU.out.1).1, (E6.out.mx.cell HM.out.1).1, E6.out.mx.num HU.out.1 HU.out.2 c JJ.out.1 DD.out.2.2⟩ (fun hHeld => ?_)
                            generalize wr.drew = w11 at E6 hHeld ⊢
                            refine pure_ (i := 0) (N := some 112) (v := ?_) (a' := ?_) #[true, false, false, false, false, false, false, false, false, false, false, false, false, false, false, false, false, false, false, false, false, false, false, false, false, false] rfl rfl (by kernel_rfl) (fun _ _ _ h => h) (Or.inl ⟨by rfl, ?_⟩) ?_ ?_
                            rotate_left
                            · intro w'
                              first | (go_simp; with_reducible rfl) | (simp [go_sem, Instr.field, asAgg] <;> with_reducible rfl)
                            rotate_left
                            · simp only [Act.put, List.setIfInBounds_toArray, List.set_cons_zero, List.set_cons_succ, i64_w, i32_w]
                              rfl
                            refine pure_ (i := 1) (N := some 113) (v := ?_) (a' := ?_) #[true, true, false, false, false, false, false, false, false, false, false, false, false, false, false, false, false, false, false, false, false, false, false, false, false, false] rfl rfl (by kernel_rfl) (fun _ _ _ h => h) (Or.inl ⟨by rfl, ?_⟩) ?_ ?_
                            rotate_left
                            · intro w'
                              first | (go_simp; with_reducible rfl) | (simp [go_sem, Instr.field, asAgg] <;> with_reducible rfl)
                            rotate_left
                            · simp only [Act.put, List.setIfInBounds_toArray, List.set_cons_zero, List.set_cons_succ, i64_w, i32_w]
                              rfl
                            refine pure_ (i := 3) (N := some 115) (v := ?_) (a' := ?_) #[true, true, false, true, false, false, false, false, false, false, false, false, false, false, false, false, false, false, false, false, false, false, false, false, false, false] rfl rfl (by kernel_rfl) (fun _ _ _ h => h) (Or.inl ⟨by rfl, ?_⟩) ?_ ?_
                            rotate_left
                            · intro w'
                              first | (go_simp; with_reducible rfl) | (simp [go_sem, Instr.field, asAgg] <;> with_reducible rfl)
                            rotate_left
                            · simp only [Act.put, List.setIfInBounds_toArray, List.set_cons_zero, List.set_cons_succ, i64_w, i32_w]
                              rfl
                            refine pure_ (i := 6) (N := some 118) (v := ?_) (a' := ?_) #[true, true, false, true, false, false, true, false, false, false, false, false, false, false, false, false, false, false, false, false, false, false, false, false, false, false] rfl rfl (by kernel_rfl) (fun _ _ _ h => h) (Or.inl ⟨by rfl, ?_⟩) ?_ ?_
                            rotate_left
                            · intro w'
                              first | (go_simp; with_reducible rfl) | (simp [go_sem, Instr.field, asAgg] <;> with_reducible rfl)
                            rotate_left
                            · simp only [Act.put, List.setIfInBounds_toArray, List.set_cons_zero, List.set_cons_succ, i64_w, i32_w]
                              rfl
                            refine pure_ (i := 8) (N := some 120) (v := ?_) (a' := ?_) #[true, true, false, true, false, false, true, false, true, false, false, false, false, false, false, false, false, false, false, false, false, false, false, false, false, false] rfl rfl (by kernel_rfl) (fun _ _ _ h => h) (Or.inl ⟨by rfl, ?_⟩) ?_ ?_
                            rotate_left
                            · intro w'
                              first | (go_simp; with_reducible rfl) | (simp [go_sem, Instr.field, asAgg] <;> with_reducible rfl)
                            rotate_left
                            · simp only [Act.put, List.setIfInBounds_toArray, List.set_cons_zero, List.set_cons_succ, i64_w, i32_w]
                              rfl
                            refine pure_ (i := 11) (N := some 123) (v := ?_) (a' := ?_) #[true, true, false, true, false, false, true, false, true, false, false, true, false, false, false, false, false, false, false, false, false, false, false, false, false, false] rfl rfl (by kernel_rfl) (fun _ _ _ h => h) (Or.inl ⟨by rfl, ?_⟩) ?_ ?_
                            rotate_left
                            · intro w'
                              first | (go_simp; with_reducible rfl) | (simp [go_sem, Instr.field, asAgg] <;> with_reducible rfl)
                            rotate_left
                            · simp only [Act.put, List.setIfInBounds_toArray, List.set_cons_zero, List.set_cons_succ, i64_w, i32_w]
                              rfl
                            refine pure_ (i := 12) (N := some 124) (v := ?_) (a' := ?_) #[true, true, false, true, false, false, true, false, true, false, false, true, true, false, false, false, false, false, false, false, false, false, false, false, false, false] rfl rfl (by kernel_rfl) (fun _ _ _ h => h) (Or.inl ⟨by rfl, ?_⟩) ?_ ?_
                            rotate_left
                            · intro w'
                              first | (go_simp; with_reducible rfl) | (simp [go_sem, Instr.field, asAgg] <;> with_reducible rfl)
                            rotate_left
                            · simp only [Act.put, List.setIfInBounds_toArray, List.set_cons_zero, List.set_cons_succ, i64_w, i32_w]
                              rfl
                            refine pure_ (i := 14) (N := some 126) (v := ?_) (a' := ?_) #[true, true, false, true, false, false, true, false, true, false, false, true, true, false, true, false, false, false, false, false, false, false, false, false, false, false] rfl rfl (by kernel_rfl) (fun _ _ _ h => h) (Or.inl ⟨by rfl, ?_⟩) ?_ ?_
                            rotate_left
                            · intro w'
                              first | (go_simp; with_reducible rfl) | (simp [go_sem, Instr.field, asAgg] <;> with_reducible rfl)
                            rotate_left
                            · simp only [Act.put, List.setIfInBounds_toArray, List.set_cons_zero, List.set_cons_succ, i64_w, i32_w]
                              rfl
                            refine pure_ (i := 17) (N := some 129) (v := ?_) (a' := ?_) #[true, true, false, true, false, false, true, false, true, false, false, true, true, false, true, false, false, true, false, false, false, false, false, false, false, false] rfl rfl (by kernel_rfl) (fun _ _ _ h => h) (Or.inl ⟨by rfl, ?_⟩) ?_ ?_
                            rotate_left
                            · intro w'
                              first | (go_simp; with_reducible rfl) | (simp [go_sem, Instr.field, asAgg] <;> with_reducible rfl)
                            rotate_left
                            · simp only [Act.put, List.setIfInBounds_toArray, List.set_cons_zero, List.set_cons_succ, i64_w, i32_w]
                              rfl
                            refine pure_ (i := 21) (N := some 133) (v := ?_) (a' := ?_) #[true, true, false, true, false, false, true, false, true, false, false, true, true, false, true, false, false, true, false, false, false, true, false, false, false, false] rfl rfl (by kernel_rfl) (fun _ _ _ h => h) (Or.inl ⟨by rfl, ?_⟩) ?_ ?_
                            rotate_left
                            · intro w'
                              first | (go_simp; with_reducible rfl) | (simp [go_sem, Instr.field, asAgg] <;> with_reducible rfl)
                            rotate_left
                            · simp only [Act.put, List.setIfInBounds_toArray, List.set_cons_zero, List.set_cons_succ, i64_w, i32_w]
                              rfl
                            refine pure_ (i := 23) (N := some 135) (v := ?_) (a' := ?_) #[true, true, false, true, false, false, true, false, true, false, false, true, true, false, true, false, false, true, false, false, false, true, false, true, false, false] rfl rfl (by kernel_rfl) (fun _ _ _ h => h) (Or.inl ⟨by rfl, ?_⟩) ?_ ?_
                            rotate_left
                            · intro w'
                              first | (go_simp; with_reducible rfl) | (simp [go_sem, Instr.field, asAgg] <;> with_reducible rfl)
                            rotate_left
                            · simp only [Act.put, List.setIfInBounds_toArray, List.set_cons_zero, List.set_cons_succ, i64_w, i32_w]
                              rfl
                            refine take_ (i := 2) (N := some 114) (v := ?_) (a' := ?_) #[true, true, true, true, false, false, true, false, true, false, false, true, true, false, true, false, false, true, false, false, false, true, false, true, false, false] rfl rfl (by kernel_rfl) (fun _ _ _ h => h) (Or.inl ⟨by rfl, ?_⟩) hHeld ?_ ?_
                            rotate_left
                            · rintro w' ⟨s0, s1, s2, s3⟩
                              go_simp
                              with_reducible rfl
                            rotate_left
                            · simp only [Act.put, List.setIfInBounds_toArray, List.set_cons_zero, List.set_cons_succ, i64_w, i32_w]
                              rfl
                            refine pure_ (i := 4) (N := some 116) (v := ?_) (a' := ?_) #[true, true, true, true, true, false, true, false, true, false, false, true, true, false, true, false, false, true, false, false, false, true, false, true, false, false] rfl rfl (by kernel_rfl) (fun _ _ _ h => h) (Or.inl ⟨by rfl, ?_⟩) ?_ ?_
                            rotate_left
                            · intro w'
                              first | (go_simp; with_reducible rfl) | (simp [go_sem, Instr.field, asAgg] <;> with_reducible rfl)
                            rotate_left
                            · simp only [Act.put, List.setIfInBounds_toArray, List.set_cons_zero, List.set_cons_succ, i64_w, i32_w]
                              rfl
                            refine take_ (i := 5) (N := some 117) (v := ?_) (a' := ?_) #[true, true, true, true, true, true, true, false, true, false, false, true, true, false, true, false, false, true, false, false, false, true, false, true, false, false] rfl rfl (by kernel_rfl) (fun _ _ _ h => h) (Or.inl ⟨by rfl, ?_⟩) hHeld ?_ ?_
                            rotate_left
                            · rintro w' ⟨s0, s1, s2, s3⟩
                              go_simp
                              with_reducible rfl
                            rotate_left
                            · simp only [Act.put, List.setIfInBounds_toArray, List.set_cons_zero, List.set_cons_succ, i64_w, i32_w]
                              rfl
                            refine take_ (i := 7) (N := some 119) (v := ?_) (a' := ?_) #[true, true, true, true, true, true, true, true, true, false, false, true, true, false, true, false, false, true, false, false, false, true, false, true, false, false] rfl rfl (by kernel_rfl) (fun _ _ _ h => h) (Or.inl ⟨by rfl, ?_⟩) hHeld ?_ ?_
                            rotate_left
                            · rintro w' ⟨s0, s1, s2, s3⟩
                              go_simp
                              with_reducible rfl
                            rotate_left
                            · simp only [Act.put, List.setIfInBounds_toArray, List.set_cons_zero, List.set_cons_succ, i64_w, i32_w]
                              rfl
                            refine pure_ (i := 9) (N := some 121) (v := ?_) (a' := ?_) #[true, true, true, true, true, true, true, true, true, true, false, true, true, false, true, false, false, true, false, false, false, true, false, true, false, false] rfl rfl (by kernel_rfl) (fun _ _ _ h => h) (Or.inl ⟨by rfl, ?_⟩) ?_ ?_
                            rotate_left
                            · intro w'
                              first | (go_simp; with_reducible rfl) | (simp [go_sem, Instr.field, asAgg] <;> with_reducible rfl)
                            rotate_left
                            · simp only [Act.put, List.setIfInBounds_toArray, List.set_cons_zero, List.set_cons_succ, i64_w, i32_w]
                              rfl
                            refine take_ (i := 10) (N := some 122) (v := ?_) (a' := ?_) #[true, true, true, true, true, true, true, true, true, true, true, true, true, false, true, false, false, true, false, false, false, true, false, true, false, false] rfl rfl (by kernel_rfl) (fun _ _ _ h => h) (Or.inl ⟨by rfl, ?_⟩) hHeld ?_ ?_
                            rotate_left
                            · rintro w' ⟨s0, s1, s2, s3⟩
                              go_simp
                              with_reducible rfl
                            rotate_left
                            · simp only [Act.put, List.setIfInBounds_toArray, List.set_cons_zero, List.set_cons_succ, i64_w, i32_w]
                              rfl
                            refine take_ (i := 13) (N := some 125) (v := ?_) (a' := ?_) #[true, true, true, true, true, true, true, true, true, true, true, true, true, true, true, false, false, true, false, false, false, true, false, true, false, false] rfl rfl (by kernel_rfl) (fun _ _ _ h => h) (Or.inl ⟨by rfl, ?_⟩) hHeld ?_ ?_
                            rotate_left
                            · rintro w' ⟨s0, s1, s2, s3⟩
                              go_simp
                              with_reducible rfl
                            rotate_left
                            · simp only [Act.put, List.setIfInBounds_toArray, List.set_cons_zero, List.set_cons_succ, i64_w, i32_w]
                              rfl
                            refine pure_ (i := 15) (N := some 127) (v := ?_) (a' := ?_) #[true, true, true, true, true, true, true, true, true, true, true, true, true, true, true, true, false, true, false, false, false, true, false, true, false, false] rfl rfl (by kernel_rfl) (fun _ _ _ h => h) (Or.inl ⟨by rfl, ?_⟩) ?_ ?_
                            rotate_left
                            · intro w'
                              first | (go_simp; with_reducible rfl) | (simp [go_sem, Instr.field, asAgg] <;> with_reducible rfl)
                            rotate_left
                            · simp only [Act.put, List.setIfInBounds_toArray, List.set_cons_zero, List.set_cons_succ, i64_w, i32_w]
                              rfl
                            refine take_ (i := 16) (N := some 128) (v := ?_) (a' := ?_) #[true, true, true, true, true, true, true, true, true, true, true, true, true, true, true, true, true, true, false, false, false, true, false, true, false, false] rfl rfl (by kernel_rfl) (fun _ _ _ h => h) (Or.inl ⟨by rfl, ?_⟩) hHeld ?_ ?_
                            rotate_left
                            · rintro w' ⟨s0, s1, s2, s3⟩
                              go_simp
                              with_reducible rfl
                            rotate_left
                            · simp only [Act.put, List.setIfInBounds_toArray, List.set_cons_zero, List.set_cons_succ, i64_w, i32_w]
                              rfl
                            refine pure_ (i := 18) (N := some 130) (v := ?_) (a' := ?_) #[true, true, true, true, true, true, true, true, true, true, true, true, true, true, true, true, true, true, true, false, false, true, false, true, false, false] rfl rfl (by kernel_rfl) (fun _ _ _ h => h) (Or.inl ⟨by rfl, ?_⟩) ?_ ?_
                            rotate_left
                            · intro w'
                              first | (go_simp; with_reducible rfl) | (simp [go_sem, Instr.field, asAgg] <;> with_reducible rfl)
                            rotate_left
                            · simp only [Act.put, List.setIfInBounds_toArray, List.set_cons_zero, List.set_cons_succ, i64_w, i32_w]
                              rfl
                            refine take_ (i := 19) (N := some 131) (v := ?_) (a' := ?_) #[true, true, true, true, true, true, true, true, true, true, true, true, true, true, true, true, true, true, true, true, false, true, false, true, false, false] rfl rfl (by kernel_rfl) (fun _ _ _ h => h) (Or.inl ⟨by rfl, ?_⟩) hHeld ?_ ?_
                            rotate_left
                            · rintro w' ⟨s0, s1, s2, s3⟩
                              go_simp
                              with_reducible rfl
                            rotate_left
                            · simp only [Act.put, List.setIfInBounds_toArray, List.set_cons_zero, List.set_cons_succ, i64_w, i32_w]
                              rfl
                            refine pure_ (i := 20) (N := some 132) (v := ?_) (a' := ?_) #[true, true, true, true, true, true, true, true, true, true, true, true, true, true, true, true, true, true, true, true, true, true, false, true, false, false] rfl rfl (by kernel_rfl) (fun _ _ _ h => h) (Or.inl ⟨by rfl, ?_⟩) ?_ ?_
                            rotate_left
                            · intro w'
                              first | (go_simp; with_reducible rfl) | (simp [go_sem, Instr.field, asAgg] <;> with_reducible rfl)
                            rotate_left
                            · simp only [Act.put, List.setIfInBounds_toArray, List.set_cons_zero, List.set_cons_succ, i64_w, i32_w]
                              rfl
                            refine pure_ (i := 22) (N := some 134) (v := ?_) (a' := ?_) #[true, true, true, true, true, true, true, true, true, true, true, true, true, true, true, true, true, true, true, true, true, true, true, true, false, false] rfl rfl (by kernel_rfl) (fun _ _ _ h => h) (Or.inl ⟨by rfl, ?_⟩) ?_ ?_
                            rotate_left
                            · intro w'
                              first | (go_simp; with_reducible rfl) | (simp [go_sem, Instr.field, asAgg] <;> with_reducible rfl)
                            rotate_left
                            · simp only [Act.put, List.setIfInBounds_toArray, List.set_cons_zero, List.set_cons_succ, i64_w, i32_w]
                              rfl
                            refine pure_ (i := 24) (N := some 136) (v := ?_) (a' := ?_) #[true, true, true, true, true, true, true, true, true, true, true, true, true, true, true, true, true, true, true, true, true, true, true, true, true, false] rfl rfl (by kernel_rfl) (fun _ _ _ h => h) (Or.inl ⟨by rfl, ?_⟩) ?_ ?_
                            rotate_left
                            · intro w'
                              first | (go_simp; with_reducible rfl) | (simp [go_sem, Instr.field, asAgg] <;> with_reducible rfl)
                            rotate_left
                            · simp only [Act.put, List.setIfInBounds_toArray, List.set_cons_zero, List.set_cons_succ, i64_w, i32_w]
                              rfl
                            refine last_ (i := 25) (N := some 137) #[true, true, true, true, true, true, true, true, true, true, true, true, true, true, true, true, true, true, true, true, true, true, true, true, true, true] rfl rfl (by kernel_rfl) (by decide) (fun K hK => ?_)
                            refine goes_ Try.func67 (by kernel_rfl) rfl #[.int .i64 a0_0, (.slice (some ⟨bu, 0, none⟩) (rd_L1 rx i).length cu), (.slice Am (rd_L1 rx c).length cm), .int .i64 (Int.tmod (wrap64 (wrap64 (a0_0 - (rd (rd_L1 rx i) c)) * inv)) a0_0)] (by rfl) rfl rfl (by simp only [List.map_toArray, List.map_cons, List.map_nil]; rfl) ?_
                            with_reducible refine (spec_l03Add.calls k3 a0_0 (fun k_ => some k_ = ((.slice (some ⟨bu, 0, none⟩) (rd_L1 rx i).length cu) : Value).ownBlock ∧ w.heap.size + 1 ≤ k_ ∧ k_ < hi) (.slice (some ⟨bu, 0, none⟩) (rd_L1 rx i).length cu) (rd_L1 rx i) Am cm (rd_L1 rx c) (Int.tmod (wrap64 (wrap64 (a0_0 - (rd (rd_L1 rx i) c)) * inv)) a0_0) q w _ E6.out.be (E6.out.mx.row _ _ _ HU.out.1 HU.out.2) (E6.out.mx.other (by have := DD.out; have := JJ.out.1; omega) HU.out.1 HM.out.1 HM.out.2.1) HM.out.2.2 B6.out).mono ?_
                            rintro e w12 ⟨rfl, hR, hBw, hK⟩
                            refine ⟨_, rfl, ?_⟩
                            have E7 := Aside0.mk (E6.out.put HU.out.1 HU.out.2 hR hK hBw)
                            clear E6 hR hBw hK
                            refine hK.out _ _ ?_
                            clear hK K
                            refine norm_ (a' := ?_) ?_ ?_
                            rotate_left
                            · show Act.put _ (some 137) _ = _
                              simp only [Act.put, List.setIfInBounds_toArray, List.set_cons_zero, List.set_cons_succ, i64_w, i32_w]
                              rfl
                            refine done_ (by kernel_rfl) ?_
                            clear hHeld
                            (try go_wp2)
                            go_roundg k3
                            case measure => have := HK1.out; have := HK2.out; have := HK3.out; omega
                            case rel => exact ⟨_, _, rfl, H', ⟨by have := HK3.out; omega⟩, E7⟩
                          · rw [if_neg d1] at H
                            obtain rfl := Option.some.inj H
                            clear H
                            have d1b : decide (i < (n0 : Int)) = false := decide_eq_false (by have := hct.out.1; omega)
                            replace d1 := Aside0.mk d1
                            go_wp2
                            go_roundg k1
                            case measure => have := HK1.out; have := HK2.out; have := HK3.out; omega
                            case rel => exact ⟨_, _, _, vs, rfl, rfl, H', ⟨by have := HK1.out; omega⟩, E⟩
                · rw [if_neg c3] at H
                  obtain rfl := Option.some.inj H
                  have a1b : decide (a < (n0 : Int)) = false := decide_eq_false (by have := hcnt.out.1; omega)
                  have H := H1.out
                  by_cases ca : a = (rows.length : Int)
                  · rw [if_pos ca] at H
                    have a2b : (a == (n0 : Int)) = true := by rw [ca, hcnt.out.1]; simp
                    obtain ⟨rfl, rfl⟩ := (by simpa using H : 0 = r1 ∧ 0 = r2)
                    clear H H1
                    replace ca := Aside0.mk ca
                    replace c3 := Aside0.mk c3
                    go_wp2
                    go_ret2
                    exact ⟨rfl, (by repeat (first | (with_reducible first | exact E.out.be | apply below_alloc | apply pw_below_drewN | apply below_drew1) | exact E.out.be))⟩
                  · exact absurd (Int.le_antisymm AR.out (Int.not_lt.1 c3)) ca
          · rw [if_neg c2] at H
            have c2b : decide (c < (n0 : Int)) = false := decide_eq_false (by have := hcnt.out.1; omega)
            replace c2 := Aside0.mk c2
            obtain ⟨rfl, rfl⟩ := (by simpa using H : out = r1 ∧ 0 = r2)
            clear H
            go_wp2
            go_ret2
            exact ⟨rfl, (by repeat (first | (with_reducible first | exact E.out.be | apply below_alloc | apply pw_below_drewN | apply below_drew1) | exact E.out.be))⟩
    · rw [if_neg csq] at h
      have csb : ((l0_2.length : Int) == a0_1) = false := beq_eq_false_iff_ne.mpr csq
      have csc : ((l0_2.length : Int) != a0_1) = true := bne_iff_ne.mpr csq
      replace csq := Aside0.mk csq
      obtain ⟨rfl, rfl⟩ := (by simpa using h : 0 = r1 ∧ 2 = r2)
      clear h
      go_wp2_with (first | (go_at_call 47; (with_reducible refine (spec_l03Ok.calls k w.heap.size a0_0 a0_1 A0_2 c0_2 l0_2 true _ ?sideX ?side1 ?side2 A1_.out).mono ?_); (case sideX => exact (by repeat (first | exact blk_new_at (by simp) | (with_reducible refine blk_drewN ?_ _) | (with_reducible refine blk_drew ?_) | (with_reducible refine blk_alloc ?_ _)))); (case side1 => exact (by repeat (first | (with_reducible exact HR.out) | (with_reducible refine Kd.C_alloc ?_ _) | (with_reducible refine Kd.C_drewN ?_ _) | (with_reducible refine Kd.C_drew ?_) | exact HR.out))); (case side2 => exact HC.out); rintro e w1 ⟨rfl, hb⟩; have BK := Aside0.mk (blk_below (g := w.heap.size) (o := .cells #[.int .i64 a0_0, .int .i64 a0_1, .slice A0_2 l0_2.length c0_2] 26 (0, 0)) (by repeat (first | exact blk_new_at (by simp) | (with_reducible refine blk_drewN ?_ _) | (with_reducible refine blk_drew ?_) | (with_reducible refine blk_alloc ?_ _))) hb); have HB : Aside0 (Below w.heap.size w w1) := ⟨below_step (by repeat (first | exact Below.refl _ _ | apply below_alloc | apply pw_below_drewN | apply below_drew1)) hb⟩; have HR2 : Aside0 (Kd.C (Kd.slice 2 (Kd.int .i64)) w1 A0_2 l0_2.length l0_2) := ⟨Kd.C_below (by repeat (first | (with_reducible exact HR.out) | (with_reducible refine Kd.C_alloc ?_ _) | (with_reducible refine Kd.C_drewN ?_ _) | (with_reducible refine Kd.C_drew ?_) | exact HR.out)) hb⟩; clear HR hb; have HR := HR2; clear HR2; have hm0_ : w1.cell? ⟨w.heap.size, 0, none⟩ = some (.int .i64 a0_0) := (blk_cell BK.out 0).trans rfl; have hm1_ : w1.cell? ⟨w.heap.size, 1, none⟩ = some (.int .i64 a0_1) := (blk_cell BK.out 1).trans rfl; have hm2_ : w1.cell? ⟨w.heap.size, 2, none⟩ = some (.slice A0_2 l0_2.length c0_2) := (blk_cell BK.out 2).trans rfl))
      go_ret2
      exact ⟨rfl, HB.out⟩

end Go.Proofs.Ytjpbemomocccaaa.P

namespace Go.Proofs.Ytjpbemomocccaaa.P
open Go.RowKit Go.Proofs.YtjpbemomocccaaaW.PrintWords Go.Proofs.YtjpbemomocccaaaW.PrintLast Go.Proofs.YtjpbemomocccaaaW.PrintMore
attribute [local go_sem] max2_int min2_int max_two min_two max_three min_three max_four min_four
set_option linter.unusedVariables false
set_option linter.unusedSimpArgs false

/-! ### slices_IndexFunc_int64_int64_110: function 110 (by hand) -/
/-- slices.IndexFunc over [][]int64: the place of the first element of which the closure says yes, or -1. -/
def idxR.l0 : Nat → (List Int → Option Bool) → List (List Int) → Int → Option Int
  | 0, _, _, _ => none
  | k + 1, p, xs, i => if i < (xs.length : Int) then (if 0 ≤ i then ((p (rd_L1 xs i)).bind fun t => if t = true then (some i) else (idxR.l0 k p xs (wrap64 (i + 1)))) else none) else some (-1)
set_option maxHeartbeats 8000000 in
set_option maxRecDepth 100000 in
theorem idxR.calls (k : Nat) (p : List Int → Option Bool) (g : Nat) (lb : Array Value) (eg : ∀ args w, (callFunc g args).run Try.prog w = .ok (.enter g args) w) (A0 : Option Addr) (c0 : Nat) (l0 : List (List Int)) (r : Int) (w : World)
    (hr0 : Kd.C (Kd.slice 2 (Kd.int .i64)) w A0 l0.length l0)
    (hp : ∀ (W : World) (x : List Int) (A : Option Addr) (c : Nat) (b : Bool), p x = some b → Below w.heap.size w W → Kd.C (Kd.int .i64) W A x.length x → x.length ≤ c → Calls Try.prog g (#[.slice A x.length c] ++ lb) W fun e w' => e = .returned (.bool b) ∧ Below w.heap.size w w')
    (h : idxR.l0 k p l0 0 = some r) :
    Calls Try.prog 110 #[.slice A0 l0.length c0, .func (.func g) #[] lb] w fun e w' => e = .returned (.int .i64 r) ∧ Below w.heap.size w w' := by
  have HR0 := Aside0.mk hr0
  clear hr0
  have HP := Aside0.mk hp
  clear hp
  have HB := Aside0.mk (Below.refl w.heap.size w)
  have H' := Aside0.mk h
  clear h
  go_enter Try.func110, Try.ntmps110
  go_wp2
  go_loopg [5, 8] k (fun kq _ v8 w' => ∃ (x8 : Int), v8 = .int .i64 x8 ∧ Aside0 (idxR.l0 kq p l0 x8 = some r) ∧ Aside0 (kq ≤ k) ∧ Aside0 (Below w.heap.size w w'))
  case atStart => exact ⟨0, rfl, H', ⟨Nat.le_refl _⟩, HB⟩
  case round =>
    clear H' HB
    obtain ⟨x8, rfl, HA, HK1, HB⟩ := hrel
    cases gk with
    | zero => exact absurd HA.out (by simp [idxR.l0])
    | succ k1 =>
      have H := HA.out
      clear HA
      simp only [idxR.l0] at H
      by_cases c6 : x8 < (l0.length : Int)
      · rw [if_pos c6] at H
        have c6b0 : decide (x8 < (l0.length : Int)) = true := decide_eq_true c6
        clear c6
        by_cases c7 : 0 ≤ x8
        · rw [if_pos c7] at H
          have c7b0 : decide (0 ≤ x8) = true := decide_eq_true c7
          clear c7
          replace H := Option.bind_eq_some_iff.mp H
          obtain ⟨t, At, H⟩ := H
          have A3 := Aside0.mk At
          clear At
          have p104 : 0 ≤ (x8 : Int) := of_decide_eq_true (by assumption)
          have q104 : x8 < (l0.length : Int) := of_decide_eq_true (by assumption)
          obtain ⟨ad104, Ae, ce, e104, hx104_0, hle, hre⟩ := at_L1 HR0.out x8 p104 q104
          cases e104
          have HE := Aside0.mk (Kd.C_below hre HB.out)
          have HL := Aside0.mk hle
          clear hre hle
          replace hx104_0 := (HB.out.cell (World.block_lt_of_cell? w _ hx104_0)).trans hx104_0
          replace p104 := eq_true p104
          replace q104 := eq_true q104
          cases t with
          | true =>
            rw [if_pos rfl] at H
            obtain rfl := Option.some.inj H
            go_wp2_with (go_at_fn g; refine (HP.out _ _ _ _ _ A3.out HB.out HE.out HL.out).mono ?_; rintro e w' ⟨rfl, hb'⟩)
            go_ret
            exact ⟨rfl, hb'⟩
          | false =>
            rw [if_neg (by decide)] at H
            have H' := Aside0.mk H
            clear H
            go_wp2_with (go_at_fn g; refine (HP.out _ _ _ _ _ A3.out HB.out HE.out HL.out).mono ?_; rintro e w' ⟨rfl, hb'⟩)
            go_roundg k1
            case measure => have := HK1.out; omega
            case rel => exact ⟨_, rfl, H', ⟨by have := HK1.out; omega⟩, ⟨hb'⟩⟩
        · rw [if_neg c7] at H
          exact absurd H (by simp)
      · rw [if_neg c6] at H
        have c6b0 : decide (x8 < (l0.length : Int)) = false := decide_eq_false c6
        clear c6
        obtain rfl := Option.some.inj H
        go_wp2
        go_ret
        exact ⟨rfl, HB.out⟩
theorem idxR.mono_p : ∀ k p p' xs i, (∀ x, LeO (p x) (p' x)) → LeO (idxR.l0 k p xs i) (idxR.l0 k p' xs i)
  | 0, _, _, _, _, _ => fun r h => by simp [idxR.l0] at h
  | k + 1, p, p', xs, i, hp => by
    have ih := idxR.mono_p k p p'
    unfold idxR.l0
    refine LeO.ite (LeO.ite (LeO.bind (hp _) (fun t => LeO.ite (LeO.refl _) (ih _ _ hp))) (LeO.refl _)) (LeO.refl _)

end Go.Proofs.Ytjpbemomocccaaa.P

namespace Go.Proofs.Ytjpbemomocccaaa.P
open Go.RowKit Go.Proofs.YtjpbemomocccaaaW.PrintWords Go.Proofs.YtjpbemomocccaaaW.PrintLast Go.Proofs.YtjpbemomocccaaaW.PrintMore
attribute [local go_sem] max2_int min2_int max_two min_two max_three min_three max_four min_four
set_option linter.unusedVariables false
set_option linter.unusedSimpArgs false

/-! ### slices_ContainsFunc_int64_int64_93: function 93 (by hand) -/
def hasR.f (k : Nat) (p : List Int → Option Bool) (xs : List (List Int)) : Option Bool := (idxR.l0 k p xs 0).bind fun i => some (decide (0 ≤ i))
set_option maxHeartbeats 8000000 in
set_option maxRecDepth 100000 in
theorem hasR.calls (k : Nat) (p : List Int → Option Bool) (g : Nat) (lb : Array Value) (eg : ∀ args w, (callFunc g args).run Try.prog w = .ok (.enter g args) w) (A0 : Option Addr) (c0 : Nat) (l0 : List (List Int)) (r : Bool) (w : World)
    (hr0 : Kd.C (Kd.slice 2 (Kd.int .i64)) w A0 l0.length l0)
    (hp : ∀ (W : World) (x : List Int) (A : Option Addr) (c : Nat) (b : Bool), p x = some b → Below w.heap.size w W → Kd.C (Kd.int .i64) W A x.length x → x.length ≤ c → Calls Try.prog g (#[.slice A x.length c] ++ lb) W fun e w' => e = .returned (.bool b) ∧ Below w.heap.size w w')
    (h : hasR.f k p l0 = some r) :
    Calls Try.prog 93 #[.slice A0 l0.length c0, .func (.func g) #[] lb] w fun e w' => e = .returned (.bool r) ∧ Below w.heap.size w w' := by
  have H := h
  unfold hasR.f at H
  replace H := Option.bind_eq_some_iff.mp H
  obtain ⟨i, Ai, H⟩ := H
  obtain rfl := Option.some.inj H
  have A3 := Aside0.mk Ai
  clear Ai h H
  have HP := Aside0.mk hp
  clear hp
  have HR0 := Aside0.mk hr0
  clear hr0
  go_enter Try.func93, Try.ntmps93
  go_wp2_with (first | ((with_reducible refine gate_callee (f := 110) rfl ?_); refine goesL_ (some 7) rfl rfl Try.func110 (by kernel_rfl) rfl #[.slice A0 l0.length c0, .func (.func g) #[] lb] rfl (by (try simp only [List.map_toArray, List.map_cons, List.map_nil]); first | done | rfl) ?_; (with_reducible refine (idxR.calls k p g lb eg _ _ l0 i _ ?side1 ?side2 A3.out).mono ?_); (case side1 => exact HR0.out); (case side2 => exact HP.out); rintro e w' ⟨rfl, hb⟩; refine ⟨_, rfl, ?_⟩))
  go_ret
  exact ⟨rfl, hb⟩
end Go.Proofs.Ytjpbemomocccaaa.P

namespace Go.Proofs.Ytjpbemomocccaaa.P
open Go.RowKit Go.Proofs.YtjpbemomocccaaaW.PrintWords Go.Proofs.YtjpbemomocccaaaW.PrintLast Go.Proofs.YtjpbemomocccaaaW.PrintMore
attribute [local go_sem] max2_int min2_int max_two min_two max_three min_three max_four min_four
set_option linter.unusedVariables false
set_option linter.unusedSimpArgs false

/-! ### impl_ValidMatrix: function 50 (by hand) -/
/-- The closure of ValidMatrix: is a row none of this matrix? -/
def ValidMatrix_p (k : Nat) (p cols : Int) (row : List Int) : Option Bool := if (row.length : Int) = cols then ((impl_areElements.f k p row).bind fun t => some (!t)) else some true
def impl_ValidMatrix.f (k : Nat) (a0_0 : Int) (a0_1 : Int) (l0_2 : List (List Int)) : Option Bool :=
  (impl_IsPrime.f k a0_0).bind fun t => if t = true then ((impl_within.f a0_1 0 12).bind fun u => if u = true then (if (l0_2.length : Int) ≤ 20 then ((hasR.f k (ValidMatrix_p k a0_0 a0_1) l0_2).bind fun v => some (!v)) else some false) else some false) else some false
theorem ValidMatrix_p.mono (p cols : Int) (row : List Int) (k : Nat) : LeO (ValidMatrix_p k p cols row) (ValidMatrix_p (k + 1) p cols row) := by
  unfold ValidMatrix_p
  exact LeO.ite (LeO.bind (impl_areElements.mono _ _ _) (fun _ => LeO.refl _)) (LeO.refl _)
set_option maxHeartbeats 8000000 in
set_option maxRecDepth 100000 in
theorem ValidMatrix_p.calls (k : Nat) (p cols : Int) (x : List Int) (A : Option Addr) (c : Nat) (b : Bool) (B : Nat) (W : World) (h0 : W.cell? ⟨B, 0, none⟩ = some (.int .i64 p)) (h1 : W.cell? ⟨B, 1, none⟩ = some (.int .i64 cols)) (hr : Kd.C (Kd.int .i64) W A x.length x) (hc : x.length ≤ c) (h : ValidMatrix_p k p cols x = some b) :
    Calls Try.prog 94 #[.slice A x.length c, .pointer (some ⟨B, 0, none⟩)] W fun e w' => e = .returned (.bool b) ∧ Below W.heap.size W w' := by
  have HR := Aside0.mk hr
  have HC := Aside0.mk hc
  clear hr hc
  unfold ValidMatrix_p at h
  by_cases e : (x.length : Int) = cols
  · rw [if_pos e] at h
    replace h := Option.bind_eq_some_iff.mp h
    obtain ⟨t, At, H⟩ := h
    obtain rfl := Option.some.inj H
    have A3 := Aside0.mk At
    clear At H
    have eb0 : ((x.length : Int) == cols) = true := beq_iff_eq.mpr e
    have eb1 : ((x.length : Int) != cols) = false := bne_eq_false_iff_eq.mpr e
    clear e
    go_enter Try.func94, Try.ntmps94
    go_wp2_with (first | (go_at_call 95; (with_reducible refine (impl_areElements.calls k p A c x t _ ?side1 ?side2 A3.out).mono ?_); (case side1 => exact HR.out); (case side2 => exact HC.out); rintro e w' ⟨rfl, hb⟩))
    go_ret
    exact ⟨rfl, hb⟩
  · rw [if_neg e] at h
    obtain rfl := Option.some.inj h
    have eb0 : ((x.length : Int) == cols) = false := beq_eq_false_iff_ne.mpr e
    have eb1 : ((x.length : Int) != cols) = true := bne_iff_ne.mpr e
    clear e h
    go_enter Try.func94, Try.ntmps94
    go_wp2
    go_ret
    exact ⟨rfl, Below.refl _ _⟩
set_option maxHeartbeats 8000000 in
set_option maxRecDepth 100000 in
theorem impl_ValidMatrix.calls (k : Nat) (a0_0 : Int) (a0_1 : Int) (A0_2 : Option Addr) (c0_2 : Nat) (l0_2 : List (List Int)) (r : Bool) (w : World) (hr0_2 : Kd.C (Kd.slice 2 (Kd.int .i64)) w A0_2 l0_2.length l0_2) (hc0_2 : l0_2.length ≤ c0_2) (h : impl_ValidMatrix.f k a0_0 a0_1 l0_2 = some r) :
    Calls Try.prog 50 #[.agg #[.int .i64 a0_0, .int .i64 a0_1, .slice A0_2 l0_2.length c0_2]] w fun e w' => e = .returned (.bool r) ∧ Below w.heap.size w w' := by
  have hum := Try.underlying26
  have HR := Aside0.mk hr0_2
  clear hr0_2 hc0_2
  unfold impl_ValidMatrix.f at h
  replace h := Option.bind_eq_some_iff.mp h
  obtain ⟨t, At, H⟩ := h
  have A3 := Aside0.mk At
  clear At
  cases t with
  | false =>
    rw [if_neg (by decide)] at H
    obtain rfl := Option.some.inj H
    clear H
    go_enter Try.func50, Try.ntmps50
    go_wp2_with (first | (go_at_call 91; (with_reducible refine (impl_IsPrime.calls k a0_0 false _ A3.out).mono ?_); rintro e w' ⟨rfl, ⟨nd, rfl⟩⟩))
    go_ret
    exact ⟨rfl, by repeat (first | exact Below.refl _ _ | apply below_alloc | apply pw_below_drewN | apply below_drew1)⟩
  | true =>
    rw [if_pos rfl] at H
    replace H := Option.bind_eq_some_iff.mp H
    obtain ⟨u, Au, H⟩ := H
    have A4 := Aside0.mk Au
    clear Au
    cases u with
    | false =>
      rw [if_neg (by decide)] at H
      obtain rfl := Option.some.inj H
      clear H
      go_enter Try.func50, Try.ntmps50
      go_wp2_with (first | (go_at_call 91; (with_reducible refine (impl_IsPrime.calls k a0_0 true _ A3.out).mono ?_); rintro e w' ⟨rfl, ⟨nd, rfl⟩⟩) | (go_at_call 92; (with_reducible refine (impl_within.calls _ _ _ false _ A4.out).mono ?_); rintro e w' ⟨rfl, ⟨nd, rfl⟩⟩))
      go_ret
      exact ⟨rfl, by repeat (first | exact Below.refl _ _ | apply below_alloc | apply pw_below_drewN | apply below_drew1)⟩
    | true =>
      rw [if_pos rfl] at H
      by_cases hl : (l0_2.length : Int) ≤ 20
      · rw [if_pos hl] at H
        have hlb0 : decide ((l0_2.length : Int) ≤ 20) = true := decide_eq_true hl
        have hlb1 : decide (l0_2.length ≤ 20) = true := decide_eq_true (by omega)
        clear hl
        replace H := Option.bind_eq_some_iff.mp H
        obtain ⟨v, Av, H⟩ := H
        obtain rfl := Option.some.inj H
        have A5 := Aside0.mk Av
        clear Av H
        have eg : ∀ (args : Array Value) (w : World), (callFunc 94 args).run Try.prog w = .ok (.enter 94 args) w := enters_of Try.func94 (by kernel_rfl) rfl
        go_enter Try.func50, Try.ntmps50
        go_wp2_with (first | (go_at_call 91; (with_reducible refine (impl_IsPrime.calls k a0_0 true _ A3.out).mono ?_); rintro e w' ⟨rfl, ⟨nd, rfl⟩⟩) | (go_at_call 92; (with_reducible refine (impl_within.calls _ _ _ true _ A4.out).mono ?_); rintro e w' ⟨rfl, ⟨nd2, rfl⟩⟩) | (go_at_call 93; (with_reducible refine (hasR.calls k (ValidMatrix_p k a0_0 a0_1) 94 #[.pointer (some ⟨w.heap.size, 0, none⟩)] eg _ _ l0_2 v _ ?side1 ?side2 A5.out).mono ?_); (case side1 => repeat (first | exact HR.out | (with_reducible refine Kd.C_alloc ?_ _) | (with_reducible refine Kd.C_drewN ?_ _) | (with_reducible refine Kd.C_drew ?_))); (case side2 => exact fun W x A c b hx hb hr hc => ((ValidMatrix_p.calls k a0_0 a0_1 x A c b w.heap.size W ((hb.cell (p := ⟨w.heap.size, 0, none⟩) (by simp)).trans ((blk_cell (cs := #[.int .i64 a0_0, .int .i64 a0_1, .slice A0_2 l0_2.length c0_2]) (t := 26) (by (with_reducible repeat (first | refine blk_drewN ?_ _ | refine blk_drew ?_)); exact blk_new w _) 0).trans rfl)) ((hb.cell (p := ⟨w.heap.size, 1, none⟩) (by simp)).trans ((blk_cell (cs := #[.int .i64 a0_0, .int .i64 a0_1, .slice A0_2 l0_2.length c0_2]) (t := 26) (by (with_reducible repeat (first | refine blk_drewN ?_ _ | refine blk_drew ?_)); exact blk_new w _) 1).trans rfl)) hr hc hx).mono (fun e w' ⟨he, hd⟩ => ⟨he, below_step hb hd⟩))); rintro e w' ⟨rfl, hb⟩))
        go_ret
        exact ⟨rfl, below_step (by repeat (first | exact Below.refl _ _ | apply below_alloc | apply pw_below_drewN | apply below_drew1)) hb⟩
      · rw [if_neg hl] at H
        have hlb0 : decide ((l0_2.length : Int) ≤ 20) = false := decide_eq_false hl
        have hlb1 : decide (l0_2.length ≤ 20) = false := decide_eq_false (by omega)
        clear hl
        obtain rfl := Option.some.inj H
        clear H
        go_enter Try.func50, Try.ntmps50
        go_wp2_with (first | (go_at_call 91; (with_reducible refine (impl_IsPrime.calls k a0_0 true _ A3.out).mono ?_); rintro e w' ⟨rfl, ⟨nd, rfl⟩⟩) | (go_at_call 92; (with_reducible refine (impl_within.calls _ _ _ true _ A4.out).mono ?_); rintro e w' ⟨rfl, ⟨nd2, rfl⟩⟩))
        go_ret
        exact ⟨rfl, by repeat (first | exact Below.refl _ _ | apply below_alloc | apply pw_below_drewN | apply below_drew1)⟩

end Go.Proofs.Ytjpbemomocccaaa.P

namespace Go.Proofs.Ytjpbemomocccaaa.P
open Go.RowKit Go.Proofs.YtjpbemomocccaaaW.PrintWords Go.Proofs.YtjpbemomocccaaaW.PrintLast Go.Proofs.YtjpbemomocccaaaW.PrintMore
attribute [local go_sem] max2_int min2_int max_two min_two max_three min_three max_four min_four
set_option linter.unusedVariables false
set_option linter.unusedSimpArgs false

/-! ### impl_Matrix_isSquare: function 63 -/
def impl_Matrix_isSquare.f (a0_0 : Int) (a0_1 : Int) (l0_2 : List (List Int)) : Option (Bool) := some ((l0_2.length : Int) == a0_1)
set_option maxHeartbeats 8000000 in
set_option maxRecDepth 100000 in
theorem impl_Matrix_isSquare.calls (a0_0 : Int) (a0_1 : Int) (A0_2 : Option Addr) (c0_2 : Nat) (l0_2 : List (List Int)) (r : Bool) (w : World) (hr0_2 : Kd.C (Kd.slice 2 (Kd.int .i64)) w A0_2 l0_2.length l0_2) (hc0_2 : l0_2.length ≤ c0_2) (h : impl_Matrix_isSquare.f a0_0 a0_1 l0_2 = some r) :
    Calls Try.prog 63 #[.agg #[.int .i64 a0_0, .int .i64 a0_1, .slice A0_2 l0_2.length c0_2]] w fun e w' => e = .returned (.bool r) ∧ Below w.heap.size w w' := by
  have hu26 := Try.underlying26
  have HR0_2 := Aside0.mk hr0_2
  have HC0_2 := Aside0.mk hc0_2
  clear hr0_2 hc0_2
  have HB := Aside0.mk (Below.refl w.heap.size w)
  have H : (some ((l0_2.length : Int) == a0_1)) = some r := h
  clear h
  obtain rfl := Option.some.inj H
  go_enter Try.func63, Try.ntmps63
  go_wp2_with (first | ((with_reducible refine gate_dst (N := 1) rfl ?_); refine box_event ?hg (N := 1) ?hd (cs := #[.int .i64 a0_0, .int .i64 a0_1, .slice A0_2 l0_2.length c0_2]) (t := 26) ?hr ?_; (case hd => rfl); (case hg => rfl); (case hr => first | (go_simp; done) | (go_simp; rfl)); intro gb365 hg w2 hbox hb; have n0_ := Aside0.mk (below_step (by repeat (first | (with_reducible first | exact HB.out | apply below_alloc | apply pw_below_drewN | apply below_drew1) | exact HB.out)) hb); have n1_ := Aside0.mk (hbox); have n2_ := Aside0.mk ((by rw [hg]; exact (below_size (by repeat (first | (with_reducible first | exact HB.out | apply below_alloc | apply pw_below_drewN | apply below_drew1) | exact HB.out))) : w.heap.size ≤ gb365)); have n3_ := Aside0.mk ((by rw [hg]; exact (below_size (by repeat (first | (with_reducible first | exact HB.out | apply below_alloc | apply pw_below_drewN | apply below_drew1) | exact HB.out))) : w.heap.size ≤ gb365)); clear HB; have HB := n0_; have BK365 := n1_; have GW365 := n2_; have GE365 := n3_; clear n0_ n1_ n2_ n3_; clear hb hbox hg; have hcz3_0 : w2.cell? ⟨gb365, 0, none⟩ = some (.int .i64 a0_0) := (blk_cell BK365.out 0).trans rfl; have hcz3_1 : w2.cell? ⟨gb365, 1, none⟩ = some (.int .i64 a0_1) := (blk_cell BK365.out 1).trans rfl; have hcz3_2 : w2.cell? ⟨gb365, 2, none⟩ = some (.slice A0_2 l0_2.length c0_2) := (blk_cell BK365.out 2).trans rfl; have hfz3_0 := blk_frozen BK365.out 0; have hfz3_1 := blk_frozen BK365.out 1; have hfz3_2 := blk_frozen BK365.out 2))
  go_ret
  exact ⟨by first | rfl | (simp [errW_none, errW_some] <;> rfl) | (simp [*, errW_none, errW_some] <;> rfl), by repeat (first | (with_reducible first | exact HB.out | apply below_alloc | apply pw_below_drewN | apply below_drew1 | refine below_set ?_ GE365.out) | exact HB.out)⟩

end Go.Proofs.Ytjpbemomocccaaa.P

namespace Go.Proofs.Ytjpbemomocccaaa.P
open Go.RowKit Go.Proofs.YtjpbemomocccaaaW.PrintWords Go.Proofs.YtjpbemomocccaaaW.PrintLast Go.Proofs.YtjpbemomocccaaaW.PrintMore
attribute [local go_sem] max2_int min2_int max_two min_two max_three min_three max_four min_four
set_option linter.unusedVariables false
set_option linter.unusedSimpArgs false

/-! ### slices_Clone_int64_int64: function 64 (by hand) -/
theorem nil_of_C {α : Type} {d : Kd α} {w : World} {l : List α} (h : Kd.C d w none l.length l) : l = [] := by
  cases l with
  | nil => rfl
  | cons a l =>
    obtain ⟨ad, he, _⟩ := h.2.2 (by simp)
    cases he
/-- slices.Clone of a list. -/
def slices_Clone_int64_int64.f (l0 : List Int) : Option (List Int) := if l0.length < 17592186044416 then some l0 else none
set_option maxHeartbeats 8000000 in
set_option maxRecDepth 100000 in
theorem slices_Clone_int64_int64.calls (A0 : Option Addr) (c0 : Nat) (l0 : List Int) (r : List Int) (w : World) (hr0 : Kd.C (Kd.int .i64) w A0 l0.length l0) (hc0 : l0.length ≤ c0) (h : slices_Clone_int64_int64.f l0 = some r) :
    Calls Try.prog 64 #[.slice A0 l0.length c0] w fun e w' => ∃ v0_ : Value, e = .returned v0_ ∧ Kd.R (Kd.int .i64) 2 w' w.heap.size (fun _ => True) v0_ r ∧ Below w.heap.size w w' := by
  have hus := Try.underlying35
  have hu2 := Try.underlying2
  have HR0 := Aside0.mk hr0
  have HC0 := Aside0.mk hc0
  have HB := Aside0.mk (Below.refl w.heap.size w)
  unfold slices_Clone_int64_int64.f at h
  by_cases c4 : l0.length < 17592186044416
  · rw [if_pos c4] at h
    obtain rfl := Option.some.inj h
    have LM := Aside0.mk c4
    clear c4 h hr0 hc0
    obtain ⟨y3, hy3⟩ : ∃ y_ : List Int, y_ = ([] : List Int) := ⟨_, rfl⟩
    have Ny3 := Aside0.mk hy3
    clear hy3
    have hq : ∀ (a : Option Addr) (n c : Nat) (w : World), (binOp .eql 35 (.slice a n c) (.slice none 0 0)).run Try.prog w = .ok (.bool a.isNone) w := fun a n c w => Go.Lib.run_eql_slice_nil w _ _ a n c 0 0 hus
    cases A0 with
    | none =>
      have hn : l0 = [] := nil_of_C HR0.out
      subst hn
      go_enter Try.func64, Try.ntmps64
      go_wp2
      go_ret
      exact ⟨_, rfl, Kd.R_nil _ _ _ _ _, HB.out⟩
    | some a =>
      go_enter Try.func64, Try.ntmps64
      go_wp2_with (first | ((with_reducible refine gate_dst (N := 5) rfl ?_); refine Kd.R_lit (Kd.int .i64) _ 2 ?hg (N := 5) ?hd (xs := ([] : List Int)) (inner := []) (ok := fun _ => True) (okp := fun _ => True) ?hr ?hp (fun _ hk => hk) trivial (Below.refl _ _) (Nat.le_refl _) (by simp) ?_; (case hd => rfl); (case hg => rfl); (case hr => first | (go_simp; done) | (go_simp; rfl)); (case hp => exact (Reps.none _ _)); intro v4 w5 ho6 hb hg_ hnew_; clear hg_ hnew_; (first | rw [← Ny3.out] at ho6 | (simp only [Int.reduceToNat] at ho6; rw [← Ny3.out] at ho6)); have n0_ := Aside0.mk (Kd.R_lower ho6 (below_size (by repeat (first | (with_reducible first | exact HB.out | apply below_alloc | apply pw_below_drewN | apply below_drew1) | exact HB.out)))); have n2_ := Aside0.mk (below_step (by repeat (first | (with_reducible first | exact HB.out | apply below_alloc | apply pw_below_drewN | apply below_drew1) | exact HB.out)) hb); clear HB; have HO3 := n0_; have HB := n2_; clear n0_ n2_; clear hb ho6) | ((with_reducible refine gate_builtin (b := .append) (xs := #[.tmp 5, .tmp 6]) rfl ?_); at_builtin; refine Kd.R_append_rows (Kd.int .i64) (w0 := w) w.heap.size rfl (.tmp 5) (.tmp 6) 35 2 (.int .i64 0) 8 rfl Try.underlying35 info2 rfl (by decide) (by omega) v4 y3 l0 _ _ _ (fun _ => True) (fun _ => False) rfl rfl ?aO ?aR (fun _ _ h => h) (fun _ h => h.elim) ?aF ?aB ?aS ?aL ?_; (case aR => repeat (first | exact (Kd.C_below HR0.out HB.out) | (with_reducible refine Kd.C_alloc ?_ _) | (with_reducible refine Kd.C_drewN ?_ _) | (with_reducible refine Kd.C_drew ?_))); (case aB => exact (by repeat (first | (with_reducible first | exact HB.out | apply below_alloc | apply pw_below_drewN | apply below_drew1) | exact HB.out))); (case aF => exact (fun _ _ => trivial)); (case aO => exact (by (with_reducible repeat (first | apply Kd.R_alloc | apply Kd.R_drewN | apply Kd.R_drew)); exact HO3.out)); (case aS => exact (below_size (by repeat (first | (with_reducible first | exact HB.out | apply below_alloc | apply pw_below_drewN | apply below_drew1) | exact HB.out)))); (case aL => have := LM.out; have := Ny3.out; subst this; simp; omega); intro v7 w7 ho hb hg hat; rw [Ny3.out, List.nil_append] at ho; have n1_ := Aside0.mk hb; have n2_ := Aside0.mk ho; clear HB HO3; have HB := n1_; have HO7 := n2_; clear n1_ n2_; clear ho hb hg hat))
      go_ret
      exact ⟨_, rfl, by (with_reducible repeat (first | apply Kd.R_alloc | apply Kd.R_drewN | apply Kd.R_drew)); exact HO7.out, by repeat (first | (with_reducible first | exact HB.out | apply below_alloc | apply pw_below_drewN | apply below_drew1) | exact HB.out)⟩
  · rw [if_neg c4] at h
    exact absurd h (by simp)

end Go.Proofs.Ytjpbemomocccaaa.P

namespace Go.Proofs.Ytjpbemomocccaaa.P
open Go.RowKit Go.Proofs.YtjpbemomocccaaaW.PrintWords Go.Proofs.YtjpbemomocccaaaW.PrintLast Go.Proofs.YtjpbemomocccaaaW.PrintMore
attribute [local go_sem] max2_int min2_int max_two min_two max_three min_three max_four min_four
set_option linter.unusedVariables false
set_option linter.unusedSimpArgs false

/-! ### impl_copyRows: function 68 -/
def impl_copyRows.l0 : Nat → List (List Int) → List (List Int) → Int → Int → Option ((List (List Int)))
  | 0, _, _, _, _ => none
  | k + 1, x3, x7, x8, x9 => if x9 < x8 then (if 0 ≤ x9 then (if x9 < (x7.length : Int) then ((slices_Clone_int64_int64.f (rd_L1 x7 x9)).bind fun t171 => (if x3.length < 5864062014805 then (impl_copyRows.l0 k (x3 ++ [t171]) x7 x8 (wrap64 (x9 + 1))) else (none))) else (none)) else (none)) else (some x3)
def impl_copyRows.f (k : Nat) (l0 : List (List Int)) : Option ((List (List Int))) := impl_copyRows.l0 k (([] : List (List Int))) l0 (l0.length : Int) 0
set_option maxHeartbeats 8000000 in
set_option maxRecDepth 100000 in
theorem impl_copyRows.calls (k : Nat) (A0 : Option Addr) (c0 : Nat) (l0 : List (List Int)) (r : List (List Int)) (w : World) (hr0 : Kd.C (Kd.slice 2 (Kd.int .i64)) w A0 l0.length l0) (hc0 : l0.length ≤ c0) (h : impl_copyRows.f k l0 = some r) :
    Calls Try.prog 68 #[.slice A0 l0.length c0] w fun e w' => ∃ v0_ : Value, e = .returned (v0_) ∧ Kd.S (Kd.slice 2 (Kd.int .i64)) 35 w' w.heap.size (fun _ => True) v0_ r ∧ Below w.heap.size w w' := by
  have HR0 := Aside0.mk hr0
  have HC0 := Aside0.mk hc0
  clear hr0 hc0
  have HB := Aside0.mk (Below.refl w.heap.size w)
  have H : (impl_copyRows.l0 k (([] : List (List Int))) l0 (l0.length : Int) 0) = some r := h
  clear h
  obtain ⟨y167, hy167⟩ : ∃ y_ : List (List Int), y_ = (([] : List (List Int))) := ⟨_, rfl⟩
  replace H : (impl_copyRows.l0 k y167 l0 (l0.length : Int) 0) = some r := by first | (rw [hy167]; with_reducible exact H) | (have H2_ := (Option.bind_some _ _).symm.trans H; rw [hy167]; with_reducible exact H2_) | (have H2_ := (Option.bind_some _ _).symm.trans H; with_reducible exact H2_) | with_reducible exact H | (rw [hy167]; exact H) | exact H
  have Ny167 := Aside0.mk hy167
  clear hy167
  have H' := Aside0.mk H
  clear H
  go_enter Try.func68, Try.ntmps68
  go_wp2_with (first | ((with_reducible refine gate_dst (N := 6) rfl ?_); refine Kd.S_lit (Kd.slice 2 (Kd.int .i64)) _ 35 ?hg (N := 6) ?hd (xs := ([] : List (List Int))) (inner := []) (ok := fun _ => True) (okp := fun _ => True) ?hr ?hp (fun _ hk => hk) trivial (Below.refl _ _) (Nat.le_refl _) (by simp) ?_; (case hd => rfl); (case hg => rfl); (case hr => first | (go_simp; done) | (go_simp; rfl)); (case hp => exact (Reps.none _ _)); intro v168 w2 ho3 hb hg_ hnew_; clear hg_ hnew_; (first | rw [← Ny167.out] at ho3 | (simp only [Int.reduceToNat] at ho3; rw [← Ny167.out] at ho3)); have n0_ := Aside0.mk (Kd.S_lower ho3 (below_size (by repeat (first | (with_reducible first | exact HB.out | apply below_alloc | apply pw_below_drewN | apply below_drew1) | exact HB.out)))); have n1_ := Aside0.mk (below_step (by repeat (first | (with_reducible first | exact HB.out | apply below_alloc | apply pw_below_drewN | apply below_drew1) | exact HB.out)) hb); clear HB; have HO169 := n0_; have HB := n1_; clear n0_ n1_; clear hb ho3))
  go_loopg [3, 9] k (fun kq v3 v9 w' => ∃ (x3_1 : List (List Int)) (x9_1 : Int), v9 = .int .i64 x9_1 ∧ Aside0 (impl_copyRows.l0 kq x3_1 l0 (l0.length : Int) x9_1 = some r) ∧ Aside0 (kq ≤ k) ∧ Aside0 (Kd.S (Kd.slice 2 (Kd.int .i64)) 35 w' w.heap.size (fun _ => True) v3 x3_1) ∧ Aside0 (Below w.heap.size w w'))
  case atStart => exact ⟨(y167), (0), (by first | rfl | (simp; done) | (simp [*]; done)), H', ⟨Nat.le_refl _⟩, ⟨by (with_reducible repeat (first | apply Kd.S_alloc | apply Kd.S_drewN | apply Kd.S_drew)); exact HO169.out⟩, ⟨by repeat (first | (with_reducible first | exact HB.out | apply below_alloc | apply pw_below_drewN | apply below_drew1) | exact HB.out)⟩⟩
  case round =>
    clear H'
    try clear p2
    obtain ⟨x3_1, x9_1, rfl, HA, HK1, HO_3, HB⟩ := hrel
    cases gk with
    | zero => exact absurd HA.out (by simp [impl_copyRows.l0])
    | succ k1 =>
      have H := HA.out
      clear HA
      simp only [impl_copyRows.l0] at H
      by_cases c4 : x9_1 < (l0.length : Int)
      · rw [if_pos c4] at H
        have c4b0 : decide (x9_1 < (l0.length : Int)) = true := decide_eq_true c4
        clear c4
        by_cases c5 : 0 ≤ x9_1
        · rw [if_pos c5] at H
          have c5b0 : decide (0 ≤ x9_1) = true := decide_eq_true c5
          clear c5
          by_cases c6 : x9_1 < (l0.length : Int)
          · rw [if_pos c6] at H
            have c6b0 : decide (x9_1 < (l0.length : Int)) = true := decide_eq_true c6
            clear c6
            replace H := Option.bind_eq_some_iff.mp H
            obtain ⟨t171, A70, H⟩ := H
            replace H : (if x3_1.length < 5864062014805 then (impl_copyRows.l0 k1 (x3_1 ++ [t171]) l0 (l0.length : Int) (wrap64 (x9_1 + 1))) else (none)) = some r := H
            have A7 := Aside0.mk A70
            clear A70
            by_cases c8 : x3_1.length < 5864062014805
            · rw [if_pos c8] at H
              have LMc8 := Aside0.mk c8
              clear c8
              obtain ⟨y174, hy174⟩ : ∃ y_ : List (List Int), y_ = (x3_1 ++ [t171]) := ⟨_, rfl⟩
              replace H : (impl_copyRows.l0 k1 y174 l0 (l0.length : Int) (wrap64 (x9_1 + 1))) = some r := by first | (rw [hy174]; with_reducible exact H) | (have H2_ := (Option.bind_some _ _).symm.trans H; rw [hy174]; with_reducible exact H2_) | (have H2_ := (Option.bind_some _ _).symm.trans H; with_reducible exact H2_) | with_reducible exact H | (rw [hy174]; exact H) | exact H
              have Ny174 := Aside0.mk hy174
              clear hy174
              have H' := Aside0.mk H
              clear H
              have p170 : 0 ≤ (x9_1 : Int) := of_decide_eq_true (by first | (with_reducible assumption) | assumption)
              have q170 : x9_1 < (l0.length : Int) := of_decide_eq_true (by first | (with_reducible assumption) | assumption)
              obtain ⟨ad170, A170_0, c170_0, e170, hx170_0, hl170_0, hi170_0⟩ := at_L1 HR0.out x9_1 p170 q170
              cases e170
              replace hx170_0 := (HB.out.cell (World.block_lt_of_cell? w _ hx170_0)).trans hx170_0
              have HR170_0 := Aside0.mk hi170_0
              have HC170_0 := Aside0.mk hl170_0
              clear hi170_0 hl170_0
              replace p170 := eq_true p170
              replace q170 := eq_true q170
              go_wp2_with (first | ((with_reducible refine gate_callee (f := 64) rfl ?_); refine goesL_ (some 15) rfl rfl Try.func64 (by kernel_rfl) rfl #[.slice A170_0 (rd_L1 l0 x9_1).length c170_0] rfl (by (try simp only [List.map_toArray, List.map_cons, List.map_nil]); first | done | rfl | (simp only [List.length_drop, List.length_take]; rfl)) ?_; (with_reducible refine (slices_Clone_int64_int64.calls _ _ (rd_L1 l0 x9_1) t171 _ ?side1 ?side2 A7.out).mono ?_); (case side1 => repeat (first | exact (Kd.C_below HR170_0.out HB.out) | (with_reducible refine Kd.C_alloc ?_ _) | (with_reducible refine Kd.C_drewN ?_ _) | (with_reducible refine Kd.C_drew ?_))); (case side2 => exact HC170_0.out); rintro e w9 ⟨v172, rfl, ho0, hb⟩; refine ⟨_, rfl, ?_⟩; have n0_ := Aside0.mk (Kd.S_elder' (by (with_reducible repeat (first | apply Kd.S_alloc | apply Kd.S_drewN | apply Kd.S_drew)); exact HO_3.out) (Kd.R_base ho0) hb); have n1_ := Aside0.mk (Kd.R_lower ho0 (below_size (by repeat (first | (with_reducible first | exact HB.out | apply below_alloc | apply pw_below_drewN | apply below_drew1) | exact HB.out)))); have n2_ := Aside0.mk (below_step (by repeat (first | (with_reducible first | exact HB.out | apply below_alloc | apply pw_below_drewN | apply below_drew1) | exact HB.out)) hb); clear HO_3; clear HB; have HO_3 := n0_; have HO173 := n1_; have HB := n2_; clear n0_ n1_ n2_; (try clear hb); (try clear hb2); (try clear hk); (try clear hi); (try clear ho0); obtain ⟨Ao11, co11, eo11⟩ := Kd.R_slice HO173.out; subst eo11) | ((with_reducible refine gate_builtin (b := .append) (xs := #[.tmp 13, .tmp 16]) rfl ?_); at_builtin; refine Kd.S_append (Kd.slice 2 (Kd.int .i64)) (w0 := w) w.heap.size rfl (.tmp 13) (.tmp 16) 22 35 (.slice none 0 0) 24 rfl Try.underlying22 info35 rfl (by decide) (by omega) u3 x3_1 t171 [.slice Ao11 t171.length co11] (fun _ => True) (fun k_ => some k_ = (.slice Ao11 t171.length co11 : Value).ownBlock) rfl rfl ?aP (fun k_ hk_ => ((Kd.R_mono (ok' := fun k_ => ((fun _ => True)) k_ ∧ some k_ ≠ (u3 : Value).ownBlock) (Kd.R_apart' (HO173.out) (Kd.S_typed HO_3.out) (by decide)) (fun k_ hk => ⟨trivial, hk.2⟩))).1 k_ hk_.symm) ?aF ?aO ?aB ?aS ?aL ?_; (case aP => exact Kd.M_row (Kd.R_mono (Kd.R_tight rfl (Kd.R_mono (ok' := fun k_ => ((fun _ => True)) k_ ∧ some k_ ≠ (u3 : Value).ownBlock) (Kd.R_apart' (HO173.out) (Kd.S_typed HO_3.out) (by decide)) (fun k_ hk => ⟨trivial, hk.2⟩))) (fun _ h_ => h_))); (case aB => exact (by repeat (first | (with_reducible first | exact HB.out | apply below_alloc | apply pw_below_drewN | apply below_drew1) | exact HB.out))); (case aF => exact (fun _ _ => trivial)); (case aO => exact (by (with_reducible repeat (first | apply Kd.S_alloc | apply Kd.S_drewN | apply Kd.S_drew)); exact Kd.S_mono HO_3.out (fun k_ hk => ⟨trivial, fun e_ => hk.2 e_⟩))); (case aS => exact (below_size (by repeat (first | (with_reducible first | exact HB.out | apply below_alloc | apply pw_below_drewN | apply below_drew1) | exact HB.out)))); (case aL => have := LMc8.out; omega); intro v175 w10 ho hb hg hat; rw [← Ny174.out] at ho; have n0_ := Aside0.mk (hb); have n1_ := Aside0.mk (ho); clear HB; clear HO_3; clear HO173; have HB := n0_; have HO176 := n1_; clear n0_ n1_; clear ho hb hg hat))
              go_roundg k1
              case measure => have := HK1.out; omega
              case rel => exact ⟨(y174), (wrap64 (x9_1 + 1)), (by first | rfl | (simp; done) | (simp [*]; done)), H', ⟨by have := HK1.out; omega⟩, ⟨by (with_reducible repeat (first | apply Kd.S_alloc | apply Kd.S_drewN | apply Kd.S_drew)); exact HO176.out⟩, ⟨by repeat (first | (with_reducible first | exact HB.out | apply below_alloc | apply pw_below_drewN | apply below_drew1) | exact HB.out)⟩⟩
            · rw [if_neg c8] at H
              exact absurd H (by simp)
          · rw [if_neg c6] at H
            exact absurd H (by simp)
        · rw [if_neg c5] at H
          exact absurd H (by simp)
      · rw [if_neg c4] at H
        have c4b0 : decide (x9_1 < (l0.length : Int)) = false := decide_eq_false c4
        clear c4
        obtain rfl := Option.some.inj H
        go_wp2
        go_ret
        exact ⟨_, by first | rfl | (simp [errW_none, errW_some] <;> rfl) | (simp [*, errW_none, errW_some] <;> rfl), by (with_reducible repeat (first | apply Kd.S_alloc | apply Kd.S_drewN | apply Kd.S_drew)); exact HO_3.out, by repeat (first | (with_reducible first | exact HB.out | apply below_alloc | apply pw_below_drewN | apply below_drew1) | exact HB.out)⟩

end Go.Proofs.Ytjpbemomocccaaa.P

namespace Go.Proofs.Ytjpbemomocccaaa.P
open Go.RowKit Go.Proofs.YtjpbemomocccaaaW.PrintWords Go.Proofs.YtjpbemomocccaaaW.PrintLast Go.Proofs.YtjpbemomocccaaaW.PrintMore
attribute [local go_sem] max2_int min2_int max_two min_two max_three min_three max_four min_four
set_option linter.unusedVariables false
set_option linter.unusedSimpArgs false

/-! ### impl_scaled: function 69 -/
def impl_scaled.l0 : Nat → Int → List Int → Int → Int → Int → Option (List Int)
  | 0, _, _, _, _, _ => none
  | k + 1, x0, x1, x2, x8, x9 => if x9 < x8 then (if 0 ≤ x9 then (if x9 < (x1.length : Int) then (if x0 = 0 then (none) else (impl_scaled.l0 k x0 (x1.set (x9 : Int).toNat (Int.tmod (wrap64 ((rd x1 x9) * x2)) x0)) x2 x8 (wrap64 (x9 + 1)))) else (none)) else (none)) else (some x1)
def impl_scaled.f (k : Nat) (a0 : Int) (l1 : List Int) (a2 : Int) : Option (List Int) := impl_scaled.l0 k a0 l1 a2 (l1.length : Int) 0
set_option maxHeartbeats 8000000 in
set_option maxRecDepth 100000 in
theorem impl_scaled.calls (k : Nat) (a0 : Int) (P1_ : Nat → Prop) (u9000_ : Value) (l1 : List Int) (a2 : Int) (r : List Int) (w0 w : World) (hB : Below w0.heap.size w0 w) (ho1 : Kd.R (Kd.int .i64) 2 w w0.heap.size P1_ u9000_ l1) (h : impl_scaled.f k a0 l1 a2 = some r) :
    Calls Try.prog 69 #[.int .i64 a0, u9000_, .int .i64 a2] w fun e w' => e = .returned (.tuple #[]) ∧ Kd.R (Kd.int .i64) 2 w' w0.heap.size (fun k_ => (P1_ k_ ∨ w.heap.size ≤ k_)) u9000_ r ∧ Below w0.heap.size w0 w' ∧ Kept w w' (fun k_ => P1_ k_) := by
  have HO1 := Aside0.mk (show Kd.R (Kd.int .i64) 2 w w0.heap.size (fun k_ => (P1_ k_ ∨ w.heap.size ≤ k_)) u9000_ l1 from Kd.R_mono ho1 (fun k_ hk => (.inl hk)))
  have HK := Aside0.mk (Kept.refl w (fun k_ => P1_ k_))
  have HW0 := Aside0.mk hB.size
  have HB := Aside0.mk hB
  clear hB
  have H : (impl_scaled.l0 k a0 l1 a2 (l1.length : Int) 0) = some r := h
  clear h
  have H' := Aside0.mk H
  clear H
  obtain ⟨Ao4, co4, eo4⟩ := Kd.R_slice HO1.out
  subst eo4
  go_enter Try.func69, Try.ntmps69
  go_wp2
  go_loopg [9] k (fun kq v9 w' => ∃ (x1_1 : List Int) (x9_1 : Int), v9 = .int .i64 x9_1 ∧ Aside0 (impl_scaled.l0 kq a0 x1_1 a2 (l1.length : Int) x9_1 = some r) ∧ Aside0 (kq ≤ k) ∧ Aside0 (Kd.R (Kd.int .i64) 2 w' w0.heap.size (fun k_ => (P1_ k_ ∨ w.heap.size ≤ k_)) (.slice Ao4 l1.length co4) x1_1) ∧ Aside0 (Kept w w' (fun k_ => P1_ k_)) ∧ Aside0 (Below w0.heap.size w0 w'))
  case atStart => exact ⟨(l1), (0), (by first | rfl | (simp; done) | (simp [*]; done)), H', ⟨Nat.le_refl _⟩, ⟨by (with_reducible repeat (first | apply Kd.R_alloc | apply Kd.R_drewN | apply Kd.R_drew)); exact HO1.out⟩, ⟨by repeat (first | (with_reducible first | exact HK.out | apply Kept.alloc | apply Kept.drewN | apply Kept.drew) | exact HK.out)⟩, ⟨by repeat (first | (with_reducible first | exact HB.out | apply below_alloc | apply pw_below_drewN | apply below_drew1) | exact HB.out)⟩⟩
  case round =>
    clear H'
    try clear p2
    obtain ⟨x1_1, x9_1, rfl, HA, HK1, HO_1, HK, HB⟩ := hrel
    have hl1_1 := (Kd.R_reads' HO_1.out).1
    rw [hl1_1] at HO_1
    (try simp only [hl1_1])
    cases gk with
    | zero => exact absurd HA.out (by simp [impl_scaled.l0])
    | succ k1 =>
      have H := HA.out
      clear HA
      simp only [impl_scaled.l0] at H
      by_cases c5 : x9_1 < (l1.length : Int)
      · rw [if_pos c5] at H
        have c5b0 : decide (x9_1 < (l1.length : Int)) = true := decide_eq_true c5
        clear c5
        by_cases c6 : 0 ≤ x9_1
        · rw [if_pos c6] at H
          have c6b0 : decide (0 ≤ x9_1) = true := decide_eq_true c6
          clear c6
          by_cases c7 : x9_1 < (x1_1.length : Int)
          · rw [if_pos c7] at H
            have c7b0 : decide (x9_1 < (x1_1.length : Int)) = true := decide_eq_true c7
            clear c7
            by_cases c8 : a0 = 0
            · rw [if_pos c8] at H
              exact absurd H (by simp)
            · rw [if_neg c8] at H
              have c8b0 : (a0 == 0) = false := beq_eq_false_iff_ne.mpr c8
              have c8b1 : (a0 != 0) = true := bne_iff_ne.mpr c8
              obtain ⟨y178, hy178⟩ : ∃ y_ : List Int, y_ = (x1_1.set (x9_1 : Int).toNat (Int.tmod (wrap64 ((rd x1_1 x9_1) * a2)) a0)) := ⟨_, rfl⟩
              replace H : (impl_scaled.l0 k1 a0 y178 a2 (l1.length : Int) (wrap64 (x9_1 + 1))) = some r := by first | (rw [hy178]; with_reducible exact H) | (have H2_ := (Option.bind_some _ _).symm.trans H; rw [hy178]; with_reducible exact H2_) | (have H2_ := (Option.bind_some _ _).symm.trans H; with_reducible exact H2_) | with_reducible exact H | (rw [hy178]; exact H) | exact H
              have Ny178 := Aside0.mk hy178
              clear hy178
              have H' := Aside0.mk H
              clear H
              have p177 : 0 ≤ (x9_1 : Int) := of_decide_eq_true (by first | (with_reducible assumption) | assumption)
              have q177 : x9_1 < (x1_1.length : Int) := of_decide_eq_true (by first | (with_reducible assumption) | assumption)
              obtain ⟨ad177, e177, hx177_0⟩ := Kd.at_int (Kd.R_reads' HO_1.out).2.2 x9_1 p177 q177
              cases e177
              replace p177 := eq_true p177
              replace q177 := eq_true q177
              have p9 : 0 ≤ (x9_1 : Int) := of_decide_eq_true (by first | (with_reducible assumption) | assumption)
              have q9 : (x9_1 : Int) < ((x1_1.length : Int) : Int) := of_decide_eq_true (by first | (with_reducible assumption) | assumption)
              obtain ⟨go9, co9, eo9, gb9, gl9, cl9, HG9⟩ := Kd.R_form HO_1.out (by omega)
              (first | cases eo9 | (injection eo9 with ea_ en_ ec_; (first | subst ea_ | (injection ea_ with ea_; subst ea_)); subst ec_; clear en_))
              have GB9 := Aside0.mk gb9
              have GG9 := Aside0.mk HG9
              clear gb9 gl9 HG9
              have HMgo9 := Aside0.mk (show (P1_ go9 ∨ w.heap.size ≤ go9) from (HO_1.out.1 _ rfl))
              (first | simp only [add_plain] at hx177_0 | skip)
              obtain ⟨hx9_0, hf9_0⟩ := Kd.R_celln 0 HO_1.out (x9_1 : Int) p9 q9
              replace p9 := eq_true p9
              replace q9 := eq_true q9
              have HP10 := Kd.R_putg HO_1.out (x9_1 : Int) (Int.tmod (wrap64 ((rd x1_1 x9_1) * a2)) a0)
              go_wp2_with (first | ((with_reducible refine gate_store (t := 2) (p := 22) rfl ?_); refine store_event (t := 2) (p := 22) (v := ?vo_w11) (w1 := (wr.setCell ⟨go9, (x9_1 : Int).toNat, none⟩ (.int .i64 (Int.tmod (wrap64 ((rd x1_1 x9_1) * a2)) a0)))) ?hg ?ho ?hn ?hr ?_; (case ho => rfl); (case hg => rfl); (case hn => rfl); (case hr => first | (go_simp; done) | (go_simp; rfl)); intro w11 hw; have hg : wr.grownBy w11 (some go9) := (by rw [hw]; exact HP10.2); have hp_ : Kd.R (Kd.int .i64) 2 w11 w0.heap.size (fun k_ => (P1_ k_ ∨ w.heap.size ≤ k_)) (.slice (some ⟨go9, 0, none⟩) x1_1.length co4) y178 := (by rw [hw, Ny178.out]; exact HP10.1); clear HP10; have n0_ := Aside0.mk (hp_); have n1_ := Aside0.mk ((by rw [hw]; exact below_set (HB.out) GB9.out : Below w0.heap.size w0 w11)); have n2_ := Aside0.mk (Kept.of_grown (S := (fun k_ => P1_ k_)) hg (by repeat (first | (with_reducible first | exact HK.out | apply Kept.alloc | apply Kept.drewN | apply Kept.drew) | exact HK.out)) (fun k_ e_ => (HO_1.out.1 k_ e_))); clear HO_1; clear HB; clear HK; have HO_1 := n0_; have HB := n1_; have HK := n2_; clear n0_ n1_ n2_; clear hg hw hp_))
              (try simp only [← hl1_1])
              go_roundg k1
              case measure => have := HK1.out; omega
              case rel => exact ⟨(y178), (wrap64 (x9_1 + 1)), (by first | rfl | (simp; done) | (simp [*]; done)), H', ⟨by have := HK1.out; omega⟩, ⟨by (try simp only [hl1_1]); (with_reducible repeat (first | apply Kd.R_alloc | apply Kd.R_drewN | apply Kd.R_drew)); exact HO_1.out⟩, ⟨by repeat (first | (with_reducible first | exact HK.out | apply Kept.alloc | apply Kept.drewN | apply Kept.drew) | exact HK.out)⟩, ⟨by repeat (first | (with_reducible first | exact HB.out | apply below_alloc | apply pw_below_drewN | apply below_drew1) | exact HB.out)⟩⟩
          · rw [if_neg c7] at H
            exact absurd H (by simp)
        · rw [if_neg c6] at H
          exact absurd H (by simp)
      · rw [if_neg c5] at H
        have c5b0 : decide (x9_1 < (l1.length : Int)) = false := decide_eq_false c5
        try have c5b0x1_1 : decide (x9_1 < (x1_1.length : Int)) = false := (by rw [← hl1_1]; exact c5b0)
        clear c5
        obtain rfl := Option.some.inj H
        go_wp2
        first | go_end0 | ((try simp only [Exit.inBlock, Exit.then]); refine bodyPost_ret (results_none rfl _ _ _) rfl ?_)
        exact ⟨by first | rfl | (simp [errW_none, errW_some] <;> rfl) | (simp [*, errW_none, errW_some] <;> rfl), (by first | exact (by (with_reducible repeat (first | apply Kd.R_alloc | apply Kd.R_drewN | apply Kd.R_drew)); exact HO_1.out) | (simp only [hl1_1]; exact (by (with_reducible repeat (first | apply Kd.R_alloc | apply Kd.R_drewN | apply Kd.R_drew)); exact HO_1.out))), by repeat (first | (with_reducible first | exact HB.out | apply below_alloc | apply pw_below_drewN | apply below_drew1) | exact HB.out), by repeat (first | (with_reducible first | exact HK.out | apply Kept.alloc | apply Kept.drewN | apply Kept.drew) | exact HK.out)⟩

end Go.Proofs.Ytjpbemomocccaaa.P

namespace Go.Proofs.Ytjpbemomocccaaa.P
open Go.RowKit Go.Proofs.YtjpbemomocccaaaW.PrintWords Go.Proofs.YtjpbemomocccaaaW.PrintLast Go.Proofs.YtjpbemomocccaaaW.PrintMore
attribute [local go_sem] max2_int min2_int max_two min_two max_three min_three max_four min_four
set_option linter.unusedVariables false
set_option linter.unusedSimpArgs false

/-! ### impl_takeOff: function 71 -/
def impl_takeOff.l0 : Nat → Int → List Int → Int → List Int → Int → Int → Option (List Int)
  | 0, _, _, _, _, _, _ => none
  | k + 1, x0, x1, x3, x10, x11, x12 => if x12 < x11 then (if 0 ≤ x12 then (if x12 < (x10.length : Int) then (if x12 < (x1.length : Int) then (if x0 = 0 then (none) else (impl_takeOff.l0 k x0 (x1.set (x12 : Int).toNat (Int.tmod (wrap64 ((rd x1 x12) + (wrap64 ((wrap64 (x0 - x3)) * (rd x10 x12))))) x0)) x3 x10 x11 (wrap64 (x12 + 1)))) else (none)) else (none)) else (none)) else (some x1)
def impl_takeOff.f (k : Nat) (a0 : Int) (l1 : List Int) (l2 : List Int) (a3 : Int) : Option (List Int) := impl_takeOff.l0 k a0 l1 a3 l2 (l2.length : Int) 0
set_option maxHeartbeats 8000000 in
set_option maxRecDepth 100000 in
theorem impl_takeOff.calls (k : Nat) (a0 : Int) (P1_ : Nat → Prop) (u9000_ : Value) (l1 : List Int) (A2 : Option Addr) (c2 : Nat) (l2 : List Int) (a3 : Int) (r : List Int) (w0 w : World) (hB : Below w0.heap.size w0 w) (ho1 : Kd.R (Kd.int .i64) 2 w w0.heap.size P1_ u9000_ l1) (hr2 : ∀ W_, Kept w W_ (fun k_ => P1_ k_) → Kd.C (Kd.int .i64) W_ A2 l2.length l2) (hc2 : l2.length ≤ c2) (h : impl_takeOff.f k a0 l1 l2 a3 = some r) :
    Calls Try.prog 71 #[.int .i64 a0, u9000_, .slice A2 l2.length c2, .int .i64 a3] w fun e w' => e = .returned (.tuple #[]) ∧ Kd.R (Kd.int .i64) 2 w' w0.heap.size (fun k_ => (P1_ k_ ∨ w.heap.size ≤ k_)) u9000_ r ∧ Below w0.heap.size w0 w' ∧ Kept w w' (fun k_ => P1_ k_) := by
  have HO1 := Aside0.mk (show Kd.R (Kd.int .i64) 2 w w0.heap.size (fun k_ => (P1_ k_ ∨ w.heap.size ≤ k_)) u9000_ l1 from Kd.R_mono ho1 (fun k_ hk => (.inl hk)))
  have HR2 := Aside0.mk hr2
  have HC2 := Aside0.mk hc2
  clear hr2 hc2
  have HK := Aside0.mk (Kept.refl w (fun k_ => P1_ k_))
  have HW0 := Aside0.mk hB.size
  have HB := Aside0.mk hB
  clear hB
  have H : (impl_takeOff.l0 k a0 l1 a3 l2 (l2.length : Int) 0) = some r := h
  clear h
  have H' := Aside0.mk H
  clear H
  go_enter Try.func71, Try.ntmps71
  go_wp2
  go_loopg [12] k (fun kq v12 w' => ∃ (x1_1 : List Int) (x12_1 : Int), v12 = .int .i64 x12_1 ∧ Aside0 (impl_takeOff.l0 kq a0 x1_1 a3 l2 (l2.length : Int) x12_1 = some r) ∧ Aside0 (kq ≤ k) ∧ Aside0 (Kd.R (Kd.int .i64) 2 w' w0.heap.size (fun k_ => (P1_ k_ ∨ w.heap.size ≤ k_)) u9000_ x1_1) ∧ Aside0 (Kept w w' (fun k_ => P1_ k_)) ∧ Aside0 (Below w0.heap.size w0 w'))
  case atStart => exact ⟨(l1), (0), (by first | rfl | (simp; done) | (simp [*]; done)), H', ⟨Nat.le_refl _⟩, ⟨by (with_reducible repeat (first | apply Kd.R_alloc | apply Kd.R_drewN | apply Kd.R_drew)); exact HO1.out⟩, ⟨by repeat (first | (with_reducible first | exact HK.out | apply Kept.alloc | apply Kept.drewN | apply Kept.drew) | exact HK.out)⟩, ⟨by repeat (first | (with_reducible first | exact HB.out | apply below_alloc | apply pw_below_drewN | apply below_drew1) | exact HB.out)⟩⟩
  case round =>
    clear H'
    try clear c2
    try clear p2
    obtain ⟨x1_1, x12_1, rfl, HA, HK1, HO_1, HK, HB⟩ := hrel
    cases gk with
    | zero => exact absurd HA.out (by simp [impl_takeOff.l0])
    | succ k1 =>
      have H := HA.out
      clear HA
      simp only [impl_takeOff.l0] at H
      by_cases c5 : x12_1 < (l2.length : Int)
      · rw [if_pos c5] at H
        have c5b0 : decide (x12_1 < (l2.length : Int)) = true := decide_eq_true c5
        clear c5
        by_cases c6 : 0 ≤ x12_1
        · rw [if_pos c6] at H
          have c6b0 : decide (0 ≤ x12_1) = true := decide_eq_true c6
          clear c6
          by_cases c7 : x12_1 < (l2.length : Int)
          · rw [if_pos c7] at H
            have c7b0 : decide (x12_1 < (l2.length : Int)) = true := decide_eq_true c7
            clear c7
            by_cases c8 : x12_1 < (x1_1.length : Int)
            · rw [if_pos c8] at H
              have c8b0 : decide (x12_1 < (x1_1.length : Int)) = true := decide_eq_true c8
              clear c8
              by_cases c9 : a0 = 0
              · rw [if_pos c9] at H
                exact absurd H (by simp)
              · rw [if_neg c9] at H
                have c9b0 : (a0 == 0) = false := beq_eq_false_iff_ne.mpr c9
                have c9b1 : (a0 != 0) = true := bne_iff_ne.mpr c9
                obtain ⟨y182, hy182⟩ : ∃ y_ : List Int, y_ = (x1_1.set (x12_1 : Int).toNat (Int.tmod (wrap64 ((rd x1_1 x12_1) + (wrap64 ((wrap64 (a0 - a3)) * (rd l2 x12_1))))) a0)) := ⟨_, rfl⟩
                replace H : (impl_takeOff.l0 k1 a0 y182 a3 l2 (l2.length : Int) (wrap64 (x12_1 + 1))) = some r := by first | (rw [hy182]; with_reducible exact H) | (have H2_ := (Option.bind_some _ _).symm.trans H; rw [hy182]; with_reducible exact H2_) | (have H2_ := (Option.bind_some _ _).symm.trans H; with_reducible exact H2_) | with_reducible exact H | (rw [hy182]; exact H) | exact H
                have Ny182 := Aside0.mk hy182
                clear hy182
                have H' := Aside0.mk H
                clear H
                have p180 : 0 ≤ (x12_1 : Int) := of_decide_eq_true (by first | (with_reducible assumption) | assumption)
                have q180 : x12_1 < (l2.length : Int) := of_decide_eq_true (by first | (with_reducible assumption) | assumption)
                obtain ⟨ad180, e180, hx180_0⟩ := Kd.at_int (Kd.C_kept_now HR2.out HK.out) x12_1 p180 q180
                cases e180
                replace p180 := eq_true p180
                replace q180 := eq_true q180
                obtain ⟨Ao11, co11, eo11⟩ := Kd.R_slice HO_1.out
                subst eo11
                have p181 : 0 ≤ (x12_1 : Int) := of_decide_eq_true (by first | (with_reducible assumption) | assumption)
                have q181 : x12_1 < (x1_1.length : Int) := of_decide_eq_true (by first | (with_reducible assumption) | assumption)
                obtain ⟨ad181, e181, hx181_0⟩ := Kd.at_int (Kd.R_reads' HO_1.out).2.2 x12_1 p181 q181
                cases e181
                replace p181 := eq_true p181
                replace q181 := eq_true q181
                have p10 : 0 ≤ (x12_1 : Int) := of_decide_eq_true (by first | (with_reducible assumption) | assumption)
                have q10 : (x12_1 : Int) < ((x1_1.length : Int) : Int) := of_decide_eq_true (by first | (with_reducible assumption) | assumption)
                obtain ⟨go10, co10, eo10, gb10, gl10, cl10, HG10⟩ := Kd.R_form HO_1.out (by omega)
                (first | cases eo10 | (injection eo10 with ea_ en_ ec_; (first | subst ea_ | (injection ea_ with ea_; subst ea_)); subst ec_; clear en_))
                have GB10 := Aside0.mk gb10
                have GG10 := Aside0.mk HG10
                clear gb10 gl10 HG10
                have HMgo10 := Aside0.mk (show (P1_ go10 ∨ w.heap.size ≤ go10) from (HO_1.out.1 _ rfl))
                (first | simp only [add_plain] at hx181_0 | skip)
                obtain ⟨hx10_0, hf10_0⟩ := Kd.R_celln 0 HO_1.out (x12_1 : Int) p10 q10
                replace p10 := eq_true p10
                replace q10 := eq_true q10
                have HP12 := Kd.R_putg HO_1.out (x12_1 : Int) (Int.tmod (wrap64 ((rd x1_1 x12_1) + (wrap64 ((wrap64 (a0 - a3)) * (rd l2 x12_1))))) a0)
                go_wp2_with (first | ((with_reducible refine gate_store (t := 2) (p := 31) rfl ?_); refine store_event (t := 2) (p := 31) (v := ?vo_w13) (w1 := (wr.setCell ⟨go10, (x12_1 : Int).toNat, none⟩ (.int .i64 (Int.tmod (wrap64 ((rd x1_1 x12_1) + (wrap64 ((wrap64 (a0 - a3)) * (rd l2 x12_1))))) a0)))) ?hg ?ho ?hn ?hr ?_; (case ho => rfl); (case hg => rfl); (case hn => rfl); (case hr => first | (go_simp; done) | (go_simp; rfl)); intro w13 hw; have hg : wr.grownBy w13 (some go10) := (by rw [hw]; exact HP12.2); have hp_ : Kd.R (Kd.int .i64) 2 w13 w0.heap.size (fun k_ => (P1_ k_ ∨ w.heap.size ≤ k_)) (.slice (some ⟨go10, 0, none⟩) x1_1.length co11) y182 := (by rw [hw, Ny182.out]; exact HP12.1); clear HP12; have n0_ := Aside0.mk (hp_); have n1_ := Aside0.mk ((by rw [hw]; exact below_set (HB.out) GB10.out : Below w0.heap.size w0 w13)); have n2_ := Aside0.mk (Kept.of_grown (S := (fun k_ => P1_ k_)) hg (by repeat (first | (with_reducible first | exact HK.out | apply Kept.alloc | apply Kept.drewN | apply Kept.drew) | exact HK.out)) (fun k_ e_ => (HO_1.out.1 k_ e_))); clear HO_1; clear HB; clear HK; have HO_1 := n0_; have HB := n1_; have HK := n2_; clear n0_ n1_ n2_; clear hg hw hp_))
                go_roundg k1
                case measure => have := HK1.out; omega
                case rel => exact ⟨(y182), (wrap64 (x12_1 + 1)), (by first | rfl | (simp; done) | (simp [*]; done)), H', ⟨by have := HK1.out; omega⟩, ⟨by (with_reducible repeat (first | apply Kd.R_alloc | apply Kd.R_drewN | apply Kd.R_drew)); exact HO_1.out⟩, ⟨by repeat (first | (with_reducible first | exact HK.out | apply Kept.alloc | apply Kept.drewN | apply Kept.drew) | exact HK.out)⟩, ⟨by repeat (first | (with_reducible first | exact HB.out | apply below_alloc | apply pw_below_drewN | apply below_drew1) | exact HB.out)⟩⟩
            · rw [if_neg c8] at H
              exact absurd H (by simp)
          · rw [if_neg c7] at H
            exact absurd H (by simp)
        · rw [if_neg c6] at H
          exact absurd H (by simp)
      · rw [if_neg c5] at H
        have c5b0 : decide (x12_1 < (l2.length : Int)) = false := decide_eq_false c5
        clear c5
        obtain rfl := Option.some.inj H
        go_wp2
        first | go_end0 | ((try simp only [Exit.inBlock, Exit.then]); refine bodyPost_ret (results_none rfl _ _ _) rfl ?_)
        exact ⟨by first | rfl | (simp [errW_none, errW_some] <;> rfl) | (simp [*, errW_none, errW_some] <;> rfl), by (with_reducible repeat (first | apply Kd.R_alloc | apply Kd.R_drewN | apply Kd.R_drew)); exact HO_1.out, by repeat (first | (with_reducible first | exact HB.out | apply below_alloc | apply pw_below_drewN | apply below_drew1) | exact HB.out), by repeat (first | (with_reducible first | exact HK.out | apply Kept.alloc | apply Kept.drewN | apply Kept.drew) | exact HK.out)⟩

end Go.Proofs.Ytjpbemomocccaaa.P

namespace Go.Proofs.Ytjpbemomocccaaa.P
open Go.RowKit Go.Proofs.YtjpbemomocccaaaW.PrintWords Go.Proofs.YtjpbemomocccaaaW.PrintLast Go.Proofs.YtjpbemomocccaaaW.PrintMore
attribute [local go_sem] max2_int min2_int max_two min_two max_three min_three max_four min_four
set_option linter.unusedVariables false
set_option linter.unusedSimpArgs false

/-! ### impl_DeterminantOf: function 24 (by hand) -/
def impl_DeterminantOf.l2 : Nat → Int → Int → List (List Int) → Int → Option (List (List Int))
  | 0, _, _, _, _ => none
  | k + 1, p, c, rows, i => if i < (rows.length : Int) - (c + 1) then (if 0 ≤ i then (if c < ((rd_L1 rows (c + 1 + i)).length : Int) then ((impl_takeOff.f k p (rd_L1 rows (c + 1 + i)) (rd_L1 rows c) (rd (rd_L1 rows (c + 1 + i)) c)).bind fun r => impl_DeterminantOf.l2 k p c (rows.set (c + 1 + i).toNat r) (wrap64 (i + 1))) else none) else none) else some rows
def impl_DeterminantOf.st (k : Nat) (p c : Int) (rows : List (List Int)) (out : Int) : Option (List (List Int) × Int) := if 0 ≤ c then (if c < (rows.length : Int) then (if rows.length ≤ 1048576 then (if c < ((rd_L1 rows c).length : Int) then (if p = 0 then none else ((impl_inverse.f k p (rd (rd_L1 rows c) c)).bind fun inv => ((impl_scaled.f k p (rd_L1 rows c) inv).bind fun r => ((impl_DeterminantOf.l2 k p c (rows.set c.toNat r) 0).bind fun rows2 => some (rows2, Int.tmod (wrap64 (out * rd (rd_L1 rows c) c)) p))))) else none) else none) else none) else none
def impl_DeterminantOf.l0 : Nat → Int → Int → List (List Int) → Int → Int → Option (Int × Int)
  | 0, _, _, _, _, _ => none
  | k + 1, p, n, rows, out, c => if c < n then ((findB k rows c c).bind fun a => if a = (rows.length : Int) then some (0, 0) else (if a = c then ((impl_DeterminantOf.st k p c rows out).bind fun t => impl_DeterminantOf.l0 k p n t.1 t.2 (wrap64 (c + 1))) else (if 0 ≤ a then (if a < (rows.length : Int) then (if 0 ≤ c then (if c < (rows.length : Int) then (if p = 0 then none else ((impl_DeterminantOf.st k p c (swapB rows a.toNat c.toNat) (Int.tmod (wrap64 (p - out)) p)).bind fun t => impl_DeterminantOf.l0 k p n t.1 t.2 (wrap64 (c + 1)))) else none) else none) else none) else none))) else some (out, 0)
def impl_DeterminantOf.f (k : Nat) (a0_0 : Int) (a0_1 : Int) (l0_2 : List (List Int)) : Option (Int × Int) := (impl_ValidMatrix.f k a0_0 a0_1 l0_2).bind fun t => if t = true then ((impl_Matrix_isSquare.f a0_0 a0_1 l0_2).bind fun t2 => if t2 = true then ((impl_copyRows.f k l0_2).bind fun rows => impl_DeterminantOf.l0 k a0_0 (rows.length : Int) rows 1 0) else some (0, 2)) else some (0, 1)
theorem impl_DeterminantOf.cut {P : Program} (t e : TypeId) {i : TypeInfo} (ht : P.underlying t = some (.slice e)) (hi : P.info? e = some i) (hsz : i.size = 1) (g n c : Nat) (j : Int) (h0 : 0 ≤ j) (hm : j ≤ n) (hc : n ≤ c) :
    ∃ AS CS, (∀ W : World, (Instr.slice t (.slice (some ⟨g, 0, none⟩) n c) (some (.int .i64 j)) none none).run P W = .ok (.slice AS (n - j.toNat) CS) W) ∧ (j.toNat < n → AS = some ⟨g, j.toNat, none⟩) := by
  refine ⟨_, _, cut_from t e .i64 ht hi 1 hsz (some ⟨g, 0, none⟩) n c j h0 hm, fun hlt => ?_⟩
  rw [if_neg (by omega)]
  simp [Addr.add]
  omega
set_option maxHeartbeats 8000000 in
set_option maxRecDepth 100000 in
theorem impl_DeterminantOf.calls (k : Nat) (a0_0 : Int) (a0_1 : Int) (A0_2 : Option Addr) (c0_2 : Nat) (l0_2 : List (List Int)) (r1 : Int) (r2 : Int) (w : World) (hr0_2 : Kd.C (Kd.slice 2 (Kd.int .i64)) w A0_2 l0_2.length l0_2) (hc0_2 : l0_2.length ≤ c0_2) (h : impl_DeterminantOf.f k a0_0 a0_1 l0_2 = some (r1, r2)) :
    Calls Try.prog 24 #[.agg #[.int .i64 a0_0, .int .i64 a0_1, .slice A0_2 l0_2.length c0_2]] w fun e w' => e = .returned (.tuple #[.int .i64 r1, .int .i64 r2]) ∧ Below w.heap.size w w' := by
  have hum := Try.underlying26
  have HR := Aside0.mk hr0_2
  have HC := Aside0.mk hc0_2
  clear hr0_2 hc0_2
  unfold impl_DeterminantOf.f at h
  replace h := Option.bind_eq_some_iff.mp h
  obtain ⟨tv, At1, h⟩ := h
  have A1_ := Aside0.mk At1
  clear At1
  go_enter Try.func24, Try.ntmps24
  cases tv with
  | false =>
    rw [if_neg (by decide)] at h
    obtain ⟨rfl, rfl⟩ := (by simpa using h : 0 = r1 ∧ 1 = r2)
    clear h
    go_wp2_with (first | (go_at_call 50; (with_reducible refine (impl_ValidMatrix.calls k a0_0 a0_1 A0_2 c0_2 l0_2 false _ ?side1 ?side2 A1_.out).mono ?_); (case side1 => exact (by repeat (first | (with_reducible exact HR.out) | (with_reducible refine Kd.C_alloc ?_ _) | (with_reducible refine Kd.C_drewN ?_ _) | (with_reducible refine Kd.C_drew ?_) | exact HR.out))); (case side2 => exact HC.out); rintro e w1 ⟨rfl, hb⟩; have BK := Aside0.mk (blk_below (g := w.heap.size) (o := .cells #[.int .i64 a0_0, .int .i64 a0_1, .slice A0_2 l0_2.length c0_2] 26 (0, 0)) (by repeat (first | exact blk_new_at (by simp) | (with_reducible refine blk_drewN ?_ _) | (with_reducible refine blk_drew ?_) | (with_reducible refine blk_alloc ?_ _))) hb); have HB : Aside0 (Below w.heap.size w w1) := ⟨below_step (by repeat (first | exact Below.refl _ _ | apply below_alloc | apply pw_below_drewN | apply below_drew1)) hb⟩; have HR2 : Aside0 (Kd.C (Kd.slice 2 (Kd.int .i64)) w1 A0_2 l0_2.length l0_2) := ⟨Kd.C_below (by repeat (first | (with_reducible exact HR.out) | (with_reducible refine Kd.C_alloc ?_ _) | (with_reducible refine Kd.C_drewN ?_ _) | (with_reducible refine Kd.C_drew ?_) | exact HR.out)) hb⟩; clear HR hb; have HR := HR2; clear HR2; have hm0_ : w1.cell? ⟨w.heap.size, 0, none⟩ = some (.int .i64 a0_0) := (blk_cell BK.out 0).trans rfl; have hm1_ : w1.cell? ⟨w.heap.size, 1, none⟩ = some (.int .i64 a0_1) := (blk_cell BK.out 1).trans rfl; have hm2_ : w1.cell? ⟨w.heap.size, 2, none⟩ = some (.slice A0_2 l0_2.length c0_2) := (blk_cell BK.out 2).trans rfl))
    go_ret2
    exact ⟨rfl, HB.out⟩
  | true =>
    rw [if_pos rfl] at h
    replace h := Option.bind_eq_some_iff.mp h
    obtain ⟨ts, At2, h⟩ := h
    have A2_ := Aside0.mk At2
    clear At2
    cases ts with
    | false =>
      rw [if_neg (by decide)] at h
      obtain ⟨rfl, rfl⟩ := (by simpa using h : 0 = r1 ∧ 2 = r2)
      clear h
      go_wp2_with (first | (go_at_call 50; (with_reducible refine (impl_ValidMatrix.calls k a0_0 a0_1 A0_2 c0_2 l0_2 true _ ?side1 ?side2 A1_.out).mono ?_); (case side1 => exact (by repeat (first | (with_reducible exact HR.out) | (with_reducible refine Kd.C_alloc ?_ _) | (with_reducible refine Kd.C_drewN ?_ _) | (with_reducible refine Kd.C_drew ?_) | exact HR.out))); (case side2 => exact HC.out); rintro e w1 ⟨rfl, hb⟩; have BK := Aside0.mk (blk_below (g := w.heap.size) (o := .cells #[.int .i64 a0_0, .int .i64 a0_1, .slice A0_2 l0_2.length c0_2] 26 (0, 0)) (by repeat (first | exact blk_new_at (by simp) | (with_reducible refine blk_drewN ?_ _) | (with_reducible refine blk_drew ?_) | (with_reducible refine blk_alloc ?_ _))) hb); have HB : Aside0 (Below w.heap.size w w1) := ⟨below_step (by repeat (first | exact Below.refl _ _ | apply below_alloc | apply pw_below_drewN | apply below_drew1)) hb⟩; have HR2 : Aside0 (Kd.C (Kd.slice 2 (Kd.int .i64)) w1 A0_2 l0_2.length l0_2) := ⟨Kd.C_below (by repeat (first | (with_reducible exact HR.out) | (with_reducible refine Kd.C_alloc ?_ _) | (with_reducible refine Kd.C_drewN ?_ _) | (with_reducible refine Kd.C_drew ?_) | exact HR.out)) hb⟩; clear HR hb; have HR := HR2; clear HR2; have hm0_ : w1.cell? ⟨w.heap.size, 0, none⟩ = some (.int .i64 a0_0) := (blk_cell BK.out 0).trans rfl; have hm1_ : w1.cell? ⟨w.heap.size, 1, none⟩ = some (.int .i64 a0_1) := (blk_cell BK.out 1).trans rfl; have hm2_ : w1.cell? ⟨w.heap.size, 2, none⟩ = some (.slice A0_2 l0_2.length c0_2) := (blk_cell BK.out 2).trans rfl) | (go_at_call 63; (with_reducible refine (impl_Matrix_isSquare.calls a0_0 a0_1 A0_2 c0_2 l0_2 false _ ?side1 ?side2 A2_.out).mono ?_); (case side1 => exact (by repeat (first | (with_reducible exact HR.out) | (with_reducible refine Kd.C_alloc ?_ _) | (with_reducible refine Kd.C_drewN ?_ _) | (with_reducible refine Kd.C_drew ?_) | exact HR.out))); (case side2 => exact HC.out); rintro e w2 ⟨rfl, hb⟩; have BK2 := Aside0.mk (blk_below (g := w.heap.size) (o := .cells #[.int .i64 a0_0, .int .i64 a0_1, .slice A0_2 l0_2.length c0_2] 26 (0, 0)) (by (with_reducible repeat (first | refine blk_drewN ?_ _ | refine blk_drew ?_ | refine blk_alloc ?_ _)); exact BK.out) hb); have HB2 : Aside0 (Below w.heap.size w w2) := ⟨below_step (by repeat (first | (with_reducible first | exact HB.out | apply below_alloc | apply pw_below_drewN | apply below_drew1) | exact HB.out)) hb⟩; have HR2 : Aside0 (Kd.C (Kd.slice 2 (Kd.int .i64)) w2 A0_2 l0_2.length l0_2) := ⟨Kd.C_below (by repeat (first | (with_reducible exact HR.out) | (with_reducible refine Kd.C_alloc ?_ _) | (with_reducible refine Kd.C_drewN ?_ _) | (with_reducible refine Kd.C_drew ?_) | exact HR.out)) hb⟩; clear HR hb BK HB hm0_ hm1_ hm2_; have HR := HR2; have BK := BK2; have HB := HB2; clear HR2 BK2 HB2; have hm0_ : w2.cell? ⟨w.heap.size, 0, none⟩ = some (.int .i64 a0_0) := (blk_cell BK.out 0).trans rfl; have hm1_ : w2.cell? ⟨w.heap.size, 1, none⟩ = some (.int .i64 a0_1) := (blk_cell BK.out 1).trans rfl; have hm2_ : w2.cell? ⟨w.heap.size, 2, none⟩ = some (.slice A0_2 l0_2.length c0_2) := (blk_cell BK.out 2).trans rfl))
      go_ret2
      exact ⟨rfl, HB.out⟩
    | true =>
      rw [if_pos rfl] at h
      replace h := Option.bind_eq_some_iff.mp h
      obtain ⟨rows0, At3, h⟩ := h
      have A3_ := Aside0.mk At3
      have H' := Aside0.mk h
      clear At3 h
      go_wp2_with (first | (go_at_call 50; (with_reducible refine (impl_ValidMatrix.calls k a0_0 a0_1 A0_2 c0_2 l0_2 true _ ?side1 ?side2 A1_.out).mono ?_); (case side1 => exact (by repeat (first | (with_reducible exact HR.out) | (with_reducible refine Kd.C_alloc ?_ _) | (with_reducible refine Kd.C_drewN ?_ _) | (with_reducible refine Kd.C_drew ?_) | exact HR.out))); (case side2 => exact HC.out); rintro e w1 ⟨rfl, hb⟩; have BK := Aside0.mk (blk_below (g := w.heap.size) (o := .cells #[.int .i64 a0_0, .int .i64 a0_1, .slice A0_2 l0_2.length c0_2] 26 (0, 0)) (by repeat (first | exact blk_new_at (by simp) | (with_reducible refine blk_drewN ?_ _) | (with_reducible refine blk_drew ?_) | (with_reducible refine blk_alloc ?_ _))) hb); have HB : Aside0 (Below w.heap.size w w1) := ⟨below_step (by repeat (first | exact Below.refl _ _ | apply below_alloc | apply pw_below_drewN | apply below_drew1)) hb⟩; have HR2 : Aside0 (Kd.C (Kd.slice 2 (Kd.int .i64)) w1 A0_2 l0_2.length l0_2) := ⟨Kd.C_below (by repeat (first | (with_reducible exact HR.out) | (with_reducible refine Kd.C_alloc ?_ _) | (with_reducible refine Kd.C_drewN ?_ _) | (with_reducible refine Kd.C_drew ?_) | exact HR.out)) hb⟩; clear HR hb; have HR := HR2; clear HR2; have hm0_ : w1.cell? ⟨w.heap.size, 0, none⟩ = some (.int .i64 a0_0) := (blk_cell BK.out 0).trans rfl; have hm1_ : w1.cell? ⟨w.heap.size, 1, none⟩ = some (.int .i64 a0_1) := (blk_cell BK.out 1).trans rfl; have hm2_ : w1.cell? ⟨w.heap.size, 2, none⟩ = some (.slice A0_2 l0_2.length c0_2) := (blk_cell BK.out 2).trans rfl) | (go_at_call 63; (with_reducible refine (impl_Matrix_isSquare.calls a0_0 a0_1 A0_2 c0_2 l0_2 true _ ?side1 ?side2 A2_.out).mono ?_); (case side1 => exact (by repeat (first | (with_reducible exact HR.out) | (with_reducible refine Kd.C_alloc ?_ _) | (with_reducible refine Kd.C_drewN ?_ _) | (with_reducible refine Kd.C_drew ?_) | exact HR.out))); (case side2 => exact HC.out); rintro e w2 ⟨rfl, hb⟩; have BK2 := Aside0.mk (blk_below (g := w.heap.size) (o := .cells #[.int .i64 a0_0, .int .i64 a0_1, .slice A0_2 l0_2.length c0_2] 26 (0, 0)) (by (with_reducible repeat (first | refine blk_drewN ?_ _ | refine blk_drew ?_ | refine blk_alloc ?_ _)); exact BK.out) hb); have HB2 : Aside0 (Below w.heap.size w w2) := ⟨below_step (by repeat (first | (with_reducible first | exact HB.out | apply below_alloc | apply pw_below_drewN | apply below_drew1) | exact HB.out)) hb⟩; have HR2 : Aside0 (Kd.C (Kd.slice 2 (Kd.int .i64)) w2 A0_2 l0_2.length l0_2) := ⟨Kd.C_below (by repeat (first | (with_reducible exact HR.out) | (with_reducible refine Kd.C_alloc ?_ _) | (with_reducible refine Kd.C_drewN ?_ _) | (with_reducible refine Kd.C_drew ?_) | exact HR.out)) hb⟩; clear HR hb BK HB hm0_ hm1_ hm2_; have HR := HR2; have BK := BK2; have HB := HB2; clear HR2 BK2 HB2; have hm0_ : w2.cell? ⟨w.heap.size, 0, none⟩ = some (.int .i64 a0_0) := (blk_cell BK.out 0).trans rfl; have hm1_ : w2.cell? ⟨w.heap.size, 1, none⟩ = some (.int .i64 a0_1) := (blk_cell BK.out 1).trans rfl; have hm2_ : w2.cell? ⟨w.heap.size, 2, none⟩ = some (.slice A0_2 l0_2.length c0_2) := (blk_cell BK.out 2).trans rfl) | (go_at_call 68; (with_reducible refine (impl_copyRows.calls k _ _ l0_2 rows0 _ ?side1 ?side2 A3_.out).mono ?_); (case side1 => exact (by repeat (first | (with_reducible exact HR.out) | (with_reducible refine Kd.C_alloc ?_ _) | (with_reducible refine Kd.C_drewN ?_ _) | (with_reducible refine Kd.C_drew ?_) | exact HR.out))); (case side2 => exact HC.out); rintro e w3 ⟨v, rfl, ho, hb⟩; have hlt := blk_lt BK.out; obtain ⟨vs0, hmx⟩ := Mx.of_S (lo := w.heap.size + 1) (hi := w3.heap.size) (Kd.S_mono (Kd.S_bound ho) (fun k_ hk_ => ⟨by have h_ := hk_.2.1; (try simp at h_); omega, hk_.2.2.1⟩)); have n1_ := blk_below (g := w.heap.size) (o := .cells #[.int .i64 a0_0, .int .i64 a0_1, .slice A0_2 l0_2.length c0_2] 26 (0, 0)) (by (with_reducible repeat (first | refine blk_drewN ?_ _ | refine blk_drew ?_ | refine blk_alloc ?_ _)); exact BK.out) hb; have n3_ : Below w.heap.size w w3 := below_step (by repeat (first | (with_reducible first | exact HB.out | apply below_alloc | apply pw_below_drewN | apply below_drew1) | exact HB.out)) hb; have E0 : Aside0 (Mw w w3 (w.heap.size + 1) w3.heap.size w3.heap.size ([(w.heap.size, .cells #[.int .i64 a0_0, .int .i64 a0_1, .slice A0_2 l0_2.length c0_2] 26 (0, 0))]) v vs0 rows0) := ⟨⟨hmx.lower (by (try simp); omega), (fun b hm => by rcases List.mem_cons.1 hm with rfl | hm; exact ⟨n1_, .inl (by omega), blk_lt n1_⟩; cases hm), n3_, (by omega), Nat.le_refl _, Nat.le_refl _⟩⟩; clear ho hb hmx n1_ n3_ hlt BK HB hm0_ hm1_ hm2_ HR; obtain ⟨A1, c1, e1, hc1⟩ := E0.out.mx.slice; subst e1))
      obtain ⟨n0, hn0⟩ : ∃ n, n = rows0.length := ⟨_, rfl⟩
      rw [← hn0] at E0 H' ⊢
      obtain ⟨hi, hhi⟩ : ∃ m, m = w3.heap.size := ⟨_, rfl⟩
      simp only [← hhi] at E0
      clear hn0 hhi hc1
      go_loopg [5, 21] k (fun kq v5 v21 w' => ∃ (c : Int) (out : Int) (rows : List (List Int)) (vs : List Value), v21 = .int .i64 c ∧ v5 = .int .i64 out ∧ Aside0 (impl_DeterminantOf.l0 kq a0_0 (n0 : Int) rows out c = some (r1, r2)) ∧ Aside0 (kq ≤ k) ∧ Aside0 (Mw w w' (w.heap.size + 1) hi hi ([(w.heap.size, .cells #[.int .i64 a0_0, .int .i64 a0_1, .slice A0_2 l0_2.length c0_2] 26 (0, 0))]) (.slice A1 n0 c1) vs rows))
      case atStart => exact ⟨0, 1, rows0, vs0, rfl, rfl, H', ⟨Nat.le_refl _⟩, E0⟩
      case round =>
        clear E0 H'
        obtain ⟨c, out, rows, vs, rfl, rfl, HA, HK1, E⟩ := hrel
        cases gk with
        | zero => exact absurd HA.out (by simp [impl_DeterminantOf.l0])
        | succ k1 =>
          have H := HA.out
          clear HA
          simp only [impl_DeterminantOf.l0] at H
          by_cases c2 : c < (n0 : Int)
          · rw [if_pos c2] at H
            have c2b : decide (c < (n0 : Int)) = true := decide_eq_true c2
            have C2 := Aside0.mk c2
            clear c2
            replace H := Option.bind_eq_some_iff.mp H
            obtain ⟨at_, At1, H⟩ := H
            have B1 := Aside0.mk At1
            have H1 := Aside0.mk H
            clear At1 H
            obtain ⟨wo, rfl⟩ : ∃ wo : World, wo = wr := ⟨_, rfl⟩
            go_wp2
            go_loopg [7] k1 (fun kq v7 w' => ∃ (a : Int), v7 = .int .i64 a ∧ Aside0 (findB kq rows c a = some at_) ∧ Aside0 (kq ≤ k1) ∧ Aside0 (Mw w w' (w.heap.size + 1) hi hi ([(w.heap.size, .cells #[.int .i64 a0_0, .int .i64 a0_1, .slice A0_2 l0_2.length c0_2] 26 (0, 0))]) (.slice A1 n0 c1) vs rows))
            case atStart => exact ⟨c, rfl, B1, ⟨Nat.le_refl _⟩, E⟩
            case round =>
              clear B1 E
              obtain ⟨a, rfl, HA, HK2, E⟩ := hrel
              have hcnt := Aside0.mk E.out.mx.count
              cases gk with
              | zero => exact absurd HA.out (by simp [findB])
              | succ k2 =>
                have H := HA.out
                clear HA
                simp only [findB] at H
                by_cases c3 : a < (rows.length : Int)
                · rw [if_pos c3] at H
                  by_cases c4 : 0 ≤ a
                  case neg => rw [if_neg c4] at H; exact absurd H (by simp)
                  rw [if_pos c4] at H
                  by_cases c5_ : 0 ≤ c
                  case neg => rw [if_neg c5_] at H; exact absurd H (by simp)
                  rw [if_pos c5_] at H
                  by_cases c6 : c < ((rd_L1 rows a).length : Int)
                  case neg => rw [if_neg c6] at H; exact absurd H (by simp)
                  rw [if_pos c6] at H
                  obtain ⟨u, hu, hr⟩ := E.out.mx.rd_ a c4 c3
                  obtain ⟨b, cb, e, b1, b2, hx⟩ := E.out.mx.get hu hr c c5_ c6
                  subst e
                  obtain ⟨g, cg, e, g1, g2, g3, g4⟩ := E.out.mx.form (by omega)
                  injection e with e1 e2 e3
                  subst e1
                  have hy := (E.out.mx.cell hu).1
                  have a1b : decide (a < (n0 : Int)) = true := decide_eq_true (by have := hcnt.out.1; omega)
                  have a1c := eq_true (show a < (n0 : Int) by have := hcnt.out.1; omega)
                  have a2b : decide (0 ≤ a) = true := decide_eq_true c4
                  have a3b : decide (0 ≤ c) = true := decide_eq_true c5_
                  have a4b : decide (c < ((rd_L1 rows a).length : Int)) = true := decide_eq_true c6
                  have G := Aside0.mk (And.intro g1 (And.intro g2 g4))
                  have KK := Aside0.mk (And.intro c3 (And.intro c4 (And.intro c5_ c6)))
                  have HUR := Aside0.mk (And.intro hu hr)
                  clear g1 g2 g3 g4 e2 e3 b1 b2 hu hr
                  replace c3 := eq_true c3
                  replace c4 := eq_true c4
                  replace c5_ := eq_true c5_
                  replace c6 := eq_true c6
                  by_cases c7 : rd (rd_L1 rows a) c = 0
                  · rw [if_pos c7] at H
                    have a5b : (rd (rd_L1 rows a) c == 0) = true := by rw [c7]; rfl
                    replace c7 := Aside0.mk c7
                    have H' := Aside0.mk H
                    clear H
                    go_wp2
                    go_roundg k2
                    case measure => have := HK1.out; have := HK2.out; omega
                    case rel => exact ⟨_, rfl, H', ⟨by have := HK2.out; omega⟩, E⟩
                  · rw [if_neg c7] at H
                    have a5b : (rd (rd_L1 rows a) c == 0) = false := beq_eq_false_iff_ne.mpr c7
                    replace c7 := Aside0.mk c7
                    obtain rfl := Option.some.inj H
                    clear H
                    have H := H1.out
                    clear H1
                    have ca : ¬ a = (rows.length : Int) := by have := KK.out.1; omega
                    rw [if_neg ca] at H
                    have a6b : (a == (n0 : Int)) = false := beq_eq_false_iff_ne.mpr (by have := hcnt.out.1; omega)
                    clear ca
                    by_cases c8 : a = c
                    · rw [if_pos c8] at H
                      have a8b : (a == c) = true := beq_iff_eq.mpr c8
                      have a8c : (a != c) = false := by rw [bne, a8b]; rfl
                      replace c8 := Aside0.mk c8
                      go_wp2
                      clear hx hy
                      replace H := Option.bind_eq_some_iff.mp H
                      obtain ⟨⟨rows2, out2⟩, At, H⟩ := H
                      have B2 := Aside0.mk At
                      clear At
                      have H' := Aside0.mk H
                      clear H
                      have J := B2.out
                      clear B2
                      dsimp only at H'
                      unfold impl_DeterminantOf.st at J
                      by_cases j1 : 0 ≤ c
                      case neg => rw [if_neg j1] at J; exact absurd J (by simp)
                      rw [if_pos j1] at J
                      by_cases j2 : c < (rows.length : Int)
                      case neg => rw [if_neg j2] at J; exact absurd J (by simp)
                      rw [if_pos j2] at J
                      by_cases js : rows.length ≤ 1048576
                      case neg => rw [if_neg js] at J; exact absurd J (by simp)
                      rw [if_pos js] at J
                      by_cases j3 : c < ((rd_L1 rows c).length : Int)
                      case neg => rw [if_neg j3] at J; exact absurd J (by simp)
                      rw [if_pos j3] at J
                      by_cases j4 : a0_0 = 0
                      case pos => rw [if_pos j4] at J; exact absurd J (by simp)
                      rw [if_neg j4] at J
                      replace J := Option.bind_eq_some_iff.mp J
                      obtain ⟨inv, At, J⟩ := J
                      have B3 := Aside0.mk At
                      clear At
                      replace J := Option.bind_eq_some_iff.mp J
                      obtain ⟨r, At, J⟩ := J
                      have B4 := Aside0.mk At
                      clear At
                      replace J := Option.bind_eq_some_iff.mp J
                      obtain ⟨rows3, At, J⟩ := J
                      have B5 := Aside0.mk At
                      clear At
                      obtain ⟨rfl, ho2⟩ := (by simpa using J : rows3 = rows2 ∧ Int.tmod (wrap64 (out * rd (rd_L1 rows c) c)) a0_0 = out2)
                      subst ho2
                      clear J
                      obtain ⟨un, hun, hrn⟩ := E.out.mx.rd_ c j1 j2
                      obtain ⟨b2, cb2, e, _, _, hxn⟩ := E.out.mx.get hun hrn c j1 j3
                      subst e
                      have HN := Aside0.mk (And.intro hun hrn)
                      clear hun hrn hxn
                      have hcn := Aside0.mk E.out.mx.count
                      have j1b : decide (0 ≤ c) = true := decide_eq_true j1
                      have j2b : decide (c < (n0 : Int)) = true := decide_eq_true (by have := hcn.out.1; omega)
                      have j2c := eq_true (show c < (n0 : Int) by have := hcn.out.1; omega)
                      have j3b : decide (c < ((rd_L1 rows c).length : Int)) = true := decide_eq_true j3
                      have j4b : (a0_0 == 0) = false := beq_eq_false_iff_ne.mpr j4
                      have JJ := Aside0.mk (And.intro j1 (And.intro j2 j3))
                      have JS := Aside0.mk js
                      clear js
                      replace j1 := eq_true j1
                      replace j3 := eq_true j3
                      replace j4 := eq_false j4
                      clear j2
                      (try go_wp2)
                      have E2 := Aside0.mk E.out.drew
                      clear E
                      refine start_ (n := 13) (S := fun w' => w'.cell? ⟨w.heap.size, 0, none⟩ = some (.int .i64 a0_0) ∧ w'.cell? ⟨g, c.toNat, none⟩ = some (.slice (some ⟨b2, 0, none⟩) (rd_L1 rows c).length cb2) ∧ w'.cell? ⟨b2, c.toNat, none⟩ = some (.int .i64 (rd (rd_L1 rows c) c))) (ds := []) #[false, false, false, false, false, false, false, false, false, false, false, false, false] (by kernel_rfl) rfl rfl ⟨(blk_cell (E2.out.box (b := w.heap.size) (o := .cells #[.int .i64 a0_0, .int .i64 a0_1, .slice A0_2 l0_2.length c0_2] 26 (0, 0)) (by simp)) 0).trans rfl, (E2.out.mx.cell HN.out.1).1, E2.out.mx.num HN.out.1 HN.out.2 c JJ.out.1 JJ.out.2.2⟩ (fun hHeld => ?_)
                      generalize wr.drew = w7 at E2 hHeld ⊢
                      refine pure_ (i := 0) (N := some 69) (v := ?_) (a' := ?_) #[true, false, false, false, false, false, false, false, false, false, false, false, false] rfl rfl (by kernel_rfl) (fun _ _ _ h => h) (Or.inl ⟨by rfl, ?_⟩) ?_ ?_
                      rotate_left
                      · intro w'
                        first | (go_simp; with_reducible rfl) | (simp [go_sem, Instr.field, asAgg] <;> with_reducible rfl)
                      rotate_left
                      · simp only [Act.put, List.setIfInBounds_toArray, List.set_cons_zero, List.set_cons_succ, i64_w, i32_w]
                        rfl
                      refine pure_ (i := 1) (N := some 70) (v := ?_) (a' := ?_) #[true, true, false, false, false, false, false, false, false, false, false, false, false] rfl rfl (by kernel_rfl) (fun _ _ _ h => h) (Or.inl ⟨by rfl, ?_⟩) ?_ ?_
                      rotate_left
                      · intro w'
                        first | (go_simp; with_reducible rfl) | (simp [go_sem, Instr.field, asAgg] <;> with_reducible rfl)
                      rotate_left
                      · simp only [Act.put, List.setIfInBounds_toArray, List.set_cons_zero, List.set_cons_succ, i64_w, i32_w]
                        rfl
                      refine pure_ (i := 2) (N := some 71) (v := ?_) (a' := ?_) #[true, true, true, false, false, false, false, false, false, false, false, false, false] rfl rfl (by kernel_rfl) (fun _ _ _ h => h) (Or.inl ⟨by rfl, ?_⟩) ?_ ?_
                      rotate_left
                      · intro w'
                        first | (go_simp; with_reducible rfl) | (simp [go_sem, Instr.field, asAgg] <;> with_reducible rfl)
                      rotate_left
                      · simp only [Act.put, List.setIfInBounds_toArray, List.set_cons_zero, List.set_cons_succ, i64_w, i32_w]
                        rfl
                      refine pure_ (i := 3) (N := some 72) (v := ?_) (a' := ?_) #[true, true, true, true, false, false, false, false, false, false, false, false, false] rfl rfl (by kernel_rfl) (fun _ _ _ h => h) (Or.inl ⟨by rfl, ?_⟩) ?_ ?_
                      rotate_left
                      · intro w'
                        first | (go_simp; with_reducible rfl) | (simp [go_sem, Instr.field, asAgg] <;> with_reducible rfl)
                      rotate_left
                      · simp only [Act.put, List.setIfInBounds_toArray, List.set_cons_zero, List.set_cons_succ, i64_w, i32_w]
                        rfl
                      refine pure_ (i := 5) (N := some 74) (v := ?_) (a' := ?_) #[true, true, true, true, false, true, false, false, false, false, false, false, false] rfl rfl (by kernel_rfl) (fun _ _ _ h => h) (Or.inl ⟨by rfl, ?_⟩) ?_ ?_
                      rotate_left
                      · intro w'
                        first | (go_simp; with_reducible rfl) | (simp [go_sem, Instr.field, asAgg] <;> with_reducible rfl)
                      rotate_left
                      · simp only [Act.put, List.setIfInBounds_toArray, List.set_cons_zero, List.set_cons_succ, i64_w, i32_w]
                        rfl
                      refine pure_ (i := 9) (N := some 78) (v := ?_) (a' := ?_) #[true, true, true, true, false, true, false, false, false, true, false, false, false] rfl rfl (by kernel_rfl) (fun _ _ _ h => h) (Or.inl ⟨by rfl, ?_⟩) ?_ ?_
                      rotate_left
                      · intro w'
                        first | (go_simp; with_reducible rfl) | (simp [go_sem, Instr.field, asAgg] <;> with_reducible rfl)
                      rotate_left
                      · simp only [Act.put, List.setIfInBounds_toArray, List.set_cons_zero, List.set_cons_succ, i64_w, i32_w]
                        rfl
                      refine take_ (i := 4) (N := some 73) (v := ?_) (a' := ?_) #[true, true, true, true, true, true, false, false, false, true, false, false, false] rfl rfl (by kernel_rfl) (fun _ _ _ h => h) (Or.inl ⟨by rfl, ?_⟩) hHeld ?_ ?_
                      rotate_left
                      · rintro w' ⟨s0, s1, s2⟩
                        go_simp
                        with_reducible rfl
                      rotate_left
                      · simp only [Act.put, List.setIfInBounds_toArray, List.set_cons_zero, List.set_cons_succ, i64_w, i32_w]
                        rfl
                      refine pure_ (i := 6) (N := some 75) (v := ?_) (a' := ?_) #[true, true, true, true, true, true, true, false, false, true, false, false, false] rfl rfl (by kernel_rfl) (fun _ _ _ h => h) (Or.inl ⟨by rfl, ?_⟩) ?_ ?_
                      rotate_left
                      · intro w'
                        first | (go_simp; with_reducible rfl) | (simp [go_sem, Instr.field, asAgg] <;> with_reducible rfl)
                      rotate_left
                      · simp only [Act.put, List.setIfInBounds_toArray, List.set_cons_zero, List.set_cons_succ, i64_w, i32_w]
                        rfl
                      refine take_ (i := 7) (N := some 76) (v := ?_) (a' := ?_) #[true, true, true, true, true, true, true, true, false, true, false, false, false] rfl rfl (by kernel_rfl) (fun _ _ _ h => h) (Or.inl ⟨by rfl, ?_⟩) hHeld ?_ ?_
                      rotate_left
                      · rintro w' ⟨s0, s1, s2⟩
                        go_simp
                        with_reducible rfl
                      rotate_left
                      · simp only [Act.put, List.setIfInBounds_toArray, List.set_cons_zero, List.set_cons_succ, i64_w, i32_w]
                        rfl
                      refine pure_ (i := 8) (N := some 77) (v := ?_) (a' := ?_) #[true, true, true, true, true, true, true, true, true, true, false, false, false] rfl rfl (by kernel_rfl) (fun _ _ _ h => h) (Or.inl ⟨by rfl, ?_⟩) ?_ ?_
                      rotate_left
                      · intro w'
                        first | (go_simp; with_reducible rfl) | (simp [go_sem, Instr.field, asAgg] <;> with_reducible rfl)
                      rotate_left
                      · simp only [Act.put, List.setIfInBounds_toArray, List.set_cons_zero, List.set_cons_succ, i64_w, i32_w]
                        rfl
                      refine take_ (i := 10) (N := some 79) (v := ?_) (a' := ?_) #[true, true, true, true, true, true, true, true, true, true, true, false, false] rfl rfl (by kernel_rfl) (fun _ _ _ h => h) (Or.inl ⟨by rfl, ?_⟩) hHeld ?_ ?_
                      rotate_left
                      · rintro w' ⟨s0, s1, s2⟩
                        go_simp
                        with_reducible rfl
                      rotate_left
                      · simp only [Act.put, List.setIfInBounds_toArray, List.set_cons_zero, List.set_cons_succ, i64_w, i32_w]
                        rfl
                      refine pure_ (i := 11) (N := some 80) (v := ?_) (a' := ?_) #[true, true, true, true, true, true, true, true, true, true, true, true, false] rfl rfl (by kernel_rfl) (fun _ _ _ h => h) (Or.inl ⟨by rfl, ?_⟩) ?_ ?_
                      rotate_left
                      · intro w'
                        first | (go_simp; with_reducible rfl) | (simp [go_sem, Instr.field, asAgg] <;> with_reducible rfl)
                      rotate_left
                      · simp only [Act.put, List.setIfInBounds_toArray, List.set_cons_zero, List.set_cons_succ, i64_w, i32_w]
                        rfl
                      refine pure_ (i := 12) (N := some 5) (v := ?_) (a' := ?_) #[true, true, true, true, true, true, true, true, true, true, true, true, true] rfl rfl (by kernel_rfl) (fun _ _ _ h => h) (Or.inl ⟨by rfl, ?_⟩) ?_ ?_
                      rotate_left
                      · intro w'
                        first | (go_simp; with_reducible rfl) | (simp [go_sem, Instr.field, asAgg] <;> with_reducible rfl)
                      rotate_left
                      · simp only [Act.put, List.setIfInBounds_toArray, List.set_cons_zero, List.set_cons_succ, i64_w, i32_w]
                        rfl
                      refine done_ (by kernel_rfl) ?_
                      clear hHeld
                      (try go_wp2)
                      have E3 := Aside0.mk E2.out.drew
                      clear E2
                      refine start_ (n := 17) (S := fun w' => w'.cell? ⟨w.heap.size, 0, none⟩ = some (.int .i64 a0_0) ∧ w'.cell? ⟨g, c.toNat, none⟩ = some (.slice (some ⟨b2, 0, none⟩) (rd_L1 rows c).length cb2) ∧ w'.cell? ⟨b2, c.toNat, none⟩ = some (.int .i64 (rd (rd_L1 rows c) c))) (ds := [16]) #[false, false, false, false, false, false, false, false, false, false, false, false, false, false, false, false, false] (by kernel_rfl) rfl rfl ⟨(blk_cell (E3.out.box (b := w.heap.size) (o := .cells #[.int .i64 a0_0, .int .i64 a0_1, .slice A0_2 l0_2.length c0_2] 26 (0, 0)) (by simp)) 0).trans rfl, (E3.out.mx.cell HN.out.1).1, E3.out.mx.num HN.out.1 HN.out.2 c JJ.out.1 JJ.out.2.2⟩ (fun hHeld => ?_)
                      generalize w7.drew = w8 at E3 hHeld ⊢
                      refine pure_ (i := 0) (N := some 81) (v := ?_) (a' := ?_) #[true, false, false, false, false, false, false, false, false, false, false, false, false, false, false, false, false] rfl rfl (by kernel_rfl) (fun _ _ _ h => h) (Or.inl ⟨by rfl, ?_⟩) ?_ ?_
                      rotate_left
                      · intro w'
                        first | (go_simp; with_reducible rfl) | (simp [go_sem, Instr.field, asAgg] <;> with_reducible rfl)
                      rotate_left
                      · simp only [Act.put, List.setIfInBounds_toArray, List.set_cons_zero, List.set_cons_succ, i64_w, i32_w]
                        rfl
                      refine pure_ (i := 2) (N := some 83) (v := ?_) (a' := ?_) #[true, false, true, false, false, false, false, false, false, false, false, false, false, false, false, false, false] rfl rfl (by kernel_rfl) (fun _ _ _ h => h) (Or.inl ⟨by rfl, ?_⟩) ?_ ?_
                      rotate_left
                      · intro w'
                        first | (go_simp; with_reducible rfl) | (simp [go_sem, Instr.field, asAgg] <;> with_reducible rfl)
                      rotate_left
                      · simp only [Act.put, List.setIfInBounds_toArray, List.set_cons_zero, List.set_cons_succ, i64_w, i32_w]
                        rfl
                      refine pure_ (i := 3) (N := some 84) (v := ?_) (a' := ?_) #[true, false, true, true, false, false, false, false, false, false, false, false, false, false, false, false, false] rfl rfl (by kernel_rfl) (fun _ _ _ h => h) (Or.inl ⟨by rfl, ?_⟩) ?_ ?_
                      rotate_left
                      · intro w'
                        first | (go_simp; with_reducible rfl) | (simp [go_sem, Instr.field, asAgg] <;> with_reducible rfl)
                      rotate_left
                      · simp only [Act.put, List.setIfInBounds_toArray, List.set_cons_zero, List.set_cons_succ, i64_w, i32_w]
                        rfl
                      refine pure_ (i := 4) (N := some 85) (v := ?_) (a' := ?_) #[true, false, true, true, true, false, false, false, false, false, false, false, false, false, false, false, false] rfl rfl (by kernel_rfl) (fun _ _ _ h => h) (Or.inl ⟨by rfl, ?_⟩) ?_ ?_
                      rotate_left
                      · intro w'
                        first | (go_simp; with_reducible rfl) | (simp [go_sem, Instr.field, asAgg] <;> with_reducible rfl)
                      rotate_left
                      · simp only [Act.put, List.setIfInBounds_toArray, List.set_cons_zero, List.set_cons_succ, i64_w, i32_w]
                        rfl
                      refine pure_ (i := 6) (N := some 87) (v := ?_) (a' := ?_) #[true, false, true, true, true, false, true, false, false, false, false, false, false, false, false, false, false] rfl rfl (by kernel_rfl) (fun _ _ _ h => h) (Or.inl ⟨by rfl, ?_⟩) ?_ ?_
                      rotate_left
                      · intro w'
                        first | (go_simp; with_reducible rfl) | (simp [go_sem, Instr.field, asAgg] <;> with_reducible rfl)
                      rotate_left
                      · simp only [Act.put, List.setIfInBounds_toArray, List.set_cons_zero, List.set_cons_succ, i64_w, i32_w]
                        rfl
                      refine pure_ (i := 8) (N := some 89) (v := ?_) (a' := ?_) #[true, false, true, true, true, false, true, false, true, false, false, false, false, false, false, false, false] rfl rfl (by kernel_rfl) (fun _ _ _ h => h) (Or.inl ⟨by rfl, ?_⟩) ?_ ?_
                      rotate_left
                      · intro w'
                        first | (go_simp; with_reducible rfl) | (simp [go_sem, Instr.field, asAgg] <;> with_reducible rfl)
                      rotate_left
                      · simp only [Act.put, List.setIfInBounds_toArray, List.set_cons_zero, List.set_cons_succ, i64_w, i32_w]
                        rfl
                      refine pure_ (i := 9) (N := some 90) (v := ?_) (a' := ?_) #[true, false, true, true, true, false, true, false, true, true, false, false, false, false, false, false, false] rfl rfl (by kernel_rfl) (fun _ _ _ h => h) (Or.inl ⟨by rfl, ?_⟩) ?_ ?_
                      rotate_left
                      · intro w'
                        first | (go_simp; with_reducible rfl) | (simp [go_sem, Instr.field, asAgg] <;> with_reducible rfl)
                      rotate_left
                      · simp only [Act.put, List.setIfInBounds_toArray, List.set_cons_zero, List.set_cons_succ, i64_w, i32_w]
                        rfl
                      refine pure_ (i := 10) (N := some 91) (v := ?_) (a' := ?_) #[true, false, true, true, true, false, true, false, true, true, true, false, false, false, false, false, false] rfl rfl (by kernel_rfl) (fun _ _ _ h => h) (Or.inl ⟨by rfl, ?_⟩) ?_ ?_
                      rotate_left
                      · intro w'
                        first | (go_simp; with_reducible rfl) | (simp [go_sem, Instr.field, asAgg] <;> with_reducible rfl)
                      rotate_left
                      · simp only [Act.put, List.setIfInBounds_toArray, List.set_cons_zero, List.set_cons_succ, i64_w, i32_w]
                        rfl
                      refine pure_ (i := 12) (N := some 93) (v := ?_) (a' := ?_) #[true, false, true, true, true, false, true, false, true, true, true, false, true, false, false, false, false] rfl rfl (by kernel_rfl) (fun _ _ _ h => h) (Or.inl ⟨by rfl, ?_⟩) ?_ ?_
                      rotate_left
                      · intro w'
                        first | (go_simp; with_reducible rfl) | (simp [go_sem, Instr.field, asAgg] <;> with_reducible rfl)
                      rotate_left
                      · simp only [Act.put, List.setIfInBounds_toArray, List.set_cons_zero, List.set_cons_succ, i64_w, i32_w]
                        rfl
                      refine take_ (i := 1) (N := some 82) (v := ?_) (a' := ?_) #[true, true, true, true, true, false, true, false, true, true, true, false, true, false, false, false, false] rfl rfl (by kernel_rfl) (fun _ _ _ h => h) (Or.inl ⟨by rfl, ?_⟩) hHeld ?_ ?_
                      rotate_left
                      · rintro w' ⟨s0, s1, s2⟩
                        go_simp
                        with_reducible rfl
                      rotate_left
                      · simp only [Act.put, List.setIfInBounds_toArray, List.set_cons_zero, List.set_cons_succ, i64_w, i32_w]
                        rfl
                      refine take_ (i := 5) (N := some 86) (v := ?_) (a' := ?_) #[true, true, true, true, true, true, true, false, true, true, true, false, true, false, false, false, false] rfl rfl (by kernel_rfl) (fun _ _ _ h => h) (Or.inl ⟨by rfl, ?_⟩) hHeld ?_ ?_
                      rotate_left
                      · rintro w' ⟨s0, s1, s2⟩
                        go_simp
                        with_reducible rfl
                      rotate_left
                      · simp only [Act.put, List.setIfInBounds_toArray, List.set_cons_zero, List.set_cons_succ, i64_w, i32_w]
                        rfl
                      refine take_ (i := 7) (N := some 88) (v := ?_) (a' := ?_) #[true, true, true, true, true, true, true, true, true, true, true, false, true, false, false, false, false] rfl rfl (by kernel_rfl) (fun _ _ _ h => h) (Or.inl ⟨by rfl, ?_⟩) hHeld ?_ ?_
                      rotate_left
                      · rintro w' ⟨s0, s1, s2⟩
                        go_simp
                        with_reducible rfl
                      rotate_left
                      · simp only [Act.put, List.setIfInBounds_toArray, List.set_cons_zero, List.set_cons_succ, i64_w, i32_w]
                        rfl
                      refine take_ (i := 11) (N := some 92) (v := ?_) (a' := ?_) #[true, true, true, true, true, true, true, true, true, true, true, true, true, false, false, false, false] rfl rfl (by kernel_rfl) (fun _ _ _ h => h) (Or.inl ⟨by rfl, ?_⟩) hHeld ?_ ?_
                      rotate_left
                      · rintro w' ⟨s0, s1, s2⟩
                        go_simp
                        with_reducible rfl
                      rotate_left
                      · simp only [Act.put, List.setIfInBounds_toArray, List.set_cons_zero, List.set_cons_succ, i64_w, i32_w]
                        rfl
                      refine pure_ (i := 13) (N := some 94) (v := ?_) (a' := ?_) #[true, true, true, true, true, true, true, true, true, true, true, true, true, true, false, false, false] rfl rfl (by kernel_rfl) (fun _ _ _ h => h) (Or.inl ⟨by rfl, ?_⟩) ?_ ?_
                      rotate_left
                      · intro w'
                        first | (go_simp; with_reducible rfl) | (simp [go_sem, Instr.field, asAgg] <;> with_reducible rfl)
                      rotate_left
                      · simp only [Act.put, List.setIfInBounds_toArray, List.set_cons_zero, List.set_cons_succ, i64_w, i32_w]
                        rfl
                      refine take_ (i := 14) (N := some 95) (v := ?_) (a' := ?_) #[true, true, true, true, true, true, true, true, true, true, true, true, true, true, true, false, false] rfl rfl (by kernel_rfl) (fun _ _ _ h => h) (Or.inl ⟨by rfl, ?_⟩) hHeld ?_ ?_
                      rotate_left
                      · rintro w' ⟨s0, s1, s2⟩
                        go_simp
                        with_reducible rfl
                      rotate_left
                      · simp only [Act.put, List.setIfInBounds_toArray, List.set_cons_zero, List.set_cons_succ, i64_w, i32_w]
                        rfl
                      refine one_ (i := 15) (N := some 96) #[true, true, true, true, true, true, true, true, true, true, true, true, true, true, true, true, false] rfl rfl (by kernel_rfl) (by decide) (fun K hK => ?_)
                      refine goes_ Try.func70 (by kernel_rfl) rfl #[.int .i64 a0_0, .int .i64 (rd (rd_L1 rows c) c)] (by rfl) rfl rfl (by simp only [List.map_toArray, List.map_cons, List.map_nil]; rfl) ?_
                      with_reducible refine (impl_inverse.calls k1 a0_0 (rd (rd_L1 rows c) c) inv _ B3.out).mono ?_
                      rintro e w9 ⟨rfl, hd⟩
                      refine ⟨_, rfl, ?_⟩
                      have E4 := Aside0.mk (E3.out.below hd.below)
                      clear E3 hd
                      refine hK.out _ _ ⟨(blk_cell (E4.out.box (b := w.heap.size) (o := .cells #[.int .i64 a0_0, .int .i64 a0_1, .slice A0_2 l0_2.length c0_2] 26 (0, 0)) (by simp)) 0).trans rfl, (E4.out.mx.cell HN.out.1).1, E4.out.mx.num HN.out.1 HN.out.2 c JJ.out.1 JJ.out.2.2⟩ (fun hHeld => ?_)
                      clear hK K
                      refine norm_ (a' := ?_) ?_ ?_
                      rotate_left
                      · show Act.put _ (some 96) _ = _
                        simp only [Act.put, List.setIfInBounds_toArray, List.set_cons_zero, List.set_cons_succ, i64_w, i32_w]
                        rfl
                      refine last_ (i := 16) (N := some 97) #[true, true, true, true, true, true, true, true, true, true, true, true, true, true, true, true, true] rfl rfl (by kernel_rfl) (by decide) (fun K hK => ?_)
                      refine goes_ Try.func69 (by kernel_rfl) rfl #[.int .i64 a0_0, (.slice (some ⟨b2, 0, none⟩) (rd_L1 rows c).length cb2), .int .i64 inv] (by rfl) rfl rfl (by simp only [List.map_toArray, List.map_cons, List.map_nil]; rfl) ?_
                      with_reducible refine (impl_scaled.calls k1 a0_0 (fun k_ => some k_ = ((.slice (some ⟨b2, 0, none⟩) (rd_L1 rows c).length cb2) : Value).ownBlock ∧ w.heap.size + 1 ≤ k_ ∧ k_ < hi) (.slice (some ⟨b2, 0, none⟩) (rd_L1 rows c).length cb2) (rd_L1 rows c) inv r w _ E4.out.be (E4.out.mx.row _ _ _ HN.out.1 HN.out.2) B4.out).mono ?_
                      rintro e w10 ⟨rfl, hR, hBw, hK⟩
                      refine ⟨_, rfl, ?_⟩
                      have E5 := Aside0.mk (E4.out.put HN.out.1 HN.out.2 hR hK hBw)
                      clear E4 hR hBw hK
                      refine hK.out _ _ ?_
                      clear hK K
                      refine norm_ (a' := ?_) ?_ ?_
                      rotate_left
                      · show Act.put _ (some 97) _ = _
                        simp only [Act.put, List.setIfInBounds_toArray, List.set_cons_zero, List.set_cons_succ, i64_w, i32_w]
                        rfl
                      refine done_ (by kernel_rfl) ?_
                      clear hHeld
                      have hct5 := Aside0.mk E5.out.mx.count
                      have hw1 : wrap64 (c + 1) = c + 1 := by have := JJ.out.1; have := JJ.out.2.1; have := JS.out; unfold wrap64; omega
                      obtain ⟨i0_, hi0_, _, hsz_, _⟩ := info_parts info35
                      obtain ⟨AS, CS, hcut0, hAS⟩ := impl_DeterminantOf.cut (P := Try.prog) 22 35 Try.underlying22 hi0_ hsz_ g n0 c1 (c + 1) (by have := JJ.out.1; omega) (by have := JJ.out.2.1; have := hcn.out.1; omega) hcn.out.2
                      have HAS := Aside0.mk hAS
                      clear hAS hi0_ hsz_
                      have hcut : ∀ W : World, (Instr.slice 22 (.slice (some ⟨g, 0, none⟩) n0 c1) (some (.int .i64 (wrap64 (c + 1)))) none none).run Try.prog W = .ok (.slice AS (n0 - (c + 1).toNat) CS) W := by rw [hw1]; exact hcut0
                      clear hcut0 hw1
                      (try go_wp2)
                      clear hcut
                      generalize rows.set c.toNat r = rz at E5 B5
                      go_loopg [103] k1 (fun kq v103 w' => ∃ (i : Int) (rx : List (List Int)), v103 = .int .i64 i ∧ Aside0 (impl_DeterminantOf.l2 kq a0_0 c rx i = some rows3) ∧ Aside0 (kq ≤ k1) ∧ Aside0 (Mw w w' (w.heap.size + 1) hi hi ([(w.heap.size, .cells #[.int .i64 a0_0, .int .i64 a0_1, .slice A0_2 l0_2.length c0_2] 26 (0, 0))]) (.slice (some ⟨g, 0, none⟩) n0 c1) vs rx))
                      case atStart => exact ⟨0, rz, rfl, B5, ⟨Nat.le_refl _⟩, E5⟩
                      case round =>
                        clear B5 E5
                        obtain ⟨i, rx, rfl, HA, HK3, E⟩ := hrel
                        have hct := Aside0.mk E.out.mx.count
                        cases gk with
                        | zero => exact absurd HA.out (by simp [impl_DeterminantOf.l2])
                        | succ k3 =>
                          have H := HA.out
                          clear HA
                          simp only [impl_DeterminantOf.l2] at H
                          by_cases d1 : i < (rx.length : Int) - (c + 1)
                          · rw [if_pos d1] at H
                            by_cases d2 : 0 ≤ i
                            case neg => rw [if_neg d2] at H; exact absurd H (by simp)
                            rw [if_pos d2] at H
                            by_cases d6 : c < ((rd_L1 rx (c + 1 + i)).length : Int)
                            case neg => rw [if_neg d6] at H; exact absurd H (by simp)
                            rw [if_pos d6] at H
                            replace H := Option.bind_eq_some_iff.mp H
                            obtain ⟨q, At, H⟩ := H
                            have B6 := Aside0.mk At
                            clear At
                            have H' := Aside0.mk H
                            clear H
                            have hj0 := JJ.out.1
                            obtain ⟨u, hu, hr⟩ := E.out.mx.rd_ (c + 1 + i) (by omega) (by omega)
                            obtain ⟨bu, cu, e, _, _, _⟩ := E.out.mx.get hu hr c hj0 d6
                            subst e
                            obtain ⟨un, hun, hrn⟩ := E.out.mx.rd_ c hj0 (by omega)
                            obtain ⟨Am, cm, em, hcm, _⟩ := E.out.mx.rslice hun hrn
                            subst em
                            have HU := Aside0.mk (And.intro hu hr)
                            have HM := Aside0.mk (And.intro hun (And.intro hrn hcm))
                            have hidx : (c + 1 + i).toNat = (c + 1).toNat + i.toNat := by omega
                            have hy := (E.out.mx.cell hu).1
                            rw [hidx] at hy
                            have has := HAS.out (by have := hct.out.1; omega)
                            subst has
                            have d1b : decide (i < ((n0 - (c + 1).toNat : Nat) : Int)) = true := decide_eq_true (by have := hct.out.1; omega)
                            have d1c := eq_true (show i < ((n0 - (c + 1).toNat : Nat) : Int) by have := hct.out.1; omega)
                            have d2b : decide (0 ≤ i) = true := decide_eq_true d2
                            have d6b : decide (c < ((rd_L1 rx (c + 1 + i)).length : Int)) = true := decide_eq_true d6
                            have DD := Aside0.mk (And.intro d1 (And.intro d2 d6))
                            replace d2 := eq_true d2
                            replace d6 := eq_true d6
                            clear hu hr hun hrn hcm d1 hj0 hidx
                            go_wp2
                            have E6 := Aside0.mk E.out.drew
                            clear E hy
                            refine start_ (n := 12) (S := fun w' => w'.cell? ⟨w.heap.size, 0, none⟩ = some (.int .i64 a0_0) ∧ w'.cell? ⟨g, c.toNat, none⟩ = some (.slice Am (rd_L1 rx c).length cm) ∧ w'.cell? ⟨bu, c.toNat, none⟩ = some (.int .i64 (rd (rd_L1 rx (c + 1 + i)) c))) (ds := [11]) #[false, false, false, false, false, false, false, false, false, false, false, false] (by kernel_rfl) rfl rfl ⟨(blk_cell (E6.out.box (b := w.heap.size) (o := .cells #[.int .i64 a0_0, .int .i64 a0_1, .slice A0_2 l0_2.length c0_2] 26 (0, 0)) (by simp)) 0).trans rfl, (E6.out.mx.cell HM.out.1).1, E6.out.mx.num HU.out.1 HU.out.2 c JJ.out.1 DD.out.2.2⟩ (fun hHeld => ?_)
                            generalize wr.drew = w11 at E6 hHeld ⊢
                            refine pure_ (i := 0) (N := some 107) (v := ?_) (a' := ?_) #[true, false, false, false, false, false, false, false, false, false, false, false] rfl rfl (by kernel_rfl) (fun _ _ _ h => h) (Or.inl ⟨by rfl, ?_⟩) ?_ ?_
                            rotate_left
                            · intro w'
                              first | (go_simp; with_reducible rfl) | (simp [go_sem, Instr.field, asAgg] <;> with_reducible rfl)
                            rotate_left
                            · simp only [Act.put, List.setIfInBounds_toArray, List.set_cons_zero, List.set_cons_succ, i64_w, i32_w]
                              rfl
                            refine pure_ (i := 2) (N := some 109) (v := ?_) (a' := ?_) #[true, false, true, false, false, false, false, false, false, false, false, false] rfl rfl (by kernel_rfl) (fun _ _ _ h => h) (Or.inl ⟨by rfl, ?_⟩) ?_ ?_
                            rotate_left
                            · intro w'
                              first | (go_simp; with_reducible rfl) | (simp [go_sem, Instr.field, asAgg] <;> with_reducible rfl)
                            rotate_left
                            · simp only [Act.put, List.setIfInBounds_toArray, List.set_cons_zero, List.set_cons_succ, i64_w, i32_w]
                              rfl
                            refine pure_ (i := 3) (N := some 110) (v := ?_) (a' := ?_) #[true, false, true, true, false, false, false, false, false, false, false, false] rfl rfl (by kernel_rfl) (fun _ _ _ h => h) (Or.inl ⟨by rfl, ?_⟩) ?_ ?_
                            rotate_left
                            · intro w'
                              first | (go_simp; with_reducible rfl) | (simp [go_sem, Instr.field, asAgg] <;> with_reducible rfl)
                            rotate_left
                            · simp only [Act.put, List.setIfInBounds_toArray, List.set_cons_zero, List.set_cons_succ, i64_w, i32_w]
                              rfl
                            refine pure_ (i := 4) (N := some 111) (v := ?_) (a' := ?_) #[true, false, true, true, true, false, false, false, false, false, false, false] rfl rfl (by kernel_rfl) (fun _ _ _ h => h) (Or.inl ⟨by rfl, ?_⟩) ?_ ?_
                            rotate_left
                            · intro w'
                              first | (go_simp; with_reducible rfl) | (simp [go_sem, Instr.field, asAgg] <;> with_reducible rfl)
                            rotate_left
                            · simp only [Act.put, List.setIfInBounds_toArray, List.set_cons_zero, List.set_cons_succ, i64_w, i32_w]
                              rfl
                            refine pure_ (i := 5) (N := some 112) (v := ?_) (a' := ?_) #[true, false, true, true, true, true, false, false, false, false, false, false] rfl rfl (by kernel_rfl) (fun _ _ _ h => h) (Or.inl ⟨by rfl, ?_⟩) ?_ ?_
                            rotate_left
                            · intro w'
                              first | (go_simp; with_reducible rfl) | (simp [go_sem, Instr.field, asAgg] <;> with_reducible rfl)
                            rotate_left
                            · simp only [Act.put, List.setIfInBounds_toArray, List.set_cons_zero, List.set_cons_succ, i64_w, i32_w]
                              rfl
                            refine pure_ (i := 7) (N := some 114) (v := ?_) (a' := ?_) #[true, false, true, true, true, true, false, true, false, false, false, false] rfl rfl (by kernel_rfl) (fun _ _ _ h => h) (Or.inl ⟨by rfl, ?_⟩) ?_ ?_
                            rotate_left
                            · intro w'
                              first | (go_simp; with_reducible rfl) | (simp [go_sem, Instr.field, asAgg] <;> with_reducible rfl)
                            rotate_left
                            · simp only [Act.put, List.setIfInBounds_toArray, List.set_cons_zero, List.set_cons_succ, i64_w, i32_w]
                              rfl
                            refine pure_ (i := 8) (N := some 115) (v := ?_) (a' := ?_) #[true, false, true, true, true, true, false, true, true, false, false, false] rfl rfl (by kernel_rfl) (fun _ _ _ h => h) (Or.inl ⟨by rfl, ?_⟩) ?_ ?_
                            rotate_left
                            · intro w'
                              first | (go_simp; with_reducible rfl) | (simp [go_sem, Instr.field, asAgg] <;> with_reducible rfl)
                            rotate_left
                            · simp only [Act.put, List.setIfInBounds_toArray, List.set_cons_zero, List.set_cons_succ, i64_w, i32_w]
                              rfl
                            refine pure_ (i := 9) (N := some 116) (v := ?_) (a' := ?_) #[true, false, true, true, true, true, false, true, true, true, false, false] rfl rfl (by kernel_rfl) (fun _ _ _ h => h) (Or.inl ⟨by rfl, ?_⟩) ?_ ?_
                            rotate_left
                            · intro w'
                              first | (go_simp; with_reducible rfl) | (simp [go_sem, Instr.field, asAgg] <;> with_reducible rfl)
                            rotate_left
                            · simp only [Act.put, List.setIfInBounds_toArray, List.set_cons_zero, List.set_cons_succ, i64_w, i32_w]
                              rfl
                            refine take_ (i := 1) (N := some 108) (v := ?_) (a' := ?_) #[true, true, true, true, true, true, false, true, true, true, false, false] rfl rfl (by kernel_rfl) (fun _ _ _ h => h) (Or.inl ⟨by rfl, ?_⟩) hHeld ?_ ?_
                            rotate_left
                            · rintro w' ⟨s0, s1, s2⟩
                              go_simp
                              with_reducible rfl
                            rotate_left
                            · simp only [Act.put, List.setIfInBounds_toArray, List.set_cons_zero, List.set_cons_succ, i64_w, i32_w]
                              rfl
                            refine take_ (i := 6) (N := some 113) (v := ?_) (a' := ?_) #[true, true, true, true, true, true, true, true, true, true, false, false] rfl rfl (by kernel_rfl) (fun _ _ _ h => h) (Or.inl ⟨by rfl, ?_⟩) hHeld ?_ ?_
                            rotate_left
                            · rintro w' ⟨s0, s1, s2⟩
                              go_simp
                              with_reducible rfl
                            rotate_left
                            · simp only [Act.put, List.setIfInBounds_toArray, List.set_cons_zero, List.set_cons_succ, i64_w, i32_w]
                              rfl
                            refine take_ (i := 10) (N := some 117) (v := ?_) (a' := ?_) #[true, true, true, true, true, true, true, true, true, true, true, false] rfl rfl (by kernel_rfl) (fun _ _ _ h => h) (Or.inl ⟨by rfl, ?_⟩) hHeld ?_ ?_
                            rotate_left
                            · rintro w' ⟨s0, s1, s2⟩
                              go_simp
                              with_reducible rfl
                            rotate_left
                            · simp only [Act.put, List.setIfInBounds_toArray, List.set_cons_zero, List.set_cons_succ, i64_w, i32_w]
                              rfl
                            refine last_ (i := 11) (N := some 118) #[true, true, true, true, true, true, true, true, true, true, true, true] rfl rfl (by kernel_rfl) (by decide) (fun K hK => ?_)
                            refine goes_ Try.func71 (by kernel_rfl) rfl #[.int .i64 a0_0, (.slice (some ⟨bu, 0, none⟩) (rd_L1 rx (c + 1 + i)).length cu), (.slice Am (rd_L1 rx c).length cm), .int .i64 (rd (rd_L1 rx (c + 1 + i)) c)] (by rfl) rfl rfl (by simp only [List.map_toArray, List.map_cons, List.map_nil]; rfl) ?_
                            with_reducible refine (impl_takeOff.calls k3 a0_0 (fun k_ => some k_ = ((.slice (some ⟨bu, 0, none⟩) (rd_L1 rx (c + 1 + i)).length cu) : Value).ownBlock ∧ w.heap.size + 1 ≤ k_ ∧ k_ < hi) (.slice (some ⟨bu, 0, none⟩) (rd_L1 rx (c + 1 + i)).length cu) (rd_L1 rx (c + 1 + i)) Am cm (rd_L1 rx c) (rd (rd_L1 rx (c + 1 + i)) c) q w _ E6.out.be (E6.out.mx.row _ _ _ HU.out.1 HU.out.2) (E6.out.mx.other (by have := DD.out; have := JJ.out.1; omega) HU.out.1 HM.out.1 HM.out.2.1) HM.out.2.2 B6.out).mono ?_
                            rintro e w12 ⟨rfl, hR, hBw, hK⟩
                            refine ⟨_, rfl, ?_⟩
                            have E7 := Aside0.mk (E6.out.put HU.out.1 HU.out.2 hR hK hBw)
                            clear E6 hR hBw hK
                            refine hK.out _ _ ?_
                            clear hK K
                            refine norm_ (a' := ?_) ?_ ?_
                            rotate_left
                            · show Act.put _ (some 118) _ = _
                              simp only [Act.put, List.setIfInBounds_toArray, List.set_cons_zero, List.set_cons_succ, i64_w, i32_w]
                              rfl
                            refine done_ (by kernel_rfl) ?_
                            clear hHeld
                            (try go_wp2)
                            go_roundg k3
                            case measure => have := HK1.out; have := HK2.out; have := HK3.out; omega
                            case rel => exact ⟨_, _, rfl, H', ⟨by have := HK3.out; omega⟩, E7⟩
                          · rw [if_neg d1] at H
                            obtain rfl := Option.some.inj H
                            clear H
                            have d1b : decide (i < ((n0 - (c + 1).toNat : Nat) : Int)) = false := decide_eq_false (by have := hct.out.1; have := JJ.out; have := hcn.out.1; omega)
                            replace d1 := Aside0.mk d1
                            go_wp2
                            go_roundg k1
                            case measure => have := HK1.out; have := HK2.out; have := HK3.out; omega
                            case rel => exact ⟨_, _, _, vs, rfl, rfl, H', ⟨by have := HK1.out; omega⟩, E⟩
                    · rw [if_neg c8, if_pos KK.out.2.1, if_pos KK.out.1, if_pos KK.out.2.2.1] at H
                      by_cases c10 : c < (rows.length : Int)
                      case neg => rw [if_neg c10] at H; exact absurd H (by simp)
                      rw [if_pos c10] at H
                      by_cases c11 : a0_0 = 0
                      case pos => rw [if_pos c11] at H; exact absurd H (by simp)
                      rw [if_neg c11] at H
                      have a8b : (a == c) = false := beq_eq_false_iff_ne.mpr c8
                      have a8c : (a != c) = true := bne_iff_ne.mpr c8
                      have a9b : (a0_0 == 0) = false := beq_eq_false_iff_ne.mpr c11
                      replace c8 := Aside0.mk c8
                      replace c11 := eq_false c11
                      obtain ⟨un, hun, hrn⟩ := E.out.mx.rd_ c KK.out.2.2.1 c10
                      obtain ⟨An, cn, en, _, _⟩ := E.out.mx.rslice hun hrn
                      subst en
                      have HN := Aside0.mk (And.intro hun hrn)
                      have a10b : decide (c < (n0 : Int)) = true := decide_eq_true (by have := hcnt.out.1; omega)
                      have a10c := eq_true (show c < (n0 : Int) by have := hcnt.out.1; omega)
                      have a10d := eq_true (show c.toNat < n0 by have := hcnt.out.1; have := KK.out.2.2.1; omega)
                      have C10 := Aside0.mk c10
                      clear hun hrn c10
                      go_wp2
                      clear hx hy
                      have E1 := Aside0.mk E.out.drew
                      clear E
                      refine start_ (n := 16) (S := fun w' => w'.cell? ⟨g, c.toNat, none⟩ = some (.slice An (rd_L1 rows c).length cn) ∧ w'.cell? ⟨g, a.toNat, none⟩ = some (.slice (some ⟨b, 0, none⟩) (rd_L1 rows a).length cb)) (ds := [13, 15]) #[false, false, false, false, false, false, false, false, false, false, false, false, false, false, false, false] (by kernel_rfl) rfl rfl ⟨(E1.out.mx.cell HN.out.1).1, (E1.out.mx.cell HUR.out.1).1⟩ (fun hHeld => ?_)
                      generalize wr.drew = w5 at E1 hHeld ⊢
                      obtain ⟨hs1, hs2⟩ := E1.out.mx.cell HUR.out.1
                      obtain ⟨vb, hs3⟩ := cell?_setCell_some (w := w5) (p := ⟨g, a.toNat, none⟩) (x := (.slice An (rd_L1 rows c).length cn)) (q := ⟨g, c.toNat, none⟩) (E1.out.mx.cell HN.out.1).1
                      have hs4 : (w5.setCell ⟨g, a.toNat, none⟩ (.slice An (rd_L1 rows c).length cn)).frozen? ⟨g, c.toNat, none⟩ = false := (frozen_set _ _ _ _).trans (E1.out.mx.cell HN.out.1).2
                      refine pure_ (i := 0) (N := some 48) (v := ?_) (a' := ?_) #[true, false, false, false, false, false, false, false, false, false, false, false, false, false, false, false] rfl rfl (by kernel_rfl) (fun _ _ _ h => h) (Or.inl ⟨by rfl, ?_⟩) ?_ ?_
                      rotate_left
                      · intro w'
                        first | (go_simp; with_reducible rfl) | (simp [go_sem, Instr.field, asAgg] <;> with_reducible rfl)
                      rotate_left
                      · simp only [Act.put, List.setIfInBounds_toArray, List.set_cons_zero, List.set_cons_succ, i64_w, i32_w]
                        rfl
                      refine pure_ (i := 1) (N := some 49) (v := ?_) (a' := ?_) #[true, true, false, false, false, false, false, false, false, false, false, false, false, false, false, false] rfl rfl (by kernel_rfl) (fun _ _ _ h => h) (Or.inl ⟨by rfl, ?_⟩) ?_ ?_
                      rotate_left
                      · intro w'
                        first | (go_simp; with_reducible rfl) | (simp [go_sem, Instr.field, asAgg] <;> with_reducible rfl)
                      rotate_left
                      · simp only [Act.put, List.setIfInBounds_toArray, List.set_cons_zero, List.set_cons_succ, i64_w, i32_w]
                        rfl
                      refine pure_ (i := 2) (N := some 50) (v := ?_) (a' := ?_) #[true, true, true, false, false, false, false, false, false, false, false, false, false, false, false, false] rfl rfl (by kernel_rfl) (fun _ _ _ h => h) (Or.inl ⟨by rfl, ?_⟩) ?_ ?_
                      rotate_left
                      · intro w'
                        first | (go_simp; with_reducible rfl) | (simp [go_sem, Instr.field, asAgg] <;> with_reducible rfl)
                      rotate_left
                      · simp only [Act.put, List.setIfInBounds_toArray, List.set_cons_zero, List.set_cons_succ, i64_w, i32_w]
                        rfl
                      refine pure_ (i := 3) (N := some 51) (v := ?_) (a' := ?_) #[true, true, true, true, false, false, false, false, false, false, false, false, false, false, false, false] rfl rfl (by kernel_rfl) (fun _ _ _ h => h) (Or.inl ⟨by rfl, ?_⟩) ?_ ?_
                      rotate_left
                      · intro w'
                        first | (go_simp; with_reducible rfl) | (simp [go_sem, Instr.field, asAgg] <;> with_reducible rfl)
                      rotate_left
                      · simp only [Act.put, List.setIfInBounds_toArray, List.set_cons_zero, List.set_cons_succ, i64_w, i32_w]
                        rfl
                      refine pure_ (i := 4) (N := some 52) (v := ?_) (a' := ?_) #[true, true, true, true, true, false, false, false, false, false, false, false, false, false, false, false] rfl rfl (by kernel_rfl) (fun _ _ _ h => h) (Or.inl ⟨by rfl, ?_⟩) ?_ ?_
                      rotate_left
                      · intro w'
                        first | (go_simp; with_reducible rfl) | (simp [go_sem, Instr.field, asAgg] <;> with_reducible rfl)
                      rotate_left
                      · simp only [Act.put, List.setIfInBounds_toArray, List.set_cons_zero, List.set_cons_succ, i64_w, i32_w]
                        rfl
                      refine pure_ (i := 5) (N := some 53) (v := ?_) (a' := ?_) #[true, true, true, true, true, true, false, false, false, false, false, false, false, false, false, false] rfl rfl (by kernel_rfl) (fun _ _ _ h => h) (Or.inl ⟨by rfl, ?_⟩) ?_ ?_
                      rotate_left
                      · intro w'
                        first | (go_simp; with_reducible rfl) | (simp [go_sem, Instr.field, asAgg] <;> with_reducible rfl)
                      rotate_left
                      · simp only [Act.put, List.setIfInBounds_toArray, List.set_cons_zero, List.set_cons_succ, i64_w, i32_w]
                        rfl
                      refine pure_ (i := 6) (N := some 54) (v := ?_) (a' := ?_) #[true, true, true, true, true, true, true, false, false, false, false, false, false, false, false, false] rfl rfl (by kernel_rfl) (fun _ _ _ h => h) (Or.inl ⟨by rfl, ?_⟩) ?_ ?_
                      rotate_left
                      · intro w'
                        first | (go_simp; with_reducible rfl) | (simp [go_sem, Instr.field, asAgg] <;> with_reducible rfl)
                      rotate_left
                      · simp only [Act.put, List.setIfInBounds_toArray, List.set_cons_zero, List.set_cons_succ, i64_w, i32_w]
                        rfl
                      refine pure_ (i := 8) (N := some 56) (v := ?_) (a' := ?_) #[true, true, true, true, true, true, true, false, true, false, false, false, false, false, false, false] rfl rfl (by kernel_rfl) (fun _ _ _ h => h) (Or.inl ⟨by rfl, ?_⟩) ?_ ?_
                      rotate_left
                      · intro w'
                        first | (go_simp; with_reducible rfl) | (simp [go_sem, Instr.field, asAgg] <;> with_reducible rfl)
                      rotate_left
                      · simp only [Act.put, List.setIfInBounds_toArray, List.set_cons_zero, List.set_cons_succ, i64_w, i32_w]
                        rfl
                      refine pure_ (i := 9) (N := some 57) (v := ?_) (a' := ?_) #[true, true, true, true, true, true, true, false, true, true, false, false, false, false, false, false] rfl rfl (by kernel_rfl) (fun _ _ _ h => h) (Or.inl ⟨by rfl, ?_⟩) ?_ ?_
                      rotate_left
                      · intro w'
                        first | (go_simp; with_reducible rfl) | (simp [go_sem, Instr.field, asAgg] <;> with_reducible rfl)
                      rotate_left
                      · simp only [Act.put, List.setIfInBounds_toArray, List.set_cons_zero, List.set_cons_succ, i64_w, i32_w]
                        rfl
                      refine pure_ (i := 10) (N := some 58) (v := ?_) (a' := ?_) #[true, true, true, true, true, true, true, false, true, true, true, false, false, false, false, false] rfl rfl (by kernel_rfl) (fun _ _ _ h => h) (Or.inl ⟨by rfl, ?_⟩) ?_ ?_
                      rotate_left
                      · intro w'
                        first | (go_simp; with_reducible rfl) | (simp [go_sem, Instr.field, asAgg] <;> with_reducible rfl)
                      rotate_left
                      · simp only [Act.put, List.setIfInBounds_toArray, List.set_cons_zero, List.set_cons_succ, i64_w, i32_w]
                        rfl
                      refine take_ (i := 7) (N := some 55) (v := ?_) (a' := ?_) #[true, true, true, true, true, true, true, true, true, true, true, false, false, false, false, false] rfl rfl (by kernel_rfl) (fun _ _ _ h => h) (Or.inl ⟨by rfl, ?_⟩) hHeld ?_ ?_
                      rotate_left
                      · rintro w' ⟨s0, s1⟩
                        go_simp
                        with_reducible rfl
                      rotate_left
                      · simp only [Act.put, List.setIfInBounds_toArray, List.set_cons_zero, List.set_cons_succ, i64_w, i32_w]
                        rfl
                      refine take_ (i := 11) (N := some 59) (v := ?_) (a' := ?_) #[true, true, true, true, true, true, true, true, true, true, true, true, false, false, false, false] rfl rfl (by kernel_rfl) (fun _ _ _ h => h) (Or.inl ⟨by rfl, ?_⟩) hHeld ?_ ?_
                      rotate_left
                      · rintro w' ⟨s0, s1⟩
                        go_simp
                        with_reducible rfl
                      rotate_left
                      · simp only [Act.put, List.setIfInBounds_toArray, List.set_cons_zero, List.set_cons_succ, i64_w, i32_w]
                        rfl
                      refine pure_ (i := 12) (N := some 60) (v := ?_) (a' := ?_) #[true, true, true, true, true, true, true, true, true, true, true, true, true, false, false, false] rfl rfl (by kernel_rfl) (fun _ _ _ h => h) (Or.inl ⟨by rfl, ?_⟩) ?_ ?_
                      rotate_left
                      · intro w'
                        first | (go_simp; with_reducible rfl) | (simp [go_sem, Instr.field, asAgg] <;> with_reducible rfl)
                      rotate_left
                      · simp only [Act.put, List.setIfInBounds_toArray, List.set_cons_zero, List.set_cons_succ, i64_w, i32_w]
                        rfl
                      refine last_ (i := 13) (N := none) #[true, true, true, true, true, true, true, true, true, true, true, true, true, true, false, false] rfl rfl (by kernel_rfl) (by decide) (fun K hK => ?_)
                      refine skip_ (w1 := ?_) (by rfl) rfl ?_ ?_
                      rotate_left
                      · go_simp
                        rfl
                      refine hK.out _ _ ?_
                      clear hK K
                      refine pure_ (i := 14) (N := some 61) (v := ?_) (a' := ?_) #[true, true, true, true, true, true, true, true, true, true, true, true, true, true, true, false] rfl rfl (by kernel_rfl) (fun _ _ _ h => h) (Or.inl ⟨by rfl, ?_⟩) ?_ ?_
                      rotate_left
                      · intro w'
                        first | (go_simp; with_reducible rfl) | (simp [go_sem, Instr.field, asAgg] <;> with_reducible rfl)
                      rotate_left
                      · simp only [Act.put, List.setIfInBounds_toArray, List.set_cons_zero, List.set_cons_succ, i64_w, i32_w]
                        rfl
                      refine last_ (i := 15) (N := none) #[true, true, true, true, true, true, true, true, true, true, true, true, true, true, true, true] rfl rfl (by kernel_rfl) (by decide) (fun K hK => ?_)
                      refine skip_ (w1 := ?_) (by rfl) rfl ?_ ?_
                      rotate_left
                      · go_simp
                        rfl
                      refine hK.out _ _ ?_
                      clear hK K
                      refine done_ (by kernel_rfl) ?_
                      clear hs1 hs2 hs3 hs4 hHeld
                      have E2 := Aside0.mk (E1.out.swap HUR.out.1 HN.out.1 HUR.out.2 HN.out.2)
                      have es : (rows.set a.toNat (rd_L1 rows c)).set c.toNat (rd_L1 rows a) = swapB rows a.toNat c.toNat := by unfold swapB; rw [Int.toNat_of_nonneg KK.out.2.1, Int.toNat_of_nonneg KK.out.2.2.1]
                      rw [es] at E2
                      generalize (vs.set a.toNat (.slice An (rd_L1 rows c).length cn)).set c.toNat (.slice (some ⟨b, 0, none⟩) (rd_L1 rows a).length cb) = vs2 at E2
                      generalize (w5.setCell ⟨g, a.toNat, none⟩ (.slice An (rd_L1 rows c).length cn)).setCell ⟨g, c.toNat, none⟩ (.slice (some ⟨b, 0, none⟩) (rd_L1 rows a).length cb) = w6 at E2 ⊢
                      clear E1 HN HUR es
                      have E := E2
                      clear E2
                      have hm0_ : w6.cell? ⟨w.heap.size, 0, none⟩ = some (.int .i64 a0_0) := (blk_cell (E.out.box (b := w.heap.size) (o := .cells #[.int .i64 a0_0, .int .i64 a0_1, .slice A0_2 l0_2.length c0_2] 26 (0, 0)) (by simp)) 0).trans rfl
                      generalize swapB rows a.toNat c.toNat = rows1 at E H
                      (try go_wp2)
                      clear hm0_
                      replace H := Option.bind_eq_some_iff.mp H
                      obtain ⟨⟨rows2, out2⟩, At, H⟩ := H
                      have B2 := Aside0.mk At
                      clear At
                      have H' := Aside0.mk H
                      clear H
                      have J := B2.out
                      clear B2
                      dsimp only at H'
                      unfold impl_DeterminantOf.st at J
                      by_cases j1 : 0 ≤ c
                      case neg => rw [if_neg j1] at J; exact absurd J (by simp)
                      rw [if_pos j1] at J
                      by_cases j2 : c < (rows1.length : Int)
                      case neg => rw [if_neg j2] at J; exact absurd J (by simp)
                      rw [if_pos j2] at J
                      by_cases js : rows1.length ≤ 1048576
                      case neg => rw [if_neg js] at J; exact absurd J (by simp)
                      rw [if_pos js] at J
                      by_cases j3 : c < ((rd_L1 rows1 c).length : Int)
                      case neg => rw [if_neg j3] at J; exact absurd J (by simp)
                      rw [if_pos j3] at J
                      by_cases j4 : a0_0 = 0
                      case pos => rw [if_pos j4] at J; exact absurd J (by simp)
                      rw [if_neg j4] at J
                      replace J := Option.bind_eq_some_iff.mp J
                      obtain ⟨inv, At, J⟩ := J
                      have B3 := Aside0.mk At
                      clear At
                      replace J := Option.bind_eq_some_iff.mp J
                      obtain ⟨r, At, J⟩ := J
                      have B4 := Aside0.mk At
                      clear At
                      replace J := Option.bind_eq_some_iff.mp J
                      obtain ⟨rows3, At, J⟩ := J
                      have B5 := Aside0.mk At
                      clear At
                      obtain ⟨rfl, ho2⟩ := (by simpa using J : rows3 = rows2 ∧ Int.tmod (wrap64 ((Int.tmod (wrap64 (a0_0 - out)) a0_0) * rd (rd_L1 rows1 c) c)) a0_0 = out2)
                      subst ho2
                      clear J
                      obtain ⟨un, hun, hrn⟩ := E.out.mx.rd_ c j1 j2
                      obtain ⟨b2, cb2, e, _, _, hxn⟩ := E.out.mx.get hun hrn c j1 j3
                      subst e
                      have HN := Aside0.mk (And.intro hun hrn)
                      clear hun hrn hxn
                      have hcn := Aside0.mk E.out.mx.count
                      have j1b : decide (0 ≤ c) = true := decide_eq_true j1
                      have j2b : decide (c < (n0 : Int)) = true := decide_eq_true (by have := hcn.out.1; omega)
                      have j2c := eq_true (show c < (n0 : Int) by have := hcn.out.1; omega)
                      have j3b : decide (c < ((rd_L1 rows1 c).length : Int)) = true := decide_eq_true j3
                      have j4b : (a0_0 == 0) = false := beq_eq_false_iff_ne.mpr j4
                      have JJ := Aside0.mk (And.intro j1 (And.intro j2 j3))
                      have JS := Aside0.mk js
                      clear js
                      replace j1 := eq_true j1
                      replace j3 := eq_true j3
                      replace j4 := eq_false j4
                      clear j2
                      (try go_wp2)
                      have E2 := Aside0.mk E.out.drew
                      clear E
                      refine start_ (n := 13) (S := fun w' => w'.cell? ⟨w.heap.size, 0, none⟩ = some (.int .i64 a0_0) ∧ w'.cell? ⟨g, c.toNat, none⟩ = some (.slice (some ⟨b2, 0, none⟩) (rd_L1 rows1 c).length cb2) ∧ w'.cell? ⟨b2, c.toNat, none⟩ = some (.int .i64 (rd (rd_L1 rows1 c) c))) (ds := []) #[false, false, false, false, false, false, false, false, false, false, false, false, false] (by kernel_rfl) rfl rfl ⟨(blk_cell (E2.out.box (b := w.heap.size) (o := .cells #[.int .i64 a0_0, .int .i64 a0_1, .slice A0_2 l0_2.length c0_2] 26 (0, 0)) (by simp)) 0).trans rfl, (E2.out.mx.cell HN.out.1).1, E2.out.mx.num HN.out.1 HN.out.2 c JJ.out.1 JJ.out.2.2⟩ (fun hHeld => ?_)
                      generalize w6.drew = w7 at E2 hHeld ⊢
                      refine pure_ (i := 0) (N := some 69) (v := ?_) (a' := ?_) #[true, false, false, false, false, false, false, false, false, false, false, false, false] rfl rfl (by kernel_rfl) (fun _ _ _ h => h) (Or.inl ⟨by rfl, ?_⟩) ?_ ?_
                      rotate_left
                      · intro w'
                        first | (go_simp; with_reducible rfl) | (simp [go_sem, Instr.field, asAgg] <;> with_reducible rfl)
                      rotate_left
                      · simp only [Act.put, List.setIfInBounds_toArray, List.set_cons_zero, List.set_cons_succ, i64_w, i32_w]
                        rfl
                      refine pure_ (i := 1) (N := some 70) (v := ?_) (a' := ?_) #[true, true, false, false, false, false, false, false, false, false, false, false, false] rfl rfl (by kernel_rfl) (fun _ _ _ h => h) (Or.inl ⟨by rfl, ?_⟩) ?_ ?_
                      rotate_left
                      · intro w'
                        first | (go_simp; with_reducible rfl) | (simp [go_sem, Instr.field, asAgg] <;> with_reducible rfl)
                      rotate_left
                      · simp only [Act.put, List.setIfInBounds_toArray, List.set_cons_zero, List.set_cons_succ, i64_w, i32_w]
                        rfl
                      refine pure_ (i := 2) (N := some 71) (v := ?_) (a' := ?_) #[true, true, true, false, false, false, false, false, false, false, false, false, false] rfl rfl (by kernel_rfl) (fun _ _ _ h => h) (Or.inl ⟨by rfl, ?_⟩) ?_ ?_
                      rotate_left
                      · intro w'
                        first | (go_simp; with_reducible rfl) | (simp [go_sem, Instr.field, asAgg] <;> with_reducible rfl)
                      rotate_left
                      · simp only [Act.put, List.setIfInBounds_toArray, List.set_cons_zero, List.set_cons_succ, i64_w, i32_w]
                        rfl
                      refine pure_ (i := 3) (N := some 72) (v := ?_) (a' := ?_) #[true, true, true, true, false, false, false, false, false, false, false, false, false] rfl rfl (by kernel_rfl) (fun _ _ _ h => h) (Or.inl ⟨by rfl, ?_⟩) ?_ ?_
                      rotate_left
                      · intro w'
                        first | (go_simp; with_reducible rfl) | (simp [go_sem, Instr.field, asAgg] <;> with_reducible rfl)
                      rotate_left
                      · simp only [Act.put, List.setIfInBounds_toArray, List.set_cons_zero, List.set_cons_succ, i64_w, i32_w]
                        rfl
                      refine pure_ (i := 5) (N := some 74) (v := ?_) (a' := ?_) #[true, true, true, true, false, true, false, false, false, false, false, false, false] rfl rfl (by kernel_rfl) (fun _ _ _ h => h) (Or.inl ⟨by rfl, ?_⟩) ?_ ?_
                      rotate_left
                      · intro w'
                        first | (go_simp; with_reducible rfl) | (simp [go_sem, Instr.field, asAgg] <;> with_reducible rfl)
                      rotate_left
                      · simp only [Act.put, List.setIfInBounds_toArray, List.set_cons_zero, List.set_cons_succ, i64_w, i32_w]
                        rfl
                      refine pure_ (i := 9) (N := some 78) (v := ?_) (a' := ?_) #[true, true, true, true, false, true, false, false, false, true, false, false, false] rfl rfl (by kernel_rfl) (fun _ _ _ h => h) (Or.inl ⟨by rfl, ?_⟩) ?_ ?_
                      rotate_left
                      · intro w'
                        first | (go_simp; with_reducible rfl) | (simp [go_sem, Instr.field, asAgg] <;> with_reducible rfl)
                      rotate_left
                      · simp only [Act.put, List.setIfInBounds_toArray, List.set_cons_zero, List.set_cons_succ, i64_w, i32_w]
                        rfl
                      refine take_ (i := 4) (N := some 73) (v := ?_) (a' := ?_) #[true, true, true, true, true, true, false, false, false, true, false, false, false] rfl rfl (by kernel_rfl) (fun _ _ _ h => h) (Or.inl ⟨by rfl, ?_⟩) hHeld ?_ ?_
                      rotate_left
                      · rintro w' ⟨s0, s1, s2⟩
                        go_simp
                        with_reducible rfl
                      rotate_left
                      · simp only [Act.put, List.setIfInBounds_toArray, List.set_cons_zero, List.set_cons_succ, i64_w, i32_w]
                        rfl
                      refine pure_ (i := 6) (N := some 75) (v := ?_) (a' := ?_) #[true, true, true, true, true, true, true, false, false, true, false, false, false] rfl rfl (by kernel_rfl) (fun _ _ _ h => h) (Or.inl ⟨by rfl, ?_⟩) ?_ ?_
                      rotate_left
                      · intro w'
                        first | (go_simp; with_reducible rfl) | (simp [go_sem, Instr.field, asAgg] <;> with_reducible rfl)
                      rotate_left
                      · simp only [Act.put, List.setIfInBounds_toArray, List.set_cons_zero, List.set_cons_succ, i64_w, i32_w]
                        rfl
                      refine take_ (i := 7) (N := some 76) (v := ?_) (a' := ?_) #[true, true, true, true, true, true, true, true, false, true, false, false, false] rfl rfl (by kernel_rfl) (fun _ _ _ h => h) (Or.inl ⟨by rfl, ?_⟩) hHeld ?_ ?_
                      rotate_left
                      · rintro w' ⟨s0, s1, s2⟩
                        go_simp
                        with_reducible rfl
                      rotate_left
                      · simp only [Act.put, List.setIfInBounds_toArray, List.set_cons_zero, List.set_cons_succ, i64_w, i32_w]
                        rfl
                      refine pure_ (i := 8) (N := some 77) (v := ?_) (a' := ?_) #[true, true, true, true, true, true, true, true, true, true, false, false, false] rfl rfl (by kernel_rfl) (fun _ _ _ h => h) (Or.inl ⟨by rfl, ?_⟩) ?_ ?_
                      rotate_left
                      · intro w'
                        first | (go_simp; with_reducible rfl) | (simp [go_sem, Instr.field, asAgg] <;> with_reducible rfl)
                      rotate_left
                      · simp only [Act.put, List.setIfInBounds_toArray, List.set_cons_zero, List.set_cons_succ, i64_w, i32_w]
                        rfl
                      refine take_ (i := 10) (N := some 79) (v := ?_) (a' := ?_) #[true, true, true, true, true, true, true, true, true, true, true, false, false] rfl rfl (by kernel_rfl) (fun _ _ _ h => h) (Or.inl ⟨by rfl, ?_⟩) hHeld ?_ ?_
                      rotate_left
                      · rintro w' ⟨s0, s1, s2⟩
                        go_simp
                        with_reducible rfl
                      rotate_left
                      · simp only [Act.put, List.setIfInBounds_toArray, List.set_cons_zero, List.set_cons_succ, i64_w, i32_w]
                        rfl
                      refine pure_ (i := 11) (N := some 80) (v := ?_) (a' := ?_) #[true, true, true, true, true, true, true, true, true, true, true, true, false] rfl rfl (by kernel_rfl) (fun _ _ _ h => h) (Or.inl ⟨by rfl, ?_⟩) ?_ ?_
                      rotate_left
                      · intro w'
                        first | (go_simp; with_reducible rfl) | (simp [go_sem, Instr.field, asAgg] <;> with_reducible rfl)
                      rotate_left
                      · simp only [Act.put, List.setIfInBounds_toArray, List.set_cons_zero, List.set_cons_succ, i64_w, i32_w]
                        rfl
                      refine pure_ (i := 12) (N := some 5) (v := ?_) (a' := ?_) #[true, true, true, true, true, true, true, true, true, true, true, true, true] rfl rfl (by kernel_rfl) (fun _ _ _ h => h) (Or.inl ⟨by rfl, ?_⟩) ?_ ?_
                      rotate_left
                      · intro w'
                        first | (go_simp; with_reducible rfl) | (simp [go_sem, Instr.field, asAgg] <;> with_reducible rfl)
                      rotate_left
                      · simp only [Act.put, List.setIfInBounds_toArray, List.set_cons_zero, List.set_cons_succ, i64_w, i32_w]
                        rfl
                      refine done_ (by kernel_rfl) ?_
                      clear hHeld
                      (try go_wp2)
                      have E3 := Aside0.mk E2.out.drew
                      clear E2
                      refine start_ (n := 17) (S := fun w' => w'.cell? ⟨w.heap.size, 0, none⟩ = some (.int .i64 a0_0) ∧ w'.cell? ⟨g, c.toNat, none⟩ = some (.slice (some ⟨b2, 0, none⟩) (rd_L1 rows1 c).length cb2) ∧ w'.cell? ⟨b2, c.toNat, none⟩ = some (.int .i64 (rd (rd_L1 rows1 c) c))) (ds := [16]) #[false, false, false, false, false, false, false, false, false, false, false, false, false, false, false, false, false] (by kernel_rfl) rfl rfl ⟨(blk_cell (E3.out.box (b := w.heap.size) (o := .cells #[.int .i64 a0_0, .int .i64 a0_1, .slice A0_2 l0_2.length c0_2] 26 (0, 0)) (by simp)) 0).trans rfl, (E3.out.mx.cell HN.out.1).1, E3.out.mx.num HN.out.1 HN.out.2 c JJ.out.1 JJ.out.2.2⟩ (fun hHeld => ?_)
                      generalize w7.drew = w8 at E3 hHeld ⊢
                      refine pure_ (i := 0) (N := some 81) (v := ?_) (a' := ?_) #[true, false, false, false, false, false, false, false, false, false, false, false, false, false, false, false, false] rfl rfl (by kernel_rfl) (fun _ _ _ h => h) (Or.inl ⟨by rfl, ?_⟩) ?_ ?_
                      rotate_left
                      · intro w'
                        first | (go_simp; with_reducible rfl) | (simp [go_sem, Instr.field, asAgg] <;> with_reducible rfl)
                      rotate_left
                      · simp only [Act.put, List.setIfInBounds_toArray, List.set_cons_zero, List.set_cons_succ, i64_w, i32_w]
                        rfl
                      refine pure_ (i := 2) (N := some 83) (v := ?_) (a' := ?_) #[true, false, true, false, false, false, false, false, false, false, false, false, false, false, false, false, false] rfl rfl (by kernel_rfl) (fun _ _ _ h => h) (Or.inl ⟨by rfl, ?_⟩) ?_ ?_
                      rotate_left
                      · intro w'
                        first | (go_simp; with_reducible rfl) | (simp [go_sem, Instr.field, asAgg] <;> with_reducible rfl)
                      rotate_left
                      · simp only [Act.put, List.setIfInBounds_toArray, List.set_cons_zero, List.set_cons_succ, i64_w, i32_w]
                        rfl
                      refine pure_ (i := 3) (N := some 84) (v := ?_) (a' := ?_) #[true, false, true, true, false, false, false, false, false, false, false, false, false, false, false, false, false] rfl rfl (by kernel_rfl) (fun _ _ _ h => h) (Or.inl ⟨by rfl, ?_⟩) ?_ ?_
                      rotate_left
                      · intro w'
                        first | (go_simp; with_reducible rfl) | (simp [go_sem, Instr.field, asAgg] <;> with_reducible rfl)
                      rotate_left
                      · simp only [Act.put, List.setIfInBounds_toArray, List.set_cons_zero, List.set_cons_succ, i64_w, i32_w]
                        rfl
                      refine pure_ (i := 4) (N := some 85) (v := ?_) (a' := ?_) #[true, false, true, true, true, false, false, false, false, false, false, false, false, false, false, false, false] rfl rfl (by kernel_rfl) (fun _ _ _ h => h) (Or.inl ⟨by rfl, ?_⟩) ?_ ?_
                      rotate_left
                      · intro w'
                        first | (go_simp; with_reducible rfl) | (simp [go_sem, Instr.field, asAgg] <;> with_reducible rfl)
                      rotate_left
                      · simp only [Act.put, List.setIfInBounds_toArray, List.set_cons_zero, List.set_cons_succ, i64_w, i32_w]
                        rfl
                      refine pure_ (i := 6) (N := some 87) (v := ?_) (a' := ?_) #[true, false, true, true, true, false, true, false, false, false, false, false, false, false, false, false, false] rfl rfl (by kernel_rfl) (fun _ _ _ h => h) (Or.inl ⟨by rfl, ?_⟩) ?_ ?_
                      rotate_left
                      · intro w'
                        first | (go_simp; with_reducible rfl) | (simp [go_sem, Instr.field, asAgg] <;> with_reducible rfl)
                      rotate_left
                      · simp only [Act.put, List.setIfInBounds_toArray, List.set_cons_zero, List.set_cons_succ, i64_w, i32_w]
                        rfl
                      refine pure_ (i := 8) (N := some 89) (v := ?_) (a' := ?_) #[true, false, true, true, true, false, true, false, true, false, false, false, false, false, false, false, false] rfl rfl (by kernel_rfl) (fun _ _ _ h => h) (Or.inl ⟨by rfl, ?_⟩) ?_ ?_
                      rotate_left
                      · intro w'
                        first | (go_simp; with_reducible rfl) | (simp [go_sem, Instr.field, asAgg] <;> with_reducible rfl)
                      rotate_left
                      · simp only [Act.put, List.setIfInBounds_toArray, List.set_cons_zero, List.set_cons_succ, i64_w, i32_w]
                        rfl
                      refine pure_ (i := 9) (N := some 90) (v := ?_) (a' := ?_) #[true, false, true, true, true, false, true, false, true, true, false, false, false, false, false, false, false] rfl rfl (by kernel_rfl) (fun _ _ _ h => h) (Or.inl ⟨by rfl, ?_⟩) ?_ ?_
                      rotate_left
                      · intro w'
                        first | (go_simp; with_reducible rfl) | (simp [go_sem, Instr.field, asAgg] <;> with_reducible rfl)
                      rotate_left
                      · simp only [Act.put, List.setIfInBounds_toArray, List.set_cons_zero, List.set_cons_succ, i64_w, i32_w]
                        rfl
                      refine pure_ (i := 10) (N := some 91) (v := ?_) (a' := ?_) #[true, false, true, true, true, false, true, false, true, true, true, false, false, false, false, false, false] rfl rfl (by kernel_rfl) (fun _ _ _ h => h) (Or.inl ⟨by rfl, ?_⟩) ?_ ?_
                      rotate_left
                      · intro w'
                        first | (go_simp; with_reducible rfl) | (simp [go_sem, Instr.field, asAgg] <;> with_reducible rfl)
                      rotate_left
                      · simp only [Act.put, List.setIfInBounds_toArray, List.set_cons_zero, List.set_cons_succ, i64_w, i32_w]
                        rfl
                      refine pure_ (i := 12) (N := some 93) (v := ?_) (a' := ?_) #[true, false, true, true, true, false, true, false, true, true, true, false, true, false, false, false, false] rfl rfl (by kernel_rfl) (fun _ _ _ h => h) (Or.inl ⟨by rfl, ?_⟩) ?_ ?_
                      rotate_left
                      · intro w'
                        first | (go_simp; with_reducible rfl) | (simp [go_sem, Instr.field, asAgg] <;> with_reducible rfl)
                      rotate_left
                      · simp only [Act.put, List.setIfInBounds_toArray, List.set_cons_zero, List.set_cons_succ, i64_w, i32_w]
                        rfl
                      refine take_ (i := 1) (N := some 82) (v := ?_) (a' := ?_) #[true, true, true, true, true, false, true, false, true, true, true, false, true, false, false, false, false] rfl rfl (by kernel_rfl) (fun _ _ _ h => h) (Or.inl ⟨by rfl, ?_⟩) hHeld ?_ ?_
                      rotate_left
                      · rintro w' ⟨s0, s1, s2⟩
                        go_simp
                        with_reducible rfl
                      rotate_left
                      · simp only [Act.put, List.setIfInBounds_toArray, List.set_cons_zero, List.set_cons_succ, i64_w, i32_w]
                        rfl
                      refine take_ (i := 5) (N := some 86) (v := ?_) (a' := ?_) #[true, true, true, true, true, true, true, false, true, true, true, false, true, false, false, false, false] rfl rfl (by kernel_rfl) (fun _ _ _ h => h) (Or.inl ⟨by rfl, ?_⟩) hHeld ?_ ?_
                      rotate_left
                      · rintro w' ⟨s0, s1, s2⟩
                        go_simp
                        with_reducible rfl
                      rotate_left
                      · simp only [Act.put, List.setIfInBounds_toArray, List.set_cons_zero, List.set_cons_succ, i64_w, i32_w]
                        rfl
                      refine take_ (i := 7) (N := some 88) (v := ?_) (a' := ?_) #[true, true, true, true, true, true, true, true, true, true, true, false, true, false, false, false, false] rfl rfl (by kernel_rfl) (fun _ _ _ h => h) (Or.inl ⟨by rfl, ?_⟩) hHeld ?_ ?_
                      rotate_left
                      · rintro w' ⟨s0, s1, s2⟩
                        go_simp
                        with_reducible rfl
                      rotate_left
                      · simp only [Act.put, List.setIfInBounds_toArray, List.set_cons_zero, List.set_cons_succ, i64_w, i32_w]
                        rfl
                      refine take_ (i := 11) (N := some 92) (v := ?_) (a' := ?_) #[true, true, true, true, true, true, true, true, true, true, true, true, true, false, false, false, false] rfl rfl (by kernel_rfl) (fun _ _ _ h => h) (Or.inl ⟨by rfl, ?_⟩) hHeld ?_ ?_
                      rotate_left
                      · rintro w' ⟨s0, s1, s2⟩
                        go_simp
                        with_reducible rfl
                      rotate_left
                      · simp only [Act.put, List.setIfInBounds_toArray, List.set_cons_zero, List.set_cons_succ, i64_w, i32_w]
                        rfl
                      refine pure_ (i := 13) (N := some 94) (v := ?_) (a' := ?_) #[true, true, true, true, true, true, true, true, true, true, true, true, true, true, false, false, false] rfl rfl (by kernel_rfl) (fun _ _ _ h => h) (Or.inl ⟨by rfl, ?_⟩) ?_ ?_
                      rotate_left
                      · intro w'
                        first | (go_simp; with_reducible rfl) | (simp [go_sem, Instr.field, asAgg] <;> with_reducible rfl)
                      rotate_left
                      · simp only [Act.put, List.setIfInBounds_toArray, List.set_cons_zero, List.set_cons_succ, i64_w, i32_w]
                        rfl
                      refine take_ (i := 14) (N := some 95) (v := ?_) (a' := ?_) #[true, true, true, true, true, true, true, true, true, true, true, true, true, true, true, false, false] rfl rfl (by kernel_rfl) (fun _ _ _ h => h) (Or.inl ⟨by rfl, ?_⟩) hHeld ?_ ?_
                      rotate_left
                      · rintro w' ⟨s0, s1, s2⟩
                        go_simp
                        with_reducible rfl
                      rotate_left
                      · simp only [Act.put, List.setIfInBounds_toArray, List.set_cons_zero, List.set_cons_succ, i64_w, i32_w]
                        rfl
                      refine one_ (i := 15) (N := some 96) #[true, true, true, true, true, true, true, true, true, true, true, true, true, true, true, true, false] rfl rfl (by kernel_rfl) (by decide) (fun K hK => ?_)
                      refine goes_ Try.func70 (by kernel_rfl) rfl #[.int .i64 a0_0, .int .i64 (rd (rd_L1 rows1 c) c)] (by rfl) rfl rfl (by simp only [List.map_toArray, List.map_cons, List.map_nil]; rfl) ?_
                      with_reducible refine (impl_inverse.calls k1 a0_0 (rd (rd_L1 rows1 c) c) inv _ B3.out).mono ?_
                      rintro e w9 ⟨rfl, hd⟩
                      refine ⟨_, rfl, ?_⟩
                      have E4 := Aside0.mk (E3.out.below hd.below)
                      clear E3 hd
                      refine hK.out _ _ ⟨(blk_cell (E4.out.box (b := w.heap.size) (o := .cells #[.int .i64 a0_0, .int .i64 a0_1, .slice A0_2 l0_2.length c0_2] 26 (0, 0)) (by simp)) 0).trans rfl, (E4.out.mx.cell HN.out.1).1, E4.out.mx.num HN.out.1 HN.out.2 c JJ.out.1 JJ.out.2.2⟩ (fun hHeld => ?_)
                      clear hK K
                      refine norm_ (a' := ?_) ?_ ?_
                      rotate_left
                      · show Act.put _ (some 96) _ = _
                        simp only [Act.put, List.setIfInBounds_toArray, List.set_cons_zero, List.set_cons_succ, i64_w, i32_w]
                        rfl
                      refine last_ (i := 16) (N := some 97) #[true, true, true, true, true, true, true, true, true, true, true, true, true, true, true, true, true] rfl rfl (by kernel_rfl) (by decide) (fun K hK => ?_)
                      refine goes_ Try.func69 (by kernel_rfl) rfl #[.int .i64 a0_0, (.slice (some ⟨b2, 0, none⟩) (rd_L1 rows1 c).length cb2), .int .i64 inv] (by rfl) rfl rfl (by simp only [List.map_toArray, List.map_cons, List.map_nil]; rfl) ?_
                      with_reducible refine (impl_scaled.calls k1 a0_0 (fun k_ => some k_ = ((.slice (some ⟨b2, 0, none⟩) (rd_L1 rows1 c).length cb2) : Value).ownBlock ∧ w.heap.size + 1 ≤ k_ ∧ k_ < hi) (.slice (some ⟨b2, 0, none⟩) (rd_L1 rows1 c).length cb2) (rd_L1 rows1 c) inv r w _ E4.out.be (E4.out.mx.row _ _ _ HN.out.1 HN.out.2) B4.out).mono ?_
                      rintro e w10 ⟨rfl, hR, hBw, hK⟩
                      refine ⟨_, rfl, ?_⟩
                      have E5 := Aside0.mk (E4.out.put HN.out.1 HN.out.2 hR hK hBw)
                      clear E4 hR hBw hK
                      refine hK.out _ _ ?_
                      clear hK K
                      refine norm_ (a' := ?_) ?_ ?_
                      rotate_left
                      · show Act.put _ (some 97) _ = _
                        simp only [Act.put, List.setIfInBounds_toArray, List.set_cons_zero, List.set_cons_succ, i64_w, i32_w]
                        rfl
                      refine done_ (by kernel_rfl) ?_
                      clear hHeld
                      have hct5 := Aside0.mk E5.out.mx.count
                      have hw1 : wrap64 (c + 1) = c + 1 := by have := JJ.out.1; have := JJ.out.2.1; have := JS.out; unfold wrap64; omega
                      obtain ⟨i0_, hi0_, _, hsz_, _⟩ := info_parts info35
                      obtain ⟨AS, CS, hcut0, hAS⟩ := impl_DeterminantOf.cut (P := Try.prog) 22 35 Try.underlying22 hi0_ hsz_ g n0 c1 (c + 1) (by have := JJ.out.1; omega) (by have := JJ.out.2.1; have := hcn.out.1; omega) hcn.out.2
                      have HAS := Aside0.mk hAS
                      clear hAS hi0_ hsz_
                      have hcut : ∀ W : World, (Instr.slice 22 (.slice (some ⟨g, 0, none⟩) n0 c1) (some (.int .i64 (wrap64 (c + 1)))) none none).run Try.prog W = .ok (.slice AS (n0 - (c + 1).toNat) CS) W := by rw [hw1]; exact hcut0
                      clear hcut0 hw1
                      (try go_wp2)
                      clear hcut
                      generalize rows1.set c.toNat r = rz at E5 B5
                      go_loopg [103] k1 (fun kq v103 w' => ∃ (i : Int) (rx : List (List Int)), v103 = .int .i64 i ∧ Aside0 (impl_DeterminantOf.l2 kq a0_0 c rx i = some rows3) ∧ Aside0 (kq ≤ k1) ∧ Aside0 (Mw w w' (w.heap.size + 1) hi hi ([(w.heap.size, .cells #[.int .i64 a0_0, .int .i64 a0_1, .slice A0_2 l0_2.length c0_2] 26 (0, 0))]) (.slice (some ⟨g, 0, none⟩) n0 c1) vs2 rx))
                      case atStart => exact ⟨0, rz, rfl, B5, ⟨Nat.le_refl _⟩, E5⟩
                      case round =>
                        clear B5 E5
                        obtain ⟨i, rx, rfl, HA, HK3, E⟩ := hrel
                        have hct := Aside0.mk E.out.mx.count
                        cases gk with
                        | zero => exact absurd HA.out (by simp [impl_DeterminantOf.l2])
                        | succ k3 =>
                          have H := HA.out
                          clear HA
                          simp only [impl_DeterminantOf.l2] at H
                          by_cases d1 : i < (rx.length : Int) - (c + 1)
                          · rw [if_pos d1] at H
                            by_cases d2 : 0 ≤ i
                            case neg => rw [if_neg d2] at H; exact absurd H (by simp)
                            rw [if_pos d2] at H
                            by_cases d6 : c < ((rd_L1 rx (c + 1 + i)).length : Int)
                            case neg => rw [if_neg d6] at H; exact absurd H (by simp)
                            rw [if_pos d6] at H
                            replace H := Option.bind_eq_some_iff.mp H
                            obtain ⟨q, At, H⟩ := H
                            have B6 := Aside0.mk At
                            clear At
                            have H' := Aside0.mk H
                            clear H
                            have hj0 := JJ.out.1
                            obtain ⟨u, hu, hr⟩ := E.out.mx.rd_ (c + 1 + i) (by omega) (by omega)
                            obtain ⟨bu, cu, e, _, _, _⟩ := E.out.mx.get hu hr c hj0 d6
                            subst e
                            obtain ⟨un, hun, hrn⟩ := E.out.mx.rd_ c hj0 (by omega)
                            obtain ⟨Am, cm, em, hcm, _⟩ := E.out.mx.rslice hun hrn
                            subst em
                            have HU := Aside0.mk (And.intro hu hr)
                            have HM := Aside0.mk (And.intro hun (And.intro hrn hcm))
                            have hidx : (c + 1 + i).toNat = (c + 1).toNat + i.toNat := by omega
                            have hy := (E.out.mx.cell hu).1
                            rw [hidx] at hy
                            have has := HAS.out (by have := hct.out.1; omega)
                            subst has
                            have d1b : decide (i < ((n0 - (c + 1).toNat : Nat) : Int)) = true := decide_eq_true (by have := hct.out.1; omega)
                            have d1c := eq_true (show i < ((n0 - (c + 1).toNat : Nat) : Int) by have := hct.out.1; omega)
                            have d2b : decide (0 ≤ i) = true := decide_eq_true d2
                            have d6b : decide (c < ((rd_L1 rx (c + 1 + i)).length : Int)) = true := decide_eq_true d6
                            have DD := Aside0.mk (And.intro d1 (And.intro d2 d6))
                            replace d2 := eq_true d2
                            replace d6 := eq_true d6
                            clear hu hr hun hrn hcm d1 hj0 hidx
                            go_wp2
                            have E6 := Aside0.mk E.out.drew
                            clear E hy
                            refine start_ (n := 12) (S := fun w' => w'.cell? ⟨w.heap.size, 0, none⟩ = some (.int .i64 a0_0) ∧ w'.cell? ⟨g, c.toNat, none⟩ = some (.slice Am (rd_L1 rx c).length cm) ∧ w'.cell? ⟨bu, c.toNat, none⟩ = some (.int .i64 (rd (rd_L1 rx (c + 1 + i)) c))) (ds := [11]) #[false, false, false, false, false, false, false, false, false, false, false, false] (by kernel_rfl) rfl rfl ⟨(blk_cell (E6.out.box (b := w.heap.size) (o := .cells #[.int .i64 a0_0, .int .i64 a0_1, .slice A0_2 l0_2.length c0_2] 26 (0, 0)) (by simp)) 0).trans rfl, (E6.out.mx.cell HM.out.1).1, E6.out.mx.num HU.out.1 HU.out.2 c JJ.out.1 DD.out.2.2⟩ (fun hHeld => ?_)
                            generalize wr.drew = w11 at E6 hHeld ⊢
                            refine pure_ (i := 0) (N := some 107) (v := ?_) (a' := ?_) #[true, false, false, false, false, false, false, false, false, false, false, false] rfl rfl (by kernel_rfl) (fun _ _ _ h => h) (Or.inl ⟨by rfl, ?_⟩) ?_ ?_
                            rotate_left
                            · intro w'
                              first | (go_simp; with_reducible rfl) | (simp [go_sem, Instr.field, asAgg] <;> with_reducible rfl)
                            rotate_left
                            · simp only [Act.put, List.setIfInBounds_toArray, List.set_cons_zero, List.set_cons_succ, i64_w, i32_w]
                              rfl
                            refine pure_ (i := 2) (N := some 109) (v := ?_) (a' := ?_) #[true, false, true, false, false, false, false, false, false, false, false, false] rfl rfl (by kernel_rfl) (fun _ _ _ h => h) (Or.inl ⟨by rfl, ?_⟩) ?_ ?_
                            rotate_left
                            · intro w'
                              first | (go_simp; with_reducible rfl) | (simp [go_sem, Instr.field, asAgg] <;> with_reducible rfl)
                            rotate_left
                            · simp only [Act.put, List.setIfInBounds_toArray, List.set_cons_zero, List.set_cons_succ, i64_w, i32_w]
                              rfl
                            refine pure_ (i := 3) (N := some 110) (v := ?_) (a' := ?_) #[true, false, true, true, false, false, false, false, false, false, false, false] rfl rfl (by kernel_rfl) (fun _ _ _ h => h) (Or.inl ⟨by rfl, ?_⟩) ?_ ?_
                            rotate_left
                            · intro w'
                              first | (go_simp; with_reducible rfl) | (simp [go_sem, Instr.field, asAgg] <;> with_reducible rfl)
                            rotate_left
                            · simp only [Act.put, List.setIfInBounds_toArray, List.set_cons_zero, List.set_cons_succ, i64_w, i32_w]
                              rfl
                            refine pure_ (i := 4) (N := some 111) (v := ?_) (a' := ?_) #[true, false, true, true, true, false, false, false, false, false, false, false] rfl rfl (by kernel_rfl) (fun _ _ _ h => h) (Or.inl ⟨by rfl, ?_⟩) ?_ ?_
                            rotate_left
                            · intro w'
                              first | (go_simp; with_reducible rfl) | (simp [go_sem, Instr.field, asAgg] <;> with_reducible rfl)
                            rotate_left
                            · simp only [Act.put, List.setIfInBounds_toArray, List.set_cons_zero, List.set_cons_succ, i64_w, i32_w]
                              rfl
                            refine pure_ (i := 5) (N := some 112) (v := ?_) (a' := ?_) #[true, false, true, true, true, true, false, false, false, false, false, false] rfl rfl (by kernel_rfl) (fun _ _ _ h => h) (Or.inl ⟨by rfl, ?_⟩) ?_ ?_
                            rotate_left
                            · intro w'
                              first | (go_simp; with_reducible rfl) | (simp [go_sem, Instr.field, asAgg] <;> with_reducible rfl)
                            rotate_left
                            · simp only [Act.put, List.setIfInBounds_toArray, List.set_cons_zero, List.set_cons_succ, i64_w, i32_w]
                              rfl
                            refine pure_ (i := 7) (N := some 114) (v := ?_) (a' := ?_) #[true, false, true, true, true, true, false, true, false, false, false, false] rfl rfl (by kernel_rfl) (fun _ _ _ h => h) (Or.inl ⟨by rfl, ?_⟩) ?_ ?_
                            rotate_left
                            · intro w'
                              first | (go_simp; with_reducible rfl) | (simp [go_sem, Instr.field, asAgg] <;> with_reducible rfl)
                            rotate_left
                            · simp only [Act.put, List.setIfInBounds_toArray, List.set_cons_zero, List.set_cons_succ, i64_w, i32_w]
                              rfl
                            refine pure_ (i := 8) (N := some 115) (v := ?_) (a' := ?_) #[true, false, true, true, true, true, false, true, true, false, false, false] rfl rfl (by kernel_rfl) (fun _ _ _ h => h) (Or.inl ⟨by rfl, ?_⟩) ?_ ?_
                            rotate_left
                            · intro w'
                              first | (go_simp; with_reducible rfl) | (simp [go_sem, Instr.field, asAgg] <;> with_reducible rfl)
                            rotate_left
                            · simp only [Act.put, List.setIfInBounds_toArray, List.set_cons_zero, List.set_cons_succ, i64_w, i32_w]
                              rfl
                            refine pure_ (i := 9) (N := some 116) (v := ?_) (a' := ?_) #[true, false, true, true, true, true, false, true, true, true, false, false] rfl rfl (by kernel_rfl) (fun _ _ _ h => h) (Or.inl ⟨by rfl, ?_⟩) ?_ ?_
                            rotate_left
                            · intro w'
                              first | (go_simp; with_reducible rfl) | (simp [go_sem, Instr.field, asAgg] <;> with_reducible rfl)
                            rotate_left
                            · simp only [Act.put, List.setIfInBounds_toArray, List.set_cons_zero, List.set_cons_succ, i64_w, i32_w]
                              rfl
                            refine take_ (i := 1) (N := some 108) (v := ?_) (a' := ?_) #[true, true, true, true, true, true, false, true, true, true, false, false] rfl rfl (by kernel_rfl) (fun _ _ _ h => h) (Or.inl ⟨by rfl, ?_⟩) hHeld ?_ ?_
                            rotate_left
                            · rintro w' ⟨s0, s1, s2⟩
                              go_simp
                              with_reducible rfl
                            rotate_left
                            · simp only [Act.put, List.setIfInBounds_toArray, List.set_cons_zero, List.set_cons_succ, i64_w, i32_w]
                              rfl
                            refine take_ (i := 6) (N := some 113) (v := ?_) (a' := ?_) #[true, true, true, true, true, true, true, true, true, true, false, false] rfl rfl (by kernel_rfl) (fun _ _ _ h => h) (Or.inl ⟨by rfl, ?_⟩) hHeld ?_ ?_
                            rotate_left
                            · rintro w' ⟨s0, s1, s2⟩
                              go_simp
                              with_reducible rfl
                            rotate_left
                            · simp only [Act.put, List.setIfInBounds_toArray, List.set_cons_zero, List.set_cons_succ, i64_w, i32_w]
                              rfl
                            refine take_ (i := 10) (N := some 117) (v := ?_) (a' := ?_) #[true, true, true, true, true, true, true, true, true, true, true, false] rfl rfl (by kernel_rfl) (fun _ _ _ h => h) (Or.inl ⟨by rfl, ?_⟩) hHeld ?_ ?_
                            rotate_left
                            · rintro w' ⟨s0, s1, s2⟩
                              go_simp
                              with_reducible rfl
                            rotate_left
                            · simp only [Act.put, List.setIfInBounds_toArray, List.set_cons_zero, List.set_cons_succ, i64_w, i32_w]
                              rfl
                            refine last_ (i := 11) (N := some 118) #[true, true, true, true, true, true, true, true, true, true, true, true] rfl rfl (by kernel_rfl) (by decide) (fun K hK => ?_)
                            refine goes_ Try.func71 (by kernel_rfl) rfl #[.int .i64 a0_0, (.slice (some ⟨bu, 0, none⟩) (rd_L1 rx (c + 1 + i)).length cu), (.slice Am (rd_L1 rx c).length cm), .int .i64 (rd (rd_L1 rx (c + 1 + i)) c)] (by rfl) rfl rfl (by simp only [List.map_toArray, List.map_cons, List.map_nil]; rfl) ?_
                            with_reducible refine (impl_takeOff.calls k3 a0_0 (fun k_ => some k_ = ((.slice (some ⟨bu, 0, none⟩) (rd_L1 rx (c + 1 + i)).length cu) : Value).ownBlock ∧ w.heap.size + 1 ≤ k_ ∧ k_ < hi) (.slice (some ⟨bu, 0, none⟩) (rd_L1 rx (c + 1 + i)).length cu) (rd_L1 rx (c + 1 + i)) Am cm (rd_L1 rx c) (rd (rd_L1 rx (c + 1 + i)) c) q w _ E6.out.be (E6.out.mx.row _ _ _ HU.out.1 HU.out.2) (E6.out.mx.other (by have := DD.out; have := JJ.out.1; omega) HU.out.1 HM.out.1 HM.out.2.1) HM.out.2.2 B6.out).mono ?_
                            rintro e w12 ⟨rfl, hR, hBw, hK⟩
                            refine ⟨_, rfl, ?_⟩
                            have E7 := Aside0.mk (E6.out.put HU.out.1 HU.out.2 hR hK hBw)
                            clear E6 hR hBw hK
                            refine hK.out _ _ ?_
                            clear hK K
                            refine norm_ (a' := ?_) ?_ ?_
                            rotate_left
                            · show Act.put _ (some 118) _ = _
                              simp only [Act.put, List.setIfInBounds_toArray, List.set_cons_zero, List.set_cons_succ, i64_w, i32_w]
                              rfl
                            refine done_ (by kernel_rfl) ?_
                            clear hHeld
                            (try go_wp2)
                            go_roundg k3
                            case measure => have := HK1.out; have := HK2.out; have := HK3.out; omega
                            case rel => exact ⟨_, _, rfl, H', ⟨by have := HK3.out; omega⟩, E7⟩
                          · rw [if_neg d1] at H
                            obtain rfl := Option.some.inj H
                            clear H
                            have d1b : decide (i < ((n0 - (c + 1).toNat : Nat) : Int)) = false := decide_eq_false (by have := hct.out.1; have := JJ.out; have := hcn.out.1; omega)
                            replace d1 := Aside0.mk d1
                            go_wp2
                            go_roundg k1
                            case measure => have := HK1.out; have := HK2.out; have := HK3.out; omega
                            case rel => exact ⟨_, _, _, vs2, rfl, rfl, H', ⟨by have := HK1.out; omega⟩, E⟩
                · rw [if_neg c3] at H
                  obtain rfl := Option.some.inj H
                  have a1b : decide (a < (n0 : Int)) = false := decide_eq_false (by have := hcnt.out.1; omega)
                  have H := H1.out
                  by_cases ca : a = (rows.length : Int)
                  · rw [if_pos ca] at H
                    have a2b : (a == (n0 : Int)) = true := by rw [ca, hcnt.out.1]; simp
                    obtain ⟨rfl, rfl⟩ := (by simpa using H : 0 = r1 ∧ 0 = r2)
                    clear H H1
                    replace ca := Aside0.mk ca
                    replace c3 := Aside0.mk c3
                    go_wp2
                    go_ret2
                    exact ⟨rfl, (by repeat (first | (with_reducible first | exact E.out.be | apply below_alloc | apply pw_below_drewN | apply below_drew1) | exact E.out.be))⟩
                  · rw [if_neg ca] at H
                    by_cases c4 : a = c
                    case neg => rw [if_neg c4] at H; by_cases c5 : 0 ≤ a; (rw [if_pos c5, if_neg c3] at H; exact absurd H (by simp)); (rw [if_neg c5] at H; exact absurd H (by simp))
                    subst c4
                    rw [if_pos rfl] at H
                    exact absurd C2.out (by have := hcnt.out.1; omega)
          · rw [if_neg c2] at H
            have c2b : decide (c < (n0 : Int)) = false := decide_eq_false c2
            replace c2 := Aside0.mk c2
            obtain ⟨rfl, rfl⟩ := (by simpa using H : out = r1 ∧ 0 = r2)
            clear H
            go_wp2
            go_ret2
            exact ⟨rfl, (by repeat (first | (with_reducible first | exact E.out.be | apply below_alloc | apply pw_below_drewN | apply below_drew1) | exact E.out.be))⟩

end Go.Proofs.Ytjpbemomocccaaa.P
