/- For every matrix the program's EchelonOf and the reference's answer alike, the argument stays, and the result is memory of its own. This text: part 2 of what it rests on: functions of the translation as plain Lean functions, and that the machine's calls come to their answers. -/
import Derived.Test.YtjpbemomocccaaaCFnExactEchelonOfa
import Derived.Lib.SliceRun
import Derived.Shelf.Abstract
namespace Go.Proofs.Ytjpbemomocccaaa.P
open Go.RowKit Go.Proofs.YtjpbemomocccaaaW.PrintWords Go.Proofs.YtjpbemomocccaaaW.PrintLast Go.Proofs.YtjpbemomocccaaaW.PrintMore
attribute [local go_sem] max2_int min2_int max_two min_two max_three min_three max_four min_four
set_option linter.unusedVariables false
set_option linter.unusedSimpArgs false

/-! ### spec_l03Echelon: function 48 (by hand) -/
def spec_l03Echelon.l2 : Nat → Int → Int → Int → List (List Int) → Int → Option (List (List Int))
  | 0, _, _, _, _, _ => none
  | k + 1, p, c, n, rows, i => if i < (rows.length : Int) then (if 0 ≤ i then (if i = n then spec_l03Echelon.l2 k p c n rows (wrap64 (i + 1)) else (if 0 ≤ c then (if c < ((rd_L1 rows i).length : Int) then (if rd (rd_L1 rows i) c = 0 then spec_l03Echelon.l2 k p c n rows (wrap64 (i + 1)) else (if 0 ≤ n then (if n < (rows.length : Int) then ((spec_l03Add.f k p (rd_L1 rows i) (rd_L1 rows n) (wrap64 (p - rd (rd_L1 rows i) c))).bind fun r => spec_l03Echelon.l2 k p c n (rows.set i.toNat r) (wrap64 (i + 1))) else none) else none)) else none) else none)) else none) else some rows
def spec_l03Echelon.l0 : Nat → Int → Int → List (List Int) → List Int → Int → Int → Option (List (List Int) × List Int × Int)
  | 0, _, _, _, _, _, _ => none
  | k + 1, p, cols, rows, piv, n, c => if c < cols then (if n < (rows.length : Int) then ((findB k rows c n).bind fun a => if a = (rows.length : Int) then spec_l03Echelon.l0 k p cols rows piv n (wrap64 (c + 1)) else (if 0 ≤ a then (if a < (rows.length : Int) then (if 0 ≤ n then (if 0 ≤ c then (if c < ((rd_L1 rows a).length : Int) then ((spec_l03Inverse.f k p (rd (rd_L1 rows a) c)).bind fun inv => ((spec_l03Times.f k p (rd_L1 rows a) inv).bind fun r => ((spec_l03Echelon.l2 k p c n ((swapB rows a.toNat n.toNat).set n.toNat r) 0).bind fun rows2 => if piv.length < 17592186044416 then spec_l03Echelon.l0 k p cols rows2 (piv ++ [c]) (wrap64 (n + 1)) (wrap64 (c + 1)) else none))) else none) else none) else none) else none) else none)) else some (rows, piv, n)) else some (rows, piv, n)
def spec_l03Echelon.f (k : Nat) (a0_0 : Int) (a0_1 : Int) (l0_2 : List (List Int)) : Option (Int × Int × (List (List Int)) × List Int) := (spec_l03Copy.f k a0_0 a0_1 l0_2).bind fun q => ((spec_l03Echelon.l0 k a0_0 a0_1 q.2.2 [] 0 0).bind fun t => if 0 ≤ t.2.2 then (if t.2.2 ≤ (t.1.length : Int) then some (q.1, q.2.1, t.1.take t.2.2.toNat, t.2.1) else none) else none)
theorem spec_l03Echelon.mono_2 : ∀ k p c n rows i, LeO (spec_l03Echelon.l2 k p c n rows i) (spec_l03Echelon.l2 (k + 1) p c n rows i)
  | 0, _, _, _, _, _ => fun r h => by simp [spec_l03Echelon.l2] at h
  | k + 1, p, c, n, rows, i => by
    have ih0 := spec_l03Echelon.mono_2 k
    unfold spec_l03Echelon.l2
    exact LeO.ite (LeO.ite (LeO.ite (ih0 _ _ _ _ _) (LeO.ite (LeO.ite (LeO.ite (ih0 _ _ _ _ _) (LeO.ite (LeO.ite (LeO.bind (spec_l03Add.mono _ _ _ _ _) (fun _ => ih0 _ _ _ _ _)) (LeO.refl _)) (LeO.refl _))) (LeO.refl _)) (LeO.refl _))) (LeO.refl _)) (LeO.refl _)
theorem spec_l03Echelon.mono_0 : ∀ k p cols rows piv n c, LeO (spec_l03Echelon.l0 k p cols rows piv n c) (spec_l03Echelon.l0 (k + 1) p cols rows piv n c)
  | 0, _, _, _, _, _, _ => fun r h => by simp [spec_l03Echelon.l0] at h
  | k + 1, p, cols, rows, piv, n, c => by
    have ih0 := spec_l03Echelon.mono_0 k
    unfold spec_l03Echelon.l0
    exact LeO.ite (LeO.ite (LeO.bind (findB.mono _ _ _ _) (fun _ => LeO.ite (ih0 _ _ _ _ _ _) (LeO.ite (LeO.ite (LeO.ite (LeO.ite (LeO.ite (LeO.bind (spec_l03Inverse.mono _ _ _) (fun _ => LeO.bind (spec_l03Times.mono _ _ _ _) (fun _ => LeO.bind (spec_l03Echelon.mono_2 _ _ _ _ _ _) (fun _ => LeO.ite (ih0 _ _ _ _ _ _) (LeO.refl _))))) (LeO.refl _)) (LeO.refl _)) (LeO.refl _)) (LeO.refl _)) (LeO.refl _)))) (LeO.refl _)) (LeO.refl _)
theorem spec_l03Echelon.mono : ∀ a0 a1 l k, LeO (spec_l03Echelon.f k a0 a1 l) (spec_l03Echelon.f (k + 1) a0 a1 l) := fun a0 a1 l k => by
  unfold spec_l03Echelon.f
  exact LeO.bind (spec_l03Copy.mono _ _ _ _) (fun _ => LeO.bind (spec_l03Echelon.mono_0 _ _ _ _ _ _ _) (fun _ => LeO.refl _))
set_option maxHeartbeats 8000000 in
set_option maxRecDepth 100000 in
theorem spec_l03Echelon.calls (k : Nat) (g0_ : Nat) (a0_0 : Int) (a0_1 : Int) (A0_2 : Option Addr) (c0_2 : Nat) (l0_2 : List (List Int)) (r1 : Int) (r2 : Int) (r3 : List (List Int)) (r4 : List Int) (w : World) (hx0_ : w.heap[g0_]? = some (.cells #[.int .i64 a0_0, .int .i64 a0_1, .slice A0_2 l0_2.length c0_2] 26 (0, 0))) (hr0_2 : Kd.C (Kd.slice 2 (Kd.int .i64)) w A0_2 l0_2.length l0_2) (hc0_2 : l0_2.length ≤ c0_2) (h : spec_l03Echelon.f k a0_0 a0_1 l0_2 = some (r1, r2, r3, r4)) :
    Calls Try.prog 48 #[.pointer (some ⟨g0_, 0, none⟩)] w fun e w' => ∃ v2_ v3_ : Value, e = .returned (.tuple #[.agg #[.int .i64 r1, .int .i64 r2, v2_], v3_]) ∧ Kd.S (Kd.slice 2 (Kd.int .i64)) 35 w' w.heap.size (fun k_ => some k_ ≠ (v3_ : Value).ownBlock) v2_ r3 ∧ Kd.R (Kd.int .i64) 2 w' w.heap.size (fun _ => True) v3_ r4 ∧ Below w.heap.size w w' := by
  have hum := Try.underlying26
  have HR := Aside0.mk hr0_2
  have HC := Aside0.mk hc0_2
  have HX := Aside0.mk hx0_
  clear hr0_2 hc0_2 hx0_
  unfold spec_l03Echelon.f at h
  replace h := Option.bind_eq_some_iff.mp h
  obtain ⟨⟨q1, q2, rows0⟩, At1, h⟩ := h
  replace h := Option.bind_eq_some_iff.mp h
  obtain ⟨⟨rs, ps, ns⟩, At2, h⟩ := h
  have A1_ := Aside0.mk At1
  have A2_ := Aside0.mk At2
  clear At1 At2
  dsimp only at h
  by_cases cl0 : 0 ≤ ns
  case neg => rw [if_neg cl0] at h; exact absurd h (by simp)
  rw [if_pos cl0] at h
  by_cases cl : ns ≤ (rs.length : Int)
  case neg => rw [if_neg cl] at h; exact absurd h (by simp)
  rw [if_pos cl] at h
  obtain ⟨rfl, rfl, rfl, rfl⟩ := (by simpa using h : q1 = r1 ∧ q2 = r2 ∧ rs.take ns.toNat = r3 ∧ ps = r4)
  have CL := Aside0.mk (And.intro cl0 cl)
  clear h cl cl0
  have hcz0 : w.cell? ⟨g0_, 0, none⟩ = some (.int .i64 a0_0) := (blk_cell HX.out 0).trans rfl
  have hcz1 : w.cell? ⟨g0_, 1, none⟩ = some (.int .i64 a0_1) := (blk_cell HX.out 1).trans rfl
  have hlt0 := blk_lt HX.out
  go_enter Try.func48, Try.ntmps48
  go_wp2_with (first | (go_at_call 65; (with_reducible refine (spec_l03Copy.calls k g0_ a0_0 a0_1 A0_2 c0_2 l0_2 q1 q2 rows0 _ ?sideX ?side1 ?side2 A1_.out).mono ?_); (case sideX => repeat (first | exact HX.out | (with_reducible refine blk_alloc ?_ _) | (with_reducible refine blk_drewN ?_ _) | (with_reducible refine blk_drew ?_))); (case side1 => repeat (first | exact HR.out | (with_reducible refine Kd.C_alloc ?_ _) | (with_reducible refine Kd.C_drewN ?_ _) | (with_reducible refine Kd.C_drew ?_))); (case side2 => exact HC.out); rintro e w1 ⟨v, rfl, ho, hb⟩; obtain ⟨vs0, hmx⟩ := Mx.of_S (lo := w.heap.size + 1) (hi := w1.heap.size) (Kd.S_mono (Kd.S_bound ho) (fun k_ hk_ => ⟨by have h_ := hk_.2.1; (try simp at h_); omega, hk_.2.2.1⟩)); have n0_ := Aside0.mk (blk_below (g := g0_) (o := .cells #[.int .i64 a0_0, .int .i64 a0_1, .slice A0_2 l0_2.length c0_2] 26 (0, 0)) (by repeat (first | exact HX.out | (with_reducible refine blk_alloc ?_ _) | (with_reducible refine blk_drewN ?_ _) | (with_reducible refine blk_drew ?_))) hb); have n1_ := Aside0.mk (blk_below (g := w.heap.size) (o := .cells #[(.int .i64 0 : Value), (.int .i64 0 : Value), (.slice none 0 0 : Value)] 26 (0, 0)) (by repeat (first | exact blk_new_at (by simp) | (with_reducible refine blk_drewN ?_ _) | (with_reducible refine blk_drew ?_) | (with_reducible refine blk_alloc ?_ _))) hb); have n3_ : Aside0 (Below w.heap.size w w1) := ⟨below_step (by repeat (first | exact Below.refl _ _ | apply below_alloc | apply pw_below_drewN | apply below_drew1)) hb⟩; have E0 := Aside0.mk hmx; obtain ⟨A1, c1, e1, hc1⟩ := E0.out.slice; subst e1; have HSZ : Aside0 (w.heap.size + 1 ≤ w1.heap.size) := ⟨by have h_ := hb.size; (try simp at h_); omega⟩; clear ho hb hmx hcz0 hcz1 hc1; have hcz0 : w1.cell? ⟨g0_, 0, none⟩ = some (.int .i64 a0_0) := (blk_cell n0_.out 0).trans rfl; have hcz1 : w1.cell? ⟨g0_, 1, none⟩ = some (.int .i64 a0_1) := (blk_cell n0_.out 1).trans rfl; have hlt1 := blk_lt n0_.out) | ((with_reducible refine gate_dst (N := 18) rfl ?_); refine Kd.R_lit (Kd.int .i64) _ 2 ?hg (N := 18) ?hd (xs := ([] : List Int)) (inner := []) (ok := fun k_ => w1.heap.size + 1 ≤ k_) (okp := fun k_ => w1.heap.size + 1 ≤ k_) ?hr ?hp (fun _ hk => hk) (by simp) (Below.refl _ _) (Nat.le_refl _) (by simp) ?_; (case hd => rfl); (case hg => rfl); (case hr => first | (go_simp; done) | (go_simp; rfl)); (case hp => exact (Reps.none _ _)); intro vp w2 ho3 hb hg_ hnew_; clear hg_ hnew_; have EE := Mw.mk (w := w) (lo := w.heap.size + 1) (hi := w1.heap.size) (top := w1.heap.size + 1) (bx := [(g0_, .cells #[.int .i64 a0_0, .int .i64 a0_1, .slice A0_2 l0_2.length c0_2] 26 (0, 0)), (w.heap.size, .cells #[(.int .i64 0 : Value), (.int .i64 0 : Value), (.slice none 0 0 : Value)] 26 (0, 0)), (w1.heap.size, .cells #[.int .i64 q1, .int .i64 q2, (.slice A1 rows0.length c1)] 26 (0, 0))]) ((E0.out.lower (by simp)).alloc (.cells #[.int .i64 q1, .int .i64 q2, (.slice A1 rows0.length c1)] 26 (0, 0))) (fun b hm => by rcases List.mem_cons.1 hm with rfl | hm; exact ⟨blk_alloc n0_.out _, .inl (by show g0_ < _; omega), (by show g0_ < _; have := HSZ.out; omega)⟩; rcases List.mem_cons.1 hm with rfl | hm; exact ⟨blk_alloc n1_.out _, .inl (by show w.heap.size < _; omega), (by show w.heap.size < _; have := HSZ.out; omega)⟩; rcases List.mem_cons.1 hm with rfl | hm; exact ⟨blk_new _ _, .inr (Nat.le_refl _), Nat.lt_succ_self _⟩; cases hm) (below_alloc n3_.out _) (by omega) (by omega) (by simp); have P0 := Aside0.mk (Kd.R_lower ho3 (below_size EE.be)); have E := Aside0.mk (EE.below hb); clear EE E0 n0_ n1_ n3_ ho3 hb hcz0 hcz1 hlt1))
  obtain ⟨n0, hn0⟩ : ∃ n, n = rows0.length := ⟨_, rfl⟩
  rw [← hn0] at E ⊢
  obtain ⟨hi, hhi⟩ : ∃ m, m = w1.heap.size := ⟨_, rfl⟩
  simp only [← hhi] at E P0 HSZ ⊢
  clear hn0 hhi
  go_loopg [6, 7, 8] k (fun kq v6 v7 v8 w' => ∃ (n : Int) (c : Int) (rows : List (List Int)) (piv : List Int) (vs : List Value), v7 = .int .i64 n ∧ v8 = .int .i64 c ∧ Aside0 (spec_l03Echelon.l0 kq a0_0 a0_1 rows piv n c = some (rs, ps, ns)) ∧ Aside0 (kq ≤ k) ∧ Aside0 (Mw w w' (w.heap.size + 1) hi (hi + 1) ([(g0_, .cells #[.int .i64 a0_0, .int .i64 a0_1, .slice A0_2 l0_2.length c0_2] 26 (0, 0)), (w.heap.size, .cells #[(.int .i64 0 : Value), (.int .i64 0 : Value), (.slice none 0 0 : Value)] 26 (0, 0)), (hi, .cells #[.int .i64 q1, .int .i64 q2, (.slice A1 n0 c1)] 26 (0, 0))]) (.slice A1 n0 c1) vs rows) ∧ Aside0 (Kd.R (Kd.int .i64) 2 w' w.heap.size (fun k_ => hi + 1 ≤ k_) v6 piv))
  case atStart => exact ⟨0, 0, rows0, [], vs0, rfl, rfl, A2_, ⟨Nat.le_refl _⟩, E, P0⟩
  case round =>
    clear E P0 A2_
    obtain ⟨n, c, rows, piv, vs, rfl, rfl, HA, HK1, E, P⟩ := hrel
    have hcnt := Aside0.mk E.out.mx.count.1
    have hc1_ : wr.cell? ⟨g0_, 1, none⟩ = some (.int .i64 a0_1) := (blk_cell (E.out.box (b := g0_) (o := .cells #[.int .i64 a0_0, .int .i64 a0_1, .slice A0_2 l0_2.length c0_2] 26 (0, 0)) (by simp)) 1).trans rfl
    have hc2_ : wr.cell? ⟨hi, 2, none⟩ = some ((.slice A1 n0 c1)) := (blk_cell (E.out.box (b := hi) (o := .cells #[.int .i64 q1, .int .i64 q2, (.slice A1 n0 c1)] 26 (0, 0)) (by simp)) 2).trans rfl
    cases gk with
    | zero => exact absurd HA.out (by simp [spec_l03Echelon.l0])
    | succ k1 =>
      have H := HA.out
      clear HA
      simp only [spec_l03Echelon.l0] at H
      by_cases c2 : c < a0_1
      · rw [if_pos c2] at H
        have c2b : decide (c < a0_1) = true := decide_eq_true c2
        replace c2 := eq_true c2
        by_cases c0 : n < (rows.length : Int)
        · rw [if_pos c0] at H
          have c0b : decide (n < (n0 : Int)) = true := decide_eq_true (by have := hcnt.out; omega)
          have c0c := eq_true (show n < (n0 : Int) by have := hcnt.out; omega)
          have C0 := Aside0.mk c0
          clear c0
          replace H := Option.bind_eq_some_iff.mp H
          obtain ⟨at_, At, H⟩ := H
          have B1 := Aside0.mk At
          have H1 := Aside0.mk H
          clear At H
          obtain ⟨A5, c5, e5⟩ := Kd.R_slice P.out
          subst e5
          obtain ⟨wo, rfl⟩ : ∃ wo : World, wo = wr := ⟨_, rfl⟩
          go_wp2
          go_loopg [9] k1 (fun kq v9 w' => ∃ (a : Int), v9 = .int .i64 a ∧ Aside0 (findB kq rows c a = some at_) ∧ Aside0 (kq ≤ k1) ∧ Aside0 (Mw w w' (w.heap.size + 1) hi (hi + 1) ([(g0_, .cells #[.int .i64 a0_0, .int .i64 a0_1, .slice A0_2 l0_2.length c0_2] 26 (0, 0)), (w.heap.size, .cells #[(.int .i64 0 : Value), (.int .i64 0 : Value), (.slice none 0 0 : Value)] 26 (0, 0)), (hi, .cells #[.int .i64 q1, .int .i64 q2, (.slice A1 n0 c1)] 26 (0, 0))]) (.slice A1 n0 c1) vs rows) ∧ Aside0 (Kd.R (Kd.int .i64) 2 w' w.heap.size (fun k_ => hi + 1 ≤ k_) (.slice A5 piv.length c5) piv))
          case atStart => exact ⟨n, rfl, B1, ⟨Nat.le_refl _⟩, E, P⟩
          case round =>
            clear B1 E P hc1_ hc2_
            obtain ⟨a, rfl, HA, HK2, E, P⟩ := hrel
            have hc1_ : wr.cell? ⟨g0_, 1, none⟩ = some (.int .i64 a0_1) := (blk_cell (E.out.box (b := g0_) (o := .cells #[.int .i64 a0_0, .int .i64 a0_1, .slice A0_2 l0_2.length c0_2] 26 (0, 0)) (by simp)) 1).trans rfl
            have hc2_ : wr.cell? ⟨hi, 2, none⟩ = some ((.slice A1 n0 c1)) := (blk_cell (E.out.box (b := hi) (o := .cells #[.int .i64 q1, .int .i64 q2, (.slice A1 n0 c1)] 26 (0, 0)) (by simp)) 2).trans rfl
            cases gk with
            | zero => exact absurd HA.out (by simp [findB])
            | succ k2 =>
              have H := HA.out
              clear HA
              simp only [findB] at H
              by_cases c3 : a < (rows.length : Int)
              · rw [if_pos c3] at H
                by_cases c4 : 0 ≤ a
                case neg => rw [if_neg c4] at H; exact absurd H (by simp)
                rw [if_pos c4] at H
                by_cases c5_ : 0 ≤ c
                case neg => rw [if_neg c5_] at H; exact absurd H (by simp)
                rw [if_pos c5_] at H
                by_cases c6 : c < ((rd_L1 rows a).length : Int)
                case neg => rw [if_neg c6] at H; exact absurd H (by simp)
                rw [if_pos c6] at H
                obtain ⟨u, hu, hr⟩ := E.out.mx.rd_ a c4 c3
                obtain ⟨b, cb, e, b1, b2, hx⟩ := E.out.mx.get hu hr c c5_ c6
                obtain ⟨la, hla⟩ : ∃ m, m = (rd_L1 rows a).length := ⟨_, rfl⟩
                rw [← hla] at e c6
                subst e
                obtain ⟨g, cg, e, g1, g2, g3, g4⟩ := E.out.mx.form (by omega)
                injection e with e1 e2 e3
                subst e1
                have hy := (E.out.mx.cell hu).1
                have a1b : decide (a < (n0 : Int)) = true := decide_eq_true (by omega)
                have a1c := eq_true (show a < (n0 : Int) by omega)
                have a2b : decide (0 ≤ a) = true := decide_eq_true c4
                have a3b : decide (0 ≤ c) = true := decide_eq_true c5_
                have a4b : decide (c < (la : Int)) = true := decide_eq_true c6
                have G := Aside0.mk (And.intro g1 (And.intro g2 (And.intro b1 b2)))
                have KK := Aside0.mk (And.intro c3 (And.intro c4 (And.intro c5_ c6)))
                have HUR := Aside0.mk (And.intro hu hr)
                have HLA := Aside0.mk hla
                clear g1 g2 g3 g4 e2 e3 b1 b2 hu hr hla
                replace c3 := eq_true c3
                replace c4 := eq_true c4
                replace c5_ := eq_true c5_
                replace c6 := eq_true c6
                by_cases c7 : rd (rd_L1 rows a) c = 0
                · rw [if_pos c7] at H
                  have a5b : (rd (rd_L1 rows a) c == 0) = true := by rw [c7]; rfl
                  replace c7 := Aside0.mk c7
                  have H' := Aside0.mk H
                  clear H
                  go_wp2
                  go_roundg k2
                  case measure => have := HK1.out; have := HK2.out; omega
                  case rel => exact ⟨_, rfl, H', ⟨by have := HK2.out; omega⟩, E, P⟩
                · rw [if_neg c7] at H
                  have a5b : (rd (rd_L1 rows a) c == 0) = false := beq_eq_false_iff_ne.mpr c7
                  replace c7 := Aside0.mk c7
                  obtain rfl := Option.some.inj H
                  clear H
                  have H := H1.out
                  clear H1
                  have ca : ¬ a = (rows.length : Int) := by have := KK.out.1; omega
                  rw [if_neg ca, if_pos KK.out.2.1, if_pos KK.out.1] at H
                  have a6b : (a == (n0 : Int)) = false := beq_eq_false_iff_ne.mpr (by have := hcnt.out; omega)
                  clear ca
                  by_cases c8 : 0 ≤ n
                  case neg => rw [if_neg c8] at H; exact absurd H (by simp)
                  rw [if_pos c8] at H
                  rw [if_pos KK.out.2.2.1, if_pos (by have := KK.out.2.2.2; have := HLA.out; omega)] at H
                  replace H := Option.bind_eq_some_iff.mp H
                  obtain ⟨inv, At, H⟩ := H
                  have B3 := Aside0.mk At
                  clear At
                  replace H := Option.bind_eq_some_iff.mp H
                  obtain ⟨r, At, H⟩ := H
                  have B4 := Aside0.mk At
                  clear At
                  replace H := Option.bind_eq_some_iff.mp H
                  obtain ⟨rows2, At, H⟩ := H
                  have B5 := Aside0.mk At
                  clear At
                  by_cases c10 : piv.length < 17592186044416
                  case neg => rw [if_neg c10] at H; exact absurd H (by simp)
                  rw [if_pos c10] at H
                  have H' := Aside0.mk H
                  clear H
                  have C8 := Aside0.mk c8
                  have C10 := Aside0.mk c10
                  have a7b : decide (0 ≤ n) = true := decide_eq_true c8
                  have a7c := eq_true c8
                  clear c8 c10
                  go_wp2
                  obtain ⟨un, hun, hrn⟩ := E.out.mx.rd_ n C8.out C0.out
                  obtain ⟨An, cn, en, _, _⟩ := E.out.mx.rslice hun hrn
                  subst en
                  have HN := Aside0.mk (And.intro hun hrn)
                  clear hun hrn hx hy hc1_ hc2_
                  have E1 := Aside0.mk E.out.drew
                  have P1 := Aside0.mk (Kd.R_drew P.out)
                  clear E P
                  refine start_ (n := 10) (S := fun w' => w'.cell? ⟨hi, 2, none⟩ = some (.slice (some ⟨g, 0, none⟩) n0 c1) ∧ w'.cell? ⟨g, n.toNat, none⟩ = some (.slice An (rd_L1 rows n).length cn)) (ds := [9]) #[false, false, false, false, false, false, false, false, false, false] (by kernel_rfl) rfl rfl ⟨(blk_cell (E1.out.box (b := hi) (o := .cells #[.int .i64 q1, .int .i64 q2, (.slice (some ⟨g, 0, none⟩) n0 c1)] 26 (0, 0)) (by simp)) 2).trans rfl, (E1.out.mx.cell HN.out.1).1⟩ (fun hHeld => ?_)
                  generalize wr.drew = w5 at E1 P1 hHeld ⊢
                  obtain ⟨hs1, hs2⟩ := E1.out.mx.cell HUR.out.1
                  have hgh : hi ≠ g := by have := G.out; omega
                  have hgb : b ≠ g := blk_ne_row E1.out.mx HUR.out.1 HUR.out.2 (by have := KK.out; have := HLA.out; omega)
                  have hs3 : (w5.setCell ⟨g, a.toNat, none⟩ (.slice An (rd_L1 rows n).length cn)).cell? ⟨hi, 2, none⟩ = some (.slice (some ⟨g, 0, none⟩) n0 c1) := (cell_far (p := ⟨g, a.toNat, none⟩) (a := ⟨hi, 2, none⟩) hgh _).trans ((blk_cell (E1.out.box (b := hi) (o := .cells #[.int .i64 q1, .int .i64 q2, (.slice (some ⟨g, 0, none⟩) n0 c1)] 26 (0, 0)) (by simp)) 2).trans rfl)
                  obtain ⟨vb, hs4⟩ := cell?_setCell_some (w := w5) (p := ⟨g, a.toNat, none⟩) (x := (.slice An (rd_L1 rows n).length cn)) (q := ⟨g, n.toNat, none⟩) (E1.out.mx.cell HN.out.1).1
                  have hs5 : (w5.setCell ⟨g, a.toNat, none⟩ (.slice An (rd_L1 rows n).length cn)).frozen? ⟨g, n.toNat, none⟩ = false := (frozen_set _ _ _ _).trans (E1.out.mx.cell HN.out.1).2
                  have hs6 : ((w5.setCell ⟨g, a.toNat, none⟩ (.slice An (rd_L1 rows n).length cn)).setCell ⟨g, n.toNat, none⟩ (.slice (some ⟨b, 0, none⟩) la cb)).cell? ⟨b, c.toNat, none⟩ = some (.int .i64 (rd (rd_L1 rows a) c)) := (cell_far (p := ⟨g, n.toNat, none⟩) (a := ⟨b, c.toNat, none⟩) hgb _).trans ((cell_far (p := ⟨g, a.toNat, none⟩) (a := ⟨b, c.toNat, none⟩) hgb _).trans (E1.out.mx.num HUR.out.1 HUR.out.2 c KK.out.2.2.1 (by have := KK.out; have := HLA.out; omega)))
                  refine pure_ (i := 0) (N := some 63) (v := ?_) (a' := ?_) #[true, false, false, false, false, false, false, false, false, false] rfl rfl (by kernel_rfl) (fun _ _ _ h => h) (Or.inl ⟨by rfl, ?_⟩) ?_ ?_
                  rotate_left
                  · intro w'
                    first | (go_simp; with_reducible rfl) | (simp [go_sem, Instr.field, asAgg] <;> with_reducible rfl)
                  rotate_left
                  · simp only [Act.put, List.setIfInBounds_toArray, List.set_cons_zero, List.set_cons_succ, i64_w, i32_w]
                    rfl
                  refine pure_ (i := 2) (N := some 65) (v := ?_) (a' := ?_) #[true, false, true, false, false, false, false, false, false, false] rfl rfl (by kernel_rfl) (fun _ _ _ h => h) (Or.inl ⟨by rfl, ?_⟩) ?_ ?_
                  rotate_left
                  · intro w'
                    first | (go_simp; with_reducible rfl) | (simp [go_sem, Instr.field, asAgg] <;> with_reducible rfl)
                  rotate_left
                  · simp only [Act.put, List.setIfInBounds_toArray, List.set_cons_zero, List.set_cons_succ, i64_w, i32_w]
                    rfl
                  refine pure_ (i := 3) (N := some 66) (v := ?_) (a' := ?_) #[true, false, true, true, false, false, false, false, false, false] rfl rfl (by kernel_rfl) (fun _ _ _ h => h) (Or.inl ⟨by rfl, ?_⟩) ?_ ?_
                  rotate_left
                  · intro w'
                    first | (go_simp; with_reducible rfl) | (simp [go_sem, Instr.field, asAgg] <;> with_reducible rfl)
                  rotate_left
                  · simp only [Act.put, List.setIfInBounds_toArray, List.set_cons_zero, List.set_cons_succ, i64_w, i32_w]
                    rfl
                  refine pure_ (i := 5) (N := some 68) (v := ?_) (a' := ?_) #[true, false, true, true, false, true, false, false, false, false] rfl rfl (by kernel_rfl) (fun _ _ _ h => h) (Or.inl ⟨by rfl, ?_⟩) ?_ ?_
                  rotate_left
                  · intro w'
                    first | (go_simp; with_reducible rfl) | (simp [go_sem, Instr.field, asAgg] <;> with_reducible rfl)
                  rotate_left
                  · simp only [Act.put, List.setIfInBounds_toArray, List.set_cons_zero, List.set_cons_succ, i64_w, i32_w]
                    rfl
                  refine take_ (i := 1) (N := some 64) (v := ?_) (a' := ?_) #[true, true, true, true, false, true, false, false, false, false] rfl rfl (by kernel_rfl) (fun _ _ _ h => h) (Or.inl ⟨by rfl, ?_⟩) hHeld ?_ ?_
                  rotate_left
                  · rintro w' ⟨s0, s1⟩
                    go_simp
                    with_reducible rfl
                  rotate_left
                  · simp only [Act.put, List.setIfInBounds_toArray, List.set_cons_zero, List.set_cons_succ, i64_w, i32_w]
                    rfl
                  refine take_ (i := 4) (N := some 67) (v := ?_) (a' := ?_) #[true, true, true, true, true, true, false, false, false, false] rfl rfl (by kernel_rfl) (fun _ _ _ h => h) (Or.inl ⟨by rfl, ?_⟩) hHeld ?_ ?_
                  rotate_left
                  · rintro w' ⟨s0, s1⟩
                    go_simp
                    with_reducible rfl
                  rotate_left
                  · simp only [Act.put, List.setIfInBounds_toArray, List.set_cons_zero, List.set_cons_succ, i64_w, i32_w]
                    rfl
                  refine pure_ (i := 6) (N := some 69) (v := ?_) (a' := ?_) #[true, true, true, true, true, true, true, false, false, false] rfl rfl (by kernel_rfl) (fun _ _ _ h => h) (Or.inl ⟨by rfl, ?_⟩) ?_ ?_
                  rotate_left
                  · intro w'
                    first | (go_simp; with_reducible rfl) | (simp [go_sem, Instr.field, asAgg] <;> with_reducible rfl)
                  rotate_left
                  · simp only [Act.put, List.setIfInBounds_toArray, List.set_cons_zero, List.set_cons_succ, i64_w, i32_w]
                    rfl
                  refine take_ (i := 7) (N := some 70) (v := ?_) (a' := ?_) #[true, true, true, true, true, true, true, true, false, false] rfl rfl (by kernel_rfl) (fun _ _ _ h => h) (Or.inl ⟨by rfl, ?_⟩) hHeld ?_ ?_
                  rotate_left
                  · rintro w' ⟨s0, s1⟩
                    go_simp
                    with_reducible rfl
                  rotate_left
                  · simp only [Act.put, List.setIfInBounds_toArray, List.set_cons_zero, List.set_cons_succ, i64_w, i32_w]
                    rfl
                  refine pure_ (i := 8) (N := some 71) (v := ?_) (a' := ?_) #[true, true, true, true, true, true, true, true, true, false] rfl rfl (by kernel_rfl) (fun _ _ _ h => h) (Or.inl ⟨by rfl, ?_⟩) ?_ ?_
                  rotate_left
                  · intro w'
                    first | (go_simp; with_reducible rfl) | (simp [go_sem, Instr.field, asAgg] <;> with_reducible rfl)
                  rotate_left
                  · simp only [Act.put, List.setIfInBounds_toArray, List.set_cons_zero, List.set_cons_succ, i64_w, i32_w]
                    rfl
                  refine last_ (i := 9) (N := none) #[true, true, true, true, true, true, true, true, true, true] rfl rfl (by kernel_rfl) (by decide) (fun K hK => ?_)
                  refine skip_ (w1 := ?_) (by rfl) rfl ?_ ?_
                  rotate_left
                  · go_simp
                    rfl
                  refine hK.out _ _ ?_
                  clear hK K
                  refine done_ (by kernel_rfl) ?_
                  clear hHeld
                  go_wp2_with (first | (go_at_call 66; (with_reducible refine (spec_l03Inverse.calls k1 a0_0 (rd (rd_L1 rows a) c) inv _ B3.out).mono ?_); rintro e w7 ⟨rfl, hd⟩; have E2 := Aside0.mk ((E1.out.swap HUR.out.1 HN.out.1 HUR.out.2 HN.out.2).below hd.below); have P2 := Aside0.mk (Kd.R_below (R_aside2 (g := g) (i := a.toNat) (j := n.toNat) (a := (.slice An (rd_L1 rows n).length cn)) (b := (.slice (some ⟨b, 0, none⟩) la cb)) P1.out (by have := G.out; omega)) hd.below); rw [show (rows.set a.toNat (rd_L1 rows n)).set n.toNat (rd_L1 rows a) = (swapB rows a.toNat n.toNat) from by unfold swapB; rw [Int.toNat_of_nonneg KK.out.2.1, Int.toNat_of_nonneg C8.out]] at E2; have HN2 : Aside0 (((vs.set a.toNat (.slice An (rd_L1 rows n).length cn)).set n.toNat (.slice (some ⟨b, 0, none⟩) la cb))[n.toNat]? = some (.slice (some ⟨b, 0, none⟩) la cb)) := ⟨List.getElem?_set_self (by rw [List.length_set]; exact (List.getElem?_eq_some_iff.1 HN.out.1).1)⟩; have HR2 : Aside0 ((swapB rows a.toNat n.toNat)[n.toNat]? = some (rd_L1 rows a)) := ⟨by unfold swapB; rw [Int.toNat_of_nonneg KK.out.2.1]; exact List.getElem?_set_self (by rw [List.length_set]; exact (List.getElem?_eq_some_iff.1 HN.out.2).1)⟩; clear E1 P1 hd hs3 hs4 hs5 hs6 hs1 hs2) | (go_at_call 90; (with_reducible refine (spec_l03Times.calls k1 a0_0 (fun k_ => some k_ = ((.slice (some ⟨b, 0, none⟩) la cb) : Value).ownBlock ∧ w.heap.size + 1 ≤ k_ ∧ k_ < hi) (.slice (some ⟨b, 0, none⟩) la cb) (rd_L1 rows a) inv r w _ E2.out.be (E2.out.mx.row _ _ _ HN2.out HR2.out) B4.out).mono ?_); rintro e w9 ⟨rfl, hR, hBw, hK⟩; have E5 := Aside0.mk (E2.out.put HN2.out HR2.out hR hK hBw); have P5 := Aside0.mk (R_aside P2.out (Nat.le_succ _) hK); clear E2 P2 hR hBw hK HR2; have hc1_ : w9.cell? ⟨g0_, 1, none⟩ = some (.int .i64 a0_1) := (blk_cell (E5.out.box (b := g0_) (o := .cells #[.int .i64 a0_0, .int .i64 a0_1, .slice A0_2 l0_2.length c0_2] 26 (0, 0)) (by simp)) 1).trans rfl; have hc2_ : w9.cell? ⟨hi, 2, none⟩ = some ((.slice (some ⟨g, 0, none⟩) n0 c1)) := (blk_cell (E5.out.box (b := hi) (o := .cells #[.int .i64 q1, .int .i64 q2, (.slice (some ⟨g, 0, none⟩) n0 c1)] 26 (0, 0)) (by simp)) 2).trans rfl))
                  have HV : Aside0 (∃ vs2 : List Value, vs2[n.toNat]? = some (.slice (some ⟨b, 0, none⟩) la cb) ∧ Mw w w9 (w.heap.size + 1) hi (hi + 1) ([(g0_, .cells #[.int .i64 a0_0, .int .i64 a0_1, .slice A0_2 l0_2.length c0_2] 26 (0, 0)), (w.heap.size, .cells #[(.int .i64 0 : Value), (.int .i64 0 : Value), (.slice none 0 0 : Value)] 26 (0, 0)), (hi, .cells #[.int .i64 q1, .int .i64 q2, (.slice (some ⟨g, 0, none⟩) n0 c1)] 26 (0, 0))]) (.slice (some ⟨g, 0, none⟩) n0 c1) vs2 ((swapB rows a.toNat n.toNat).set n.toNat r)) := ⟨_, HN2.out, E5.out⟩
                  clear E5 HN2
                  obtain ⟨vs2, HN2, E5⟩ := HV.out
                  replace HN2 := Aside0.mk HN2
                  replace E5 := Aside0.mk E5
                  clear HV
                  generalize (swapB rows a.toNat n.toNat).set n.toNat r = rz at E5 B5
                  go_loopg [11] k1 (fun kq v11 w' => ∃ (i : Int) (rx : List (List Int)), v11 = .int .i64 i ∧ Aside0 (spec_l03Echelon.l2 kq a0_0 c n rx i = some rows2) ∧ Aside0 (kq ≤ k1) ∧ Aside0 (Mw w w' (w.heap.size + 1) hi (hi + 1) ([(g0_, .cells #[.int .i64 a0_0, .int .i64 a0_1, .slice A0_2 l0_2.length c0_2] 26 (0, 0)), (w.heap.size, .cells #[(.int .i64 0 : Value), (.int .i64 0 : Value), (.slice none 0 0 : Value)] 26 (0, 0)), (hi, .cells #[.int .i64 q1, .int .i64 q2, (.slice (some ⟨g, 0, none⟩) n0 c1)] 26 (0, 0))]) (.slice (some ⟨g, 0, none⟩) n0 c1) vs2 rx) ∧ Aside0 (Kd.R (Kd.int .i64) 2 w' w.heap.size (fun k_ => hi + 1 ≤ k_) (.slice A5 piv.length c5) piv))
                  case atStart => exact ⟨0, rz, rfl, B5, ⟨Nat.le_refl _⟩, E5, P5⟩
                  case round =>
                    clear B5 E5 P5 hc1_ hc2_
                    obtain ⟨i, rx, rfl, HA, HK3, E, P⟩ := hrel
                    have hct := Aside0.mk E.out.mx.count.1
                    have hc1_ : wr.cell? ⟨g0_, 1, none⟩ = some (.int .i64 a0_1) := (blk_cell (E.out.box (b := g0_) (o := .cells #[.int .i64 a0_0, .int .i64 a0_1, .slice A0_2 l0_2.length c0_2] 26 (0, 0)) (by simp)) 1).trans rfl
                    have hc2_ : wr.cell? ⟨hi, 2, none⟩ = some ((.slice (some ⟨g, 0, none⟩) n0 c1)) := (blk_cell (E.out.box (b := hi) (o := .cells #[.int .i64 q1, .int .i64 q2, (.slice (some ⟨g, 0, none⟩) n0 c1)] 26 (0, 0)) (by simp)) 2).trans rfl
                    cases gk with
                    | zero => exact absurd HA.out (by simp [spec_l03Echelon.l2])
                    | succ k3 =>
                      have H := HA.out
                      clear HA
                      simp only [spec_l03Echelon.l2] at H
                      by_cases d1 : i < (rx.length : Int)
                      · rw [if_pos d1] at H
                        by_cases d2 : 0 ≤ i
                        case neg => rw [if_neg d2] at H; exact absurd H (by simp)
                        rw [if_pos d2] at H
                        obtain ⟨u, hu, hr⟩ := E.out.mx.rd_ i d2 d1
                        obtain ⟨Au, cu, eu, _, _⟩ := E.out.mx.rslice hu hr
                        subst eu
                        have hy := (E.out.mx.cell hu).1
                        have d1b : decide (i < (n0 : Int)) = true := decide_eq_true (by have := hct.out; omega)
                        have d1c := eq_true (show i < (n0 : Int) by have := hct.out; omega)
                        have d2b : decide (0 ≤ i) = true := decide_eq_true d2
                        have HU := Aside0.mk (And.intro hu hr)
                        have HI := Aside0.mk (And.intro d1 d2)
                        clear hu hr d1
                        replace d2 := eq_true d2
                        by_cases d3 : i = n
                        · rw [if_pos d3] at H
                          have d3b : (i == n) = true := beq_iff_eq.mpr d3
                          have d3c : (i != n) = false := by rw [bne, d3b]; rfl
                          replace d3 := Aside0.mk d3
                          have H' := Aside0.mk H
                          clear H
                          go_wp2
                          go_roundg k3
                          case measure => have := HK1.out; have := HK2.out; have := HK3.out; omega
                          case rel => exact ⟨_, rx, rfl, H', ⟨by have := HK3.out; omega⟩, E, P⟩
                        · rw [if_neg d3] at H
                          have d3b : (i == n) = false := beq_eq_false_iff_ne.mpr d3
                          have d3c : (i != n) = true := bne_iff_ne.mpr d3
                          have D3 := Aside0.mk d3
                          clear d3
                          rw [if_pos KK.out.2.2.1] at H
                          by_cases d6 : c < ((rd_L1 rx i).length : Int)
                          case neg => rw [if_neg d6] at H; exact absurd H (by simp)
                          rw [if_pos d6] at H
                          obtain ⟨bu, cb2, e, _, _, hx⟩ := E.out.mx.get HU.out.1 HU.out.2 c KK.out.2.2.1 d6
                          injection e with e1 _ e3
                          subst e1
                          subst e3
                          have d6b : decide (c < ((rd_L1 rx i).length : Int)) = true := decide_eq_true d6
                          have D6 := Aside0.mk d6
                          replace d6 := eq_true d6
                          by_cases d7 : rd (rd_L1 rx i) c = 0
                          · rw [if_pos d7] at H
                            have d7b : (rd (rd_L1 rx i) c == 0) = true := beq_iff_eq.mpr d7
                            have d7c : (rd (rd_L1 rx i) c != 0) = false := by rw [bne, d7b]; rfl
                            replace d7 := Aside0.mk d7
                            have H' := Aside0.mk H
                            clear H
                            go_wp2
                            go_roundg k3
                            case measure => have := HK1.out; have := HK2.out; have := HK3.out; omega
                            case rel => exact ⟨_, rx, rfl, H', ⟨by have := HK3.out; omega⟩, E, P⟩
                          · rw [if_neg d7] at H
                            have d7b : (rd (rd_L1 rx i) c == 0) = false := beq_eq_false_iff_ne.mpr d7
                            have d7c : (rd (rd_L1 rx i) c != 0) = true := bne_iff_ne.mpr d7
                            replace d7 := Aside0.mk d7
                            rw [if_pos C8.out] at H
                            by_cases d5 : n < (rx.length : Int)
                            case neg => rw [if_neg d5] at H; exact absurd H (by simp)
                            rw [if_pos d5] at H
                            replace H := Option.bind_eq_some_iff.mp H
                            obtain ⟨q, At, H⟩ := H
                            have B6 := Aside0.mk At
                            clear At
                            have H' := Aside0.mk H
                            clear H
                            obtain ⟨un, hun, hrn⟩ := E.out.mx.rd_ n C8.out d5
                            obtain ⟨Am, cm, em, hcm, _⟩ := E.out.mx.rslice hun hrn
                            rw [HN2.out] at hun
                            have em2 := (Option.some.inj hun).trans em
                            injection em2 with em1 em3 em4
                            have HLC := Aside0.mk (And.intro hrn hcm)
                            subst em1
                            subst em4
                            subst em3
                            clear hun hrn hcm em d5
                            go_wp2
                            have E6 := Aside0.mk E.out.drew
                            have P6 := Aside0.mk (Kd.R_drew P.out)
                            clear E P hy hx hc1_ hc2_
                            refine start_ (n := 18) (S := fun w' => w'.cell? ⟨hi, 2, none⟩ = some (.slice (some ⟨g, 0, none⟩) n0 c1) ∧ w'.cell? ⟨g, i.toNat, none⟩ = some (.slice (some ⟨bu, 0, none⟩) (rd_L1 rx i).length cu) ∧ w'.cell? ⟨bu, c.toNat, none⟩ = some (.int .i64 (rd (rd_L1 rx i) c))) (ds := [17]) #[false, false, false, false, false, false, false, false, false, false, false, false, false, false, false, false, false, false] (by kernel_rfl) rfl rfl ⟨(blk_cell (E6.out.box (b := hi) (o := .cells #[.int .i64 q1, .int .i64 q2, (.slice (some ⟨g, 0, none⟩) n0 c1)] 26 (0, 0)) (by simp)) 2).trans rfl, (E6.out.mx.cell HU.out.1).1, E6.out.mx.num HU.out.1 HU.out.2 c KK.out.2.2.1 D6.out⟩ (fun hHeld => ?_)
                            generalize wr.drew = w8 at E6 P6 hHeld ⊢
                            refine pure_ (i := 0) (N := some 107) (v := ?_) (a' := ?_) #[true, false, false, false, false, false, false, false, false, false, false, false, false, false, false, false, false, false] rfl rfl (by kernel_rfl) (fun _ _ _ h => h) (Or.inl ⟨by rfl, ?_⟩) ?_ ?_
                            rotate_left
                            · intro w'
                              first | (go_simp; with_reducible rfl) | (simp [go_sem, Instr.field, asAgg] <;> with_reducible rfl)
                            rotate_left
                            · simp only [Act.put, List.setIfInBounds_toArray, List.set_cons_zero, List.set_cons_succ, i64_w, i32_w]
                              rfl
                            refine pure_ (i := 1) (N := some 108) (v := ?_) (a' := ?_) #[true, true, false, false, false, false, false, false, false, false, false, false, false, false, false, false, false, false] rfl rfl (by kernel_rfl) (fun _ _ _ h => h) (Or.inl ⟨by rfl, ?_⟩) ?_ ?_
                            rotate_left
                            · intro w'
                              first | (go_simp; with_reducible rfl) | (simp [go_sem, Instr.field, asAgg] <;> with_reducible rfl)
                            rotate_left
                            · simp only [Act.put, List.setIfInBounds_toArray, List.set_cons_zero, List.set_cons_succ, i64_w, i32_w]
                              rfl
                            refine pure_ (i := 3) (N := some 110) (v := ?_) (a' := ?_) #[true, true, false, true, false, false, false, false, false, false, false, false, false, false, false, false, false, false] rfl rfl (by kernel_rfl) (fun _ _ _ h => h) (Or.inl ⟨by rfl, ?_⟩) ?_ ?_
                            rotate_left
                            · intro w'
                              first | (go_simp; with_reducible rfl) | (simp [go_sem, Instr.field, asAgg] <;> with_reducible rfl)
                            rotate_left
                            · simp only [Act.put, List.setIfInBounds_toArray, List.set_cons_zero, List.set_cons_succ, i64_w, i32_w]
                              rfl
                            refine pure_ (i := 6) (N := some 113) (v := ?_) (a' := ?_) #[true, true, false, true, false, false, true, false, false, false, false, false, false, false, false, false, false, false] rfl rfl (by kernel_rfl) (fun _ _ _ h => h) (Or.inl ⟨by rfl, ?_⟩) ?_ ?_
                            rotate_left
                            · intro w'
                              first | (go_simp; with_reducible rfl) | (simp [go_sem, Instr.field, asAgg] <;> with_reducible rfl)
                            rotate_left
                            · simp only [Act.put, List.setIfInBounds_toArray, List.set_cons_zero, List.set_cons_succ, i64_w, i32_w]
                              rfl
                            refine pure_ (i := 7) (N := some 114) (v := ?_) (a' := ?_) #[true, true, false, true, false, false, true, true, false, false, false, false, false, false, false, false, false, false] rfl rfl (by kernel_rfl) (fun _ _ _ h => h) (Or.inl ⟨by rfl, ?_⟩) ?_ ?_
                            rotate_left
                            · intro w'
                              first | (go_simp; with_reducible rfl) | (simp [go_sem, Instr.field, asAgg] <;> with_reducible rfl)
                            rotate_left
                            · simp only [Act.put, List.setIfInBounds_toArray, List.set_cons_zero, List.set_cons_succ, i64_w, i32_w]
                              rfl
                            refine pure_ (i := 8) (N := some 115) (v := ?_) (a' := ?_) #[true, true, false, true, false, false, true, true, true, false, false, false, false, false, false, false, false, false] rfl rfl (by kernel_rfl) (fun _ _ _ h => h) (Or.inl ⟨by rfl, ?_⟩) ?_ ?_
                            rotate_left
                            · intro w'
                              first | (go_simp; with_reducible rfl) | (simp [go_sem, Instr.field, asAgg] <;> with_reducible rfl)
                            rotate_left
                            · simp only [Act.put, List.setIfInBounds_toArray, List.set_cons_zero, List.set_cons_succ, i64_w, i32_w]
                              rfl
                            refine pure_ (i := 10) (N := some 117) (v := ?_) (a' := ?_) #[true, true, false, true, false, false, true, true, true, false, true, false, false, false, false, false, false, false] rfl rfl (by kernel_rfl) (fun _ _ _ h => h) (Or.inl ⟨by rfl, ?_⟩) ?_ ?_
                            rotate_left
                            · intro w'
                              first | (go_simp; with_reducible rfl) | (simp [go_sem, Instr.field, asAgg] <;> with_reducible rfl)
                            rotate_left
                            · simp only [Act.put, List.setIfInBounds_toArray, List.set_cons_zero, List.set_cons_succ, i64_w, i32_w]
                              rfl
                            refine pure_ (i := 13) (N := some 120) (v := ?_) (a' := ?_) #[true, true, false, true, false, false, true, true, true, false, true, false, false, true, false, false, false, false] rfl rfl (by kernel_rfl) (fun _ _ _ h => h) (Or.inl ⟨by rfl, ?_⟩) ?_ ?_
                            rotate_left
                            · intro w'
                              first | (go_simp; with_reducible rfl) | (simp [go_sem, Instr.field, asAgg] <;> with_reducible rfl)
                            rotate_left
                            · simp only [Act.put, List.setIfInBounds_toArray, List.set_cons_zero, List.set_cons_succ, i64_w, i32_w]
                              rfl
                            refine take_ (i := 2) (N := some 109) (v := ?_) (a' := ?_) #[true, true, true, true, false, false, true, true, true, false, true, false, false, true, false, false, false, false] rfl rfl (by kernel_rfl) (fun _ _ _ h => h) (Or.inl ⟨by rfl, ?_⟩) hHeld ?_ ?_
                            rotate_left
                            · rintro w' ⟨s0, s1, s2⟩
                              go_simp
                              with_reducible rfl
                            rotate_left
                            · simp only [Act.put, List.setIfInBounds_toArray, List.set_cons_zero, List.set_cons_succ, i64_w, i32_w]
                              rfl
                            refine pure_ (i := 4) (N := some 111) (v := ?_) (a' := ?_) #[true, true, true, true, true, false, true, true, true, false, true, false, false, true, false, false, false, false] rfl rfl (by kernel_rfl) (fun _ _ _ h => h) (Or.inl ⟨by rfl, ?_⟩) ?_ ?_
                            rotate_left
                            · intro w'
                              first | (go_simp; with_reducible rfl) | (simp [go_sem, Instr.field, asAgg] <;> with_reducible rfl)
                            rotate_left
                            · simp only [Act.put, List.setIfInBounds_toArray, List.set_cons_zero, List.set_cons_succ, i64_w, i32_w]
                              rfl
                            refine take_ (i := 5) (N := some 112) (v := ?_) (a' := ?_) #[true, true, true, true, true, true, true, true, true, false, true, false, false, true, false, false, false, false] rfl rfl (by kernel_rfl) (fun _ _ _ h => h) (Or.inl ⟨by rfl, ?_⟩) hHeld ?_ ?_
                            rotate_left
                            · rintro w' ⟨s0, s1, s2⟩
                              go_simp
                              with_reducible rfl
                            rotate_left
                            · simp only [Act.put, List.setIfInBounds_toArray, List.set_cons_zero, List.set_cons_succ, i64_w, i32_w]
                              rfl
                            refine take_ (i := 9) (N := some 116) (v := ?_) (a' := ?_) #[true, true, true, true, true, true, true, true, true, true, true, false, false, true, false, false, false, false] rfl rfl (by kernel_rfl) (fun _ _ _ h => h) (Or.inl ⟨by rfl, ?_⟩) hHeld ?_ ?_
                            rotate_left
                            · rintro w' ⟨s0, s1, s2⟩
                              go_simp
                              with_reducible rfl
                            rotate_left
                            · simp only [Act.put, List.setIfInBounds_toArray, List.set_cons_zero, List.set_cons_succ, i64_w, i32_w]
                              rfl
                            refine pure_ (i := 11) (N := some 118) (v := ?_) (a' := ?_) #[true, true, true, true, true, true, true, true, true, true, true, true, false, true, false, false, false, false] rfl rfl (by kernel_rfl) (fun _ _ _ h => h) (Or.inl ⟨by rfl, ?_⟩) ?_ ?_
                            rotate_left
                            · intro w'
                              first | (go_simp; with_reducible rfl) | (simp [go_sem, Instr.field, asAgg] <;> with_reducible rfl)
                            rotate_left
                            · simp only [Act.put, List.setIfInBounds_toArray, List.set_cons_zero, List.set_cons_succ, i64_w, i32_w]
                              rfl
                            refine take_ (i := 12) (N := some 119) (v := ?_) (a' := ?_) #[true, true, true, true, true, true, true, true, true, true, true, true, true, true, false, false, false, false] rfl rfl (by kernel_rfl) (fun _ _ _ h => h) (Or.inl ⟨by rfl, ?_⟩) hHeld ?_ ?_
                            rotate_left
                            · rintro w' ⟨s0, s1, s2⟩
                              go_simp
                              with_reducible rfl
                            rotate_left
                            · simp only [Act.put, List.setIfInBounds_toArray, List.set_cons_zero, List.set_cons_succ, i64_w, i32_w]
                              rfl
                            refine pure_ (i := 14) (N := some 121) (v := ?_) (a' := ?_) #[true, true, true, true, true, true, true, true, true, true, true, true, true, true, true, false, false, false] rfl rfl (by kernel_rfl) (fun _ _ _ h => h) (Or.inl ⟨by rfl, ?_⟩) ?_ ?_
                            rotate_left
                            · intro w'
                              first | (go_simp; with_reducible rfl) | (simp [go_sem, Instr.field, asAgg] <;> with_reducible rfl)
                            rotate_left
                            · simp only [Act.put, List.setIfInBounds_toArray, List.set_cons_zero, List.set_cons_succ, i64_w, i32_w]
                              rfl
                            refine take_ (i := 15) (N := some 122) (v := ?_) (a' := ?_) #[true, true, true, true, true, true, true, true, true, true, true, true, true, true, true, true, false, false] rfl rfl (by kernel_rfl) (fun _ _ _ h => h) (Or.inl ⟨by rfl, ?_⟩) hHeld ?_ ?_
                            rotate_left
                            · rintro w' ⟨s0, s1, s2⟩
                              go_simp
                              with_reducible rfl
                            rotate_left
                            · simp only [Act.put, List.setIfInBounds_toArray, List.set_cons_zero, List.set_cons_succ, i64_w, i32_w]
                              rfl
                            refine pure_ (i := 16) (N := some 123) (v := ?_) (a' := ?_) #[true, true, true, true, true, true, true, true, true, true, true, true, true, true, true, true, true, false] rfl rfl (by kernel_rfl) (fun _ _ _ h => h) (Or.inl ⟨by rfl, ?_⟩) ?_ ?_
                            rotate_left
                            · intro w'
                              first | (go_simp; with_reducible rfl) | (simp [go_sem, Instr.field, asAgg] <;> with_reducible rfl)
                            rotate_left
                            · simp only [Act.put, List.setIfInBounds_toArray, List.set_cons_zero, List.set_cons_succ, i64_w, i32_w]
                              rfl
                            refine last_ (i := 17) (N := some 124) #[true, true, true, true, true, true, true, true, true, true, true, true, true, true, true, true, true, true] rfl rfl (by kernel_rfl) (by decide) (fun K hK => ?_)
                            refine goes_ Try.func67 (by kernel_rfl) rfl #[.int .i64 a0_0, (.slice (some ⟨bu, 0, none⟩) (rd_L1 rx i).length cu), (.slice (some ⟨b, 0, none⟩) (rd_L1 rx n).length cb), .int .i64 (wrap64 (a0_0 - rd (rd_L1 rx i) c))] (by rfl) rfl rfl (by simp only [List.map_toArray, List.map_cons, List.map_nil]; rfl) ?_
                            with_reducible refine (spec_l03Add.calls k3 a0_0 (fun k_ => some k_ = ((.slice (some ⟨bu, 0, none⟩) (rd_L1 rx i).length cu) : Value).ownBlock ∧ w.heap.size + 1 ≤ k_ ∧ k_ < hi) (.slice (some ⟨bu, 0, none⟩) (rd_L1 rx i).length cu) (rd_L1 rx i) _ _ (rd_L1 rx n) (wrap64 (a0_0 - rd (rd_L1 rx i) c)) q w _ E6.out.be (E6.out.mx.row _ _ _ HU.out.1 HU.out.2) (E6.out.mx.other (by have := D3.out; have := HI.out; have := C8.out; omega) HU.out.1 HN2.out HLC.out.1) HLC.out.2 B6.out).mono ?_
                            rintro e w9 ⟨rfl, hR, hBw, hK⟩
                            refine ⟨_, rfl, ?_⟩
                            have E7 := Aside0.mk (E6.out.put HU.out.1 HU.out.2 hR hK hBw)
                            have P7 := Aside0.mk (R_aside P6.out (Nat.le_succ _) hK)
                            clear E6 P6 hR hBw hK
                            refine hK.out _ _ ?_
                            clear hK K
                            refine norm_ (a' := ?_) ?_ ?_
                            rotate_left
                            · show Act.put _ (some 124) _ = _
                              simp only [Act.put, List.setIfInBounds_toArray, List.set_cons_zero, List.set_cons_succ, i64_w, i32_w]
                              rfl
                            refine done_ (by kernel_rfl) ?_
                            clear hHeld
                            have hc1_ : w9.cell? ⟨g0_, 1, none⟩ = some (.int .i64 a0_1) := (blk_cell (E7.out.box (b := g0_) (o := .cells #[.int .i64 a0_0, .int .i64 a0_1, .slice A0_2 l0_2.length c0_2] 26 (0, 0)) (by simp)) 1).trans rfl
                            have hc2_ : w9.cell? ⟨hi, 2, none⟩ = some ((.slice (some ⟨g, 0, none⟩) n0 c1)) := (blk_cell (E7.out.box (b := hi) (o := .cells #[.int .i64 q1, .int .i64 q2, (.slice (some ⟨g, 0, none⟩) n0 c1)] 26 (0, 0)) (by simp)) 2).trans rfl
                            (try go_wp2)
                            go_roundg k3
                            case measure => have := HK1.out; have := HK2.out; have := HK3.out; omega
                            case rel => exact ⟨_, _, rfl, H', ⟨by have := HK3.out; omega⟩, E7, P7⟩
                      · rw [if_neg d1] at H
                        obtain rfl := Option.some.inj H
                        clear H
                        have d1b : decide (i < (n0 : Int)) = false := decide_eq_false (by have := hct.out; omega)
                        replace d1 := Aside0.mk d1
                        go_wp2_with (first | ((with_reducible refine gate_builtin (b := .append) (xs := #[.tmp 125, .tmp 127]) rfl ?_); at_builtin; refine Kd.R_append (Kd.int .i64) (w0 := w) w.heap.size rfl (.tmp 125) (.tmp 127) 35 2 (.int .i64 0) 8 rfl Try.underlying35 info2 rfl (by decide) (by omega) (.slice A5 piv.length c5) piv c [.int .i64 c] (fun k_ => hi + 1 ≤ k_) (fun _ => False) rfl rfl ?aP (fun _ hk => hk.elim) ?aF ?aO ?aB ?aS ?aL ?_; (case aP => exact rfl); (case aB => exact E.out.be); (case aF => exact (fun k_ hk_ => Nat.le_trans E.out.t0 hk_)); (case aO => exact P.out); (case aS => exact (below_size E.out.be)); (case aL => have := C10.out; omega); intro v9 w9 ho hb hg hat; have E7 := Aside0.mk (E.out.grown hg (fun b_ hb_ => P.out.1 b_ hb_) hb); have P7 := Aside0.mk ho; clear E P ho hb hg hat hc1_ hc2_; have hc1_ : w9.cell? ⟨g0_, 1, none⟩ = some (.int .i64 a0_1) := (blk_cell (E7.out.box (b := g0_) (o := .cells #[.int .i64 a0_0, .int .i64 a0_1, .slice A0_2 l0_2.length c0_2] 26 (0, 0)) (by simp)) 1).trans rfl; have hc2_ : w9.cell? ⟨hi, 2, none⟩ = some ((.slice (some ⟨g, 0, none⟩) n0 c1)) := (blk_cell (E7.out.box (b := hi) (o := .cells #[.int .i64 q1, .int .i64 q2, (.slice (some ⟨g, 0, none⟩) n0 c1)] 26 (0, 0)) (by simp)) 2).trans rfl))
                        go_roundg k1
                        case measure => have := HK1.out; have := HK2.out; have := HK3.out; omega
                        case rel => exact ⟨_, _, _, _, vs2, rfl, rfl, H', ⟨by have := HK1.out; omega⟩, E7, P7⟩
              · rw [if_neg c3] at H
                obtain rfl := Option.some.inj H
                have a1b : decide (a < (n0 : Int)) = false := decide_eq_false (by have := hcnt.out; omega)
                have H := H1.out
                by_cases ca : a = (rows.length : Int)
                · rw [if_pos ca] at H
                  have a2b : (a == (n0 : Int)) = true := by rw [ca, hcnt.out]; simp
                  have H' := Aside0.mk H
                  clear H H1
                  replace ca := Aside0.mk ca
                  replace c3 := Aside0.mk c3
                  go_wp2
                  go_roundg k1
                  case measure => have := HK1.out; have := HK2.out; omega
                  case rel => exact ⟨_, _, rows, piv, vs, rfl, rfl, H', ⟨by have := HK1.out; omega⟩, E, P⟩
                · rw [if_neg ca] at H
                  by_cases c4 : 0 ≤ a
                  · rw [if_pos c4, if_neg c3] at H; exact absurd H (by simp)
                  · rw [if_neg c4] at H; exact absurd H (by simp)
        · rw [if_neg c0] at H
          have c0b : decide (n < (n0 : Int)) = false := decide_eq_false (by have := hcnt.out; omega)
          replace c0 := Aside0.mk c0
          obtain ⟨rfl, rfl, rfl⟩ := (by simpa using H : rows = rs ∧ piv = ps ∧ n = ns)
          clear H
          obtain ⟨A5, c5, e5⟩ := Kd.R_slice P.out
          subst e5
          have hct := E.out.mx.count
          obtain ⟨i0_, hi0_, _, _, _⟩ := info_parts info35
          have hcut := cut_to (P := Try.prog) 22 35 .i64 Try.underlying22 hi0_ A1 n0 c1 n CL.out.1 (by have := CL.out.2; omega) hct.2
          clear hct hi0_
          have hc20_ : wr.cell? ⟨hi, 0, none⟩ = some (.int .i64 q1) := (blk_cell (E.out.box (b := hi) (o := .cells #[.int .i64 q1, .int .i64 q2, (.slice A1 n0 c1)] 26 (0, 0)) (by simp)) 0).trans rfl
          have hc21_ : wr.cell? ⟨hi, 1, none⟩ = some (.int .i64 q2) := (blk_cell (E.out.box (b := hi) (o := .cells #[.int .i64 q1, .int .i64 q2, (.slice A1 n0 c1)] 26 (0, 0)) (by simp)) 1).trans rfl
          have hf2_ := blk_frozen (E.out.box (b := hi) (o := .cells #[.int .i64 q1, .int .i64 q2, (.slice A1 n0 c1)] 26 (0, 0)) (by simp)) 2
          have hne1 : w.heap.size ≠ hi := by have := HSZ.out; omega
          have hne2 : hi ≠ w.heap.size := Ne.symm hne1
          have hz0 : wr.cell? ⟨w.heap.size, 0, none⟩ = some ((.int .i64 0 : Value)) := (blk_cell (E.out.box (b := w.heap.size) (o := .cells #[(.int .i64 0 : Value), (.int .i64 0 : Value), (.slice none 0 0 : Value)] 26 (0, 0)) (by simp)) 0).trans rfl
          have hzf0 := blk_frozen (E.out.box (b := w.heap.size) (o := .cells #[(.int .i64 0 : Value), (.int .i64 0 : Value), (.slice none 0 0 : Value)] 26 (0, 0)) (by simp)) 0
          have hz1 : wr.cell? ⟨w.heap.size, 1, none⟩ = some ((.int .i64 0 : Value)) := (blk_cell (E.out.box (b := w.heap.size) (o := .cells #[(.int .i64 0 : Value), (.int .i64 0 : Value), (.slice none 0 0 : Value)] 26 (0, 0)) (by simp)) 1).trans rfl
          have hzf1 := blk_frozen (E.out.box (b := w.heap.size) (o := .cells #[(.int .i64 0 : Value), (.int .i64 0 : Value), (.slice none 0 0 : Value)] 26 (0, 0)) (by simp)) 1
          have hz2 : wr.cell? ⟨w.heap.size, 2, none⟩ = some ((.slice none 0 0 : Value)) := (blk_cell (E.out.box (b := w.heap.size) (o := .cells #[(.int .i64 0 : Value), (.int .i64 0 : Value), (.slice none 0 0 : Value)] 26 (0, 0)) (by simp)) 2).trans rfl
          have hzf2 := blk_frozen (E.out.box (b := w.heap.size) (o := .cells #[(.int .i64 0 : Value), (.int .i64 0 : Value), (.slice none 0 0 : Value)] 26 (0, 0)) (by simp)) 2
          go_wp2
          (try simp only [Exit.inBlock, Exit.then])
          refine bodyPost_ret (results_ct rfl _ _ w.heap.size 26 #[.int .i64 q1, .int .i64 q2, (.slice A1 n.toNat c1)] (0, 0) _ rfl (blk_put (blk_put (blk_put (blk_far (p := ⟨hi, 2, none⟩) (E.out.box (b := w.heap.size) (o := .cells #[(.int .i64 0 : Value), (.int .i64 0 : Value), (.slice none 0 0 : Value)] 26 (0, 0)) (by simp)) hne1 (.slice A1 n.toNat c1)) 0 _ rfl) 1 _ rfl) 2 _ rfl) Try.underlying26 rfl (by kernel_rfl)) rfl ?_
          have hm := (((((E.out.mx.take (m := n.toNat) (by have := CL.out; omega)).far (p := ⟨hi, 2, none⟩) (.inr (Nat.le_refl hi)) (.slice A1 n.toNat c1)).far (p := ⟨w.heap.size, 0, none⟩) (.inl (by show w.heap.size < _; omega)) (.int .i64 q1)).far (p := ⟨w.heap.size, 1, none⟩) (.inl (by show w.heap.size < _; omega)) (.int .i64 q2)).far (p := ⟨w.heap.size, 2, none⟩) (.inl (by show w.heap.size < _; omega)) (.slice A1 n.toNat c1))
          have hp := Kd.R_far (p := ⟨w.heap.size, 2, none⟩) (Kd.R_far (p := ⟨w.heap.size, 1, none⟩) (Kd.R_far (p := ⟨w.heap.size, 0, none⟩) (Kd.R_far (p := ⟨hi, 2, none⟩) P.out (fun k_ hk_ => by show k_ ≠ hi; omega) (.slice A1 n.toNat c1)) (fun k_ hk_ => by show k_ ≠ w.heap.size; have := HSZ.out; omega) (.int .i64 q1)) (fun k_ hk_ => by show k_ ≠ w.heap.size; have := HSZ.out; omega) (.int .i64 q2)) (fun k_ hk_ => by show k_ ≠ w.heap.size; have := HSZ.out; omega) (.slice A1 n.toNat c1)
          exact ⟨_, _, rfl, Kd.S_mono hm.to_S (fun k_ hk_ e_ => by have := P.out.1 k_ e_.symm; omega), Kd.R_mono hp (fun _ _ => trivial), below_set (below_set (below_set (below_set E.out.be (by have := HSZ.out; omega)) (Nat.le_refl _)) (Nat.le_refl _)) (Nat.le_refl _)⟩
      · rw [if_neg c2] at H
        have c2b : decide (c < a0_1) = false := decide_eq_false c2
        replace c2 := Aside0.mk c2
        obtain ⟨rfl, rfl, rfl⟩ := (by simpa using H : rows = rs ∧ piv = ps ∧ n = ns)
        clear H
        obtain ⟨A5, c5, e5⟩ := Kd.R_slice P.out
        subst e5
        have hct := E.out.mx.count
        obtain ⟨i0_, hi0_, _, _, _⟩ := info_parts info35
        have hcut := cut_to (P := Try.prog) 22 35 .i64 Try.underlying22 hi0_ A1 n0 c1 n CL.out.1 (by have := CL.out.2; omega) hct.2
        clear hct hi0_
        have hc20_ : wr.cell? ⟨hi, 0, none⟩ = some (.int .i64 q1) := (blk_cell (E.out.box (b := hi) (o := .cells #[.int .i64 q1, .int .i64 q2, (.slice A1 n0 c1)] 26 (0, 0)) (by simp)) 0).trans rfl
        have hc21_ : wr.cell? ⟨hi, 1, none⟩ = some (.int .i64 q2) := (blk_cell (E.out.box (b := hi) (o := .cells #[.int .i64 q1, .int .i64 q2, (.slice A1 n0 c1)] 26 (0, 0)) (by simp)) 1).trans rfl
        have hf2_ := blk_frozen (E.out.box (b := hi) (o := .cells #[.int .i64 q1, .int .i64 q2, (.slice A1 n0 c1)] 26 (0, 0)) (by simp)) 2
        have hne1 : w.heap.size ≠ hi := by have := HSZ.out; omega
        have hne2 : hi ≠ w.heap.size := Ne.symm hne1
        have hz0 : wr.cell? ⟨w.heap.size, 0, none⟩ = some ((.int .i64 0 : Value)) := (blk_cell (E.out.box (b := w.heap.size) (o := .cells #[(.int .i64 0 : Value), (.int .i64 0 : Value), (.slice none 0 0 : Value)] 26 (0, 0)) (by simp)) 0).trans rfl
        have hzf0 := blk_frozen (E.out.box (b := w.heap.size) (o := .cells #[(.int .i64 0 : Value), (.int .i64 0 : Value), (.slice none 0 0 : Value)] 26 (0, 0)) (by simp)) 0
        have hz1 : wr.cell? ⟨w.heap.size, 1, none⟩ = some ((.int .i64 0 : Value)) := (blk_cell (E.out.box (b := w.heap.size) (o := .cells #[(.int .i64 0 : Value), (.int .i64 0 : Value), (.slice none 0 0 : Value)] 26 (0, 0)) (by simp)) 1).trans rfl
        have hzf1 := blk_frozen (E.out.box (b := w.heap.size) (o := .cells #[(.int .i64 0 : Value), (.int .i64 0 : Value), (.slice none 0 0 : Value)] 26 (0, 0)) (by simp)) 1
        have hz2 : wr.cell? ⟨w.heap.size, 2, none⟩ = some ((.slice none 0 0 : Value)) := (blk_cell (E.out.box (b := w.heap.size) (o := .cells #[(.int .i64 0 : Value), (.int .i64 0 : Value), (.slice none 0 0 : Value)] 26 (0, 0)) (by simp)) 2).trans rfl
        have hzf2 := blk_frozen (E.out.box (b := w.heap.size) (o := .cells #[(.int .i64 0 : Value), (.int .i64 0 : Value), (.slice none 0 0 : Value)] 26 (0, 0)) (by simp)) 2
        go_wp2
        (try simp only [Exit.inBlock, Exit.then])
        refine bodyPost_ret (results_ct rfl _ _ w.heap.size 26 #[.int .i64 q1, .int .i64 q2, (.slice A1 n.toNat c1)] (0, 0) _ rfl (blk_put (blk_put (blk_put (blk_far (p := ⟨hi, 2, none⟩) (E.out.box (b := w.heap.size) (o := .cells #[(.int .i64 0 : Value), (.int .i64 0 : Value), (.slice none 0 0 : Value)] 26 (0, 0)) (by simp)) hne1 (.slice A1 n.toNat c1)) 0 _ rfl) 1 _ rfl) 2 _ rfl) Try.underlying26 rfl (by kernel_rfl)) rfl ?_
        have hm := (((((E.out.mx.take (m := n.toNat) (by have := CL.out; omega)).far (p := ⟨hi, 2, none⟩) (.inr (Nat.le_refl hi)) (.slice A1 n.toNat c1)).far (p := ⟨w.heap.size, 0, none⟩) (.inl (by show w.heap.size < _; omega)) (.int .i64 q1)).far (p := ⟨w.heap.size, 1, none⟩) (.inl (by show w.heap.size < _; omega)) (.int .i64 q2)).far (p := ⟨w.heap.size, 2, none⟩) (.inl (by show w.heap.size < _; omega)) (.slice A1 n.toNat c1))
        have hp := Kd.R_far (p := ⟨w.heap.size, 2, none⟩) (Kd.R_far (p := ⟨w.heap.size, 1, none⟩) (Kd.R_far (p := ⟨w.heap.size, 0, none⟩) (Kd.R_far (p := ⟨hi, 2, none⟩) P.out (fun k_ hk_ => by show k_ ≠ hi; omega) (.slice A1 n.toNat c1)) (fun k_ hk_ => by show k_ ≠ w.heap.size; have := HSZ.out; omega) (.int .i64 q1)) (fun k_ hk_ => by show k_ ≠ w.heap.size; have := HSZ.out; omega) (.int .i64 q2)) (fun k_ hk_ => by show k_ ≠ w.heap.size; have := HSZ.out; omega) (.slice A1 n.toNat c1)
        exact ⟨_, _, rfl, Kd.S_mono hm.to_S (fun k_ hk_ e_ => by have := P.out.1 k_ e_.symm; omega), Kd.R_mono hp (fun _ _ => trivial), below_set (below_set (below_set (below_set E.out.be (by have := HSZ.out; omega)) (Nat.le_refl _)) (Nat.le_refl _)) (Nat.le_refl _)⟩

end Go.Proofs.Ytjpbemomocccaaa.P

namespace Go.Proofs.Ytjpbemomocccaaa.P
open Go.RowKit Go.Proofs.YtjpbemomocccaaaW.PrintWords Go.Proofs.YtjpbemomocccaaaW.PrintLast Go.Proofs.YtjpbemomocccaaaW.PrintMore
attribute [local go_sem] max2_int min2_int max_two min_two max_three min_three max_four min_four
set_option linter.unusedVariables false
set_option linter.unusedSimpArgs false

/-! ### spec_EchelonOf: function 13 -/
def spec_EchelonOf.f (k : Nat) (a0_0 : Int) (a0_1 : Int) (l0_2 : List (List Int)) : Option (Int × Int × (List (List Int)) × Int) := (spec_l03Ok.f k a0_0 a0_1 l0_2).bind fun t137 => (if t137 = true then ((spec_l03Echelon.f k a0_0 a0_1 l0_2).bind fun bt138 => (some (bt138.1, bt138.2.1, bt138.2.2.1, 0))) else (some (0, 0, ([] : List (List Int)), 1)))
theorem spec_EchelonOf.mono : ∀ a0 a1 a2 k, LeO (spec_EchelonOf.f k a0 a1 a2) (spec_EchelonOf.f (k + 1) a0 a1 a2) := by
  intro a0 a1 a2 k
  unfold spec_EchelonOf.f
  repeat' first
      | (with_reducible exact spec_l03Echelon.mono _ _ _ _)
      | (with_reducible exact spec_l03Ok.mono _ _ _ _)
      | (with_reducible exact LeO.refl _)
      | (with_reducible exact LeO.none _)
      | (with_reducible refine LeO.ite ?_ ?_)
      | (with_reducible refine LeO.bind ?_ (fun _ => ?_))
      | exact spec_l03Echelon.mono _ _ _ _
      | exact spec_l03Ok.mono _ _ _ _
      | exact LeO.none _
      | refine LeO.ite ?_ ?_
      | refine LeO.bind ?_ (fun _ => ?_)
set_option maxHeartbeats 8000000 in
set_option maxRecDepth 100000 in
theorem spec_EchelonOf.calls (k : Nat) (a0_0 : Int) (a0_1 : Int) (A0_2 : Option Addr) (c0_2 : Nat) (l0_2 : List (List Int)) (r1 : Int) (r2 : Int) (r3 : List (List Int)) (r4 : Int) (w : World) (hr0_2 : Kd.C (Kd.slice 2 (Kd.int .i64)) w A0_2 l0_2.length l0_2) (hc0_2 : l0_2.length ≤ c0_2) (h : spec_EchelonOf.f k a0_0 a0_1 l0_2 = some (r1, r2, r3, r4)) :
    Calls Try.prog 13 #[.agg #[.int .i64 a0_0, .int .i64 a0_1, .slice A0_2 l0_2.length c0_2]] w fun e w' => ∃ v2_ : Value, e = .returned (.tuple #[.agg #[.int .i64 r1, .int .i64 r2, v2_], .int .i64 r4]) ∧ Kd.S (Kd.slice 2 (Kd.int .i64)) 35 w' w.heap.size (fun _ => True) v2_ r3 ∧ Below w.heap.size w w' := by
  have hu26 := Try.underlying26
  have HR0_2 := Aside0.mk hr0_2
  have HC0_2 := Aside0.mk hc0_2
  clear hr0_2 hc0_2
  have HB := Aside0.mk (Below.refl w.heap.size w)
  have H : ((spec_l03Ok.f k a0_0 a0_1 l0_2).bind fun t137 => (if t137 = true then ((spec_l03Echelon.f k a0_0 a0_1 l0_2).bind fun bt138 => (some (bt138.1, bt138.2.1, bt138.2.2.1, 0))) else (some (0, 0, ([] : List (List Int)), 1)))) = some (r1, r2, r3, r4) := h
  clear h
  replace H := Option.bind_eq_some_iff.mp H
  obtain ⟨t137, A20, H⟩ := H
  replace H : (if t137 = true then ((spec_l03Echelon.f k a0_0 a0_1 l0_2).bind fun bt138 => (some (bt138.1, bt138.2.1, bt138.2.2.1, 0))) else (some (0, 0, ([] : List (List Int)), 1))) = some (r1, r2, r3, r4) := H
  have A2 := Aside0.mk A20
  clear A20
  by_cases c3 : t137 = true
  · subst c3
    have H1 : ((spec_l03Echelon.f k a0_0 a0_1 l0_2).bind fun bt138 => (some (bt138.1, bt138.2.1, bt138.2.2.1, 0))) = some (r1, r2, r3, r4) := by rw [if_pos rfl] at H; exact H
    clear H
    have H := H1
    clear H1
    replace H := Option.bind_eq_some_iff.mp H
    obtain ⟨⟨t138, t139, t140, t143⟩, A40, H⟩ := H
    replace H : (some (t138, t139, t140, 0)) = some (r1, r2, r3, r4) := H
    have A4 := Aside0.mk A40
    clear A40
    simp only [Option.some.injEq, Prod.mk.injEq] at H
    obtain ⟨rfl, rfl, rfl, rfl⟩ := H
    go_enter Try.func13, Try.ntmps13
    go_wp2_with (first | ((with_reducible refine gate_dst (N := 1) rfl ?_); refine box_event ?hg (N := 1) ?hd (cs := #[.int .i64 a0_0, .int .i64 a0_1, .slice A0_2 l0_2.length c0_2]) (t := 26) ?hr ?_; (case hd => rfl); (case hg => rfl); (case hr => first | (go_simp; done) | (go_simp; rfl)); intro gb135 hg w5 hbox hb; have n0_ := Aside0.mk (below_step (by repeat (first | (with_reducible first | exact HB.out | apply below_alloc | apply pw_below_drewN | apply below_drew1) | exact HB.out)) hb); have n1_ := Aside0.mk (hbox); have n2_ := Aside0.mk ((by rw [hg]; exact (below_size (by repeat (first | (with_reducible first | exact HB.out | apply below_alloc | apply pw_below_drewN | apply below_drew1) | exact HB.out))) : w.heap.size ≤ gb135)); have n3_ := Aside0.mk ((by rw [hg]; exact (below_size (by repeat (first | (with_reducible first | exact HB.out | apply below_alloc | apply pw_below_drewN | apply below_drew1) | exact HB.out))) : w.heap.size ≤ gb135)); clear HB; have HB := n0_; have BK135 := n1_; have GW135 := n2_; have GE135 := n3_; clear n0_ n1_ n2_ n3_; clear hb hbox hg) | ((with_reducible refine gate_dst (N := 2) rfl ?_); refine box_event ?hg (N := 2) ?hd (cs := #[.int .i64 0, .int .i64 0, .slice none 0 0]) (t := 26) ?hr ?_; (case hd => rfl); (case hg => rfl); (case hr => first | (go_simp; done) | (go_simp; rfl)); intro gb136 hg w6 hbox hb; have n0_ := Aside0.mk (blk_below (g := gb135) (o := .cells #[.int .i64 a0_0, .int .i64 a0_1, .slice A0_2 l0_2.length c0_2] 26 (0, 0)) (by (with_reducible repeat (first | refine blk_drewN ?_ _ | refine blk_drew ?_ | refine blk_alloc ?_ _)); exact BK135.out) hb); have n1_ := Aside0.mk (below_step (by repeat (first | (with_reducible first | exact HB.out | apply below_alloc | apply pw_below_drewN | apply below_drew1 | refine below_set ?_ GE135.out) | exact HB.out)) hb); have n2_ := Aside0.mk (hbox); have n3_ := Aside0.mk ((by rw [hg]; exact (below_size (by repeat (first | (with_reducible first | exact HB.out | apply below_alloc | apply pw_below_drewN | apply below_drew1 | refine below_set ?_ GE135.out) | exact HB.out))) : w.heap.size ≤ gb136)); have n4_ := Aside0.mk ((by rw [hg]; exact (below_size (by repeat (first | (with_reducible first | exact HB.out | apply below_alloc | apply pw_below_drewN | apply below_drew1 | refine below_set ?_ GE135.out) | exact HB.out))) : w.heap.size ≤ gb136)); have n5_ := Aside0.mk ((by rw [hg]; exact Nat.ne_of_lt (blk_lt (g := gb135) (o := .cells #[.int .i64 a0_0, .int .i64 a0_1, .slice A0_2 l0_2.length c0_2] 26 (0, 0)) (by (with_reducible repeat (first | refine blk_drewN ?_ _ | refine blk_drew ?_ | refine blk_alloc ?_ _)); exact BK135.out)) : gb135 ≠ gb136)); have n6_ := Aside0.mk ((by rw [hg]; exact Nat.ne_of_gt (blk_lt (g := gb135) (o := .cells #[.int .i64 a0_0, .int .i64 a0_1, .slice A0_2 l0_2.length c0_2] 26 (0, 0)) (by (with_reducible repeat (first | refine blk_drewN ?_ _ | refine blk_drew ?_ | refine blk_alloc ?_ _)); exact BK135.out)) : gb136 ≠ gb135)); clear BK135; clear HB; have BK135 := n0_; have HB := n1_; have BK136 := n2_; have GW136 := n3_; have GE136 := n4_; have NB135_136 := n5_; have NB136_135 := n6_; clear n0_ n1_ n2_ n3_ n4_ n5_ n6_; clear hb hbox hg) | ((with_reducible refine gate_callee (f := 47) rfl ?_); refine goesL_ (some 6) rfl rfl Try.func47 (by kernel_rfl) rfl #[.pointer (some ⟨gb135, 0, none⟩)] rfl (by (try simp only [List.map_toArray, List.map_cons, List.map_nil]); first | done | rfl | (simp only [List.length_drop, List.length_take]; rfl)) ?_; (with_reducible refine (spec_l03Ok.calls k gb135 a0_0 a0_1 A0_2 c0_2 l0_2 true _ ?side1 ?side2 ?side3 A2.out).mono ?_); (case side1 => (with_reducible repeat (first | refine blk_drewN ?_ _ | refine blk_drew ?_ | refine blk_alloc ?_ _)); exact BK135.out); (case side2 => repeat (first | exact (Kd.C_below HR0_2.out HB.out) | (with_reducible refine Kd.C_alloc ?_ _) | (with_reducible refine Kd.C_drewN ?_ _) | (with_reducible refine Kd.C_drew ?_))); (case side3 => exact HC0_2.out); rintro e w7 ⟨rfl, hb⟩; refine ⟨_, rfl, ?_⟩; have n0_ := Aside0.mk (blk_below (g := gb135) (o := .cells #[.int .i64 a0_0, .int .i64 a0_1, .slice A0_2 l0_2.length c0_2] 26 (0, 0)) (by (with_reducible repeat (first | refine blk_drewN ?_ _ | refine blk_drew ?_ | refine blk_alloc ?_ _)); exact BK135.out) hb); have n1_ := Aside0.mk (blk_below (g := gb136) (o := .cells #[.int .i64 0, .int .i64 0, .slice none 0 0] 26 (0, 0)) (by (with_reducible repeat (first | refine blk_drewN ?_ _ | refine blk_drew ?_ | refine blk_alloc ?_ _)); exact BK136.out) hb); have n2_ := Aside0.mk (below_step (by repeat (first | (with_reducible first | exact HB.out | apply below_alloc | apply pw_below_drewN | apply below_drew1 | refine below_set ?_ GE135.out | refine below_set ?_ GE136.out) | exact HB.out)) hb); clear BK135; clear BK136; clear HB; have BK135 := n0_; have BK136 := n1_; have HB := n2_; clear n0_ n1_ n2_; (try clear hb); (try clear hb2); (try clear hk); (try clear hi)) | ((with_reducible refine gate_callee (f := 48) rfl ?_); refine goesL_ (some 10) rfl rfl Try.func48 (by kernel_rfl) rfl #[.pointer (some ⟨gb135, 0, none⟩)] rfl (by (try simp only [List.map_toArray, List.map_cons, List.map_nil]); first | done | rfl | (simp only [List.length_drop, List.length_take]; rfl)) ?_; (with_reducible refine (spec_l03Echelon.calls k gb135 a0_0 a0_1 A0_2 c0_2 l0_2 t138 t139 t140 t143 _ ?side1 ?side2 ?side3 A4.out).mono ?_); (case side1 => (with_reducible repeat (first | refine blk_drewN ?_ _ | refine blk_drew ?_ | refine blk_alloc ?_ _)); exact BK135.out); (case side2 => repeat (first | exact (Kd.C_below HR0_2.out HB.out) | (with_reducible refine Kd.C_alloc ?_ _) | (with_reducible refine Kd.C_drewN ?_ _) | (with_reducible refine Kd.C_drew ?_))); (case side3 => exact HC0_2.out); rintro e w8 ⟨v141, v144, rfl, ho0, ho1, hb⟩; refine ⟨_, rfl, ?_⟩; have n0_ := Aside0.mk (Kd.S_lower ho0 (below_size (by repeat (first | (with_reducible first | exact HB.out | apply below_alloc | apply pw_below_drewN | apply below_drew1 | refine below_set ?_ GE135.out | refine below_set ?_ GE136.out) | exact HB.out)))); have n1_ := Aside0.mk (Kd.R_lower ho1 (below_size (by repeat (first | (with_reducible first | exact HB.out | apply below_alloc | apply pw_below_drewN | apply below_drew1 | refine below_set ?_ GE135.out | refine below_set ?_ GE136.out) | exact HB.out)))); have n2_ := Aside0.mk (blk_below (g := gb135) (o := .cells #[.int .i64 a0_0, .int .i64 a0_1, .slice A0_2 l0_2.length c0_2] 26 (0, 0)) (by (with_reducible repeat (first | refine blk_drewN ?_ _ | refine blk_drew ?_ | refine blk_alloc ?_ _)); exact BK135.out) hb); have n3_ := Aside0.mk (blk_below (g := gb136) (o := .cells #[.int .i64 0, .int .i64 0, .slice none 0 0] 26 (0, 0)) (by (with_reducible repeat (first | refine blk_drewN ?_ _ | refine blk_drew ?_ | refine blk_alloc ?_ _)); exact BK136.out) hb); have n4_ := Aside0.mk (below_step (by repeat (first | (with_reducible first | exact HB.out | apply below_alloc | apply pw_below_drewN | apply below_drew1 | refine below_set ?_ GE135.out | refine below_set ?_ GE136.out) | exact HB.out)) hb); clear BK135; clear BK136; clear HB; have HO142 := n0_; have HO145 := n1_; have BK135 := n2_; have BK136 := n3_; have HB := n4_; clear n0_ n1_ n2_ n3_ n4_; (try clear hb); (try clear hb2); (try clear hk); (try clear hi); (try clear ho0); (try clear ho1)) | ((with_reducible refine gate_dst (N := 4) rfl ?_); refine box_event ?hg (N := 4) ?hd (cs := #[.int .i64 0, .int .i64 0, .slice none 0 0]) (t := 26) ?hr ?_; (case hd => rfl); (case hg => rfl); (case hr => first | (go_simp; done) | (go_simp; rfl)); intro gb146 hg w9 hbox hb; have n0_ := Aside0.mk (Kd.S_below (by (with_reducible repeat (first | apply Kd.S_alloc | apply Kd.S_drewN | apply Kd.S_drew)); exact HO142.out) hb); have n1_ := Aside0.mk (Kd.R_below (by (with_reducible repeat (first | apply Kd.R_alloc | apply Kd.R_drewN | apply Kd.R_drew)); exact HO145.out) hb); have n2_ := Aside0.mk (blk_below (g := gb135) (o := .cells #[.int .i64 a0_0, .int .i64 a0_1, .slice A0_2 l0_2.length c0_2] 26 (0, 0)) (by (with_reducible repeat (first | refine blk_drewN ?_ _ | refine blk_drew ?_ | refine blk_alloc ?_ _)); exact BK135.out) hb); have n3_ := Aside0.mk (blk_below (g := gb136) (o := .cells #[.int .i64 0, .int .i64 0, .slice none 0 0] 26 (0, 0)) (by (with_reducible repeat (first | refine blk_drewN ?_ _ | refine blk_drew ?_ | refine blk_alloc ?_ _)); exact BK136.out) hb); have n4_ := Aside0.mk (below_step (by repeat (first | (with_reducible first | exact HB.out | apply below_alloc | apply pw_below_drewN | apply below_drew1 | refine below_set ?_ GE135.out | refine below_set ?_ GE136.out) | exact HB.out)) hb); have n5_ := Aside0.mk (hbox); have n6_ := Aside0.mk ((by rw [hg]; exact (below_size (by repeat (first | (with_reducible first | exact HB.out | apply below_alloc | apply pw_below_drewN | apply below_drew1 | refine below_set ?_ GE135.out | refine below_set ?_ GE136.out) | exact HB.out))) : w.heap.size ≤ gb146)); have n7_ := Aside0.mk ((by rw [hg]; exact (below_size (by repeat (first | (with_reducible first | exact HB.out | apply below_alloc | apply pw_below_drewN | apply below_drew1 | refine below_set ?_ GE135.out | refine below_set ?_ GE136.out) | exact HB.out))) : w.heap.size ≤ gb146)); have n8_ := Aside0.mk ((by rw [hg]; exact Nat.ne_of_lt (blk_lt (g := gb135) (o := .cells #[.int .i64 a0_0, .int .i64 a0_1, .slice A0_2 l0_2.length c0_2] 26 (0, 0)) (by (with_reducible repeat (first | refine blk_drewN ?_ _ | refine blk_drew ?_ | refine blk_alloc ?_ _)); exact BK135.out)) : gb135 ≠ gb146)); have n9_ := Aside0.mk ((by rw [hg]; exact Nat.ne_of_gt (blk_lt (g := gb135) (o := .cells #[.int .i64 a0_0, .int .i64 a0_1, .slice A0_2 l0_2.length c0_2] 26 (0, 0)) (by (with_reducible repeat (first | refine blk_drewN ?_ _ | refine blk_drew ?_ | refine blk_alloc ?_ _)); exact BK135.out)) : gb146 ≠ gb135)); have n10_ := Aside0.mk ((by rw [hg]; exact Nat.ne_of_lt (blk_lt (g := gb136) (o := .cells #[.int .i64 0, .int .i64 0, .slice none 0 0] 26 (0, 0)) (by (with_reducible repeat (first | refine blk_drewN ?_ _ | refine blk_drew ?_ | refine blk_alloc ?_ _)); exact BK136.out)) : gb136 ≠ gb146)); have n11_ := Aside0.mk ((by rw [hg]; exact Nat.ne_of_gt (blk_lt (g := gb136) (o := .cells #[.int .i64 0, .int .i64 0, .slice none 0 0] 26 (0, 0)) (by (with_reducible repeat (first | refine blk_drewN ?_ _ | refine blk_drew ?_ | refine blk_alloc ?_ _)); exact BK136.out)) : gb146 ≠ gb136)); clear HO142; clear HO145; clear BK135; clear BK136; clear HB; have HO142 := n0_; have HO145 := n1_; have BK135 := n2_; have BK136 := n3_; have HB := n4_; have BK146 := n5_; have GW146 := n6_; have GE146 := n7_; have NB135_146 := n8_; have NB146_135 := n9_; have NB136_146 := n10_; have NB146_136 := n11_; clear n0_ n1_ n2_ n3_ n4_ n5_ n6_ n7_ n8_ n9_ n10_ n11_; clear hb hbox hg; have hnb10 := NB146_135.out; have hnc10 := NB135_146.out; have hnb11 := NB146_136.out; have hnc11 := NB136_146.out; have hcz12_0 : w9.cell? ⟨gb146, 0, none⟩ = some (.int .i64 0) := (blk_cell BK146.out 0).trans rfl; have hcz12_1 : w9.cell? ⟨gb146, 1, none⟩ = some (.int .i64 0) := (blk_cell BK146.out 1).trans rfl; have hcz12_2 : w9.cell? ⟨gb146, 2, none⟩ = some (.slice none 0 0) := (blk_cell BK146.out 2).trans rfl; have hfz12_0 := blk_frozen BK146.out 0; have hfz12_1 := blk_frozen BK146.out 1; have hfz12_2 := blk_frozen BK146.out 2; obtain ⟨Ao13, co13, eo13⟩ := Kd.S_slice HO142.out; subst eo13; have hnb14 := NB136_135.out; have hnc14 := NB135_136.out; have hcz15_0 : w9.cell? ⟨gb136, 0, none⟩ = some (.int .i64 0) := (blk_cell BK136.out 0).trans rfl; have hcz15_1 : w9.cell? ⟨gb136, 1, none⟩ = some (.int .i64 0) := (blk_cell BK136.out 1).trans rfl; have hcz15_2 : w9.cell? ⟨gb136, 2, none⟩ = some (.slice none 0 0) := (blk_cell BK136.out 2).trans rfl; have hfz15_0 := blk_frozen BK136.out 0; have hfz15_1 := blk_frozen BK136.out 1; have hfz15_2 := blk_frozen BK136.out 2))
    refine bodyPost_ret (results_ct rfl _ _ gb136 26 #[.int .i64 t138, .int .i64 t139, .slice Ao13 t140.length co13] (0, 0) _ rfl (by (with_reducible repeat (first | refine blk_drewN ?_ _ | refine blk_drew ?_ | refine blk_alloc ?_ _)); refine blk_put (cs := #[.int .i64 t138, .int .i64 t139, .slice none 0 0]) ?_ 2 _ rfl; (with_reducible repeat (first | refine blk_drewN ?_ _ | refine blk_drew ?_ | refine blk_alloc ?_ _)); refine blk_put (cs := #[.int .i64 t138, .int .i64 0, .slice none 0 0]) ?_ 1 _ rfl; (with_reducible repeat (first | refine blk_drewN ?_ _ | refine blk_drew ?_ | refine blk_alloc ?_ _)); refine blk_put (cs := #[.int .i64 0, .int .i64 0, .slice none 0 0]) ?_ 0 _ rfl; (with_reducible repeat (first | refine blk_drewN ?_ _ | refine blk_drew ?_ | refine blk_alloc ?_ _)); refine blk_far ?_ NB136_146.out _; (with_reducible repeat (first | refine blk_drewN ?_ _ | refine blk_drew ?_ | refine blk_alloc ?_ _)); refine blk_far ?_ NB136_146.out _; (with_reducible repeat (first | refine blk_drewN ?_ _ | refine blk_drew ?_ | refine blk_alloc ?_ _)); refine blk_far ?_ NB136_146.out _; (with_reducible repeat (first | refine blk_drewN ?_ _ | refine blk_drew ?_ | refine blk_alloc ?_ _)); exact BK136.out) Try.underlying26 rfl (by kernel_rfl)) rfl ?_
    exact ⟨_, by first | rfl | (simp [errW_none, errW_some] <;> rfl) | (simp [*, errW_none, errW_some] <;> rfl), by (with_reducible repeat (first | apply Kd.S_alloc | apply Kd.S_drewN | apply Kd.S_drew)); exact Kd.S_mono (Kd.S_far (p := ⟨gb136, 2, none⟩) (Kd.S_far (p := ⟨gb136, 1, none⟩) (Kd.S_far (p := ⟨gb136, 0, none⟩) (Kd.S_far (p := ⟨gb146, 2, none⟩) (Kd.S_far (p := ⟨gb146, 1, none⟩) (Kd.S_far (p := ⟨gb146, 0, none⟩) (Kd.S_types (Kd.S_types HO142.out BK146.out (by decide)) BK136.out (by decide)) (fun _ hk => hk.1.2) (.int .i64 t138)) (fun _ hk => hk.1.2) (.int .i64 t139)) (fun _ hk => hk.1.2) (.slice Ao13 t140.length co13)) (fun _ hk => hk.2) (.int .i64 t138)) (fun _ hk => hk.2) (.int .i64 t139)) (fun _ hk => hk.2) (.slice Ao13 t140.length co13)) (fun _ hk => trivial), by repeat (first | (with_reducible first | exact HB.out | apply below_alloc | apply pw_below_drewN | apply below_drew1 | refine below_set ?_ GE135.out | refine below_set ?_ GE136.out | refine below_set ?_ GE146.out) | exact HB.out)⟩
  · replace c3 := Bool.eq_false_iff.mpr c3
    subst c3
    have H1 : (some (0, 0, ([] : List (List Int)), 1)) = some (r1, r2, r3, r4) := by rw [if_neg (show ¬ (false = true) by decide)] at H; exact H
    clear H
    have H := H1
    clear H1
    simp only [Option.some.injEq, Prod.mk.injEq] at H
    obtain ⟨rfl, rfl, rfl, rfl⟩ := H
    go_enter Try.func13, Try.ntmps13
    go_wp2_with (first | ((with_reducible refine gate_dst (N := 1) rfl ?_); refine box_event ?hg (N := 1) ?hd (cs := #[.int .i64 a0_0, .int .i64 a0_1, .slice A0_2 l0_2.length c0_2]) (t := 26) ?hr ?_; (case hd => rfl); (case hg => rfl); (case hr => first | (go_simp; done) | (go_simp; rfl)); intro gb135 hg w16 hbox hb; have n0_ := Aside0.mk (below_step (by repeat (first | (with_reducible first | exact HB.out | apply below_alloc | apply pw_below_drewN | apply below_drew1) | exact HB.out)) hb); have n1_ := Aside0.mk (hbox); have n2_ := Aside0.mk ((by rw [hg]; exact (below_size (by repeat (first | (with_reducible first | exact HB.out | apply below_alloc | apply pw_below_drewN | apply below_drew1) | exact HB.out))) : w.heap.size ≤ gb135)); have n3_ := Aside0.mk ((by rw [hg]; exact (below_size (by repeat (first | (with_reducible first | exact HB.out | apply below_alloc | apply pw_below_drewN | apply below_drew1) | exact HB.out))) : w.heap.size ≤ gb135)); clear HB; have HB := n0_; have BK135 := n1_; have GW135 := n2_; have GE135 := n3_; clear n0_ n1_ n2_ n3_; clear hb hbox hg) | ((with_reducible refine gate_dst (N := 2) rfl ?_); refine box_event ?hg (N := 2) ?hd (cs := #[.int .i64 0, .int .i64 0, .slice none 0 0]) (t := 26) ?hr ?_; (case hd => rfl); (case hg => rfl); (case hr => first | (go_simp; done) | (go_simp; rfl)); intro gb136 hg w17 hbox hb; have n0_ := Aside0.mk (blk_below (g := gb135) (o := .cells #[.int .i64 a0_0, .int .i64 a0_1, .slice A0_2 l0_2.length c0_2] 26 (0, 0)) (by (with_reducible repeat (first | refine blk_drewN ?_ _ | refine blk_drew ?_ | refine blk_alloc ?_ _)); exact BK135.out) hb); have n1_ := Aside0.mk (below_step (by repeat (first | (with_reducible first | exact HB.out | apply below_alloc | apply pw_below_drewN | apply below_drew1 | refine below_set ?_ GE135.out) | exact HB.out)) hb); have n2_ := Aside0.mk (hbox); have n3_ := Aside0.mk ((by rw [hg]; exact (below_size (by repeat (first | (with_reducible first | exact HB.out | apply below_alloc | apply pw_below_drewN | apply below_drew1 | refine below_set ?_ GE135.out) | exact HB.out))) : w.heap.size ≤ gb136)); have n4_ := Aside0.mk ((by rw [hg]; exact (below_size (by repeat (first | (with_reducible first | exact HB.out | apply below_alloc | apply pw_below_drewN | apply below_drew1 | refine below_set ?_ GE135.out) | exact HB.out))) : w.heap.size ≤ gb136)); have n5_ := Aside0.mk ((by rw [hg]; exact Nat.ne_of_lt (blk_lt (g := gb135) (o := .cells #[.int .i64 a0_0, .int .i64 a0_1, .slice A0_2 l0_2.length c0_2] 26 (0, 0)) (by (with_reducible repeat (first | refine blk_drewN ?_ _ | refine blk_drew ?_ | refine blk_alloc ?_ _)); exact BK135.out)) : gb135 ≠ gb136)); have n6_ := Aside0.mk ((by rw [hg]; exact Nat.ne_of_gt (blk_lt (g := gb135) (o := .cells #[.int .i64 a0_0, .int .i64 a0_1, .slice A0_2 l0_2.length c0_2] 26 (0, 0)) (by (with_reducible repeat (first | refine blk_drewN ?_ _ | refine blk_drew ?_ | refine blk_alloc ?_ _)); exact BK135.out)) : gb136 ≠ gb135)); clear BK135; clear HB; have BK135 := n0_; have HB := n1_; have BK136 := n2_; have GW136 := n3_; have GE136 := n4_; have NB135_136 := n5_; have NB136_135 := n6_; clear n0_ n1_ n2_ n3_ n4_ n5_ n6_; clear hb hbox hg) | ((with_reducible refine gate_callee (f := 47) rfl ?_); refine goesL_ (some 6) rfl rfl Try.func47 (by kernel_rfl) rfl #[.pointer (some ⟨gb135, 0, none⟩)] rfl (by (try simp only [List.map_toArray, List.map_cons, List.map_nil]); first | done | rfl | (simp only [List.length_drop, List.length_take]; rfl)) ?_; (with_reducible refine (spec_l03Ok.calls k gb135 a0_0 a0_1 A0_2 c0_2 l0_2 false _ ?side1 ?side2 ?side3 A2.out).mono ?_); (case side1 => (with_reducible repeat (first | refine blk_drewN ?_ _ | refine blk_drew ?_ | refine blk_alloc ?_ _)); exact BK135.out); (case side2 => repeat (first | exact (Kd.C_below HR0_2.out HB.out) | (with_reducible refine Kd.C_alloc ?_ _) | (with_reducible refine Kd.C_drewN ?_ _) | (with_reducible refine Kd.C_drew ?_))); (case side3 => exact HC0_2.out); rintro e w18 ⟨rfl, hb⟩; refine ⟨_, rfl, ?_⟩; have n0_ := Aside0.mk (blk_below (g := gb135) (o := .cells #[.int .i64 a0_0, .int .i64 a0_1, .slice A0_2 l0_2.length c0_2] 26 (0, 0)) (by (with_reducible repeat (first | refine blk_drewN ?_ _ | refine blk_drew ?_ | refine blk_alloc ?_ _)); exact BK135.out) hb); have n1_ := Aside0.mk (blk_below (g := gb136) (o := .cells #[.int .i64 0, .int .i64 0, .slice none 0 0] 26 (0, 0)) (by (with_reducible repeat (first | refine blk_drewN ?_ _ | refine blk_drew ?_ | refine blk_alloc ?_ _)); exact BK136.out) hb); have n2_ := Aside0.mk (below_step (by repeat (first | (with_reducible first | exact HB.out | apply below_alloc | apply pw_below_drewN | apply below_drew1 | refine below_set ?_ GE135.out | refine below_set ?_ GE136.out) | exact HB.out)) hb); clear BK135; clear BK136; clear HB; have BK135 := n0_; have BK136 := n1_; have HB := n2_; clear n0_ n1_ n2_; (try clear hb); (try clear hb2); (try clear hk); (try clear hi); have hnb19 := NB136_135.out; have hnc19 := NB135_136.out; have hcz20_0 : w18.cell? ⟨gb136, 0, none⟩ = some (.int .i64 0) := (blk_cell BK136.out 0).trans rfl; have hcz20_1 : w18.cell? ⟨gb136, 1, none⟩ = some (.int .i64 0) := (blk_cell BK136.out 1).trans rfl; have hcz20_2 : w18.cell? ⟨gb136, 2, none⟩ = some (.slice none 0 0) := (blk_cell BK136.out 2).trans rfl; have hfz20_0 := blk_frozen BK136.out 0; have hfz20_1 := blk_frozen BK136.out 1; have hfz20_2 := blk_frozen BK136.out 2))
    refine bodyPost_ret (results_ct rfl _ _ gb136 26 #[.int .i64 0, .int .i64 0, .slice none 0 0] (0, 0) _ rfl (by (with_reducible repeat (first | refine blk_drewN ?_ _ | refine blk_drew ?_ | refine blk_alloc ?_ _)); refine blk_put (cs := #[.int .i64 0, .int .i64 0, .slice none 0 0]) ?_ 2 _ rfl; (with_reducible repeat (first | refine blk_drewN ?_ _ | refine blk_drew ?_ | refine blk_alloc ?_ _)); refine blk_put (cs := #[.int .i64 0, .int .i64 0, .slice none 0 0]) ?_ 1 _ rfl; (with_reducible repeat (first | refine blk_drewN ?_ _ | refine blk_drew ?_ | refine blk_alloc ?_ _)); refine blk_put (cs := #[.int .i64 0, .int .i64 0, .slice none 0 0]) ?_ 0 _ rfl; (with_reducible repeat (first | refine blk_drewN ?_ _ | refine blk_drew ?_ | refine blk_alloc ?_ _)); exact BK136.out) Try.underlying26 rfl (by kernel_rfl)) rfl ?_
    exact ⟨_, by first | rfl | (simp [errW_none, errW_some] <;> rfl) | (simp [*, errW_none, errW_some] <;> rfl), by first | exact Kd.S_nil _ _ _ _ _ | exact Kd.N_nil _ _ _ _ _ | exact Kd.V_nil _ _ _ _ _ | exact Kd.Q_nil _ _ _ _ _ | exact Kd.R_nil _ _ _ _ _, by repeat (first | (with_reducible first | exact HB.out | apply below_alloc | apply pw_below_drewN | apply below_drew1 | refine below_set ?_ GE135.out | refine below_set ?_ GE136.out) | exact HB.out)⟩

end Go.Proofs.Ytjpbemomocccaaa.P

namespace Go.Proofs.Ytjpbemomocccaaa.P
open Go.RowKit Go.Proofs.YtjpbemomocccaaaW.PrintWords Go.Proofs.YtjpbemomocccaaaW.PrintLast Go.Proofs.YtjpbemomocccaaaW.PrintMore
attribute [local go_sem] max2_int min2_int max_two min_two max_three min_three max_four min_four
set_option linter.unusedVariables false
set_option linter.unusedSimpArgs false

/-! ### laws_toInt64S: function 26 -/
def laws_toInt64S.l0 : Nat → List Int → List Int → Int → Option (List Int)
  | 0, _, _, _ => none
  | k + 1, x0, x3, x4 => if x4 < (x0.length : Int) then (if 0 ≤ x4 then (if x4 < (x3.length : Int) then (laws_toInt64S.l0 k x0 (x3.set (x4 : Int).toNat (rd x0 x4)) (wrap64 (x4 + 1))) else (none)) else (none)) else (some x3)
def laws_toInt64S.f (k : Nat) (l0 : List Int) : Option (List Int) := if 0 ≤ (l0.length : Int) then (if ((l0.length : Int) : Int).toNat ≤ 35184372088832 then (laws_toInt64S.l0 k l0 (List.replicate ((l0.length : Int) : Int).toNat 0) 0) else (none)) else (none)
theorem laws_toInt64S.mono_l : ∀ k, (∀ y0 y1 y2, LeO (laws_toInt64S.l0 k y0 y1 y2) (laws_toInt64S.l0 (k + 1) y0 y1 y2))
  | 0 => fun _ _ _ r h => by simp [laws_toInt64S.l0] at h
  | k + 1 => by
    have ih0 := laws_toInt64S.mono_l k
    · intro y0 y1 y2
      unfold laws_toInt64S.l0
      repeat' first
      | (with_reducible exact ih0 _ _ _)
      | (with_reducible exact LeO.refl _)
      | (with_reducible exact LeO.none _)
      | (with_reducible refine LeO.ite ?_ ?_)
      | (with_reducible refine LeO.bind ?_ (fun _ => ?_))
      | exact ih0 _ _ _
      | exact LeO.none _
      | refine LeO.ite ?_ ?_
      | refine LeO.bind ?_ (fun _ => ?_)
theorem laws_toInt64S.mono : ∀ a0 k, LeO (laws_toInt64S.f k a0) (laws_toInt64S.f (k + 1) a0) := by
  intro a0 k
  have ih0 := laws_toInt64S.mono_l k
  unfold laws_toInt64S.f
  repeat' first
      | (with_reducible exact ih0 _ _ _)
      | (with_reducible exact LeO.refl _)
      | (with_reducible exact LeO.none _)
      | (with_reducible refine LeO.ite ?_ ?_)
      | (with_reducible refine LeO.bind ?_ (fun _ => ?_))
      | exact ih0 _ _ _
      | exact LeO.none _
      | refine LeO.ite ?_ ?_
      | refine LeO.bind ?_ (fun _ => ?_)
set_option maxHeartbeats 8000000 in
set_option maxRecDepth 100000 in
theorem laws_toInt64S.calls (k : Nat) (A0 : Option Addr) (c0 : Nat) (l0 : List Int) (r : List Int) (w : World) (hr0 : Kd.C (Kd.int .i64) w A0 l0.length l0) (hc0 : l0.length ≤ c0) (h : laws_toInt64S.f k l0 = some r) :
    Calls Try.prog 26 #[.slice A0 l0.length c0] w fun e w' => ∃ v0_ : Value, e = .returned (v0_) ∧ Kd.R (Kd.int .i64) 2 w' w.heap.size (fun _ => True) v0_ r ∧ Below w.heap.size w w' := by
  have HR0 := Aside0.mk hr0
  have HC0 := Aside0.mk hc0
  clear hr0 hc0
  have HB := Aside0.mk (Below.refl w.heap.size w)
  have H : (if 0 ≤ (l0.length : Int) then (if ((l0.length : Int) : Int).toNat ≤ 35184372088832 then (laws_toInt64S.l0 k l0 (List.replicate ((l0.length : Int) : Int).toNat 0) 0) else (none)) else (none)) = some r := h
  clear h
  by_cases c2 : 0 ≤ (l0.length : Int)
  · rw [if_pos c2] at H
    have c2b0 := eq_true c2
    have c2b1 : decide (0 ≤ (l0.length : Int)) = true := decide_eq_true c2
    clear c2
    by_cases c3 : ((l0.length : Int) : Int).toNat ≤ 35184372088832
    · rw [if_pos c3] at H
      have c3b0 := eq_true c3
      have c3b1 : decide (((l0.length : Int) : Int).toNat ≤ 35184372088832) = true := decide_eq_true c3
      clear c3
      obtain ⟨y147, hy147⟩ : ∃ y_ : List Int, y_ = (List.replicate ((l0.length : Int) : Int).toNat 0) := ⟨_, rfl⟩
      replace H : (laws_toInt64S.l0 k l0 y147 0) = some r := by first | (rw [hy147]; with_reducible exact H) | (have H2_ := (Option.bind_some _ _).symm.trans H; rw [hy147]; with_reducible exact H2_) | (have H2_ := (Option.bind_some _ _).symm.trans H; with_reducible exact H2_) | with_reducible exact H | (rw [hy147]; exact H) | exact H
      have Ny147 := Aside0.mk hy147
      clear hy147
      have H' := Aside0.mk H
      clear H
      go_enter Try.func26, Try.ntmps26
      go_wp2_with (first | ((with_reducible refine gate_dst (N := 7) rfl ?_); refine Kd.R_make (Kd.int .i64) _ 2 rfl (N := 7) rfl 35 _ _ rfl (l0.length : Int) rfl rfl Try.underlying35 (.int .i64 0) 8 info2 rfl (by decide) (by omega) 0 (ok := fun _ => True) (okp := fun _ => True) rfl (fun _ hk => hk) trivial (of_decide_eq_true (by first | (with_reducible assumption) | assumption)) (Nat.le_trans (Nat.mul_le_mul_right _ (of_decide_eq_true (by first | (with_reducible assumption) | assumption) : (l0.length : Int).toNat ≤ 35184372088832)) (by omega)) (Below.refl _ _) (Nat.le_refl _) ?_; intro v148 w4 ho5 hb hg_ hnew_; clear hg_ hnew_; (first | rw [← Ny147.out] at ho5 | (simp only [Int.reduceToNat] at ho5; rw [← Ny147.out] at ho5)); have n0_ := Aside0.mk (Kd.R_lower ho5 (below_size (by repeat (first | (with_reducible first | exact HB.out | apply below_alloc | apply pw_below_drewN | apply below_drew1) | exact HB.out)))); have n1_ := Aside0.mk (below_step (by repeat (first | (with_reducible first | exact HB.out | apply below_alloc | apply pw_below_drewN | apply below_drew1) | exact HB.out)) hb); clear HB; have HO149 := n0_; have HB := n1_; clear n0_ n1_; clear hb ho5))
      go_loopg [4] k (fun kq v4 w' => ∃ (x3_1 : List Int) (x4_1 : Int), v4 = .int .i64 x4_1 ∧ Aside0 (laws_toInt64S.l0 kq l0 x3_1 x4_1 = some r) ∧ Aside0 (kq ≤ k) ∧ Aside0 (Kd.R (Kd.int .i64) 2 w' w.heap.size (fun _ => True) v148 x3_1) ∧ Aside0 (Below w.heap.size w w'))
      case atStart => exact ⟨(y147), (0), (by first | rfl | (simp; done) | (simp [*]; done)), H', ⟨Nat.le_refl _⟩, ⟨by (with_reducible repeat (first | apply Kd.R_alloc | apply Kd.R_drewN | apply Kd.R_drew)); exact HO149.out⟩, ⟨by repeat (first | (with_reducible first | exact HB.out | apply below_alloc | apply pw_below_drewN | apply below_drew1) | exact HB.out)⟩⟩
      case round =>
        clear H'
        try clear c2
        try clear c2b0
        try clear c2b1
        try clear p2
        try clear c3
        try clear c3b0
        try clear c3b1
        obtain ⟨x3_1, x4_1, rfl, HA, HK1, HO_3, HB⟩ := hrel
        cases gk with
        | zero => exact absurd HA.out (by simp [laws_toInt64S.l0])
        | succ k1 =>
          have H := HA.out
          clear HA
          simp only [laws_toInt64S.l0] at H
          by_cases c6 : x4_1 < (l0.length : Int)
          · rw [if_pos c6] at H
            have c6b0 : decide (x4_1 < (l0.length : Int)) = true := decide_eq_true c6
            clear c6
            by_cases c7 : 0 ≤ x4_1
            · rw [if_pos c7] at H
              have c7b0 : decide (0 ≤ x4_1) = true := decide_eq_true c7
              clear c7
              by_cases c8 : x4_1 < (x3_1.length : Int)
              · rw [if_pos c8] at H
                have c8b0 : decide (x4_1 < (x3_1.length : Int)) = true := decide_eq_true c8
                clear c8
                obtain ⟨y151, hy151⟩ : ∃ y_ : List Int, y_ = (x3_1.set (x4_1 : Int).toNat (rd l0 x4_1)) := ⟨_, rfl⟩
                replace H : (laws_toInt64S.l0 k1 l0 y151 (wrap64 (x4_1 + 1))) = some r := by first | (rw [hy151]; with_reducible exact H) | (have H2_ := (Option.bind_some _ _).symm.trans H; rw [hy151]; with_reducible exact H2_) | (have H2_ := (Option.bind_some _ _).symm.trans H; with_reducible exact H2_) | with_reducible exact H | (rw [hy151]; exact H) | exact H
                have Ny151 := Aside0.mk hy151
                clear hy151
                have H' := Aside0.mk H
                clear H
                have p150 : 0 ≤ (x4_1 : Int) := of_decide_eq_true (by first | (with_reducible assumption) | assumption)
                have q150 : x4_1 < (l0.length : Int) := of_decide_eq_true (by first | (with_reducible assumption) | assumption)
                obtain ⟨ad150, e150, hx150_0⟩ := Kd.at_int HR0.out x4_1 p150 q150
                cases e150
                replace hx150_0 := (HB.out.cell (World.block_lt_of_cell? w _ hx150_0)).trans hx150_0
                replace p150 := eq_true p150
                replace q150 := eq_true q150
                have p9 : 0 ≤ (x4_1 : Int) := of_decide_eq_true (by first | (with_reducible assumption) | assumption)
                have q9 : (x4_1 : Int) < ((x3_1.length : Int) : Int) := of_decide_eq_true (by first | (with_reducible assumption) | assumption)
                obtain ⟨go9, co9, eo9, gb9, gl9, cl9, HG9⟩ := Kd.R_form HO_3.out (by omega)
                (first | cases eo9 | (injection eo9 with ea_ en_ ec_; (first | subst ea_ | (injection ea_ with ea_; subst ea_)); subst ec_; clear en_))
                have GB9 := Aside0.mk gb9
                have GG9 := Aside0.mk HG9
                clear gb9 gl9 HG9
                obtain ⟨hx9_0, hf9_0⟩ := Kd.R_celln 0 HO_3.out (x4_1 : Int) p9 q9
                replace p9 := eq_true p9
                replace q9 := eq_true q9
                have HP10 := Kd.R_putg HO_3.out (x4_1 : Int) (rd l0 x4_1)
                go_wp2_with (first | ((with_reducible refine gate_store (t := 2) (p := 20) rfl ?_); refine store_event (t := 2) (p := 20) (v := ?vo_w11) (w1 := (wr.setCell ⟨go9, (x4_1 : Int).toNat, none⟩ (.int .i64 (rd l0 x4_1)))) ?hg ?ho ?hn ?hr ?_; (case ho => rfl); (case hg => rfl); (case hn => rfl); (case hr => first | (go_simp; done) | (go_simp; rfl)); intro w11 hw; have hg : wr.grownBy w11 (some go9) := (by rw [hw]; exact HP10.2); have hp_ : Kd.R (Kd.int .i64) 2 w11 w.heap.size (fun _ => True) (.slice (some ⟨go9, 0, none⟩) x3_1.length co9) y151 := (by rw [hw, Ny151.out]; exact HP10.1); clear HP10; have n0_ := Aside0.mk (hp_); have n1_ := Aside0.mk ((by rw [hw]; exact below_set (HB.out) GB9.out : Below w.heap.size w w11)); clear HO_3; clear HB; have HO_3 := n0_; have HB := n1_; clear n0_ n1_; clear hg hw hp_))
                go_roundg k1
                case measure => have := HK1.out; omega
                case rel => exact ⟨(y151), (wrap64 (x4_1 + 1)), (by first | rfl | (simp; done) | (simp [*]; done)), H', ⟨by have := HK1.out; omega⟩, ⟨by (with_reducible repeat (first | apply Kd.R_alloc | apply Kd.R_drewN | apply Kd.R_drew)); exact HO_3.out⟩, ⟨by repeat (first | (with_reducible first | exact HB.out | apply below_alloc | apply pw_below_drewN | apply below_drew1) | exact HB.out)⟩⟩
              · rw [if_neg c8] at H
                exact absurd H (by simp)
            · rw [if_neg c7] at H
              exact absurd H (by simp)
          · rw [if_neg c6] at H
            have c6b0 : decide (x4_1 < (l0.length : Int)) = false := decide_eq_false c6
            clear c6
            obtain rfl := Option.some.inj H
            go_wp2
            go_ret
            exact ⟨_, by first | rfl | (simp [errW_none, errW_some] <;> rfl) | (simp [*, errW_none, errW_some] <;> rfl), by (with_reducible repeat (first | apply Kd.R_alloc | apply Kd.R_drewN | apply Kd.R_drew)); exact HO_3.out, by repeat (first | (with_reducible first | exact HB.out | apply below_alloc | apply pw_below_drewN | apply below_drew1) | exact HB.out)⟩
    · rw [if_neg c3] at H
      exact absurd H (by simp)
  · rw [if_neg c2] at H
    exact absurd H (by simp)

end Go.Proofs.Ytjpbemomocccaaa.P

namespace Go.Proofs.Ytjpbemomocccaaa.P
open Go.RowKit Go.Proofs.YtjpbemomocccaaaW.PrintWords Go.Proofs.YtjpbemomocccaaaW.PrintLast Go.Proofs.YtjpbemomocccaaaW.PrintMore
attribute [local go_sem] max2_int min2_int max_two min_two max_three min_three max_four min_four
set_option linter.unusedVariables false
set_option linter.unusedSimpArgs false

/-! ### laws_toInt64SS: function 49 -/
def laws_toInt64SS.l0 : Nat → List (List Int) → List (List Int) → Int → Option ((List (List Int)))
  | 0, _, _, _ => none
  | k + 1, x0, x3, x4 => if x4 < (x0.length : Int) then (if 0 ≤ x4 then ((laws_toInt64S.f k (rd_L1 x0 x4)).bind fun t156 => (if x4 < (x3.length : Int) then (laws_toInt64SS.l0 k x0 (x3.set (x4 : Int).toNat t156) (wrap64 (x4 + 1))) else (none))) else (none)) else (some x3)
def laws_toInt64SS.f (k : Nat) (l0 : List (List Int)) : Option ((List (List Int))) := if 0 ≤ (l0.length : Int) then (if ((l0.length : Int) : Int).toNat ≤ 11728124029610 then (laws_toInt64SS.l0 k l0 (List.replicate ((l0.length : Int) : Int).toNat []) 0) else (none)) else (none)
theorem laws_toInt64SS.mono_l : ∀ k, (∀ y0 y1 y2, LeO (laws_toInt64SS.l0 k y0 y1 y2) (laws_toInt64SS.l0 (k + 1) y0 y1 y2))
  | 0 => fun _ _ _ r h => by simp [laws_toInt64SS.l0] at h
  | k + 1 => by
    have ih0 := laws_toInt64SS.mono_l k
    · intro y0 y1 y2
      unfold laws_toInt64SS.l0
      repeat' first
      | (with_reducible exact ih0 _ _ _)
      | (with_reducible exact laws_toInt64S.mono _ _)
      | (with_reducible exact LeO.refl _)
      | (with_reducible exact LeO.none _)
      | (with_reducible refine LeO.ite ?_ ?_)
      | (with_reducible refine LeO.bind ?_ (fun _ => ?_))
      | exact ih0 _ _ _
      | exact laws_toInt64S.mono _ _
      | exact LeO.none _
      | refine LeO.ite ?_ ?_
      | refine LeO.bind ?_ (fun _ => ?_)
theorem laws_toInt64SS.mono : ∀ a0 k, LeO (laws_toInt64SS.f k a0) (laws_toInt64SS.f (k + 1) a0) := by
  intro a0 k
  have ih0 := laws_toInt64SS.mono_l k
  unfold laws_toInt64SS.f
  repeat' first
      | (with_reducible exact ih0 _ _ _)
      | (with_reducible exact laws_toInt64S.mono _ _)
      | (with_reducible exact LeO.refl _)
      | (with_reducible exact LeO.none _)
      | (with_reducible refine LeO.ite ?_ ?_)
      | (with_reducible refine LeO.bind ?_ (fun _ => ?_))
      | exact ih0 _ _ _
      | exact laws_toInt64S.mono _ _
      | exact LeO.none _
      | refine LeO.ite ?_ ?_
      | refine LeO.bind ?_ (fun _ => ?_)
set_option maxHeartbeats 8000000 in
set_option maxRecDepth 100000 in
theorem laws_toInt64SS.calls (k : Nat) (A0 : Option Addr) (c0 : Nat) (l0 : List (List Int)) (r : List (List Int)) (w : World) (hr0 : Kd.C (Kd.slice 2 (Kd.int .i64)) w A0 l0.length l0) (hc0 : l0.length ≤ c0) (h : laws_toInt64SS.f k l0 = some r) :
    Calls Try.prog 49 #[.slice A0 l0.length c0] w fun e w' => ∃ v0_ : Value, e = .returned (v0_) ∧ Kd.S (Kd.slice 2 (Kd.int .i64)) 35 w' w.heap.size (fun _ => True) v0_ r ∧ Below w.heap.size w w' := by
  have HR0 := Aside0.mk hr0
  have HC0 := Aside0.mk hc0
  clear hr0 hc0
  have HB := Aside0.mk (Below.refl w.heap.size w)
  have H : (if 0 ≤ (l0.length : Int) then (if ((l0.length : Int) : Int).toNat ≤ 11728124029610 then (laws_toInt64SS.l0 k l0 (List.replicate ((l0.length : Int) : Int).toNat []) 0) else (none)) else (none)) = some r := h
  clear h
  by_cases c2 : 0 ≤ (l0.length : Int)
  · rw [if_pos c2] at H
    have c2b0 := eq_true c2
    have c2b1 : decide (0 ≤ (l0.length : Int)) = true := decide_eq_true c2
    clear c2
    by_cases c3 : ((l0.length : Int) : Int).toNat ≤ 11728124029610
    · rw [if_pos c3] at H
      have c3b0 := eq_true c3
      have c3b1 : decide (((l0.length : Int) : Int).toNat ≤ 11728124029610) = true := decide_eq_true c3
      clear c3
      obtain ⟨y152, hy152⟩ : ∃ y_ : List (List Int), y_ = (List.replicate ((l0.length : Int) : Int).toNat []) := ⟨_, rfl⟩
      replace H : (laws_toInt64SS.l0 k l0 y152 0) = some r := by first | (rw [hy152]; with_reducible exact H) | (have H2_ := (Option.bind_some _ _).symm.trans H; rw [hy152]; with_reducible exact H2_) | (have H2_ := (Option.bind_some _ _).symm.trans H; with_reducible exact H2_) | with_reducible exact H | (rw [hy152]; exact H) | exact H
      have Ny152 := Aside0.mk hy152
      clear hy152
      have H' := Aside0.mk H
      clear H
      go_enter Try.func49, Try.ntmps49
      go_wp2_with (first | ((with_reducible refine gate_dst (N := 7) rfl ?_); refine Kd.S_make (Kd.slice 2 (Kd.int .i64)) _ 35 rfl (N := 7) rfl 22 _ _ rfl (l0.length : Int) rfl rfl Try.underlying22 (.slice none 0 0) 24 info35 rfl (by decide) (by omega) [] (ok := fun _ => True) (okp := fun _ => True) ⟨_, rfl, Kd.R_nil _ _ _ _ _⟩ (fun _ hk => hk) trivial (of_decide_eq_true (by first | (with_reducible assumption) | assumption)) (Nat.le_trans (Nat.mul_le_mul_right _ (of_decide_eq_true (by first | (with_reducible assumption) | assumption) : (l0.length : Int).toNat ≤ 11728124029610)) (by omega)) (Below.refl _ _) (Nat.le_refl _) ?_; intro v153 w4 ho5 hb hg_ hnew_; clear hg_ hnew_; (first | rw [← Ny152.out] at ho5 | (simp only [Int.reduceToNat] at ho5; rw [← Ny152.out] at ho5)); have n0_ := Aside0.mk (Kd.S_lower ho5 (below_size (by repeat (first | (with_reducible first | exact HB.out | apply below_alloc | apply pw_below_drewN | apply below_drew1) | exact HB.out)))); have n1_ := Aside0.mk (below_step (by repeat (first | (with_reducible first | exact HB.out | apply below_alloc | apply pw_below_drewN | apply below_drew1) | exact HB.out)) hb); clear HB; have HO154 := n0_; have HB := n1_; clear n0_ n1_; clear hb ho5))
      go_loopg [4] k (fun kq v4 w' => ∃ (x3_1 : List (List Int)) (x4_1 : Int), v4 = .int .i64 x4_1 ∧ Aside0 (laws_toInt64SS.l0 kq l0 x3_1 x4_1 = some r) ∧ Aside0 (kq ≤ k) ∧ Aside0 (Kd.S (Kd.slice 2 (Kd.int .i64)) 35 w' w.heap.size (fun _ => True) v153 x3_1) ∧ Aside0 (Below w.heap.size w w'))
      case atStart => exact ⟨(y152), (0), (by first | rfl | (simp; done) | (simp [*]; done)), H', ⟨Nat.le_refl _⟩, ⟨by (with_reducible repeat (first | apply Kd.S_alloc | apply Kd.S_drewN | apply Kd.S_drew)); exact HO154.out⟩, ⟨by repeat (first | (with_reducible first | exact HB.out | apply below_alloc | apply pw_below_drewN | apply below_drew1) | exact HB.out)⟩⟩
      case round =>
        clear H'
        try clear c2
        try clear c2b0
        try clear c2b1
        try clear p2
        try clear c3
        try clear c3b0
        try clear c3b1
        try clear c4
        obtain ⟨x3_1, x4_1, rfl, HA, HK1, HO_3, HB⟩ := hrel
        cases gk with
        | zero => exact absurd HA.out (by simp [laws_toInt64SS.l0])
        | succ k1 =>
          have H := HA.out
          clear HA
          simp only [laws_toInt64SS.l0] at H
          by_cases c6 : x4_1 < (l0.length : Int)
          · rw [if_pos c6] at H
            have c6b0 : decide (x4_1 < (l0.length : Int)) = true := decide_eq_true c6
            clear c6
            by_cases c7 : 0 ≤ x4_1
            · rw [if_pos c7] at H
              have c7b0 : decide (0 ≤ x4_1) = true := decide_eq_true c7
              clear c7
              replace H := Option.bind_eq_some_iff.mp H
              obtain ⟨t156, A80, H⟩ := H
              replace H : (if x4_1 < (x3_1.length : Int) then (laws_toInt64SS.l0 k1 l0 (x3_1.set (x4_1 : Int).toNat t156) (wrap64 (x4_1 + 1))) else (none)) = some r := H
              have A8 := Aside0.mk A80
              clear A80
              by_cases c9 : x4_1 < (x3_1.length : Int)
              · rw [if_pos c9] at H
                have c9b0 : decide (x4_1 < (x3_1.length : Int)) = true := decide_eq_true c9
                clear c9
                obtain ⟨y159, hy159⟩ : ∃ y_ : List (List Int), y_ = (x3_1.set (x4_1 : Int).toNat t156) := ⟨_, rfl⟩
                replace H : (laws_toInt64SS.l0 k1 l0 y159 (wrap64 (x4_1 + 1))) = some r := by first | (rw [hy159]; with_reducible exact H) | (have H2_ := (Option.bind_some _ _).symm.trans H; rw [hy159]; with_reducible exact H2_) | (have H2_ := (Option.bind_some _ _).symm.trans H; with_reducible exact H2_) | with_reducible exact H | (rw [hy159]; exact H) | exact H
                have Ny159 := Aside0.mk hy159
                clear hy159
                have H' := Aside0.mk H
                clear H
                have p155 : 0 ≤ (x4_1 : Int) := of_decide_eq_true (by first | (with_reducible assumption) | assumption)
                have q155 : x4_1 < (l0.length : Int) := of_decide_eq_true (by first | (with_reducible assumption) | assumption)
                obtain ⟨ad155, A155_0, c155_0, e155, hx155_0, hl155_0, hi155_0⟩ := at_L1 HR0.out x4_1 p155 q155
                cases e155
                replace hx155_0 := (HB.out.cell (World.block_lt_of_cell? w _ hx155_0)).trans hx155_0
                have HR155_0 := Aside0.mk hi155_0
                have HC155_0 := Aside0.mk hl155_0
                clear hi155_0 hl155_0
                replace p155 := eq_true p155
                replace q155 := eq_true q155
                go_wp2_with (first | ((with_reducible refine gate_callee (f := 26) rfl ?_); refine goesL_ (some 20) rfl rfl Try.func26 (by kernel_rfl) rfl #[.slice A155_0 (rd_L1 l0 x4_1).length c155_0] rfl (by (try simp only [List.map_toArray, List.map_cons, List.map_nil]); first | done | rfl | (simp only [List.length_drop, List.length_take]; rfl)) ?_; (with_reducible refine (laws_toInt64S.calls k1 _ _ (rd_L1 l0 x4_1) t156 _ ?side1 ?side2 A8.out).mono ?_); (case side1 => repeat (first | exact (Kd.C_below HR155_0.out HB.out) | (with_reducible refine Kd.C_alloc ?_ _) | (with_reducible refine Kd.C_drewN ?_ _) | (with_reducible refine Kd.C_drew ?_))); (case side2 => exact HC155_0.out); rintro e w11 ⟨v157, rfl, ho0, hb⟩; refine ⟨_, rfl, ?_⟩; have n0_ := Aside0.mk (Kd.S_elder' (by (with_reducible repeat (first | apply Kd.S_alloc | apply Kd.S_drewN | apply Kd.S_drew)); exact HO_3.out) (Kd.R_base ho0) hb); have n1_ := Aside0.mk (Kd.R_lower ho0 (below_size (by repeat (first | (with_reducible first | exact HB.out | apply below_alloc | apply pw_below_drewN | apply below_drew1) | exact HB.out)))); have n2_ := Aside0.mk (below_step (by repeat (first | (with_reducible first | exact HB.out | apply below_alloc | apply pw_below_drewN | apply below_drew1) | exact HB.out)) hb); clear HO_3; clear HB; have HO_3 := n0_; have HO158 := n1_; have HB := n2_; clear n0_ n1_ n2_; (try clear hb); (try clear hb2); (try clear hk); (try clear hi); (try clear ho0); have p10 : 0 ≤ (x4_1 : Int) := of_decide_eq_true (by first | (with_reducible assumption) | assumption); have q10 : (x4_1 : Int) < ((x3_1.length : Int) : Int) := of_decide_eq_true (by first | (with_reducible assumption) | assumption); obtain ⟨go10, co10, eo10, gb10, gl10, cl10, HG10⟩ := Kd.S_form HO_3.out (by omega); (first | cases eo10 | (injection eo10 with ea_ en_ ec_; (first | subst ea_ | (injection ea_ with ea_; subst ea_)); subst ec_; clear en_)); have GB10 := Aside0.mk gb10; have GG10 := Aside0.mk HG10; clear gb10 gl10 HG10; obtain ⟨_, ce10, hcl10, hM10, hcc10, hfr10, _, _⟩ := Kd.S_elem HO_3.out [] (x4_1 : Int) p10 q10; obtain ⟨ve10_0, rfl, ge10_0⟩ := hM10; have hx10_0 := hcc10 0 _ rfl; have hf10_0 := hfr10 0; (try simp only [show ((Kd.slice 2 (Kd.int .i64))).sz = 1 from rfl, Nat.mul_one, Nat.add_zero] at hx10_0); (try simp only [show ((Kd.slice 2 (Kd.int .i64))).sz = 1 from rfl, Nat.mul_one, Nat.add_zero] at hf10_0); (try clear hM10); clear hcl10 hcc10 hfr10 ; replace p10 := eq_true p10; replace q10 := eq_true q10; have n_ := Aside0.mk (Kd.S_mono (ok' := (fun k_ => some k_ ≠ (v157 : Value).ownBlock)) HO_3.out (fun k_ hk => hk.2)); clear HO_3; have HO_3 := n_; clear n_; have HX12 := Aside0.mk (show Kd.S (Kd.slice 2 (Kd.int .i64)) 35 w11 w.heap.size (fun k_ => ((fun _ => True)) k_ ∧ ¬ ((fun k_ => some k_ = (v157 : Value).ownBlock)) k_) (.slice (some ⟨go10, 0, none⟩) x3_1.length co10) x3_1 from (by (with_reducible repeat (first | apply Kd.S_alloc | apply Kd.S_drewN | apply Kd.S_drew)); exact Kd.S_mono HO_3.out (fun k_ hk => ⟨trivial, fun e_ => hk e_⟩))); obtain ⟨oki12, ce12, hcl12, hM12, hcc12, hfr12, hoki12, hH12⟩ := Kd.S_elem HX12.out [] (x4_1 : Int) (of_decide_eq_true (by first | (with_reducible assumption) | assumption)) (by have h_ : (x4_1 : Int) < ((x3_1.length : Int) : Int) := of_decide_eq_true (by first | (with_reducible assumption) | assumption); first | exact h_ | (have e_ := (Kd.S_reads' HO_3.out).1; omega) | simpa using h_); obtain ⟨ve12_0, rfl, ge12_0⟩ := hM12; have HP12 := Kd.S_seg hH12 (of_decide_eq_true (by first | (with_reducible assumption) | assumption)) (by have h_ : (x4_1 : Int) < ((x3_1.length : Int) : Int) := of_decide_eq_true (by first | (with_reducible assumption) | assumption); first | exact h_ | (have e_ := (Kd.S_reads' HO_3.out).1; omega) | simpa using h_) (seg := [v157]) (j := 0) (show 1 ≤ 1 from by decide) (x' := t156) (Kd.M_row (Kd.R_mono (Kd.R_tight rfl (Kd.R_mono (ok' := fun k_ => ((fun _ => True)) k_ ∧ k_ ≠ go10) (Kd.R_apart' (HO158.out) (Kd.S_typed HO_3.out) (by decide)) (fun k_ hk => ⟨trivial, fun e_ => (hk.2) (by rw [e_]; rfl)⟩))) (fun _ h_ => Or.inr (h_)))) (fun _ hk => hk) (fun k_ hk_ => ((Kd.R_mono (ok' := fun k_ => ((fun _ => True)) k_ ∧ k_ ≠ go10) (Kd.R_apart' (HO158.out) (Kd.S_typed HO_3.out) (by decide)) (fun k_ hk => ⟨trivial, fun e_ => (hk.2) (by rw [e_]; rfl)⟩))).1 k_ hk_.symm); have hx12_0 := hcc12 0 _ rfl; (try simp only [show ((Kd.slice 2 (Kd.int .i64))).sz = 1 from rfl, Nat.mul_one, Nat.add_zero] at hx12_0); have hf12_0 := hfr12 0; (try simp only [show ((Kd.slice 2 (Kd.int .i64))).sz = 1 from rfl, Nat.mul_one, Nat.add_zero] at hf12_0); (try clear hM12); clear hcl12 hcc12 hfr12  hoki12 hH12; (try simp only [show ((Kd.slice 2 (Kd.int .i64))).sz = 1 from rfl, Nat.mul_one, Nat.add_zero] at HP12)) | ((with_reducible refine gate_store (t := 35) (p := 21) rfl ?_); refine store_event (t := 35) (p := 21) (v := ?vo_w13) (w1 := (w11.setCell ⟨go10, (x4_1 : Int).toNat, none⟩ (v157))) ?hg ?ho ?hn ?hr ?_; (case ho => rfl); (case hg => rfl); (case hn => rfl); (case hr => (first | (obtain ⟨_, _, ev_⟩ := Kd.R_slice HO158.out; subst ev_) | (obtain ⟨_, _, ev_⟩ := Kd.S_slice HO158.out; subst ev_)); first | (go_simp; done) | (go_simp; rfl)); intro w13 hw; have hg : w11.grownBy w13 (some go10) := (by rw [hw]; exact HP12.2); have hp_ : Kd.S (Kd.slice 2 (Kd.int .i64)) 35 w13 w.heap.size (fun _ => True) (.slice (some ⟨go10, 0, none⟩) x3_1.length co10) y159 := (by rw [hw, Ny159.out]; exact HP12.1); clear HP12; have n0_ := Aside0.mk (hp_); have n1_ := Aside0.mk ((by rw [hw]; exact below_set (HB.out) GB10.out : Below w.heap.size w w13)); clear HO_3; clear HB; clear HO158; have HO_3 := n0_; have HB := n1_; clear n0_ n1_; clear hg hw hp_))
                go_roundg k1
                case measure => have := HK1.out; omega
                case rel => exact ⟨(y159), (wrap64 (x4_1 + 1)), (by first | rfl | (simp; done) | (simp [*]; done)), H', ⟨by have := HK1.out; omega⟩, ⟨by (with_reducible repeat (first | apply Kd.S_alloc | apply Kd.S_drewN | apply Kd.S_drew)); exact HO_3.out⟩, ⟨by repeat (first | (with_reducible first | exact HB.out | apply below_alloc | apply pw_below_drewN | apply below_drew1) | exact HB.out)⟩⟩
              · rw [if_neg c9] at H
                exact absurd H (by simp)
            · rw [if_neg c7] at H
              exact absurd H (by simp)
          · rw [if_neg c6] at H
            have c6b0 : decide (x4_1 < (l0.length : Int)) = false := decide_eq_false c6
            clear c6
            obtain rfl := Option.some.inj H
            go_wp2
            go_ret
            exact ⟨_, by first | rfl | (simp [errW_none, errW_some] <;> rfl) | (simp [*, errW_none, errW_some] <;> rfl), by (with_reducible repeat (first | apply Kd.S_alloc | apply Kd.S_drewN | apply Kd.S_drew)); exact HO_3.out, by repeat (first | (with_reducible first | exact HB.out | apply below_alloc | apply pw_below_drewN | apply below_drew1) | exact HB.out)⟩
    · rw [if_neg c3] at H
      exact absurd H (by simp)
  · rw [if_neg c2] at H
    exact absurd H (by simp)

end Go.Proofs.Ytjpbemomocccaaa.P

namespace Go.Proofs.Ytjpbemomocccaaa.P
open Go.RowKit Go.Proofs.YtjpbemomocccaaaW.PrintWords Go.Proofs.YtjpbemomocccaaaW.PrintLast Go.Proofs.YtjpbemomocccaaaW.PrintMore
attribute [local go_sem] max2_int min2_int max_two min_two max_three min_three max_four min_four
set_option linter.unusedVariables false
set_option linter.unusedSimpArgs false

/-! ### laws_toMatrix: function 14 -/
def laws_toMatrix.f (k : Nat) (a0_0 : Int) (a0_1 : Int) (l0_2 : List (List Int)) : Option (Int × Int × (List (List Int))) := (laws_toInt64SS.f k l0_2).bind fun t163 => (some (a0_0, a0_1, t163))
theorem laws_toMatrix.mono : ∀ a0 a1 a2 k, LeO (laws_toMatrix.f k a0 a1 a2) (laws_toMatrix.f (k + 1) a0 a1 a2) := by
  intro a0 a1 a2 k
  unfold laws_toMatrix.f
  repeat' first
      | (with_reducible exact laws_toInt64SS.mono _ _)
      | (with_reducible exact LeO.refl _)
      | (with_reducible exact LeO.none _)
      | (with_reducible refine LeO.ite ?_ ?_)
      | (with_reducible refine LeO.bind ?_ (fun _ => ?_))
      | exact laws_toInt64SS.mono _ _
      | exact LeO.none _
      | refine LeO.ite ?_ ?_
      | refine LeO.bind ?_ (fun _ => ?_)
set_option maxHeartbeats 8000000 in
set_option maxRecDepth 100000 in
theorem laws_toMatrix.calls (k : Nat) (a0_0 : Int) (a0_1 : Int) (A0_2 : Option Addr) (c0_2 : Nat) (l0_2 : List (List Int)) (r1 : Int) (r2 : Int) (r3 : List (List Int)) (w : World) (hr0_2 : Kd.C (Kd.slice 2 (Kd.int .i64)) w A0_2 l0_2.length l0_2) (hc0_2 : l0_2.length ≤ c0_2) (h : laws_toMatrix.f k a0_0 a0_1 l0_2 = some (r1, r2, r3)) :
    Calls Try.prog 14 #[.agg #[.int .i64 a0_0, .int .i64 a0_1, .slice A0_2 l0_2.length c0_2]] w fun e w' => ∃ v2_ : Value, e = .returned (.agg #[.int .i64 r1, .int .i64 r2, v2_]) ∧ Kd.S (Kd.slice 2 (Kd.int .i64)) 35 w' w.heap.size (fun _ => True) v2_ r3 ∧ Below w.heap.size w w' := by
  have hu24 := Try.underlying24
  have hu26 := Try.underlying26
  have HR0_2 := Aside0.mk hr0_2
  have HC0_2 := Aside0.mk hc0_2
  clear hr0_2 hc0_2
  have HB := Aside0.mk (Below.refl w.heap.size w)
  have H : ((laws_toInt64SS.f k l0_2).bind fun t163 => (some (a0_0, a0_1, t163))) = some (r1, r2, r3) := h
  clear h
  replace H := Option.bind_eq_some_iff.mp H
  obtain ⟨t163, A20, H⟩ := H
  replace H : (some (a0_0, a0_1, t163)) = some (r1, r2, r3) := H
  have A2 := Aside0.mk A20
  clear A20
  simp only [Option.some.injEq, Prod.mk.injEq] at H
  obtain ⟨rfl, rfl, rfl⟩ := H
  go_enter Try.func14, Try.ntmps14
  go_wp2_with (first | ((with_reducible refine gate_dst (N := 1) rfl ?_); refine box_event ?hg (N := 1) ?hd (cs := #[.int .i64 a0_0, .int .i64 a0_1, .slice A0_2 l0_2.length c0_2]) (t := 24) ?hr ?_; (case hd => rfl); (case hg => rfl); (case hr => first | (go_simp; done) | (go_simp; rfl)); intro gb160 hg w3 hbox hb; have n0_ := Aside0.mk (below_step (by repeat (first | (with_reducible first | exact HB.out | apply below_alloc | apply pw_below_drewN | apply below_drew1) | exact HB.out)) hb); have n1_ := Aside0.mk (hbox); have n2_ := Aside0.mk ((by rw [hg]; exact (below_size (by repeat (first | (with_reducible first | exact HB.out | apply below_alloc | apply pw_below_drewN | apply below_drew1) | exact HB.out))) : w.heap.size ≤ gb160)); have n3_ := Aside0.mk ((by rw [hg]; exact (below_size (by repeat (first | (with_reducible first | exact HB.out | apply below_alloc | apply pw_below_drewN | apply below_drew1) | exact HB.out))) : w.heap.size ≤ gb160)); clear HB; have HB := n0_; have BK160 := n1_; have GW160 := n2_; have GE160 := n3_; clear n0_ n1_ n2_ n3_; clear hb hbox hg) | ((with_reducible refine gate_dst (N := 2) rfl ?_); refine box_event ?hg (N := 2) ?hd (cs := #[.int .i64 0, .int .i64 0, .slice none 0 0]) (t := 26) ?hr ?_; (case hd => rfl); (case hg => rfl); (case hr => first | (go_simp; done) | (go_simp; rfl)); intro gb161 hg w4 hbox hb; have n0_ := Aside0.mk (blk_below (g := gb160) (o := .cells #[.int .i64 a0_0, .int .i64 a0_1, .slice A0_2 l0_2.length c0_2] 24 (0, 0)) (by (with_reducible repeat (first | refine blk_drewN ?_ _ | refine blk_drew ?_ | refine blk_alloc ?_ _)); exact BK160.out) hb); have n1_ := Aside0.mk (below_step (by repeat (first | (with_reducible first | exact HB.out | apply below_alloc | apply pw_below_drewN | apply below_drew1 | refine below_set ?_ GE160.out) | exact HB.out)) hb); have n2_ := Aside0.mk (hbox); have n3_ := Aside0.mk ((by rw [hg]; exact (below_size (by repeat (first | (with_reducible first | exact HB.out | apply below_alloc | apply pw_below_drewN | apply below_drew1 | refine below_set ?_ GE160.out) | exact HB.out))) : w.heap.size ≤ gb161)); have n4_ := Aside0.mk ((by rw [hg]; exact (below_size (by repeat (first | (with_reducible first | exact HB.out | apply below_alloc | apply pw_below_drewN | apply below_drew1 | refine below_set ?_ GE160.out) | exact HB.out))) : w.heap.size ≤ gb161)); have n5_ := Aside0.mk ((by rw [hg]; exact Nat.ne_of_lt (blk_lt (g := gb160) (o := .cells #[.int .i64 a0_0, .int .i64 a0_1, .slice A0_2 l0_2.length c0_2] 24 (0, 0)) (by (with_reducible repeat (first | refine blk_drewN ?_ _ | refine blk_drew ?_ | refine blk_alloc ?_ _)); exact BK160.out)) : gb160 ≠ gb161)); have n6_ := Aside0.mk ((by rw [hg]; exact Nat.ne_of_gt (blk_lt (g := gb160) (o := .cells #[.int .i64 a0_0, .int .i64 a0_1, .slice A0_2 l0_2.length c0_2] 24 (0, 0)) (by (with_reducible repeat (first | refine blk_drewN ?_ _ | refine blk_drew ?_ | refine blk_alloc ?_ _)); exact BK160.out)) : gb161 ≠ gb160)); clear BK160; clear HB; have BK160 := n0_; have HB := n1_; have BK161 := n2_; have GW161 := n3_; have GE161 := n4_; have NB160_161 := n5_; have NB161_160 := n6_; clear n0_ n1_ n2_ n3_ n4_ n5_ n6_; clear hb hbox hg) | ((with_reducible refine gate_dst (N := 3) rfl ?_); refine box_event ?hg (N := 3) ?hd (cs := #[.int .i64 0, .int .i64 0, .slice none 0 0]) (t := 26) ?hr ?_; (case hd => rfl); (case hg => rfl); (case hr => first | (go_simp; done) | (go_simp; rfl)); intro gb162 hg w5 hbox hb; have n0_ := Aside0.mk (blk_below (g := gb160) (o := .cells #[.int .i64 a0_0, .int .i64 a0_1, .slice A0_2 l0_2.length c0_2] 24 (0, 0)) (by (with_reducible repeat (first | refine blk_drewN ?_ _ | refine blk_drew ?_ | refine blk_alloc ?_ _)); exact BK160.out) hb); have n1_ := Aside0.mk (blk_below (g := gb161) (o := .cells #[.int .i64 0, .int .i64 0, .slice none 0 0] 26 (0, 0)) (by (with_reducible repeat (first | refine blk_drewN ?_ _ | refine blk_drew ?_ | refine blk_alloc ?_ _)); exact BK161.out) hb); have n2_ := Aside0.mk (below_step (by repeat (first | (with_reducible first | exact HB.out | apply below_alloc | apply pw_below_drewN | apply below_drew1 | refine below_set ?_ GE160.out | refine below_set ?_ GE161.out) | exact HB.out)) hb); have n3_ := Aside0.mk (hbox); have n4_ := Aside0.mk ((by rw [hg]; exact (below_size (by repeat (first | (with_reducible first | exact HB.out | apply below_alloc | apply pw_below_drewN | apply below_drew1 | refine below_set ?_ GE160.out | refine below_set ?_ GE161.out) | exact HB.out))) : w.heap.size ≤ gb162)); have n5_ := Aside0.mk ((by rw [hg]; exact (below_size (by repeat (first | (with_reducible first | exact HB.out | apply below_alloc | apply pw_below_drewN | apply below_drew1 | refine below_set ?_ GE160.out | refine below_set ?_ GE161.out) | exact HB.out))) : w.heap.size ≤ gb162)); have n6_ := Aside0.mk ((by rw [hg]; exact Nat.ne_of_lt (blk_lt (g := gb160) (o := .cells #[.int .i64 a0_0, .int .i64 a0_1, .slice A0_2 l0_2.length c0_2] 24 (0, 0)) (by (with_reducible repeat (first | refine blk_drewN ?_ _ | refine blk_drew ?_ | refine blk_alloc ?_ _)); exact BK160.out)) : gb160 ≠ gb162)); have n7_ := Aside0.mk ((by rw [hg]; exact Nat.ne_of_gt (blk_lt (g := gb160) (o := .cells #[.int .i64 a0_0, .int .i64 a0_1, .slice A0_2 l0_2.length c0_2] 24 (0, 0)) (by (with_reducible repeat (first | refine blk_drewN ?_ _ | refine blk_drew ?_ | refine blk_alloc ?_ _)); exact BK160.out)) : gb162 ≠ gb160)); have n8_ := Aside0.mk ((by rw [hg]; exact Nat.ne_of_lt (blk_lt (g := gb161) (o := .cells #[.int .i64 0, .int .i64 0, .slice none 0 0] 26 (0, 0)) (by (with_reducible repeat (first | refine blk_drewN ?_ _ | refine blk_drew ?_ | refine blk_alloc ?_ _)); exact BK161.out)) : gb161 ≠ gb162)); have n9_ := Aside0.mk ((by rw [hg]; exact Nat.ne_of_gt (blk_lt (g := gb161) (o := .cells #[.int .i64 0, .int .i64 0, .slice none 0 0] 26 (0, 0)) (by (with_reducible repeat (first | refine blk_drewN ?_ _ | refine blk_drew ?_ | refine blk_alloc ?_ _)); exact BK161.out)) : gb162 ≠ gb161)); clear BK160; clear BK161; clear HB; have BK160 := n0_; have BK161 := n1_; have HB := n2_; have BK162 := n3_; have GW162 := n4_; have GE162 := n5_; have NB160_162 := n6_; have NB162_160 := n7_; have NB161_162 := n8_; have NB162_161 := n9_; clear n0_ n1_ n2_ n3_ n4_ n5_ n6_ n7_ n8_ n9_; clear hb hbox hg; have hnb6 := NB160_161.out; have hnc6 := NB161_160.out; have hnb7 := NB160_162.out; have hnc7 := NB162_160.out; have hcz8_0 : w5.cell? ⟨gb160, 0, none⟩ = some (.int .i64 a0_0) := (blk_cell BK160.out 0).trans rfl; have hcz8_1 : w5.cell? ⟨gb160, 1, none⟩ = some (.int .i64 a0_1) := (blk_cell BK160.out 1).trans rfl; have hcz8_2 : w5.cell? ⟨gb160, 2, none⟩ = some (.slice A0_2 l0_2.length c0_2) := (blk_cell BK160.out 2).trans rfl; have hfz8_0 := blk_frozen BK160.out 0; have hfz8_1 := blk_frozen BK160.out 1; have hfz8_2 := blk_frozen BK160.out 2; have hnb9 := NB162_161.out; have hnc9 := NB161_162.out; have hcz10_0 : w5.cell? ⟨gb162, 0, none⟩ = some (.int .i64 0) := (blk_cell BK162.out 0).trans rfl; have hcz10_1 : w5.cell? ⟨gb162, 1, none⟩ = some (.int .i64 0) := (blk_cell BK162.out 1).trans rfl; have hcz10_2 : w5.cell? ⟨gb162, 2, none⟩ = some (.slice none 0 0) := (blk_cell BK162.out 2).trans rfl; have hfz10_0 := blk_frozen BK162.out 0; have hfz10_1 := blk_frozen BK162.out 1; have hfz10_2 := blk_frozen BK162.out 2) | ((with_reducible refine gate_callee (f := 49) rfl ?_); refine goesL_ (some 12) rfl rfl Try.func49 (by kernel_rfl) rfl #[.slice A0_2 l0_2.length c0_2] rfl (by (try simp only [List.map_toArray, List.map_cons, List.map_nil]); first | done | rfl | (simp only [List.length_drop, List.length_take]; rfl)) ?_; (with_reducible refine (laws_toInt64SS.calls k _ _ l0_2 t163 _ ?side1 ?side2 A2.out).mono ?_); (case side1 => exact Kd.C_below HR0_2.out (by repeat (first | (with_reducible first | exact HB.out | apply below_alloc | apply pw_below_drewN | apply below_drew1 | refine below_set ?_ GE160.out | refine below_set ?_ GE161.out | refine below_set ?_ GE162.out) | exact HB.out))); (case side2 => exact HC0_2.out); rintro e w11 ⟨v164, rfl, ho0, hb⟩; refine ⟨_, rfl, ?_⟩; have n0_ := Aside0.mk (Kd.S_lower ho0 (below_size (by repeat (first | (with_reducible first | exact HB.out | apply below_alloc | apply pw_below_drewN | apply below_drew1 | refine below_set ?_ GE160.out | refine below_set ?_ GE161.out | refine below_set ?_ GE162.out) | exact HB.out)))); have n1_ := Aside0.mk (blk_below (g := gb160) (o := .cells #[.int .i64 a0_0, .int .i64 a0_1, .slice A0_2 l0_2.length c0_2] 24 (0, 0)) (by (with_reducible repeat (first | refine blk_drewN ?_ _ | refine blk_drew ?_ | refine blk_alloc ?_ _)); refine blk_far ?_ NB160_162.out _; (with_reducible repeat (first | refine blk_drewN ?_ _ | refine blk_drew ?_ | refine blk_alloc ?_ _)); refine blk_far ?_ NB160_162.out _; (with_reducible repeat (first | refine blk_drewN ?_ _ | refine blk_drew ?_ | refine blk_alloc ?_ _)); exact BK160.out) hb); have n2_ := Aside0.mk (blk_below (g := gb161) (o := .cells #[.int .i64 0, .int .i64 0, .slice none 0 0] 26 (0, 0)) (by (with_reducible repeat (first | refine blk_drewN ?_ _ | refine blk_drew ?_ | refine blk_alloc ?_ _)); refine blk_far ?_ NB161_162.out _; (with_reducible repeat (first | refine blk_drewN ?_ _ | refine blk_drew ?_ | refine blk_alloc ?_ _)); refine blk_far ?_ NB161_162.out _; (with_reducible repeat (first | refine blk_drewN ?_ _ | refine blk_drew ?_ | refine blk_alloc ?_ _)); exact BK161.out) hb); have n3_ := Aside0.mk (blk_below (g := gb162) (o := .cells #[.int .i64 a0_0, .int .i64 a0_1, .slice none 0 0] 26 (0, 0)) (by (with_reducible repeat (first | refine blk_drewN ?_ _ | refine blk_drew ?_ | refine blk_alloc ?_ _)); refine blk_put (cs := #[.int .i64 a0_0, .int .i64 0, .slice none 0 0]) ?_ 1 _ rfl; (with_reducible repeat (first | refine blk_drewN ?_ _ | refine blk_drew ?_ | refine blk_alloc ?_ _)); refine blk_put (cs := #[.int .i64 0, .int .i64 0, .slice none 0 0]) ?_ 0 _ rfl; (with_reducible repeat (first | refine blk_drewN ?_ _ | refine blk_drew ?_ | refine blk_alloc ?_ _)); exact BK162.out) hb); have n4_ := Aside0.mk (below_step (by repeat (first | (with_reducible first | exact HB.out | apply below_alloc | apply pw_below_drewN | apply below_drew1 | refine below_set ?_ GE160.out | refine below_set ?_ GE161.out | refine below_set ?_ GE162.out) | exact HB.out)) hb); clear BK160; clear BK161; clear BK162; clear HB; have HO165 := n0_; have BK160 := n1_; have BK161 := n2_; have BK162 := n3_; have HB := n4_; clear n0_ n1_ n2_ n3_ n4_; (try clear hb); (try clear hb2); (try clear hk); (try clear hi); (try clear ho0); obtain ⟨Ao12, co12, eo12⟩ := Kd.S_slice HO165.out; subst eo12; have hcz13_0 : w11.cell? ⟨gb162, 0, none⟩ = some (.int .i64 a0_0) := (blk_cell BK162.out 0).trans rfl; have hcz13_1 : w11.cell? ⟨gb162, 1, none⟩ = some (.int .i64 a0_1) := (blk_cell BK162.out 1).trans rfl; have hcz13_2 : w11.cell? ⟨gb162, 2, none⟩ = some (.slice none 0 0) := (blk_cell BK162.out 2).trans rfl; have hfz13_0 := blk_frozen BK162.out 0; have hfz13_1 := blk_frozen BK162.out 1; have hfz13_2 := blk_frozen BK162.out 2; have hcz14_0 : w11.cell? ⟨gb161, 0, none⟩ = some (.int .i64 0) := (blk_cell BK161.out 0).trans rfl; have hcz14_1 : w11.cell? ⟨gb161, 1, none⟩ = some (.int .i64 0) := (blk_cell BK161.out 1).trans rfl; have hcz14_2 : w11.cell? ⟨gb161, 2, none⟩ = some (.slice none 0 0) := (blk_cell BK161.out 2).trans rfl; have hfz14_0 := blk_frozen BK161.out 0; have hfz14_1 := blk_frozen BK161.out 1; have hfz14_2 := blk_frozen BK161.out 2))
  refine bodyPost_ret (results_cell_row rfl _ _ gb161 26 #[.int .i64 a0_0, .int .i64 a0_1, .slice Ao12 t163.length co12] (0, 0) _ rfl (by (with_reducible repeat (first | refine blk_drewN ?_ _ | refine blk_drew ?_ | refine blk_alloc ?_ _)); refine blk_put (cs := #[.int .i64 a0_0, .int .i64 a0_1, .slice none 0 0]) ?_ 2 _ rfl; (with_reducible repeat (first | refine blk_drewN ?_ _ | refine blk_drew ?_ | refine blk_alloc ?_ _)); refine blk_put (cs := #[.int .i64 a0_0, .int .i64 0, .slice none 0 0]) ?_ 1 _ rfl; (with_reducible repeat (first | refine blk_drewN ?_ _ | refine blk_drew ?_ | refine blk_alloc ?_ _)); refine blk_put (cs := #[.int .i64 0, .int .i64 0, .slice none 0 0]) ?_ 0 _ rfl; (with_reducible repeat (first | refine blk_drewN ?_ _ | refine blk_drew ?_ | refine blk_alloc ?_ _)); refine blk_far ?_ NB161_162.out _; (with_reducible repeat (first | refine blk_drewN ?_ _ | refine blk_drew ?_ | refine blk_alloc ?_ _)); exact BK161.out) Try.underlying26 rfl (by kernel_rfl)) rfl ?_
  exact ⟨_, by first | rfl | (simp [errW_none, errW_some] <;> rfl) | (simp [*, errW_none, errW_some] <;> rfl), by (with_reducible repeat (first | apply Kd.S_alloc | apply Kd.S_drewN | apply Kd.S_drew)); exact Kd.S_mono (Kd.S_far (p := ⟨gb161, 2, none⟩) (Kd.S_far (p := ⟨gb161, 1, none⟩) (Kd.S_far (p := ⟨gb161, 0, none⟩) (Kd.S_far (p := ⟨gb162, 2, none⟩) (Kd.S_types (Kd.S_types HO165.out BK162.out (by decide)) BK161.out (by decide)) (fun _ hk => hk.1.2) (.slice Ao12 t163.length co12)) (fun _ hk => hk.2) (.int .i64 a0_0)) (fun _ hk => hk.2) (.int .i64 a0_1)) (fun _ hk => hk.2) (.slice Ao12 t163.length co12)) (fun _ hk => trivial), by repeat (first | (with_reducible first | exact HB.out | apply below_alloc | apply pw_below_drewN | apply below_drew1 | refine below_set ?_ GE160.out | refine below_set ?_ GE161.out | refine below_set ?_ GE162.out) | exact HB.out)⟩

end Go.Proofs.Ytjpbemomocccaaa.P

namespace Go.Proofs.Ytjpbemomocccaaa.P
open Go.RowKit Go.Proofs.YtjpbemomocccaaaW.PrintWords Go.Proofs.YtjpbemomocccaaaW.PrintLast Go.Proofs.YtjpbemomocccaaaW.PrintMore
attribute [local go_sem] max2_int min2_int max_two min_two max_three min_three max_four min_four
set_option linter.unusedVariables false
set_option linter.unusedSimpArgs false

/-! ### slices_IndexFunc_int64_int64_110: function 110 (by hand) -/
/-- slices.IndexFunc over [][]int64: the place of the first element of which the closure says yes, or -1. -/
def idxR.l0 : Nat → (List Int → Option Bool) → List (List Int) → Int → Option Int
  | 0, _, _, _ => none
  | k + 1, p, xs, i => if i < (xs.length : Int) then (if 0 ≤ i then ((p (rd_L1 xs i)).bind fun t => if t = true then (some i) else (idxR.l0 k p xs (wrap64 (i + 1)))) else none) else some (-1)
set_option maxHeartbeats 8000000 in
set_option maxRecDepth 100000 in
theorem idxR.calls (k : Nat) (p : List Int → Option Bool) (g : Nat) (lb : Array Value) (eg : ∀ args w, (callFunc g args).run Try.prog w = .ok (.enter g args) w) (A0 : Option Addr) (c0 : Nat) (l0 : List (List Int)) (r : Int) (w : World)
    (hr0 : Kd.C (Kd.slice 2 (Kd.int .i64)) w A0 l0.length l0)
    (hp : ∀ (W : World) (x : List Int) (A : Option Addr) (c : Nat) (b : Bool), p x = some b → Below w.heap.size w W → Kd.C (Kd.int .i64) W A x.length x → x.length ≤ c → Calls Try.prog g (#[.slice A x.length c] ++ lb) W fun e w' => e = .returned (.bool b) ∧ Below w.heap.size w w')
    (h : idxR.l0 k p l0 0 = some r) :
    Calls Try.prog 110 #[.slice A0 l0.length c0, .func (.func g) #[] lb] w fun e w' => e = .returned (.int .i64 r) ∧ Below w.heap.size w w' := by
  have HR0 := Aside0.mk hr0
  clear hr0
  have HP := Aside0.mk hp
  clear hp
  have HB := Aside0.mk (Below.refl w.heap.size w)
  have H' := Aside0.mk h
  clear h
  go_enter Try.func110, Try.ntmps110
  go_wp2
  go_loopg [5, 8] k (fun kq _ v8 w' => ∃ (x8 : Int), v8 = .int .i64 x8 ∧ Aside0 (idxR.l0 kq p l0 x8 = some r) ∧ Aside0 (kq ≤ k) ∧ Aside0 (Below w.heap.size w w'))
  case atStart => exact ⟨0, rfl, H', ⟨Nat.le_refl _⟩, HB⟩
  case round =>
    clear H' HB
    obtain ⟨x8, rfl, HA, HK1, HB⟩ := hrel
    cases gk with
    | zero => exact absurd HA.out (by simp [idxR.l0])
    | succ k1 =>
      have H := HA.out
      clear HA
      simp only [idxR.l0] at H
      by_cases c6 : x8 < (l0.length : Int)
      · rw [if_pos c6] at H
        have c6b0 : decide (x8 < (l0.length : Int)) = true := decide_eq_true c6
        clear c6
        by_cases c7 : 0 ≤ x8
        · rw [if_pos c7] at H
          have c7b0 : decide (0 ≤ x8) = true := decide_eq_true c7
          clear c7
          replace H := Option.bind_eq_some_iff.mp H
          obtain ⟨t, At, H⟩ := H
          have A3 := Aside0.mk At
          clear At
          have p104 : 0 ≤ (x8 : Int) := of_decide_eq_true (by assumption)
          have q104 : x8 < (l0.length : Int) := of_decide_eq_true (by assumption)
          obtain ⟨ad104, Ae, ce, e104, hx104_0, hle, hre⟩ := at_L1 HR0.out x8 p104 q104
          cases e104
          have HE := Aside0.mk (Kd.C_below hre HB.out)
          have HL := Aside0.mk hle
          clear hre hle
          replace hx104_0 := (HB.out.cell (World.block_lt_of_cell? w _ hx104_0)).trans hx104_0
          replace p104 := eq_true p104
          replace q104 := eq_true q104
          cases t with
          | true =>
            rw [if_pos rfl] at H
            obtain rfl := Option.some.inj H
            go_wp2_with (go_at_fn g; refine (HP.out _ _ _ _ _ A3.out HB.out HE.out HL.out).mono ?_; rintro e w' ⟨rfl, hb'⟩)
            go_ret
            exact ⟨rfl, hb'⟩
          | false =>
            rw [if_neg (by decide)] at H
            have H' := Aside0.mk H
            clear H
            go_wp2_with (go_at_fn g; refine (HP.out _ _ _ _ _ A3.out HB.out HE.out HL.out).mono ?_; rintro e w' ⟨rfl, hb'⟩)
            go_roundg k1
            case measure => have := HK1.out; omega
            case rel => exact ⟨_, rfl, H', ⟨by have := HK1.out; omega⟩, ⟨hb'⟩⟩
        · rw [if_neg c7] at H
          exact absurd H (by simp)
      · rw [if_neg c6] at H
        have c6b0 : decide (x8 < (l0.length : Int)) = false := decide_eq_false c6
        clear c6
        obtain rfl := Option.some.inj H
        go_wp2
        go_ret
        exact ⟨rfl, HB.out⟩
theorem idxR.mono_l : ∀ k p xs i, LeO (idxR.l0 k p xs i) (idxR.l0 (k + 1) p xs i)
  | 0, _, _, _ => fun r h => by simp [idxR.l0] at h
  | k + 1, p, xs, i => by
    have ih := idxR.mono_l k
    unfold idxR.l0
    refine LeO.ite (LeO.ite (LeO.bind (LeO.refl _) (fun t => LeO.ite (LeO.refl _) (ih _ _ _))) (LeO.refl _)) (LeO.refl _)
theorem idxR.mono_p : ∀ k p p' xs i, (∀ x, LeO (p x) (p' x)) → LeO (idxR.l0 k p xs i) (idxR.l0 k p' xs i)
  | 0, _, _, _, _, _ => fun r h => by simp [idxR.l0] at h
  | k + 1, p, p', xs, i, hp => by
    have ih := idxR.mono_p k p p'
    unfold idxR.l0
    refine LeO.ite (LeO.ite (LeO.bind (hp _) (fun t => LeO.ite (LeO.refl _) (ih _ _ hp))) (LeO.refl _)) (LeO.refl _)

end Go.Proofs.Ytjpbemomocccaaa.P

namespace Go.Proofs.Ytjpbemomocccaaa.P
open Go.RowKit Go.Proofs.YtjpbemomocccaaaW.PrintWords Go.Proofs.YtjpbemomocccaaaW.PrintLast Go.Proofs.YtjpbemomocccaaaW.PrintMore
attribute [local go_sem] max2_int min2_int max_two min_two max_three min_three max_four min_four
set_option linter.unusedVariables false
set_option linter.unusedSimpArgs false

/-! ### slices_ContainsFunc_int64_int64_93: function 93 (by hand) -/
def hasR.f (k : Nat) (p : List Int → Option Bool) (xs : List (List Int)) : Option Bool := (idxR.l0 k p xs 0).bind fun i => some (decide (0 ≤ i))
set_option maxHeartbeats 8000000 in
set_option maxRecDepth 100000 in
theorem hasR.calls (k : Nat) (p : List Int → Option Bool) (g : Nat) (lb : Array Value) (eg : ∀ args w, (callFunc g args).run Try.prog w = .ok (.enter g args) w) (A0 : Option Addr) (c0 : Nat) (l0 : List (List Int)) (r : Bool) (w : World)
    (hr0 : Kd.C (Kd.slice 2 (Kd.int .i64)) w A0 l0.length l0)
    (hp : ∀ (W : World) (x : List Int) (A : Option Addr) (c : Nat) (b : Bool), p x = some b → Below w.heap.size w W → Kd.C (Kd.int .i64) W A x.length x → x.length ≤ c → Calls Try.prog g (#[.slice A x.length c] ++ lb) W fun e w' => e = .returned (.bool b) ∧ Below w.heap.size w w')
    (h : hasR.f k p l0 = some r) :
    Calls Try.prog 93 #[.slice A0 l0.length c0, .func (.func g) #[] lb] w fun e w' => e = .returned (.bool r) ∧ Below w.heap.size w w' := by
  have H := h
  unfold hasR.f at H
  replace H := Option.bind_eq_some_iff.mp H
  obtain ⟨i, Ai, H⟩ := H
  obtain rfl := Option.some.inj H
  have A3 := Aside0.mk Ai
  clear Ai h H
  have HP := Aside0.mk hp
  clear hp
  have HR0 := Aside0.mk hr0
  clear hr0
  go_enter Try.func93, Try.ntmps93
  go_wp2_with (first | ((with_reducible refine gate_callee (f := 110) rfl ?_); refine goesL_ (some 7) rfl rfl Try.func110 (by kernel_rfl) rfl #[.slice A0 l0.length c0, .func (.func g) #[] lb] rfl (by (try simp only [List.map_toArray, List.map_cons, List.map_nil]); first | done | rfl) ?_; (with_reducible refine (idxR.calls k p g lb eg _ _ l0 i _ ?side1 ?side2 A3.out).mono ?_); (case side1 => exact HR0.out); (case side2 => exact HP.out); rintro e w' ⟨rfl, hb⟩; refine ⟨_, rfl, ?_⟩))
  go_ret
  exact ⟨rfl, hb⟩
theorem hasR.mono : ∀ p xs k, LeO (hasR.f k p xs) (hasR.f (k + 1) p xs) := fun p xs k => by
  unfold hasR.f
  exact LeO.bind (idxR.mono_l _ _ _ _) (fun _ => LeO.refl _)

end Go.Proofs.Ytjpbemomocccaaa.P

namespace Go.Proofs.Ytjpbemomocccaaa.P
open Go.RowKit Go.Proofs.YtjpbemomocccaaaW.PrintWords Go.Proofs.YtjpbemomocccaaaW.PrintLast Go.Proofs.YtjpbemomocccaaaW.PrintMore
attribute [local go_sem] max2_int min2_int max_two min_two max_three min_three max_four min_four
set_option linter.unusedVariables false
set_option linter.unusedSimpArgs false

/-! ### impl_ValidMatrix: function 50 (by hand) -/
/-- The closure of ValidMatrix: is a row none of this matrix? -/
def ValidMatrix_p (k : Nat) (p cols : Int) (row : List Int) : Option Bool := if (row.length : Int) = cols then ((impl_areElements.f k p row).bind fun t => some (!t)) else some true
def impl_ValidMatrix.f (k : Nat) (a0_0 : Int) (a0_1 : Int) (l0_2 : List (List Int)) : Option Bool :=
  (impl_IsPrime.f k a0_0).bind fun t => if t = true then ((impl_within.f a0_1 0 12).bind fun u => if u = true then (if (l0_2.length : Int) ≤ 20 then ((hasR.f k (ValidMatrix_p k a0_0 a0_1) l0_2).bind fun v => some (!v)) else some false) else some false) else some false
theorem ValidMatrix_p.mono (p cols : Int) (row : List Int) (k : Nat) : LeO (ValidMatrix_p k p cols row) (ValidMatrix_p (k + 1) p cols row) := by
  unfold ValidMatrix_p
  exact LeO.ite (LeO.bind (impl_areElements.mono _ _ _) (fun _ => LeO.refl _)) (LeO.refl _)
theorem impl_ValidMatrix.mono : ∀ a0 a1 l2 k, LeO (impl_ValidMatrix.f k a0 a1 l2) (impl_ValidMatrix.f (k + 1) a0 a1 l2) := fun a0 a1 l2 k => by
  unfold impl_ValidMatrix.f
  refine LeO.bind (impl_IsPrime.mono _ _) (fun _ => LeO.ite (LeO.bind (LeO.refl _) (fun _ => LeO.ite (LeO.ite (LeO.bind ?_ (fun _ => LeO.refl _)) (LeO.refl _)) (LeO.refl _))) (LeO.refl _))
  refine (hasR.mono _ _ _).trans ?_
  unfold hasR.f
  exact LeO.bind (idxR.mono_p _ _ _ _ _ (fun x => ValidMatrix_p.mono _ _ x k)) (fun _ => LeO.refl _)
set_option maxHeartbeats 8000000 in
set_option maxRecDepth 100000 in
theorem ValidMatrix_p.calls (k : Nat) (p cols : Int) (x : List Int) (A : Option Addr) (c : Nat) (b : Bool) (B : Nat) (W : World) (h0 : W.cell? ⟨B, 0, none⟩ = some (.int .i64 p)) (h1 : W.cell? ⟨B, 1, none⟩ = some (.int .i64 cols)) (hr : Kd.C (Kd.int .i64) W A x.length x) (hc : x.length ≤ c) (h : ValidMatrix_p k p cols x = some b) :
    Calls Try.prog 94 #[.slice A x.length c, .pointer (some ⟨B, 0, none⟩)] W fun e w' => e = .returned (.bool b) ∧ Below W.heap.size W w' := by
  have HR := Aside0.mk hr
  have HC := Aside0.mk hc
  clear hr hc
  unfold ValidMatrix_p at h
  by_cases e : (x.length : Int) = cols
  · rw [if_pos e] at h
    replace h := Option.bind_eq_some_iff.mp h
    obtain ⟨t, At, H⟩ := h
    obtain rfl := Option.some.inj H
    have A3 := Aside0.mk At
    clear At H
    have eb0 : ((x.length : Int) == cols) = true := beq_iff_eq.mpr e
    have eb1 : ((x.length : Int) != cols) = false := bne_eq_false_iff_eq.mpr e
    clear e
    go_enter Try.func94, Try.ntmps94
    go_wp2_with (first | (go_at_call 95; (with_reducible refine (impl_areElements.calls k p A c x t _ ?side1 ?side2 A3.out).mono ?_); (case side1 => exact HR.out); (case side2 => exact HC.out); rintro e w' ⟨rfl, hb⟩))
    go_ret
    exact ⟨rfl, hb⟩
  · rw [if_neg e] at h
    obtain rfl := Option.some.inj h
    have eb0 : ((x.length : Int) == cols) = false := beq_eq_false_iff_ne.mpr e
    have eb1 : ((x.length : Int) != cols) = true := bne_iff_ne.mpr e
    clear e h
    go_enter Try.func94, Try.ntmps94
    go_wp2
    go_ret
    exact ⟨rfl, Below.refl _ _⟩
set_option maxHeartbeats 8000000 in
set_option maxRecDepth 100000 in
theorem impl_ValidMatrix.calls (k : Nat) (a0_0 : Int) (a0_1 : Int) (A0_2 : Option Addr) (c0_2 : Nat) (l0_2 : List (List Int)) (r : Bool) (w : World) (hr0_2 : Kd.C (Kd.slice 2 (Kd.int .i64)) w A0_2 l0_2.length l0_2) (hc0_2 : l0_2.length ≤ c0_2) (h : impl_ValidMatrix.f k a0_0 a0_1 l0_2 = some r) :
    Calls Try.prog 50 #[.agg #[.int .i64 a0_0, .int .i64 a0_1, .slice A0_2 l0_2.length c0_2]] w fun e w' => e = .returned (.bool r) ∧ Below w.heap.size w w' := by
  have hum := Try.underlying26
  have HR := Aside0.mk hr0_2
  clear hr0_2 hc0_2
  unfold impl_ValidMatrix.f at h
  replace h := Option.bind_eq_some_iff.mp h
  obtain ⟨t, At, H⟩ := h
  have A3 := Aside0.mk At
  clear At
  cases t with
  | false =>
    rw [if_neg (by decide)] at H
    obtain rfl := Option.some.inj H
    clear H
    go_enter Try.func50, Try.ntmps50
    go_wp2_with (first | (go_at_call 91; (with_reducible refine (impl_IsPrime.calls k a0_0 false _ A3.out).mono ?_); rintro e w' ⟨rfl, ⟨nd, rfl⟩⟩))
    go_ret
    exact ⟨rfl, by repeat (first | exact Below.refl _ _ | apply below_alloc | apply pw_below_drewN | apply below_drew1)⟩
  | true =>
    rw [if_pos rfl] at H
    replace H := Option.bind_eq_some_iff.mp H
    obtain ⟨u, Au, H⟩ := H
    have A4 := Aside0.mk Au
    clear Au
    cases u with
    | false =>
      rw [if_neg (by decide)] at H
      obtain rfl := Option.some.inj H
      clear H
      go_enter Try.func50, Try.ntmps50
      go_wp2_with (first | (go_at_call 91; (with_reducible refine (impl_IsPrime.calls k a0_0 true _ A3.out).mono ?_); rintro e w' ⟨rfl, ⟨nd, rfl⟩⟩) | (go_at_call 92; (with_reducible refine (impl_within.calls _ _ _ false _ A4.out).mono ?_); rintro e w' ⟨rfl, ⟨nd, rfl⟩⟩))
      go_ret
      exact ⟨rfl, by repeat (first | exact Below.refl _ _ | apply below_alloc | apply pw_below_drewN | apply below_drew1)⟩
    | true =>
      rw [if_pos rfl] at H
      by_cases hl : (l0_2.length : Int) ≤ 20
      · rw [if_pos hl] at H
        have hlb0 : decide ((l0_2.length : Int) ≤ 20) = true := decide_eq_true hl
        have hlb1 : decide (l0_2.length ≤ 20) = true := decide_eq_true (by omega)
        clear hl
        replace H := Option.bind_eq_some_iff.mp H
        obtain ⟨v, Av, H⟩ := H
        obtain rfl := Option.some.inj H
        have A5 := Aside0.mk Av
        clear Av H
        have eg : ∀ (args : Array Value) (w : World), (callFunc 94 args).run Try.prog w = .ok (.enter 94 args) w := enters_of Try.func94 (by kernel_rfl) rfl
        go_enter Try.func50, Try.ntmps50
        go_wp2_with (first | (go_at_call 91; (with_reducible refine (impl_IsPrime.calls k a0_0 true _ A3.out).mono ?_); rintro e w' ⟨rfl, ⟨nd, rfl⟩⟩) | (go_at_call 92; (with_reducible refine (impl_within.calls _ _ _ true _ A4.out).mono ?_); rintro e w' ⟨rfl, ⟨nd2, rfl⟩⟩) | (go_at_call 93; (with_reducible refine (hasR.calls k (ValidMatrix_p k a0_0 a0_1) 94 #[.pointer (some ⟨w.heap.size, 0, none⟩)] eg _ _ l0_2 v _ ?side1 ?side2 A5.out).mono ?_); (case side1 => repeat (first | exact HR.out | (with_reducible refine Kd.C_alloc ?_ _) | (with_reducible refine Kd.C_drewN ?_ _) | (with_reducible refine Kd.C_drew ?_))); (case side2 => exact fun W x A c b hx hb hr hc => ((ValidMatrix_p.calls k a0_0 a0_1 x A c b w.heap.size W ((hb.cell (p := ⟨w.heap.size, 0, none⟩) (by simp)).trans ((blk_cell (cs := #[.int .i64 a0_0, .int .i64 a0_1, .slice A0_2 l0_2.length c0_2]) (t := 26) (by (with_reducible repeat (first | refine blk_drewN ?_ _ | refine blk_drew ?_)); exact blk_new w _) 0).trans rfl)) ((hb.cell (p := ⟨w.heap.size, 1, none⟩) (by simp)).trans ((blk_cell (cs := #[.int .i64 a0_0, .int .i64 a0_1, .slice A0_2 l0_2.length c0_2]) (t := 26) (by (with_reducible repeat (first | refine blk_drewN ?_ _ | refine blk_drew ?_)); exact blk_new w _) 1).trans rfl)) hr hc hx).mono (fun e w' ⟨he, hd⟩ => ⟨he, below_step hb hd⟩))); rintro e w' ⟨rfl, hb⟩))
        go_ret
        exact ⟨rfl, below_step (by repeat (first | exact Below.refl _ _ | apply below_alloc | apply pw_below_drewN | apply below_drew1)) hb⟩
      · rw [if_neg hl] at H
        have hlb0 : decide ((l0_2.length : Int) ≤ 20) = false := decide_eq_false hl
        have hlb1 : decide (l0_2.length ≤ 20) = false := decide_eq_false (by omega)
        clear hl
        obtain rfl := Option.some.inj H
        clear H
        go_enter Try.func50, Try.ntmps50
        go_wp2_with (first | (go_at_call 91; (with_reducible refine (impl_IsPrime.calls k a0_0 true _ A3.out).mono ?_); rintro e w' ⟨rfl, ⟨nd, rfl⟩⟩) | (go_at_call 92; (with_reducible refine (impl_within.calls _ _ _ true _ A4.out).mono ?_); rintro e w' ⟨rfl, ⟨nd2, rfl⟩⟩))
        go_ret
        exact ⟨rfl, by repeat (first | exact Below.refl _ _ | apply below_alloc | apply pw_below_drewN | apply below_drew1)⟩

end Go.Proofs.Ytjpbemomocccaaa.P

namespace Go.Proofs.Ytjpbemomocccaaa.P
open Go.RowKit Go.Proofs.YtjpbemomocccaaaW.PrintWords Go.Proofs.YtjpbemomocccaaaW.PrintLast Go.Proofs.YtjpbemomocccaaaW.PrintMore
attribute [local go_sem] max2_int min2_int max_two min_two max_three min_three max_four min_four
set_option linter.unusedVariables false
set_option linter.unusedSimpArgs false

/-! ### slices_Clone_int64_int64: function 64 (by hand) -/
theorem nil_of_C {α : Type} {d : Kd α} {w : World} {l : List α} (h : Kd.C d w none l.length l) : l = [] := by
  cases l with
  | nil => rfl
  | cons a l =>
    obtain ⟨ad, he, _⟩ := h.2.2 (by simp)
    cases he
/-- slices.Clone of a list. -/
def slices_Clone_int64_int64.f (l0 : List Int) : Option (List Int) := if l0.length < 17592186044416 then some l0 else none
set_option maxHeartbeats 8000000 in
set_option maxRecDepth 100000 in
theorem slices_Clone_int64_int64.calls (A0 : Option Addr) (c0 : Nat) (l0 : List Int) (r : List Int) (w : World) (hr0 : Kd.C (Kd.int .i64) w A0 l0.length l0) (hc0 : l0.length ≤ c0) (h : slices_Clone_int64_int64.f l0 = some r) :
    Calls Try.prog 64 #[.slice A0 l0.length c0] w fun e w' => ∃ v0_ : Value, e = .returned v0_ ∧ Kd.R (Kd.int .i64) 2 w' w.heap.size (fun _ => True) v0_ r ∧ Below w.heap.size w w' := by
  have hus := Try.underlying35
  have hu2 := Try.underlying2
  have HR0 := Aside0.mk hr0
  have HC0 := Aside0.mk hc0
  have HB := Aside0.mk (Below.refl w.heap.size w)
  unfold slices_Clone_int64_int64.f at h
  by_cases c4 : l0.length < 17592186044416
  · rw [if_pos c4] at h
    obtain rfl := Option.some.inj h
    have LM := Aside0.mk c4
    clear c4 h hr0 hc0
    obtain ⟨y3, hy3⟩ : ∃ y_ : List Int, y_ = ([] : List Int) := ⟨_, rfl⟩
    have Ny3 := Aside0.mk hy3
    clear hy3
    have hq : ∀ (a : Option Addr) (n c : Nat) (w : World), (binOp .eql 35 (.slice a n c) (.slice none 0 0)).run Try.prog w = .ok (.bool a.isNone) w := fun a n c w => Go.Lib.run_eql_slice_nil w _ _ a n c 0 0 hus
    cases A0 with
    | none =>
      have hn : l0 = [] := nil_of_C HR0.out
      subst hn
      go_enter Try.func64, Try.ntmps64
      go_wp2
      go_ret
      exact ⟨_, rfl, Kd.R_nil _ _ _ _ _, HB.out⟩
    | some a =>
      go_enter Try.func64, Try.ntmps64
      go_wp2_with (first | ((with_reducible refine gate_dst (N := 5) rfl ?_); refine Kd.R_lit (Kd.int .i64) _ 2 ?hg (N := 5) ?hd (xs := ([] : List Int)) (inner := []) (ok := fun _ => True) (okp := fun _ => True) ?hr ?hp (fun _ hk => hk) trivial (Below.refl _ _) (Nat.le_refl _) (by simp) ?_; (case hd => rfl); (case hg => rfl); (case hr => first | (go_simp; done) | (go_simp; rfl)); (case hp => exact (Reps.none _ _)); intro v4 w5 ho6 hb hg_ hnew_; clear hg_ hnew_; (first | rw [← Ny3.out] at ho6 | (simp only [Int.reduceToNat] at ho6; rw [← Ny3.out] at ho6)); have n0_ := Aside0.mk (Kd.R_lower ho6 (below_size (by repeat (first | (with_reducible first | exact HB.out | apply below_alloc | apply pw_below_drewN | apply below_drew1) | exact HB.out)))); have n2_ := Aside0.mk (below_step (by repeat (first | (with_reducible first | exact HB.out | apply below_alloc | apply pw_below_drewN | apply below_drew1) | exact HB.out)) hb); clear HB; have HO3 := n0_; have HB := n2_; clear n0_ n2_; clear hb ho6) | ((with_reducible refine gate_builtin (b := .append) (xs := #[.tmp 5, .tmp 6]) rfl ?_); at_builtin; refine Kd.R_append_rows (Kd.int .i64) (w0 := w) w.heap.size rfl (.tmp 5) (.tmp 6) 35 2 (.int .i64 0) 8 rfl Try.underlying35 info2 rfl (by decide) (by omega) v4 y3 l0 _ _ _ (fun _ => True) (fun _ => False) rfl rfl ?aO ?aR (fun _ _ h => h) (fun _ h => h.elim) ?aF ?aB ?aS ?aL ?_; (case aR => repeat (first | exact (Kd.C_below HR0.out HB.out) | (with_reducible refine Kd.C_alloc ?_ _) | (with_reducible refine Kd.C_drewN ?_ _) | (with_reducible refine Kd.C_drew ?_))); (case aB => exact (by repeat (first | (with_reducible first | exact HB.out | apply below_alloc | apply pw_below_drewN | apply below_drew1) | exact HB.out))); (case aF => exact (fun _ _ => trivial)); (case aO => exact (by (with_reducible repeat (first | apply Kd.R_alloc | apply Kd.R_drewN | apply Kd.R_drew)); exact HO3.out)); (case aS => exact (below_size (by repeat (first | (with_reducible first | exact HB.out | apply below_alloc | apply pw_below_drewN | apply below_drew1) | exact HB.out)))); (case aL => have := LM.out; have := Ny3.out; subst this; simp; omega); intro v7 w7 ho hb hg hat; rw [Ny3.out, List.nil_append] at ho; have n1_ := Aside0.mk hb; have n2_ := Aside0.mk ho; clear HB HO3; have HB := n1_; have HO7 := n2_; clear n1_ n2_; clear ho hb hg hat))
      go_ret
      exact ⟨_, rfl, by (with_reducible repeat (first | apply Kd.R_alloc | apply Kd.R_drewN | apply Kd.R_drew)); exact HO7.out, by repeat (first | (with_reducible first | exact HB.out | apply below_alloc | apply pw_below_drewN | apply below_drew1) | exact HB.out)⟩
  · rw [if_neg c4] at h
    exact absurd h (by simp)

end Go.Proofs.Ytjpbemomocccaaa.P

namespace Go.Proofs.Ytjpbemomocccaaa.P
open Go.RowKit Go.Proofs.YtjpbemomocccaaaW.PrintWords Go.Proofs.YtjpbemomocccaaaW.PrintLast Go.Proofs.YtjpbemomocccaaaW.PrintMore
attribute [local go_sem] max2_int min2_int max_two min_two max_three min_three max_four min_four
set_option linter.unusedVariables false
set_option linter.unusedSimpArgs false

/-! ### impl_copyRows: function 68 -/
def impl_copyRows.l0 : Nat → List (List Int) → List (List Int) → Int → Int → Option ((List (List Int)))
  | 0, _, _, _, _ => none
  | k + 1, x3, x7, x8, x9 => if x9 < x8 then (if 0 ≤ x9 then (if x9 < (x7.length : Int) then ((slices_Clone_int64_int64.f (rd_L1 x7 x9)).bind fun t171 => (if x3.length < 5864062014805 then (impl_copyRows.l0 k (x3 ++ [t171]) x7 x8 (wrap64 (x9 + 1))) else (none))) else (none)) else (none)) else (some x3)
def impl_copyRows.f (k : Nat) (l0 : List (List Int)) : Option ((List (List Int))) := impl_copyRows.l0 k (([] : List (List Int))) l0 (l0.length : Int) 0
theorem impl_copyRows.mono_l : ∀ k, (∀ y0 y1 y2 y3, LeO (impl_copyRows.l0 k y0 y1 y2 y3) (impl_copyRows.l0 (k + 1) y0 y1 y2 y3))
  | 0 => fun _ _ _ _ r h => by simp [impl_copyRows.l0] at h
  | k + 1 => by
    have ih0 := impl_copyRows.mono_l k
    · intro y0 y1 y2 y3
      unfold impl_copyRows.l0
      repeat' first
      | (with_reducible exact ih0 _ _ _ _)
      | (with_reducible exact LeO.refl _)
      | (with_reducible exact LeO.none _)
      | (with_reducible refine LeO.ite ?_ ?_)
      | (with_reducible refine LeO.bind ?_ (fun _ => ?_))
      | exact ih0 _ _ _ _
      | exact LeO.none _
      | refine LeO.ite ?_ ?_
      | refine LeO.bind ?_ (fun _ => ?_)
theorem impl_copyRows.mono : ∀ a0 k, LeO (impl_copyRows.f k a0) (impl_copyRows.f (k + 1) a0) := by
  intro a0 k
  have ih0 := impl_copyRows.mono_l k
  unfold impl_copyRows.f
  repeat' first
      | (with_reducible exact ih0 _ _ _ _)
      | (with_reducible exact LeO.refl _)
      | (with_reducible exact LeO.none _)
      | (with_reducible refine LeO.ite ?_ ?_)
      | (with_reducible refine LeO.bind ?_ (fun _ => ?_))
      | exact ih0 _ _ _ _
      | exact LeO.none _
      | refine LeO.ite ?_ ?_
      | refine LeO.bind ?_ (fun _ => ?_)
set_option maxHeartbeats 8000000 in
set_option maxRecDepth 100000 in
theorem impl_copyRows.calls (k : Nat) (A0 : Option Addr) (c0 : Nat) (l0 : List (List Int)) (r : List (List Int)) (w : World) (hr0 : Kd.C (Kd.slice 2 (Kd.int .i64)) w A0 l0.length l0) (hc0 : l0.length ≤ c0) (h : impl_copyRows.f k l0 = some r) :
    Calls Try.prog 68 #[.slice A0 l0.length c0] w fun e w' => ∃ v0_ : Value, e = .returned (v0_) ∧ Kd.S (Kd.slice 2 (Kd.int .i64)) 35 w' w.heap.size (fun _ => True) v0_ r ∧ Below w.heap.size w w' := by
  have HR0 := Aside0.mk hr0
  have HC0 := Aside0.mk hc0
  clear hr0 hc0
  have HB := Aside0.mk (Below.refl w.heap.size w)
  have H : (impl_copyRows.l0 k (([] : List (List Int))) l0 (l0.length : Int) 0) = some r := h
  clear h
  obtain ⟨y167, hy167⟩ : ∃ y_ : List (List Int), y_ = (([] : List (List Int))) := ⟨_, rfl⟩
  replace H : (impl_copyRows.l0 k y167 l0 (l0.length : Int) 0) = some r := by first | (rw [hy167]; with_reducible exact H) | (have H2_ := (Option.bind_some _ _).symm.trans H; rw [hy167]; with_reducible exact H2_) | (have H2_ := (Option.bind_some _ _).symm.trans H; with_reducible exact H2_) | with_reducible exact H | (rw [hy167]; exact H) | exact H
  have Ny167 := Aside0.mk hy167
  clear hy167
  have H' := Aside0.mk H
  clear H
  go_enter Try.func68, Try.ntmps68
  go_wp2_with (first | ((with_reducible refine gate_dst (N := 6) rfl ?_); refine Kd.S_lit (Kd.slice 2 (Kd.int .i64)) _ 35 ?hg (N := 6) ?hd (xs := ([] : List (List Int))) (inner := []) (ok := fun _ => True) (okp := fun _ => True) ?hr ?hp (fun _ hk => hk) trivial (Below.refl _ _) (Nat.le_refl _) (by simp) ?_; (case hd => rfl); (case hg => rfl); (case hr => first | (go_simp; done) | (go_simp; rfl)); (case hp => exact (Reps.none _ _)); intro v168 w2 ho3 hb hg_ hnew_; clear hg_ hnew_; (first | rw [← Ny167.out] at ho3 | (simp only [Int.reduceToNat] at ho3; rw [← Ny167.out] at ho3)); have n0_ := Aside0.mk (Kd.S_lower ho3 (below_size (by repeat (first | (with_reducible first | exact HB.out | apply below_alloc | apply pw_below_drewN | apply below_drew1) | exact HB.out)))); have n1_ := Aside0.mk (below_step (by repeat (first | (with_reducible first | exact HB.out | apply below_alloc | apply pw_below_drewN | apply below_drew1) | exact HB.out)) hb); clear HB; have HO169 := n0_; have HB := n1_; clear n0_ n1_; clear hb ho3))
  go_loopg [3, 9] k (fun kq v3 v9 w' => ∃ (x3_1 : List (List Int)) (x9_1 : Int), v9 = .int .i64 x9_1 ∧ Aside0 (impl_copyRows.l0 kq x3_1 l0 (l0.length : Int) x9_1 = some r) ∧ Aside0 (kq ≤ k) ∧ Aside0 (Kd.S (Kd.slice 2 (Kd.int .i64)) 35 w' w.heap.size (fun _ => True) v3 x3_1) ∧ Aside0 (Below w.heap.size w w'))
  case atStart => exact ⟨(y167), (0), (by first | rfl | (simp; done) | (simp [*]; done)), H', ⟨Nat.le_refl _⟩, ⟨by (with_reducible repeat (first | apply Kd.S_alloc | apply Kd.S_drewN | apply Kd.S_drew)); exact HO169.out⟩, ⟨by repeat (first | (with_reducible first | exact HB.out | apply below_alloc | apply pw_below_drewN | apply below_drew1) | exact HB.out)⟩⟩
  case round =>
    clear H'
    try clear p2
    obtain ⟨x3_1, x9_1, rfl, HA, HK1, HO_3, HB⟩ := hrel
    cases gk with
    | zero => exact absurd HA.out (by simp [impl_copyRows.l0])
    | succ k1 =>
      have H := HA.out
      clear HA
      simp only [impl_copyRows.l0] at H
      by_cases c4 : x9_1 < (l0.length : Int)
      · rw [if_pos c4] at H
        have c4b0 : decide (x9_1 < (l0.length : Int)) = true := decide_eq_true c4
        clear c4
        by_cases c5 : 0 ≤ x9_1
        · rw [if_pos c5] at H
          have c5b0 : decide (0 ≤ x9_1) = true := decide_eq_true c5
          clear c5
          by_cases c6 : x9_1 < (l0.length : Int)
          · rw [if_pos c6] at H
            have c6b0 : decide (x9_1 < (l0.length : Int)) = true := decide_eq_true c6
            clear c6
            replace H := Option.bind_eq_some_iff.mp H
            obtain ⟨t171, A70, H⟩ := H
            replace H : (if x3_1.length < 5864062014805 then (impl_copyRows.l0 k1 (x3_1 ++ [t171]) l0 (l0.length : Int) (wrap64 (x9_1 + 1))) else (none)) = some r := H
            have A7 := Aside0.mk A70
            clear A70
            by_cases c8 : x3_1.length < 5864062014805
            · rw [if_pos c8] at H
              have LMc8 := Aside0.mk c8
              clear c8
              obtain ⟨y174, hy174⟩ : ∃ y_ : List (List Int), y_ = (x3_1 ++ [t171]) := ⟨_, rfl⟩
              replace H : (impl_copyRows.l0 k1 y174 l0 (l0.length : Int) (wrap64 (x9_1 + 1))) = some r := by first | (rw [hy174]; with_reducible exact H) | (have H2_ := (Option.bind_some _ _).symm.trans H; rw [hy174]; with_reducible exact H2_) | (have H2_ := (Option.bind_some _ _).symm.trans H; with_reducible exact H2_) | with_reducible exact H | (rw [hy174]; exact H) | exact H
              have Ny174 := Aside0.mk hy174
              clear hy174
              have H' := Aside0.mk H
              clear H
              have p170 : 0 ≤ (x9_1 : Int) := of_decide_eq_true (by first | (with_reducible assumption) | assumption)
              have q170 : x9_1 < (l0.length : Int) := of_decide_eq_true (by first | (with_reducible assumption) | assumption)
              obtain ⟨ad170, A170_0, c170_0, e170, hx170_0, hl170_0, hi170_0⟩ := at_L1 HR0.out x9_1 p170 q170
              cases e170
              replace hx170_0 := (HB.out.cell (World.block_lt_of_cell? w _ hx170_0)).trans hx170_0
              have HR170_0 := Aside0.mk hi170_0
              have HC170_0 := Aside0.mk hl170_0
              clear hi170_0 hl170_0
              replace p170 := eq_true p170
              replace q170 := eq_true q170
              go_wp2_with (first | ((with_reducible refine gate_callee (f := 64) rfl ?_); refine goesL_ (some 15) rfl rfl Try.func64 (by kernel_rfl) rfl #[.slice A170_0 (rd_L1 l0 x9_1).length c170_0] rfl (by (try simp only [List.map_toArray, List.map_cons, List.map_nil]); first | done | rfl | (simp only [List.length_drop, List.length_take]; rfl)) ?_; (with_reducible refine (slices_Clone_int64_int64.calls _ _ (rd_L1 l0 x9_1) t171 _ ?side1 ?side2 A7.out).mono ?_); (case side1 => repeat (first | exact (Kd.C_below HR170_0.out HB.out) | (with_reducible refine Kd.C_alloc ?_ _) | (with_reducible refine Kd.C_drewN ?_ _) | (with_reducible refine Kd.C_drew ?_))); (case side2 => exact HC170_0.out); rintro e w9 ⟨v172, rfl, ho0, hb⟩; refine ⟨_, rfl, ?_⟩; have n0_ := Aside0.mk (Kd.S_elder' (by (with_reducible repeat (first | apply Kd.S_alloc | apply Kd.S_drewN | apply Kd.S_drew)); exact HO_3.out) (Kd.R_base ho0) hb); have n1_ := Aside0.mk (Kd.R_lower ho0 (below_size (by repeat (first | (with_reducible first | exact HB.out | apply below_alloc | apply pw_below_drewN | apply below_drew1) | exact HB.out)))); have n2_ := Aside0.mk (below_step (by repeat (first | (with_reducible first | exact HB.out | apply below_alloc | apply pw_below_drewN | apply below_drew1) | exact HB.out)) hb); clear HO_3; clear HB; have HO_3 := n0_; have HO173 := n1_; have HB := n2_; clear n0_ n1_ n2_; (try clear hb); (try clear hb2); (try clear hk); (try clear hi); (try clear ho0); obtain ⟨Ao11, co11, eo11⟩ := Kd.R_slice HO173.out; subst eo11) | ((with_reducible refine gate_builtin (b := .append) (xs := #[.tmp 13, .tmp 16]) rfl ?_); at_builtin; refine Kd.S_append (Kd.slice 2 (Kd.int .i64)) (w0 := w) w.heap.size rfl (.tmp 13) (.tmp 16) 22 35 (.slice none 0 0) 24 rfl Try.underlying22 info35 rfl (by decide) (by omega) u3 x3_1 t171 [.slice Ao11 t171.length co11] (fun _ => True) (fun k_ => some k_ = (.slice Ao11 t171.length co11 : Value).ownBlock) rfl rfl ?aP (fun k_ hk_ => ((Kd.R_mono (ok' := fun k_ => ((fun _ => True)) k_ ∧ some k_ ≠ (u3 : Value).ownBlock) (Kd.R_apart' (HO173.out) (Kd.S_typed HO_3.out) (by decide)) (fun k_ hk => ⟨trivial, hk.2⟩))).1 k_ hk_.symm) ?aF ?aO ?aB ?aS ?aL ?_; (case aP => exact Kd.M_row (Kd.R_mono (Kd.R_tight rfl (Kd.R_mono (ok' := fun k_ => ((fun _ => True)) k_ ∧ some k_ ≠ (u3 : Value).ownBlock) (Kd.R_apart' (HO173.out) (Kd.S_typed HO_3.out) (by decide)) (fun k_ hk => ⟨trivial, hk.2⟩))) (fun _ h_ => h_))); (case aB => exact (by repeat (first | (with_reducible first | exact HB.out | apply below_alloc | apply pw_below_drewN | apply below_drew1) | exact HB.out))); (case aF => exact (fun _ _ => trivial)); (case aO => exact (by (with_reducible repeat (first | apply Kd.S_alloc | apply Kd.S_drewN | apply Kd.S_drew)); exact Kd.S_mono HO_3.out (fun k_ hk => ⟨trivial, fun e_ => hk.2 e_⟩))); (case aS => exact (below_size (by repeat (first | (with_reducible first | exact HB.out | apply below_alloc | apply pw_below_drewN | apply below_drew1) | exact HB.out)))); (case aL => have := LMc8.out; omega); intro v175 w10 ho hb hg hat; rw [← Ny174.out] at ho; have n0_ := Aside0.mk (hb); have n1_ := Aside0.mk (ho); clear HB; clear HO_3; clear HO173; have HB := n0_; have HO176 := n1_; clear n0_ n1_; clear ho hb hg hat))
              go_roundg k1
              case measure => have := HK1.out; omega
              case rel => exact ⟨(y174), (wrap64 (x9_1 + 1)), (by first | rfl | (simp; done) | (simp [*]; done)), H', ⟨by have := HK1.out; omega⟩, ⟨by (with_reducible repeat (first | apply Kd.S_alloc | apply Kd.S_drewN | apply Kd.S_drew)); exact HO176.out⟩, ⟨by repeat (first | (with_reducible first | exact HB.out | apply below_alloc | apply pw_below_drewN | apply below_drew1) | exact HB.out)⟩⟩
            · rw [if_neg c8] at H
              exact absurd H (by simp)
          · rw [if_neg c6] at H
            exact absurd H (by simp)
        · rw [if_neg c5] at H
          exact absurd H (by simp)
      · rw [if_neg c4] at H
        have c4b0 : decide (x9_1 < (l0.length : Int)) = false := decide_eq_false c4
        clear c4
        obtain rfl := Option.some.inj H
        go_wp2
        go_ret
        exact ⟨_, by first | rfl | (simp [errW_none, errW_some] <;> rfl) | (simp [*, errW_none, errW_some] <;> rfl), by (with_reducible repeat (first | apply Kd.S_alloc | apply Kd.S_drewN | apply Kd.S_drew)); exact HO_3.out, by repeat (first | (with_reducible first | exact HB.out | apply below_alloc | apply pw_below_drewN | apply below_drew1) | exact HB.out)⟩

end Go.Proofs.Ytjpbemomocccaaa.P

namespace Go.Proofs.Ytjpbemomocccaaa.P
open Go.RowKit Go.Proofs.YtjpbemomocccaaaW.PrintWords Go.Proofs.YtjpbemomocccaaaW.PrintLast Go.Proofs.YtjpbemomocccaaaW.PrintMore
attribute [local go_sem] max2_int min2_int max_two min_two max_three min_three max_four min_four
set_option linter.unusedVariables false
set_option linter.unusedSimpArgs false

/-! ### impl_scaled: function 69 -/
def impl_scaled.l0 : Nat → Int → List Int → Int → Int → Int → Option (List Int)
  | 0, _, _, _, _, _ => none
  | k + 1, x0, x1, x2, x8, x9 => if x9 < x8 then (if 0 ≤ x9 then (if x9 < (x1.length : Int) then (if x0 = 0 then (none) else (impl_scaled.l0 k x0 (x1.set (x9 : Int).toNat (Int.tmod (wrap64 ((rd x1 x9) * x2)) x0)) x2 x8 (wrap64 (x9 + 1)))) else (none)) else (none)) else (some x1)
def impl_scaled.f (k : Nat) (a0 : Int) (l1 : List Int) (a2 : Int) : Option (List Int) := impl_scaled.l0 k a0 l1 a2 (l1.length : Int) 0
theorem impl_scaled.mono_l : ∀ k, (∀ y0 y1 y2 y3 y4, LeO (impl_scaled.l0 k y0 y1 y2 y3 y4) (impl_scaled.l0 (k + 1) y0 y1 y2 y3 y4))
  | 0 => fun _ _ _ _ _ r h => by simp [impl_scaled.l0] at h
  | k + 1 => by
    have ih0 := impl_scaled.mono_l k
    · intro y0 y1 y2 y3 y4
      unfold impl_scaled.l0
      repeat' first
      | (with_reducible exact ih0 _ _ _ _ _)
      | (with_reducible exact LeO.refl _)
      | (with_reducible exact LeO.none _)
      | (with_reducible refine LeO.ite ?_ ?_)
      | (with_reducible refine LeO.bind ?_ (fun _ => ?_))
      | exact ih0 _ _ _ _ _
      | exact LeO.none _
      | refine LeO.ite ?_ ?_
      | refine LeO.bind ?_ (fun _ => ?_)
theorem impl_scaled.mono : ∀ a0 a1 a2 k, LeO (impl_scaled.f k a0 a1 a2) (impl_scaled.f (k + 1) a0 a1 a2) := by
  intro a0 a1 a2 k
  have ih0 := impl_scaled.mono_l k
  unfold impl_scaled.f
  repeat' first
      | (with_reducible exact ih0 _ _ _ _ _)
      | (with_reducible exact LeO.refl _)
      | (with_reducible exact LeO.none _)
      | (with_reducible refine LeO.ite ?_ ?_)
      | (with_reducible refine LeO.bind ?_ (fun _ => ?_))
      | exact ih0 _ _ _ _ _
      | exact LeO.none _
      | refine LeO.ite ?_ ?_
      | refine LeO.bind ?_ (fun _ => ?_)
set_option maxHeartbeats 8000000 in
set_option maxRecDepth 100000 in
theorem impl_scaled.calls (k : Nat) (a0 : Int) (P1_ : Nat → Prop) (u9000_ : Value) (l1 : List Int) (a2 : Int) (r : List Int) (w0 w : World) (hB : Below w0.heap.size w0 w) (ho1 : Kd.R (Kd.int .i64) 2 w w0.heap.size P1_ u9000_ l1) (h : impl_scaled.f k a0 l1 a2 = some r) :
    Calls Try.prog 69 #[.int .i64 a0, u9000_, .int .i64 a2] w fun e w' => e = .returned (.tuple #[]) ∧ Kd.R (Kd.int .i64) 2 w' w0.heap.size (fun k_ => (P1_ k_ ∨ w.heap.size ≤ k_)) u9000_ r ∧ Below w0.heap.size w0 w' ∧ Kept w w' (fun k_ => P1_ k_) := by
  have HO1 := Aside0.mk (show Kd.R (Kd.int .i64) 2 w w0.heap.size (fun k_ => (P1_ k_ ∨ w.heap.size ≤ k_)) u9000_ l1 from Kd.R_mono ho1 (fun k_ hk => (.inl hk)))
  have HK := Aside0.mk (Kept.refl w (fun k_ => P1_ k_))
  have HW0 := Aside0.mk hB.size
  have HB := Aside0.mk hB
  clear hB
  have H : (impl_scaled.l0 k a0 l1 a2 (l1.length : Int) 0) = some r := h
  clear h
  have H' := Aside0.mk H
  clear H
  obtain ⟨Ao4, co4, eo4⟩ := Kd.R_slice HO1.out
  subst eo4
  go_enter Try.func69, Try.ntmps69
  go_wp2
  go_loopg [9] k (fun kq v9 w' => ∃ (x1_1 : List Int) (x9_1 : Int), v9 = .int .i64 x9_1 ∧ Aside0 (impl_scaled.l0 kq a0 x1_1 a2 (l1.length : Int) x9_1 = some r) ∧ Aside0 (kq ≤ k) ∧ Aside0 (Kd.R (Kd.int .i64) 2 w' w0.heap.size (fun k_ => (P1_ k_ ∨ w.heap.size ≤ k_)) (.slice Ao4 l1.length co4) x1_1) ∧ Aside0 (Kept w w' (fun k_ => P1_ k_)) ∧ Aside0 (Below w0.heap.size w0 w'))
  case atStart => exact ⟨(l1), (0), (by first | rfl | (simp; done) | (simp [*]; done)), H', ⟨Nat.le_refl _⟩, ⟨by (with_reducible repeat (first | apply Kd.R_alloc | apply Kd.R_drewN | apply Kd.R_drew)); exact HO1.out⟩, ⟨by repeat (first | (with_reducible first | exact HK.out | apply Kept.alloc | apply Kept.drewN | apply Kept.drew) | exact HK.out)⟩, ⟨by repeat (first | (with_reducible first | exact HB.out | apply below_alloc | apply pw_below_drewN | apply below_drew1) | exact HB.out)⟩⟩
  case round =>
    clear H'
    try clear p2
    obtain ⟨x1_1, x9_1, rfl, HA, HK1, HO_1, HK, HB⟩ := hrel
    have hl1_1 := (Kd.R_reads' HO_1.out).1
    rw [hl1_1] at HO_1
    (try simp only [hl1_1])
    cases gk with
    | zero => exact absurd HA.out (by simp [impl_scaled.l0])
    | succ k1 =>
      have H := HA.out
      clear HA
      simp only [impl_scaled.l0] at H
      by_cases c5 : x9_1 < (l1.length : Int)
      · rw [if_pos c5] at H
        have c5b0 : decide (x9_1 < (l1.length : Int)) = true := decide_eq_true c5
        clear c5
        by_cases c6 : 0 ≤ x9_1
        · rw [if_pos c6] at H
          have c6b0 : decide (0 ≤ x9_1) = true := decide_eq_true c6
          clear c6
          by_cases c7 : x9_1 < (x1_1.length : Int)
          · rw [if_pos c7] at H
            have c7b0 : decide (x9_1 < (x1_1.length : Int)) = true := decide_eq_true c7
            clear c7
            by_cases c8 : a0 = 0
            · rw [if_pos c8] at H
              exact absurd H (by simp)
            · rw [if_neg c8] at H
              have c8b0 : (a0 == 0) = false := beq_eq_false_iff_ne.mpr c8
              have c8b1 : (a0 != 0) = true := bne_iff_ne.mpr c8
              obtain ⟨y178, hy178⟩ : ∃ y_ : List Int, y_ = (x1_1.set (x9_1 : Int).toNat (Int.tmod (wrap64 ((rd x1_1 x9_1) * a2)) a0)) := ⟨_, rfl⟩
              replace H : (impl_scaled.l0 k1 a0 y178 a2 (l1.length : Int) (wrap64 (x9_1 + 1))) = some r := by first | (rw [hy178]; with_reducible exact H) | (have H2_ := (Option.bind_some _ _).symm.trans H; rw [hy178]; with_reducible exact H2_) | (have H2_ := (Option.bind_some _ _).symm.trans H; with_reducible exact H2_) | with_reducible exact H | (rw [hy178]; exact H) | exact H
              have Ny178 := Aside0.mk hy178
              clear hy178
              have H' := Aside0.mk H
              clear H
              have p177 : 0 ≤ (x9_1 : Int) := of_decide_eq_true (by first | (with_reducible assumption) | assumption)
              have q177 : x9_1 < (x1_1.length : Int) := of_decide_eq_true (by first | (with_reducible assumption) | assumption)
              obtain ⟨ad177, e177, hx177_0⟩ := Kd.at_int (Kd.R_reads' HO_1.out).2.2 x9_1 p177 q177
              cases e177
              replace p177 := eq_true p177
              replace q177 := eq_true q177
              have p9 : 0 ≤ (x9_1 : Int) := of_decide_eq_true (by first | (with_reducible assumption) | assumption)
              have q9 : (x9_1 : Int) < ((x1_1.length : Int) : Int) := of_decide_eq_true (by first | (with_reducible assumption) | assumption)
              obtain ⟨go9, co9, eo9, gb9, gl9, cl9, HG9⟩ := Kd.R_form HO_1.out (by omega)
              (first | cases eo9 | (injection eo9 with ea_ en_ ec_; (first | subst ea_ | (injection ea_ with ea_; subst ea_)); subst ec_; clear en_))
              have GB9 := Aside0.mk gb9
              have GG9 := Aside0.mk HG9
              clear gb9 gl9 HG9
              have HMgo9 := Aside0.mk (show (P1_ go9 ∨ w.heap.size ≤ go9) from (HO_1.out.1 _ rfl))
              (first | simp only [add_plain] at hx177_0 | skip)
              obtain ⟨hx9_0, hf9_0⟩ := Kd.R_celln 0 HO_1.out (x9_1 : Int) p9 q9
              replace p9 := eq_true p9
              replace q9 := eq_true q9
              have HP10 := Kd.R_putg HO_1.out (x9_1 : Int) (Int.tmod (wrap64 ((rd x1_1 x9_1) * a2)) a0)
              go_wp2_with (first | ((with_reducible refine gate_store (t := 2) (p := 22) rfl ?_); refine store_event (t := 2) (p := 22) (v := ?vo_w11) (w1 := (wr.setCell ⟨go9, (x9_1 : Int).toNat, none⟩ (.int .i64 (Int.tmod (wrap64 ((rd x1_1 x9_1) * a2)) a0)))) ?hg ?ho ?hn ?hr ?_; (case ho => rfl); (case hg => rfl); (case hn => rfl); (case hr => first | (go_simp; done) | (go_simp; rfl)); intro w11 hw; have hg : wr.grownBy w11 (some go9) := (by rw [hw]; exact HP10.2); have hp_ : Kd.R (Kd.int .i64) 2 w11 w0.heap.size (fun k_ => (P1_ k_ ∨ w.heap.size ≤ k_)) (.slice (some ⟨go9, 0, none⟩) x1_1.length co4) y178 := (by rw [hw, Ny178.out]; exact HP10.1); clear HP10; have n0_ := Aside0.mk (hp_); have n1_ := Aside0.mk ((by rw [hw]; exact below_set (HB.out) GB9.out : Below w0.heap.size w0 w11)); have n2_ := Aside0.mk (Kept.of_grown (S := (fun k_ => P1_ k_)) hg (by repeat (first | (with_reducible first | exact HK.out | apply Kept.alloc | apply Kept.drewN | apply Kept.drew) | exact HK.out)) (fun k_ e_ => (HO_1.out.1 k_ e_))); clear HO_1; clear HB; clear HK; have HO_1 := n0_; have HB := n1_; have HK := n2_; clear n0_ n1_ n2_; clear hg hw hp_))
              (try simp only [← hl1_1])
              go_roundg k1
              case measure => have := HK1.out; omega
              case rel => exact ⟨(y178), (wrap64 (x9_1 + 1)), (by first | rfl | (simp; done) | (simp [*]; done)), H', ⟨by have := HK1.out; omega⟩, ⟨by (try simp only [hl1_1]); (with_reducible repeat (first | apply Kd.R_alloc | apply Kd.R_drewN | apply Kd.R_drew)); exact HO_1.out⟩, ⟨by repeat (first | (with_reducible first | exact HK.out | apply Kept.alloc | apply Kept.drewN | apply Kept.drew) | exact HK.out)⟩, ⟨by repeat (first | (with_reducible first | exact HB.out | apply below_alloc | apply pw_below_drewN | apply below_drew1) | exact HB.out)⟩⟩
          · rw [if_neg c7] at H
            exact absurd H (by simp)
        · rw [if_neg c6] at H
          exact absurd H (by simp)
      · rw [if_neg c5] at H
        have c5b0 : decide (x9_1 < (l1.length : Int)) = false := decide_eq_false c5
        try have c5b0x1_1 : decide (x9_1 < (x1_1.length : Int)) = false := (by rw [← hl1_1]; exact c5b0)
        clear c5
        obtain rfl := Option.some.inj H
        go_wp2
        first | go_end0 | ((try simp only [Exit.inBlock, Exit.then]); refine bodyPost_ret (results_none rfl _ _ _) rfl ?_)
        exact ⟨by first | rfl | (simp [errW_none, errW_some] <;> rfl) | (simp [*, errW_none, errW_some] <;> rfl), (by first | exact (by (with_reducible repeat (first | apply Kd.R_alloc | apply Kd.R_drewN | apply Kd.R_drew)); exact HO_1.out) | (simp only [hl1_1]; exact (by (with_reducible repeat (first | apply Kd.R_alloc | apply Kd.R_drewN | apply Kd.R_drew)); exact HO_1.out))), by repeat (first | (with_reducible first | exact HB.out | apply below_alloc | apply pw_below_drewN | apply below_drew1) | exact HB.out), by repeat (first | (with_reducible first | exact HK.out | apply Kept.alloc | apply Kept.drewN | apply Kept.drew) | exact HK.out)⟩

end Go.Proofs.Ytjpbemomocccaaa.P

namespace Go.Proofs.Ytjpbemomocccaaa.P
open Go.RowKit Go.Proofs.YtjpbemomocccaaaW.PrintWords Go.Proofs.YtjpbemomocccaaaW.PrintLast Go.Proofs.YtjpbemomocccaaaW.PrintMore
attribute [local go_sem] max2_int min2_int max_two min_two max_three min_three max_four min_four
set_option linter.unusedVariables false
set_option linter.unusedSimpArgs false

/-! ### impl_takeOff: function 71 -/
def impl_takeOff.l0 : Nat → Int → List Int → Int → List Int → Int → Int → Option (List Int)
  | 0, _, _, _, _, _, _ => none
  | k + 1, x0, x1, x3, x10, x11, x12 => if x12 < x11 then (if 0 ≤ x12 then (if x12 < (x10.length : Int) then (if x12 < (x1.length : Int) then (if x0 = 0 then (none) else (impl_takeOff.l0 k x0 (x1.set (x12 : Int).toNat (Int.tmod (wrap64 ((rd x1 x12) + (wrap64 ((wrap64 (x0 - x3)) * (rd x10 x12))))) x0)) x3 x10 x11 (wrap64 (x12 + 1)))) else (none)) else (none)) else (none)) else (some x1)
def impl_takeOff.f (k : Nat) (a0 : Int) (l1 : List Int) (l2 : List Int) (a3 : Int) : Option (List Int) := impl_takeOff.l0 k a0 l1 a3 l2 (l2.length : Int) 0
theorem impl_takeOff.mono_l : ∀ k, (∀ y0 y1 y2 y3 y4 y5, LeO (impl_takeOff.l0 k y0 y1 y2 y3 y4 y5) (impl_takeOff.l0 (k + 1) y0 y1 y2 y3 y4 y5))
  | 0 => fun _ _ _ _ _ _ r h => by simp [impl_takeOff.l0] at h
  | k + 1 => by
    have ih0 := impl_takeOff.mono_l k
    · intro y0 y1 y2 y3 y4 y5
      unfold impl_takeOff.l0
      repeat' first
      | (with_reducible exact ih0 _ _ _ _ _ _)
      | (with_reducible exact LeO.refl _)
      | (with_reducible exact LeO.none _)
      | (with_reducible refine LeO.ite ?_ ?_)
      | (with_reducible refine LeO.bind ?_ (fun _ => ?_))
      | exact ih0 _ _ _ _ _ _
      | exact LeO.none _
      | refine LeO.ite ?_ ?_
      | refine LeO.bind ?_ (fun _ => ?_)
theorem impl_takeOff.mono : ∀ a0 a1 a2 a3 k, LeO (impl_takeOff.f k a0 a1 a2 a3) (impl_takeOff.f (k + 1) a0 a1 a2 a3) := by
  intro a0 a1 a2 a3 k
  have ih0 := impl_takeOff.mono_l k
  unfold impl_takeOff.f
  repeat' first
      | (with_reducible exact ih0 _ _ _ _ _ _)
      | (with_reducible exact LeO.refl _)
      | (with_reducible exact LeO.none _)
      | (with_reducible refine LeO.ite ?_ ?_)
      | (with_reducible refine LeO.bind ?_ (fun _ => ?_))
      | exact ih0 _ _ _ _ _ _
      | exact LeO.none _
      | refine LeO.ite ?_ ?_
      | refine LeO.bind ?_ (fun _ => ?_)
set_option maxHeartbeats 8000000 in
set_option maxRecDepth 100000 in
theorem impl_takeOff.calls (k : Nat) (a0 : Int) (P1_ : Nat → Prop) (u9000_ : Value) (l1 : List Int) (A2 : Option Addr) (c2 : Nat) (l2 : List Int) (a3 : Int) (r : List Int) (w0 w : World) (hB : Below w0.heap.size w0 w) (ho1 : Kd.R (Kd.int .i64) 2 w w0.heap.size P1_ u9000_ l1) (hr2 : ∀ W_, Kept w W_ (fun k_ => P1_ k_) → Kd.C (Kd.int .i64) W_ A2 l2.length l2) (hc2 : l2.length ≤ c2) (h : impl_takeOff.f k a0 l1 l2 a3 = some r) :
    Calls Try.prog 71 #[.int .i64 a0, u9000_, .slice A2 l2.length c2, .int .i64 a3] w fun e w' => e = .returned (.tuple #[]) ∧ Kd.R (Kd.int .i64) 2 w' w0.heap.size (fun k_ => (P1_ k_ ∨ w.heap.size ≤ k_)) u9000_ r ∧ Below w0.heap.size w0 w' ∧ Kept w w' (fun k_ => P1_ k_) := by
  have HO1 := Aside0.mk (show Kd.R (Kd.int .i64) 2 w w0.heap.size (fun k_ => (P1_ k_ ∨ w.heap.size ≤ k_)) u9000_ l1 from Kd.R_mono ho1 (fun k_ hk => (.inl hk)))
  have HR2 := Aside0.mk hr2
  have HC2 := Aside0.mk hc2
  clear hr2 hc2
  have HK := Aside0.mk (Kept.refl w (fun k_ => P1_ k_))
  have HW0 := Aside0.mk hB.size
  have HB := Aside0.mk hB
  clear hB
  have H : (impl_takeOff.l0 k a0 l1 a3 l2 (l2.length : Int) 0) = some r := h
  clear h
  have H' := Aside0.mk H
  clear H
  go_enter Try.func71, Try.ntmps71
  go_wp2
  go_loopg [12] k (fun kq v12 w' => ∃ (x1_1 : List Int) (x12_1 : Int), v12 = .int .i64 x12_1 ∧ Aside0 (impl_takeOff.l0 kq a0 x1_1 a3 l2 (l2.length : Int) x12_1 = some r) ∧ Aside0 (kq ≤ k) ∧ Aside0 (Kd.R (Kd.int .i64) 2 w' w0.heap.size (fun k_ => (P1_ k_ ∨ w.heap.size ≤ k_)) u9000_ x1_1) ∧ Aside0 (Kept w w' (fun k_ => P1_ k_)) ∧ Aside0 (Below w0.heap.size w0 w'))
  case atStart => exact ⟨(l1), (0), (by first | rfl | (simp; done) | (simp [*]; done)), H', ⟨Nat.le_refl _⟩, ⟨by (with_reducible repeat (first | apply Kd.R_alloc | apply Kd.R_drewN | apply Kd.R_drew)); exact HO1.out⟩, ⟨by repeat (first | (with_reducible first | exact HK.out | apply Kept.alloc | apply Kept.drewN | apply Kept.drew) | exact HK.out)⟩, ⟨by repeat (first | (with_reducible first | exact HB.out | apply below_alloc | apply pw_below_drewN | apply below_drew1) | exact HB.out)⟩⟩
  case round =>
    clear H'
    try clear c2
    try clear p2
    obtain ⟨x1_1, x12_1, rfl, HA, HK1, HO_1, HK, HB⟩ := hrel
    cases gk with
    | zero => exact absurd HA.out (by simp [impl_takeOff.l0])
    | succ k1 =>
      have H := HA.out
      clear HA
      simp only [impl_takeOff.l0] at H
      by_cases c5 : x12_1 < (l2.length : Int)
      · rw [if_pos c5] at H
        have c5b0 : decide (x12_1 < (l2.length : Int)) = true := decide_eq_true c5
        clear c5
        by_cases c6 : 0 ≤ x12_1
        · rw [if_pos c6] at H
          have c6b0 : decide (0 ≤ x12_1) = true := decide_eq_true c6
          clear c6
          by_cases c7 : x12_1 < (l2.length : Int)
          · rw [if_pos c7] at H
            have c7b0 : decide (x12_1 < (l2.length : Int)) = true := decide_eq_true c7
            clear c7
            by_cases c8 : x12_1 < (x1_1.length : Int)
            · rw [if_pos c8] at H
              have c8b0 : decide (x12_1 < (x1_1.length : Int)) = true := decide_eq_true c8
              clear c8
              by_cases c9 : a0 = 0
              · rw [if_pos c9] at H
                exact absurd H (by simp)
              · rw [if_neg c9] at H
                have c9b0 : (a0 == 0) = false := beq_eq_false_iff_ne.mpr c9
                have c9b1 : (a0 != 0) = true := bne_iff_ne.mpr c9
                obtain ⟨y182, hy182⟩ : ∃ y_ : List Int, y_ = (x1_1.set (x12_1 : Int).toNat (Int.tmod (wrap64 ((rd x1_1 x12_1) + (wrap64 ((wrap64 (a0 - a3)) * (rd l2 x12_1))))) a0)) := ⟨_, rfl⟩
                replace H : (impl_takeOff.l0 k1 a0 y182 a3 l2 (l2.length : Int) (wrap64 (x12_1 + 1))) = some r := by first | (rw [hy182]; with_reducible exact H) | (have H2_ := (Option.bind_some _ _).symm.trans H; rw [hy182]; with_reducible exact H2_) | (have H2_ := (Option.bind_some _ _).symm.trans H; with_reducible exact H2_) | with_reducible exact H | (rw [hy182]; exact H) | exact H
                have Ny182 := Aside0.mk hy182
                clear hy182
                have H' := Aside0.mk H
                clear H
                have p180 : 0 ≤ (x12_1 : Int) := of_decide_eq_true (by first | (with_reducible assumption) | assumption)
                have q180 : x12_1 < (l2.length : Int) := of_decide_eq_true (by first | (with_reducible assumption) | assumption)
                obtain ⟨ad180, e180, hx180_0⟩ := Kd.at_int (Kd.C_kept_now HR2.out HK.out) x12_1 p180 q180
                cases e180
                replace p180 := eq_true p180
                replace q180 := eq_true q180
                obtain ⟨Ao11, co11, eo11⟩ := Kd.R_slice HO_1.out
                subst eo11
                have p181 : 0 ≤ (x12_1 : Int) := of_decide_eq_true (by first | (with_reducible assumption) | assumption)
                have q181 : x12_1 < (x1_1.length : Int) := of_decide_eq_true (by first | (with_reducible assumption) | assumption)
                obtain ⟨ad181, e181, hx181_0⟩ := Kd.at_int (Kd.R_reads' HO_1.out).2.2 x12_1 p181 q181
                cases e181
                replace p181 := eq_true p181
                replace q181 := eq_true q181
                have p10 : 0 ≤ (x12_1 : Int) := of_decide_eq_true (by first | (with_reducible assumption) | assumption)
                have q10 : (x12_1 : Int) < ((x1_1.length : Int) : Int) := of_decide_eq_true (by first | (with_reducible assumption) | assumption)
                obtain ⟨go10, co10, eo10, gb10, gl10, cl10, HG10⟩ := Kd.R_form HO_1.out (by omega)
                (first | cases eo10 | (injection eo10 with ea_ en_ ec_; (first | subst ea_ | (injection ea_ with ea_; subst ea_)); subst ec_; clear en_))
                have GB10 := Aside0.mk gb10
                have GG10 := Aside0.mk HG10
                clear gb10 gl10 HG10
                have HMgo10 := Aside0.mk (show (P1_ go10 ∨ w.heap.size ≤ go10) from (HO_1.out.1 _ rfl))
                (first | simp only [add_plain] at hx181_0 | skip)
                obtain ⟨hx10_0, hf10_0⟩ := Kd.R_celln 0 HO_1.out (x12_1 : Int) p10 q10
                replace p10 := eq_true p10
                replace q10 := eq_true q10
                have HP12 := Kd.R_putg HO_1.out (x12_1 : Int) (Int.tmod (wrap64 ((rd x1_1 x12_1) + (wrap64 ((wrap64 (a0 - a3)) * (rd l2 x12_1))))) a0)
                go_wp2_with (first | ((with_reducible refine gate_store (t := 2) (p := 31) rfl ?_); refine store_event (t := 2) (p := 31) (v := ?vo_w13) (w1 := (wr.setCell ⟨go10, (x12_1 : Int).toNat, none⟩ (.int .i64 (Int.tmod (wrap64 ((rd x1_1 x12_1) + (wrap64 ((wrap64 (a0 - a3)) * (rd l2 x12_1))))) a0)))) ?hg ?ho ?hn ?hr ?_; (case ho => rfl); (case hg => rfl); (case hn => rfl); (case hr => first | (go_simp; done) | (go_simp; rfl)); intro w13 hw; have hg : wr.grownBy w13 (some go10) := (by rw [hw]; exact HP12.2); have hp_ : Kd.R (Kd.int .i64) 2 w13 w0.heap.size (fun k_ => (P1_ k_ ∨ w.heap.size ≤ k_)) (.slice (some ⟨go10, 0, none⟩) x1_1.length co11) y182 := (by rw [hw, Ny182.out]; exact HP12.1); clear HP12; have n0_ := Aside0.mk (hp_); have n1_ := Aside0.mk ((by rw [hw]; exact below_set (HB.out) GB10.out : Below w0.heap.size w0 w13)); have n2_ := Aside0.mk (Kept.of_grown (S := (fun k_ => P1_ k_)) hg (by repeat (first | (with_reducible first | exact HK.out | apply Kept.alloc | apply Kept.drewN | apply Kept.drew) | exact HK.out)) (fun k_ e_ => (HO_1.out.1 k_ e_))); clear HO_1; clear HB; clear HK; have HO_1 := n0_; have HB := n1_; have HK := n2_; clear n0_ n1_ n2_; clear hg hw hp_))
                go_roundg k1
                case measure => have := HK1.out; omega
                case rel => exact ⟨(y182), (wrap64 (x12_1 + 1)), (by first | rfl | (simp; done) | (simp [*]; done)), H', ⟨by have := HK1.out; omega⟩, ⟨by (with_reducible repeat (first | apply Kd.R_alloc | apply Kd.R_drewN | apply Kd.R_drew)); exact HO_1.out⟩, ⟨by repeat (first | (with_reducible first | exact HK.out | apply Kept.alloc | apply Kept.drewN | apply Kept.drew) | exact HK.out)⟩, ⟨by repeat (first | (with_reducible first | exact HB.out | apply below_alloc | apply pw_below_drewN | apply below_drew1) | exact HB.out)⟩⟩
            · rw [if_neg c8] at H
              exact absurd H (by simp)
          · rw [if_neg c7] at H
            exact absurd H (by simp)
        · rw [if_neg c6] at H
          exact absurd H (by simp)
      · rw [if_neg c5] at H
        have c5b0 : decide (x12_1 < (l2.length : Int)) = false := decide_eq_false c5
        clear c5
        obtain rfl := Option.some.inj H
        go_wp2
        first | go_end0 | ((try simp only [Exit.inBlock, Exit.then]); refine bodyPost_ret (results_none rfl _ _ _) rfl ?_)
        exact ⟨by first | rfl | (simp [errW_none, errW_some] <;> rfl) | (simp [*, errW_none, errW_some] <;> rfl), by (with_reducible repeat (first | apply Kd.R_alloc | apply Kd.R_drewN | apply Kd.R_drew)); exact HO_1.out, by repeat (first | (with_reducible first | exact HB.out | apply below_alloc | apply pw_below_drewN | apply below_drew1) | exact HB.out), by repeat (first | (with_reducible first | exact HK.out | apply Kept.alloc | apply Kept.drewN | apply Kept.drew) | exact HK.out)⟩

end Go.Proofs.Ytjpbemomocccaaa.P

namespace Go.Proofs.Ytjpbemomocccaaa.P
open Go.RowKit Go.Proofs.YtjpbemomocccaaaW.PrintWords Go.Proofs.YtjpbemomocccaaaW.PrintLast Go.Proofs.YtjpbemomocccaaaW.PrintMore
attribute [local go_sem] max2_int min2_int max_two min_two max_three min_three max_four min_four
set_option linter.unusedVariables false
set_option linter.unusedSimpArgs false

/-! ### impl_Matrix_echelon: function 51 (by hand) -/
def impl_Matrix_echelon.l2 : Nat → Int → Int → Int → List (List Int) → Int → Option (List (List Int))
  | 0, _, _, _, _, _ => none
  | k + 1, p, c, n, rows, i => if i < (rows.length : Int) then (if 0 ≤ i then (if i = n then impl_Matrix_echelon.l2 k p c n rows (wrap64 (i + 1)) else (if 0 ≤ n then (if n < (rows.length : Int) then (if 0 ≤ c then (if c < ((rd_L1 rows i).length : Int) then ((impl_takeOff.f k p (rd_L1 rows i) (rd_L1 rows n) (rd (rd_L1 rows i) c)).bind fun r => impl_Matrix_echelon.l2 k p c n (rows.set i.toNat r) (wrap64 (i + 1))) else none) else none) else none) else none)) else none) else some rows
def impl_Matrix_echelon.l0 : Nat → Int → Int → List (List Int) → List Int → Int → Option (List (List Int) × List Int)
  | 0, _, _, _, _, _ => none
  | k + 1, p, cols, rows, piv, c => if c < cols then ((findB k rows c (piv.length : Int)).bind fun a => if a = (rows.length : Int) then impl_Matrix_echelon.l0 k p cols rows piv (wrap64 (c + 1)) else (if 0 ≤ a then (if a < (rows.length : Int) then (if (piv.length : Int) < (rows.length : Int) then (if 0 ≤ c then (if c < ((rd_L1 (swapB rows piv.length a.toNat) (piv.length : Int)).length : Int) then ((impl_inverse.f k p (rd (rd_L1 (swapB rows piv.length a.toNat) (piv.length : Int)) c)).bind fun inv => ((impl_scaled.f k p (rd_L1 (swapB rows piv.length a.toNat) (piv.length : Int)) inv).bind fun r => ((impl_Matrix_echelon.l2 k p c (piv.length : Int) ((swapB rows piv.length a.toNat).set piv.length r) 0).bind fun rows2 => if piv.length < 17592186044416 then impl_Matrix_echelon.l0 k p cols rows2 (piv ++ [c]) (wrap64 (c + 1)) else none))) else none) else none) else none) else none) else none)) else some (rows, piv)
def impl_Matrix_echelon.f (k : Nat) (a0_0 : Int) (a0_1 : Int) (l0_2 : List (List Int)) : Option (Int × Int × (List (List Int)) × List Int) := (impl_copyRows.f k l0_2).bind fun rows => ((impl_Matrix_echelon.l0 k a0_0 a0_1 rows [] 0).bind fun t => if t.2.length ≤ t.1.length then some (a0_0, a0_1, t.1.take t.2.length, t.2) else none)
theorem impl_Matrix_echelon.mono_2 : ∀ k p c n rows i, LeO (impl_Matrix_echelon.l2 k p c n rows i) (impl_Matrix_echelon.l2 (k + 1) p c n rows i)
  | 0, _, _, _, _, _ => fun r h => by simp [impl_Matrix_echelon.l2] at h
  | k + 1, p, c, n, rows, i => by
    have ih0 := impl_Matrix_echelon.mono_2 k
    unfold impl_Matrix_echelon.l2
    refine LeO.ite (LeO.ite (LeO.ite (ih0 _ _ _ _ _) (LeO.ite (LeO.ite (LeO.ite (LeO.ite (LeO.bind (impl_takeOff.mono _ _ _ _ _) (fun _ => ih0 _ _ _ _ _)) (LeO.refl _)) (LeO.refl _)) (LeO.refl _)) (LeO.refl _))) (LeO.refl _)) (LeO.refl _)
theorem impl_Matrix_echelon.mono_0 : ∀ k p cols rows piv c, LeO (impl_Matrix_echelon.l0 k p cols rows piv c) (impl_Matrix_echelon.l0 (k + 1) p cols rows piv c)
  | 0, _, _, _, _, _ => fun r h => by simp [impl_Matrix_echelon.l0] at h
  | k + 1, p, cols, rows, piv, c => by
    have ih0 := impl_Matrix_echelon.mono_0 k
    unfold impl_Matrix_echelon.l0
    refine LeO.ite (LeO.bind (findB.mono _ _ _ _) (fun _ => LeO.ite (ih0 _ _ _ _ _) (LeO.ite (LeO.ite (LeO.ite (LeO.ite (LeO.ite (LeO.bind (impl_inverse.mono _ _ _) (fun _ => LeO.bind (impl_scaled.mono _ _ _ _) (fun _ => LeO.bind (impl_Matrix_echelon.mono_2 _ _ _ _ _ _) (fun _ => LeO.ite (ih0 _ _ _ _ _) (LeO.refl _))))) (LeO.refl _)) (LeO.refl _)) (LeO.refl _)) (LeO.refl _)) (LeO.refl _)))) (LeO.refl _)
theorem impl_Matrix_echelon.mono : ∀ a0 a1 l k, LeO (impl_Matrix_echelon.f k a0 a1 l) (impl_Matrix_echelon.f (k + 1) a0 a1 l) := fun a0 a1 l k => by
  unfold impl_Matrix_echelon.f
  exact LeO.bind (impl_copyRows.mono _ _) (fun _ => LeO.bind (impl_Matrix_echelon.mono_0 _ _ _ _ _ _) (fun _ => LeO.refl _))
set_option maxHeartbeats 8000000 in
set_option maxRecDepth 100000 in
theorem impl_Matrix_echelon.calls (k : Nat) (a0_0 : Int) (a0_1 : Int) (A0_2 : Option Addr) (c0_2 : Nat) (l0_2 : List (List Int)) (r1 : Int) (r2 : Int) (r3 : List (List Int)) (r4 : List Int) (w : World) (hr0_2 : Kd.C (Kd.slice 2 (Kd.int .i64)) w A0_2 l0_2.length l0_2) (hc0_2 : l0_2.length ≤ c0_2) (h : impl_Matrix_echelon.f k a0_0 a0_1 l0_2 = some (r1, r2, r3, r4)) :
    Calls Try.prog 51 #[.agg #[.int .i64 a0_0, .int .i64 a0_1, .slice A0_2 l0_2.length c0_2]] w fun e w' => ∃ v2_ v3_ : Value, e = .returned (.tuple #[.agg #[.int .i64 r1, .int .i64 r2, v2_], v3_]) ∧ Kd.S (Kd.slice 2 (Kd.int .i64)) 35 w' w.heap.size (fun _ => True) v2_ r3 ∧ Kd.R (Kd.int .i64) 3 w' w.heap.size (fun _ => True) v3_ r4 ∧ Below w.heap.size w w' := by
  have hum := Try.underlying26
  have HR := Aside0.mk hr0_2
  have HC := Aside0.mk hc0_2
  clear hr0_2 hc0_2
  unfold impl_Matrix_echelon.f at h
  replace h := Option.bind_eq_some_iff.mp h
  obtain ⟨rows0, At1, h⟩ := h
  replace h := Option.bind_eq_some_iff.mp h
  obtain ⟨⟨rs, ps⟩, At2, h⟩ := h
  have A1_ := Aside0.mk At1
  have A2_ := Aside0.mk At2
  clear At1 At2
  by_cases cl : ps.length ≤ rs.length
  case neg => rw [if_neg cl] at h; exact absurd h (by simp)
  rw [if_pos cl] at h
  obtain ⟨rfl, rfl, rfl, rfl⟩ := (by simpa using h : a0_0 = r1 ∧ a0_1 = r2 ∧ rs.take ps.length = r3 ∧ ps = r4)
  have CL := Aside0.mk cl
  clear h cl
  go_enter Try.func51, Try.ntmps51
  go_wp2_with (first | (go_at_call 68; (with_reducible refine (impl_copyRows.calls k _ _ l0_2 rows0 _ ?side1 ?side2 A1_.out).mono ?_); (case side1 => repeat (first | exact HR.out | (with_reducible refine Kd.C_alloc ?_ _) | (with_reducible refine Kd.C_drewN ?_ _) | (with_reducible refine Kd.C_drew ?_))); (case side2 => exact HC.out); rintro e w1 ⟨v, rfl, ho, hb⟩; obtain ⟨vs0, hmx⟩ := Mx.of_S (lo := w.heap.size + 2) (hi := w1.heap.size) (Kd.S_mono (Kd.S_bound ho) (fun k_ hk_ => ⟨by have h_ := hk_.2.1; (try simp at h_); omega, hk_.2.2.1⟩)); have n1_ := blk_below (g := w.heap.size) (o := .cells #[.int .i64 a0_0, .int .i64 a0_1, .slice A0_2 l0_2.length c0_2] 26 (0, 0)) (by repeat (first | exact blk_new_at (by simp) | (with_reducible refine blk_drewN ?_ _) | (with_reducible refine blk_drew ?_) | (with_reducible refine blk_alloc ?_ _))) hb; have n2_ := blk_below (g := w.heap.size + 1) (o := .cells #[(.int .i64 0 : Value), (.int .i64 0 : Value), (.slice none 0 0 : Value)] 26 (0, 0)) (by repeat (first | exact blk_new_at (by simp) | (with_reducible refine blk_drewN ?_ _) | (with_reducible refine blk_drew ?_) | (with_reducible refine blk_alloc ?_ _))) hb; have n3_ : Below w.heap.size w w1 := below_step (by repeat (first | exact Below.refl _ _ | apply below_alloc | apply pw_below_drewN | apply below_drew1)) hb; have E0 : Aside0 (Mw w w1 (w.heap.size + 2) w1.heap.size w1.heap.size ([(w.heap.size, .cells #[.int .i64 a0_0, .int .i64 a0_1, .slice A0_2 l0_2.length c0_2] 26 (0, 0)), (w.heap.size + 1, .cells #[(.int .i64 0 : Value), (.int .i64 0 : Value), (.slice none 0 0 : Value)] 26 (0, 0))]) v vs0 rows0) := ⟨⟨hmx.lower (by simp; omega), (fun b hm => by rcases List.mem_cons.1 hm with rfl | hm; exact ⟨n1_, .inl (by omega), blk_lt n1_⟩; rcases List.mem_cons.1 hm with rfl | hm; exact ⟨n2_, .inl (by omega), blk_lt n2_⟩; cases hm), n3_, (by omega), Nat.le_refl _, Nat.le_refl _⟩⟩; clear ho hb hmx n1_ n2_ n3_) | ((with_reducible refine gate_dst (N := 14) rfl ?_); refine Kd.R_lit (Kd.int .i64) _ 3 ?hg (N := 14) ?hd (xs := ([] : List Int)) (inner := []) (ok := fun k_ => w1.heap.size ≤ k_) (okp := fun k_ => w1.heap.size ≤ k_) ?hr ?hp (fun _ hk => hk) (Nat.le_refl _) (Below.refl _ _) (Nat.le_refl _) (by simp) ?_; (case hd => rfl); (case hg => rfl); (case hr => first | (go_simp; done) | (go_simp; rfl)); (case hp => exact (Reps.none _ _)); intro vp w2 ho3 hb hg_ hnew_; clear hg_ hnew_; have P0 := Aside0.mk (Kd.R_lower ho3 (below_size E0.out.be)); have E := Aside0.mk (E0.out.below hb); clear E0 ho3 hb; have hm1_ : w2.cell? ⟨w.heap.size, 1, none⟩ = some (.int .i64 a0_1) := (blk_cell (E.out.box (b := w.heap.size) (o := .cells #[.int .i64 a0_0, .int .i64 a0_1, .slice A0_2 l0_2.length c0_2] 26 (0, 0)) (by simp)) 1).trans rfl))
  obtain ⟨A1, c1, e1, hc1⟩ := E.out.mx.slice
  subst e1
  obtain ⟨n0, hn0⟩ : ∃ n, n = rows0.length := ⟨_, rfl⟩
  rw [← hn0] at E ⊢
  obtain ⟨hi, hhi⟩ : ∃ m, m = w1.heap.size := ⟨_, rfl⟩
  simp only [← hhi] at E P0
  clear hn0 hhi hc1
  go_loopg [5, 17] k (fun kq v5 v17 w' => ∃ (c : Int) (rows : List (List Int)) (piv : List Int) (vs : List Value), v17 = .int .i64 c ∧ Aside0 (impl_Matrix_echelon.l0 kq a0_0 a0_1 rows piv c = some (rs, ps)) ∧ Aside0 (kq ≤ k) ∧ Aside0 (Mw w w' (w.heap.size + 2) hi hi ([(w.heap.size, .cells #[.int .i64 a0_0, .int .i64 a0_1, .slice A0_2 l0_2.length c0_2] 26 (0, 0)), (w.heap.size + 1, .cells #[(.int .i64 0 : Value), (.int .i64 0 : Value), (.slice none 0 0 : Value)] 26 (0, 0))]) (.slice A1 n0 c1) vs rows) ∧ Aside0 (Kd.R (Kd.int .i64) 3 w' w.heap.size (fun k_ => hi ≤ k_) v5 piv))
  case atStart => exact ⟨0, rows0, [], vs0, rfl, A2_, ⟨Nat.le_refl _⟩, E, P0⟩
  case round =>
    clear E P0 A2_ hm1_
    obtain ⟨c, rows, piv, vs, rfl, HA, HK1, E, P⟩ := hrel
    cases gk with
    | zero => exact absurd HA.out (by simp [impl_Matrix_echelon.l0])
    | succ k1 =>
      have H := HA.out
      clear HA
      simp only [impl_Matrix_echelon.l0] at H
      by_cases c2 : c < a0_1
      · rw [if_pos c2] at H
        have c2b : decide (c < a0_1) = true := decide_eq_true c2
        clear c2
        replace H := Option.bind_eq_some_iff.mp H
        obtain ⟨at_, At1, H⟩ := H
        have B1 := Aside0.mk At1
        have H1 := Aside0.mk H
        clear At1 H
        obtain ⟨A5, c5, e5⟩ := Kd.R_slice P.out
        subst e5
        obtain ⟨wo, rfl⟩ : ∃ wo : World, wo = wr := ⟨_, rfl⟩
        go_wp2
        go_loopg [8] k1 (fun kq v8 w' => ∃ (a : Int), v8 = .int .i64 a ∧ Aside0 (findB kq rows c a = some at_) ∧ Aside0 (kq ≤ k1) ∧ Aside0 (Mw w w' (w.heap.size + 2) hi hi ([(w.heap.size, .cells #[.int .i64 a0_0, .int .i64 a0_1, .slice A0_2 l0_2.length c0_2] 26 (0, 0)), (w.heap.size + 1, .cells #[(.int .i64 0 : Value), (.int .i64 0 : Value), (.slice none 0 0 : Value)] 26 (0, 0))]) (.slice A1 n0 c1) vs rows) ∧ Aside0 (Kd.R (Kd.int .i64) 3 w' w.heap.size (fun k_ => hi ≤ k_) (.slice A5 piv.length c5) piv))
        case atStart => exact ⟨(piv.length : Int), rfl, B1, ⟨Nat.le_refl _⟩, E, P⟩
        case round =>
          clear B1 E P
          obtain ⟨a, rfl, HA, HK2, E, P⟩ := hrel
          have hcnt := Aside0.mk E.out.mx.count.1
          cases gk with
          | zero => exact absurd HA.out (by simp [findB])
          | succ k2 =>
            have H := HA.out
            clear HA
            simp only [findB] at H
            by_cases c3 : a < (rows.length : Int)
            · rw [if_pos c3] at H
              by_cases c4 : 0 ≤ a
              case neg => rw [if_neg c4] at H; exact absurd H (by simp)
              rw [if_pos c4] at H
              by_cases c5_ : 0 ≤ c
              case neg => rw [if_neg c5_] at H; exact absurd H (by simp)
              rw [if_pos c5_] at H
              by_cases c6 : c < ((rd_L1 rows a).length : Int)
              case neg => rw [if_neg c6] at H; exact absurd H (by simp)
              rw [if_pos c6] at H
              obtain ⟨u, hu, hr⟩ := E.out.mx.rd_ a c4 c3
              obtain ⟨b, cb, e, b1, b2, hx⟩ := E.out.mx.get hu hr c c5_ c6
              subst e
              obtain ⟨g, cg, e, g1, g2, g3, g4⟩ := E.out.mx.form (by omega)
              injection e with e1 e2 e3
              subst e1
              have hy := (E.out.mx.cell hu).1
              have a1b : decide (a < (n0 : Int)) = true := decide_eq_true (by omega)
              have a1c := eq_true (show a < (n0 : Int) by omega)
              have a2b : decide (0 ≤ a) = true := decide_eq_true c4
              have a3b : decide (0 ≤ c) = true := decide_eq_true c5_
              have a4b : decide (c < ((rd_L1 rows a).length : Int)) = true := decide_eq_true c6
              have G := Aside0.mk (And.intro g1 (And.intro g2 g4))
              have KK := Aside0.mk (And.intro c3 (And.intro c4 (And.intro c5_ c6)))
              have HUR := Aside0.mk (And.intro hu hr)
              clear g1 g2 g3 g4 e2 e3 b1 b2 hu hr
              replace c3 := eq_true c3
              replace c4 := eq_true c4
              replace c5_ := eq_true c5_
              replace c6 := eq_true c6
              by_cases c7 : rd (rd_L1 rows a) c = 0
              · rw [if_pos c7] at H
                have a5b : (rd (rd_L1 rows a) c == 0) = true := by rw [c7]; rfl
                replace c7 := Aside0.mk c7
                have H' := Aside0.mk H
                clear H
                go_wp2
                go_roundg k2
                case measure => have := HK1.out; have := HK2.out; omega
                case rel => exact ⟨_, rfl, H', ⟨by have := HK2.out; omega⟩, E, P⟩
              · rw [if_neg c7] at H
                have a5b : (rd (rd_L1 rows a) c == 0) = false := beq_eq_false_iff_ne.mpr c7
                replace c7 := Aside0.mk c7
                obtain rfl := Option.some.inj H
                clear H
                have H := H1.out
                clear H1
                have ca : ¬ a = (rows.length : Int) := by have := KK.out.1; omega
                rw [if_neg ca, if_pos KK.out.2.1, if_pos KK.out.1] at H
                have a6b : (a == (n0 : Int)) = false := beq_eq_false_iff_ne.mpr (by have := hcnt.out; omega)
                clear ca
                by_cases c8 : (piv.length : Int) < (rows.length : Int)
                case neg => rw [if_neg c8] at H; exact absurd H (by simp)
                rw [if_pos c8] at H
                rw [if_pos KK.out.2.2.1] at H
                by_cases c9 : c < ((rd_L1 (swapB rows piv.length a.toNat) (piv.length : Int)).length : Int)
                case neg => rw [if_neg c9] at H; exact absurd H (by simp)
                rw [if_pos c9] at H
                replace H := Option.bind_eq_some_iff.mp H
                obtain ⟨inv, At, H⟩ := H
                have B3 := Aside0.mk At
                clear At
                replace H := Option.bind_eq_some_iff.mp H
                obtain ⟨r, At, H⟩ := H
                have B4 := Aside0.mk At
                clear At
                replace H := Option.bind_eq_some_iff.mp H
                obtain ⟨rows2, At, H⟩ := H
                have B5 := Aside0.mk At
                clear At
                by_cases c10 : piv.length < 17592186044416
                case neg => rw [if_neg c10] at H; exact absurd H (by simp)
                rw [if_pos c10] at H
                have H' := Aside0.mk H
                clear H
                have C8 := Aside0.mk c8
                have C9 := Aside0.mk c9
                have C10 := Aside0.mk c10
                have a7b : decide ((piv.length : Int) < (n0 : Int)) = true := decide_eq_true (by have := hcnt.out; omega)
                have a7c := eq_true (show (piv.length : Int) < (n0 : Int) by have := hcnt.out; omega)
                have a7d := eq_true (show piv.length < n0 by have := hcnt.out; omega)
                have a7e := eq_true (show (0 : Int) ≤ (piv.length : Int) by omega)
                clear c8 c9 c10
                go_wp2
                obtain ⟨un, hun, hrn⟩ := E.out.mx.rd_ (piv.length : Int) (by omega) C8.out
                simp only [Int.toNat_natCast] at hun hrn
                obtain ⟨An, cn, en, _, _⟩ := E.out.mx.rslice hun hrn
                subst en
                have HN := Aside0.mk (And.intro hun hrn)
                clear hun hrn hx hy
                have E1 := Aside0.mk E.out.drew
                have P1 := Aside0.mk (Kd.R_drew P.out)
                clear E P
                refine start_ (n := 16) (S := fun w' => w'.cell? ⟨g, a.toNat, none⟩ = some (.slice (some ⟨b, 0, none⟩) (rd_L1 rows a).length cb) ∧ w'.cell? ⟨g, piv.length, none⟩ = some (.slice An (rd_L1 rows (piv.length : Int)).length cn)) (ds := [13, 15]) #[false, false, false, false, false, false, false, false, false, false, false, false, false, false, false, false] (by kernel_rfl) rfl rfl ⟨(E1.out.mx.cell HUR.out.1).1, (E1.out.mx.cell HN.out.1).1⟩ (fun hHeld => ?_)
                generalize wr.drew = w5 at E1 P1 hHeld ⊢
                have hs1 := E1.out.mx.cell HN.out.1
                obtain ⟨hs1, hs2⟩ := hs1
                obtain ⟨vb, hs3⟩ := cell?_setCell_some (w := w5) (p := ⟨g, piv.length, none⟩) (x := (.slice (some ⟨b, 0, none⟩) (rd_L1 rows a).length cb)) (q := ⟨g, a.toNat, none⟩) (E1.out.mx.cell HUR.out.1).1
                have hs4 : (w5.setCell ⟨g, piv.length, none⟩ (.slice (some ⟨b, 0, none⟩) (rd_L1 rows a).length cb)).frozen? ⟨g, a.toNat, none⟩ = false := (frozen_set _ _ _ _).trans (E1.out.mx.cell HUR.out.1).2
                refine pure_ (i := 0) (N := some 43) (v := ?_) (a' := ?_) #[true, false, false, false, false, false, false, false, false, false, false, false, false, false, false, false] rfl rfl (by kernel_rfl) (fun _ _ _ h => h) (Or.inl ⟨by rfl, ?_⟩) ?_ ?_
                rotate_left
                · intro w'
                  first | (go_simp; with_reducible rfl) | (simp [go_sem, Instr.field, asAgg] <;> with_reducible rfl)
                rotate_left
                · simp only [Act.put, List.setIfInBounds_toArray, List.set_cons_zero, List.set_cons_succ, i64_w, i32_w]
                  rfl
                refine pure_ (i := 1) (N := some 44) (v := ?_) (a' := ?_) #[true, true, false, false, false, false, false, false, false, false, false, false, false, false, false, false] rfl rfl (by kernel_rfl) (fun _ _ _ h => h) (Or.inl ⟨by rfl, ?_⟩) ?_ ?_
                rotate_left
                · intro w'
                  first | (go_simp; with_reducible rfl) | (simp [go_sem, Instr.field, asAgg] <;> with_reducible rfl)
                rotate_left
                · simp only [Act.put, List.setIfInBounds_toArray, List.set_cons_zero, List.set_cons_succ, i64_w, i32_w]
                  rfl
                refine pure_ (i := 2) (N := some 45) (v := ?_) (a' := ?_) #[true, true, true, false, false, false, false, false, false, false, false, false, false, false, false, false] rfl rfl (by kernel_rfl) (fun _ _ _ h => h) (Or.inl ⟨by rfl, ?_⟩) ?_ ?_
                rotate_left
                · intro w'
                  first | (go_simp; with_reducible rfl) | (simp [go_sem, Instr.field, asAgg] <;> with_reducible rfl)
                rotate_left
                · simp only [Act.put, List.setIfInBounds_toArray, List.set_cons_zero, List.set_cons_succ, i64_w, i32_w]
                  rfl
                refine pure_ (i := 3) (N := some 46) (v := ?_) (a' := ?_) #[true, true, true, true, false, false, false, false, false, false, false, false, false, false, false, false] rfl rfl (by kernel_rfl) (fun _ _ _ h => h) (Or.inl ⟨by rfl, ?_⟩) ?_ ?_
                rotate_left
                · intro w'
                  first | (go_simp; with_reducible rfl) | (simp [go_sem, Instr.field, asAgg] <;> with_reducible rfl)
                rotate_left
                · simp only [Act.put, List.setIfInBounds_toArray, List.set_cons_zero, List.set_cons_succ, i64_w, i32_w]
                  rfl
                refine pure_ (i := 4) (N := some 47) (v := ?_) (a' := ?_) #[true, true, true, true, true, false, false, false, false, false, false, false, false, false, false, false] rfl rfl (by kernel_rfl) (fun _ _ _ h => h) (Or.inl ⟨by rfl, ?_⟩) ?_ ?_
                rotate_left
                · intro w'
                  first | (go_simp; with_reducible rfl) | (simp [go_sem, Instr.field, asAgg] <;> with_reducible rfl)
                rotate_left
                · simp only [Act.put, List.setIfInBounds_toArray, List.set_cons_zero, List.set_cons_succ, i64_w, i32_w]
                  rfl
                refine pure_ (i := 5) (N := some 48) (v := ?_) (a' := ?_) #[true, true, true, true, true, true, false, false, false, false, false, false, false, false, false, false] rfl rfl (by kernel_rfl) (fun _ _ _ h => h) (Or.inl ⟨by rfl, ?_⟩) ?_ ?_
                rotate_left
                · intro w'
                  first | (go_simp; with_reducible rfl) | (simp [go_sem, Instr.field, asAgg] <;> with_reducible rfl)
                rotate_left
                · simp only [Act.put, List.setIfInBounds_toArray, List.set_cons_zero, List.set_cons_succ, i64_w, i32_w]
                  rfl
                refine pure_ (i := 6) (N := some 49) (v := ?_) (a' := ?_) #[true, true, true, true, true, true, true, false, false, false, false, false, false, false, false, false] rfl rfl (by kernel_rfl) (fun _ _ _ h => h) (Or.inl ⟨by rfl, ?_⟩) ?_ ?_
                rotate_left
                · intro w'
                  first | (go_simp; with_reducible rfl) | (simp [go_sem, Instr.field, asAgg] <;> with_reducible rfl)
                rotate_left
                · simp only [Act.put, List.setIfInBounds_toArray, List.set_cons_zero, List.set_cons_succ, i64_w, i32_w]
                  rfl
                refine pure_ (i := 8) (N := some 51) (v := ?_) (a' := ?_) #[true, true, true, true, true, true, true, false, true, false, false, false, false, false, false, false] rfl rfl (by kernel_rfl) (fun _ _ _ h => h) (Or.inl ⟨by rfl, ?_⟩) ?_ ?_
                rotate_left
                · intro w'
                  first | (go_simp; with_reducible rfl) | (simp [go_sem, Instr.field, asAgg] <;> with_reducible rfl)
                rotate_left
                · simp only [Act.put, List.setIfInBounds_toArray, List.set_cons_zero, List.set_cons_succ, i64_w, i32_w]
                  rfl
                refine pure_ (i := 9) (N := some 52) (v := ?_) (a' := ?_) #[true, true, true, true, true, true, true, false, true, true, false, false, false, false, false, false] rfl rfl (by kernel_rfl) (fun _ _ _ h => h) (Or.inl ⟨by rfl, ?_⟩) ?_ ?_
                rotate_left
                · intro w'
                  first | (go_simp; with_reducible rfl) | (simp [go_sem, Instr.field, asAgg] <;> with_reducible rfl)
                rotate_left
                · simp only [Act.put, List.setIfInBounds_toArray, List.set_cons_zero, List.set_cons_succ, i64_w, i32_w]
                  rfl
                refine pure_ (i := 10) (N := some 53) (v := ?_) (a' := ?_) #[true, true, true, true, true, true, true, false, true, true, true, false, false, false, false, false] rfl rfl (by kernel_rfl) (fun _ _ _ h => h) (Or.inl ⟨by rfl, ?_⟩) ?_ ?_
                rotate_left
                · intro w'
                  first | (go_simp; with_reducible rfl) | (simp [go_sem, Instr.field, asAgg] <;> with_reducible rfl)
                rotate_left
                · simp only [Act.put, List.setIfInBounds_toArray, List.set_cons_zero, List.set_cons_succ, i64_w, i32_w]
                  rfl
                refine take_ (i := 7) (N := some 50) (v := ?_) (a' := ?_) #[true, true, true, true, true, true, true, true, true, true, true, false, false, false, false, false] rfl rfl (by kernel_rfl) (fun _ _ _ h => h) (Or.inl ⟨by rfl, ?_⟩) hHeld ?_ ?_
                rotate_left
                · rintro w' ⟨s0, s1⟩
                  go_simp
                  with_reducible rfl
                rotate_left
                · simp only [Act.put, List.setIfInBounds_toArray, List.set_cons_zero, List.set_cons_succ, i64_w, i32_w]
                  rfl
                refine take_ (i := 11) (N := some 54) (v := ?_) (a' := ?_) #[true, true, true, true, true, true, true, true, true, true, true, true, false, false, false, false] rfl rfl (by kernel_rfl) (fun _ _ _ h => h) (Or.inl ⟨by rfl, ?_⟩) hHeld ?_ ?_
                rotate_left
                · rintro w' ⟨s0, s1⟩
                  go_simp
                  with_reducible rfl
                rotate_left
                · simp only [Act.put, List.setIfInBounds_toArray, List.set_cons_zero, List.set_cons_succ, i64_w, i32_w]
                  rfl
                refine pure_ (i := 12) (N := some 55) (v := ?_) (a' := ?_) #[true, true, true, true, true, true, true, true, true, true, true, true, true, false, false, false] rfl rfl (by kernel_rfl) (fun _ _ _ h => h) (Or.inl ⟨by rfl, ?_⟩) ?_ ?_
                rotate_left
                · intro w'
                  first | (go_simp; with_reducible rfl) | (simp [go_sem, Instr.field, asAgg] <;> with_reducible rfl)
                rotate_left
                · simp only [Act.put, List.setIfInBounds_toArray, List.set_cons_zero, List.set_cons_succ, i64_w, i32_w]
                  rfl
                refine last_ (i := 13) (N := none) #[true, true, true, true, true, true, true, true, true, true, true, true, true, true, false, false] rfl rfl (by kernel_rfl) (by decide) (fun K hK => ?_)
                refine skip_ (w1 := ?_) (by rfl) rfl ?_ ?_
                rotate_left
                · go_simp
                  rfl
                refine hK.out _ _ ?_
                clear hK K
                refine pure_ (i := 14) (N := some 56) (v := ?_) (a' := ?_) #[true, true, true, true, true, true, true, true, true, true, true, true, true, true, true, false] rfl rfl (by kernel_rfl) (fun _ _ _ h => h) (Or.inl ⟨by rfl, ?_⟩) ?_ ?_
                rotate_left
                · intro w'
                  first | (go_simp; with_reducible rfl) | (simp [go_sem, Instr.field, asAgg] <;> with_reducible rfl)
                rotate_left
                · simp only [Act.put, List.setIfInBounds_toArray, List.set_cons_zero, List.set_cons_succ, i64_w, i32_w]
                  rfl
                refine last_ (i := 15) (N := none) #[true, true, true, true, true, true, true, true, true, true, true, true, true, true, true, true] rfl rfl (by kernel_rfl) (by decide) (fun K hK => ?_)
                refine skip_ (w1 := ?_) (by rfl) rfl ?_ ?_
                rotate_left
                · go_simp
                  rfl
                refine hK.out _ _ ?_
                clear hK K
                refine done_ (by kernel_rfl) ?_
                clear hs1 hs2 hs3 hs4 hHeld
                have E2 := Aside0.mk (E1.out.swap HN.out.1 HUR.out.1 HN.out.2 HUR.out.2)
                have es : (rows.set piv.length (rd_L1 rows a)).set a.toNat (rd_L1 rows (piv.length : Int)) = (swapB rows piv.length a.toNat) := by unfold swapB; rw [Int.toNat_of_nonneg KK.out.2.1]
                rw [es] at E2
                have P2 := Aside0.mk (R_aside2 (g := g) (i := piv.length) (j := a.toNat) (a := (.slice (some ⟨b, 0, none⟩) (rd_L1 rows a).length cb)) (b := (.slice An (rd_L1 rows (piv.length : Int)).length cn)) P1.out G.out.2.1)
                generalize (vs.set piv.length (.slice (some ⟨b, 0, none⟩) (rd_L1 rows a).length cb)).set a.toNat (.slice An (rd_L1 rows (piv.length : Int)).length cn) = vs2 at E2
                generalize (w5.setCell ⟨g, piv.length, none⟩ (.slice (some ⟨b, 0, none⟩) (rd_L1 rows a).length cb)).setCell ⟨g, a.toNat, none⟩ (.slice An (rd_L1 rows (piv.length : Int)).length cn) = w6 at E2 P2 ⊢
                clear E1 P1 HN HUR es
                have hls := Aside0.mk (E2.out.mx.count.1)
                (try go_wp2)
                obtain ⟨un2, hun2, hrn2⟩ := E2.out.mx.rd_ (piv.length : Int) (by omega) (by have := C8.out; have := hls.out; have := hcnt.out; omega)
                simp only [Int.toNat_natCast] at hun2 hrn2
                obtain ⟨b2, cb2, e, b21, b22, _⟩ := E2.out.mx.get hun2 hrn2 c KK.out.2.2.1 C9.out
                subst e
                have HN := Aside0.mk (And.intro hun2 hrn2)
                clear hun2 hrn2
                have a8b : decide (c < ((rd_L1 (swapB rows piv.length a.toNat) (piv.length : Int)).length : Int)) = true := decide_eq_true C9.out
                have a8c := eq_true C9.out
                have E3 := Aside0.mk E2.out.drew
                have P3 := Aside0.mk (Kd.R_drew P2.out)
                clear E2 P2
                refine start_ (n := 17) (S := fun w' => w'.cell? ⟨w.heap.size, 0, none⟩ = some (.int .i64 a0_0) ∧ w'.cell? ⟨g, piv.length, none⟩ = some (.slice (some ⟨b2, 0, none⟩) (rd_L1 (swapB rows piv.length a.toNat) (piv.length : Int)).length cb2) ∧ w'.cell? ⟨b2, c.toNat, none⟩ = some (.int .i64 (rd (rd_L1 (swapB rows piv.length a.toNat) (piv.length : Int)) c))) (ds := [16]) #[false, false, false, false, false, false, false, false, false, false, false, false, false, false, false, false, false] (by kernel_rfl) rfl rfl ⟨(blk_cell (E3.out.box (b := w.heap.size) (o := .cells #[.int .i64 a0_0, .int .i64 a0_1, .slice A0_2 l0_2.length c0_2] 26 (0, 0)) (by simp)) 0).trans rfl, (E3.out.mx.cell HN.out.1).1, E3.out.mx.num HN.out.1 HN.out.2 c KK.out.2.2.1 C9.out⟩ (fun hHeld => ?_)
                generalize w6.drew = w7 at E3 P3 hHeld ⊢
                refine pure_ (i := 0) (N := some 57) (v := ?_) (a' := ?_) #[true, false, false, false, false, false, false, false, false, false, false, false, false, false, false, false, false] rfl rfl (by kernel_rfl) (fun _ _ _ h => h) (Or.inl ⟨by rfl, ?_⟩) ?_ ?_
                rotate_left
                · intro w'
                  first | (go_simp; with_reducible rfl) | (simp [go_sem, Instr.field, asAgg] <;> with_reducible rfl)
                rotate_left
                · simp only [Act.put, List.setIfInBounds_toArray, List.set_cons_zero, List.set_cons_succ, i64_w, i32_w]
                  rfl
                refine pure_ (i := 2) (N := some 59) (v := ?_) (a' := ?_) #[true, false, true, false, false, false, false, false, false, false, false, false, false, false, false, false, false] rfl rfl (by kernel_rfl) (fun _ _ _ h => h) (Or.inl ⟨by rfl, ?_⟩) ?_ ?_
                rotate_left
                · intro w'
                  first | (go_simp; with_reducible rfl) | (simp [go_sem, Instr.field, asAgg] <;> with_reducible rfl)
                rotate_left
                · simp only [Act.put, List.setIfInBounds_toArray, List.set_cons_zero, List.set_cons_succ, i64_w, i32_w]
                  rfl
                refine pure_ (i := 3) (N := some 60) (v := ?_) (a' := ?_) #[true, false, true, true, false, false, false, false, false, false, false, false, false, false, false, false, false] rfl rfl (by kernel_rfl) (fun _ _ _ h => h) (Or.inl ⟨by rfl, ?_⟩) ?_ ?_
                rotate_left
                · intro w'
                  first | (go_simp; with_reducible rfl) | (simp [go_sem, Instr.field, asAgg] <;> with_reducible rfl)
                rotate_left
                · simp only [Act.put, List.setIfInBounds_toArray, List.set_cons_zero, List.set_cons_succ, i64_w, i32_w]
                  rfl
                refine pure_ (i := 4) (N := some 61) (v := ?_) (a' := ?_) #[true, false, true, true, true, false, false, false, false, false, false, false, false, false, false, false, false] rfl rfl (by kernel_rfl) (fun _ _ _ h => h) (Or.inl ⟨by rfl, ?_⟩) ?_ ?_
                rotate_left
                · intro w'
                  first | (go_simp; with_reducible rfl) | (simp [go_sem, Instr.field, asAgg] <;> with_reducible rfl)
                rotate_left
                · simp only [Act.put, List.setIfInBounds_toArray, List.set_cons_zero, List.set_cons_succ, i64_w, i32_w]
                  rfl
                refine pure_ (i := 6) (N := some 63) (v := ?_) (a' := ?_) #[true, false, true, true, true, false, true, false, false, false, false, false, false, false, false, false, false] rfl rfl (by kernel_rfl) (fun _ _ _ h => h) (Or.inl ⟨by rfl, ?_⟩) ?_ ?_
                rotate_left
                · intro w'
                  first | (go_simp; with_reducible rfl) | (simp [go_sem, Instr.field, asAgg] <;> with_reducible rfl)
                rotate_left
                · simp only [Act.put, List.setIfInBounds_toArray, List.set_cons_zero, List.set_cons_succ, i64_w, i32_w]
                  rfl
                refine pure_ (i := 8) (N := some 65) (v := ?_) (a' := ?_) #[true, false, true, true, true, false, true, false, true, false, false, false, false, false, false, false, false] rfl rfl (by kernel_rfl) (fun _ _ _ h => h) (Or.inl ⟨by rfl, ?_⟩) ?_ ?_
                rotate_left
                · intro w'
                  first | (go_simp; with_reducible rfl) | (simp [go_sem, Instr.field, asAgg] <;> with_reducible rfl)
                rotate_left
                · simp only [Act.put, List.setIfInBounds_toArray, List.set_cons_zero, List.set_cons_succ, i64_w, i32_w]
                  rfl
                refine pure_ (i := 9) (N := some 66) (v := ?_) (a' := ?_) #[true, false, true, true, true, false, true, false, true, true, false, false, false, false, false, false, false] rfl rfl (by kernel_rfl) (fun _ _ _ h => h) (Or.inl ⟨by rfl, ?_⟩) ?_ ?_
                rotate_left
                · intro w'
                  first | (go_simp; with_reducible rfl) | (simp [go_sem, Instr.field, asAgg] <;> with_reducible rfl)
                rotate_left
                · simp only [Act.put, List.setIfInBounds_toArray, List.set_cons_zero, List.set_cons_succ, i64_w, i32_w]
                  rfl
                refine pure_ (i := 10) (N := some 67) (v := ?_) (a' := ?_) #[true, false, true, true, true, false, true, false, true, true, true, false, false, false, false, false, false] rfl rfl (by kernel_rfl) (fun _ _ _ h => h) (Or.inl ⟨by rfl, ?_⟩) ?_ ?_
                rotate_left
                · intro w'
                  first | (go_simp; with_reducible rfl) | (simp [go_sem, Instr.field, asAgg] <;> with_reducible rfl)
                rotate_left
                · simp only [Act.put, List.setIfInBounds_toArray, List.set_cons_zero, List.set_cons_succ, i64_w, i32_w]
                  rfl
                refine pure_ (i := 12) (N := some 69) (v := ?_) (a' := ?_) #[true, false, true, true, true, false, true, false, true, true, true, false, true, false, false, false, false] rfl rfl (by kernel_rfl) (fun _ _ _ h => h) (Or.inl ⟨by rfl, ?_⟩) ?_ ?_
                rotate_left
                · intro w'
                  first | (go_simp; with_reducible rfl) | (simp [go_sem, Instr.field, asAgg] <;> with_reducible rfl)
                rotate_left
                · simp only [Act.put, List.setIfInBounds_toArray, List.set_cons_zero, List.set_cons_succ, i64_w, i32_w]
                  rfl
                refine take_ (i := 1) (N := some 58) (v := ?_) (a' := ?_) #[true, true, true, true, true, false, true, false, true, true, true, false, true, false, false, false, false] rfl rfl (by kernel_rfl) (fun _ _ _ h => h) (Or.inl ⟨by rfl, ?_⟩) hHeld ?_ ?_
                rotate_left
                · rintro w' ⟨s0, s1, s2⟩
                  go_simp
                  with_reducible rfl
                rotate_left
                · simp only [Act.put, List.setIfInBounds_toArray, List.set_cons_zero, List.set_cons_succ, i64_w, i32_w]
                  rfl
                refine take_ (i := 5) (N := some 62) (v := ?_) (a' := ?_) #[true, true, true, true, true, true, true, false, true, true, true, false, true, false, false, false, false] rfl rfl (by kernel_rfl) (fun _ _ _ h => h) (Or.inl ⟨by rfl, ?_⟩) hHeld ?_ ?_
                rotate_left
                · rintro w' ⟨s0, s1, s2⟩
                  go_simp
                  with_reducible rfl
                rotate_left
                · simp only [Act.put, List.setIfInBounds_toArray, List.set_cons_zero, List.set_cons_succ, i64_w, i32_w]
                  rfl
                refine take_ (i := 7) (N := some 64) (v := ?_) (a' := ?_) #[true, true, true, true, true, true, true, true, true, true, true, false, true, false, false, false, false] rfl rfl (by kernel_rfl) (fun _ _ _ h => h) (Or.inl ⟨by rfl, ?_⟩) hHeld ?_ ?_
                rotate_left
                · rintro w' ⟨s0, s1, s2⟩
                  go_simp
                  with_reducible rfl
                rotate_left
                · simp only [Act.put, List.setIfInBounds_toArray, List.set_cons_zero, List.set_cons_succ, i64_w, i32_w]
                  rfl
                refine take_ (i := 11) (N := some 68) (v := ?_) (a' := ?_) #[true, true, true, true, true, true, true, true, true, true, true, true, true, false, false, false, false] rfl rfl (by kernel_rfl) (fun _ _ _ h => h) (Or.inl ⟨by rfl, ?_⟩) hHeld ?_ ?_
                rotate_left
                · rintro w' ⟨s0, s1, s2⟩
                  go_simp
                  with_reducible rfl
                rotate_left
                · simp only [Act.put, List.setIfInBounds_toArray, List.set_cons_zero, List.set_cons_succ, i64_w, i32_w]
                  rfl
                refine pure_ (i := 13) (N := some 70) (v := ?_) (a' := ?_) #[true, true, true, true, true, true, true, true, true, true, true, true, true, true, false, false, false] rfl rfl (by kernel_rfl) (fun _ _ _ h => h) (Or.inl ⟨by rfl, ?_⟩) ?_ ?_
                rotate_left
                · intro w'
                  first | (go_simp; with_reducible rfl) | (simp [go_sem, Instr.field, asAgg] <;> with_reducible rfl)
                rotate_left
                · simp only [Act.put, List.setIfInBounds_toArray, List.set_cons_zero, List.set_cons_succ, i64_w, i32_w]
                  rfl
                refine take_ (i := 14) (N := some 71) (v := ?_) (a' := ?_) #[true, true, true, true, true, true, true, true, true, true, true, true, true, true, true, false, false] rfl rfl (by kernel_rfl) (fun _ _ _ h => h) (Or.inl ⟨by rfl, ?_⟩) hHeld ?_ ?_
                rotate_left
                · rintro w' ⟨s0, s1, s2⟩
                  go_simp
                  with_reducible rfl
                rotate_left
                · simp only [Act.put, List.setIfInBounds_toArray, List.set_cons_zero, List.set_cons_succ, i64_w, i32_w]
                  rfl
                refine one_ (i := 15) (N := some 72) #[true, true, true, true, true, true, true, true, true, true, true, true, true, true, true, true, false] rfl rfl (by kernel_rfl) (by decide) (fun K hK => ?_)
                refine goes_ Try.func70 (by kernel_rfl) rfl #[.int .i64 a0_0, .int .i64 (rd (rd_L1 (swapB rows piv.length a.toNat) (piv.length : Int)) c)] (by rfl) rfl rfl (by simp only [List.map_toArray, List.map_cons, List.map_nil]; rfl) ?_
                with_reducible refine (impl_inverse.calls k1 a0_0 (rd (rd_L1 (swapB rows piv.length a.toNat) (piv.length : Int)) c) inv _ B3.out).mono ?_
                rintro e w8 ⟨rfl, hd⟩
                refine ⟨_, rfl, ?_⟩
                have E4 := Aside0.mk (E3.out.below hd.below)
                have P4 := Aside0.mk (Kd.R_below P3.out hd.below)
                clear E3 P3 hd
                refine hK.out _ _ ⟨(blk_cell (E4.out.box (b := w.heap.size) (o := .cells #[.int .i64 a0_0, .int .i64 a0_1, .slice A0_2 l0_2.length c0_2] 26 (0, 0)) (by simp)) 0).trans rfl, (E4.out.mx.cell HN.out.1).1, E4.out.mx.num HN.out.1 HN.out.2 c KK.out.2.2.1 C9.out⟩ (fun hHeld => ?_)
                clear hK K
                refine norm_ (a' := ?_) ?_ ?_
                rotate_left
                · show Act.put _ (some 72) _ = _
                  simp only [Act.put, List.setIfInBounds_toArray, List.set_cons_zero, List.set_cons_succ, i64_w, i32_w]
                  rfl
                refine last_ (i := 16) (N := some 73) #[true, true, true, true, true, true, true, true, true, true, true, true, true, true, true, true, true] rfl rfl (by kernel_rfl) (by decide) (fun K hK => ?_)
                refine goes_ Try.func69 (by kernel_rfl) rfl #[.int .i64 a0_0, (.slice (some ⟨b2, 0, none⟩) (rd_L1 (swapB rows piv.length a.toNat) (piv.length : Int)).length cb2), .int .i64 inv] (by rfl) rfl rfl (by simp only [List.map_toArray, List.map_cons, List.map_nil]; rfl) ?_
                with_reducible refine (impl_scaled.calls k1 a0_0 (fun k_ => some k_ = ((.slice (some ⟨b2, 0, none⟩) (rd_L1 (swapB rows piv.length a.toNat) (piv.length : Int)).length cb2) : Value).ownBlock ∧ w.heap.size + 2 ≤ k_ ∧ k_ < hi) (.slice (some ⟨b2, 0, none⟩) (rd_L1 (swapB rows piv.length a.toNat) (piv.length : Int)).length cb2) (rd_L1 (swapB rows piv.length a.toNat) (piv.length : Int)) inv r w _ E4.out.be (E4.out.mx.row _ _ _ HN.out.1 HN.out.2) B4.out).mono ?_
                rintro e w9 ⟨rfl, hR, hBw, hK⟩
                refine ⟨_, rfl, ?_⟩
                have E5 := Aside0.mk (E4.out.put HN.out.1 HN.out.2 hR hK hBw)
                have P5 := Aside0.mk (R_aside P4.out (Nat.le_refl _) hK)
                clear E4 P4 hR hBw hK
                refine hK.out _ _ ?_
                clear hK K
                refine norm_ (a' := ?_) ?_ ?_
                rotate_left
                · show Act.put _ (some 73) _ = _
                  simp only [Act.put, List.setIfInBounds_toArray, List.set_cons_zero, List.set_cons_succ, i64_w, i32_w]
                  rfl
                refine done_ (by kernel_rfl) ?_
                clear hHeld HN a8b a8c
                generalize (swapB rows piv.length a.toNat).set piv.length r = rz at E5 B5
                (try go_wp2)
                go_loopg [76] k1 (fun kq v76 w' => ∃ (i : Int) (rx : List (List Int)), v76 = .int .i64 i ∧ Aside0 (impl_Matrix_echelon.l2 kq a0_0 c (piv.length : Int) rx i = some rows2) ∧ Aside0 (kq ≤ k1) ∧ Aside0 (Mw w w' (w.heap.size + 2) hi hi ([(w.heap.size, .cells #[.int .i64 a0_0, .int .i64 a0_1, .slice A0_2 l0_2.length c0_2] 26 (0, 0)), (w.heap.size + 1, .cells #[(.int .i64 0 : Value), (.int .i64 0 : Value), (.slice none 0 0 : Value)] 26 (0, 0))]) (.slice (some ⟨g, 0, none⟩) n0 c1) vs2 rx) ∧ Aside0 (Kd.R (Kd.int .i64) 3 w' w.heap.size (fun k_ => hi ≤ k_) (.slice A5 piv.length c5) piv))
                case atStart => exact ⟨0, rz, rfl, B5, ⟨Nat.le_refl _⟩, E5, P5⟩
                case round =>
                  clear B5 E5 P5
                  obtain ⟨i, rx, rfl, HA, HK3, E, P⟩ := hrel
                  have hct := Aside0.mk E.out.mx.count.1
                  cases gk with
                  | zero => exact absurd HA.out (by simp [impl_Matrix_echelon.l2])
                  | succ k3 =>
                    have H := HA.out
                    clear HA
                    simp only [impl_Matrix_echelon.l2] at H
                    by_cases d1 : i < (rx.length : Int)
                    · rw [if_pos d1] at H
                      by_cases d2 : 0 ≤ i
                      case neg => rw [if_neg d2] at H; exact absurd H (by simp)
                      rw [if_pos d2] at H
                      obtain ⟨u, hu, hr⟩ := E.out.mx.rd_ i d2 d1
                      obtain ⟨Au, cu, eu, _, _⟩ := E.out.mx.rslice hu hr
                      subst eu
                      have hy := (E.out.mx.cell hu).1
                      have d1b : decide (i < (n0 : Int)) = true := decide_eq_true (by have := hct.out; omega)
                      have d1c := eq_true (show i < (n0 : Int) by have := hct.out; omega)
                      have d2b : decide (0 ≤ i) = true := decide_eq_true d2
                      have HU := Aside0.mk (And.intro hu hr)
                      have HI := Aside0.mk (And.intro d1 d2)
                      clear hu hr d1
                      replace d2 := eq_true d2
                      by_cases d3 : i = (piv.length : Int)
                      · rw [if_pos d3] at H
                        have d3b : (i == (piv.length : Int)) = true := beq_iff_eq.mpr d3
                        have d3c : (i != (piv.length : Int)) = false := by rw [bne, d3b]; rfl
                        replace d3 := Aside0.mk d3
                        have H' := Aside0.mk H
                        clear H
                        go_wp2
                        go_roundg k3
                        case measure => have := HK1.out; have := HK2.out; have := HK3.out; omega
                        case rel => exact ⟨_, rx, rfl, H', ⟨by have := HK3.out; omega⟩, E, P⟩
                      · rw [if_neg d3] at H
                        have d3b : (i == (piv.length : Int)) = false := beq_eq_false_iff_ne.mpr d3
                        have d3c : (i != (piv.length : Int)) = true := bne_iff_ne.mpr d3
                        have D3 := Aside0.mk d3
                        clear d3
                        by_cases d4 : 0 ≤ (piv.length : Int)
                        case neg => rw [if_neg d4] at H; exact absurd H (by simp)
                        rw [if_pos d4] at H
                        by_cases d5 : (piv.length : Int) < (rx.length : Int)
                        case neg => rw [if_neg d5] at H; exact absurd H (by simp)
                        rw [if_pos d5] at H
                        rw [if_pos KK.out.2.2.1] at H
                        by_cases d6 : c < ((rd_L1 rx i).length : Int)
                        case neg => rw [if_neg d6] at H; exact absurd H (by simp)
                        rw [if_pos d6] at H
                        replace H := Option.bind_eq_some_iff.mp H
                        obtain ⟨q, At, H⟩ := H
                        have B6 := Aside0.mk At
                        clear At
                        have H' := Aside0.mk H
                        clear H
                        obtain ⟨bu, cb2, e, _, _, _⟩ := E.out.mx.get HU.out.1 HU.out.2 c KK.out.2.2.1 d6
                        injection e with e1 _ e3
                        subst e1
                        subst e3
                        obtain ⟨un, hun, hrn⟩ := E.out.mx.rd_ (piv.length : Int) d4 d5
                        simp only [Int.toNat_natCast] at hun hrn
                        obtain ⟨Am, cm, em, hcm, _⟩ := E.out.mx.rslice hun hrn
                        subst em
                        have HN := Aside0.mk (And.intro hun (And.intro hrn hcm))
                        clear hun hrn hcm
                        have d6b : decide (c < ((rd_L1 rx i).length : Int)) = true := decide_eq_true d6
                        have D6 := Aside0.mk d6
                        replace d6 := eq_true d6
                        clear d4 d5
                        go_wp2
                        have E6 := Aside0.mk E.out.drew
                        have P6 := Aside0.mk (Kd.R_drew P.out)
                        clear E P hy
                        refine start_ (n := 12) (S := fun w' => w'.cell? ⟨w.heap.size, 0, none⟩ = some (.int .i64 a0_0) ∧ w'.cell? ⟨g, piv.length, none⟩ = some (.slice Am (rd_L1 rx (piv.length : Int)).length cm) ∧ w'.cell? ⟨bu, c.toNat, none⟩ = some (.int .i64 (rd (rd_L1 rx i) c))) (ds := [11]) #[false, false, false, false, false, false, false, false, false, false, false, false] (by kernel_rfl) rfl rfl ⟨(blk_cell (E6.out.box (b := w.heap.size) (o := .cells #[.int .i64 a0_0, .int .i64 a0_1, .slice A0_2 l0_2.length c0_2] 26 (0, 0)) (by simp)) 0).trans rfl, (E6.out.mx.cell HN.out.1).1, E6.out.mx.num HU.out.1 HU.out.2 c KK.out.2.2.1 D6.out⟩ (fun hHeld => ?_)
                        generalize wr.drew = w8 at E6 P6 hHeld ⊢
                        refine pure_ (i := 0) (N := some 84) (v := ?_) (a' := ?_) #[true, false, false, false, false, false, false, false, false, false, false, false] rfl rfl (by kernel_rfl) (fun _ _ _ h => h) (Or.inl ⟨by rfl, ?_⟩) ?_ ?_
                        rotate_left
                        · intro w'
                          first | (go_simp; with_reducible rfl) | (simp [go_sem, Instr.field, asAgg] <;> with_reducible rfl)
                        rotate_left
                        · simp only [Act.put, List.setIfInBounds_toArray, List.set_cons_zero, List.set_cons_succ, i64_w, i32_w]
                          rfl
                        refine pure_ (i := 2) (N := some 86) (v := ?_) (a' := ?_) #[true, false, true, false, false, false, false, false, false, false, false, false] rfl rfl (by kernel_rfl) (fun _ _ _ h => h) (Or.inl ⟨by rfl, ?_⟩) ?_ ?_
                        rotate_left
                        · intro w'
                          first | (go_simp; with_reducible rfl) | (simp [go_sem, Instr.field, asAgg] <;> with_reducible rfl)
                        rotate_left
                        · simp only [Act.put, List.setIfInBounds_toArray, List.set_cons_zero, List.set_cons_succ, i64_w, i32_w]
                          rfl
                        refine pure_ (i := 3) (N := some 87) (v := ?_) (a' := ?_) #[true, false, true, true, false, false, false, false, false, false, false, false] rfl rfl (by kernel_rfl) (fun _ _ _ h => h) (Or.inl ⟨by rfl, ?_⟩) ?_ ?_
                        rotate_left
                        · intro w'
                          first | (go_simp; with_reducible rfl) | (simp [go_sem, Instr.field, asAgg] <;> with_reducible rfl)
                        rotate_left
                        · simp only [Act.put, List.setIfInBounds_toArray, List.set_cons_zero, List.set_cons_succ, i64_w, i32_w]
                          rfl
                        refine pure_ (i := 4) (N := some 88) (v := ?_) (a' := ?_) #[true, false, true, true, true, false, false, false, false, false, false, false] rfl rfl (by kernel_rfl) (fun _ _ _ h => h) (Or.inl ⟨by rfl, ?_⟩) ?_ ?_
                        rotate_left
                        · intro w'
                          first | (go_simp; with_reducible rfl) | (simp [go_sem, Instr.field, asAgg] <;> with_reducible rfl)
                        rotate_left
                        · simp only [Act.put, List.setIfInBounds_toArray, List.set_cons_zero, List.set_cons_succ, i64_w, i32_w]
                          rfl
                        refine pure_ (i := 5) (N := some 89) (v := ?_) (a' := ?_) #[true, false, true, true, true, true, false, false, false, false, false, false] rfl rfl (by kernel_rfl) (fun _ _ _ h => h) (Or.inl ⟨by rfl, ?_⟩) ?_ ?_
                        rotate_left
                        · intro w'
                          first | (go_simp; with_reducible rfl) | (simp [go_sem, Instr.field, asAgg] <;> with_reducible rfl)
                        rotate_left
                        · simp only [Act.put, List.setIfInBounds_toArray, List.set_cons_zero, List.set_cons_succ, i64_w, i32_w]
                          rfl
                        refine pure_ (i := 7) (N := some 91) (v := ?_) (a' := ?_) #[true, false, true, true, true, true, false, true, false, false, false, false] rfl rfl (by kernel_rfl) (fun _ _ _ h => h) (Or.inl ⟨by rfl, ?_⟩) ?_ ?_
                        rotate_left
                        · intro w'
                          first | (go_simp; with_reducible rfl) | (simp [go_sem, Instr.field, asAgg] <;> with_reducible rfl)
                        rotate_left
                        · simp only [Act.put, List.setIfInBounds_toArray, List.set_cons_zero, List.set_cons_succ, i64_w, i32_w]
                          rfl
                        refine pure_ (i := 8) (N := some 92) (v := ?_) (a' := ?_) #[true, false, true, true, true, true, false, true, true, false, false, false] rfl rfl (by kernel_rfl) (fun _ _ _ h => h) (Or.inl ⟨by rfl, ?_⟩) ?_ ?_
                        rotate_left
                        · intro w'
                          first | (go_simp; with_reducible rfl) | (simp [go_sem, Instr.field, asAgg] <;> with_reducible rfl)
                        rotate_left
                        · simp only [Act.put, List.setIfInBounds_toArray, List.set_cons_zero, List.set_cons_succ, i64_w, i32_w]
                          rfl
                        refine pure_ (i := 9) (N := some 93) (v := ?_) (a' := ?_) #[true, false, true, true, true, true, false, true, true, true, false, false] rfl rfl (by kernel_rfl) (fun _ _ _ h => h) (Or.inl ⟨by rfl, ?_⟩) ?_ ?_
                        rotate_left
                        · intro w'
                          first | (go_simp; with_reducible rfl) | (simp [go_sem, Instr.field, asAgg] <;> with_reducible rfl)
                        rotate_left
                        · simp only [Act.put, List.setIfInBounds_toArray, List.set_cons_zero, List.set_cons_succ, i64_w, i32_w]
                          rfl
                        refine take_ (i := 1) (N := some 85) (v := ?_) (a' := ?_) #[true, true, true, true, true, true, false, true, true, true, false, false] rfl rfl (by kernel_rfl) (fun _ _ _ h => h) (Or.inl ⟨by rfl, ?_⟩) hHeld ?_ ?_
                        rotate_left
                        · rintro w' ⟨s0, s1, s2⟩
                          go_simp
                          with_reducible rfl
                        rotate_left
                        · simp only [Act.put, List.setIfInBounds_toArray, List.set_cons_zero, List.set_cons_succ, i64_w, i32_w]
                          rfl
                        refine take_ (i := 6) (N := some 90) (v := ?_) (a' := ?_) #[true, true, true, true, true, true, true, true, true, true, false, false] rfl rfl (by kernel_rfl) (fun _ _ _ h => h) (Or.inl ⟨by rfl, ?_⟩) hHeld ?_ ?_
                        rotate_left
                        · rintro w' ⟨s0, s1, s2⟩
                          go_simp
                          with_reducible rfl
                        rotate_left
                        · simp only [Act.put, List.setIfInBounds_toArray, List.set_cons_zero, List.set_cons_succ, i64_w, i32_w]
                          rfl
                        refine take_ (i := 10) (N := some 94) (v := ?_) (a' := ?_) #[true, true, true, true, true, true, true, true, true, true, true, false] rfl rfl (by kernel_rfl) (fun _ _ _ h => h) (Or.inl ⟨by rfl, ?_⟩) hHeld ?_ ?_
                        rotate_left
                        · rintro w' ⟨s0, s1, s2⟩
                          go_simp
                          with_reducible rfl
                        rotate_left
                        · simp only [Act.put, List.setIfInBounds_toArray, List.set_cons_zero, List.set_cons_succ, i64_w, i32_w]
                          rfl
                        refine last_ (i := 11) (N := some 95) #[true, true, true, true, true, true, true, true, true, true, true, true] rfl rfl (by kernel_rfl) (by decide) (fun K hK => ?_)
                        refine goes_ Try.func71 (by kernel_rfl) rfl #[.int .i64 a0_0, (.slice (some ⟨bu, 0, none⟩) (rd_L1 rx i).length cu), (.slice Am (rd_L1 rx (piv.length : Int)).length cm), .int .i64 (rd (rd_L1 rx i) c)] (by rfl) rfl rfl (by simp only [List.map_toArray, List.map_cons, List.map_nil]; rfl) ?_
                        with_reducible refine (impl_takeOff.calls k3 a0_0 (fun k_ => some k_ = ((.slice (some ⟨bu, 0, none⟩) (rd_L1 rx i).length cu) : Value).ownBlock ∧ w.heap.size + 2 ≤ k_ ∧ k_ < hi) (.slice (some ⟨bu, 0, none⟩) (rd_L1 rx i).length cu) (rd_L1 rx i) Am cm (rd_L1 rx (piv.length : Int)) (rd (rd_L1 rx i) c) q w _ E6.out.be (E6.out.mx.row _ _ _ HU.out.1 HU.out.2) (E6.out.mx.other (by have := D3.out; have := HI.out; omega) HU.out.1 HN.out.1 HN.out.2.1) HN.out.2.2 B6.out).mono ?_
                        rintro e w9 ⟨rfl, hR, hBw, hK⟩
                        refine ⟨_, rfl, ?_⟩
                        have E7 := Aside0.mk (E6.out.put HU.out.1 HU.out.2 hR hK hBw)
                        have P7 := Aside0.mk (R_aside P6.out (Nat.le_refl _) hK)
                        clear E6 P6 hR hBw hK
                        refine hK.out _ _ ?_
                        clear hK K
                        refine norm_ (a' := ?_) ?_ ?_
                        rotate_left
                        · show Act.put _ (some 95) _ = _
                          simp only [Act.put, List.setIfInBounds_toArray, List.set_cons_zero, List.set_cons_succ, i64_w, i32_w]
                          rfl
                        refine done_ (by kernel_rfl) ?_
                        clear hHeld
                        (try go_wp2)
                        go_roundg k3
                        case measure => have := HK1.out; have := HK2.out; have := HK3.out; omega
                        case rel => exact ⟨_, _, rfl, H', ⟨by have := HK3.out; omega⟩, E7, P7⟩
                    · rw [if_neg d1] at H
                      obtain rfl := Option.some.inj H
                      clear H
                      have d1b : decide (i < (n0 : Int)) = false := decide_eq_false (by have := hct.out; omega)
                      replace d1 := Aside0.mk d1
                      go_wp2_with (first | ((with_reducible refine gate_builtin (b := .append) (xs := #[.tmp 97, .tmp 99]) rfl ?_); at_builtin; refine Kd.R_append (Kd.int .i64) (w0 := w) w.heap.size rfl (.tmp 97) (.tmp 99) 67 3 (.int .i64 0) 8 rfl Try.underlying67 info3 rfl (by decide) (by omega) (.slice A5 piv.length c5) piv c [.int .i64 c] (fun k_ => hi ≤ k_) (fun _ => False) rfl rfl ?aP (fun _ hk => hk.elim) ?aF ?aO ?aB ?aS ?aL ?_; (case aP => exact rfl); (case aB => exact E.out.be); (case aF => exact (fun k_ hk_ => Nat.le_trans E.out.t0 hk_)); (case aO => exact P.out); (case aS => exact (below_size E.out.be)); (case aL => have := C10.out; omega); intro v9 w9 ho hb hg hat; have E7 := Aside0.mk (E.out.grown hg (fun b_ hb_ => P.out.1 b_ hb_) hb); have P7 := Aside0.mk ho; clear E P ho hb hg hat))
                      go_roundg k1
                      case measure => have := HK1.out; have := HK2.out; have := HK3.out; omega
                      case rel => exact ⟨_, _, _, vs2, rfl, H', ⟨by have := HK1.out; omega⟩, E7, P7⟩
            · rw [if_neg c3] at H
              obtain rfl := Option.some.inj H
              have a1b : decide (a < (n0 : Int)) = false := decide_eq_false (by have := hcnt.out; omega)
              have H := H1.out
              by_cases ca : a = (rows.length : Int)
              · rw [if_pos ca] at H
                have a2b : (a == (n0 : Int)) = true := by rw [ca, hcnt.out]; simp
                have H' := Aside0.mk H
                clear H H1
                replace ca := Aside0.mk ca
                replace c3 := Aside0.mk c3
                go_wp2
                go_roundg k1
                case measure => have := HK1.out; have := HK2.out; omega
                case rel => exact ⟨_, rows, piv, vs, rfl, H', ⟨by have := HK1.out; omega⟩, E, P⟩
              · rw [if_neg ca] at H
                by_cases c4 : 0 ≤ a
                · rw [if_pos c4, if_neg c3] at H; exact absurd H (by simp)
                · rw [if_neg c4] at H; exact absurd H (by simp)
      · rw [if_neg c2] at H
        have c2b : decide (c < a0_1) = false := decide_eq_false c2
        obtain ⟨rfl, rfl⟩ := (by simpa using H : rows = rs ∧ piv = ps)
        clear H c2
        obtain ⟨A5, c5, e5⟩ := Kd.R_slice P.out
        subst e5
        have hct := E.out.mx.count
        obtain ⟨i0_, hi0_, _, _, _⟩ := info_parts info35
        have hcut := cut_to (P := Try.prog) 22 35 .i64 Try.underlying22 hi0_ A1 n0 c1 (piv.length : Int) (by omega) (by have := CL.out; omega) hct.2
        simp only [Int.toNat_natCast] at hcut
        clear hct hi0_
        go_wp2
        have E1 := Aside0.mk E.out.drew
        have P1 := Aside0.mk (Kd.R_drew P.out)
        clear E P
        refine start_ (n := 12) (S := fun w' => w'.cell? ⟨w.heap.size, 0, none⟩ = some (.int .i64 a0_0) ∧ w'.cell? ⟨w.heap.size, 1, none⟩ = some (.int .i64 a0_1)) (ds := [10]) #[false, false, false, false, false, false, false, false, false, false, false, false] (by kernel_rfl) rfl rfl ⟨(blk_cell (E1.out.box (b := w.heap.size) (o := .cells #[.int .i64 a0_0, .int .i64 a0_1, .slice A0_2 l0_2.length c0_2] 26 (0, 0)) (by simp)) 0).trans rfl, (blk_cell (E1.out.box (b := w.heap.size) (o := .cells #[.int .i64 a0_0, .int .i64 a0_1, .slice A0_2 l0_2.length c0_2] 26 (0, 0)) (by simp)) 1).trans rfl⟩ (fun hHeld => ?_)
        generalize wr.drew = w5 at E1 P1 hHeld ⊢
        have hz0 : w5.cell? ⟨w.heap.size + 1, 0, none⟩ = some (.int .i64 0 : Value) := (blk_cell (E1.out.box (b := w.heap.size + 1) (o := .cells #[(.int .i64 0 : Value), (.int .i64 0 : Value), (.slice none 0 0 : Value)] 26 (0, 0)) (by simp)) 0).trans rfl
        have hzf0 := blk_frozen (E1.out.box (b := w.heap.size + 1) (o := .cells #[(.int .i64 0 : Value), (.int .i64 0 : Value), (.slice none 0 0 : Value)] 26 (0, 0)) (by simp)) 0
        have hz1 : w5.cell? ⟨w.heap.size + 1, 1, none⟩ = some (.int .i64 0 : Value) := (blk_cell (E1.out.box (b := w.heap.size + 1) (o := .cells #[(.int .i64 0 : Value), (.int .i64 0 : Value), (.slice none 0 0 : Value)] 26 (0, 0)) (by simp)) 1).trans rfl
        have hzf1 := blk_frozen (E1.out.box (b := w.heap.size + 1) (o := .cells #[(.int .i64 0 : Value), (.int .i64 0 : Value), (.slice none 0 0 : Value)] 26 (0, 0)) (by simp)) 1
        have hz2 : w5.cell? ⟨w.heap.size + 1, 2, none⟩ = some (.slice none 0 0 : Value) := (blk_cell (E1.out.box (b := w.heap.size + 1) (o := .cells #[(.int .i64 0 : Value), (.int .i64 0 : Value), (.slice none 0 0 : Value)] 26 (0, 0)) (by simp)) 2).trans rfl
        have hzf2 := blk_frozen (E1.out.box (b := w.heap.size + 1) (o := .cells #[(.int .i64 0 : Value), (.int .i64 0 : Value), (.slice none 0 0 : Value)] 26 (0, 0)) (by simp)) 2
        refine pure_ (i := 0) (N := some 102) (v := ?_) (a' := ?_) #[true, false, false, false, false, false, false, false, false, false, false, false] rfl rfl (by kernel_rfl) (fun _ _ _ h => h) (Or.inl ⟨by rfl, ?_⟩) ?_ ?_
        rotate_left
        · intro w'
          first | (go_simp; with_reducible rfl) | (simp [go_sem, Instr.field, asAgg] <;> with_reducible rfl)
        rotate_left
        · simp only [Act.put, List.setIfInBounds_toArray, List.set_cons_zero, List.set_cons_succ, i64_w, i32_w]
          rfl
        refine pure_ (i := 2) (N := some 104) (v := ?_) (a' := ?_) #[true, false, true, false, false, false, false, false, false, false, false, false] rfl rfl (by kernel_rfl) (fun _ _ _ h => h) (Or.inl ⟨by rfl, ?_⟩) ?_ ?_
        rotate_left
        · intro w'
          first | (go_simp; with_reducible rfl) | (simp [go_sem, Instr.field, asAgg] <;> with_reducible rfl)
        rotate_left
        · simp only [Act.put, List.setIfInBounds_toArray, List.set_cons_zero, List.set_cons_succ, i64_w, i32_w]
          rfl
        refine pure_ (i := 4) (N := some 106) (v := ?_) (a' := ?_) #[true, false, true, false, true, false, false, false, false, false, false, false] rfl rfl (by kernel_rfl) (fun _ _ _ h => h) (Or.inl ⟨by rfl, ?_⟩) ?_ ?_
        rotate_left
        · intro w'
          first | (go_simp; with_reducible rfl) | (simp [go_sem, Instr.field, asAgg] <;> with_reducible rfl)
        rotate_left
        · simp only [Act.put, List.setIfInBounds_toArray, List.set_cons_zero, List.set_cons_succ, i64_w, i32_w]
          rfl
        refine pure_ (i := 5) (N := some 107) (v := ?_) (a' := ?_) #[true, false, true, false, true, true, false, false, false, false, false, false] rfl rfl (by kernel_rfl) (fun _ _ _ h => h) (Or.inl ⟨by rfl, ?_⟩) ?_ ?_
        rotate_left
        · intro w'
          first | (go_simp; with_reducible rfl) | (simp [go_sem, Instr.field, asAgg] <;> with_reducible rfl)
        rotate_left
        · simp only [Act.put, List.setIfInBounds_toArray, List.set_cons_zero, List.set_cons_succ, i64_w, i32_w]
          rfl
        refine pure_ (i := 6) (N := some 108) (v := ?_) (a' := ?_) #[true, false, true, false, true, true, true, false, false, false, false, false] rfl rfl (by kernel_rfl) (fun _ _ _ h => h) (Or.inl ⟨by rfl, ?_⟩) ?_ ?_
        rotate_left
        · intro w'
          first | (go_simp; with_reducible rfl) | (simp [go_sem, Instr.field, asAgg] <;> with_reducible rfl)
        rotate_left
        · simp only [Act.put, List.setIfInBounds_toArray, List.set_cons_zero, List.set_cons_succ, i64_w, i32_w]
          rfl
        refine pure_ (i := 7) (N := some 109) (v := ?_) (a' := ?_) #[true, false, true, false, true, true, true, true, false, false, false, false] rfl rfl (by kernel_rfl) (fun _ _ _ h => h) (Or.inl ⟨by rfl, ?_⟩) ?_ ?_
        rotate_left
        · intro w'
          first | (go_simp; with_reducible rfl) | (simp [go_sem, Instr.field, asAgg] <;> with_reducible rfl)
        rotate_left
        · simp only [Act.put, List.setIfInBounds_toArray, List.set_cons_zero, List.set_cons_succ, i64_w, i32_w]
          rfl
        refine pure_ (i := 9) (N := some 111) (v := ?_) (a' := ?_) #[true, false, true, false, true, true, true, true, false, true, false, false] rfl rfl (by kernel_rfl) (fun _ _ _ h => h) (Or.inl ⟨by rfl, ?_⟩) ?_ ?_
        rotate_left
        · intro w'
          first | (go_simp; with_reducible rfl) | (simp [go_sem, Instr.field, asAgg] <;> with_reducible rfl)
        rotate_left
        · simp only [Act.put, List.setIfInBounds_toArray, List.set_cons_zero, List.set_cons_succ, i64_w, i32_w]
          rfl
        refine take_ (i := 1) (N := some 103) (v := ?_) (a' := ?_) #[true, true, true, false, true, true, true, true, false, true, false, false] rfl rfl (by kernel_rfl) (fun _ _ _ h => h) (Or.inl ⟨by rfl, ?_⟩) hHeld ?_ ?_
        rotate_left
        · rintro w' ⟨s0, s1⟩
          go_simp
          with_reducible rfl
        rotate_left
        · simp only [Act.put, List.setIfInBounds_toArray, List.set_cons_zero, List.set_cons_succ, i64_w, i32_w]
          rfl
        refine take_ (i := 3) (N := some 105) (v := ?_) (a' := ?_) #[true, true, true, true, true, true, true, true, false, true, false, false] rfl rfl (by kernel_rfl) (fun _ _ _ h => h) (Or.inl ⟨by rfl, ?_⟩) hHeld ?_ ?_
        rotate_left
        · rintro w' ⟨s0, s1⟩
          go_simp
          with_reducible rfl
        rotate_left
        · simp only [Act.put, List.setIfInBounds_toArray, List.set_cons_zero, List.set_cons_succ, i64_w, i32_w]
          rfl
        refine pure_ (i := 8) (N := some 110) (v := ?_) (a' := ?_) #[true, true, true, true, true, true, true, true, true, true, false, false] rfl rfl (by kernel_rfl) (fun _ _ _ h => h) (Or.inl ⟨by rfl, ?_⟩) ?_ ?_
        rotate_left
        · intro w'
          first | (go_simp; with_reducible rfl) | (simp [go_sem, Instr.field, asAgg] <;> with_reducible rfl)
        rotate_left
        · simp only [Act.put, List.setIfInBounds_toArray, List.set_cons_zero, List.set_cons_succ, i64_w, i32_w]
          rfl
        refine last_ (i := 10) (N := none) #[true, true, true, true, true, true, true, true, true, true, true, false] rfl rfl (by kernel_rfl) (by decide) (fun K hK => ?_)
        refine skip_ (w1 := ?_) (by rfl) rfl ?_ ?_
        rotate_left
        · go_simp
          rfl
        refine hK.out _ _ ?_
        clear hK K
        refine pure_ (i := 11) (N := some 3) (v := ?_) (a' := ?_) #[true, true, true, true, true, true, true, true, true, true, true, true] rfl rfl (by kernel_rfl) (fun _ _ _ h => h) (Or.inl ⟨by rfl, ?_⟩) ?_ ?_
        rotate_left
        · intro w'
          first | (go_simp; with_reducible rfl) | (simp [go_sem, Instr.field, asAgg] <;> with_reducible rfl)
        rotate_left
        · simp only [Act.put, List.setIfInBounds_toArray, List.set_cons_zero, List.set_cons_succ, i64_w, i32_w]
          rfl
        refine done_ (by kernel_rfl) ?_
        (try go_wp2)
        (try simp only [Exit.inBlock, Exit.then])
        refine bodyPost_ret (results_ct rfl _ _ (w.heap.size + 1) 26 #[.int .i64 a0_0, .int .i64 a0_1, .slice A1 piv.length c1] (0, 0) _ rfl (blk_put (blk_put (blk_put (E1.out.box (b := w.heap.size + 1) (o := .cells #[(.int .i64 0 : Value), (.int .i64 0 : Value), (.slice none 0 0 : Value)] 26 (0, 0)) (by simp)) 0 _ rfl) 1 _ rfl) 2 _ rfl) Try.underlying26 rfl (by kernel_rfl)) rfl ?_
        have hm := (((E1.out.mx.take CL.out).far (p := ⟨w.heap.size + 1, 0, none⟩) (.inl (by show w.heap.size + 1 < _; omega)) (.int .i64 a0_0)).far (p := ⟨w.heap.size + 1, 1, none⟩) (.inl (by show w.heap.size + 1 < _; omega)) (.int .i64 a0_1)).far (p := ⟨w.heap.size + 1, 2, none⟩) (.inl (by show w.heap.size + 1 < _; omega)) (.slice A1 piv.length c1)
        have hlh : w.heap.size + 1 < hi := by have := (E1.out.bx (w.heap.size + 1, .cells #[(.int .i64 0 : Value), (.int .i64 0 : Value), (.slice none 0 0 : Value)] 26 (0, 0)) (by simp)).2.2; exact this
        have hp := Kd.R_far (p := ⟨w.heap.size + 1, 2, none⟩) (Kd.R_far (p := ⟨w.heap.size + 1, 1, none⟩) (Kd.R_far (p := ⟨w.heap.size + 1, 0, none⟩) P1.out (fun k_ hk_ => by show k_ ≠ w.heap.size + 1; omega) (.int .i64 a0_0)) (fun k_ hk_ => by show k_ ≠ w.heap.size + 1; omega) (.int .i64 a0_1)) (fun k_ hk_ => by show k_ ≠ w.heap.size + 1; omega) (.slice A1 piv.length c1)
        exact ⟨_, _, rfl, Kd.S_mono hm.to_S (fun _ _ => trivial), Kd.R_mono hp (fun _ _ => trivial), below_set (below_set (below_set E1.out.be (by omega)) (by omega)) (by omega)⟩

end Go.Proofs.Ytjpbemomocccaaa.P
