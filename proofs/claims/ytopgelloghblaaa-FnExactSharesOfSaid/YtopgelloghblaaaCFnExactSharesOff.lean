/- For all arguments the program's SharesOf and the reference's answer alike, the arguments stay, and the result is memory of its own. This text: the theorem of the row, and part 6 of what it rests on. -/
import Derived.Test.YtopgelloghblaaaCFnExactSharesOfe
import Derived.Below
import Derived.Carry
import Derived.ChangeOld
import Derived.OpenShut
import Derived.ProofKit
import Derived.ShutString
import Derived.SizedLaws
import Derived.Test.YtopgelloghblaaaRows
import Derived.WalkKit
namespace Go.Proofs.Ytopgelloghblaaa.P
open Go.RowKit Go.Proofs.YtopgelloghblaaaW.PrintWords Go.Proofs.YtopgelloghblaaaW.PrintLast Go.Proofs.YtopgelloghblaaaW.PrintMore
attribute [local go_sem] max2_int min2_int max_two min_two max_three min_three max_four min_four
set_option linter.unusedVariables false
set_option linter.unusedSimpArgs false

/-! ### spec_SizesOf: function 42 -/
def spec_SizesOf.l0 : Nat → List Int → Int → Int → List Int → Int → Int → List (List Int) → Option (List Int × Int)
  | 0, _, _, _, _, _, _, _ => none
  | k + 1, x4, x5, x465000, x465001, x465002, x465003, x465004 => if x5 < (x465001.length : Int) then (if 0 ≤ x5 then (if 0 ≤ (rd x465001 x5) then (if (rd x465001 x5) < (x4.length : Int) then (spec_SizesOf.l0 k (x4.set ((rd x465001 x5) : Int).toNat (wrap64 ((rd x4 (rd x465001 x5)) + 1))) (wrap64 (x5 + 1)) x465000 x465001 x465002 x465003 x465004) else (none)) else (none)) else (none)) else (some (x4, 0))
def spec_SizesOf.f (k : Nat) (a0_0 : Int) (l0_1 : List Int) (a0_2 : Int) (a0_3 : Int) (l0_4 : List (List Int)) : Option (List Int × Int) := (spec_l04Ok.f k a0_0 l0_1 a0_2 a0_3 l0_4).bind fun t465 => (if t465 = true then (if 0 ≤ a0_0 then (if (a0_0 : Int).toNat ≤ 35184372088832 then (spec_SizesOf.l0 k (List.replicate (a0_0 : Int).toNat 0) 0 a0_0 l0_1 a0_2 a0_3 l0_4) else (none)) else (none)) else (some ((([] : List Int)), 1)))
theorem spec_SizesOf.mono_l : ∀ k, (∀ y0 y1 y2 y3 y4 y5 y6, LeO (spec_SizesOf.l0 k y0 y1 y2 y3 y4 y5 y6) (spec_SizesOf.l0 (k + 1) y0 y1 y2 y3 y4 y5 y6))
  | 0 => fun _ _ _ _ _ _ _ r h => by simp [spec_SizesOf.l0] at h
  | k + 1 => by
    have ih0 := spec_SizesOf.mono_l k
    · intro y0 y1 y2 y3 y4 y5 y6
      unfold spec_SizesOf.l0
      repeat' first
      | (with_reducible exact ih0 _ _ _ _ _ _ _)
      | (with_reducible exact spec_l04Ok.mono _ _ _ _ _ _)
      | (with_reducible exact LeO.refl _)
      | (with_reducible exact LeO.none _)
      | (with_reducible refine LeO.ite ?_ ?_)
      | (with_reducible refine LeO.bind ?_ (fun _ => ?_))
      | exact ih0 _ _ _ _ _ _ _
      | exact spec_l04Ok.mono _ _ _ _ _ _
      | exact LeO.none _
      | refine LeO.ite ?_ ?_
      | refine LeO.bind ?_ (fun _ => ?_)
theorem spec_SizesOf.mono : ∀ a0 a1 a2 a3 a4 k, LeO (spec_SizesOf.f k a0 a1 a2 a3 a4) (spec_SizesOf.f (k + 1) a0 a1 a2 a3 a4) := by
  intro a0 a1 a2 a3 a4 k
  have ih0 := spec_SizesOf.mono_l k
  unfold spec_SizesOf.f
  repeat' first
      | (with_reducible exact ih0 _ _ _ _ _ _ _)
      | (with_reducible exact spec_l04Ok.mono _ _ _ _ _ _)
      | (with_reducible exact LeO.refl _)
      | (with_reducible exact LeO.none _)
      | (with_reducible refine LeO.ite ?_ ?_)
      | (with_reducible refine LeO.bind ?_ (fun _ => ?_))
      | exact ih0 _ _ _ _ _ _ _
      | exact spec_l04Ok.mono _ _ _ _ _ _
      | exact LeO.none _
      | refine LeO.ite ?_ ?_
      | refine LeO.bind ?_ (fun _ => ?_)
set_option maxHeartbeats 8000000 in
set_option maxRecDepth 100000 in
theorem spec_SizesOf.calls (k : Nat) (a0_0 : Int) (A0_1 : Option Addr) (c0_1 : Nat) (l0_1 : List Int) (a0_2 : Int) (a0_3 : Int) (A0_4 : Option Addr) (c0_4 : Nat) (l0_4 : List (List Int)) (r1 : List Int) (r2 : Int) (w : World) (hr0_1 : Kd.C (Kd.int .i64) w A0_1 l0_1.length l0_1) (hc0_1 : l0_1.length ≤ c0_1) (hr0_4 : Kd.C (Kd.slice 2 (Kd.int .i64)) w A0_4 l0_4.length l0_4) (hc0_4 : l0_4.length ≤ c0_4) (h : spec_SizesOf.f k a0_0 l0_1 a0_2 a0_3 l0_4 = some (r1, r2)) :
    Calls Try.prog 42 #[.agg #[.int .i64 a0_0, .slice A0_1 l0_1.length c0_1, .int .i64 a0_2, .int .i64 a0_3, .slice A0_4 l0_4.length c0_4]] w fun e w' => ∃ v0_ : Value, e = .returned (.tuple #[v0_, .int .i64 r2]) ∧ Kd.R (Kd.int .i64) 2 w' w.heap.size (fun _ => True) v0_ r1 ∧ Below w.heap.size w w' := by
  have hu48 := Try.underlying48
  have HR0_1 := Aside0.mk hr0_1
  have HC0_1 := Aside0.mk hc0_1
  clear hr0_1 hc0_1
  have HR0_4 := Aside0.mk hr0_4
  have HC0_4 := Aside0.mk hc0_4
  clear hr0_4 hc0_4
  have HB := Aside0.mk (Below.refl w.heap.size w)
  have H : ((spec_l04Ok.f k a0_0 l0_1 a0_2 a0_3 l0_4).bind fun t465 => (if t465 = true then (if 0 ≤ a0_0 then (if (a0_0 : Int).toNat ≤ 35184372088832 then (spec_SizesOf.l0 k (List.replicate (a0_0 : Int).toNat 0) 0 a0_0 l0_1 a0_2 a0_3 l0_4) else (none)) else (none)) else (some ((([] : List Int)), 1)))) = some (r1, r2) := h
  clear h
  replace H := Option.bind_eq_some_iff.mp H
  obtain ⟨t465, A20, H⟩ := H
  replace H : (if t465 = true then (if 0 ≤ a0_0 then (if (a0_0 : Int).toNat ≤ 35184372088832 then (spec_SizesOf.l0 k (List.replicate (a0_0 : Int).toNat 0) 0 a0_0 l0_1 a0_2 a0_3 l0_4) else (none)) else (none)) else (some ((([] : List Int)), 1))) = some (r1, r2) := H
  have A2 := Aside0.mk A20
  clear A20
  by_cases c3 : t465 = true
  · subst c3
    have H1 : (if 0 ≤ a0_0 then (if (a0_0 : Int).toNat ≤ 35184372088832 then (spec_SizesOf.l0 k (List.replicate (a0_0 : Int).toNat 0) 0 a0_0 l0_1 a0_2 a0_3 l0_4) else (none)) else (none)) = some (r1, r2) := by rw [if_pos rfl] at H; exact H
    clear H
    have H := H1
    clear H1
    by_cases c4 : 0 ≤ a0_0
    · rw [if_pos c4] at H
      have c4b0 := eq_true c4
      have c4b1 : decide (0 ≤ a0_0) = true := decide_eq_true c4
      clear c4
      by_cases c5 : (a0_0 : Int).toNat ≤ 35184372088832
      · rw [if_pos c5] at H
        have c5b0 := eq_true c5
        have c5b1 : decide ((a0_0 : Int).toNat ≤ 35184372088832) = true := decide_eq_true c5
        clear c5
        obtain ⟨y469, hy469⟩ : ∃ y_ : List Int, y_ = (List.replicate (a0_0 : Int).toNat 0) := ⟨_, rfl⟩
        replace H : (spec_SizesOf.l0 k y469 0 a0_0 l0_1 a0_2 a0_3 l0_4) = some (r1, r2) := by first | (rw [hy469]; with_reducible exact H) | (have H2_ := (Option.bind_some _ _).symm.trans H; rw [hy469]; with_reducible exact H2_) | (have H2_ := (Option.bind_some _ _).symm.trans H; with_reducible exact H2_) | with_reducible exact H | (rw [hy469]; exact H) | exact H
        have Ny469 := Aside0.mk hy469
        clear hy469
        have H' := Aside0.mk H
        clear H
        go_enter Try.func42, Try.ntmps42
        go_wp2_with (first | ((with_reducible refine gate_dst (N := 1) rfl ?_); refine box_event ?hg (N := 1) ?hd (cs := #[.int .i64 a0_0, .slice A0_1 l0_1.length c0_1, .int .i64 a0_2, .int .i64 a0_3, .slice A0_4 l0_4.length c0_4]) (t := 48) ?hr ?_; (case hd => rfl); (case hg => rfl); (case hr => first | (go_simp; done) | (go_simp; rfl)); intro gb464 hg w6 hbox hb; have n0_ := Aside0.mk (below_step (by repeat (first | (with_reducible first | exact HB.out | apply below_alloc | apply pw_below_drewN | apply below_drew1) | exact HB.out)) hb); have n1_ := Aside0.mk (hbox); have n2_ := Aside0.mk ((by rw [hg]; exact (below_size (by repeat (first | (with_reducible first | exact HB.out | apply below_alloc | apply pw_below_drewN | apply below_drew1) | exact HB.out))) : w.heap.size ≤ gb464)); have n3_ := Aside0.mk ((by rw [hg]; exact (below_size (by repeat (first | (with_reducible first | exact HB.out | apply below_alloc | apply pw_below_drewN | apply below_drew1) | exact HB.out))) : w.heap.size ≤ gb464)); clear HB; have HB := n0_; have BK464 := n1_; have GW464 := n2_; have GE464 := n3_; clear n0_ n1_ n2_ n3_; clear hb hbox hg) | ((with_reducible refine gate_callee (f := 82) rfl ?_); refine goesL_ (some 6) rfl rfl Try.func82 (by kernel_rfl) rfl #[.pointer (some ⟨gb464, 0, none⟩)] rfl (by (try simp only [List.map_toArray, List.map_cons, List.map_nil]); first | done | rfl | (simp only [List.length_drop, List.length_take]; rfl)) ?_; (with_reducible refine (spec_l04Ok.calls k gb464 a0_0 A0_1 c0_1 l0_1 a0_2 a0_3 A0_4 c0_4 l0_4 true _ ?side1 ?side2 ?side3 ?side4 ?side5 A2.out).mono ?_); (case side1 => (with_reducible repeat (first | refine blk_drewN ?_ _ | refine blk_drew ?_ | refine blk_alloc ?_ _)); exact BK464.out); (case side2 => repeat (first | exact (Kd.C_below HR0_1.out HB.out) | (with_reducible refine Kd.C_alloc ?_ _) | (with_reducible refine Kd.C_drewN ?_ _) | (with_reducible refine Kd.C_drew ?_))); (case side3 => exact HC0_1.out); (case side4 => repeat (first | exact (Kd.C_below HR0_4.out HB.out) | (with_reducible refine Kd.C_alloc ?_ _) | (with_reducible refine Kd.C_drewN ?_ _) | (with_reducible refine Kd.C_drew ?_))); (case side5 => exact HC0_4.out); rintro e w7 ⟨rfl, hb⟩; refine ⟨_, rfl, ?_⟩; have n0_ := Aside0.mk (blk_below (g := gb464) (o := .cells #[.int .i64 a0_0, .slice A0_1 l0_1.length c0_1, .int .i64 a0_2, .int .i64 a0_3, .slice A0_4 l0_4.length c0_4] 48 (0, 0)) (by (with_reducible repeat (first | refine blk_drewN ?_ _ | refine blk_drew ?_ | refine blk_alloc ?_ _)); exact BK464.out) hb); have n1_ := Aside0.mk (below_step (by repeat (first | (with_reducible first | exact HB.out | apply below_alloc | apply pw_below_drewN | apply below_drew1 | refine below_set ?_ GE464.out) | exact HB.out)) hb); clear BK464; clear HB; have BK464 := n0_; have HB := n1_; clear n0_ n1_; (try clear hb); (try clear hb2); (try clear hk); (try clear hi); have hcz8_0 : w7.cell? ⟨gb464, 0, none⟩ = some (.int .i64 a0_0) := (blk_cell BK464.out 0).trans rfl; have hcz8_1 : w7.cell? ⟨gb464, 1, none⟩ = some (.slice A0_1 l0_1.length c0_1) := (blk_cell BK464.out 1).trans rfl; have hcz8_2 : w7.cell? ⟨gb464, 2, none⟩ = some (.int .i64 a0_2) := (blk_cell BK464.out 2).trans rfl; have hcz8_3 : w7.cell? ⟨gb464, 3, none⟩ = some (.int .i64 a0_3) := (blk_cell BK464.out 3).trans rfl; have hcz8_4 : w7.cell? ⟨gb464, 4, none⟩ = some (.slice A0_4 l0_4.length c0_4) := (blk_cell BK464.out 4).trans rfl; have hfz8_0 := blk_frozen BK464.out 0; have hfz8_1 := blk_frozen BK464.out 1; have hfz8_2 := blk_frozen BK464.out 2; have hfz8_3 := blk_frozen BK464.out 3; have hfz8_4 := blk_frozen BK464.out 4) | ((with_reducible refine gate_dst (N := 11) rfl ?_); refine Kd.R_make (Kd.int .i64) _ 2 rfl (N := 11) rfl 32 _ _ rfl a0_0 rfl rfl Try.underlying32 (.int .i64 0) 8 info2 rfl (by decide) (by omega) 0 (ok := fun _ => True) (okp := fun _ => True) rfl (fun _ hk => hk) trivial (of_decide_eq_true (by first | (with_reducible assumption) | assumption)) (Nat.le_trans (Nat.mul_le_mul_right _ (of_decide_eq_true (by first | (with_reducible assumption) | assumption) : a0_0.toNat ≤ 35184372088832)) (by omega)) (Below.refl _ _) (Nat.le_refl _) ?_; intro v470 w9 ho10 hb hg_ hnew_; clear hg_ hnew_; (first | rw [← Ny469.out] at ho10 | (simp only [Int.reduceToNat] at ho10; rw [← Ny469.out] at ho10)); have n0_ := Aside0.mk (Kd.R_lower ho10 (below_size (by repeat (first | (with_reducible first | exact HB.out | apply below_alloc | apply pw_below_drewN | apply below_drew1 | refine below_set ?_ GE464.out) | exact HB.out)))); have n1_ := Aside0.mk (blk_below (g := gb464) (o := .cells #[.int .i64 a0_0, .slice A0_1 l0_1.length c0_1, .int .i64 a0_2, .int .i64 a0_3, .slice A0_4 l0_4.length c0_4] 48 (0, 0)) (by (with_reducible repeat (first | refine blk_drewN ?_ _ | refine blk_drew ?_ | refine blk_alloc ?_ _)); exact BK464.out) hb); have n2_ := Aside0.mk (below_step (by repeat (first | (with_reducible first | exact HB.out | apply below_alloc | apply pw_below_drewN | apply below_drew1 | refine below_set ?_ GE464.out) | exact HB.out)) hb); clear BK464; clear HB; have HO471 := n0_; have BK464 := n1_; have HB := n2_; clear n0_ n1_ n2_; clear hb ho10))
        go_loopg [5] k (fun kq v5 w' => ∃ (x4_1 : List Int) (x5_1 : Int), v5 = .int .i64 x5_1 ∧ Aside0 (spec_SizesOf.l0 kq x4_1 x5_1 a0_0 l0_1 a0_2 a0_3 l0_4 = some (r1, r2)) ∧ Aside0 (kq ≤ k) ∧ Aside0 (Kd.R (Kd.int .i64) 2 w' w.heap.size (fun _ => True) v470 x4_1) ∧ Aside0 (w'.heap[gb464]? = some (.cells #[.int .i64 a0_0, (.slice A0_1 l0_1.length c0_1), .int .i64 a0_2, .int .i64 a0_3, (.slice A0_4 l0_4.length c0_4)] 48 (0, 0))) ∧ Aside0 (Below w.heap.size w w'))
        case atStart => exact ⟨(y469), (0), (by first | rfl | (simp; done) | (simp [*]; done)), H', ⟨Nat.le_refl _⟩, ⟨by (with_reducible repeat (first | apply Kd.R_alloc | apply Kd.R_drewN | apply Kd.R_drew)); exact HO471.out⟩, ⟨by (with_reducible repeat (first | refine blk_drewN ?_ _ | refine blk_drew ?_ | refine blk_alloc ?_ _)); exact BK464.out⟩, ⟨by repeat (first | (with_reducible first | exact HB.out | apply below_alloc | apply pw_below_drewN | apply below_drew1 | refine below_set ?_ GE464.out) | exact HB.out)⟩⟩
        case round =>
          clear H'
          try clear p2
          try clear c3
          try clear c4
          try clear c4b0
          try clear c4b1
          try clear c5
          try clear c5b0
          try clear c5b1
          try clear c8
          try clear hcz8_0
          try clear hcz8_1
          try clear hcz8_2
          try clear hcz8_3
          try clear hcz8_4
          try clear hfz8_0
          try clear hfz8_1
          try clear hfz8_2
          try clear hfz8_3
          try clear hfz8_4
          obtain ⟨x4_1, x5_1, rfl, HA, HK1, HO_4, BK464, HB⟩ := hrel
          cases gk with
          | zero => exact absurd HA.out (by simp [spec_SizesOf.l0])
          | succ k1 =>
            have H := HA.out
            clear HA
            simp only [spec_SizesOf.l0] at H
            by_cases c11 : x5_1 < (l0_1.length : Int)
            · rw [if_pos c11] at H
              have c11b0 : decide (x5_1 < (l0_1.length : Int)) = true := decide_eq_true c11
              clear c11
              by_cases c12 : 0 ≤ x5_1
              · rw [if_pos c12] at H
                have c12b0 : decide (0 ≤ x5_1) = true := decide_eq_true c12
                clear c12
                by_cases c13 : 0 ≤ (rd l0_1 x5_1)
                · rw [if_pos c13] at H
                  have c13b0 : decide (0 ≤ (rd l0_1 x5_1)) = true := decide_eq_true c13
                  clear c13
                  by_cases c14 : (rd l0_1 x5_1) < (x4_1.length : Int)
                  · rw [if_pos c14] at H
                    have c14b0 : decide ((rd l0_1 x5_1) < (x4_1.length : Int)) = true := decide_eq_true c14
                    clear c14
                    obtain ⟨y474, hy474⟩ : ∃ y_ : List Int, y_ = (x4_1.set ((rd l0_1 x5_1) : Int).toNat (wrap64 ((rd x4_1 (rd l0_1 x5_1)) + 1))) := ⟨_, rfl⟩
                    replace H : (spec_SizesOf.l0 k1 y474 (wrap64 (x5_1 + 1)) a0_0 l0_1 a0_2 a0_3 l0_4) = some (r1, r2) := by first | (rw [hy474]; with_reducible exact H) | (have H2_ := (Option.bind_some _ _).symm.trans H; rw [hy474]; with_reducible exact H2_) | (have H2_ := (Option.bind_some _ _).symm.trans H; with_reducible exact H2_) | with_reducible exact H | (rw [hy474]; exact H) | exact H
                    have Ny474 := Aside0.mk hy474
                    clear hy474
                    have H' := Aside0.mk H
                    clear H
                    have hcz16_0 : wr.cell? ⟨gb464, 0, none⟩ = some (.int .i64 a0_0) := (blk_cell BK464.out 0).trans rfl
                    have hcz16_1 : wr.cell? ⟨gb464, 1, none⟩ = some (.slice A0_1 l0_1.length c0_1) := (blk_cell BK464.out 1).trans rfl
                    have hcz16_2 : wr.cell? ⟨gb464, 2, none⟩ = some (.int .i64 a0_2) := (blk_cell BK464.out 2).trans rfl
                    have hcz16_3 : wr.cell? ⟨gb464, 3, none⟩ = some (.int .i64 a0_3) := (blk_cell BK464.out 3).trans rfl
                    have hcz16_4 : wr.cell? ⟨gb464, 4, none⟩ = some (.slice A0_4 l0_4.length c0_4) := (blk_cell BK464.out 4).trans rfl
                    have hfz16_0 := blk_frozen BK464.out 0
                    have hfz16_1 := blk_frozen BK464.out 1
                    have hfz16_2 := blk_frozen BK464.out 2
                    have hfz16_3 := blk_frozen BK464.out 3
                    have hfz16_4 := blk_frozen BK464.out 4
                    have p472 : 0 ≤ (x5_1 : Int) := of_decide_eq_true (by first | (with_reducible assumption) | assumption)
                    have q472 : x5_1 < (l0_1.length : Int) := of_decide_eq_true (by first | (with_reducible assumption) | assumption)
                    obtain ⟨ad472, e472, hx472_0⟩ := Kd.at_int HR0_1.out x5_1 p472 q472
                    cases e472
                    replace hx472_0 := (HB.out.cell (World.block_lt_of_cell? w _ hx472_0)).trans hx472_0
                    replace p472 := eq_true p472
                    replace q472 := eq_true q472
                    obtain ⟨Ao17, co17, eo17⟩ := Kd.R_slice HO_4.out
                    subst eo17
                    have p473 : 0 ≤ ((rd l0_1 x5_1) : Int) := of_decide_eq_true (by first | (with_reducible assumption) | assumption)
                    have q473 : (rd l0_1 x5_1) < (x4_1.length : Int) := of_decide_eq_true (by first | (with_reducible assumption) | assumption)
                    obtain ⟨ad473, e473, hx473_0⟩ := Kd.at_int (Kd.R_reads' HO_4.out).2.2 (rd l0_1 x5_1) p473 q473
                    cases e473
                    replace p473 := eq_true p473
                    replace q473 := eq_true q473
                    have p15 : 0 ≤ ((rd l0_1 x5_1) : Int) := of_decide_eq_true (by first | (with_reducible assumption) | assumption)
                    have q15 : ((rd l0_1 x5_1) : Int) < ((x4_1.length : Int) : Int) := of_decide_eq_true (by first | (with_reducible assumption) | assumption)
                    obtain ⟨go15, co15, eo15, gb15, gl15, cl15, HG15⟩ := Kd.R_form HO_4.out (by omega)
                    (first | cases eo15 | (injection eo15 with ea_ en_ ec_; (first | subst ea_ | (injection ea_ with ea_; subst ea_)); subst ec_; clear en_))
                    have GB15 := Aside0.mk gb15
                    have GG15 := Aside0.mk HG15
                    clear gb15 gl15 HG15
                    (first | simp only [add_plain] at hx473_0 | skip)
                    obtain ⟨hx15_0, hf15_0⟩ := Kd.R_celln 0 HO_4.out ((rd l0_1 x5_1) : Int) p15 q15
                    replace p15 := eq_true p15
                    replace q15 := eq_true q15
                    have HP18 := Kd.R_putg HO_4.out ((rd l0_1 x5_1) : Int) (wrap64 ((rd x4_1 (rd l0_1 x5_1)) + 1))
                    go_wp2_with (first | ((with_reducible refine gate_store (t := 2) (p := 28) rfl ?_); refine store_event (t := 2) (p := 28) (v := ?vo_w19) (w1 := (wr.setCell ⟨go15, ((rd l0_1 x5_1) : Int).toNat, none⟩ (.int .i64 (wrap64 ((rd x4_1 (rd l0_1 x5_1)) + 1))))) ?hg ?ho ?hn ?hr ?_; (case ho => rfl); (case hg => rfl); (case hn => rfl); (case hr => first | (go_simp; done) | (go_simp; rfl)); intro w19 hw; have hg : wr.grownBy w19 (some go15) := (by rw [hw]; exact HP18.2); have hp_ : Kd.R (Kd.int .i64) 2 w19 w.heap.size (fun _ => True) (.slice (some ⟨go15, 0, none⟩) x4_1.length co17) y474 := (by rw [hw, Ny474.out]; exact HP18.1); clear HP18; have n0_ := Aside0.mk (hp_); have n1_ := Aside0.mk (blk_grown (g := gb464) (o := .cells #[.int .i64 a0_0, .slice (some ad472) l0_1.length c0_1, .int .i64 a0_2, .int .i64 a0_3, .slice A0_4 l0_4.length c0_4] 48 (0, 0)) (by (with_reducible repeat (first | refine blk_drewN ?_ _ | refine blk_drew ?_ | refine blk_alloc ?_ _)); exact BK464.out) hg (Kd.R_ne HO_4.out BK464.out (by decide))); have n2_ := Aside0.mk ((by rw [hw]; exact below_set (HB.out) GB15.out : Below w.heap.size w w19)); clear HO_4; clear BK464; clear HB; have HO_4 := n0_; have BK464 := n1_; have HB := n2_; clear n0_ n1_ n2_; clear hg hw hp_))
                    go_roundg k1
                    case measure => have := HK1.out; omega
                    case rel => exact ⟨(y474), (wrap64 (x5_1 + 1)), (by first | rfl | (simp; done) | (simp [*]; done)), H', ⟨by have := HK1.out; omega⟩, ⟨by (with_reducible repeat (first | apply Kd.R_alloc | apply Kd.R_drewN | apply Kd.R_drew)); exact HO_4.out⟩, ⟨by (with_reducible repeat (first | refine blk_drewN ?_ _ | refine blk_drew ?_ | refine blk_alloc ?_ _)); exact BK464.out⟩, ⟨by repeat (first | (with_reducible first | exact HB.out | apply below_alloc | apply pw_below_drewN | apply below_drew1 | refine below_set ?_ GE464.out) | exact HB.out)⟩⟩
                  · rw [if_neg c14] at H
                    exact absurd H (by simp)
                · rw [if_neg c13] at H
                  exact absurd H (by simp)
              · rw [if_neg c12] at H
                exact absurd H (by simp)
            · rw [if_neg c11] at H
              have c11b0 : decide (x5_1 < (l0_1.length : Int)) = false := decide_eq_false c11
              clear c11
              simp only [Option.some.injEq, Prod.mk.injEq] at H
              obtain ⟨rfl, rfl⟩ := H
              have hcz20_0 : wr.cell? ⟨gb464, 0, none⟩ = some (.int .i64 a0_0) := (blk_cell BK464.out 0).trans rfl
              have hcz20_1 : wr.cell? ⟨gb464, 1, none⟩ = some (.slice A0_1 l0_1.length c0_1) := (blk_cell BK464.out 1).trans rfl
              have hcz20_2 : wr.cell? ⟨gb464, 2, none⟩ = some (.int .i64 a0_2) := (blk_cell BK464.out 2).trans rfl
              have hcz20_3 : wr.cell? ⟨gb464, 3, none⟩ = some (.int .i64 a0_3) := (blk_cell BK464.out 3).trans rfl
              have hcz20_4 : wr.cell? ⟨gb464, 4, none⟩ = some (.slice A0_4 l0_4.length c0_4) := (blk_cell BK464.out 4).trans rfl
              have hfz20_0 := blk_frozen BK464.out 0
              have hfz20_1 := blk_frozen BK464.out 1
              have hfz20_2 := blk_frozen BK464.out 2
              have hfz20_3 := blk_frozen BK464.out 3
              have hfz20_4 := blk_frozen BK464.out 4
              go_wp2
              go_ret2
              exact ⟨_, by first | rfl | (simp [errW_none, errW_some] <;> rfl) | (simp [*, errW_none, errW_some] <;> rfl), by (with_reducible repeat (first | apply Kd.R_alloc | apply Kd.R_drewN | apply Kd.R_drew)); exact HO_4.out, by repeat (first | (with_reducible first | exact HB.out | apply below_alloc | apply pw_below_drewN | apply below_drew1 | refine below_set ?_ GE464.out) | exact HB.out)⟩
      · rw [if_neg c5] at H
        exact absurd H (by simp)
    · rw [if_neg c4] at H
      exact absurd H (by simp)
  · replace c3 := Bool.eq_false_iff.mpr c3
    subst c3
    have H1 : (some ((([] : List Int)), 1)) = some (r1, r2) := by rw [if_neg (show ¬ (false = true) by decide)] at H; exact H
    clear H
    have H := H1
    clear H1
    obtain ⟨y466, hy466⟩ : ∃ y_ : List Int, y_ = (([] : List Int)) := ⟨_, rfl⟩
    replace H : (some (y466, 1)) = some (r1, r2) := by first | (rw [hy466]; with_reducible exact H) | (have H2_ := (Option.bind_some _ _).symm.trans H; rw [hy466]; with_reducible exact H2_) | (have H2_ := (Option.bind_some _ _).symm.trans H; with_reducible exact H2_) | with_reducible exact H | (rw [hy466]; exact H) | exact H
    have Ny466 := Aside0.mk hy466
    clear hy466
    simp only [Option.some.injEq, Prod.mk.injEq] at H
    obtain ⟨rfl, rfl⟩ := H
    go_enter Try.func42, Try.ntmps42
    go_wp2_with (first | ((with_reducible refine gate_dst (N := 1) rfl ?_); refine box_event ?hg (N := 1) ?hd (cs := #[.int .i64 a0_0, .slice A0_1 l0_1.length c0_1, .int .i64 a0_2, .int .i64 a0_3, .slice A0_4 l0_4.length c0_4]) (t := 48) ?hr ?_; (case hd => rfl); (case hg => rfl); (case hr => first | (go_simp; done) | (go_simp; rfl)); intro gb464 hg w21 hbox hb; have n0_ := Aside0.mk (below_step (by repeat (first | (with_reducible first | exact HB.out | apply below_alloc | apply pw_below_drewN | apply below_drew1) | exact HB.out)) hb); have n1_ := Aside0.mk (hbox); have n2_ := Aside0.mk ((by rw [hg]; exact (below_size (by repeat (first | (with_reducible first | exact HB.out | apply below_alloc | apply pw_below_drewN | apply below_drew1) | exact HB.out))) : w.heap.size ≤ gb464)); have n3_ := Aside0.mk ((by rw [hg]; exact (below_size (by repeat (first | (with_reducible first | exact HB.out | apply below_alloc | apply pw_below_drewN | apply below_drew1) | exact HB.out))) : w.heap.size ≤ gb464)); clear HB; have HB := n0_; have BK464 := n1_; have GW464 := n2_; have GE464 := n3_; clear n0_ n1_ n2_ n3_; clear hb hbox hg) | ((with_reducible refine gate_callee (f := 82) rfl ?_); refine goesL_ (some 6) rfl rfl Try.func82 (by kernel_rfl) rfl #[.pointer (some ⟨gb464, 0, none⟩)] rfl (by (try simp only [List.map_toArray, List.map_cons, List.map_nil]); first | done | rfl | (simp only [List.length_drop, List.length_take]; rfl)) ?_; (with_reducible refine (spec_l04Ok.calls k gb464 a0_0 A0_1 c0_1 l0_1 a0_2 a0_3 A0_4 c0_4 l0_4 false _ ?side1 ?side2 ?side3 ?side4 ?side5 A2.out).mono ?_); (case side1 => (with_reducible repeat (first | refine blk_drewN ?_ _ | refine blk_drew ?_ | refine blk_alloc ?_ _)); exact BK464.out); (case side2 => repeat (first | exact (Kd.C_below HR0_1.out HB.out) | (with_reducible refine Kd.C_alloc ?_ _) | (with_reducible refine Kd.C_drewN ?_ _) | (with_reducible refine Kd.C_drew ?_))); (case side3 => exact HC0_1.out); (case side4 => repeat (first | exact (Kd.C_below HR0_4.out HB.out) | (with_reducible refine Kd.C_alloc ?_ _) | (with_reducible refine Kd.C_drewN ?_ _) | (with_reducible refine Kd.C_drew ?_))); (case side5 => exact HC0_4.out); rintro e w22 ⟨rfl, hb⟩; refine ⟨_, rfl, ?_⟩; have n0_ := Aside0.mk (blk_below (g := gb464) (o := .cells #[.int .i64 a0_0, .slice A0_1 l0_1.length c0_1, .int .i64 a0_2, .int .i64 a0_3, .slice A0_4 l0_4.length c0_4] 48 (0, 0)) (by (with_reducible repeat (first | refine blk_drewN ?_ _ | refine blk_drew ?_ | refine blk_alloc ?_ _)); exact BK464.out) hb); have n1_ := Aside0.mk (below_step (by repeat (first | (with_reducible first | exact HB.out | apply below_alloc | apply pw_below_drewN | apply below_drew1 | refine below_set ?_ GE464.out) | exact HB.out)) hb); clear BK464; clear HB; have BK464 := n0_; have HB := n1_; clear n0_ n1_; (try clear hb); (try clear hb2); (try clear hk); (try clear hi)) | ((with_reducible refine gate_dst (N := 8) rfl ?_); refine Kd.R_lit (Kd.int .i64) _ 2 ?hg (N := 8) ?hd (xs := ([] : List Int)) (inner := []) (ok := fun _ => True) (okp := fun _ => True) ?hr ?hp (fun _ hk => hk) trivial (Below.refl _ _) (Nat.le_refl _) (by simp) ?_; (case hd => rfl); (case hg => rfl); (case hr => first | (go_simp; done) | (go_simp; rfl)); (case hp => exact (Reps.none _ _)); intro v467 w23 ho24 hb hg_ hnew_; clear hg_ hnew_; (first | rw [← Ny466.out] at ho24 | (simp only [Int.reduceToNat] at ho24; rw [← Ny466.out] at ho24)); have n0_ := Aside0.mk (Kd.R_lower ho24 (below_size (by repeat (first | (with_reducible first | exact HB.out | apply below_alloc | apply pw_below_drewN | apply below_drew1 | refine below_set ?_ GE464.out) | exact HB.out)))); have n1_ := Aside0.mk (blk_below (g := gb464) (o := .cells #[.int .i64 a0_0, .slice A0_1 l0_1.length c0_1, .int .i64 a0_2, .int .i64 a0_3, .slice A0_4 l0_4.length c0_4] 48 (0, 0)) (by (with_reducible repeat (first | refine blk_drewN ?_ _ | refine blk_drew ?_ | refine blk_alloc ?_ _)); exact BK464.out) hb); have n2_ := Aside0.mk (below_step (by repeat (first | (with_reducible first | exact HB.out | apply below_alloc | apply pw_below_drewN | apply below_drew1 | refine below_set ?_ GE464.out) | exact HB.out)) hb); clear BK464; clear HB; have HO468 := n0_; have BK464 := n1_; have HB := n2_; clear n0_ n1_ n2_; clear hb ho24))
    go_ret2
    exact ⟨_, by first | rfl | (simp [errW_none, errW_some] <;> rfl) | (simp [*, errW_none, errW_some] <;> rfl), by (with_reducible repeat (first | apply Kd.R_alloc | apply Kd.R_drewN | apply Kd.R_drew)); exact HO468.out, by repeat (first | (with_reducible first | exact HB.out | apply below_alloc | apply pw_below_drewN | apply below_drew1 | refine below_set ?_ GE464.out) | exact HB.out)⟩

end Go.Proofs.Ytopgelloghblaaa.P

namespace Go.Proofs.Ytopgelloghblaaa.P
open Go.RowKit Go.Proofs.YtopgelloghblaaaW.PrintWords Go.Proofs.YtopgelloghblaaaW.PrintLast Go.Proofs.YtopgelloghblaaaW.PrintMore
attribute [local go_sem] max2_int min2_int max_two min_two max_three min_three max_four min_four
set_option linter.unusedVariables false
set_option linter.unusedSimpArgs false

/-! ### impl_SizesOf: function 43 -/
def impl_SizesOf.l0 : Nat → List Int → List Int → Int → Int → Option (List Int × Int)
  | 0, _, _, _, _ => none
  | k + 1, x4, x14, x15, x16 => if x16 < x15 then (if 0 ≤ x16 then (if x16 < (x14.length : Int) then (if 0 ≤ (rd x14 x16) then (if (rd x14 x16) < (x4.length : Int) then (impl_SizesOf.l0 k (x4.set ((rd x14 x16) : Int).toNat (wrap64 ((rd x4 (rd x14 x16)) + 1))) x14 x15 (wrap64 (x16 + 1))) else (none)) else (none)) else (none)) else (none)) else (some (x4, 0))
def impl_SizesOf.f (k : Nat) (a0_0 : Int) (l0_1 : List Int) (a0_2 : Int) (a0_3 : Int) (l0_4 : List (List Int)) : Option (List Int × Int) := (impl_ValidScheme.f k a0_0 l0_1 a0_2 a0_3 l0_4).bind fun t476 => (if t476 = true then (if 0 ≤ a0_0 then (if (a0_0 : Int).toNat ≤ 35184372088832 then (impl_SizesOf.l0 k (List.replicate (a0_0 : Int).toNat 0) l0_1 (l0_1.length : Int) 0) else (none)) else (none)) else (some (([] : List Int), 1)))
theorem impl_SizesOf.mono_l : ∀ k, (∀ y0 y1 y2 y3, LeO (impl_SizesOf.l0 k y0 y1 y2 y3) (impl_SizesOf.l0 (k + 1) y0 y1 y2 y3))
  | 0 => fun _ _ _ _ r h => by simp [impl_SizesOf.l0] at h
  | k + 1 => by
    have ih0 := impl_SizesOf.mono_l k
    · intro y0 y1 y2 y3
      unfold impl_SizesOf.l0
      repeat' first
      | (with_reducible exact ih0 _ _ _ _)
      | (with_reducible exact impl_ValidScheme.mono _ _ _ _ _ _)
      | (with_reducible exact LeO.refl _)
      | (with_reducible exact LeO.none _)
      | (with_reducible refine LeO.ite ?_ ?_)
      | (with_reducible refine LeO.bind ?_ (fun _ => ?_))
      | exact ih0 _ _ _ _
      | exact impl_ValidScheme.mono _ _ _ _ _ _
      | exact LeO.none _
      | refine LeO.ite ?_ ?_
      | refine LeO.bind ?_ (fun _ => ?_)
theorem impl_SizesOf.mono : ∀ a0 a1 a2 a3 a4 k, LeO (impl_SizesOf.f k a0 a1 a2 a3 a4) (impl_SizesOf.f (k + 1) a0 a1 a2 a3 a4) := by
  intro a0 a1 a2 a3 a4 k
  have ih0 := impl_SizesOf.mono_l k
  unfold impl_SizesOf.f
  repeat' first
      | (with_reducible exact ih0 _ _ _ _)
      | (with_reducible exact impl_ValidScheme.mono _ _ _ _ _ _)
      | (with_reducible exact LeO.refl _)
      | (with_reducible exact LeO.none _)
      | (with_reducible refine LeO.ite ?_ ?_)
      | (with_reducible refine LeO.bind ?_ (fun _ => ?_))
      | exact ih0 _ _ _ _
      | exact impl_ValidScheme.mono _ _ _ _ _ _
      | exact LeO.none _
      | refine LeO.ite ?_ ?_
      | refine LeO.bind ?_ (fun _ => ?_)
set_option maxHeartbeats 8000000 in
set_option maxRecDepth 100000 in
theorem impl_SizesOf.calls (k : Nat) (a0_0 : Int) (A0_1 : Option Addr) (c0_1 : Nat) (l0_1 : List Int) (a0_2 : Int) (a0_3 : Int) (A0_4 : Option Addr) (c0_4 : Nat) (l0_4 : List (List Int)) (r1 : List Int) (r2 : Int) (w : World) (hr0_1 : Kd.C (Kd.int .i64) w A0_1 l0_1.length l0_1) (hc0_1 : l0_1.length ≤ c0_1) (hr0_4 : Kd.C (Kd.slice 2 (Kd.int .i64)) w A0_4 l0_4.length l0_4) (hc0_4 : l0_4.length ≤ c0_4) (h : impl_SizesOf.f k a0_0 l0_1 a0_2 a0_3 l0_4 = some (r1, r2)) :
    Calls Try.prog 43 #[.agg #[.int .i64 a0_0, .slice A0_1 l0_1.length c0_1, .int .i64 a0_2, .int .i64 a0_3, .slice A0_4 l0_4.length c0_4]] w fun e w' => ∃ v0_ : Value, e = .returned (.tuple #[v0_, .int .i64 r2]) ∧ Kd.R (Kd.int .i64) 2 w' w.heap.size (fun _ => True) v0_ r1 ∧ Below w.heap.size w w' := by
  have hu48 := Try.underlying48
  have HR0_1 := Aside0.mk hr0_1
  have HC0_1 := Aside0.mk hc0_1
  clear hr0_1 hc0_1
  have HR0_4 := Aside0.mk hr0_4
  have HC0_4 := Aside0.mk hc0_4
  clear hr0_4 hc0_4
  have HB := Aside0.mk (Below.refl w.heap.size w)
  have H : ((impl_ValidScheme.f k a0_0 l0_1 a0_2 a0_3 l0_4).bind fun t476 => (if t476 = true then (if 0 ≤ a0_0 then (if (a0_0 : Int).toNat ≤ 35184372088832 then (impl_SizesOf.l0 k (List.replicate (a0_0 : Int).toNat 0) l0_1 (l0_1.length : Int) 0) else (none)) else (none)) else (some (([] : List Int), 1)))) = some (r1, r2) := h
  clear h
  replace H := Option.bind_eq_some_iff.mp H
  obtain ⟨t476, A20, H⟩ := H
  replace H : (if t476 = true then (if 0 ≤ a0_0 then (if (a0_0 : Int).toNat ≤ 35184372088832 then (impl_SizesOf.l0 k (List.replicate (a0_0 : Int).toNat 0) l0_1 (l0_1.length : Int) 0) else (none)) else (none)) else (some (([] : List Int), 1))) = some (r1, r2) := H
  have A2 := Aside0.mk A20
  clear A20
  by_cases c3 : t476 = true
  · subst c3
    have H1 : (if 0 ≤ a0_0 then (if (a0_0 : Int).toNat ≤ 35184372088832 then (impl_SizesOf.l0 k (List.replicate (a0_0 : Int).toNat 0) l0_1 (l0_1.length : Int) 0) else (none)) else (none)) = some (r1, r2) := by rw [if_pos rfl] at H; exact H
    clear H
    have H := H1
    clear H1
    by_cases c4 : 0 ≤ a0_0
    · rw [if_pos c4] at H
      have c4b0 := eq_true c4
      have c4b1 : decide (0 ≤ a0_0) = true := decide_eq_true c4
      clear c4
      by_cases c5 : (a0_0 : Int).toNat ≤ 35184372088832
      · rw [if_pos c5] at H
        have c5b0 := eq_true c5
        have c5b1 : decide ((a0_0 : Int).toNat ≤ 35184372088832) = true := decide_eq_true c5
        clear c5
        obtain ⟨y477, hy477⟩ : ∃ y_ : List Int, y_ = (List.replicate (a0_0 : Int).toNat 0) := ⟨_, rfl⟩
        replace H : (impl_SizesOf.l0 k y477 l0_1 (l0_1.length : Int) 0) = some (r1, r2) := by first | (rw [hy477]; with_reducible exact H) | (have H2_ := (Option.bind_some _ _).symm.trans H; rw [hy477]; with_reducible exact H2_) | (have H2_ := (Option.bind_some _ _).symm.trans H; with_reducible exact H2_) | with_reducible exact H | (rw [hy477]; exact H) | exact H
        have Ny477 := Aside0.mk hy477
        clear hy477
        have H' := Aside0.mk H
        clear H
        go_enter Try.func43, Try.ntmps43
        go_wp2_with (first | ((with_reducible refine gate_dst (N := 1) rfl ?_); refine box_event ?hg (N := 1) ?hd (cs := #[.int .i64 a0_0, .slice A0_1 l0_1.length c0_1, .int .i64 a0_2, .int .i64 a0_3, .slice A0_4 l0_4.length c0_4]) (t := 48) ?hr ?_; (case hd => rfl); (case hg => rfl); (case hr => first | (go_simp; done) | (go_simp; rfl)); intro gb475 hg w6 hbox hb; have n0_ := Aside0.mk (below_step (by repeat (first | (with_reducible first | exact HB.out | apply below_alloc | apply pw_below_drewN | apply below_drew1) | exact HB.out)) hb); have n1_ := Aside0.mk (hbox); have n2_ := Aside0.mk ((by rw [hg]; exact (below_size (by repeat (first | (with_reducible first | exact HB.out | apply below_alloc | apply pw_below_drewN | apply below_drew1) | exact HB.out))) : w.heap.size ≤ gb475)); have n3_ := Aside0.mk ((by rw [hg]; exact (below_size (by repeat (first | (with_reducible first | exact HB.out | apply below_alloc | apply pw_below_drewN | apply below_drew1) | exact HB.out))) : w.heap.size ≤ gb475)); clear HB; have HB := n0_; have BK475 := n1_; have GW475 := n2_; have GE475 := n3_; clear n0_ n1_ n2_ n3_; clear hb hbox hg; have hcz7_0 : w6.cell? ⟨gb475, 0, none⟩ = some (.int .i64 a0_0) := (blk_cell BK475.out 0).trans rfl; have hcz7_1 : w6.cell? ⟨gb475, 1, none⟩ = some (.slice A0_1 l0_1.length c0_1) := (blk_cell BK475.out 1).trans rfl; have hcz7_2 : w6.cell? ⟨gb475, 2, none⟩ = some (.int .i64 a0_2) := (blk_cell BK475.out 2).trans rfl; have hcz7_3 : w6.cell? ⟨gb475, 3, none⟩ = some (.int .i64 a0_3) := (blk_cell BK475.out 3).trans rfl; have hcz7_4 : w6.cell? ⟨gb475, 4, none⟩ = some (.slice A0_4 l0_4.length c0_4) := (blk_cell BK475.out 4).trans rfl; have hfz7_0 := blk_frozen BK475.out 0; have hfz7_1 := blk_frozen BK475.out 1; have hfz7_2 := blk_frozen BK475.out 2; have hfz7_3 := blk_frozen BK475.out 3; have hfz7_4 := blk_frozen BK475.out 4) | ((with_reducible refine gate_callee (f := 45) rfl ?_); refine goesL_ (some 8) rfl rfl Try.func45 (by kernel_rfl) rfl #[.agg #[.int .i64 a0_0, .slice A0_1 l0_1.length c0_1, .int .i64 a0_2, .int .i64 a0_3, .slice A0_4 l0_4.length c0_4]] rfl (by (try simp only [List.map_toArray, List.map_cons, List.map_nil]); first | done | rfl | (simp only [List.length_drop, List.length_take]; rfl)) ?_; (with_reducible refine (impl_ValidScheme.calls k a0_0 _ _ l0_1 a0_2 a0_3 _ _ l0_4 true _ ?side1 ?side2 ?side3 ?side4 A2.out).mono ?_); (case side1 => repeat (first | exact (Kd.C_below HR0_1.out HB.out) | (with_reducible refine Kd.C_alloc ?_ _) | (with_reducible refine Kd.C_drewN ?_ _) | (with_reducible refine Kd.C_drew ?_))); (case side2 => exact HC0_1.out); (case side3 => repeat (first | exact (Kd.C_below HR0_4.out HB.out) | (with_reducible refine Kd.C_alloc ?_ _) | (with_reducible refine Kd.C_drewN ?_ _) | (with_reducible refine Kd.C_drew ?_))); (case side4 => exact HC0_4.out); rintro e w8 ⟨rfl, hb⟩; refine ⟨_, rfl, ?_⟩; have n0_ := Aside0.mk (blk_below (g := gb475) (o := .cells #[.int .i64 a0_0, .slice A0_1 l0_1.length c0_1, .int .i64 a0_2, .int .i64 a0_3, .slice A0_4 l0_4.length c0_4] 48 (0, 0)) (by (with_reducible repeat (first | refine blk_drewN ?_ _ | refine blk_drew ?_ | refine blk_alloc ?_ _)); exact BK475.out) hb); have n1_ := Aside0.mk (below_step (by repeat (first | (with_reducible first | exact HB.out | apply below_alloc | apply pw_below_drewN | apply below_drew1 | refine below_set ?_ GE475.out) | exact HB.out)) hb); clear BK475; clear HB; have BK475 := n0_; have HB := n1_; clear n0_ n1_; (try clear hb); (try clear hb2); (try clear hk); (try clear hi); have hcz9_0 : w8.cell? ⟨gb475, 0, none⟩ = some (.int .i64 a0_0) := (blk_cell BK475.out 0).trans rfl; have hcz9_1 : w8.cell? ⟨gb475, 1, none⟩ = some (.slice A0_1 l0_1.length c0_1) := (blk_cell BK475.out 1).trans rfl; have hcz9_2 : w8.cell? ⟨gb475, 2, none⟩ = some (.int .i64 a0_2) := (blk_cell BK475.out 2).trans rfl; have hcz9_3 : w8.cell? ⟨gb475, 3, none⟩ = some (.int .i64 a0_3) := (blk_cell BK475.out 3).trans rfl; have hcz9_4 : w8.cell? ⟨gb475, 4, none⟩ = some (.slice A0_4 l0_4.length c0_4) := (blk_cell BK475.out 4).trans rfl; have hfz9_0 := blk_frozen BK475.out 0; have hfz9_1 := blk_frozen BK475.out 1; have hfz9_2 := blk_frozen BK475.out 2; have hfz9_3 := blk_frozen BK475.out 3; have hfz9_4 := blk_frozen BK475.out 4) | ((with_reducible refine gate_dst (N := 12) rfl ?_); refine Kd.R_make (Kd.int .i64) _ 2 rfl (N := 12) rfl 32 _ _ rfl a0_0 rfl rfl Try.underlying32 (.int .i64 0) 8 info2 rfl (by decide) (by omega) 0 (ok := fun _ => True) (okp := fun _ => True) rfl (fun _ hk => hk) trivial (of_decide_eq_true (by first | (with_reducible assumption) | assumption)) (Nat.le_trans (Nat.mul_le_mul_right _ (of_decide_eq_true (by first | (with_reducible assumption) | assumption) : a0_0.toNat ≤ 35184372088832)) (by omega)) (Below.refl _ _) (Nat.le_refl _) ?_; intro v478 w10 ho11 hb hg_ hnew_; clear hg_ hnew_; (first | rw [← Ny477.out] at ho11 | (simp only [Int.reduceToNat] at ho11; rw [← Ny477.out] at ho11)); have n0_ := Aside0.mk (Kd.R_lower ho11 (below_size (by repeat (first | (with_reducible first | exact HB.out | apply below_alloc | apply pw_below_drewN | apply below_drew1 | refine below_set ?_ GE475.out) | exact HB.out)))); have n1_ := Aside0.mk (blk_below (g := gb475) (o := .cells #[.int .i64 a0_0, .slice A0_1 l0_1.length c0_1, .int .i64 a0_2, .int .i64 a0_3, .slice A0_4 l0_4.length c0_4] 48 (0, 0)) (by (with_reducible repeat (first | refine blk_drewN ?_ _ | refine blk_drew ?_ | refine blk_alloc ?_ _)); exact BK475.out) hb); have n2_ := Aside0.mk (below_step (by repeat (first | (with_reducible first | exact HB.out | apply below_alloc | apply pw_below_drewN | apply below_drew1 | refine below_set ?_ GE475.out) | exact HB.out)) hb); clear BK475; clear HB; have HO479 := n0_; have BK475 := n1_; have HB := n2_; clear n0_ n1_ n2_; clear hb ho11; have hcz12_0 : w10.cell? ⟨gb475, 0, none⟩ = some (.int .i64 a0_0) := (blk_cell BK475.out 0).trans rfl; have hcz12_1 : w10.cell? ⟨gb475, 1, none⟩ = some (.slice A0_1 l0_1.length c0_1) := (blk_cell BK475.out 1).trans rfl; have hcz12_2 : w10.cell? ⟨gb475, 2, none⟩ = some (.int .i64 a0_2) := (blk_cell BK475.out 2).trans rfl; have hcz12_3 : w10.cell? ⟨gb475, 3, none⟩ = some (.int .i64 a0_3) := (blk_cell BK475.out 3).trans rfl; have hcz12_4 : w10.cell? ⟨gb475, 4, none⟩ = some (.slice A0_4 l0_4.length c0_4) := (blk_cell BK475.out 4).trans rfl; have hfz12_0 := blk_frozen BK475.out 0; have hfz12_1 := blk_frozen BK475.out 1; have hfz12_2 := blk_frozen BK475.out 2; have hfz12_3 := blk_frozen BK475.out 3; have hfz12_4 := blk_frozen BK475.out 4))
        go_loopg [16] k (fun kq v16 w' => ∃ (x4_1 : List Int) (x16_1 : Int), v16 = .int .i64 x16_1 ∧ Aside0 (impl_SizesOf.l0 kq x4_1 l0_1 (l0_1.length : Int) x16_1 = some (r1, r2)) ∧ Aside0 (kq ≤ k) ∧ Aside0 (Kd.R (Kd.int .i64) 2 w' w.heap.size (fun _ => True) v478 x4_1) ∧ Aside0 (w'.heap[gb475]? = some (.cells #[.int .i64 a0_0, (.slice A0_1 l0_1.length c0_1), .int .i64 a0_2, .int .i64 a0_3, (.slice A0_4 l0_4.length c0_4)] 48 (0, 0))) ∧ Aside0 (Below w.heap.size w w'))
        case atStart => exact ⟨(y477), (0), (by first | rfl | (simp; done) | (simp [*]; done)), H', ⟨Nat.le_refl _⟩, ⟨by (with_reducible repeat (first | apply Kd.R_alloc | apply Kd.R_drewN | apply Kd.R_drew)); exact HO479.out⟩, ⟨by (with_reducible repeat (first | refine blk_drewN ?_ _ | refine blk_drew ?_ | refine blk_alloc ?_ _)); exact BK475.out⟩, ⟨by repeat (first | (with_reducible first | exact HB.out | apply below_alloc | apply pw_below_drewN | apply below_drew1 | refine below_set ?_ GE475.out) | exact HB.out)⟩⟩
        case round =>
          clear H'
          try clear p2
          try clear c3
          try clear c4
          try clear c4b0
          try clear c4b1
          try clear c5
          try clear c5b0
          try clear c5b1
          try clear hcz12_0
          try clear hcz12_1
          try clear hcz12_2
          try clear hcz12_3
          try clear hcz12_4
          try clear hcz7_0
          try clear hcz7_1
          try clear hcz7_2
          try clear hcz7_3
          try clear hcz7_4
          try clear hcz9_0
          try clear hcz9_1
          try clear hcz9_2
          try clear hcz9_3
          try clear hcz9_4
          try clear hfz12_0
          try clear hfz12_1
          try clear hfz12_2
          try clear hfz12_3
          try clear hfz12_4
          try clear hfz7_0
          try clear hfz7_1
          try clear hfz7_2
          try clear hfz7_3
          try clear hfz7_4
          try clear hfz9_0
          try clear hfz9_1
          try clear hfz9_2
          try clear hfz9_3
          try clear hfz9_4
          obtain ⟨x4_1, x16_1, rfl, HA, HK1, HO_4, BK475, HB⟩ := hrel
          cases gk with
          | zero => exact absurd HA.out (by simp [impl_SizesOf.l0])
          | succ k1 =>
            have H := HA.out
            clear HA
            simp only [impl_SizesOf.l0] at H
            by_cases c13 : x16_1 < (l0_1.length : Int)
            · rw [if_pos c13] at H
              have c13b0 : decide (x16_1 < (l0_1.length : Int)) = true := decide_eq_true c13
              clear c13
              by_cases c14 : 0 ≤ x16_1
              · rw [if_pos c14] at H
                have c14b0 : decide (0 ≤ x16_1) = true := decide_eq_true c14
                clear c14
                by_cases c15 : x16_1 < (l0_1.length : Int)
                · rw [if_pos c15] at H
                  have c15b0 : decide (x16_1 < (l0_1.length : Int)) = true := decide_eq_true c15
                  clear c15
                  by_cases c16 : 0 ≤ (rd l0_1 x16_1)
                  · rw [if_pos c16] at H
                    have c16b0 : decide (0 ≤ (rd l0_1 x16_1)) = true := decide_eq_true c16
                    clear c16
                    by_cases c17 : (rd l0_1 x16_1) < (x4_1.length : Int)
                    · rw [if_pos c17] at H
                      have c17b0 : decide ((rd l0_1 x16_1) < (x4_1.length : Int)) = true := decide_eq_true c17
                      clear c17
                      obtain ⟨y482, hy482⟩ : ∃ y_ : List Int, y_ = (x4_1.set ((rd l0_1 x16_1) : Int).toNat (wrap64 ((rd x4_1 (rd l0_1 x16_1)) + 1))) := ⟨_, rfl⟩
                      replace H : (impl_SizesOf.l0 k1 y482 l0_1 (l0_1.length : Int) (wrap64 (x16_1 + 1))) = some (r1, r2) := by first | (rw [hy482]; with_reducible exact H) | (have H2_ := (Option.bind_some _ _).symm.trans H; rw [hy482]; with_reducible exact H2_) | (have H2_ := (Option.bind_some _ _).symm.trans H; with_reducible exact H2_) | with_reducible exact H | (rw [hy482]; exact H) | exact H
                      have Ny482 := Aside0.mk hy482
                      clear hy482
                      have H' := Aside0.mk H
                      clear H
                      have p480 : 0 ≤ (x16_1 : Int) := of_decide_eq_true (by first | (with_reducible assumption) | assumption)
                      have q480 : x16_1 < (l0_1.length : Int) := of_decide_eq_true (by first | (with_reducible assumption) | assumption)
                      obtain ⟨ad480, e480, hx480_0⟩ := Kd.at_int HR0_1.out x16_1 p480 q480
                      cases e480
                      replace hx480_0 := (HB.out.cell (World.block_lt_of_cell? w _ hx480_0)).trans hx480_0
                      replace p480 := eq_true p480
                      replace q480 := eq_true q480
                      obtain ⟨Ao19, co19, eo19⟩ := Kd.R_slice HO_4.out
                      subst eo19
                      have p481 : 0 ≤ ((rd l0_1 x16_1) : Int) := of_decide_eq_true (by first | (with_reducible assumption) | assumption)
                      have q481 : (rd l0_1 x16_1) < (x4_1.length : Int) := of_decide_eq_true (by first | (with_reducible assumption) | assumption)
                      obtain ⟨ad481, e481, hx481_0⟩ := Kd.at_int (Kd.R_reads' HO_4.out).2.2 (rd l0_1 x16_1) p481 q481
                      cases e481
                      replace p481 := eq_true p481
                      replace q481 := eq_true q481
                      have p18 : 0 ≤ ((rd l0_1 x16_1) : Int) := of_decide_eq_true (by first | (with_reducible assumption) | assumption)
                      have q18 : ((rd l0_1 x16_1) : Int) < ((x4_1.length : Int) : Int) := of_decide_eq_true (by first | (with_reducible assumption) | assumption)
                      obtain ⟨go18, co18, eo18, gb18, gl18, cl18, HG18⟩ := Kd.R_form HO_4.out (by omega)
                      (first | cases eo18 | (injection eo18 with ea_ en_ ec_; (first | subst ea_ | (injection ea_ with ea_; subst ea_)); subst ec_; clear en_))
                      have GB18 := Aside0.mk gb18
                      have GG18 := Aside0.mk HG18
                      clear gb18 gl18 HG18
                      (first | simp only [add_plain] at hx481_0 | skip)
                      obtain ⟨hx18_0, hf18_0⟩ := Kd.R_celln 0 HO_4.out ((rd l0_1 x16_1) : Int) p18 q18
                      replace p18 := eq_true p18
                      replace q18 := eq_true q18
                      have HP20 := Kd.R_putg HO_4.out ((rd l0_1 x16_1) : Int) (wrap64 ((rd x4_1 (rd l0_1 x16_1)) + 1))
                      go_wp2_with (first | ((with_reducible refine gate_store (t := 2) (p := 25) rfl ?_); refine store_event (t := 2) (p := 25) (v := ?vo_w21) (w1 := (wr.setCell ⟨go18, ((rd l0_1 x16_1) : Int).toNat, none⟩ (.int .i64 (wrap64 ((rd x4_1 (rd l0_1 x16_1)) + 1))))) ?hg ?ho ?hn ?hr ?_; (case ho => rfl); (case hg => rfl); (case hn => rfl); (case hr => first | (go_simp; done) | (go_simp; rfl)); intro w21 hw; have hg : wr.grownBy w21 (some go18) := (by rw [hw]; exact HP20.2); have hp_ : Kd.R (Kd.int .i64) 2 w21 w.heap.size (fun _ => True) (.slice (some ⟨go18, 0, none⟩) x4_1.length co19) y482 := (by rw [hw, Ny482.out]; exact HP20.1); clear HP20; have n0_ := Aside0.mk (hp_); have n1_ := Aside0.mk (blk_grown (g := gb475) (o := .cells #[.int .i64 a0_0, .slice (some ad480) l0_1.length c0_1, .int .i64 a0_2, .int .i64 a0_3, .slice A0_4 l0_4.length c0_4] 48 (0, 0)) (by (with_reducible repeat (first | refine blk_drewN ?_ _ | refine blk_drew ?_ | refine blk_alloc ?_ _)); exact BK475.out) hg (Kd.R_ne HO_4.out BK475.out (by decide))); have n2_ := Aside0.mk ((by rw [hw]; exact below_set (HB.out) GB18.out : Below w.heap.size w w21)); clear HO_4; clear BK475; clear HB; have HO_4 := n0_; have BK475 := n1_; have HB := n2_; clear n0_ n1_ n2_; clear hg hw hp_))
                      go_roundg k1
                      case measure => have := HK1.out; omega
                      case rel => exact ⟨(y482), (wrap64 (x16_1 + 1)), (by first | rfl | (simp; done) | (simp [*]; done)), H', ⟨by have := HK1.out; omega⟩, ⟨by (with_reducible repeat (first | apply Kd.R_alloc | apply Kd.R_drewN | apply Kd.R_drew)); exact HO_4.out⟩, ⟨by (with_reducible repeat (first | refine blk_drewN ?_ _ | refine blk_drew ?_ | refine blk_alloc ?_ _)); exact BK475.out⟩, ⟨by repeat (first | (with_reducible first | exact HB.out | apply below_alloc | apply pw_below_drewN | apply below_drew1 | refine below_set ?_ GE475.out) | exact HB.out)⟩⟩
                    · rw [if_neg c17] at H
                      exact absurd H (by simp)
                  · rw [if_neg c16] at H
                    exact absurd H (by simp)
                · rw [if_neg c15] at H
                  exact absurd H (by simp)
              · rw [if_neg c14] at H
                exact absurd H (by simp)
            · rw [if_neg c13] at H
              have c13b0 : decide (x16_1 < (l0_1.length : Int)) = false := decide_eq_false c13
              clear c13
              simp only [Option.some.injEq, Prod.mk.injEq] at H
              obtain ⟨rfl, rfl⟩ := H
              go_wp2
              go_ret2
              exact ⟨_, by first | rfl | (simp [errW_none, errW_some] <;> rfl) | (simp [*, errW_none, errW_some] <;> rfl), by (with_reducible repeat (first | apply Kd.R_alloc | apply Kd.R_drewN | apply Kd.R_drew)); exact HO_4.out, by repeat (first | (with_reducible first | exact HB.out | apply below_alloc | apply pw_below_drewN | apply below_drew1 | refine below_set ?_ GE475.out) | exact HB.out)⟩
      · rw [if_neg c5] at H
        exact absurd H (by simp)
    · rw [if_neg c4] at H
      exact absurd H (by simp)
  · replace c3 := Bool.eq_false_iff.mpr c3
    subst c3
    have H1 : (some (([] : List Int), 1)) = some (r1, r2) := by rw [if_neg (show ¬ (false = true) by decide)] at H; exact H
    clear H
    have H := H1
    clear H1
    simp only [Option.some.injEq, Prod.mk.injEq] at H
    obtain ⟨rfl, rfl⟩ := H
    go_enter Try.func43, Try.ntmps43
    go_wp2_with (first | ((with_reducible refine gate_dst (N := 1) rfl ?_); refine box_event ?hg (N := 1) ?hd (cs := #[.int .i64 a0_0, .slice A0_1 l0_1.length c0_1, .int .i64 a0_2, .int .i64 a0_3, .slice A0_4 l0_4.length c0_4]) (t := 48) ?hr ?_; (case hd => rfl); (case hg => rfl); (case hr => first | (go_simp; done) | (go_simp; rfl)); intro gb475 hg w22 hbox hb; have n0_ := Aside0.mk (below_step (by repeat (first | (with_reducible first | exact HB.out | apply below_alloc | apply pw_below_drewN | apply below_drew1) | exact HB.out)) hb); have n1_ := Aside0.mk (hbox); have n2_ := Aside0.mk ((by rw [hg]; exact (below_size (by repeat (first | (with_reducible first | exact HB.out | apply below_alloc | apply pw_below_drewN | apply below_drew1) | exact HB.out))) : w.heap.size ≤ gb475)); have n3_ := Aside0.mk ((by rw [hg]; exact (below_size (by repeat (first | (with_reducible first | exact HB.out | apply below_alloc | apply pw_below_drewN | apply below_drew1) | exact HB.out))) : w.heap.size ≤ gb475)); clear HB; have HB := n0_; have BK475 := n1_; have GW475 := n2_; have GE475 := n3_; clear n0_ n1_ n2_ n3_; clear hb hbox hg; have hcz23_0 : w22.cell? ⟨gb475, 0, none⟩ = some (.int .i64 a0_0) := (blk_cell BK475.out 0).trans rfl; have hcz23_1 : w22.cell? ⟨gb475, 1, none⟩ = some (.slice A0_1 l0_1.length c0_1) := (blk_cell BK475.out 1).trans rfl; have hcz23_2 : w22.cell? ⟨gb475, 2, none⟩ = some (.int .i64 a0_2) := (blk_cell BK475.out 2).trans rfl; have hcz23_3 : w22.cell? ⟨gb475, 3, none⟩ = some (.int .i64 a0_3) := (blk_cell BK475.out 3).trans rfl; have hcz23_4 : w22.cell? ⟨gb475, 4, none⟩ = some (.slice A0_4 l0_4.length c0_4) := (blk_cell BK475.out 4).trans rfl; have hfz23_0 := blk_frozen BK475.out 0; have hfz23_1 := blk_frozen BK475.out 1; have hfz23_2 := blk_frozen BK475.out 2; have hfz23_3 := blk_frozen BK475.out 3; have hfz23_4 := blk_frozen BK475.out 4) | ((with_reducible refine gate_callee (f := 45) rfl ?_); refine goesL_ (some 8) rfl rfl Try.func45 (by kernel_rfl) rfl #[.agg #[.int .i64 a0_0, .slice A0_1 l0_1.length c0_1, .int .i64 a0_2, .int .i64 a0_3, .slice A0_4 l0_4.length c0_4]] rfl (by (try simp only [List.map_toArray, List.map_cons, List.map_nil]); first | done | rfl | (simp only [List.length_drop, List.length_take]; rfl)) ?_; (with_reducible refine (impl_ValidScheme.calls k a0_0 _ _ l0_1 a0_2 a0_3 _ _ l0_4 false _ ?side1 ?side2 ?side3 ?side4 A2.out).mono ?_); (case side1 => repeat (first | exact (Kd.C_below HR0_1.out HB.out) | (with_reducible refine Kd.C_alloc ?_ _) | (with_reducible refine Kd.C_drewN ?_ _) | (with_reducible refine Kd.C_drew ?_))); (case side2 => exact HC0_1.out); (case side3 => repeat (first | exact (Kd.C_below HR0_4.out HB.out) | (with_reducible refine Kd.C_alloc ?_ _) | (with_reducible refine Kd.C_drewN ?_ _) | (with_reducible refine Kd.C_drew ?_))); (case side4 => exact HC0_4.out); rintro e w24 ⟨rfl, hb⟩; refine ⟨_, rfl, ?_⟩; have n0_ := Aside0.mk (blk_below (g := gb475) (o := .cells #[.int .i64 a0_0, .slice A0_1 l0_1.length c0_1, .int .i64 a0_2, .int .i64 a0_3, .slice A0_4 l0_4.length c0_4] 48 (0, 0)) (by (with_reducible repeat (first | refine blk_drewN ?_ _ | refine blk_drew ?_ | refine blk_alloc ?_ _)); exact BK475.out) hb); have n1_ := Aside0.mk (below_step (by repeat (first | (with_reducible first | exact HB.out | apply below_alloc | apply pw_below_drewN | apply below_drew1 | refine below_set ?_ GE475.out) | exact HB.out)) hb); clear BK475; clear HB; have BK475 := n0_; have HB := n1_; clear n0_ n1_; (try clear hb); (try clear hb2); (try clear hk); (try clear hi)))
    go_ret2
    exact ⟨_, by first | rfl | (simp [errW_none, errW_some] <;> rfl) | (simp [*, errW_none, errW_some] <;> rfl), by first | exact Kd.R_nil _ _ _ _ _ | exact Kd.N_nil _ _ _ _ _ | exact Kd.V_nil _ _ _ _ _ | exact Kd.Q_nil _ _ _ _ _ | exact Kd.S_nil _ _ _ _ _, by repeat (first | (with_reducible first | exact HB.out | apply below_alloc | apply pw_below_drewN | apply below_drew1 | refine below_set ?_ GE475.out) | exact HB.out)⟩

end Go.Proofs.Ytopgelloghblaaa.P

namespace Go.Proofs.Ytopgelloghblaaa.P
open Go.RowKit Go.Proofs.YtopgelloghblaaaW.PrintWords Go.Proofs.YtopgelloghblaaaW.PrintLast Go.Proofs.YtopgelloghblaaaW.PrintMore
attribute [local go_sem] max2_int min2_int max_two min_two max_three min_three max_four min_four
set_option linter.unusedVariables false
set_option linter.unusedSimpArgs false

/-! ### spec_ValidScheme: function 44 -/
def spec_ValidScheme.f (k : Nat) (a0_0 : Int) (l0_1 : List Int) (a0_2 : Int) (a0_3 : Int) (l0_4 : List (List Int)) : Option (Bool) := (spec_l04Ok.f k a0_0 l0_1 a0_2 a0_3 l0_4).bind fun t484 => (some t484)
theorem spec_ValidScheme.mono : ∀ a0 a1 a2 a3 a4 k, LeO (spec_ValidScheme.f k a0 a1 a2 a3 a4) (spec_ValidScheme.f (k + 1) a0 a1 a2 a3 a4) := by
  intro a0 a1 a2 a3 a4 k
  unfold spec_ValidScheme.f
  repeat' first
      | (with_reducible exact spec_l04Ok.mono _ _ _ _ _ _)
      | (with_reducible exact LeO.refl _)
      | (with_reducible exact LeO.none _)
      | (with_reducible refine LeO.ite ?_ ?_)
      | (with_reducible refine LeO.bind ?_ (fun _ => ?_))
      | exact spec_l04Ok.mono _ _ _ _ _ _
      | exact LeO.none _
      | refine LeO.ite ?_ ?_
      | refine LeO.bind ?_ (fun _ => ?_)
set_option maxHeartbeats 8000000 in
set_option maxRecDepth 100000 in
theorem spec_ValidScheme.calls (k : Nat) (a0_0 : Int) (A0_1 : Option Addr) (c0_1 : Nat) (l0_1 : List Int) (a0_2 : Int) (a0_3 : Int) (A0_4 : Option Addr) (c0_4 : Nat) (l0_4 : List (List Int)) (r : Bool) (w : World) (hr0_1 : Kd.C (Kd.int .i64) w A0_1 l0_1.length l0_1) (hc0_1 : l0_1.length ≤ c0_1) (hr0_4 : Kd.C (Kd.slice 2 (Kd.int .i64)) w A0_4 l0_4.length l0_4) (hc0_4 : l0_4.length ≤ c0_4) (h : spec_ValidScheme.f k a0_0 l0_1 a0_2 a0_3 l0_4 = some r) :
    Calls Try.prog 44 #[.agg #[.int .i64 a0_0, .slice A0_1 l0_1.length c0_1, .int .i64 a0_2, .int .i64 a0_3, .slice A0_4 l0_4.length c0_4]] w fun e w' => e = .returned (.bool r) ∧ Below w.heap.size w w' := by
  have hu48 := Try.underlying48
  have HR0_1 := Aside0.mk hr0_1
  have HC0_1 := Aside0.mk hc0_1
  clear hr0_1 hc0_1
  have HR0_4 := Aside0.mk hr0_4
  have HC0_4 := Aside0.mk hc0_4
  clear hr0_4 hc0_4
  have HB := Aside0.mk (Below.refl w.heap.size w)
  have H : ((spec_l04Ok.f k a0_0 l0_1 a0_2 a0_3 l0_4).bind fun t484 => (some t484)) = some r := h
  clear h
  replace H := Option.bind_eq_some_iff.mp H
  obtain ⟨t484, A20, H⟩ := H
  replace H : (some t484) = some r := H
  have A2 := Aside0.mk A20
  clear A20
  obtain rfl := Option.some.inj H
  go_enter Try.func44, Try.ntmps44
  go_wp2_with (first | ((with_reducible refine gate_dst (N := 1) rfl ?_); refine box_event ?hg (N := 1) ?hd (cs := #[.int .i64 a0_0, .slice A0_1 l0_1.length c0_1, .int .i64 a0_2, .int .i64 a0_3, .slice A0_4 l0_4.length c0_4]) (t := 48) ?hr ?_; (case hd => rfl); (case hg => rfl); (case hr => first | (go_simp; done) | (go_simp; rfl)); intro gb483 hg w3 hbox hb; have n0_ := Aside0.mk (below_step (by repeat (first | (with_reducible first | exact HB.out | apply below_alloc | apply pw_below_drewN | apply below_drew1) | exact HB.out)) hb); have n1_ := Aside0.mk (hbox); have n2_ := Aside0.mk ((by rw [hg]; exact (below_size (by repeat (first | (with_reducible first | exact HB.out | apply below_alloc | apply pw_below_drewN | apply below_drew1) | exact HB.out))) : w.heap.size ≤ gb483)); have n3_ := Aside0.mk ((by rw [hg]; exact (below_size (by repeat (first | (with_reducible first | exact HB.out | apply below_alloc | apply pw_below_drewN | apply below_drew1) | exact HB.out))) : w.heap.size ≤ gb483)); clear HB; have HB := n0_; have BK483 := n1_; have GW483 := n2_; have GE483 := n3_; clear n0_ n1_ n2_ n3_; clear hb hbox hg) | ((with_reducible refine gate_callee (f := 82) rfl ?_); refine goesL_ (some 3) rfl rfl Try.func82 (by kernel_rfl) rfl #[.pointer (some ⟨gb483, 0, none⟩)] rfl (by (try simp only [List.map_toArray, List.map_cons, List.map_nil]); first | done | rfl | (simp only [List.length_drop, List.length_take]; rfl)) ?_; (with_reducible refine (spec_l04Ok.calls k gb483 a0_0 A0_1 c0_1 l0_1 a0_2 a0_3 A0_4 c0_4 l0_4 t484 _ ?side1 ?side2 ?side3 ?side4 ?side5 A2.out).mono ?_); (case side1 => (with_reducible repeat (first | refine blk_drewN ?_ _ | refine blk_drew ?_ | refine blk_alloc ?_ _)); exact BK483.out); (case side2 => repeat (first | exact (Kd.C_below HR0_1.out HB.out) | (with_reducible refine Kd.C_alloc ?_ _) | (with_reducible refine Kd.C_drewN ?_ _) | (with_reducible refine Kd.C_drew ?_))); (case side3 => exact HC0_1.out); (case side4 => repeat (first | exact (Kd.C_below HR0_4.out HB.out) | (with_reducible refine Kd.C_alloc ?_ _) | (with_reducible refine Kd.C_drewN ?_ _) | (with_reducible refine Kd.C_drew ?_))); (case side5 => exact HC0_4.out); rintro e w4 ⟨rfl, hb⟩; refine ⟨_, rfl, ?_⟩; have n0_ := Aside0.mk (blk_below (g := gb483) (o := .cells #[.int .i64 a0_0, .slice A0_1 l0_1.length c0_1, .int .i64 a0_2, .int .i64 a0_3, .slice A0_4 l0_4.length c0_4] 48 (0, 0)) (by (with_reducible repeat (first | refine blk_drewN ?_ _ | refine blk_drew ?_ | refine blk_alloc ?_ _)); exact BK483.out) hb); have n1_ := Aside0.mk (below_step (by repeat (first | (with_reducible first | exact HB.out | apply below_alloc | apply pw_below_drewN | apply below_drew1 | refine below_set ?_ GE483.out) | exact HB.out)) hb); clear BK483; clear HB; have BK483 := n0_; have HB := n1_; clear n0_ n1_; (try clear hb); (try clear hb2); (try clear hk); (try clear hi)))
  go_ret
  exact ⟨by first | rfl | (simp [errW_none, errW_some] <;> rfl) | (simp [*, errW_none, errW_some] <;> rfl), by repeat (first | (with_reducible first | exact HB.out | apply below_alloc | apply pw_below_drewN | apply below_drew1 | refine below_set ?_ GE483.out) | exact HB.out)⟩

end Go.Proofs.Ytopgelloghblaaa.P

namespace Go.Proofs.Ytopgelloghblaaa.P
open Go.RowKit Go.Proofs.YtopgelloghblaaaW.PrintWords Go.Proofs.YtopgelloghblaaaW.PrintLast Go.Proofs.YtopgelloghblaaaW.PrintMore
attribute [local go_sem] max2_int min2_int max_two min_two max_three min_three max_four min_four
set_option linter.unusedVariables false
set_option linter.unusedSimpArgs false

def schemeB (h : Int) (o : List Int) (p c : Int) (rows : List (List Int)) : Bool := decide (1 ≤ h ∧ h ≤ 7) && (validMB p c rows && (decide (1 ≤ c) && (decide (o.length = rows.length) && elemsB h o)))
theorem spec_l04Ok_ev (h : Int) (o : List Int) (p c : Int) (rows : List (List Int)) (ho : o.length ≤ 4611686018427387904) (hl : rows.length ≤ 4611686018427387904) (hr : ∀ r ∈ rows, r.length ≤ 4611686018427387904) : Ev (fun k => spec_l04Ok.f k h o p c rows) (schemeB h o p c rows) := by
  unfold spec_l04Ok.f schemeB
  have stop : Ev (fun k => spec_l04Ok.j0 k true h o p c rows) false := Ev.step (f := fun _ => some false) (fun k => by simp only [spec_l04Ok.j0, if_true]) (Ev.now _)
  rw [spec_l00In_eq]
  simp only [Option.bind_some]
  cases h1 : decide (1 ≤ h ∧ h ≤ 7) with
  | false => exact stop
  | true =>
    have h1' := of_decide_eq_true h1
    simp only [if_true, Bool.true_and]
    refine Ev.bind (spec_l03Ok_ev p c rows hl hr) ?_
    cases hv : validMB p c rows with
    | false => exact stop
    | true =>
      simp only [if_true, Bool.true_and]
      by_cases hc : c < 1
      · simp only [if_pos hc, decide_eq_false (show ¬ 1 ≤ c by omega), Bool.false_and]
        exact stop
      · simp only [if_neg hc, decide_eq_true (show 1 ≤ c by omega), Bool.true_and]
        by_cases hn : o.length = rows.length
        · rw [show ((o.length : Int) != (rows.length : Int)) = false from by rw [bne_eq_false_iff_eq]; omega, decide_eq_true hn, Bool.true_and]
          refine Ev.step (f := fun k => spec_l04Ok.l0 k 0 h o p c rows) (fun k => by simp only [spec_l04Ok.j0]; rw [if_neg (by decide)]) ?_
          have hs := scan_ev (l := fun k i => spec_l04Ok.l0 k i h o p c rows) (n := o.length) (q := fun i => decide (0 ≤ rd o i ∧ rd o i ≤ h - 1)) (fin := true) (stop := false)
            (fun i hi hq t ht => by
              refine Ev.step (fun k => ?_) ht
              simp only [spec_l04Ok.l0]
              rw [if_pos (by omega), if_pos (by omega), wr (x := h - 1) (by omega) (by omega), spec_l00In_eq, wr (x := (i : Int) + 1) (by omega) (by omega)]
              simp only [Option.bind_some]
              rw [if_pos hq]
              rfl)
            (fun i hi hq => by
              refine Ev.step (f := fun _ => some false) (fun k => ?_) (Ev.now _)
              simp only [spec_l04Ok.l0]
              rw [if_pos (by omega), if_pos (by omega), wr (x := h - 1) (by omega) (by omega), spec_l00In_eq]
              simp only [Option.bind_some]
              rw [if_neg (by rw [hq]; decide)])
            (Ev.step (f := fun _ => some true) (fun k => by
              simp only [spec_l04Ok.l0]
              rw [if_neg (by omega)]) (Ev.now _))
          rw [range_all o (fun a => decide (0 ≤ a ∧ a ≤ h - 1)) _ (fun i hi => by simp only [rd_nat o i hi])] at hs
          rwa [show (if (o.all fun a => decide (0 ≤ a ∧ a ≤ h - 1)) then true else false) = elemsB h o from by unfold elemsB; cases (o.all fun a => decide (0 ≤ a ∧ a ≤ h - 1)) <;> rfl] at hs
        · rw [show ((o.length : Int) != (rows.length : Int)) = true from by rw [bne_iff_ne]; omega, decide_eq_false hn, Bool.false_and]
          exact stop
theorem impl_ValidScheme_ev (h : Int) (o : List Int) (p c : Int) (rows : List (List Int)) (ho : o.length ≤ 4611686018427387904) (hl : rows.length ≤ 4611686018427387904) (hr : ∀ r ∈ rows, r.length ≤ 4611686018427387904) : Ev (fun k => impl_ValidScheme.f k h o p c rows) (schemeB h o p c rows) := by
  unfold impl_ValidScheme.f schemeB
  rw [impl_within_eq]
  simp only [Option.bind_some]
  cases h1 : decide (1 ≤ h ∧ h ≤ 7) with
  | false => exact Ev.now _
  | true =>
    have h1' := of_decide_eq_true h1
    simp only [if_true, Bool.true_and]
    refine Ev.bind (impl_ValidMatrix_ev p c rows hl hr) ?_
    cases hv : validMB p c rows with
    | false => exact Ev.now _
    | true =>
      simp only [if_true, Bool.true_and]
      by_cases hc : 1 ≤ c
      · simp only [if_pos hc, decide_eq_true hc, Bool.true_and]
        by_cases hn : o.length = rows.length
        · simp only [if_pos (show (o.length : Int) = (rows.length : Int) by omega), decide_eq_true hn, Bool.true_and]
          rw [← not_any_elems]
          refine Ev.bind (hasI_ev (ValidScheme_p h) (fun a => !decide (0 ≤ a ∧ a ≤ h - 1)) o ho (fun x => ?_)) (Ev.now _)
          unfold ValidScheme_p
          rw [impl_within_eq, wr (by omega) (by omega)]
          rfl
        · simp only [if_neg (show ¬ (o.length : Int) = (rows.length : Int) by omega), decide_eq_false hn, Bool.false_and]
          exact Ev.now _
      · simp only [if_neg hc, decide_eq_false hc, Bool.false_and]
        exact Ev.now _
theorem schemeB_parts {h : Int} {o : List Int} {p c : Int} {rows : List (List Int)} (hs : schemeB h o p c rows = true) : (1 ≤ h ∧ h ≤ 7) ∧ validMB p c rows = true ∧ 1 ≤ c ∧ o.length = rows.length ∧ elemsB h o = true := by
  unfold schemeB at hs
  simp only [Bool.and_eq_true, decide_eq_true_eq] at hs
  exact ⟨hs.1, hs.2.1, hs.2.2.1, hs.2.2.2.1, hs.2.2.2.2⟩
end Go.Proofs.Ytopgelloghblaaa.P

namespace Go.Proofs.Ytopgelloghblaaa.P
open Go.RowKit Go.Proofs.YtopgelloghblaaaW.PrintWords Go.Proofs.YtopgelloghblaaaW.PrintLast Go.Proofs.YtopgelloghblaaaW.PrintMore
attribute [local go_sem] max2_int min2_int max_two min_two max_three min_three max_four min_four
set_option linter.unusedVariables false
set_option linter.unusedSimpArgs false

/-- The sum of the first products of two lists, as the machine sums. -/
def dotS (a b : List Int) (n : Nat) : Int := (List.range n).foldl (fun s (j : Nat) => wrap64 (s + wrap64 (rd a (j : Int) * rd b (j : Int)))) 0
theorem dotS_succ (a b : List Int) (n : Nat) : dotS a b (n + 1) = wrap64 (dotS a b n + wrap64 (rd a (n : Int) * rd b (n : Int))) := by
  unfold dotS
  rw [List.range_succ, List.foldl_append]
  rfl
def dotB (p : Int) (a b : List Int) : Int := Int.tmod (dotS a b a.length) p
theorem spec_l03Dot_ev (p : Int) (a b : List Int) (hp : p ≠ 0) (hab : a.length ≤ b.length) (hl : a.length ≤ 4611686018427387904) : Ev (fun k => spec_l03Dot.f k p a b) (dotB p a b) := by
  unfold spec_l03Dot.f
  have key : ∀ d i : Nat, i + d = a.length → Ev (fun k => spec_l03Dot.l0 k p a b (dotS a b i) (i : Int)) (dotB p a b) := by
    intro d
    induction d with
    | zero =>
      intro i hi
      obtain rfl : i = a.length := by omega
      refine Ev.step (f := fun _ => some (dotB p a b)) (fun k => ?_) (Ev.now _)
      simp only [spec_l03Dot.l0]
      rw [if_neg (by omega), if_neg hp]
      rfl
    | succ d ih =>
      intro i hi
      refine Ev.step (fun k => ?_) (ih (i + 1) (by omega))
      simp only [spec_l03Dot.l0]
      rw [if_pos (by omega), if_pos (by omega), if_pos (by omega), wr (x := (i : Int) + 1) (by omega) (by omega), dotS_succ]
      rfl
  exact key a.length 0 (by omega)
theorem impl_dot_ev (p : Int) (a b : List Int) (hp : p ≠ 0) (hab : a.length ≤ b.length) (hl : a.length ≤ 4611686018427387904) : Ev (fun k => impl_dot.f k p a b) (dotB p a b) := by
  unfold impl_dot.f
  have key : ∀ d i : Nat, i + d = a.length → Ev (fun k => impl_dot.l0 k p b (dotS a b i) a (a.length : Int) (i : Int)) (dotB p a b) := by
    intro d
    induction d with
    | zero =>
      intro i hi
      obtain rfl : i = a.length := by omega
      refine Ev.step (f := fun _ => some (dotB p a b)) (fun k => ?_) (Ev.now _)
      simp only [impl_dot.l0]
      rw [if_neg (by omega), if_neg hp]
      rfl
    | succ d ih =>
      intro i hi
      refine Ev.step (fun k => ?_) (ih (i + 1) (by omega))
      simp only [impl_dot.l0]
      rw [if_pos (by omega), if_pos (by omega), if_pos (by omega), if_pos (by omega), wr (x := (i : Int) + 1) (by omega) (by omega), dotS_succ]
      rfl
  exact key a.length 0 (by omega)
def sharesL (p : Int) (rows : List (List Int)) (all : List Int) : List Int := (List.range rows.length).map fun i => dotB p (grp rows i) all
def sharesB (h : Int) (o : List Int) (p c : Int) (rows : List (List Int)) (a : Int) (l : List Int) : List Int × Int :=
  if schemeB h o p c rows then (if decide (0 ≤ a ∧ a ≤ p - 1) && rowB p (c - 1) l then (sharesL p rows (a :: l), 0) else ([], 2)) else ([], 1)
theorem spec_l04Shares_ev (h : Int) (o : List Int) (p c : Int) (rows : List (List Int)) (a : Int) (l : List Int) (hp : p ≠ 0) (hrow : ∀ i, i < rows.length → ((grp rows i).length : Int) = c) (hl : (l.length : Int) = c - 1) (hc : c ≤ 12) (hn : rows.length ≤ 20) : Ev (fun k => spec_l04Shares.f k h o p c rows a l) (sharesL p rows (a :: l)) := by
  unfold spec_l04Shares.f
  simp only [Option.bind_some, List.length_singleton, if_pos (show 1 + l.length < 17592186044416 by omega)]
  refine build_ev (l := fun k i acc => spec_l04Shares.l0 k ([a] ++ l) acc i h o p c rows) rows.length (fun i => dotB p (grp rows i) (a :: l)) (fun i acc hi ha r hr => ?_) ?_
  · have hlen := hrow i hi
    refine Ev.step (f := fun k => (spec_l03Dot.f k p (grp rows i) (a :: l)).bind fun t => spec_l04Shares.l0 k ([a] ++ l) (acc ++ [t]) ((i + 1 : Nat) : Int) h o p c rows) (fun k => ?_) (Ev.bind (spec_l03Dot_ev p _ _ hp (by rw [List.length_cons]; omega) (by omega)) hr)
    simp only [spec_l04Shares.l0]
    rw [if_pos (by omega), if_pos (by omega), rdL_grp rows i hi, wr (by omega) (by omega)]
    simp only [if_pos (show acc.length < 17592186044416 by omega)]
    rfl
  · refine Ev.step (f := fun _ => some (sharesL p rows (a :: l))) (fun k => ?_) (Ev.now _)
    simp only [spec_l04Shares.l0]
    rw [if_neg (by omega)]
    rfl
theorem impl_Shares_loop (h : Int) (o : List Int) (p c : Int) (rows : List (List Int)) (a : Int) (l : List Int) (hp : p ≠ 0) (hrow : ∀ i, i < rows.length → ((grp rows i).length : Int) = c) (hl : (l.length : Int) = c - 1) (hc : c ≤ 12) (hn : rows.length ≤ 20) : Ev (fun k => impl_SharesOf.l0 k ([a] ++ l) [] rows (rows.length : Int) 0 h o p c rows) (sharesL p rows (a :: l), 0) := by
  refine build_ev (l := fun k i acc => impl_SharesOf.l0 k ([a] ++ l) acc rows (rows.length : Int) i h o p c rows) rows.length (fun i => dotB p (grp rows i) (a :: l)) (fun i acc hi ha r hr => ?_) ?_
  · have hlen := hrow i hi
    refine Ev.step (f := fun k => (impl_dot.f k p (grp rows i) (a :: l)).bind fun t => impl_SharesOf.l0 k ([a] ++ l) (acc ++ [t]) rows (rows.length : Int) ((i + 1 : Nat) : Int) h o p c rows) (fun k => ?_) (Ev.bind (impl_dot_ev p _ _ hp (by rw [List.length_cons]; omega) (by omega)) hr)
    simp only [impl_SharesOf.l0]
    rw [if_pos (by omega), if_pos (by omega), if_pos (by omega), rdL_grp rows i hi, wr (by omega) (by omega)]
    simp only [if_pos (show acc.length < 17592186044416 by omega)]
    rfl
  · refine Ev.step (f := fun _ => some (sharesL p rows (a :: l), 0)) (fun k => ?_) (Ev.now _)
    simp only [impl_SharesOf.l0]
    rw [if_neg (by omega)]
    rfl
theorem spec_SharesOf_ev (h : Int) (o : List Int) (p c : Int) (rows : List (List Int)) (a : Int) (l : List Int) (ho : o.length ≤ 4611686018427387904) (hl : rows.length ≤ 4611686018427387904) (hr : ∀ r ∈ rows, r.length ≤ 4611686018427387904) (hll : l.length ≤ 4611686018427387904) : Ev (fun k => spec_SharesOf.f k h o p c rows a l) (sharesB h o p c rows a l) := by
  unfold spec_SharesOf.f sharesB
  refine Ev.bind (spec_l04Ok_ev h o p c rows ho hl hr) ?_
  cases hs : schemeB h o p c rows with
  | false => exact Ev.now _
  | true =>
    obtain ⟨hh, hv, hc, _, _⟩ := schemeB_parts hs
    obtain ⟨hp, hc2, hn, hrow⟩ := validMB_parts hv
    simp only [if_true]
    rw [wr (x := p - 1) (by omega) (by omega), spec_l00In_eq, wr (x := c - 1) (by omega) (by omega)]
    simp only [Option.bind_some]
    cases ha : decide (0 ≤ a ∧ a ≤ p - 1) with
    | false => exact Ev.now _
    | true =>
      simp only [if_true, Bool.true_and]
      refine Ev.bind (spec_l03Row_ev p (c - 1) l (by omega) hll) ?_
      cases hrw : rowB p (c - 1) l with
      | false => exact Ev.now _
      | true =>
        have hrw' : (l.length : Int) = c - 1 := by
          unfold rowB at hrw
          simp only [Bool.and_eq_true, decide_eq_true_eq] at hrw
          exact hrw.1
        simp only [if_true]
        exact Ev.bind (spec_l04Shares_ev h o p c rows a l (by omega) (fun i hi => (hrow i hi).1) hrw' hc2.2 hn) (Ev.now _)
theorem impl_SharesOf_ev (h : Int) (o : List Int) (p c : Int) (rows : List (List Int)) (a : Int) (l : List Int) (ho : o.length ≤ 4611686018427387904) (hl : rows.length ≤ 4611686018427387904) (hr : ∀ r ∈ rows, r.length ≤ 4611686018427387904) (hll : l.length ≤ 4611686018427387904) : Ev (fun k => impl_SharesOf.f k h o p c rows a l) (sharesB h o p c rows a l) := by
  unfold impl_SharesOf.f sharesB
  refine Ev.bind (impl_ValidScheme_ev h o p c rows ho hl hr) ?_
  cases hs : schemeB h o p c rows with
  | false => exact Ev.now _
  | true =>
    obtain ⟨hh, hv, hc, _, _⟩ := schemeB_parts hs
    obtain ⟨hp, hc2, hn, hrow⟩ := validMB_parts hv
    have hpr : primeB p = true := by
      unfold validMB at hv
      simp only [Bool.and_eq_true] at hv
      exact hv.1
    have stop : Ev (fun k => impl_SharesOf.j0 k a l true h o p c rows) ([], 2) := Ev.step (f := fun _ => some ([], 2)) (fun k => by simp only [impl_SharesOf.j0, if_true]) (Ev.now _)
    simp only [if_true]
    refine Ev.bind (impl_areElements_ev p [a] (by simp)) ?_
    rw [hpr, Bool.true_and, show elemsB p [a] = decide (0 ≤ a ∧ a ≤ p - 1) from by simp [elemsB]]
    cases ha : decide (0 ≤ a ∧ a ≤ p - 1) with
    | false => exact stop
    | true =>
      simp only [if_true, Bool.true_and]
      refine Ev.bind (impl_areElements_ev p l hll) ?_
      rw [hpr, Bool.true_and]
      cases he : elemsB p l with
      | false =>
        rw [show rowB p (c - 1) l = false from by unfold rowB; rw [he, Bool.and_false]]
        exact stop
      | true =>
        simp only [if_true]
        rw [wr (x := c - 1) (by omega) (by omega), show rowB p (c - 1) l = decide ((l.length : Int) = c - 1) from by unfold rowB; rw [he, Bool.and_true]]
        by_cases hn2 : (l.length : Int) = c - 1
        · rw [show ((l.length : Int) != c - 1) = false from bne_eq_false_iff_eq.mpr hn2, decide_eq_true hn2]
          refine Ev.step (f := fun k => impl_SharesOf.l0 k ([a] ++ l) [] rows (rows.length : Int) 0 h o p c rows) (fun k => ?_) (impl_Shares_loop h o p c rows a l (by omega) (fun i hi => (hrow i hi).1) hn2 hc2.2 hn)
          simp only [impl_SharesOf.j0]
          rw [if_neg (by decide)]
          simp only [Option.bind_some, List.length_singleton, if_pos (show 1 + l.length < 17592186044416 by omega)]
        · rw [show ((l.length : Int) != c - 1) = true from bne_iff_ne.mpr hn2, decide_eq_false hn2]
          exact stop

end Go.Proofs.Ytopgelloghblaaa.P

/- For all arguments the program's SharesOf and the reference's answer alike, the arguments stay, and the result is memory of its own. -/
namespace Go.Proofs.Ytopgelloghblaaa.Pure
open Go.RowKit Go.Proofs.Ytopgelloghblaaa.P Go.Proofs.YtopgelloghblaaaW.PrintWords Go.Proofs.YtopgelloghblaaaW.PrintLast Go.Proofs.YtopgelloghblaaaW.PrintMore
set_option linter.unusedVariables false
set_option linter.unusedSimpArgs false

theorem FnExactSharesOf : laws_FnExactSharesOf.Pure := by
  intro x a l hx _ _
  obtain ⟨xc, xo, xp, xq, xs⟩ := x
  have ho : xo.length ≤ 9223372036854775807 := hx.2.1.1
  have hl : xs.length ≤ 9223372036854775807 := hx.2.2.2.2.1
  have hr : ∀ r ∈ xs, r.length ≤ 9223372036854775807 := fun r h => (hx.2.2.2.2.2 r h).1
  by_cases hb : 1048576 < (l.length : Int)
  · exact Or.inl ⟨0, decide_eq_true hb, decide_eq_true (by omega)⟩
  · have hll : l.length ≤ 1048576 := by omega
    have s1 := szScheme_ev xc xo xp xq xs 1048576 (by omega) ho hl hr
    by_cases h : ((xo.length + bulk xs : Nat) : Int) ≤ 1048576
    · rw [if_pos h] at s1
      obtain ⟨h1, h2⟩ := bulk_len (rows := xs) (n := 1048576) (by omega)
      have h4 : xs.length ≤ 4611686018427387904 := by omega
      have h3 : ∀ r ∈ xs, r.length ≤ 4611686018427387904 := fun r hr => Nat.le_trans (h2 r hr) (by omega)
      have h5 : allLen xs ≤ 1048576 := by unfold bulk at h; unfold allLen; omega
      obtain ⟨r1, r2, er, z⟩ : ∃ r1 r2, sharesB xc xo xp xq xs a l = (r1, r2) ∧ r1.length ≤ 20 := by
        unfold sharesB
        cases hs : schemeB xc xo xp xq xs with
        | true =>
          simp only [if_true]
          split
          · exact ⟨_, _, rfl, by simp [sharesL]; exact (validMB_parts (schemeB_parts hs).2.1).2.2.1⟩
          · exact ⟨_, _, rfl, by simp⟩
        | false => exact ⟨_, _, rfl, by simp⟩
      have e1 := spec_SharesOf_ev xc xo xp xq xs a l (by omega) h4 h3 (by omega)
      have e2 := impl_SharesOf_ev xc xo xp xq xs a l (by omega) h4 h3 (by omega)
      rw [er] at e1 e2
      obtain ⟨k, a1, a2, a3, a4, a5, a6, a7, a8, a9, b1, b2, b3⟩ := From.now (From.and s1 (From.and (toScheme_ev xc xo xp xq xs (by omega) h1 h2) (From.and (toInt64S_ev l hll) (From.and e1 (From.and e2 (From.and (eqInt64S_same r1 (by omega)) (From.and (eqScheme_same xc xo xp xq xs (by omega) h1 h2) (From.and (eqInt64S_same l hll) (From.and (markScheme_ev xc xo xp xq xs 1 (by omega) (by omega) (by omega) (by omega) (by omega)) (From.and (markInt64S_ev l (1 + (xo.length : Int) + (allLen xs : Int)) (by omega) (by omega)) (From.and (markInt64S_ev r1 1 (by omega) (by omega)) (heldInt64S_ev 1 r1.length (by omega) (by omega)))))))))))))
      exact Or.inr (Or.inr ⟨k, _, r1, r2, _, _, _, _, _, _, _, decide_eq_false hb, decide_eq_false (by omega), a1, decide_eq_false (by omega), a2, a3, a4, a2, a3, a5, a6, a2, a7, a3, a8, a9, b1, decide_eq_false (by omega), a6, b2, b3, decide_eq_false (by omega), a2, a3, a5, a6, b3, decide_eq_false (by omega)⟩)
    · rw [if_neg h] at s1
      obtain ⟨k, a1⟩ := From.now s1
      exact Or.inr (Or.inl ⟨k, _, decide_eq_false hb, decide_eq_false (by omega), a1, by decide⟩)

end Go.Proofs.Ytopgelloghblaaa.Pure

/- The row of the law FnExactSharesOf: whatever its arguments, it answers true, and they read as before. No condition. -/
namespace Go.Proofs.Ytopgelloghblaaa.fnExactSharesOf
open Go.ChangeShapes Go.WideShapes Go.ChangeAt Go.RowKit Go.Proofs.Ytopgelloghblaaa.P Go.Proofs.YtopgelloghblaaaW.PrintWords Go.Proofs.YtopgelloghblaaaW.PrintLast Go.Proofs.YtopgelloghblaaaW.PrintMore
open Go.ChangeMaps (open_string shut_string)
set_option linter.unusedVariables false
theorem own : ownKnob Try.prog.godebug = none := by kernel_rfl
theorem laidOut : laidOutB Try.prog = true := by kernel_rfl
set_option maxRecDepth 100000 in
theorem lifted (os : Os) (started : os.Started) (H : Type) (enc : TypeId × Value → H) :
    ReturnsInHanded {} Try.checked os 9 .any (Rows.fnExactSharesOfSpec.pre6 enc Try.prog Try.f9 Rows.fnExactSharesOfRow.domain false) (Rows.fnExactSharesOfSpec.post enc Try.prog Try.f9 false true false false) := by
  refine returnsInHanded_of_change_sized (C := Try.checked) own started (by kernel_rfl) Try.func9
    (ChangeSpec.witness6 (enc := enc) (C := Try.checked) false ⟨#[], #[.agg #[.int .i64 0, .slice none 0 0, .int .i64 0, .int .i64 0, .slice none 0 0], .int .i64 0, .slice none 0 0], []⟩ 8 (by kernel_rfl) (by kernel_rfl) (by kernel_rfl) (by kernel_rfl)) ?_
  intro W base args ds gs before hval0 hW hcnd hsz0 _
  have hval : ∀ (j : Nat) t v, Try.f9.params[j]? = some t → args[j]? = some v → Value.okWide Try.prog W .any base t v := hval0
  have hW' := hW
  obtain ⟨p, q, hA0, hV, rfl, hfz, hnd⟩ := hW
  have hA : DataW.TrodAll enc Try.prog W 0 (fun _ => true) true Try.f9.params.toList args.toList ds p := hA0
  rw [Try.params9] at hA hval
  obtain ⟨v0, vs0, d0, ds0, p0, q0, hargs, rfl, rfl, h0, r0⟩ := trodAll_cons hA
  obtain ⟨v1, vs1, d1, ds1, p1, q1, rfl, rfl, rfl, h1, r1⟩ := trodAll_cons r0
  obtain ⟨v2, vs2, d2, ds2, p2, q2, rfl, rfl, rfl, h2, r2⟩ := trodAll_cons r1
  obtain ⟨rfl, rfl, rfl⟩ := trodAll_nil r2
  obtain rfl : args = #[v0, v1, v2] := by cases args; simp_all
  obtain ⟨rfl, rfl⟩ := trodVars_none hV
  have k0 := h0
  have lt0 : ∀ x ∈ p0, x.block < W.heap.size := by obtain ⟨m, hm⟩ := k0; exact DataW.trod_lt m _ _ _ hm
  obtain ⟨cs0, rfl, _⟩ := okWide_struct Try.underlying43 (hval 0 43 v0 rfl rfl)
  obtain ⟨x0, hK0, wf0⟩ := OpensAt.any opensS43 h0
  obtain ⟨A0_1, c0_1, A0_4, c0_4, e0, l0_1, g0_1, l0_4, g0_4⟩ := k43_open hK0
  obtain rfl : cs0 = #[.int .i64 x0.f0, .slice A0_1 x0.f1.length c0_1, .int .i64 x0.f2.f0, .int .i64 x0.f2.f1, .slice A0_4 x0.f2.f2.length c0_4] := by cases cs0; simpa [Value.cells] using e0
  obtain ⟨a1, rfl, rfl, rfl, w1⟩ := open_int Try.underlying2 (hval 1 2 v1 rfl rfl) h1
  have k2 := h2
  have lt2 : ∀ x ∈ p2, x.block < W.heap.size := by obtain ⟨m, hm⟩ := k2; exact DataW.trod_lt m _ _ _ hm
  obtain ⟨a2, len2, cap2, rfl⟩ := okWide_slice Try.underlying32 (hval 2 32 v2 rfl rfl)
  obtain ⟨l2, ⟨A2, c2, e2, b2, g2⟩, wf2⟩ := OpensAt.any (opens_slice_any Try.underlying32 (by kernel_rfl) (fun n => opens_int n Try.underlying2)) h2
  simp [Value.cells] at e2
  obtain ⟨rfl, rfl, rfl⟩ := e2
  clear hA0 hval0 hsz0
  refine (P.laws_FnExactSharesOf.walk Pure.FnExactSharesOf x0 a1 l2 _ _ _ _ _ _ W g0_1 l0_1 g0_4 l0_4 g2 b2 wf0 w1 wf2).mono fun e W' ⟨he, bel⟩ => ?_
  subst he
  exact ⟨_, rfl, _, _, _, [], _, [], hW', trodAll_mk1 (shut_bool Try.underlying4 _), (trodAll_cons_mk (Below.trod laidOut (by kernel_rfl) (of_decide_eq_true (by kernel_rfl)) k0 bel lt0) (trodAll_cons_mk (shut_int Try.underlying2 w1) (trodAll_cons_mk (Below.trod laidOut (by kernel_rfl) (of_decide_eq_true (by kernel_rfl)) k2 bel lt2) trodAll_mk0))), rfl, bel.frame _, fun h => by cases h⟩
theorem over : Rows.fnExactSharesOfRow.holds Try.pinned (OpenSpec.ofChange Rows.fnExactSharesOfSpec) :=
  OpenClaim.holds_of_wide 9 Try.f9 rfl rfl rfl rfl rfl rfl rfl ⟨rfl, rfl, rfl, rfl, rfl⟩ rfl rfl rfl rfl rfl (by kernel_rfl) Try.func9 (by kernel_rfl)
    (of_decide_eq_true (by kernel_rfl)) (by unfold Func.isWrapper; first | (rw [if_pos (by decide +kernel)]; kernel_rfl) | (rw [if_neg (by decide +kernel)]; exact ⟨rfl, rfl⟩))
    (fun os started H enc _ => lifted os started H enc)
theorem proved : Rows.FnExactSharesOfSaid := over
#print axioms proved
end Go.Proofs.Ytopgelloghblaaa.fnExactSharesOf
namespace Go.Proofs.Ytopgelloghblaaa
/-- The row, under a short name, for the claim. -/
theorem fnExactSharesOf_holds : Rows.FnExactSharesOfSaid := fnExactSharesOf.proved
end Go.Proofs.Ytopgelloghblaaa
