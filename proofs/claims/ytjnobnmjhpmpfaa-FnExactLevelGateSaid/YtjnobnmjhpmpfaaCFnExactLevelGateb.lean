/- For all sizes and leasts the program's LevelGate and the reference's answer alike, the arguments stay, and the result is memory of its own. This text: part 2 of what it rests on: functions of the translation as plain Lean functions, and that the machine's calls come to their answers. -/
import Derived.Test.YtjnobnmjhpmpfaaCFnExactLevelGatea
import Derived.Shelf.Abstract
namespace Go.Proofs.Ytjnobnmjhpmpfaa.P
open Go.RowKit Go.Proofs.YtjnobnmjhpmpfaaW.PrintWords Go.Proofs.YtjnobnmjhpmpfaaW.PrintLast Go.Proofs.YtjnobnmjhpmpfaaW.PrintMore
attribute [local go_sem] max2_int min2_int max_two min_two max_three min_three max_four min_four
set_option linter.unusedVariables false
set_option linter.unusedSimpArgs false

/-! ### spec_LevelGate: function 30 (by hand) -/
def spec_LevelGate.f (k : Nat) (l0 l1 : List Int) : Option (Int × Int × List S29 × Int) := if (l0.length : Int) = 0 then some (0, 0, [], 2) else (if (l1.length : Int) = (l0.length : Int) then ((levS.l0 k l0 l1 0 0).bind fun q => levS.fin k l0 l1 q) else some (0, 0, [], 2))
set_option maxHeartbeats 8000000 in
set_option maxRecDepth 100000 in
theorem spec_LevelGate.calls (k : Nat) (A0 : Option Addr) (c0 : Nat) (l0 : List Int) (A1 : Option Addr) (c1 : Nat) (l1 : List Int) (r1 : Int) (r2 : Int) (r3 : List S29) (r4 : Int) (w : World) (hr0 : Kd.C (Kd.int .i64) w A0 l0.length l0) (hc0 : l0.length ≤ c0) (hr1 : Kd.C (Kd.int .i64) w A1 l1.length l1) (hc1 : l1.length ≤ c1) (h : spec_LevelGate.f k l0 l1 = some (r1, r2, r3, r4)) :
    Calls Try.prog 30 #[.slice A0 l0.length c0, .slice A1 l1.length c1] w fun e w' => ∃ v2_ : Value, e = .returned (.tuple #[.agg #[.int .i64 r1, .int .i64 r2, v2_], .int .i64 r4]) ∧ Kd.S kG 29 w' w.heap.size (fun _ => True) v2_ r3 ∧ Below w.heap.size w w' := by
  have hu29 := Try.underlying29
  have HR0 := Aside0.mk hr0
  have HR1 := Aside0.mk hr1
  clear hr0 hr1 hc0 hc1
  have HB := Aside0.mk (Below.refl w.heap.size w)
  have H : _ = _ := h
  unfold spec_LevelGate.f at H
  clear h
  by_cases c1_ : (l0.length : Int) = 0
  · rw [if_pos c1_] at H
    simp only [Option.some.injEq, Prod.mk.injEq] at H
    obtain ⟨rfl, rfl, rfl, rfl⟩ := H
    have c1b : ((l0.length : Int) == 0) = true := beq_iff_eq.mpr c1_
    replace c1_ := Aside0.mk c1_
    go_enter Try.func30, Try.ntmps30
    go_wp2_with (first | ((with_reducible refine gate_dst (N := 4) rfl ?_); refine box_event ?hg (N := 4) ?hd (cs := #[.int .i64 0, .int .i64 0, .slice none 0 0]) (t := 29) ?hr ?_; (case hd => rfl); (case hg => rfl); (case hr => first | (go_simp; done) | (go_simp; rfl)); intro g2 hg w2 hbox hb; have n0_ := Aside0.mk (below_step (by repeat (first | (with_reducible first | exact HB.out | apply below_alloc | apply pw_below_drewN | apply below_drew1) | exact HB.out)) hb); have GW_g2 := Aside0.mk ((by rw [hg]; exact below_size (by repeat (first | (with_reducible first | exact HB.out | apply below_alloc | apply pw_below_drewN | apply below_drew1) | exact HB.out))) : w.heap.size ≤ g2); clear HB; have HB := n0_; clear n0_; have BK_g2 := Aside0.mk hbox; clear hbox hb hg; have hz_g20 : w2.cell? ⟨g2, 0, none⟩ = some (.int .i64 0) := (blk_cell BK_g2.out 0).trans rfl; have hz_g2f0 := blk_frozen BK_g2.out 0; have hz_g21 : w2.cell? ⟨g2, 1, none⟩ = some (.int .i64 0) := (blk_cell BK_g2.out 1).trans rfl; have hz_g2f1 := blk_frozen BK_g2.out 1; have hz_g22 : w2.cell? ⟨g2, 2, none⟩ = some (.slice none 0 0) := (blk_cell BK_g2.out 2).trans rfl; have hz_g2f2 := blk_frozen BK_g2.out 2))
    refine bodyPost_ret (results_ct rfl _ _ g2 29 #[.int .i64 0, .int .i64 0, .slice none 0 0] (0, 0) _ rfl (by (with_reducible repeat (first | refine blk_drewN ?_ _ | refine blk_drew ?_ | refine blk_alloc ?_ _)); refine blk_put (cs := #[.int .i64 0, .int .i64 0, .slice none 0 0]) ?_ 2 _ rfl; (with_reducible repeat (first | refine blk_drewN ?_ _ | refine blk_drew ?_ | refine blk_alloc ?_ _)); refine blk_put (cs := #[.int .i64 0, .int .i64 0, .slice none 0 0]) ?_ 1 _ rfl; (with_reducible repeat (first | refine blk_drewN ?_ _ | refine blk_drew ?_ | refine blk_alloc ?_ _)); refine blk_put (cs := #[.int .i64 0, .int .i64 0, .slice none 0 0]) ?_ 0 _ rfl; (with_reducible repeat (first | refine blk_drewN ?_ _ | refine blk_drew ?_ | refine blk_alloc ?_ _)); exact BK_g2.out) Try.underlying29 rfl (by kernel_rfl)) rfl ?_
    exact ⟨_, rfl, Kd.S_nil _ _ _ _ _, (by repeat (first | (with_reducible first | exact HB.out | apply below_alloc | apply pw_below_drewN | apply below_drew1 | refine below_set ?_ GW_g2.out) | exact HB.out))⟩
  · rw [if_neg c1_] at H
    have c1b : ((l0.length : Int) == 0) = false := beq_eq_false_iff_ne.mpr c1_
    replace c1_ := Aside0.mk c1_
    by_cases c2_ : (l1.length : Int) = (l0.length : Int)
    · rw [if_pos c2_] at H
      have c2b : ((l1.length : Int) == (l0.length : Int)) = true := beq_iff_eq.mpr c2_
      have c2n : ((l1.length : Int) != (l0.length : Int)) = false := by rw [bne, c2b]; rfl
      replace c2_ := Aside0.mk c2_
      replace H := Option.bind_eq_some_iff.mp H
      obtain ⟨q, At, H⟩ := H
      have A1_ := Aside0.mk At
      have HQ := Aside0.mk H
      clear At H
      go_enter Try.func30, Try.ntmps30
      go_wp2_with (first | ((with_reducible refine gate_dst (N := 4) rfl ?_); refine box_event ?hg (N := 4) ?hd (cs := #[.int .i64 0, .int .i64 0, .slice none 0 0]) (t := 29) ?hr ?_; (case hd => rfl); (case hg => rfl); (case hr => first | (go_simp; done) | (go_simp; rfl)); intro g2 hg w2 hbox hb; have n0_ := Aside0.mk (below_step (by repeat (first | (with_reducible first | exact HB.out | apply below_alloc | apply pw_below_drewN | apply below_drew1) | exact HB.out)) hb); have GW_g2 := Aside0.mk ((by rw [hg]; exact below_size (by repeat (first | (with_reducible first | exact HB.out | apply below_alloc | apply pw_below_drewN | apply below_drew1) | exact HB.out))) : w.heap.size ≤ g2); clear HB; have HB := n0_; clear n0_; have BK_g2 := Aside0.mk hbox; clear hbox hb hg; have hz_g20 : w2.cell? ⟨g2, 0, none⟩ = some (.int .i64 0) := (blk_cell BK_g2.out 0).trans rfl; have hz_g2f0 := blk_frozen BK_g2.out 0; have hz_g21 : w2.cell? ⟨g2, 1, none⟩ = some (.int .i64 0) := (blk_cell BK_g2.out 1).trans rfl; have hz_g2f1 := blk_frozen BK_g2.out 1; have hz_g22 : w2.cell? ⟨g2, 2, none⟩ = some (.slice none 0 0) := (blk_cell BK_g2.out 2).trans rfl; have hz_g2f2 := blk_frozen BK_g2.out 2))
      go_loopg [6, 7] k (fun kq v6 v7 w' => ∃ (s i : Int), v6 = .int .i64 s ∧ v7 = .int .i64 i ∧ Aside0 (levS.l0 kq l0 l1 s i = some q) ∧ Aside0 (kq ≤ k) ∧ Aside0 (w'.heap[g2]? = some (.cells #[.int .i64 0, .int .i64 0, .slice none 0 0] 29 (0, 0))) ∧ Aside0 (Below w.heap.size w w'))
      case atStart => exact ⟨0, 0, rfl, rfl, A1_, ⟨Nat.le_refl _⟩, ⟨(by (with_reducible repeat (first | refine blk_drewN ?_ _ | refine blk_drew ?_ | refine blk_alloc ?_ _)); exact BK_g2.out)⟩, ⟨(by repeat (first | (with_reducible first | exact HB.out | apply below_alloc | apply pw_below_drewN | apply below_drew1) | exact HB.out))⟩⟩
      case round =>
        clear A1_ BK_g2 HB hz_g20 hz_g2f0 hz_g21 hz_g2f1 hz_g22 hz_g2f2
        obtain ⟨s, i, rfl, rfl, HA, HK1, BK_g2, HB⟩ := hrel
        have hz_g20 : wr.cell? ⟨g2, 0, none⟩ = some (.int .i64 0) := (blk_cell BK_g2.out 0).trans rfl
        have hz_g2f0 := blk_frozen BK_g2.out 0
        have hz_g21 : wr.cell? ⟨g2, 1, none⟩ = some (.int .i64 0) := (blk_cell BK_g2.out 1).trans rfl
        have hz_g2f1 := blk_frozen BK_g2.out 1
        have hz_g22 : wr.cell? ⟨g2, 2, none⟩ = some (.slice none 0 0) := (blk_cell BK_g2.out 2).trans rfl
        have hz_g2f2 := blk_frozen BK_g2.out 2
        cases gk with
        | zero => exact absurd HA.out (by simp [levS.l0])
        | succ k1 =>
          have H' := HA.out
          clear HA
          simp only [levS.l0] at H'
          by_cases c6 : i < (l0.length : Int)
          · rw [if_pos c6] at H'
            by_cases c7 : 0 ≤ i
            case neg => rw [if_neg c7] at H'; exact absurd H' (by simp)
            rw [if_pos c7] at H'
            replace H' := Option.bind_eq_some_iff.mp H'
            obtain ⟨t, At, H'⟩ := H'
            have AW1 := Aside0.mk At
            clear At
            have c6b0 : decide (i < (l0.length : Int)) = true := decide_eq_true c6
            have c7b0 : decide (0 ≤ i) = true := decide_eq_true c7
            obtain ⟨ad0, e3, hx⟩ := Kd.at_int HR0.out i c7 c6
            cases e3
            have HX0 := Aside0.mk hx
            have hx0 := (HB.out.cell (World.block_lt_of_cell? w _ hx)).trans hx
            clear hx
            by_cases c8 : t = true
            · subst c8
              rw [if_pos rfl] at H'
              by_cases c12 : 7 < wrap64 (s + rd l0 i)
              · rw [if_pos c12] at H'
                obtain rfl : none = q := Option.some.inj H'
                clear H'
                have H := HQ.out
                simp only [levS.fin] at H
                simp only [Option.some.injEq, Prod.mk.injEq] at H
                obtain ⟨rfl, rfl, rfl, rfl⟩ := H
                replace c7 := eq_true c7
                replace c6 := eq_true c6
                have c12b : decide (7 < wrap64 (s + rd l0 i)) = true := decide_eq_true c12
                go_wp2
                have HB0 : Aside0 (Below w.heap.size w wr.drew) := ⟨(by repeat (first | (with_reducible first | exact HB.out | apply below_alloc | apply pw_below_drewN | apply below_drew1) | exact HB.out))⟩
                have B20 : Aside0 (wr.drew.heap[g2]? = some (.cells #[.int .i64 0, .int .i64 0, .slice none 0 0] 29 (0, 0))) := ⟨(by (with_reducible repeat (first | refine blk_drewN ?_ _ | refine blk_drew ?_ | refine blk_alloc ?_ _)); exact BK_g2.out)⟩
                clear HB BK_g2 hz_g20 hz_g2f0 hz_g21 hz_g2f1 hz_g22 hz_g2f2
                refine start_ (n := 29) (S := fun w' => w'.cell? (ad0.add i.toNat) = some (.int .i64 (rd l0 i))) (ds := []) #[false, false, false, false, false, false, false, false, false, false, false, false, false, false, false, false, false, false, false, false, false, false, false, false, false, false, false, false, false] (by kernel_rfl) rfl rfl (((show Below w.heap.size w _ from (by repeat (first | (with_reducible first | exact HB0.out | apply below_alloc | apply pw_below_drewN | apply below_drew1) | exact HB0.out))).cell (World.block_lt_of_cell? w _ HX0.out)).trans HX0.out) (fun hHeld => ?_)
                generalize wr.drew = w8x at HB0 B20 hHeld ⊢
                refine pure_ (i := 0) (N := some 29) (v := ?_) (a' := ?_) #[true, false, false, false, false, false, false, false, false, false, false, false, false, false, false, false, false, false, false, false, false, false, false, false, false, false, false, false, false] rfl rfl (by kernel_rfl) (fun _ _ _ h => h) (Or.inl ⟨by rfl, ?_⟩) ?_ ?_
                rotate_left
                · intro w'
                  first | (go_simp; with_reducible rfl) | (simp [go_sem, Instr.field, asAgg] <;> with_reducible rfl)
                rotate_left
                · simp only [Act.put, List.setIfInBounds_toArray, List.set_cons_zero, List.set_cons_succ, i64_w, i32_w]
                  rfl
                refine pure_ (i := 1) (N := some 30) (v := ?_) (a' := ?_) #[true, true, false, false, false, false, false, false, false, false, false, false, false, false, false, false, false, false, false, false, false, false, false, false, false, false, false, false, false] rfl rfl (by kernel_rfl) (fun _ _ _ h => h) (Or.inl ⟨by rfl, ?_⟩) ?_ ?_
                rotate_left
                · intro w'
                  first | (go_simp; with_reducible rfl) | (simp [go_sem, Instr.field, asAgg] <;> with_reducible rfl)
                rotate_left
                · simp only [Act.put, List.setIfInBounds_toArray, List.set_cons_zero, List.set_cons_succ, i64_w, i32_w]
                  rfl
                refine pure_ (i := 2) (N := some 31) (v := ?_) (a' := ?_) #[true, true, true, false, false, false, false, false, false, false, false, false, false, false, false, false, false, false, false, false, false, false, false, false, false, false, false, false, false] rfl rfl (by kernel_rfl) (fun _ _ _ h => h) (Or.inl ⟨by rfl, ?_⟩) ?_ ?_
                rotate_left
                · intro w'
                  first | (go_simp; with_reducible rfl) | (simp [go_sem, Instr.field, asAgg] <;> with_reducible rfl)
                rotate_left
                · simp only [Act.put, List.setIfInBounds_toArray, List.set_cons_zero, List.set_cons_succ, i64_w, i32_w]
                  rfl
                refine take_ (i := 3) (N := some 32) (v := ?_) (a' := ?_) #[true, true, true, true, false, false, false, false, false, false, false, false, false, false, false, false, false, false, false, false, false, false, false, false, false, false, false, false, false] rfl rfl (by kernel_rfl) (fun _ _ _ h => h) (Or.inl ⟨by rfl, ?_⟩) hHeld ?_ ?_
                rotate_left
                · intro w' s0
                  go_simp
                  with_reducible rfl
                rotate_left
                · simp only [Act.put, List.setIfInBounds_toArray, List.set_cons_zero, List.set_cons_succ, i64_w, i32_w]
                  rfl
                refine one_ (i := 4) (N := some 33) #[true, true, true, true, true, false, false, false, false, false, false, false, false, false, false, false, false, false, false, false, false, false, false, false, false, false, false, false, false] rfl rfl (by kernel_rfl) (by decide) (fun K hK => ?_)
                refine goes_ Try.func61 (by kernel_rfl) rfl #[.int .i64 (rd l0 i), .int .i64 1, .int .i64 7] (by rfl) rfl rfl (by simp only [List.map_toArray, List.map_cons, List.map_nil]; rfl) ?_
                with_reducible refine (spec_l00In.calls (rd l0 i) 1 7 true _ AW1.out).mono ?_
                rintro e w5 ⟨rfl, ⟨nd1, rfl⟩⟩
                refine ⟨_, rfl, ?_⟩
                refine hK.out _ _ (((show Below w.heap.size w _ from (by repeat (first | (with_reducible first | exact HB0.out | apply below_alloc | apply pw_below_drewN | apply below_drew1) | exact HB0.out))).cell (World.block_lt_of_cell? w _ HX0.out)).trans HX0.out) (fun hHeld => ?_)
                clear hK K
                refine norm_ (a' := ?_) ?_ ?_
                rotate_left
                · show Act.put _ (some 33) _ = _
                  simp only [Act.put, List.setIfInBounds_toArray, List.set_cons_zero, List.set_cons_succ, i64_w, i32_w]
                  rfl
                refine pure_ (i := 5) (N := some 34) (v := ?_) (a' := ?_) #[true, true, true, true, true, true, false, false, false, false, false, false, false, false, false, false, false, false, false, false, false, false, false, false, false, false, false, false, false] rfl rfl (by kernel_rfl) (fun _ _ _ h => h) (Or.inl ⟨by rfl, ?_⟩) ?_ ?_
                rotate_left
                · intro w'
                  first | (go_simp; with_reducible rfl) | (simp [go_sem, Instr.field, asAgg] <;> with_reducible rfl)
                rotate_left
                · simp only [Act.put, List.setIfInBounds_toArray, List.set_cons_zero, List.set_cons_succ, i64_w, i32_w]
                  rfl
                refine pure_ (i := 6) (N := some 35) (v := ?_) (a' := ?_) #[true, true, true, true, true, true, true, false, false, false, false, false, false, false, false, false, false, false, false, false, false, false, false, false, false, false, false, false, false] rfl rfl (by kernel_rfl) (fun _ _ _ h => h) (Or.inl ⟨by rfl, ?_⟩) ?_ ?_
                rotate_left
                · intro w'
                  first | (go_simp; with_reducible rfl) | (simp [go_sem, Instr.field, asAgg] <;> with_reducible rfl)
                rotate_left
                · simp only [Act.put, List.setIfInBounds_toArray, List.set_cons_zero, List.set_cons_succ, i64_w, i32_w]
                  rfl
                refine pure_ (i := 7) (N := some 36) (v := ?_) (a' := ?_) #[true, true, true, true, true, true, true, true, false, false, false, false, false, false, false, false, false, false, false, false, false, false, false, false, false, false, false, false, false] rfl rfl (by kernel_rfl) (fun _ _ _ h => h) (Or.inl ⟨by rfl, ?_⟩) ?_ ?_
                rotate_left
                · intro w'
                  first | (go_simp; with_reducible rfl) | (simp [go_sem, Instr.field, asAgg] <;> with_reducible rfl)
                rotate_left
                · simp only [Act.put, List.setIfInBounds_toArray, List.set_cons_zero, List.set_cons_succ, i64_w, i32_w]
                  rfl
                refine pure_ (i := 8) (N := some 37) (v := ?_) (a' := ?_) #[true, true, true, true, true, true, true, true, true, false, false, false, false, false, false, false, false, false, false, false, false, false, false, false, false, false, false, false, false] rfl rfl (by kernel_rfl) (fun _ _ _ h => h) (Or.inl ⟨by rfl, ?_⟩) ?_ ?_
                rotate_left
                · intro w'
                  first | (go_simp; with_reducible rfl) | (simp [go_sem, Instr.field, asAgg] <;> with_reducible rfl)
                rotate_left
                · simp only [Act.put, List.setIfInBounds_toArray, List.set_cons_zero, List.set_cons_succ, i64_w, i32_w]
                  rfl
                refine pure_ (i := 9) (N := some 38) (v := ?_) (a' := ?_) #[true, true, true, true, true, true, true, true, true, true, false, false, false, false, false, false, false, false, false, false, false, false, false, false, false, false, false, false, false] rfl rfl (by kernel_rfl) (fun _ _ _ h => h) (Or.inl ⟨by rfl, ?_⟩) ?_ ?_
                rotate_left
                · intro w'
                  first | (go_simp; with_reducible rfl) | (simp [go_sem, Instr.field, asAgg] <;> with_reducible rfl)
                rotate_left
                · simp only [Act.put, List.setIfInBounds_toArray, List.set_cons_zero, List.set_cons_succ, i64_w, i32_w]
                  rfl
                refine pure_ (i := 10) (N := some 39) (v := ?_) (a' := ?_) #[true, true, true, true, true, true, true, true, true, true, true, false, false, false, false, false, false, false, false, false, false, false, false, false, false, false, false, false, false] rfl rfl (by kernel_rfl) (fun _ _ _ h => h) (Or.inl ⟨by rfl, ?_⟩) ?_ ?_
                rotate_left
                · intro w'
                  first | (go_simp; with_reducible rfl) | (simp [go_sem, Instr.field, asAgg] <;> with_reducible rfl)
                rotate_left
                · simp only [Act.put, List.setIfInBounds_toArray, List.set_cons_zero, List.set_cons_succ, i64_w, i32_w]
                  rfl
                refine take_ (i := 11) (N := some 40) (v := ?_) (a' := ?_) #[true, true, true, true, true, true, true, true, true, true, true, true, false, false, false, false, false, false, false, false, false, false, false, false, false, false, false, false, false] rfl rfl (by kernel_rfl) (fun _ _ _ h => h) (Or.inl ⟨by rfl, ?_⟩) hHeld ?_ ?_
                rotate_left
                · intro w' s0
                  go_simp
                  with_reducible rfl
                rotate_left
                · simp only [Act.put, List.setIfInBounds_toArray, List.set_cons_zero, List.set_cons_succ, i64_w, i32_w]
                  rfl
                refine pure_ (i := 12) (N := some 41) (v := ?_) (a' := ?_) #[true, true, true, true, true, true, true, true, true, true, true, true, true, false, false, false, false, false, false, false, false, false, false, false, false, false, false, false, false] rfl rfl (by kernel_rfl) (fun _ _ _ h => h) (Or.inl ⟨by rfl, ?_⟩) ?_ ?_
                rotate_left
                · intro w'
                  first | (go_simp; with_reducible rfl) | (simp [go_sem, Instr.field, asAgg] <;> with_reducible rfl)
                rotate_left
                · simp only [Act.put, List.setIfInBounds_toArray, List.set_cons_zero, List.set_cons_succ, i64_w, i32_w]
                  rfl
                refine pure_ (i := 13) (N := some 42) (v := ?_) (a' := ?_) #[true, true, true, true, true, true, true, true, true, true, true, true, true, true, false, false, false, false, false, false, false, false, false, false, false, false, false, false, false] rfl rfl (by kernel_rfl) (fun _ _ _ h => h) (Or.inl ⟨by rfl, ?_⟩) ?_ ?_
                rotate_left
                · intro w'
                  first | (go_simp; with_reducible rfl) | (simp [go_sem, Instr.field, asAgg] <;> with_reducible rfl)
                rotate_left
                · simp only [Act.put, List.setIfInBounds_toArray, List.set_cons_zero, List.set_cons_succ, i64_w, i32_w]
                  rfl
                refine pure_ (i := 14) (N := some 43) (v := ?_) (a' := ?_) #[true, true, true, true, true, true, true, true, true, true, true, true, true, true, true, false, false, false, false, false, false, false, false, false, false, false, false, false, false] rfl rfl (by kernel_rfl) (fun _ _ _ h => h) (Or.inl ⟨by rfl, ?_⟩) ?_ ?_
                rotate_left
                · intro w'
                  first | (go_simp; with_reducible rfl) | (simp [go_sem, Instr.field, asAgg] <;> with_reducible rfl)
                rotate_left
                · simp only [Act.put, List.setIfInBounds_toArray, List.set_cons_zero, List.set_cons_succ, i64_w, i32_w]
                  rfl
                refine pure_ (i := 15) (N := some 44) (v := ?_) (a' := ?_) #[true, true, true, true, true, true, true, true, true, true, true, true, true, true, true, true, false, false, false, false, false, false, false, false, false, false, false, false, false] rfl rfl (by kernel_rfl) (fun _ _ _ h => h) (Or.inl ⟨by rfl, ?_⟩) ?_ ?_
                rotate_left
                · intro w'
                  first | (go_simp; with_reducible rfl) | (simp [go_sem, Instr.field, asAgg] <;> with_reducible rfl)
                rotate_left
                · simp only [Act.put, List.setIfInBounds_toArray, List.set_cons_zero, List.set_cons_succ, i64_w, i32_w]
                  rfl
                refine pure_ (i := 16) (N := some 45) (v := undef) (a' := ?_) #[true, true, true, true, true, true, true, true, true, true, true, true, true, true, true, true, true, false, false, false, false, false, false, false, false, false, false, false, false] rfl rfl (by kernel_rfl) (fun _ _ _ h => h) (Or.inr ⟨by rfl, rfl⟩) ?_ ?_
                rotate_left
                · simp only [Act.put, List.setIfInBounds_toArray, List.set_cons_zero, List.set_cons_succ, i64_w, i32_w]
                  rfl
                refine pure_ (i := 17) (N := some 46) (v := undef) (a' := ?_) #[true, true, true, true, true, true, true, true, true, true, true, true, true, true, true, true, true, true, false, false, false, false, false, false, false, false, false, false, false] rfl rfl (by kernel_rfl) (fun _ _ _ h => h) (Or.inr ⟨by rfl, rfl⟩) ?_ ?_
                rotate_left
                · simp only [Act.put, List.setIfInBounds_toArray, List.set_cons_zero, List.set_cons_succ, i64_w, i32_w]
                  rfl
                refine pure_ (i := 18) (N := some 47) (v := undef) (a' := ?_) #[true, true, true, true, true, true, true, true, true, true, true, true, true, true, true, true, true, true, true, false, false, false, false, false, false, false, false, false, false] rfl rfl (by kernel_rfl) (fun _ _ _ h => h) (Or.inr ⟨by rfl, rfl⟩) ?_ ?_
                rotate_left
                · simp only [Act.put, List.setIfInBounds_toArray, List.set_cons_zero, List.set_cons_succ, i64_w, i32_w]
                  rfl
                refine pure_ (i := 19) (N := some 48) (v := undef) (a' := ?_) #[true, true, true, true, true, true, true, true, true, true, true, true, true, true, true, true, true, true, true, true, false, false, false, false, false, false, false, false, false] rfl rfl (by kernel_rfl) (fun _ _ _ h => h) (Or.inr ⟨by rfl, rfl⟩) ?_ ?_
                rotate_left
                · simp only [Act.put, List.setIfInBounds_toArray, List.set_cons_zero, List.set_cons_succ, i64_w, i32_w]
                  rfl
                refine pure_ (i := 20) (N := some 49) (v := undef) (a' := ?_) #[true, true, true, true, true, true, true, true, true, true, true, true, true, true, true, true, true, true, true, true, true, false, false, false, false, false, false, false, false] rfl rfl (by kernel_rfl) (fun _ _ _ h => h) (Or.inr ⟨by rfl, rfl⟩) ?_ ?_
                rotate_left
                · simp only [Act.put, List.setIfInBounds_toArray, List.set_cons_zero, List.set_cons_succ, i64_w, i32_w]
                  rfl
                refine pure_ (i := 21) (N := some 50) (v := undef) (a' := ?_) #[true, true, true, true, true, true, true, true, true, true, true, true, true, true, true, true, true, true, true, true, true, true, false, false, false, false, false, false, false] rfl rfl (by kernel_rfl) (fun _ _ _ h => h) (Or.inr ⟨by rfl, rfl⟩) ?_ ?_
                rotate_left
                · simp only [Act.put, List.setIfInBounds_toArray, List.set_cons_zero, List.set_cons_succ, i64_w, i32_w]
                  rfl
                refine pure_ (i := 22) (N := some 51) (v := undef) (a' := ?_) #[true, true, true, true, true, true, true, true, true, true, true, true, true, true, true, true, true, true, true, true, true, true, true, false, false, false, false, false, false] rfl rfl (by kernel_rfl) (fun _ _ _ h => h) (Or.inr ⟨by rfl, rfl⟩) ?_ ?_
                rotate_left
                · simp only [Act.put, List.setIfInBounds_toArray, List.set_cons_zero, List.set_cons_succ, i64_w, i32_w]
                  rfl
                refine pure_ (i := 23) (N := some 52) (v := undef) (a' := ?_) #[true, true, true, true, true, true, true, true, true, true, true, true, true, true, true, true, true, true, true, true, true, true, true, true, false, false, false, false, false] rfl rfl (by kernel_rfl) (fun _ _ _ h => h) (Or.inr ⟨by rfl, rfl⟩) ?_ ?_
                rotate_left
                · simp only [Act.put, List.setIfInBounds_toArray, List.set_cons_zero, List.set_cons_succ, i64_w, i32_w]
                  rfl
                refine pure_ (i := 24) (N := some 53) (v := undef) (a' := ?_) #[true, true, true, true, true, true, true, true, true, true, true, true, true, true, true, true, true, true, true, true, true, true, true, true, true, false, false, false, false] rfl rfl (by kernel_rfl) (fun _ _ _ h => h) (Or.inr ⟨by rfl, rfl⟩) ?_ ?_
                rotate_left
                · simp only [Act.put, List.setIfInBounds_toArray, List.set_cons_zero, List.set_cons_succ, i64_w, i32_w]
                  rfl
                refine pure_ (i := 25) (N := some 54) (v := undef) (a' := ?_) #[true, true, true, true, true, true, true, true, true, true, true, true, true, true, true, true, true, true, true, true, true, true, true, true, true, true, false, false, false] rfl rfl (by kernel_rfl) (fun _ _ _ h => h) (Or.inr ⟨by rfl, rfl⟩) ?_ ?_
                rotate_left
                · simp only [Act.put, List.setIfInBounds_toArray, List.set_cons_zero, List.set_cons_succ, i64_w, i32_w]
                  rfl
                refine pure_ (i := 26) (N := some 55) (v := undef) (a' := ?_) #[true, true, true, true, true, true, true, true, true, true, true, true, true, true, true, true, true, true, true, true, true, true, true, true, true, true, true, false, false] rfl rfl (by kernel_rfl) (fun _ _ _ h => h) (Or.inr ⟨by rfl, rfl⟩) ?_ ?_
                rotate_left
                · simp only [Act.put, List.setIfInBounds_toArray, List.set_cons_zero, List.set_cons_succ, i64_w, i32_w]
                  rfl
                refine pure_ (i := 27) (N := some 56) (v := undef) (a' := ?_) #[true, true, true, true, true, true, true, true, true, true, true, true, true, true, true, true, true, true, true, true, true, true, true, true, true, true, true, true, false] rfl rfl (by kernel_rfl) (fun _ _ _ h => h) (Or.inr ⟨by rfl, rfl⟩) ?_ ?_
                rotate_left
                · simp only [Act.put, List.setIfInBounds_toArray, List.set_cons_zero, List.set_cons_succ, i64_w, i32_w]
                  rfl
                refine pure_ (i := 28) (N := some 57) (v := ?_) (a' := ?_) #[true, true, true, true, true, true, true, true, true, true, true, true, true, true, true, true, true, true, true, true, true, true, true, true, true, true, true, true, true] rfl rfl (by kernel_rfl) (fun _ _ _ h => h) (Or.inl ⟨by rfl, ?_⟩) ?_ ?_
                rotate_left
                · intro w'
                  first | (go_simp; with_reducible rfl) | (simp [go_sem, Instr.field, asAgg] <;> with_reducible rfl)
                rotate_left
                · simp only [Act.put, List.setIfInBounds_toArray, List.set_cons_zero, List.set_cons_succ, i64_w, i32_w]
                  rfl
                refine done_ (by kernel_rfl) ?_
                (try clear hHeld)
                have HB := HB0
                have BK_g2 := B20
                clear HB0 B20
                have hz_g20 : w8x.cell? ⟨g2, 0, none⟩ = some (.int .i64 0) := (blk_cell BK_g2.out 0).trans rfl
                have hz_g2f0 := blk_frozen BK_g2.out 0
                have hz_g21 : w8x.cell? ⟨g2, 1, none⟩ = some (.int .i64 0) := (blk_cell BK_g2.out 1).trans rfl
                have hz_g2f1 := blk_frozen BK_g2.out 1
                have hz_g22 : w8x.cell? ⟨g2, 2, none⟩ = some (.slice none 0 0) := (blk_cell BK_g2.out 2).trans rfl
                have hz_g2f2 := blk_frozen BK_g2.out 2
                (try go_wp2)
                refine bodyPost_ret (results_ct rfl _ _ g2 29 #[.int .i64 0, .int .i64 0, .slice none 0 0] (0, 0) _ rfl (by (with_reducible repeat (first | refine blk_drewN ?_ _ | refine blk_drew ?_ | refine blk_alloc ?_ _)); refine blk_put (cs := #[.int .i64 0, .int .i64 0, .slice none 0 0]) ?_ 2 _ rfl; (with_reducible repeat (first | refine blk_drewN ?_ _ | refine blk_drew ?_ | refine blk_alloc ?_ _)); refine blk_put (cs := #[.int .i64 0, .int .i64 0, .slice none 0 0]) ?_ 1 _ rfl; (with_reducible repeat (first | refine blk_drewN ?_ _ | refine blk_drew ?_ | refine blk_alloc ?_ _)); refine blk_put (cs := #[.int .i64 0, .int .i64 0, .slice none 0 0]) ?_ 0 _ rfl; (with_reducible repeat (first | refine blk_drewN ?_ _ | refine blk_drew ?_ | refine blk_alloc ?_ _)); exact BK_g2.out) Try.underlying29 rfl (by kernel_rfl)) rfl ?_
                exact ⟨_, rfl, Kd.S_nil _ _ _ _ _, (by repeat (first | (with_reducible first | exact HB.out | apply below_alloc | apply pw_below_drewN | apply below_drew1 | refine below_set ?_ GW_g2.out) | exact HB.out))⟩
              · rw [if_neg c12] at H'
                have c12b : decide (7 < wrap64 (s + rd l0 i)) = false := decide_eq_false c12
                by_cases c9 : i < (l1.length : Int)
                case neg => rw [if_neg c9] at H'; exact absurd H' (by simp)
                rw [if_pos c9] at H'
                replace H' := Option.bind_eq_some_iff.mp H'
                obtain ⟨u, At, H'⟩ := H'
                have AW2 := Aside0.mk At
                clear At
                have c9b0 : decide (i < (l1.length : Int)) = true := decide_eq_true c9
                obtain ⟨ad1, e3, hx⟩ := Kd.at_int HR1.out i c7 c9
                cases e3
                have HX1 := Aside0.mk hx
                clear hx
                replace c7 := eq_true c7
                replace c6 := eq_true c6
                replace c9 := eq_true c9
                by_cases c10 : u = true
                · subst c10
                  rw [if_pos rfl] at H'
                  have HF := Aside0.mk H'
                  clear H'
                  go_wp2
                  have HB0 : Aside0 (Below w.heap.size w wr.drew) := ⟨(by repeat (first | (with_reducible first | exact HB.out | apply below_alloc | apply pw_below_drewN | apply below_drew1) | exact HB.out))⟩
                  have B20 : Aside0 (wr.drew.heap[g2]? = some (.cells #[.int .i64 0, .int .i64 0, .slice none 0 0] 29 (0, 0))) := ⟨(by (with_reducible repeat (first | refine blk_drewN ?_ _ | refine blk_drew ?_ | refine blk_alloc ?_ _)); exact BK_g2.out)⟩
                  clear HB BK_g2 hz_g20 hz_g2f0 hz_g21 hz_g2f1 hz_g22 hz_g2f2
                  refine start_ (n := 29) (S := fun w' => w'.cell? (ad0.add i.toNat) = some (.int .i64 (rd l0 i)) ∧ w'.cell? (ad1.add i.toNat) = some (.int .i64 (rd l1 i))) (ds := []) #[false, false, false, false, false, false, false, false, false, false, false, false, false, false, false, false, false, false, false, false, false, false, false, false, false, false, false, false, false] (by kernel_rfl) rfl rfl ⟨((show Below w.heap.size w _ from (by repeat (first | (with_reducible first | exact HB0.out | apply below_alloc | apply pw_below_drewN | apply below_drew1) | exact HB0.out))).cell (World.block_lt_of_cell? w _ HX0.out)).trans HX0.out, ((show Below w.heap.size w _ from (by repeat (first | (with_reducible first | exact HB0.out | apply below_alloc | apply pw_below_drewN | apply below_drew1) | exact HB0.out))).cell (World.block_lt_of_cell? w _ HX1.out)).trans HX1.out⟩ (fun hHeld => ?_)
                  generalize wr.drew = w8x at HB0 B20 hHeld ⊢
                  refine pure_ (i := 0) (N := some 29) (v := ?_) (a' := ?_) #[true, false, false, false, false, false, false, false, false, false, false, false, false, false, false, false, false, false, false, false, false, false, false, false, false, false, false, false, false] rfl rfl (by kernel_rfl) (fun _ _ _ h => h) (Or.inl ⟨by rfl, ?_⟩) ?_ ?_
                  rotate_left
                  · intro w'
                    first | (go_simp; with_reducible rfl) | (simp [go_sem, Instr.field, asAgg] <;> with_reducible rfl)
                  rotate_left
                  · simp only [Act.put, List.setIfInBounds_toArray, List.set_cons_zero, List.set_cons_succ, i64_w, i32_w]
                    rfl
                  refine pure_ (i := 1) (N := some 30) (v := ?_) (a' := ?_) #[true, true, false, false, false, false, false, false, false, false, false, false, false, false, false, false, false, false, false, false, false, false, false, false, false, false, false, false, false] rfl rfl (by kernel_rfl) (fun _ _ _ h => h) (Or.inl ⟨by rfl, ?_⟩) ?_ ?_
                  rotate_left
                  · intro w'
                    first | (go_simp; with_reducible rfl) | (simp [go_sem, Instr.field, asAgg] <;> with_reducible rfl)
                  rotate_left
                  · simp only [Act.put, List.setIfInBounds_toArray, List.set_cons_zero, List.set_cons_succ, i64_w, i32_w]
                    rfl
                  refine pure_ (i := 2) (N := some 31) (v := ?_) (a' := ?_) #[true, true, true, false, false, false, false, false, false, false, false, false, false, false, false, false, false, false, false, false, false, false, false, false, false, false, false, false, false] rfl rfl (by kernel_rfl) (fun _ _ _ h => h) (Or.inl ⟨by rfl, ?_⟩) ?_ ?_
                  rotate_left
                  · intro w'
                    first | (go_simp; with_reducible rfl) | (simp [go_sem, Instr.field, asAgg] <;> with_reducible rfl)
                  rotate_left
                  · simp only [Act.put, List.setIfInBounds_toArray, List.set_cons_zero, List.set_cons_succ, i64_w, i32_w]
                    rfl
                  refine take_ (i := 3) (N := some 32) (v := ?_) (a' := ?_) #[true, true, true, true, false, false, false, false, false, false, false, false, false, false, false, false, false, false, false, false, false, false, false, false, false, false, false, false, false] rfl rfl (by kernel_rfl) (fun _ _ _ h => h) (Or.inl ⟨by rfl, ?_⟩) hHeld ?_ ?_
                  rotate_left
                  · rintro w' ⟨s0, s1⟩
                    go_simp
                    with_reducible rfl
                  rotate_left
                  · simp only [Act.put, List.setIfInBounds_toArray, List.set_cons_zero, List.set_cons_succ, i64_w, i32_w]
                    rfl
                  refine one_ (i := 4) (N := some 33) #[true, true, true, true, true, false, false, false, false, false, false, false, false, false, false, false, false, false, false, false, false, false, false, false, false, false, false, false, false] rfl rfl (by kernel_rfl) (by decide) (fun K hK => ?_)
                  refine goes_ Try.func61 (by kernel_rfl) rfl #[.int .i64 (rd l0 i), .int .i64 1, .int .i64 7] (by rfl) rfl rfl (by simp only [List.map_toArray, List.map_cons, List.map_nil]; rfl) ?_
                  with_reducible refine (spec_l00In.calls (rd l0 i) 1 7 true _ AW1.out).mono ?_
                  rintro e w5 ⟨rfl, ⟨nd1, rfl⟩⟩
                  refine ⟨_, rfl, ?_⟩
                  refine hK.out _ _ ⟨((show Below w.heap.size w _ from (by repeat (first | (with_reducible first | exact HB0.out | apply below_alloc | apply pw_below_drewN | apply below_drew1) | exact HB0.out))).cell (World.block_lt_of_cell? w _ HX0.out)).trans HX0.out, ((show Below w.heap.size w _ from (by repeat (first | (with_reducible first | exact HB0.out | apply below_alloc | apply pw_below_drewN | apply below_drew1) | exact HB0.out))).cell (World.block_lt_of_cell? w _ HX1.out)).trans HX1.out⟩ (fun hHeld => ?_)
                  clear hK K
                  refine norm_ (a' := ?_) ?_ ?_
                  rotate_left
                  · show Act.put _ (some 33) _ = _
                    simp only [Act.put, List.setIfInBounds_toArray, List.set_cons_zero, List.set_cons_succ, i64_w, i32_w]
                    rfl
                  refine pure_ (i := 5) (N := some 34) (v := ?_) (a' := ?_) #[true, true, true, true, true, true, false, false, false, false, false, false, false, false, false, false, false, false, false, false, false, false, false, false, false, false, false, false, false] rfl rfl (by kernel_rfl) (fun _ _ _ h => h) (Or.inl ⟨by rfl, ?_⟩) ?_ ?_
                  rotate_left
                  · intro w'
                    first | (go_simp; with_reducible rfl) | (simp [go_sem, Instr.field, asAgg] <;> with_reducible rfl)
                  rotate_left
                  · simp only [Act.put, List.setIfInBounds_toArray, List.set_cons_zero, List.set_cons_succ, i64_w, i32_w]
                    rfl
                  refine pure_ (i := 6) (N := some 35) (v := ?_) (a' := ?_) #[true, true, true, true, true, true, true, false, false, false, false, false, false, false, false, false, false, false, false, false, false, false, false, false, false, false, false, false, false] rfl rfl (by kernel_rfl) (fun _ _ _ h => h) (Or.inl ⟨by rfl, ?_⟩) ?_ ?_
                  rotate_left
                  · intro w'
                    first | (go_simp; with_reducible rfl) | (simp [go_sem, Instr.field, asAgg] <;> with_reducible rfl)
                  rotate_left
                  · simp only [Act.put, List.setIfInBounds_toArray, List.set_cons_zero, List.set_cons_succ, i64_w, i32_w]
                    rfl
                  refine pure_ (i := 7) (N := some 36) (v := ?_) (a' := ?_) #[true, true, true, true, true, true, true, true, false, false, false, false, false, false, false, false, false, false, false, false, false, false, false, false, false, false, false, false, false] rfl rfl (by kernel_rfl) (fun _ _ _ h => h) (Or.inl ⟨by rfl, ?_⟩) ?_ ?_
                  rotate_left
                  · intro w'
                    first | (go_simp; with_reducible rfl) | (simp [go_sem, Instr.field, asAgg] <;> with_reducible rfl)
                  rotate_left
                  · simp only [Act.put, List.setIfInBounds_toArray, List.set_cons_zero, List.set_cons_succ, i64_w, i32_w]
                    rfl
                  refine pure_ (i := 8) (N := some 37) (v := ?_) (a' := ?_) #[true, true, true, true, true, true, true, true, true, false, false, false, false, false, false, false, false, false, false, false, false, false, false, false, false, false, false, false, false] rfl rfl (by kernel_rfl) (fun _ _ _ h => h) (Or.inl ⟨by rfl, ?_⟩) ?_ ?_
                  rotate_left
                  · intro w'
                    first | (go_simp; with_reducible rfl) | (simp [go_sem, Instr.field, asAgg] <;> with_reducible rfl)
                  rotate_left
                  · simp only [Act.put, List.setIfInBounds_toArray, List.set_cons_zero, List.set_cons_succ, i64_w, i32_w]
                    rfl
                  refine pure_ (i := 9) (N := some 38) (v := ?_) (a' := ?_) #[true, true, true, true, true, true, true, true, true, true, false, false, false, false, false, false, false, false, false, false, false, false, false, false, false, false, false, false, false] rfl rfl (by kernel_rfl) (fun _ _ _ h => h) (Or.inl ⟨by rfl, ?_⟩) ?_ ?_
                  rotate_left
                  · intro w'
                    first | (go_simp; with_reducible rfl) | (simp [go_sem, Instr.field, asAgg] <;> with_reducible rfl)
                  rotate_left
                  · simp only [Act.put, List.setIfInBounds_toArray, List.set_cons_zero, List.set_cons_succ, i64_w, i32_w]
                    rfl
                  refine pure_ (i := 10) (N := some 39) (v := ?_) (a' := ?_) #[true, true, true, true, true, true, true, true, true, true, true, false, false, false, false, false, false, false, false, false, false, false, false, false, false, false, false, false, false] rfl rfl (by kernel_rfl) (fun _ _ _ h => h) (Or.inl ⟨by rfl, ?_⟩) ?_ ?_
                  rotate_left
                  · intro w'
                    first | (go_simp; with_reducible rfl) | (simp [go_sem, Instr.field, asAgg] <;> with_reducible rfl)
                  rotate_left
                  · simp only [Act.put, List.setIfInBounds_toArray, List.set_cons_zero, List.set_cons_succ, i64_w, i32_w]
                    rfl
                  refine take_ (i := 11) (N := some 40) (v := ?_) (a' := ?_) #[true, true, true, true, true, true, true, true, true, true, true, true, false, false, false, false, false, false, false, false, false, false, false, false, false, false, false, false, false] rfl rfl (by kernel_rfl) (fun _ _ _ h => h) (Or.inl ⟨by rfl, ?_⟩) hHeld ?_ ?_
                  rotate_left
                  · rintro w' ⟨s0, s1⟩
                    go_simp
                    with_reducible rfl
                  rotate_left
                  · simp only [Act.put, List.setIfInBounds_toArray, List.set_cons_zero, List.set_cons_succ, i64_w, i32_w]
                    rfl
                  refine pure_ (i := 12) (N := some 41) (v := ?_) (a' := ?_) #[true, true, true, true, true, true, true, true, true, true, true, true, true, false, false, false, false, false, false, false, false, false, false, false, false, false, false, false, false] rfl rfl (by kernel_rfl) (fun _ _ _ h => h) (Or.inl ⟨by rfl, ?_⟩) ?_ ?_
                  rotate_left
                  · intro w'
                    first | (go_simp; with_reducible rfl) | (simp [go_sem, Instr.field, asAgg] <;> with_reducible rfl)
                  rotate_left
                  · simp only [Act.put, List.setIfInBounds_toArray, List.set_cons_zero, List.set_cons_succ, i64_w, i32_w]
                    rfl
                  refine pure_ (i := 13) (N := some 42) (v := ?_) (a' := ?_) #[true, true, true, true, true, true, true, true, true, true, true, true, true, true, false, false, false, false, false, false, false, false, false, false, false, false, false, false, false] rfl rfl (by kernel_rfl) (fun _ _ _ h => h) (Or.inl ⟨by rfl, ?_⟩) ?_ ?_
                  rotate_left
                  · intro w'
                    first | (go_simp; with_reducible rfl) | (simp [go_sem, Instr.field, asAgg] <;> with_reducible rfl)
                  rotate_left
                  · simp only [Act.put, List.setIfInBounds_toArray, List.set_cons_zero, List.set_cons_succ, i64_w, i32_w]
                    rfl
                  refine pure_ (i := 14) (N := some 43) (v := ?_) (a' := ?_) #[true, true, true, true, true, true, true, true, true, true, true, true, true, true, true, false, false, false, false, false, false, false, false, false, false, false, false, false, false] rfl rfl (by kernel_rfl) (fun _ _ _ h => h) (Or.inl ⟨by rfl, ?_⟩) ?_ ?_
                  rotate_left
                  · intro w'
                    first | (go_simp; with_reducible rfl) | (simp [go_sem, Instr.field, asAgg] <;> with_reducible rfl)
                  rotate_left
                  · simp only [Act.put, List.setIfInBounds_toArray, List.set_cons_zero, List.set_cons_succ, i64_w, i32_w]
                    rfl
                  refine pure_ (i := 15) (N := some 44) (v := ?_) (a' := ?_) #[true, true, true, true, true, true, true, true, true, true, true, true, true, true, true, true, false, false, false, false, false, false, false, false, false, false, false, false, false] rfl rfl (by kernel_rfl) (fun _ _ _ h => h) (Or.inl ⟨by rfl, ?_⟩) ?_ ?_
                  rotate_left
                  · intro w'
                    first | (go_simp; with_reducible rfl) | (simp [go_sem, Instr.field, asAgg] <;> with_reducible rfl)
                  rotate_left
                  · simp only [Act.put, List.setIfInBounds_toArray, List.set_cons_zero, List.set_cons_succ, i64_w, i32_w]
                    rfl
                  refine pure_ (i := 16) (N := some 45) (v := ?_) (a' := ?_) #[true, true, true, true, true, true, true, true, true, true, true, true, true, true, true, true, true, false, false, false, false, false, false, false, false, false, false, false, false] rfl rfl (by kernel_rfl) (fun _ _ _ h => h) (Or.inl ⟨by rfl, ?_⟩) ?_ ?_
                  rotate_left
                  · intro w'
                    first | (go_simp; with_reducible rfl) | (simp [go_sem, Instr.field, asAgg] <;> with_reducible rfl)
                  rotate_left
                  · simp only [Act.put, List.setIfInBounds_toArray, List.set_cons_zero, List.set_cons_succ, i64_w, i32_w]
                    rfl
                  refine pure_ (i := 17) (N := some 46) (v := ?_) (a' := ?_) #[true, true, true, true, true, true, true, true, true, true, true, true, true, true, true, true, true, true, false, false, false, false, false, false, false, false, false, false, false] rfl rfl (by kernel_rfl) (fun _ _ _ h => h) (Or.inl ⟨by rfl, ?_⟩) ?_ ?_
                  rotate_left
                  · intro w'
                    first | (go_simp; with_reducible rfl) | (simp [go_sem, Instr.field, asAgg] <;> with_reducible rfl)
                  rotate_left
                  · simp only [Act.put, List.setIfInBounds_toArray, List.set_cons_zero, List.set_cons_succ, i64_w, i32_w]
                    rfl
                  refine pure_ (i := 18) (N := some 47) (v := ?_) (a' := ?_) #[true, true, true, true, true, true, true, true, true, true, true, true, true, true, true, true, true, true, true, false, false, false, false, false, false, false, false, false, false] rfl rfl (by kernel_rfl) (fun _ _ _ h => h) (Or.inl ⟨by rfl, ?_⟩) ?_ ?_
                  rotate_left
                  · intro w'
                    first | (go_simp; with_reducible rfl) | (simp [go_sem, Instr.field, asAgg] <;> with_reducible rfl)
                  rotate_left
                  · simp only [Act.put, List.setIfInBounds_toArray, List.set_cons_zero, List.set_cons_succ, i64_w, i32_w]
                    rfl
                  refine pure_ (i := 20) (N := some 49) (v := ?_) (a' := ?_) #[true, true, true, true, true, true, true, true, true, true, true, true, true, true, true, true, true, true, true, false, true, false, false, false, false, false, false, false, false] rfl rfl (by kernel_rfl) (fun _ _ _ h => h) (Or.inl ⟨by rfl, ?_⟩) ?_ ?_
                  rotate_left
                  · intro w'
                    first | (go_simp; with_reducible rfl) | (simp [go_sem, Instr.field, asAgg] <;> with_reducible rfl)
                  rotate_left
                  · simp only [Act.put, List.setIfInBounds_toArray, List.set_cons_zero, List.set_cons_succ, i64_w, i32_w]
                    rfl
                  refine pure_ (i := 21) (N := some 50) (v := ?_) (a' := ?_) #[true, true, true, true, true, true, true, true, true, true, true, true, true, true, true, true, true, true, true, false, true, true, false, false, false, false, false, false, false] rfl rfl (by kernel_rfl) (fun _ _ _ h => h) (Or.inl ⟨by rfl, ?_⟩) ?_ ?_
                  rotate_left
                  · intro w'
                    first | (go_simp; with_reducible rfl) | (simp [go_sem, Instr.field, asAgg] <;> with_reducible rfl)
                  rotate_left
                  · simp only [Act.put, List.setIfInBounds_toArray, List.set_cons_zero, List.set_cons_succ, i64_w, i32_w]
                    rfl
                  refine pure_ (i := 22) (N := some 51) (v := ?_) (a' := ?_) #[true, true, true, true, true, true, true, true, true, true, true, true, true, true, true, true, true, true, true, false, true, true, true, false, false, false, false, false, false] rfl rfl (by kernel_rfl) (fun _ _ _ h => h) (Or.inl ⟨by rfl, ?_⟩) ?_ ?_
                  rotate_left
                  · intro w'
                    first | (go_simp; with_reducible rfl) | (simp [go_sem, Instr.field, asAgg] <;> with_reducible rfl)
                  rotate_left
                  · simp only [Act.put, List.setIfInBounds_toArray, List.set_cons_zero, List.set_cons_succ, i64_w, i32_w]
                    rfl
                  refine pure_ (i := 23) (N := some 52) (v := ?_) (a' := ?_) #[true, true, true, true, true, true, true, true, true, true, true, true, true, true, true, true, true, true, true, false, true, true, true, true, false, false, false, false, false] rfl rfl (by kernel_rfl) (fun _ _ _ h => h) (Or.inl ⟨by rfl, ?_⟩) ?_ ?_
                  rotate_left
                  · intro w'
                    first | (go_simp; with_reducible rfl) | (simp [go_sem, Instr.field, asAgg] <;> with_reducible rfl)
                  rotate_left
                  · simp only [Act.put, List.setIfInBounds_toArray, List.set_cons_zero, List.set_cons_succ, i64_w, i32_w]
                    rfl
                  refine take_ (i := 19) (N := some 48) (v := ?_) (a' := ?_) #[true, true, true, true, true, true, true, true, true, true, true, true, true, true, true, true, true, true, true, true, true, true, true, true, false, false, false, false, false] rfl rfl (by kernel_rfl) (fun _ _ _ h => h) (Or.inl ⟨by rfl, ?_⟩) hHeld ?_ ?_
                  rotate_left
                  · rintro w' ⟨s0, s1⟩
                    go_simp
                    with_reducible rfl
                  rotate_left
                  · simp only [Act.put, List.setIfInBounds_toArray, List.set_cons_zero, List.set_cons_succ, i64_w, i32_w]
                    rfl
                  refine take_ (i := 24) (N := some 53) (v := ?_) (a' := ?_) #[true, true, true, true, true, true, true, true, true, true, true, true, true, true, true, true, true, true, true, true, true, true, true, true, true, false, false, false, false] rfl rfl (by kernel_rfl) (fun _ _ _ h => h) (Or.inl ⟨by rfl, ?_⟩) hHeld ?_ ?_
                  rotate_left
                  · rintro w' ⟨s0, s1⟩
                    go_simp
                    with_reducible rfl
                  rotate_left
                  · simp only [Act.put, List.setIfInBounds_toArray, List.set_cons_zero, List.set_cons_succ, i64_w, i32_w]
                    rfl
                  refine pure_ (i := 25) (N := some 54) (v := ?_) (a' := ?_) #[true, true, true, true, true, true, true, true, true, true, true, true, true, true, true, true, true, true, true, true, true, true, true, true, true, true, false, false, false] rfl rfl (by kernel_rfl) (fun _ _ _ h => h) (Or.inl ⟨by rfl, ?_⟩) ?_ ?_
                  rotate_left
                  · intro w'
                    first | (go_simp; with_reducible rfl) | (simp [go_sem, Instr.field, asAgg] <;> with_reducible rfl)
                  rotate_left
                  · simp only [Act.put, List.setIfInBounds_toArray, List.set_cons_zero, List.set_cons_succ, i64_w, i32_w]
                    rfl
                  refine one_ (i := 26) (N := some 55) #[true, true, true, true, true, true, true, true, true, true, true, true, true, true, true, true, true, true, true, true, true, true, true, true, true, true, true, false, false] rfl rfl (by kernel_rfl) (by decide) (fun K hK => ?_)
                  refine goes_ Try.func61 (by kernel_rfl) rfl #[.int .i64 (rd l1 i), .int .i64 1, .int .i64 (wrap64 (s + rd l0 i))] (by rfl) rfl rfl (by simp only [List.map_toArray, List.map_cons, List.map_nil]; rfl) ?_
                  with_reducible refine (spec_l00In.calls (rd l1 i) 1 (wrap64 (s + rd l0 i)) true _ AW2.out).mono ?_
                  rintro e w5 ⟨rfl, ⟨nd2, rfl⟩⟩
                  refine ⟨_, rfl, ?_⟩
                  refine hK.out _ _ ⟨((show Below w.heap.size w _ from (by repeat (first | (with_reducible first | exact HB0.out | apply below_alloc | apply pw_below_drewN | apply below_drew1) | exact HB0.out))).cell (World.block_lt_of_cell? w _ HX0.out)).trans HX0.out, ((show Below w.heap.size w _ from (by repeat (first | (with_reducible first | exact HB0.out | apply below_alloc | apply pw_below_drewN | apply below_drew1) | exact HB0.out))).cell (World.block_lt_of_cell? w _ HX1.out)).trans HX1.out⟩ (fun hHeld => ?_)
                  clear hK K
                  refine norm_ (a' := ?_) ?_ ?_
                  rotate_left
                  · show Act.put _ (some 55) _ = _
                    simp only [Act.put, List.setIfInBounds_toArray, List.set_cons_zero, List.set_cons_succ, i64_w, i32_w]
                    rfl
                  refine pure_ (i := 27) (N := some 56) (v := ?_) (a' := ?_) #[true, true, true, true, true, true, true, true, true, true, true, true, true, true, true, true, true, true, true, true, true, true, true, true, true, true, true, true, false] rfl rfl (by kernel_rfl) (fun _ _ _ h => h) (Or.inl ⟨by rfl, ?_⟩) ?_ ?_
                  rotate_left
                  · intro w'
                    first | (go_simp; with_reducible rfl) | (simp [go_sem, Instr.field, asAgg] <;> with_reducible rfl)
                  rotate_left
                  · simp only [Act.put, List.setIfInBounds_toArray, List.set_cons_zero, List.set_cons_succ, i64_w, i32_w]
                    rfl
                  refine pure_ (i := 28) (N := some 57) (v := ?_) (a' := ?_) #[true, true, true, true, true, true, true, true, true, true, true, true, true, true, true, true, true, true, true, true, true, true, true, true, true, true, true, true, true] rfl rfl (by kernel_rfl) (fun _ _ _ h => h) (Or.inl ⟨by rfl, ?_⟩) ?_ ?_
                  rotate_left
                  · intro w'
                    first | (go_simp; with_reducible rfl) | (simp [go_sem, Instr.field, asAgg] <;> with_reducible rfl)
                  rotate_left
                  · simp only [Act.put, List.setIfInBounds_toArray, List.set_cons_zero, List.set_cons_succ, i64_w, i32_w]
                    rfl
                  refine done_ (by kernel_rfl) ?_
                  (try clear hx0)
                  obtain ⟨hx0, hx1_⟩ := hHeld
                  clear hx1_
                  have HB := HB0
                  have BK_g2 := B20
                  clear HB0 B20
                  have hz_g20 : w8x.cell? ⟨g2, 0, none⟩ = some (.int .i64 0) := (blk_cell BK_g2.out 0).trans rfl
                  have hz_g2f0 := blk_frozen BK_g2.out 0
                  have hz_g21 : w8x.cell? ⟨g2, 1, none⟩ = some (.int .i64 0) := (blk_cell BK_g2.out 1).trans rfl
                  have hz_g2f1 := blk_frozen BK_g2.out 1
                  have hz_g22 : w8x.cell? ⟨g2, 2, none⟩ = some (.slice none 0 0) := (blk_cell BK_g2.out 2).trans rfl
                  have hz_g2f2 := blk_frozen BK_g2.out 2
                  go_wp2
                  go_roundg k1
                  case measure => have := HK1.out; omega
                  case rel => exact ⟨_, _, rfl, rfl, HF, ⟨by have := HK1.out; omega⟩, ⟨(by (with_reducible repeat (first | refine blk_drewN ?_ _ | refine blk_drew ?_ | refine blk_alloc ?_ _)); exact BK_g2.out)⟩, ⟨(by repeat (first | (with_reducible first | exact HB.out | apply below_alloc | apply pw_below_drewN | apply below_drew1) | exact HB.out))⟩⟩
                · replace c10 := Bool.eq_false_iff.mpr c10
                  subst c10
                  rw [if_neg (show ¬ (false = true) by decide)] at H'
                  obtain rfl : none = q := Option.some.inj H'
                  clear H'
                  have H := HQ.out
                  simp only [levS.fin] at H
                  simp only [Option.some.injEq, Prod.mk.injEq] at H
                  obtain ⟨rfl, rfl, rfl, rfl⟩ := H
                  go_wp2
                  have HB0 : Aside0 (Below w.heap.size w wr.drew) := ⟨(by repeat (first | (with_reducible first | exact HB.out | apply below_alloc | apply pw_below_drewN | apply below_drew1) | exact HB.out))⟩
                  have B20 : Aside0 (wr.drew.heap[g2]? = some (.cells #[.int .i64 0, .int .i64 0, .slice none 0 0] 29 (0, 0))) := ⟨(by (with_reducible repeat (first | refine blk_drewN ?_ _ | refine blk_drew ?_ | refine blk_alloc ?_ _)); exact BK_g2.out)⟩
                  clear HB BK_g2 hz_g20 hz_g2f0 hz_g21 hz_g2f1 hz_g22 hz_g2f2
                  refine start_ (n := 29) (S := fun w' => w'.cell? (ad0.add i.toNat) = some (.int .i64 (rd l0 i)) ∧ w'.cell? (ad1.add i.toNat) = some (.int .i64 (rd l1 i))) (ds := []) #[false, false, false, false, false, false, false, false, false, false, false, false, false, false, false, false, false, false, false, false, false, false, false, false, false, false, false, false, false] (by kernel_rfl) rfl rfl ⟨((show Below w.heap.size w _ from (by repeat (first | (with_reducible first | exact HB0.out | apply below_alloc | apply pw_below_drewN | apply below_drew1) | exact HB0.out))).cell (World.block_lt_of_cell? w _ HX0.out)).trans HX0.out, ((show Below w.heap.size w _ from (by repeat (first | (with_reducible first | exact HB0.out | apply below_alloc | apply pw_below_drewN | apply below_drew1) | exact HB0.out))).cell (World.block_lt_of_cell? w _ HX1.out)).trans HX1.out⟩ (fun hHeld => ?_)
                  generalize wr.drew = w8x at HB0 B20 hHeld ⊢
                  refine pure_ (i := 0) (N := some 29) (v := ?_) (a' := ?_) #[true, false, false, false, false, false, false, false, false, false, false, false, false, false, false, false, false, false, false, false, false, false, false, false, false, false, false, false, false] rfl rfl (by kernel_rfl) (fun _ _ _ h => h) (Or.inl ⟨by rfl, ?_⟩) ?_ ?_
                  rotate_left
                  · intro w'
                    first | (go_simp; with_reducible rfl) | (simp [go_sem, Instr.field, asAgg] <;> with_reducible rfl)
                  rotate_left
                  · simp only [Act.put, List.setIfInBounds_toArray, List.set_cons_zero, List.set_cons_succ, i64_w, i32_w]
                    rfl
                  refine pure_ (i := 1) (N := some 30) (v := ?_) (a' := ?_) #[true, true, false, false, false, false, false, false, false, false, false, false, false, false, false, false, false, false, false, false, false, false, false, false, false, false, false, false, false] rfl rfl (by kernel_rfl) (fun _ _ _ h => h) (Or.inl ⟨by rfl, ?_⟩) ?_ ?_
                  rotate_left
                  · intro w'
                    first | (go_simp; with_reducible rfl) | (simp [go_sem, Instr.field, asAgg] <;> with_reducible rfl)
                  rotate_left
                  · simp only [Act.put, List.setIfInBounds_toArray, List.set_cons_zero, List.set_cons_succ, i64_w, i32_w]
                    rfl
                  refine pure_ (i := 2) (N := some 31) (v := ?_) (a' := ?_) #[true, true, true, false, false, false, false, false, false, false, false, false, false, false, false, false, false, false, false, false, false, false, false, false, false, false, false, false, false] rfl rfl (by kernel_rfl) (fun _ _ _ h => h) (Or.inl ⟨by rfl, ?_⟩) ?_ ?_
                  rotate_left
                  · intro w'
                    first | (go_simp; with_reducible rfl) | (simp [go_sem, Instr.field, asAgg] <;> with_reducible rfl)
                  rotate_left
                  · simp only [Act.put, List.setIfInBounds_toArray, List.set_cons_zero, List.set_cons_succ, i64_w, i32_w]
                    rfl
                  refine take_ (i := 3) (N := some 32) (v := ?_) (a' := ?_) #[true, true, true, true, false, false, false, false, false, false, false, false, false, false, false, false, false, false, false, false, false, false, false, false, false, false, false, false, false] rfl rfl (by kernel_rfl) (fun _ _ _ h => h) (Or.inl ⟨by rfl, ?_⟩) hHeld ?_ ?_
                  rotate_left
                  · rintro w' ⟨s0, s1⟩
                    go_simp
                    with_reducible rfl
                  rotate_left
                  · simp only [Act.put, List.setIfInBounds_toArray, List.set_cons_zero, List.set_cons_succ, i64_w, i32_w]
                    rfl
                  refine one_ (i := 4) (N := some 33) #[true, true, true, true, true, false, false, false, false, false, false, false, false, false, false, false, false, false, false, false, false, false, false, false, false, false, false, false, false] rfl rfl (by kernel_rfl) (by decide) (fun K hK => ?_)
                  refine goes_ Try.func61 (by kernel_rfl) rfl #[.int .i64 (rd l0 i), .int .i64 1, .int .i64 7] (by rfl) rfl rfl (by simp only [List.map_toArray, List.map_cons, List.map_nil]; rfl) ?_
                  with_reducible refine (spec_l00In.calls (rd l0 i) 1 7 true _ AW1.out).mono ?_
                  rintro e w5 ⟨rfl, ⟨nd1, rfl⟩⟩
                  refine ⟨_, rfl, ?_⟩
                  refine hK.out _ _ ⟨((show Below w.heap.size w _ from (by repeat (first | (with_reducible first | exact HB0.out | apply below_alloc | apply pw_below_drewN | apply below_drew1) | exact HB0.out))).cell (World.block_lt_of_cell? w _ HX0.out)).trans HX0.out, ((show Below w.heap.size w _ from (by repeat (first | (with_reducible first | exact HB0.out | apply below_alloc | apply pw_below_drewN | apply below_drew1) | exact HB0.out))).cell (World.block_lt_of_cell? w _ HX1.out)).trans HX1.out⟩ (fun hHeld => ?_)
                  clear hK K
                  refine norm_ (a' := ?_) ?_ ?_
                  rotate_left
                  · show Act.put _ (some 33) _ = _
                    simp only [Act.put, List.setIfInBounds_toArray, List.set_cons_zero, List.set_cons_succ, i64_w, i32_w]
                    rfl
                  refine pure_ (i := 5) (N := some 34) (v := ?_) (a' := ?_) #[true, true, true, true, true, true, false, false, false, false, false, false, false, false, false, false, false, false, false, false, false, false, false, false, false, false, false, false, false] rfl rfl (by kernel_rfl) (fun _ _ _ h => h) (Or.inl ⟨by rfl, ?_⟩) ?_ ?_
                  rotate_left
                  · intro w'
                    first | (go_simp; with_reducible rfl) | (simp [go_sem, Instr.field, asAgg] <;> with_reducible rfl)
                  rotate_left
                  · simp only [Act.put, List.setIfInBounds_toArray, List.set_cons_zero, List.set_cons_succ, i64_w, i32_w]
                    rfl
                  refine pure_ (i := 6) (N := some 35) (v := ?_) (a' := ?_) #[true, true, true, true, true, true, true, false, false, false, false, false, false, false, false, false, false, false, false, false, false, false, false, false, false, false, false, false, false] rfl rfl (by kernel_rfl) (fun _ _ _ h => h) (Or.inl ⟨by rfl, ?_⟩) ?_ ?_
                  rotate_left
                  · intro w'
                    first | (go_simp; with_reducible rfl) | (simp [go_sem, Instr.field, asAgg] <;> with_reducible rfl)
                  rotate_left
                  · simp only [Act.put, List.setIfInBounds_toArray, List.set_cons_zero, List.set_cons_succ, i64_w, i32_w]
                    rfl
                  refine pure_ (i := 7) (N := some 36) (v := ?_) (a' := ?_) #[true, true, true, true, true, true, true, true, false, false, false, false, false, false, false, false, false, false, false, false, false, false, false, false, false, false, false, false, false] rfl rfl (by kernel_rfl) (fun _ _ _ h => h) (Or.inl ⟨by rfl, ?_⟩) ?_ ?_
                  rotate_left
                  · intro w'
                    first | (go_simp; with_reducible rfl) | (simp [go_sem, Instr.field, asAgg] <;> with_reducible rfl)
                  rotate_left
                  · simp only [Act.put, List.setIfInBounds_toArray, List.set_cons_zero, List.set_cons_succ, i64_w, i32_w]
                    rfl
                  refine pure_ (i := 8) (N := some 37) (v := ?_) (a' := ?_) #[true, true, true, true, true, true, true, true, true, false, false, false, false, false, false, false, false, false, false, false, false, false, false, false, false, false, false, false, false] rfl rfl (by kernel_rfl) (fun _ _ _ h => h) (Or.inl ⟨by rfl, ?_⟩) ?_ ?_
                  rotate_left
                  · intro w'
                    first | (go_simp; with_reducible rfl) | (simp [go_sem, Instr.field, asAgg] <;> with_reducible rfl)
                  rotate_left
                  · simp only [Act.put, List.setIfInBounds_toArray, List.set_cons_zero, List.set_cons_succ, i64_w, i32_w]
                    rfl
                  refine pure_ (i := 9) (N := some 38) (v := ?_) (a' := ?_) #[true, true, true, true, true, true, true, true, true, true, false, false, false, false, false, false, false, false, false, false, false, false, false, false, false, false, false, false, false] rfl rfl (by kernel_rfl) (fun _ _ _ h => h) (Or.inl ⟨by rfl, ?_⟩) ?_ ?_
                  rotate_left
                  · intro w'
                    first | (go_simp; with_reducible rfl) | (simp [go_sem, Instr.field, asAgg] <;> with_reducible rfl)
                  rotate_left
                  · simp only [Act.put, List.setIfInBounds_toArray, List.set_cons_zero, List.set_cons_succ, i64_w, i32_w]
                    rfl
                  refine pure_ (i := 10) (N := some 39) (v := ?_) (a' := ?_) #[true, true, true, true, true, true, true, true, true, true, true, false, false, false, false, false, false, false, false, false, false, false, false, false, false, false, false, false, false] rfl rfl (by kernel_rfl) (fun _ _ _ h => h) (Or.inl ⟨by rfl, ?_⟩) ?_ ?_
                  rotate_left
                  · intro w'
                    first | (go_simp; with_reducible rfl) | (simp [go_sem, Instr.field, asAgg] <;> with_reducible rfl)
                  rotate_left
                  · simp only [Act.put, List.setIfInBounds_toArray, List.set_cons_zero, List.set_cons_succ, i64_w, i32_w]
                    rfl
                  refine take_ (i := 11) (N := some 40) (v := ?_) (a' := ?_) #[true, true, true, true, true, true, true, true, true, true, true, true, false, false, false, false, false, false, false, false, false, false, false, false, false, false, false, false, false] rfl rfl (by kernel_rfl) (fun _ _ _ h => h) (Or.inl ⟨by rfl, ?_⟩) hHeld ?_ ?_
                  rotate_left
                  · rintro w' ⟨s0, s1⟩
                    go_simp
                    with_reducible rfl
                  rotate_left
                  · simp only [Act.put, List.setIfInBounds_toArray, List.set_cons_zero, List.set_cons_succ, i64_w, i32_w]
                    rfl
                  refine pure_ (i := 12) (N := some 41) (v := ?_) (a' := ?_) #[true, true, true, true, true, true, true, true, true, true, true, true, true, false, false, false, false, false, false, false, false, false, false, false, false, false, false, false, false] rfl rfl (by kernel_rfl) (fun _ _ _ h => h) (Or.inl ⟨by rfl, ?_⟩) ?_ ?_
                  rotate_left
                  · intro w'
                    first | (go_simp; with_reducible rfl) | (simp [go_sem, Instr.field, asAgg] <;> with_reducible rfl)
                  rotate_left
                  · simp only [Act.put, List.setIfInBounds_toArray, List.set_cons_zero, List.set_cons_succ, i64_w, i32_w]
                    rfl
                  refine pure_ (i := 13) (N := some 42) (v := ?_) (a' := ?_) #[true, true, true, true, true, true, true, true, true, true, true, true, true, true, false, false, false, false, false, false, false, false, false, false, false, false, false, false, false] rfl rfl (by kernel_rfl) (fun _ _ _ h => h) (Or.inl ⟨by rfl, ?_⟩) ?_ ?_
                  rotate_left
                  · intro w'
                    first | (go_simp; with_reducible rfl) | (simp [go_sem, Instr.field, asAgg] <;> with_reducible rfl)
                  rotate_left
                  · simp only [Act.put, List.setIfInBounds_toArray, List.set_cons_zero, List.set_cons_succ, i64_w, i32_w]
                    rfl
                  refine pure_ (i := 14) (N := some 43) (v := ?_) (a' := ?_) #[true, true, true, true, true, true, true, true, true, true, true, true, true, true, true, false, false, false, false, false, false, false, false, false, false, false, false, false, false] rfl rfl (by kernel_rfl) (fun _ _ _ h => h) (Or.inl ⟨by rfl, ?_⟩) ?_ ?_
                  rotate_left
                  · intro w'
                    first | (go_simp; with_reducible rfl) | (simp [go_sem, Instr.field, asAgg] <;> with_reducible rfl)
                  rotate_left
                  · simp only [Act.put, List.setIfInBounds_toArray, List.set_cons_zero, List.set_cons_succ, i64_w, i32_w]
                    rfl
                  refine pure_ (i := 15) (N := some 44) (v := ?_) (a' := ?_) #[true, true, true, true, true, true, true, true, true, true, true, true, true, true, true, true, false, false, false, false, false, false, false, false, false, false, false, false, false] rfl rfl (by kernel_rfl) (fun _ _ _ h => h) (Or.inl ⟨by rfl, ?_⟩) ?_ ?_
                  rotate_left
                  · intro w'
                    first | (go_simp; with_reducible rfl) | (simp [go_sem, Instr.field, asAgg] <;> with_reducible rfl)
                  rotate_left
                  · simp only [Act.put, List.setIfInBounds_toArray, List.set_cons_zero, List.set_cons_succ, i64_w, i32_w]
                    rfl
                  refine pure_ (i := 16) (N := some 45) (v := ?_) (a' := ?_) #[true, true, true, true, true, true, true, true, true, true, true, true, true, true, true, true, true, false, false, false, false, false, false, false, false, false, false, false, false] rfl rfl (by kernel_rfl) (fun _ _ _ h => h) (Or.inl ⟨by rfl, ?_⟩) ?_ ?_
                  rotate_left
                  · intro w'
                    first | (go_simp; with_reducible rfl) | (simp [go_sem, Instr.field, asAgg] <;> with_reducible rfl)
                  rotate_left
                  · simp only [Act.put, List.setIfInBounds_toArray, List.set_cons_zero, List.set_cons_succ, i64_w, i32_w]
                    rfl
                  refine pure_ (i := 17) (N := some 46) (v := ?_) (a' := ?_) #[true, true, true, true, true, true, true, true, true, true, true, true, true, true, true, true, true, true, false, false, false, false, false, false, false, false, false, false, false] rfl rfl (by kernel_rfl) (fun _ _ _ h => h) (Or.inl ⟨by rfl, ?_⟩) ?_ ?_
                  rotate_left
                  · intro w'
                    first | (go_simp; with_reducible rfl) | (simp [go_sem, Instr.field, asAgg] <;> with_reducible rfl)
                  rotate_left
                  · simp only [Act.put, List.setIfInBounds_toArray, List.set_cons_zero, List.set_cons_succ, i64_w, i32_w]
                    rfl
                  refine pure_ (i := 18) (N := some 47) (v := ?_) (a' := ?_) #[true, true, true, true, true, true, true, true, true, true, true, true, true, true, true, true, true, true, true, false, false, false, false, false, false, false, false, false, false] rfl rfl (by kernel_rfl) (fun _ _ _ h => h) (Or.inl ⟨by rfl, ?_⟩) ?_ ?_
                  rotate_left
                  · intro w'
                    first | (go_simp; with_reducible rfl) | (simp [go_sem, Instr.field, asAgg] <;> with_reducible rfl)
                  rotate_left
                  · simp only [Act.put, List.setIfInBounds_toArray, List.set_cons_zero, List.set_cons_succ, i64_w, i32_w]
                    rfl
                  refine pure_ (i := 20) (N := some 49) (v := ?_) (a' := ?_) #[true, true, true, true, true, true, true, true, true, true, true, true, true, true, true, true, true, true, true, false, true, false, false, false, false, false, false, false, false] rfl rfl (by kernel_rfl) (fun _ _ _ h => h) (Or.inl ⟨by rfl, ?_⟩) ?_ ?_
                  rotate_left
                  · intro w'
                    first | (go_simp; with_reducible rfl) | (simp [go_sem, Instr.field, asAgg] <;> with_reducible rfl)
                  rotate_left
                  · simp only [Act.put, List.setIfInBounds_toArray, List.set_cons_zero, List.set_cons_succ, i64_w, i32_w]
                    rfl
                  refine pure_ (i := 21) (N := some 50) (v := ?_) (a' := ?_) #[true, true, true, true, true, true, true, true, true, true, true, true, true, true, true, true, true, true, true, false, true, true, false, false, false, false, false, false, false] rfl rfl (by kernel_rfl) (fun _ _ _ h => h) (Or.inl ⟨by rfl, ?_⟩) ?_ ?_
                  rotate_left
                  · intro w'
                    first | (go_simp; with_reducible rfl) | (simp [go_sem, Instr.field, asAgg] <;> with_reducible rfl)
                  rotate_left
                  · simp only [Act.put, List.setIfInBounds_toArray, List.set_cons_zero, List.set_cons_succ, i64_w, i32_w]
                    rfl
                  refine pure_ (i := 22) (N := some 51) (v := ?_) (a' := ?_) #[true, true, true, true, true, true, true, true, true, true, true, true, true, true, true, true, true, true, true, false, true, true, true, false, false, false, false, false, false] rfl rfl (by kernel_rfl) (fun _ _ _ h => h) (Or.inl ⟨by rfl, ?_⟩) ?_ ?_
                  rotate_left
                  · intro w'
                    first | (go_simp; with_reducible rfl) | (simp [go_sem, Instr.field, asAgg] <;> with_reducible rfl)
                  rotate_left
                  · simp only [Act.put, List.setIfInBounds_toArray, List.set_cons_zero, List.set_cons_succ, i64_w, i32_w]
                    rfl
                  refine pure_ (i := 23) (N := some 52) (v := ?_) (a' := ?_) #[true, true, true, true, true, true, true, true, true, true, true, true, true, true, true, true, true, true, true, false, true, true, true, true, false, false, false, false, false] rfl rfl (by kernel_rfl) (fun _ _ _ h => h) (Or.inl ⟨by rfl, ?_⟩) ?_ ?_
                  rotate_left
                  · intro w'
                    first | (go_simp; with_reducible rfl) | (simp [go_sem, Instr.field, asAgg] <;> with_reducible rfl)
                  rotate_left
                  · simp only [Act.put, List.setIfInBounds_toArray, List.set_cons_zero, List.set_cons_succ, i64_w, i32_w]
                    rfl
                  refine take_ (i := 19) (N := some 48) (v := ?_) (a' := ?_) #[true, true, true, true, true, true, true, true, true, true, true, true, true, true, true, true, true, true, true, true, true, true, true, true, false, false, false, false, false] rfl rfl (by kernel_rfl) (fun _ _ _ h => h) (Or.inl ⟨by rfl, ?_⟩) hHeld ?_ ?_
                  rotate_left
                  · rintro w' ⟨s0, s1⟩
                    go_simp
                    with_reducible rfl
                  rotate_left
                  · simp only [Act.put, List.setIfInBounds_toArray, List.set_cons_zero, List.set_cons_succ, i64_w, i32_w]
                    rfl
                  refine take_ (i := 24) (N := some 53) (v := ?_) (a' := ?_) #[true, true, true, true, true, true, true, true, true, true, true, true, true, true, true, true, true, true, true, true, true, true, true, true, true, false, false, false, false] rfl rfl (by kernel_rfl) (fun _ _ _ h => h) (Or.inl ⟨by rfl, ?_⟩) hHeld ?_ ?_
                  rotate_left
                  · rintro w' ⟨s0, s1⟩
                    go_simp
                    with_reducible rfl
                  rotate_left
                  · simp only [Act.put, List.setIfInBounds_toArray, List.set_cons_zero, List.set_cons_succ, i64_w, i32_w]
                    rfl
                  refine pure_ (i := 25) (N := some 54) (v := ?_) (a' := ?_) #[true, true, true, true, true, true, true, true, true, true, true, true, true, true, true, true, true, true, true, true, true, true, true, true, true, true, false, false, false] rfl rfl (by kernel_rfl) (fun _ _ _ h => h) (Or.inl ⟨by rfl, ?_⟩) ?_ ?_
                  rotate_left
                  · intro w'
                    first | (go_simp; with_reducible rfl) | (simp [go_sem, Instr.field, asAgg] <;> with_reducible rfl)
                  rotate_left
                  · simp only [Act.put, List.setIfInBounds_toArray, List.set_cons_zero, List.set_cons_succ, i64_w, i32_w]
                    rfl
                  refine one_ (i := 26) (N := some 55) #[true, true, true, true, true, true, true, true, true, true, true, true, true, true, true, true, true, true, true, true, true, true, true, true, true, true, true, false, false] rfl rfl (by kernel_rfl) (by decide) (fun K hK => ?_)
                  refine goes_ Try.func61 (by kernel_rfl) rfl #[.int .i64 (rd l1 i), .int .i64 1, .int .i64 (wrap64 (s + rd l0 i))] (by rfl) rfl rfl (by simp only [List.map_toArray, List.map_cons, List.map_nil]; rfl) ?_
                  with_reducible refine (spec_l00In.calls (rd l1 i) 1 (wrap64 (s + rd l0 i)) false _ AW2.out).mono ?_
                  rintro e w5 ⟨rfl, ⟨nd2, rfl⟩⟩
                  refine ⟨_, rfl, ?_⟩
                  refine hK.out _ _ ⟨((show Below w.heap.size w _ from (by repeat (first | (with_reducible first | exact HB0.out | apply below_alloc | apply pw_below_drewN | apply below_drew1) | exact HB0.out))).cell (World.block_lt_of_cell? w _ HX0.out)).trans HX0.out, ((show Below w.heap.size w _ from (by repeat (first | (with_reducible first | exact HB0.out | apply below_alloc | apply pw_below_drewN | apply below_drew1) | exact HB0.out))).cell (World.block_lt_of_cell? w _ HX1.out)).trans HX1.out⟩ (fun hHeld => ?_)
                  clear hK K
                  refine norm_ (a' := ?_) ?_ ?_
                  rotate_left
                  · show Act.put _ (some 55) _ = _
                    simp only [Act.put, List.setIfInBounds_toArray, List.set_cons_zero, List.set_cons_succ, i64_w, i32_w]
                    rfl
                  refine pure_ (i := 27) (N := some 56) (v := ?_) (a' := ?_) #[true, true, true, true, true, true, true, true, true, true, true, true, true, true, true, true, true, true, true, true, true, true, true, true, true, true, true, true, false] rfl rfl (by kernel_rfl) (fun _ _ _ h => h) (Or.inl ⟨by rfl, ?_⟩) ?_ ?_
                  rotate_left
                  · intro w'
                    first | (go_simp; with_reducible rfl) | (simp [go_sem, Instr.field, asAgg] <;> with_reducible rfl)
                  rotate_left
                  · simp only [Act.put, List.setIfInBounds_toArray, List.set_cons_zero, List.set_cons_succ, i64_w, i32_w]
                    rfl
                  refine pure_ (i := 28) (N := some 57) (v := ?_) (a' := ?_) #[true, true, true, true, true, true, true, true, true, true, true, true, true, true, true, true, true, true, true, true, true, true, true, true, true, true, true, true, true] rfl rfl (by kernel_rfl) (fun _ _ _ h => h) (Or.inl ⟨by rfl, ?_⟩) ?_ ?_
                  rotate_left
                  · intro w'
                    first | (go_simp; with_reducible rfl) | (simp [go_sem, Instr.field, asAgg] <;> with_reducible rfl)
                  rotate_left
                  · simp only [Act.put, List.setIfInBounds_toArray, List.set_cons_zero, List.set_cons_succ, i64_w, i32_w]
                    rfl
                  refine done_ (by kernel_rfl) ?_
                  (try clear hHeld)
                  have HB := HB0
                  have BK_g2 := B20
                  clear HB0 B20
                  have hz_g20 : w8x.cell? ⟨g2, 0, none⟩ = some (.int .i64 0) := (blk_cell BK_g2.out 0).trans rfl
                  have hz_g2f0 := blk_frozen BK_g2.out 0
                  have hz_g21 : w8x.cell? ⟨g2, 1, none⟩ = some (.int .i64 0) := (blk_cell BK_g2.out 1).trans rfl
                  have hz_g2f1 := blk_frozen BK_g2.out 1
                  have hz_g22 : w8x.cell? ⟨g2, 2, none⟩ = some (.slice none 0 0) := (blk_cell BK_g2.out 2).trans rfl
                  have hz_g2f2 := blk_frozen BK_g2.out 2
                  (try go_wp2)
                  refine bodyPost_ret (results_ct rfl _ _ g2 29 #[.int .i64 0, .int .i64 0, .slice none 0 0] (0, 0) _ rfl (by (with_reducible repeat (first | refine blk_drewN ?_ _ | refine blk_drew ?_ | refine blk_alloc ?_ _)); refine blk_put (cs := #[.int .i64 0, .int .i64 0, .slice none 0 0]) ?_ 2 _ rfl; (with_reducible repeat (first | refine blk_drewN ?_ _ | refine blk_drew ?_ | refine blk_alloc ?_ _)); refine blk_put (cs := #[.int .i64 0, .int .i64 0, .slice none 0 0]) ?_ 1 _ rfl; (with_reducible repeat (first | refine blk_drewN ?_ _ | refine blk_drew ?_ | refine blk_alloc ?_ _)); refine blk_put (cs := #[.int .i64 0, .int .i64 0, .slice none 0 0]) ?_ 0 _ rfl; (with_reducible repeat (first | refine blk_drewN ?_ _ | refine blk_drew ?_ | refine blk_alloc ?_ _)); exact BK_g2.out) Try.underlying29 rfl (by kernel_rfl)) rfl ?_
                  exact ⟨_, rfl, Kd.S_nil _ _ _ _ _, (by repeat (first | (with_reducible first | exact HB.out | apply below_alloc | apply pw_below_drewN | apply below_drew1 | refine below_set ?_ GW_g2.out) | exact HB.out))⟩
            · replace c8 := Bool.eq_false_iff.mpr c8
              subst c8
              rw [if_neg (show ¬ (false = true) by decide)] at H'
              obtain rfl : none = q := Option.some.inj H'
              clear H'
              have H := HQ.out
              simp only [levS.fin] at H
              simp only [Option.some.injEq, Prod.mk.injEq] at H
              obtain ⟨rfl, rfl, rfl, rfl⟩ := H
              replace c7 := eq_true c7
              replace c6 := eq_true c6
              go_wp2
              have HB0 : Aside0 (Below w.heap.size w wr.drew) := ⟨(by repeat (first | (with_reducible first | exact HB.out | apply below_alloc | apply pw_below_drewN | apply below_drew1) | exact HB.out))⟩
              have B20 : Aside0 (wr.drew.heap[g2]? = some (.cells #[.int .i64 0, .int .i64 0, .slice none 0 0] 29 (0, 0))) := ⟨(by (with_reducible repeat (first | refine blk_drewN ?_ _ | refine blk_drew ?_ | refine blk_alloc ?_ _)); exact BK_g2.out)⟩
              clear HB BK_g2 hz_g20 hz_g2f0 hz_g21 hz_g2f1 hz_g22 hz_g2f2
              refine start_ (n := 29) (S := fun w' => w'.cell? (ad0.add i.toNat) = some (.int .i64 (rd l0 i))) (ds := []) #[false, false, false, false, false, false, false, false, false, false, false, false, false, false, false, false, false, false, false, false, false, false, false, false, false, false, false, false, false] (by kernel_rfl) rfl rfl (((show Below w.heap.size w _ from (by repeat (first | (with_reducible first | exact HB0.out | apply below_alloc | apply pw_below_drewN | apply below_drew1) | exact HB0.out))).cell (World.block_lt_of_cell? w _ HX0.out)).trans HX0.out) (fun hHeld => ?_)
              generalize wr.drew = w8x at HB0 B20 hHeld ⊢
              refine pure_ (i := 0) (N := some 29) (v := ?_) (a' := ?_) #[true, false, false, false, false, false, false, false, false, false, false, false, false, false, false, false, false, false, false, false, false, false, false, false, false, false, false, false, false] rfl rfl (by kernel_rfl) (fun _ _ _ h => h) (Or.inl ⟨by rfl, ?_⟩) ?_ ?_
              rotate_left
              · intro w'
                first | (go_simp; with_reducible rfl) | (simp [go_sem, Instr.field, asAgg] <;> with_reducible rfl)
              rotate_left
              · simp only [Act.put, List.setIfInBounds_toArray, List.set_cons_zero, List.set_cons_succ, i64_w, i32_w]
                rfl
              refine pure_ (i := 1) (N := some 30) (v := ?_) (a' := ?_) #[true, true, false, false, false, false, false, false, false, false, false, false, false, false, false, false, false, false, false, false, false, false, false, false, false, false, false, false, false] rfl rfl (by kernel_rfl) (fun _ _ _ h => h) (Or.inl ⟨by rfl, ?_⟩) ?_ ?_
              rotate_left
              · intro w'
                first | (go_simp; with_reducible rfl) | (simp [go_sem, Instr.field, asAgg] <;> with_reducible rfl)
              rotate_left
              · simp only [Act.put, List.setIfInBounds_toArray, List.set_cons_zero, List.set_cons_succ, i64_w, i32_w]
                rfl
              refine pure_ (i := 2) (N := some 31) (v := ?_) (a' := ?_) #[true, true, true, false, false, false, false, false, false, false, false, false, false, false, false, false, false, false, false, false, false, false, false, false, false, false, false, false, false] rfl rfl (by kernel_rfl) (fun _ _ _ h => h) (Or.inl ⟨by rfl, ?_⟩) ?_ ?_
              rotate_left
              · intro w'
                first | (go_simp; with_reducible rfl) | (simp [go_sem, Instr.field, asAgg] <;> with_reducible rfl)
              rotate_left
              · simp only [Act.put, List.setIfInBounds_toArray, List.set_cons_zero, List.set_cons_succ, i64_w, i32_w]
                rfl
              refine take_ (i := 3) (N := some 32) (v := ?_) (a' := ?_) #[true, true, true, true, false, false, false, false, false, false, false, false, false, false, false, false, false, false, false, false, false, false, false, false, false, false, false, false, false] rfl rfl (by kernel_rfl) (fun _ _ _ h => h) (Or.inl ⟨by rfl, ?_⟩) hHeld ?_ ?_
              rotate_left
              · intro w' s0
                go_simp
                with_reducible rfl
              rotate_left
              · simp only [Act.put, List.setIfInBounds_toArray, List.set_cons_zero, List.set_cons_succ, i64_w, i32_w]
                rfl
              refine one_ (i := 4) (N := some 33) #[true, true, true, true, true, false, false, false, false, false, false, false, false, false, false, false, false, false, false, false, false, false, false, false, false, false, false, false, false] rfl rfl (by kernel_rfl) (by decide) (fun K hK => ?_)
              refine goes_ Try.func61 (by kernel_rfl) rfl #[.int .i64 (rd l0 i), .int .i64 1, .int .i64 7] (by rfl) rfl rfl (by simp only [List.map_toArray, List.map_cons, List.map_nil]; rfl) ?_
              with_reducible refine (spec_l00In.calls (rd l0 i) 1 7 false _ AW1.out).mono ?_
              rintro e w5 ⟨rfl, ⟨nd1, rfl⟩⟩
              refine ⟨_, rfl, ?_⟩
              refine hK.out _ _ (((show Below w.heap.size w _ from (by repeat (first | (with_reducible first | exact HB0.out | apply below_alloc | apply pw_below_drewN | apply below_drew1) | exact HB0.out))).cell (World.block_lt_of_cell? w _ HX0.out)).trans HX0.out) (fun hHeld => ?_)
              clear hK K
              refine norm_ (a' := ?_) ?_ ?_
              rotate_left
              · show Act.put _ (some 33) _ = _
                simp only [Act.put, List.setIfInBounds_toArray, List.set_cons_zero, List.set_cons_succ, i64_w, i32_w]
                rfl
              refine pure_ (i := 5) (N := some 34) (v := ?_) (a' := ?_) #[true, true, true, true, true, true, false, false, false, false, false, false, false, false, false, false, false, false, false, false, false, false, false, false, false, false, false, false, false] rfl rfl (by kernel_rfl) (fun _ _ _ h => h) (Or.inl ⟨by rfl, ?_⟩) ?_ ?_
              rotate_left
              · intro w'
                first | (go_simp; with_reducible rfl) | (simp [go_sem, Instr.field, asAgg] <;> with_reducible rfl)
              rotate_left
              · simp only [Act.put, List.setIfInBounds_toArray, List.set_cons_zero, List.set_cons_succ, i64_w, i32_w]
                rfl
              refine pure_ (i := 6) (N := some 35) (v := ?_) (a' := ?_) #[true, true, true, true, true, true, true, false, false, false, false, false, false, false, false, false, false, false, false, false, false, false, false, false, false, false, false, false, false] rfl rfl (by kernel_rfl) (fun _ _ _ h => h) (Or.inl ⟨by rfl, ?_⟩) ?_ ?_
              rotate_left
              · intro w'
                first | (go_simp; with_reducible rfl) | (simp [go_sem, Instr.field, asAgg] <;> with_reducible rfl)
              rotate_left
              · simp only [Act.put, List.setIfInBounds_toArray, List.set_cons_zero, List.set_cons_succ, i64_w, i32_w]
                rfl
              refine pure_ (i := 7) (N := some 36) (v := undef) (a' := ?_) #[true, true, true, true, true, true, true, true, false, false, false, false, false, false, false, false, false, false, false, false, false, false, false, false, false, false, false, false, false] rfl rfl (by kernel_rfl) (fun _ _ _ h => h) (Or.inr ⟨by rfl, rfl⟩) ?_ ?_
              rotate_left
              · simp only [Act.put, List.setIfInBounds_toArray, List.set_cons_zero, List.set_cons_succ, i64_w, i32_w]
                rfl
              refine pure_ (i := 8) (N := some 37) (v := undef) (a' := ?_) #[true, true, true, true, true, true, true, true, true, false, false, false, false, false, false, false, false, false, false, false, false, false, false, false, false, false, false, false, false] rfl rfl (by kernel_rfl) (fun _ _ _ h => h) (Or.inr ⟨by rfl, rfl⟩) ?_ ?_
              rotate_left
              · simp only [Act.put, List.setIfInBounds_toArray, List.set_cons_zero, List.set_cons_succ, i64_w, i32_w]
                rfl
              refine pure_ (i := 9) (N := some 38) (v := undef) (a' := ?_) #[true, true, true, true, true, true, true, true, true, true, false, false, false, false, false, false, false, false, false, false, false, false, false, false, false, false, false, false, false] rfl rfl (by kernel_rfl) (fun _ _ _ h => h) (Or.inr ⟨by rfl, rfl⟩) ?_ ?_
              rotate_left
              · simp only [Act.put, List.setIfInBounds_toArray, List.set_cons_zero, List.set_cons_succ, i64_w, i32_w]
                rfl
              refine pure_ (i := 10) (N := some 39) (v := undef) (a' := ?_) #[true, true, true, true, true, true, true, true, true, true, true, false, false, false, false, false, false, false, false, false, false, false, false, false, false, false, false, false, false] rfl rfl (by kernel_rfl) (fun _ _ _ h => h) (Or.inr ⟨by rfl, rfl⟩) ?_ ?_
              rotate_left
              · simp only [Act.put, List.setIfInBounds_toArray, List.set_cons_zero, List.set_cons_succ, i64_w, i32_w]
                rfl
              refine pure_ (i := 11) (N := some 40) (v := undef) (a' := ?_) #[true, true, true, true, true, true, true, true, true, true, true, true, false, false, false, false, false, false, false, false, false, false, false, false, false, false, false, false, false] rfl rfl (by kernel_rfl) (fun _ _ _ h => h) (Or.inr ⟨by rfl, rfl⟩) ?_ ?_
              rotate_left
              · simp only [Act.put, List.setIfInBounds_toArray, List.set_cons_zero, List.set_cons_succ, i64_w, i32_w]
                rfl
              refine pure_ (i := 12) (N := some 41) (v := undef) (a' := ?_) #[true, true, true, true, true, true, true, true, true, true, true, true, true, false, false, false, false, false, false, false, false, false, false, false, false, false, false, false, false] rfl rfl (by kernel_rfl) (fun _ _ _ h => h) (Or.inr ⟨by rfl, rfl⟩) ?_ ?_
              rotate_left
              · simp only [Act.put, List.setIfInBounds_toArray, List.set_cons_zero, List.set_cons_succ, i64_w, i32_w]
                rfl
              refine pure_ (i := 13) (N := some 42) (v := undef) (a' := ?_) #[true, true, true, true, true, true, true, true, true, true, true, true, true, true, false, false, false, false, false, false, false, false, false, false, false, false, false, false, false] rfl rfl (by kernel_rfl) (fun _ _ _ h => h) (Or.inr ⟨by rfl, rfl⟩) ?_ ?_
              rotate_left
              · simp only [Act.put, List.setIfInBounds_toArray, List.set_cons_zero, List.set_cons_succ, i64_w, i32_w]
                rfl
              refine pure_ (i := 14) (N := some 43) (v := ?_) (a' := ?_) #[true, true, true, true, true, true, true, true, true, true, true, true, true, true, true, false, false, false, false, false, false, false, false, false, false, false, false, false, false] rfl rfl (by kernel_rfl) (fun _ _ _ h => h) (Or.inl ⟨by rfl, ?_⟩) ?_ ?_
              rotate_left
              · intro w'
                first | (go_simp; with_reducible rfl) | (simp [go_sem, Instr.field, asAgg] <;> with_reducible rfl)
              rotate_left
              · simp only [Act.put, List.setIfInBounds_toArray, List.set_cons_zero, List.set_cons_succ, i64_w, i32_w]
                rfl
              refine pure_ (i := 15) (N := some 44) (v := ?_) (a' := ?_) #[true, true, true, true, true, true, true, true, true, true, true, true, true, true, true, true, false, false, false, false, false, false, false, false, false, false, false, false, false] rfl rfl (by kernel_rfl) (fun _ _ _ h => h) (Or.inl ⟨by rfl, ?_⟩) ?_ ?_
              rotate_left
              · intro w'
                first | (go_simp; with_reducible rfl) | (simp [go_sem, Instr.field, asAgg] <;> with_reducible rfl)
              rotate_left
              · simp only [Act.put, List.setIfInBounds_toArray, List.set_cons_zero, List.set_cons_succ, i64_w, i32_w]
                rfl
              refine pure_ (i := 16) (N := some 45) (v := undef) (a' := ?_) #[true, true, true, true, true, true, true, true, true, true, true, true, true, true, true, true, true, false, false, false, false, false, false, false, false, false, false, false, false] rfl rfl (by kernel_rfl) (fun _ _ _ h => h) (Or.inr ⟨by rfl, rfl⟩) ?_ ?_
              rotate_left
              · simp only [Act.put, List.setIfInBounds_toArray, List.set_cons_zero, List.set_cons_succ, i64_w, i32_w]
                rfl
              refine pure_ (i := 17) (N := some 46) (v := undef) (a' := ?_) #[true, true, true, true, true, true, true, true, true, true, true, true, true, true, true, true, true, true, false, false, false, false, false, false, false, false, false, false, false] rfl rfl (by kernel_rfl) (fun _ _ _ h => h) (Or.inr ⟨by rfl, rfl⟩) ?_ ?_
              rotate_left
              · simp only [Act.put, List.setIfInBounds_toArray, List.set_cons_zero, List.set_cons_succ, i64_w, i32_w]
                rfl
              refine pure_ (i := 18) (N := some 47) (v := undef) (a' := ?_) #[true, true, true, true, true, true, true, true, true, true, true, true, true, true, true, true, true, true, true, false, false, false, false, false, false, false, false, false, false] rfl rfl (by kernel_rfl) (fun _ _ _ h => h) (Or.inr ⟨by rfl, rfl⟩) ?_ ?_
              rotate_left
              · simp only [Act.put, List.setIfInBounds_toArray, List.set_cons_zero, List.set_cons_succ, i64_w, i32_w]
                rfl
              refine pure_ (i := 19) (N := some 48) (v := undef) (a' := ?_) #[true, true, true, true, true, true, true, true, true, true, true, true, true, true, true, true, true, true, true, true, false, false, false, false, false, false, false, false, false] rfl rfl (by kernel_rfl) (fun _ _ _ h => h) (Or.inr ⟨by rfl, rfl⟩) ?_ ?_
              rotate_left
              · simp only [Act.put, List.setIfInBounds_toArray, List.set_cons_zero, List.set_cons_succ, i64_w, i32_w]
                rfl
              refine pure_ (i := 20) (N := some 49) (v := undef) (a' := ?_) #[true, true, true, true, true, true, true, true, true, true, true, true, true, true, true, true, true, true, true, true, true, false, false, false, false, false, false, false, false] rfl rfl (by kernel_rfl) (fun _ _ _ h => h) (Or.inr ⟨by rfl, rfl⟩) ?_ ?_
              rotate_left
              · simp only [Act.put, List.setIfInBounds_toArray, List.set_cons_zero, List.set_cons_succ, i64_w, i32_w]
                rfl
              refine pure_ (i := 21) (N := some 50) (v := undef) (a' := ?_) #[true, true, true, true, true, true, true, true, true, true, true, true, true, true, true, true, true, true, true, true, true, true, false, false, false, false, false, false, false] rfl rfl (by kernel_rfl) (fun _ _ _ h => h) (Or.inr ⟨by rfl, rfl⟩) ?_ ?_
              rotate_left
              · simp only [Act.put, List.setIfInBounds_toArray, List.set_cons_zero, List.set_cons_succ, i64_w, i32_w]
                rfl
              refine pure_ (i := 22) (N := some 51) (v := undef) (a' := ?_) #[true, true, true, true, true, true, true, true, true, true, true, true, true, true, true, true, true, true, true, true, true, true, true, false, false, false, false, false, false] rfl rfl (by kernel_rfl) (fun _ _ _ h => h) (Or.inr ⟨by rfl, rfl⟩) ?_ ?_
              rotate_left
              · simp only [Act.put, List.setIfInBounds_toArray, List.set_cons_zero, List.set_cons_succ, i64_w, i32_w]
                rfl
              refine pure_ (i := 23) (N := some 52) (v := undef) (a' := ?_) #[true, true, true, true, true, true, true, true, true, true, true, true, true, true, true, true, true, true, true, true, true, true, true, true, false, false, false, false, false] rfl rfl (by kernel_rfl) (fun _ _ _ h => h) (Or.inr ⟨by rfl, rfl⟩) ?_ ?_
              rotate_left
              · simp only [Act.put, List.setIfInBounds_toArray, List.set_cons_zero, List.set_cons_succ, i64_w, i32_w]
                rfl
              refine pure_ (i := 24) (N := some 53) (v := undef) (a' := ?_) #[true, true, true, true, true, true, true, true, true, true, true, true, true, true, true, true, true, true, true, true, true, true, true, true, true, false, false, false, false] rfl rfl (by kernel_rfl) (fun _ _ _ h => h) (Or.inr ⟨by rfl, rfl⟩) ?_ ?_
              rotate_left
              · simp only [Act.put, List.setIfInBounds_toArray, List.set_cons_zero, List.set_cons_succ, i64_w, i32_w]
                rfl
              refine pure_ (i := 25) (N := some 54) (v := undef) (a' := ?_) #[true, true, true, true, true, true, true, true, true, true, true, true, true, true, true, true, true, true, true, true, true, true, true, true, true, true, false, false, false] rfl rfl (by kernel_rfl) (fun _ _ _ h => h) (Or.inr ⟨by rfl, rfl⟩) ?_ ?_
              rotate_left
              · simp only [Act.put, List.setIfInBounds_toArray, List.set_cons_zero, List.set_cons_succ, i64_w, i32_w]
                rfl
              refine pure_ (i := 26) (N := some 55) (v := undef) (a' := ?_) #[true, true, true, true, true, true, true, true, true, true, true, true, true, true, true, true, true, true, true, true, true, true, true, true, true, true, true, false, false] rfl rfl (by kernel_rfl) (fun _ _ _ h => h) (Or.inr ⟨by rfl, rfl⟩) ?_ ?_
              rotate_left
              · simp only [Act.put, List.setIfInBounds_toArray, List.set_cons_zero, List.set_cons_succ, i64_w, i32_w]
                rfl
              refine pure_ (i := 27) (N := some 56) (v := undef) (a' := ?_) #[true, true, true, true, true, true, true, true, true, true, true, true, true, true, true, true, true, true, true, true, true, true, true, true, true, true, true, true, false] rfl rfl (by kernel_rfl) (fun _ _ _ h => h) (Or.inr ⟨by rfl, rfl⟩) ?_ ?_
              rotate_left
              · simp only [Act.put, List.setIfInBounds_toArray, List.set_cons_zero, List.set_cons_succ, i64_w, i32_w]
                rfl
              refine pure_ (i := 28) (N := some 57) (v := ?_) (a' := ?_) #[true, true, true, true, true, true, true, true, true, true, true, true, true, true, true, true, true, true, true, true, true, true, true, true, true, true, true, true, true] rfl rfl (by kernel_rfl) (fun _ _ _ h => h) (Or.inl ⟨by rfl, ?_⟩) ?_ ?_
              rotate_left
              · intro w'
                first | (go_simp; with_reducible rfl) | (simp [go_sem, Instr.field, asAgg] <;> with_reducible rfl)
              rotate_left
              · simp only [Act.put, List.setIfInBounds_toArray, List.set_cons_zero, List.set_cons_succ, i64_w, i32_w]
                rfl
              refine done_ (by kernel_rfl) ?_
              (try clear hHeld)
              have HB := HB0
              have BK_g2 := B20
              clear HB0 B20
              have hz_g20 : w8x.cell? ⟨g2, 0, none⟩ = some (.int .i64 0) := (blk_cell BK_g2.out 0).trans rfl
              have hz_g2f0 := blk_frozen BK_g2.out 0
              have hz_g21 : w8x.cell? ⟨g2, 1, none⟩ = some (.int .i64 0) := (blk_cell BK_g2.out 1).trans rfl
              have hz_g2f1 := blk_frozen BK_g2.out 1
              have hz_g22 : w8x.cell? ⟨g2, 2, none⟩ = some (.slice none 0 0) := (blk_cell BK_g2.out 2).trans rfl
              have hz_g2f2 := blk_frozen BK_g2.out 2
              (try go_wp2)
              refine bodyPost_ret (results_ct rfl _ _ g2 29 #[.int .i64 0, .int .i64 0, .slice none 0 0] (0, 0) _ rfl (by (with_reducible repeat (first | refine blk_drewN ?_ _ | refine blk_drew ?_ | refine blk_alloc ?_ _)); refine blk_put (cs := #[.int .i64 0, .int .i64 0, .slice none 0 0]) ?_ 2 _ rfl; (with_reducible repeat (first | refine blk_drewN ?_ _ | refine blk_drew ?_ | refine blk_alloc ?_ _)); refine blk_put (cs := #[.int .i64 0, .int .i64 0, .slice none 0 0]) ?_ 1 _ rfl; (with_reducible repeat (first | refine blk_drewN ?_ _ | refine blk_drew ?_ | refine blk_alloc ?_ _)); refine blk_put (cs := #[.int .i64 0, .int .i64 0, .slice none 0 0]) ?_ 0 _ rfl; (with_reducible repeat (first | refine blk_drewN ?_ _ | refine blk_drew ?_ | refine blk_alloc ?_ _)); exact BK_g2.out) Try.underlying29 rfl (by kernel_rfl)) rfl ?_
              exact ⟨_, rfl, Kd.S_nil _ _ _ _ _, (by repeat (first | (with_reducible first | exact HB.out | apply below_alloc | apply pw_below_drewN | apply below_drew1 | refine below_set ?_ GW_g2.out) | exact HB.out))⟩
          · rw [if_neg c6] at H'
            obtain rfl : some s = q := Option.some.inj H'
            clear H'
            have H := HQ.out
            clear HQ
            simp only [levS.fin] at H
            replace H := Option.bind_eq_some_iff.mp H
            obtain ⟨kids, At, H⟩ := H
            have A2_ := Aside0.mk At
            have HQ2 := Aside0.mk H
            clear At H HK1
            have c6b0 : decide (i < (l0.length : Int)) = false := decide_eq_false c6
            clear c6
            go_wp2_with (first | ((with_reducible refine gate_dst (N := 65) rfl ?_); refine Kd.S_lit kG _ 29 ?hg (N := 65) ?hd (xs := ([] : List S29)) (inner := []) (ok := (fun k_ => g2 < k_)) (okp := (fun k_ => g2 < k_)) ?hr ?hp (fun _ hk => hk) (blk_lt (o := .cells #[.int .i64 0, .int .i64 0, .slice none 0 0] 29 (0, 0)) (by (with_reducible repeat (first | refine blk_drewN ?_ _ | refine blk_drew ?_ | refine blk_alloc ?_ _)); exact BK_g2.out)) (Below.refl _ _) (Nat.le_refl _) (by simp) ?_; (case hd => rfl); (case hg => rfl); (case hr => first | (go_simp; done) | (go_simp; rfl)); (case hp => exact (Reps.none _ _)); intro v65 wl65 ho3 hb hg_ hnew_; clear hg_ hnew_; have HO65 := Aside0.mk (Kd.S_lower (base' := w.heap.size) ho3 (below_size (by repeat (first | (with_reducible first | exact HB.out | apply below_alloc | apply pw_below_drewN | apply below_drew1) | exact HB.out)))); clear ho3; have n0_ := Aside0.mk (below_step (by repeat (first | (with_reducible first | exact HB.out | apply below_alloc | apply pw_below_drewN | apply below_drew1) | exact HB.out)) hb); have n2_ := Aside0.mk (blk_below (g := g2) (o := .cells #[.int .i64 0, .int .i64 0, .slice none 0 0] 29 (0, 0)) (by (with_reducible repeat (first | refine blk_drewN ?_ _ | refine blk_drew ?_ | refine blk_alloc ?_ _)); exact BK_g2.out) hb); clear HB BK_g2 hz_g20 hz_g2f0 hz_g21 hz_g2f1 hz_g22 hz_g2f2 hb; have HB := n0_; have BK_g2 := n2_; clear n0_ n2_; have hz_g20 : wl65.cell? ⟨g2, 0, none⟩ = some (.int .i64 0) := (blk_cell BK_g2.out 0).trans rfl; have hz_g2f0 := blk_frozen BK_g2.out 0; have hz_g21 : wl65.cell? ⟨g2, 1, none⟩ = some (.int .i64 0) := (blk_cell BK_g2.out 1).trans rfl; have hz_g2f1 := blk_frozen BK_g2.out 1; have hz_g22 : wl65.cell? ⟨g2, 2, none⟩ = some (.slice none 0 0) := (blk_cell BK_g2.out 2).trans rfl; have hz_g2f2 := blk_frozen BK_g2.out 2) | ((with_reducible refine gate_dst (N := 66) rfl ?_); refine Kd.R_lit kLf _ 29 ?hg (N := 66) ?hd (xs := ([] : List S29)) (inner := []) (ok := (fun k_ => g2 < k_)) (okp := (fun _ => False)) ?hr ?hp (fun _ hk => hk.elim) ?hf (Below.refl _ _) (Nat.le_refl _) (by simp) ?_; (case hd => rfl); (case hg => rfl); (case hr => first | (go_simp; done) | (go_simp; rfl)); (case hp => exact (Reps.none _ _)); (case hf => exact (blk_lt (o := .cells #[.int .i64 0, .int .i64 0, .slice none 0 0] 29 (0, 0)) (by (with_reducible repeat (first | refine blk_drewN ?_ _ | refine blk_drew ?_ | refine blk_alloc ?_ _)); exact BK_g2.out))); intro v66 wl66 ho3 hb hg_ hnew_; clear hg_ hnew_; have n3_ := Aside0.mk (Kd.S_elder' (by (with_reducible repeat (first | apply Kd.S_alloc | apply Kd.S_drewN | apply Kd.S_drew)); exact HO65.out) (Kd.R_base ho3) hb); have HL66 := Aside0.mk (Kd.R_lower (base' := w.heap.size) ho3 (below_size (by repeat (first | (with_reducible first | exact HB.out | apply below_alloc | apply pw_below_drewN | apply below_drew1) | exact HB.out)))); clear ho3 HO65; have HO65 := n3_; clear n3_; have n0_ := Aside0.mk (below_step (by repeat (first | (with_reducible first | exact HB.out | apply below_alloc | apply pw_below_drewN | apply below_drew1) | exact HB.out)) hb); have n2_ := Aside0.mk (blk_below (g := g2) (o := .cells #[.int .i64 0, .int .i64 0, .slice none 0 0] 29 (0, 0)) (by (with_reducible repeat (first | refine blk_drewN ?_ _ | refine blk_drew ?_ | refine blk_alloc ?_ _)); exact BK_g2.out) hb); clear HB BK_g2 hz_g20 hz_g2f0 hz_g21 hz_g2f1 hz_g22 hz_g2f2 hb; have HB := n0_; have BK_g2 := n2_; clear n0_ n2_; have hz_g20 : wl66.cell? ⟨g2, 0, none⟩ = some (.int .i64 0) := (blk_cell BK_g2.out 0).trans rfl; have hz_g2f0 := blk_frozen BK_g2.out 0; have hz_g21 : wl66.cell? ⟨g2, 1, none⟩ = some (.int .i64 0) := (blk_cell BK_g2.out 1).trans rfl; have hz_g2f1 := blk_frozen BK_g2.out 1; have hz_g22 : wl66.cell? ⟨g2, 2, none⟩ = some (.slice none 0 0) := (blk_cell BK_g2.out 2).trans rfl; have hz_g2f2 := blk_frozen BK_g2.out 2))
            clear c6b0
            go_loopg [8, 9, 10] k (fun kq v8 v9 v10 w' => ∃ (i : Int) (out lv : List S29), v10 = .int .i64 i ∧ Aside0 (levS.l1 kq l0 l1 out lv i = some kids) ∧ Aside0 (kq ≤ k) ∧ Aside0 (Kd.S kG 29 w' w.heap.size (fun k_ => g2 < k_ ∧ some k_ ≠ (v9 : Value).ownBlock) v8 out) ∧ Aside0 (Kd.R kLf 29 w' w.heap.size (fun k_ => g2 < k_) v9 lv) ∧ Aside0 (w'.heap[g2]? = some (.cells #[.int .i64 0, .int .i64 0, .slice none 0 0] 29 (0, 0))) ∧ Aside0 (Below w.heap.size w w'))
            case atStart => exact ⟨0, [], [], rfl, A2_, ⟨Nat.le_refl _⟩, ⟨(by (with_reducible repeat (first | apply Kd.S_alloc | apply Kd.S_drewN | apply Kd.S_drew)); exact HO65.out)⟩, ⟨(by (with_reducible repeat (first | apply Kd.R_alloc | apply Kd.R_drewN | apply Kd.R_drew)); exact HL66.out)⟩, ⟨(by (with_reducible repeat (first | refine blk_drewN ?_ _ | refine blk_drew ?_ | refine blk_alloc ?_ _)); exact BK_g2.out)⟩, ⟨(by repeat (first | (with_reducible first | exact HB.out | apply below_alloc | apply pw_below_drewN | apply below_drew1) | exact HB.out))⟩⟩
            case round =>
              (try clear i)
              clear A2_ HO65 HL66 BK_g2 HB hz_g20 hz_g2f0 hz_g21 hz_g2f1 hz_g22 hz_g2f2
              obtain ⟨i, out, lv, rfl, HA, HK1, HO, HL, BK_g2, HB⟩ := hrel
              have hz_g20 : wr.cell? ⟨g2, 0, none⟩ = some (.int .i64 0) := (blk_cell BK_g2.out 0).trans rfl
              have hz_g2f0 := blk_frozen BK_g2.out 0
              have hz_g21 : wr.cell? ⟨g2, 1, none⟩ = some (.int .i64 0) := (blk_cell BK_g2.out 1).trans rfl
              have hz_g2f1 := blk_frozen BK_g2.out 1
              have hz_g22 : wr.cell? ⟨g2, 2, none⟩ = some (.slice none 0 0) := (blk_cell BK_g2.out 2).trans rfl
              have hz_g2f2 := blk_frozen BK_g2.out 2
              cases gk with
              | zero => exact absurd HA.out (by simp [levS.l1])
              | succ k1 =>
                have H' := HA.out
                clear HA
                simp only [levS.l1] at H'
                by_cases c6 : i < (l0.length : Int)
                · rw [if_pos c6] at H'
                  by_cases c7 : 0 ≤ i
                  case neg => rw [if_neg c7] at H'; exact absurd H' (by simp)
                  rw [if_pos c7] at H'
                  replace H' := Option.bind_eq_some_iff.mp H'
                  obtain ⟨ls, At, H'⟩ := H'
                  have A7_ := Aside0.mk At
                  have HF0 := Aside0.mk H'
                  clear At H'
                  have HC7 := Aside0.mk c7
                  have c6b0 : decide (i < (l0.length : Int)) = true := decide_eq_true c6
                  have c7b0 : decide (0 ≤ i) = true := decide_eq_true c7
                  obtain ⟨ad0, e3, hx⟩ := Kd.at_int HR0.out i c7 c6
                  cases e3
                  have HX0 := Aside0.mk hx
                  have hx0 := (HB.out.cell (World.block_lt_of_cell? w _ hx)).trans hx
                  clear hx
                  replace c7 := eq_true c7
                  replace c6 := eq_true c6
                  go_wp2
                  go_loopg [9, 11] k1 (fun kq v9 v11 w' => ∃ (j : Int) (lv : List S29), v11 = .int .i64 j ∧ Aside0 (levS.l2 kq (rd l0 i) lv j = some ls) ∧ Aside0 (kq ≤ k1) ∧ Aside0 (Kd.S kG 29 w' w.heap.size (fun k_ => g2 < k_ ∧ some k_ ≠ (v9 : Value).ownBlock) u8 out) ∧ Aside0 (Kd.R kLf 29 w' w.heap.size (fun k_ => g2 < k_) v9 lv) ∧ Aside0 (w'.heap[g2]? = some (.cells #[.int .i64 0, .int .i64 0, .slice none 0 0] 29 (0, 0))) ∧ Aside0 (Below w.heap.size w w'))
                  case atStart => exact ⟨0, lv, rfl, A7_, ⟨Nat.le_refl _⟩, ⟨(by (with_reducible repeat (first | apply Kd.S_alloc | apply Kd.S_drewN | apply Kd.S_drew)); exact HO.out)⟩, ⟨(by (with_reducible repeat (first | apply Kd.R_alloc | apply Kd.R_drewN | apply Kd.R_drew)); exact HL.out)⟩, ⟨(by (with_reducible repeat (first | refine blk_drewN ?_ _ | refine blk_drew ?_ | refine blk_alloc ?_ _)); exact BK_g2.out)⟩, ⟨(by repeat (first | (with_reducible first | exact HB.out | apply below_alloc | apply pw_below_drewN | apply below_drew1) | exact HB.out))⟩⟩
                  case round =>
                    clear A7_ HO HL BK_g2 HB hz_g20 hz_g2f0 hz_g21 hz_g2f1 hz_g22 hz_g2f2
                    (try clear hx0)
                    obtain ⟨j, lv, rfl, HA, HK2, HO, HL, BK_g2, HB⟩ := hrel
                    have hx0 := (HB.out.cell (World.block_lt_of_cell? w _ HX0.out)).trans HX0.out
                    have hz_g20 : wr.cell? ⟨g2, 0, none⟩ = some (.int .i64 0) := (blk_cell BK_g2.out 0).trans rfl
                    have hz_g2f0 := blk_frozen BK_g2.out 0
                    have hz_g21 : wr.cell? ⟨g2, 1, none⟩ = some (.int .i64 0) := (blk_cell BK_g2.out 1).trans rfl
                    have hz_g2f1 := blk_frozen BK_g2.out 1
                    have hz_g22 : wr.cell? ⟨g2, 2, none⟩ = some (.slice none 0 0) := (blk_cell BK_g2.out 2).trans rfl
                    have hz_g2f2 := blk_frozen BK_g2.out 2
                    cases gk with
                    | zero => exact absurd HA.out (by simp [levS.l2])
                    | succ k2 =>
                      have H' := HA.out
                      clear HA
                      simp only [levS.l2] at H'
                      by_cases d6 : j < rd l0 i
                      · rw [if_pos d6] at H'
                        by_cases d8 : lv.length < 1048576
                        case neg => rw [if_neg d8] at H'; exact absurd H' (by simp)
                        rw [if_pos d8] at H'
                        have LM := Aside0.mk d8
                        have HF := Aside0.mk H'
                        clear H' d8
                        have d6b0 : decide (j < rd l0 i) = true := decide_eq_true d6
                        replace d6 := Aside0.mk d6
                        obtain ⟨Al, cl, el⟩ := Kd.R_slice HL.out
                        subst el
                        go_wp2_with (first | (go_at_call 62; (with_reducible refine (spec_l02Leaf.callsT (lv.length : Int) _).mono ?_); rintro e w6 ⟨rfl, hb⟩; have n3_ := Aside0.mk (Kd.S_below (by (with_reducible repeat (first | apply Kd.S_alloc | apply Kd.S_drewN | apply Kd.S_drew)); exact HO.out) hb); have n4_ := Aside0.mk (Kd.R_below (by (with_reducible repeat (first | apply Kd.R_alloc | apply Kd.R_drewN | apply Kd.R_drew)); exact HL.out) hb); clear HO HL hx0; have HO := n3_; have HL := n4_; clear n3_ n4_; have n0_ := Aside0.mk (below_step (by repeat (first | (with_reducible first | exact HB.out | apply below_alloc | apply pw_below_drewN | apply below_drew1) | exact HB.out)) hb); have n2_ := Aside0.mk (blk_below (g := g2) (o := .cells #[.int .i64 0, .int .i64 0, .slice none 0 0] 29 (0, 0)) (by (with_reducible repeat (first | refine blk_drewN ?_ _ | refine blk_drew ?_ | refine blk_alloc ?_ _)); exact BK_g2.out) hb); clear HB BK_g2 hz_g20 hz_g2f0 hz_g21 hz_g2f1 hz_g22 hz_g2f2 hb; have HB := n0_; have BK_g2 := n2_; clear n0_ n2_; have hz_g20 : w6.cell? ⟨g2, 0, none⟩ = some (.int .i64 0) := (blk_cell BK_g2.out 0).trans rfl; have hz_g2f0 := blk_frozen BK_g2.out 0; have hz_g21 : w6.cell? ⟨g2, 1, none⟩ = some (.int .i64 0) := (blk_cell BK_g2.out 1).trans rfl; have hz_g2f1 := blk_frozen BK_g2.out 1; have hz_g22 : w6.cell? ⟨g2, 2, none⟩ = some (.slice none 0 0) := (blk_cell BK_g2.out 2).trans rfl; have hz_g2f2 := blk_frozen BK_g2.out 2; have hx0 := (HB.out.cell (World.block_lt_of_cell? w _ HX0.out)).trans HX0.out) | ((with_reducible refine gate_builtin (b := .append) (xs := #[.tmp 81, .tmp 85]) rfl ?_); at_builtin; refine Kd.R_append kLf (w0 := w) w.heap.size rfl (.tmp 81) (.tmp 85) 27 29 (.agg #[.int .i64 0, .int .i64 0, .slice none 0 0]) 40 rfl Try.underlying27 info29 rfl (by decide) (by omega) (.slice Al lv.length cl) lv (⟨(lv.length : Int), 0, []⟩ : S29) [.int .i64 (lv.length : Int), .int .i64 0, .slice none 0 0] (fun k_ => g2 < k_) (fun _ => False) rfl rfl ?aP (fun _ h_ => h_.elim) ?aF ?aO ?aB ?aS ?aL ?_; (case aP => exact ⟨rfl, rfl⟩); (case aF => exact (fun k_ hk_ => Nat.lt_of_lt_of_le (blk_lt BK_g2.out) hk_)); (case aO => exact (by (with_reducible repeat (first | apply Kd.R_alloc | apply Kd.R_drewN | apply Kd.R_drew)); exact HL.out)); (case aB => exact (by repeat (first | (with_reducible first | exact HB.out | apply below_alloc | apply pw_below_drewN | apply below_drew1) | exact HB.out))); (case aS => exact below_size (by repeat (first | (with_reducible first | exact HB.out | apply below_alloc | apply pw_below_drewN | apply below_drew1) | exact HB.out))); (case aL => have := LM.out; omega); intro v7b w7 ho hb hg hat; have n2_ := Aside0.mk (blk_grown (g := g2) (o := .cells #[.int .i64 0, .int .i64 0, .slice none 0 0] 29 (0, 0)) BK_g2.out hg (fun e_ => by have := (HL.out).1 _ e_.symm; omega)); have HO8 := Aside0.mk (Kd.S_after HO.out hg hat); have HL8 := Aside0.mk ho; have HB8 := Aside0.mk hb; have B28 := n2_; clear n2_ ho hb hg hat HO HL BK_g2 HB))
                        go_roundg k2
                        case measure => have := HK2.out; omega
                        case rel => exact ⟨_, lv ++ [(⟨(lv.length : Int), 0, []⟩ : S29)], rfl, HF, ⟨by have := HK2.out; omega⟩, HO8, HL8, B28, HB8⟩
                      · rw [if_neg d6] at H'
                        obtain rfl : lv = ls := Option.some.inj H'
                        clear H'
                        have d6b0 : decide (j < rd l0 i) = false := decide_eq_false d6
                        replace d6 := Aside0.mk d6
                        have H' := HF0.out
                        clear HF0
                        by_cases c9 : i < (l1.length : Int)
                        case neg => rw [if_neg c9] at H'; exact absurd H' (by simp)
                        rw [if_pos c9] at H'
                        by_cases c10 : lv.length < 1048576
                        case neg => rw [if_neg c10] at H'; exact absurd H' (by simp)
                        rw [if_pos c10] at H'
                        by_cases c11 : out.length < 1048576
                        case neg => rw [if_neg c11] at H'; exact absurd H' (by simp)
                        rw [if_pos c11] at H'
                        have LMl := Aside0.mk c10
                        have LM := Aside0.mk c11
                        have HF := Aside0.mk H'
                        clear H' c10 c11
                        have c9b0 : decide (i < (l1.length : Int)) = true := decide_eq_true c9
                        obtain ⟨ad1, e3, hx⟩ := Kd.at_int HR1.out i HC7.out c9
                        cases e3
                        have HX1 := Aside0.mk hx
                        clear hx
                        replace c9 := eq_true c9
                        obtain ⟨Al, cl, el⟩ := Kd.R_slice HL.out
                        subst el
                        obtain ⟨NO, hNO⟩ : ∃ n : Nat, n = wr.heap.size := ⟨_, rfl⟩
                        have HNO := Aside0.mk hNO
                        have HLN : Aside0 (g2 < NO) := ⟨by rw [hNO]; exact blk_lt BK_g2.out⟩
                        clear hNO
                        go_wp2
                        have HB0 : Aside0 (Below w.heap.size w wr.drew) := ⟨(by repeat (first | (with_reducible first | exact HB.out | apply below_alloc | apply pw_below_drewN | apply below_drew1) | exact HB.out))⟩
                        have B20 : Aside0 (wr.drew.heap[g2]? = some (.cells #[.int .i64 0, .int .i64 0, .slice none 0 0] 29 (0, 0))) := ⟨(by (with_reducible repeat (first | refine blk_drewN ?_ _ | refine blk_drew ?_ | refine blk_alloc ?_ _)); exact BK_g2.out)⟩
                        have HO0 : Aside0 (Kd.S kG 29 wr.drew w.heap.size (fun k_ => (g2 < k_ ∧ some k_ ≠ (.slice Al lv.length cl : Value).ownBlock) ∧ k_ < NO) u8 out) := ⟨(by (with_reducible repeat (first | apply Kd.S_alloc | apply Kd.S_drewN | apply Kd.S_drew)); exact (Kd.S_mono (Kd.S_bound HO.out) (fun k_ hk_ => ⟨hk_.1, by rw [HNO.out]; exact hk_.2.2.1⟩)))⟩
                        have HL0 : Aside0 (Kd.R kLf 29 wr.drew w.heap.size (fun k_ => g2 < k_ ∧ k_ < NO) (.slice Al lv.length cl) lv) := ⟨(by (with_reducible repeat (first | apply Kd.R_alloc | apply Kd.R_drewN | apply Kd.R_drew)); exact (Kd.R_mono (Kd.R_bound HL.out) (fun k_ hk_ => ⟨hk_.1, by rw [HNO.out]; exact hk_.2.2.1⟩)))⟩
                        have HNS : Aside0 (NO ≤ wr.drew.heap.size) := ⟨by rw [HNO.out]; exact Nat.le_refl _⟩
                        clear HB BK_g2 HO HL hz_g20 hz_g2f0 hz_g21 hz_g2f1 hz_g22 hz_g2f2
                        (try clear hx0)
                        refine start_ (n := 12) (S := fun w' => w'.cell? (ad1.add i.toNat) = some (.int .i64 (rd l1 i))) (ds := [8, 9, 10]) #[false, false, false, false, false, false, false, false, false, false, false, false] (by kernel_rfl) rfl rfl (((show Below w.heap.size w _ from (by repeat (first | (with_reducible first | exact HB0.out | apply below_alloc | apply pw_below_drewN | apply below_drew1) | exact HB0.out))).cell (World.block_lt_of_cell? w _ HX1.out)).trans HX1.out) (fun hHeld => ?_)
                        generalize wr.drew = w8x at HB0 B20 HO0 HL0 HNS hHeld ⊢
                        refine pure_ (i := 0) (N := some 87) (v := ?_) (a' := ?_) #[true, false, false, false, false, false, false, false, false, false, false, false] rfl rfl (by kernel_rfl) (fun _ _ _ h => h) (Or.inl ⟨by rfl, ?_⟩) ?_ ?_
                        rotate_left
                        · intro w'
                          first | (go_simp; with_reducible rfl) | (simp [go_sem, Instr.field, asAgg] <;> with_reducible rfl)
                        rotate_left
                        · simp only [Act.put, List.setIfInBounds_toArray, List.set_cons_zero, List.set_cons_succ, i64_w, i32_w]
                          rfl
                        refine pure_ (i := 1) (N := some 88) (v := ?_) (a' := ?_) #[true, true, false, false, false, false, false, false, false, false, false, false] rfl rfl (by kernel_rfl) (fun _ _ _ h => h) (Or.inl ⟨by rfl, ?_⟩) ?_ ?_
                        rotate_left
                        · intro w'
                          first | (go_simp; with_reducible rfl) | (simp [go_sem, Instr.field, asAgg] <;> with_reducible rfl)
                        rotate_left
                        · simp only [Act.put, List.setIfInBounds_toArray, List.set_cons_zero, List.set_cons_succ, i64_w, i32_w]
                          rfl
                        refine pure_ (i := 2) (N := some 89) (v := ?_) (a' := ?_) #[true, true, true, false, false, false, false, false, false, false, false, false] rfl rfl (by kernel_rfl) (fun _ _ _ h => h) (Or.inl ⟨by rfl, ?_⟩) ?_ ?_
                        rotate_left
                        · intro w'
                          first | (go_simp; with_reducible rfl) | (simp [go_sem, Instr.field, asAgg] <;> with_reducible rfl)
                        rotate_left
                        · simp only [Act.put, List.setIfInBounds_toArray, List.set_cons_zero, List.set_cons_succ, i64_w, i32_w]
                          rfl
                        refine pure_ (i := 3) (N := some 90) (v := ?_) (a' := ?_) #[true, true, true, true, false, false, false, false, false, false, false, false] rfl rfl (by kernel_rfl) (fun _ _ _ h => h) (Or.inl ⟨by rfl, ?_⟩) ?_ ?_
                        rotate_left
                        · intro w'
                          first | (go_simp; with_reducible rfl) | (simp [go_sem, Instr.field, asAgg] <;> with_reducible rfl)
                        rotate_left
                        · simp only [Act.put, List.setIfInBounds_toArray, List.set_cons_zero, List.set_cons_succ, i64_w, i32_w]
                          rfl
                        refine pure_ (i := 6) (N := some 93) (v := ?_) (a' := ?_) #[true, true, true, true, false, false, true, false, false, false, false, false] rfl rfl (by kernel_rfl) (fun _ _ _ h => h) (Or.inl ⟨by rfl, ?_⟩) ?_ ?_
                        rotate_left
                        · intro w'
                          first | (go_simp; with_reducible rfl) | (simp [go_sem, Instr.field, asAgg] <;> with_reducible rfl)
                        rotate_left
                        · simp only [Act.put, List.setIfInBounds_toArray, List.set_cons_zero, List.set_cons_succ, i64_w, i32_w]
                          rfl
                        refine take_ (i := 4) (N := some 91) (v := ?_) (a' := ?_) #[true, true, true, true, true, false, true, false, false, false, false, false] rfl rfl (by kernel_rfl) (fun _ _ _ h => h) (Or.inl ⟨by rfl, ?_⟩) hHeld ?_ ?_
                        rotate_left
                        · intro w' s0
                          go_simp
                          with_reducible rfl
                        rotate_left
                        · simp only [Act.put, List.setIfInBounds_toArray, List.set_cons_zero, List.set_cons_succ, i64_w, i32_w]
                          rfl
                        refine one_ (i := 5) (N := some 92) #[true, true, true, true, true, true, true, false, false, false, false, false] rfl rfl (by kernel_rfl) (by decide) (fun K hK => ?_)
                        refine Kd.R_lit_step kLf _ 29 ?hg (N := 92) ?hd (xs := ([] : List S29)) (inner := []) (ok := fun _ => True) (okp := fun _ => False) ?hr ?hp (fun _ hk => hk.elim) trivial (Below.refl _ _) (Nat.le_refl _) (by simp) ?_
                        (case hd => rfl)
                        (case hg => rfl)
                        (case hr => first | (go_simp; done) | (go_simp; rfl))
                        (case hp => exact (Reps.none _ _))
                        intro v92 w5 ho hb hg_ hnew_
                        clear hg_ hnew_
                        have HLN2 := Aside0.mk (Kd.R_lower (base' := w.heap.size) (Kd.R_mono (Kd.R_bound ho) (ok' := fun k_ => NO ≤ k_) (fun k_ hk_ => Nat.le_trans (by exact HNS.out) hk_.2.1)) (below_size HB0.out))
                        clear ho
                        have n0_ := Aside0.mk (below_step (by repeat (first | (with_reducible first | exact HB0.out | apply below_alloc | apply pw_below_drewN | apply below_drew1) | exact HB0.out)) hb)
                        have n1_ := Aside0.mk (blk_below (g := g2) (o := .cells #[.int .i64 0, .int .i64 0, .slice none 0 0] 29 (0, 0)) (by (with_reducible repeat (first | refine blk_drewN ?_ _ | refine blk_drew ?_ | refine blk_alloc ?_ _)); exact B20.out) hb)
                        have n2_ := Aside0.mk (Kd.S_below (by (with_reducible repeat (first | apply Kd.S_alloc | apply Kd.S_drewN | apply Kd.S_drew)); exact HO0.out) hb)
                        have n3_ := Aside0.mk (Kd.R_below (by (with_reducible repeat (first | apply Kd.R_alloc | apply Kd.R_drewN | apply Kd.R_drew)); exact HL0.out) hb)
                        have n4_ := Aside0.mk (Nat.le_trans (by exact HNS.out) (below_size hb))
                        clear HB0 B20 HO0 HL0 HNS
                        have HB0 := n0_
                        have B20 := n1_
                        have HO0 := n2_
                        have HL0 := n3_
                        have HNS := n4_
                        clear n0_ n1_ n2_ n3_ n4_ hb
                        refine hK.out _ _ (((show Below w.heap.size w _ from (by repeat (first | (with_reducible first | exact HB0.out | apply below_alloc | apply pw_below_drewN | apply below_drew1) | exact HB0.out))).cell (World.block_lt_of_cell? w _ HX1.out)).trans HX1.out) (fun hHeld => ?_)
                        clear hK K
                        refine norm_ (a' := ?_) ?_ ?_
                        rotate_left
                        · show Act.put _ (some 92) _ = _
                          simp only [Act.put, List.setIfInBounds_toArray, List.set_cons_zero, List.set_cons_succ, i64_w, i32_w]
                          rfl
                        refine one_ (i := 7) (N := some 94) #[true, true, true, true, true, true, true, true, false, false, false, false] rfl rfl (by kernel_rfl) (by decide) (fun K hK => ?_)
                        refine Kd.R_append_rows_step kLf (w0 := w) w.heap.size (by rfl) (.tmp 92) (.tmp 93) 27 29 (.agg #[.int .i64 0, .int .i64 0, .slice none 0 0]) 40 rfl Try.underlying27 info29 rfl (by decide) (by omega) v92 [] lv _ _ _ (fun k_ => NO ≤ k_) (fun _ => False) rfl rfl ?aO ?aR (fun _ _ h => h) (fun _ h => h.elim) ?aF ?aB ?aS ?aL ?_
                        (case aO => exact HLN2.out)
                        (case aR => exact (Kd.R_reads' HL0.out).2.2)
                        (case aF => exact fun k_ hk_ => Nat.le_trans HNS.out hk_)
                        (case aB => exact HB0.out)
                        (case aS => exact below_size HB0.out)
                        (case aL => have := LMl.out; simp only [List.length_nil]; omega)
                        intro v94 w6 ho hb hg hat
                        have hown : ∀ k_, (v92 : Value).ownBlock = some k_ → NO ≤ k_ := fun k_ e_ => (HLN2.out).1 k_ e_
                        have n0_ := Aside0.mk (blk_grown (g := g2) (o := .cells #[.int .i64 0, .int .i64 0, .slice none 0 0] 29 (0, 0)) B20.out hg (fun e_ => by have := hown _ e_.symm; have := HLN.out; omega))
                        have n1_ := Aside0.mk (Kd.S_grown HO0.out hg (fun k_ hk_ e_ => by have := hown _ e_.symm; have := hk_.2; omega))
                        have n2_ := Aside0.mk (Kd.R_grown HL0.out hg (fun k_ hk_ e_ => by have := hown _ e_.symm; have := hk_.2; omega))
                        have n3_ := Aside0.mk (Nat.le_trans HNS.out hg.size)
                        have HSv := Aside0.mk (lf_S (xs := lv) ho)
                        obtain ⟨Av, cv, ev_⟩ := Kd.S_slice HSv.out
                        subst ev_
                        clear HB0 B20 HO0 HL0 HNS HLN2 ho hg hat hown
                        have HB0 := Aside0.mk hb
                        have B20 := n0_
                        have HO0 := n1_
                        have HL0 := n2_
                        have HNS := n3_
                        clear n0_ n1_ n2_ n3_ hb
                        refine hK.out _ _ (((show Below w.heap.size w _ from (by repeat (first | (with_reducible first | exact HB0.out | apply below_alloc | apply pw_below_drewN | apply below_drew1) | exact HB0.out))).cell (World.block_lt_of_cell? w _ HX1.out)).trans HX1.out) (fun hHeld => ?_)
                        clear hK K
                        refine norm_ (a' := ?_) ?_ ?_
                        rotate_left
                        · show Act.put _ (some 94) _ = _
                          simp only [Act.put, List.setIfInBounds_toArray, List.set_cons_zero, List.set_cons_succ, i64_w, i32_w]
                          rfl
                        refine last_ (i := 8) (N := some 95) #[true, true, true, true, true, true, true, true, true, false, false, false] rfl rfl (by kernel_rfl) (by decide) (fun K hK => ?_)
                        refine goes_ Try.func63 (by kernel_rfl) rfl #[.int .i64 (rd l1 i), .slice Av lv.length cv] (by rfl) rfl rfl (by simp only [List.map_toArray, List.map_cons, List.map_nil]; rfl) ?_
                        with_reducible refine (spec_l02Gate.callsT (rd l1 i) Av lv.length cv _).mono ?_
                        rintro e w8 ⟨rfl, hb⟩
                        refine ⟨_, rfl, ?_⟩
                        have n0_ := Aside0.mk (below_step (by repeat (first | (with_reducible first | exact HB0.out | apply below_alloc | apply pw_below_drewN | apply below_drew1) | exact HB0.out)) hb)
                        have n1_ := Aside0.mk (blk_below (g := g2) (o := .cells #[.int .i64 0, .int .i64 0, .slice none 0 0] 29 (0, 0)) (by (with_reducible repeat (first | refine blk_drewN ?_ _ | refine blk_drew ?_ | refine blk_alloc ?_ _)); exact B20.out) hb)
                        have n2_ := Aside0.mk (Kd.S_below (by (with_reducible repeat (first | apply Kd.S_alloc | apply Kd.S_drewN | apply Kd.S_drew)); exact HO0.out) hb)
                        have n3_ := Aside0.mk (Kd.R_below (by (with_reducible repeat (first | apply Kd.R_alloc | apply Kd.R_drewN | apply Kd.R_drew)); exact HL0.out) hb)
                        have n4_ := Aside0.mk (Nat.le_trans (by exact HNS.out) (below_size hb))
                        have n5_ := Aside0.mk (Kd.S_below HSv.out hb)
                        clear HB0 B20 HO0 HL0 HNS HSv
                        have HB0 := n0_
                        have B20 := n1_
                        have HO0 := n2_
                        have HL0 := n3_
                        have HNS := n4_
                        have HSv := n5_
                        clear n0_ n1_ n2_ n3_ n4_ n5_ hb
                        refine hK.out _ _ ?_
                        clear hK K
                        refine norm_ (a' := ?_) ?_ ?_
                        rotate_left
                        · show Act.put _ (some 95) _ = _
                          simp only [Act.put, List.setIfInBounds_toArray, List.set_cons_zero, List.set_cons_succ, i64_w, i32_w]
                          rfl
                        refine last_ (i := 9) (N := some 96) #[true, true, true, true, true, true, true, true, true, true, false, false] rfl rfl (by kernel_rfl) (by decide) (fun K hK => ?_)
                        refine value_ (w1 := ?_) (v := ?_) (by rfl) rfl ?_ ?_
                        rotate_left 2
                        · go_simp
                          constructor
                          · rfl
                          · rfl
                        refine hK.out _ _ ?_
                        clear hK K
                        refine norm_ (a' := ?_) ?_ ?_
                        rotate_left
                        · show Act.put _ (some 96) _ = _
                          simp only [Act.put, List.setIfInBounds_toArray, List.set_cons_zero, List.set_cons_succ, i64_w, i32_w]
                          rfl
                        refine last_ (i := 10) (N := some 97) #[true, true, true, true, true, true, true, true, true, true, true, false] rfl rfl (by kernel_rfl) (by decide) (fun K hK => ?_)
                        refine Kd.S_append_step kG (w0 := w) w.heap.size (by rfl) (.tmp 87) (.tmp 96) 27 29 (.agg #[.int .i64 0, .int .i64 0, .slice none 0 0]) 40 rfl Try.underlying27 info29 rfl (by decide) (by omega) u8 out (⟨-1, rd l1 i, lv⟩ : S29) [.int .i64 (-1), .int .i64 (rd l1 i), .slice Av lv.length cv] (fun k_ => g2 < k_ ∧ some k_ ≠ (.slice Al lv.length cl : Value).ownBlock) (fun k_ => NO ≤ k_) rfl rfl ?aP ?aK ?aF ?aO ?aB ?aS ?aL ?_
                        (case aP => exact kG_mkM (x := (⟨-1, rd l1 i, lv⟩ : S29)) HSv.out)
                        (case aK => exact fun k_ hk_ => ⟨⟨Nat.lt_of_lt_of_le HLN.out hk_, fun e_ => by have h_ := ((HL0.out).1 k_ e_.symm).2; omega⟩, fun e_ => by have h_ := ((Kd.S_R HO0.out).1 k_ e_.symm).2; omega⟩)
                        (case aF => exact fun k_ hk_ => ⟨Nat.lt_of_lt_of_le (blk_lt B20.out) hk_, fun e_ => by have h_ := ((HL0.out).1 k_ e_.symm).2; have := HNS.out; omega⟩)
                        (case aO => exact Kd.S_mono HO0.out (fun k_ hk_ => ⟨hk_.1, Nat.not_le.2 hk_.2⟩))
                        (case aB => exact HB0.out)
                        (case aS => exact below_size HB0.out)
                        (case aL => have := LM.out; omega)
                        intro v7b w9 ho hb hg hat
                        have hown : ∀ k_, (u8 : Value).ownBlock = some k_ → g2 < k_ ∧ some k_ ≠ (.slice Al lv.length cl : Value).ownBlock := fun k_ e_ => ((Kd.S_R HO0.out).1 k_ e_).1
                        have n2_ := Aside0.mk (blk_grown (g := g2) (o := .cells #[.int .i64 0, .int .i64 0, .slice none 0 0] 29 (0, 0)) B20.out hg (fun e_ => by have := (hown _ e_.symm).1; omega))
                        have n3_ := Aside0.mk (Kd.R_mono (ok' := fun k_ => g2 < k_) (Kd.R_grown (Kd.R_tight rfl HL0.out) hg (fun k_ hk_ e_ => (hown _ e_.symm).2 hk_)) (fun k_ hk_ => ((HL0.out).1 k_ hk_.symm).1))
                        have HO8 := Aside0.mk ho
                        have HB8 := Aside0.mk hb
                        have B28 := n2_
                        have HL8 := n3_
                        clear n2_ n3_ ho hb hg hat hown HO0 B20 HB0 HSv HL0
                        refine hK.out _ _ ?_
                        clear hK K
                        refine norm_ (a' := ?_) ?_ ?_
                        rotate_left
                        · show Act.put _ (some 97) _ = _
                          simp only [Act.put, List.setIfInBounds_toArray, List.set_cons_zero, List.set_cons_succ, i64_w, i32_w]
                          rfl
                        refine pure_ (i := 11) (N := some 8) (v := ?_) (a' := ?_) #[true, true, true, true, true, true, true, true, true, true, true, true] rfl rfl (by kernel_rfl) (fun _ _ _ h => h) (Or.inl ⟨by rfl, ?_⟩) ?_ ?_
                        rotate_left
                        · intro w'
                          first | (go_simp; with_reducible rfl) | (simp [go_sem, Instr.field, asAgg] <;> with_reducible rfl)
                        rotate_left
                        · simp only [Act.put, List.setIfInBounds_toArray, List.set_cons_zero, List.set_cons_succ, i64_w, i32_w]
                          rfl
                        refine done_ (by kernel_rfl) ?_
                        (try clear hHeld)
                        (try go_wp2)
                        go_roundg k1
                        case measure => have := HK1.out; omega
                        case rel => exact ⟨_, out ++ [(⟨-1, rd l1 i, lv⟩ : S29)], lv, rfl, HF, ⟨by have := HK1.out; omega⟩, HO8, HL8, B28, HB8⟩
                · rw [if_neg c6] at H'
                  obtain rfl : out = kids := Option.some.inj H'
                  clear H'
                  have AL := HQ2
                  clear HQ2 HL
                  have c6b0 : decide (i < (l0.length : Int)) = false := decide_eq_false c6
                  clear c6
                  obtain ⟨Ao, co, eo⟩ := Kd.S_slice HO.out
                  subst eo
                  go_wp2_with (first | (go_at_call 63; (with_reducible refine (spec_l02Gate.callsT 1 Ao out.length co _).mono ?_); rintro e w7 ⟨rfl, hb⟩; have n3_ := Aside0.mk (Kd.S_below (by (with_reducible repeat (first | apply Kd.S_alloc | apply Kd.S_drewN | apply Kd.S_drew)); exact HO.out) hb); clear HO; have HO := n3_; clear n3_; have n0_ := Aside0.mk (below_step (by repeat (first | (with_reducible first | exact HB.out | apply below_alloc | apply pw_below_drewN | apply below_drew1) | exact HB.out)) hb); have n2_ := Aside0.mk (blk_below (g := g2) (o := .cells #[.int .i64 0, .int .i64 0, .slice none 0 0] 29 (0, 0)) (by (with_reducible repeat (first | refine blk_drewN ?_ _ | refine blk_drew ?_ | refine blk_alloc ?_ _)); exact BK_g2.out) hb); clear HB BK_g2 hz_g20 hz_g2f0 hz_g21 hz_g2f1 hz_g22 hz_g2f2 hb; have HB := n0_; have BK_g2 := n2_; clear n0_ n2_; have hz_g20 : w7.cell? ⟨g2, 0, none⟩ = some (.int .i64 0) := (blk_cell BK_g2.out 0).trans rfl; have hz_g2f0 := blk_frozen BK_g2.out 0; have hz_g21 : w7.cell? ⟨g2, 1, none⟩ = some (.int .i64 0) := (blk_cell BK_g2.out 1).trans rfl; have hz_g2f1 := blk_frozen BK_g2.out 1; have hz_g22 : w7.cell? ⟨g2, 2, none⟩ = some (.slice none 0 0) := (blk_cell BK_g2.out 2).trans rfl; have hz_g2f2 := blk_frozen BK_g2.out 2) | (go_at_call 64; (with_reducible refine (spec_l02Told.callsT k s (-1) 1 Ao co out r1 r2 r3 r4 _ ?s1 ?s2 AL.out).mono ?_); (case s1 => exact (Kd.G_reads' HO.out).2.2); (case s2 => exact (Kd.G_reads' HO.out).2.1); rintro e w10 ⟨v, rfl, hv, hb⟩; have n3_ := Aside0.mk (told_S HO.out hb hv); obtain ⟨Av, cv, ev⟩ := Kd.S_slice n3_.out; subst ev; clear HO hv; have HO := n3_; clear n3_; have n0_ := Aside0.mk (below_step (by repeat (first | (with_reducible first | exact HB.out | apply below_alloc | apply pw_below_drewN | apply below_drew1) | exact HB.out)) hb); have n2_ := Aside0.mk (blk_below (g := g2) (o := .cells #[.int .i64 0, .int .i64 0, .slice none 0 0] 29 (0, 0)) (by (with_reducible repeat (first | refine blk_drewN ?_ _ | refine blk_drew ?_ | refine blk_alloc ?_ _)); exact BK_g2.out) hb); clear HB BK_g2 hz_g20 hz_g2f0 hz_g21 hz_g2f1 hz_g22 hz_g2f2 hb; have HB := n0_; have BK_g2 := n2_; clear n0_ n2_; have hz_g20 : w10.cell? ⟨g2, 0, none⟩ = some (.int .i64 0) := (blk_cell BK_g2.out 0).trans rfl; have hz_g2f0 := blk_frozen BK_g2.out 0; have hz_g21 : w10.cell? ⟨g2, 1, none⟩ = some (.int .i64 0) := (blk_cell BK_g2.out 1).trans rfl; have hz_g2f1 := blk_frozen BK_g2.out 1; have hz_g22 : w10.cell? ⟨g2, 2, none⟩ = some (.slice none 0 0) := (blk_cell BK_g2.out 2).trans rfl; have hz_g2f2 := blk_frozen BK_g2.out 2))
                  refine bodyPost_ret (results_ct rfl _ _ g2 29 #[.int .i64 r1, .int .i64 r2, .slice Av r3.length cv] (0, 0) _ rfl (by (with_reducible repeat (first | refine blk_drewN ?_ _ | refine blk_drew ?_ | refine blk_alloc ?_ _)); refine blk_put (cs := #[.int .i64 r1, .int .i64 r2, .slice none 0 0]) ?_ 2 _ rfl; (with_reducible repeat (first | refine blk_drewN ?_ _ | refine blk_drew ?_ | refine blk_alloc ?_ _)); refine blk_put (cs := #[.int .i64 r1, .int .i64 0, .slice none 0 0]) ?_ 1 _ rfl; (with_reducible repeat (first | refine blk_drewN ?_ _ | refine blk_drew ?_ | refine blk_alloc ?_ _)); refine blk_put (cs := #[.int .i64 0, .int .i64 0, .slice none 0 0]) ?_ 0 _ rfl; (with_reducible repeat (first | refine blk_drewN ?_ _ | refine blk_drew ?_ | refine blk_alloc ?_ _)); exact BK_g2.out) Try.underlying29 rfl (by kernel_rfl)) rfl ?_
                  exact ⟨_, rfl, Kd.S_mono (Kd.S_far (p := ⟨g2, 2, none⟩) (Kd.S_far (p := ⟨g2, 1, none⟩) (Kd.S_far (p := ⟨g2, 0, none⟩) HO.out (fun k_ hk_ => by have h_ : g2 < k_ := hk_.1; show k_ ≠ g2; omega) _) (fun k_ hk_ => by have h_ : g2 < k_ := hk_.1; show k_ ≠ g2; omega) _) (fun k_ hk_ => by have h_ : g2 < k_ := hk_.1; show k_ ≠ g2; omega) _) (fun _ _ => trivial), (by repeat (first | (with_reducible first | exact HB.out | apply below_alloc | apply pw_below_drewN | apply below_drew1 | refine below_set ?_ GW_g2.out) | exact HB.out))⟩
    · rw [if_neg c2_] at H
      simp only [Option.some.injEq, Prod.mk.injEq] at H
      obtain ⟨rfl, rfl, rfl, rfl⟩ := H
      have c2b : ((l1.length : Int) == (l0.length : Int)) = false := beq_eq_false_iff_ne.mpr c2_
      have c2n : ((l1.length : Int) != (l0.length : Int)) = true := by rw [bne, c2b]; rfl
      replace c2_ := Aside0.mk c2_
      go_enter Try.func30, Try.ntmps30
      go_wp2_with (first | ((with_reducible refine gate_dst (N := 4) rfl ?_); refine box_event ?hg (N := 4) ?hd (cs := #[.int .i64 0, .int .i64 0, .slice none 0 0]) (t := 29) ?hr ?_; (case hd => rfl); (case hg => rfl); (case hr => first | (go_simp; done) | (go_simp; rfl)); intro g2 hg w2 hbox hb; have n0_ := Aside0.mk (below_step (by repeat (first | (with_reducible first | exact HB.out | apply below_alloc | apply pw_below_drewN | apply below_drew1) | exact HB.out)) hb); have GW_g2 := Aside0.mk ((by rw [hg]; exact below_size (by repeat (first | (with_reducible first | exact HB.out | apply below_alloc | apply pw_below_drewN | apply below_drew1) | exact HB.out))) : w.heap.size ≤ g2); clear HB; have HB := n0_; clear n0_; have BK_g2 := Aside0.mk hbox; clear hbox hb hg; have hz_g20 : w2.cell? ⟨g2, 0, none⟩ = some (.int .i64 0) := (blk_cell BK_g2.out 0).trans rfl; have hz_g2f0 := blk_frozen BK_g2.out 0; have hz_g21 : w2.cell? ⟨g2, 1, none⟩ = some (.int .i64 0) := (blk_cell BK_g2.out 1).trans rfl; have hz_g2f1 := blk_frozen BK_g2.out 1; have hz_g22 : w2.cell? ⟨g2, 2, none⟩ = some (.slice none 0 0) := (blk_cell BK_g2.out 2).trans rfl; have hz_g2f2 := blk_frozen BK_g2.out 2))
      refine bodyPost_ret (results_ct rfl _ _ g2 29 #[.int .i64 0, .int .i64 0, .slice none 0 0] (0, 0) _ rfl (by (with_reducible repeat (first | refine blk_drewN ?_ _ | refine blk_drew ?_ | refine blk_alloc ?_ _)); refine blk_put (cs := #[.int .i64 0, .int .i64 0, .slice none 0 0]) ?_ 2 _ rfl; (with_reducible repeat (first | refine blk_drewN ?_ _ | refine blk_drew ?_ | refine blk_alloc ?_ _)); refine blk_put (cs := #[.int .i64 0, .int .i64 0, .slice none 0 0]) ?_ 1 _ rfl; (with_reducible repeat (first | refine blk_drewN ?_ _ | refine blk_drew ?_ | refine blk_alloc ?_ _)); refine blk_put (cs := #[.int .i64 0, .int .i64 0, .slice none 0 0]) ?_ 0 _ rfl; (with_reducible repeat (first | refine blk_drewN ?_ _ | refine blk_drew ?_ | refine blk_alloc ?_ _)); exact BK_g2.out) Try.underlying29 rfl (by kernel_rfl)) rfl ?_
      exact ⟨_, rfl, Kd.S_nil _ _ _ _ _, (by repeat (first | (with_reducible first | exact HB.out | apply below_alloc | apply pw_below_drewN | apply below_drew1 | refine below_set ?_ GW_g2.out) | exact HB.out))⟩

end Go.Proofs.Ytjnobnmjhpmpfaa.P

namespace Go.Proofs.Ytjnobnmjhpmpfaa.P
open Go.RowKit Go.Proofs.YtjnobnmjhpmpfaaW.PrintWords Go.Proofs.YtjnobnmjhpmpfaaW.PrintLast Go.Proofs.YtjnobnmjhpmpfaaW.PrintMore
attribute [local go_sem] max2_int min2_int max_two min_two max_three min_three max_four min_four
set_option linter.unusedVariables false
set_option linter.unusedSimpArgs false

/-! ### laws_toInt64S: function 31 -/
def laws_toInt64S.l0 : Nat → List Int → List Int → Int → Option (List Int)
  | 0, _, _, _ => none
  | k + 1, x0, x3, x4 => if x4 < (x0.length : Int) then (if 0 ≤ x4 then (if x4 < (x3.length : Int) then (laws_toInt64S.l0 k x0 (x3.set (x4 : Int).toNat (rd x0 x4)) (wrap64 (x4 + 1))) else (none)) else (none)) else (some x3)
def laws_toInt64S.f (k : Nat) (l0 : List Int) : Option (List Int) := if 0 ≤ (l0.length : Int) then (if ((l0.length : Int) : Int).toNat ≤ 35184372088832 then (laws_toInt64S.l0 k l0 (List.replicate ((l0.length : Int) : Int).toNat 0) 0) else (none)) else (none)
set_option maxHeartbeats 8000000 in
set_option maxRecDepth 100000 in
theorem laws_toInt64S.calls (k : Nat) (A0 : Option Addr) (c0 : Nat) (l0 : List Int) (r : List Int) (w : World) (hr0 : Kd.C (Kd.int .i64) w A0 l0.length l0) (hc0 : l0.length ≤ c0) (h : laws_toInt64S.f k l0 = some r) :
    Calls Try.prog 31 #[.slice A0 l0.length c0] w fun e w' => ∃ v0_ : Value, e = .returned (v0_) ∧ Kd.R (Kd.int .i64) 2 w' w.heap.size (fun _ => True) v0_ r ∧ Below w.heap.size w w' := by
  have HR0 := Aside0.mk hr0
  have HC0 := Aside0.mk hc0
  clear hr0 hc0
  have HB := Aside0.mk (Below.refl w.heap.size w)
  have H : (if 0 ≤ (l0.length : Int) then (if ((l0.length : Int) : Int).toNat ≤ 35184372088832 then (laws_toInt64S.l0 k l0 (List.replicate ((l0.length : Int) : Int).toNat 0) 0) else (none)) else (none)) = some r := h
  clear h
  by_cases c2 : 0 ≤ (l0.length : Int)
  · rw [if_pos c2] at H
    have c2b0 := eq_true c2
    have c2b1 : decide (0 ≤ (l0.length : Int)) = true := decide_eq_true c2
    clear c2
    by_cases c3 : ((l0.length : Int) : Int).toNat ≤ 35184372088832
    · rw [if_pos c3] at H
      have c3b0 := eq_true c3
      have c3b1 : decide (((l0.length : Int) : Int).toNat ≤ 35184372088832) = true := decide_eq_true c3
      clear c3
      obtain ⟨y140, hy140⟩ : ∃ y_ : List Int, y_ = (List.replicate ((l0.length : Int) : Int).toNat 0) := ⟨_, rfl⟩
      replace H : (laws_toInt64S.l0 k l0 y140 0) = some r := by first | (rw [hy140]; with_reducible exact H) | (have H2_ := (Option.bind_some _ _).symm.trans H; rw [hy140]; with_reducible exact H2_) | (have H2_ := (Option.bind_some _ _).symm.trans H; with_reducible exact H2_) | with_reducible exact H | (rw [hy140]; exact H) | exact H
      have Ny140 := Aside0.mk hy140
      clear hy140
      have H' := Aside0.mk H
      clear H
      go_enter Try.func31, Try.ntmps31
      go_wp2_with (first | ((with_reducible refine gate_dst (N := 7) rfl ?_); refine Kd.R_make (Kd.int .i64) _ 2 rfl (N := 7) rfl 39 _ _ rfl (l0.length : Int) rfl rfl Try.underlying39 (.int .i64 0) 8 info2 rfl (by decide) (by omega) 0 (ok := fun _ => True) (okp := fun _ => True) rfl (fun _ hk => hk) trivial (of_decide_eq_true (by first | (with_reducible assumption) | assumption)) (Nat.le_trans (Nat.mul_le_mul_right _ (of_decide_eq_true (by first | (with_reducible assumption) | assumption) : (l0.length : Int).toNat ≤ 35184372088832)) (by omega)) (Below.refl _ _) (Nat.le_refl _) ?_; intro v141 w4 ho5 hb hg_ hnew_; clear hg_ hnew_; (first | rw [← Ny140.out] at ho5 | (simp only [Int.reduceToNat] at ho5; rw [← Ny140.out] at ho5)); have n0_ := Aside0.mk (Kd.R_lower ho5 (below_size (by repeat (first | (with_reducible first | exact HB.out | apply below_alloc | apply pw_below_drewN | apply below_drew1) | exact HB.out)))); have n1_ := Aside0.mk (below_step (by repeat (first | (with_reducible first | exact HB.out | apply below_alloc | apply pw_below_drewN | apply below_drew1) | exact HB.out)) hb); clear HB; have HO142 := n0_; have HB := n1_; clear n0_ n1_; clear hb ho5))
      go_loopg [4] k (fun kq v4 w' => ∃ (x3_1 : List Int) (x4_1 : Int), v4 = .int .i64 x4_1 ∧ Aside0 (laws_toInt64S.l0 kq l0 x3_1 x4_1 = some r) ∧ Aside0 (kq ≤ k) ∧ Aside0 (Kd.R (Kd.int .i64) 2 w' w.heap.size (fun _ => True) v141 x3_1) ∧ Aside0 (Below w.heap.size w w'))
      case atStart => exact ⟨(y140), (0), (by first | rfl | (simp; done) | (simp [*]; done)), H', ⟨Nat.le_refl _⟩, ⟨by (with_reducible repeat (first | apply Kd.R_alloc | apply Kd.R_drewN | apply Kd.R_drew)); exact HO142.out⟩, ⟨by repeat (first | (with_reducible first | exact HB.out | apply below_alloc | apply pw_below_drewN | apply below_drew1) | exact HB.out)⟩⟩
      case round =>
        clear H'
        try clear c2
        try clear c2b0
        try clear c2b1
        try clear p2
        try clear c3
        try clear c3b0
        try clear c3b1
        obtain ⟨x3_1, x4_1, rfl, HA, HK1, HO_3, HB⟩ := hrel
        cases gk with
        | zero => exact absurd HA.out (by simp [laws_toInt64S.l0])
        | succ k1 =>
          have H := HA.out
          clear HA
          simp only [laws_toInt64S.l0] at H
          by_cases c6 : x4_1 < (l0.length : Int)
          · rw [if_pos c6] at H
            have c6b0 : decide (x4_1 < (l0.length : Int)) = true := decide_eq_true c6
            clear c6
            by_cases c7 : 0 ≤ x4_1
            · rw [if_pos c7] at H
              have c7b0 : decide (0 ≤ x4_1) = true := decide_eq_true c7
              clear c7
              by_cases c8 : x4_1 < (x3_1.length : Int)
              · rw [if_pos c8] at H
                have c8b0 : decide (x4_1 < (x3_1.length : Int)) = true := decide_eq_true c8
                clear c8
                obtain ⟨y144, hy144⟩ : ∃ y_ : List Int, y_ = (x3_1.set (x4_1 : Int).toNat (rd l0 x4_1)) := ⟨_, rfl⟩
                replace H : (laws_toInt64S.l0 k1 l0 y144 (wrap64 (x4_1 + 1))) = some r := by first | (rw [hy144]; with_reducible exact H) | (have H2_ := (Option.bind_some _ _).symm.trans H; rw [hy144]; with_reducible exact H2_) | (have H2_ := (Option.bind_some _ _).symm.trans H; with_reducible exact H2_) | with_reducible exact H | (rw [hy144]; exact H) | exact H
                have Ny144 := Aside0.mk hy144
                clear hy144
                have H' := Aside0.mk H
                clear H
                have p143 : 0 ≤ (x4_1 : Int) := of_decide_eq_true (by first | (with_reducible assumption) | assumption)
                have q143 : x4_1 < (l0.length : Int) := of_decide_eq_true (by first | (with_reducible assumption) | assumption)
                obtain ⟨ad143, e143, hx143_0⟩ := Kd.at_int HR0.out x4_1 p143 q143
                cases e143
                replace hx143_0 := (HB.out.cell (World.block_lt_of_cell? w _ hx143_0)).trans hx143_0
                replace p143 := eq_true p143
                replace q143 := eq_true q143
                have p9 : 0 ≤ (x4_1 : Int) := of_decide_eq_true (by first | (with_reducible assumption) | assumption)
                have q9 : (x4_1 : Int) < ((x3_1.length : Int) : Int) := of_decide_eq_true (by first | (with_reducible assumption) | assumption)
                obtain ⟨go9, co9, eo9, gb9, gl9, cl9, HG9⟩ := Kd.R_form HO_3.out (by omega)
                (first | cases eo9 | (injection eo9 with ea_ en_ ec_; (first | subst ea_ | (injection ea_ with ea_; subst ea_)); subst ec_; clear en_))
                have GB9 := Aside0.mk gb9
                have GG9 := Aside0.mk HG9
                clear gb9 gl9 HG9
                obtain ⟨hx9_0, hf9_0⟩ := Kd.R_celln 0 HO_3.out (x4_1 : Int) p9 q9
                replace p9 := eq_true p9
                replace q9 := eq_true q9
                have HP10 := Kd.R_putg HO_3.out (x4_1 : Int) (rd l0 x4_1)
                go_wp2_with (first | ((with_reducible refine gate_store (t := 2) (p := 20) rfl ?_); refine store_event (t := 2) (p := 20) (v := ?vo_w11) (w1 := (wr.setCell ⟨go9, (x4_1 : Int).toNat, none⟩ (.int .i64 (rd l0 x4_1)))) ?hg ?ho ?hn ?hr ?_; (case ho => rfl); (case hg => rfl); (case hn => rfl); (case hr => first | (go_simp; done) | (go_simp; rfl)); intro w11 hw; have hg : wr.grownBy w11 (some go9) := (by rw [hw]; exact HP10.2); have hp_ : Kd.R (Kd.int .i64) 2 w11 w.heap.size (fun _ => True) (.slice (some ⟨go9, 0, none⟩) x3_1.length co9) y144 := (by rw [hw, Ny144.out]; exact HP10.1); clear HP10; have n0_ := Aside0.mk (hp_); have n1_ := Aside0.mk ((by rw [hw]; exact below_set (HB.out) GB9.out : Below w.heap.size w w11)); clear HO_3; clear HB; have HO_3 := n0_; have HB := n1_; clear n0_ n1_; clear hg hw hp_))
                go_roundg k1
                case measure => have := HK1.out; omega
                case rel => exact ⟨(y144), (wrap64 (x4_1 + 1)), (by first | rfl | (simp; done) | (simp [*]; done)), H', ⟨by have := HK1.out; omega⟩, ⟨by (with_reducible repeat (first | apply Kd.R_alloc | apply Kd.R_drewN | apply Kd.R_drew)); exact HO_3.out⟩, ⟨by repeat (first | (with_reducible first | exact HB.out | apply below_alloc | apply pw_below_drewN | apply below_drew1) | exact HB.out)⟩⟩
              · rw [if_neg c8] at H
                exact absurd H (by simp)
            · rw [if_neg c7] at H
              exact absurd H (by simp)
          · rw [if_neg c6] at H
            have c6b0 : decide (x4_1 < (l0.length : Int)) = false := decide_eq_false c6
            clear c6
            obtain rfl := Option.some.inj H
            go_wp2
            go_ret
            exact ⟨_, by first | rfl | (simp [errW_none, errW_some] <;> rfl) | (simp [*, errW_none, errW_some] <;> rfl), by (with_reducible repeat (first | apply Kd.R_alloc | apply Kd.R_drewN | apply Kd.R_drew)); exact HO_3.out, by repeat (first | (with_reducible first | exact HB.out | apply below_alloc | apply pw_below_drewN | apply below_drew1) | exact HB.out)⟩
    · rw [if_neg c3] at H
      exact absurd H (by simp)
  · rw [if_neg c2] at H
    exact absurd H (by simp)

end Go.Proofs.Ytjnobnmjhpmpfaa.P

namespace Go.Proofs.Ytjnobnmjhpmpfaa.P
open Go.RowKit Go.Proofs.YtjnobnmjhpmpfaaW.PrintWords Go.Proofs.YtjnobnmjhpmpfaaW.PrintLast Go.Proofs.YtjnobnmjhpmpfaaW.PrintMore
attribute [local go_sem] max2_int min2_int max_two min_two max_three min_three max_four min_four
set_option linter.unusedVariables false
set_option linter.unusedSimpArgs false

/-! ### impl_leaves: function 65 -/
def impl_leaves.l0 : Nat → List (S29) → List Int → Int → Int → Option ((List (S29)))
  | 0, _, _, _, _ => none
  | k + 1, x3, x7, x8, x9 => if x9 < x8 then (if 0 ≤ x9 then (if x9 < (x7.length : Int) then (if x3.length < 3518437208883 then (impl_leaves.l0 k (x3 ++ [(⟨rd x7 x9, 0, ([] : List (S29))⟩ : S29)]) x7 x8 (wrap64 (x9 + 1))) else (none)) else (none)) else (none)) else (some x3)
def impl_leaves.f (k : Nat) (l0 : List Int) : Option ((List (S29))) := impl_leaves.l0 k (([] : List (S29))) l0 (l0.length : Int) 0
end Go.Proofs.Ytjnobnmjhpmpfaa.P

namespace Go.Proofs.Ytjnobnmjhpmpfaa.P
open Go.RowKit Go.Proofs.YtjnobnmjhpmpfaaW.PrintWords Go.Proofs.YtjnobnmjhpmpfaaW.PrintLast Go.Proofs.YtjnobnmjhpmpfaaW.PrintMore
attribute [local go_sem] max2_int min2_int max_two min_two max_three min_three max_four min_four
set_option linter.unusedVariables false
set_option linter.unusedSimpArgs false

/-! ### impl_everybody: function 66 -/
def impl_everybody.f (a0 : Int) : Option (Int) := if 0 ≤ a0 then (some (IntKind.u64.wrap ((shl .u64 1 a0) - 1))) else (none)
set_option maxHeartbeats 8000000 in
set_option maxRecDepth 100000 in
theorem impl_everybody.calls (a0 : Int) (r : Int) (w : World) (h : impl_everybody.f a0 = some r) :
    Calls Try.prog 66 #[.int .i64 a0] w fun e w' => e = .returned (.int .u64 r) ∧ Drawn0 w w' := by
  have H : (if 0 ≤ a0 then (some (IntKind.u64.wrap ((shl .u64 1 a0) - 1))) else (none)) = some r := h
  clear h
  by_cases c2 : 0 ≤ a0
  · rw [if_pos c2] at H
    have c2b0 := eq_true c2
    have c2b1 : decide (0 ≤ a0) = true := decide_eq_true c2
    clear c2
    obtain ⟨ji3, hji3⟩ : ∃ j_ : Int, (shl .u64 1 a0) = j_ := ⟨_, rfl⟩
    replace H : (some (IntKind.u64.wrap ((ji3) - 1))) = some r := by first | (rw [hji3] at H; exact H) | (simp only [hji3] at H ⊢; exact H)
    have hji3_ : (IntKind.u64.wrap (1 * 2 ^ min a0.toNat 64)) = ji3 := hji3
    have hji3z : a0 ≤ 64 → (IntKind.u64.wrap (1 * 2 ^ a0.toNat)) = ji3 := shl_small hji3
    have hji3u : (IntKind.u64.wrap (2 ^ min a0.toNat 64)) = ji3 := by have h_ := hji3_; rw [Int.one_mul] at h_; exact h_
    have hji3v : a0 ≤ 64 → (IntKind.u64.wrap (2 ^ a0.toNat)) = ji3 := fun hle_ => by have h_ := hji3z hle_; rw [Int.one_mul] at h_; exact h_
    obtain rfl := Option.some.inj H
    go_enter Try.func66, Try.ntmps66
    go_wp2
    go_ret
    exact ⟨by first | rfl | (simp; done) | (simp only [← hji3] <;> (first | rfl | simp)) | (simp [*]; done), by repeat (first | exact Drawn0.refl _ | apply Drawn0.step)⟩
  · rw [if_neg c2] at H
    exact absurd H (by simp)

end Go.Proofs.Ytjnobnmjhpmpfaa.P

namespace Go.Proofs.Ytjnobnmjhpmpfaa.P
open Go.RowKit Go.Proofs.YtjnobnmjhpmpfaaW.PrintWords Go.Proofs.YtjnobnmjhpmpfaaW.PrintLast Go.Proofs.YtjnobnmjhpmpfaaW.PrintMore
attribute [local go_sem] max2_int min2_int max_two min_two max_three min_three max_four min_four
set_option linter.unusedVariables false
set_option linter.unusedSimpArgs false

/-! ### impl_crowd_has: function 89 -/
def impl_crowd_has.f (a0 : Int) (a1 : Int) : Option (Bool) := if 0 ≤ a1 then (some ((Go.bits .and .u64 (shr .u64 a0 a1) 1) == 1)) else (none)
set_option maxHeartbeats 8000000 in
set_option maxRecDepth 100000 in
theorem impl_crowd_has.calls (a0 : Int) (a1 : Int) (r : Bool) (w : World) (h : impl_crowd_has.f a0 a1 = some r) :
    Calls Try.prog 89 #[.int .u64 a0, .int .i64 a1] w fun e w' => e = .returned (.bool r) ∧ Drawn0 w w' := by
  have H : (if 0 ≤ a1 then (some ((Go.bits .and .u64 (shr .u64 a0 a1) 1) == 1)) else (none)) = some r := h
  clear h
  by_cases c3 : 0 ≤ a1
  · rw [if_pos c3] at H
    have c3b0 := eq_true c3
    have c3b1 : decide (0 ≤ a1) = true := decide_eq_true c3
    clear c3
    obtain ⟨ji4, hji4⟩ : ∃ j_ : Int, (shr .u64 a0 a1) = j_ := ⟨_, rfl⟩
    replace H : (some ((Go.bits .and .u64 (ji4) 1) == 1)) = some r := by first | (rw [hji4] at H; exact H) | (simp only [hji4] at H ⊢; exact H)
    have hji4_ : (a0 / 2 ^ min a1.toNat 64) = ji4 := hji4
    have hji4z : a1 ≤ 64 → (a0 / 2 ^ a1.toNat) = ji4 := shr_small hji4
    obtain rfl := Option.some.inj H
    go_enter Try.func89, Try.ntmps89
    go_wp2
    go_ret
    exact ⟨by first | rfl | (simp; done) | (simp only [← hji4] <;> (first | rfl | simp)) | (simp [*]; done), by repeat (first | exact Drawn0.refl _ | apply Drawn0.step)⟩
  · rw [if_neg c3] at H
    exact absurd H (by simp)

end Go.Proofs.Ytjnobnmjhpmpfaa.P

namespace Go.Proofs.Ytjnobnmjhpmpfaa.P
open Go.RowKit Go.Proofs.YtjnobnmjhpmpfaaW.PrintWords Go.Proofs.YtjnobnmjhpmpfaaW.PrintLast Go.Proofs.YtjnobnmjhpmpfaaW.PrintMore
attribute [local go_sem] max2_int min2_int max_two min_two max_three min_three max_four min_four
set_option linter.unusedVariables false
set_option linter.unusedSimpArgs false

/-! ### impl_crowd_group: function 67 -/
def impl_crowd_group.l0 : Nat → Int → List Int → Int → Option (List Int)
  | 0, _, _, _ => none
  | k + 1, x0, x3, x4 => if x4 < 7 then ((impl_crowd_has.f x0 x4).bind fun t155 => (if t155 = true then (if x3.length < 17592186044416 then (impl_crowd_group.l0 k x0 (x3 ++ [x4]) (wrap64 (x4 + 1))) else (none)) else (impl_crowd_group.l0 k x0 x3 (wrap64 (x4 + 1))))) else (some x3)
def impl_crowd_group.f (k : Nat) (a0 : Int) : Option (List Int) := impl_crowd_group.l0 k a0 (([] : List Int)) 0
theorem impl_crowd_group.mono_l : ∀ k, (∀ y0 y1 y2, LeO (impl_crowd_group.l0 k y0 y1 y2) (impl_crowd_group.l0 (k + 1) y0 y1 y2))
  | 0 => fun _ _ _ r h => by simp [impl_crowd_group.l0] at h
  | k + 1 => by
    have ih0 := impl_crowd_group.mono_l k
    · intro y0 y1 y2
      unfold impl_crowd_group.l0
      repeat' first
      | (with_reducible exact ih0 _ _ _)
      | (with_reducible exact LeO.refl _)
      | (with_reducible exact LeO.none _)
      | (with_reducible refine LeO.ite ?_ ?_)
      | (with_reducible refine LeO.bind ?_ (fun _ => ?_))
      | exact ih0 _ _ _
      | exact LeO.none _
      | refine LeO.ite ?_ ?_
      | refine LeO.bind ?_ (fun _ => ?_)
theorem impl_crowd_group.mono : ∀ a0 k, LeO (impl_crowd_group.f k a0) (impl_crowd_group.f (k + 1) a0) := by
  intro a0 k
  have ih0 := impl_crowd_group.mono_l k
  unfold impl_crowd_group.f
  repeat' first
      | (with_reducible exact ih0 _ _ _)
      | (with_reducible exact LeO.refl _)
      | (with_reducible exact LeO.none _)
      | (with_reducible refine LeO.ite ?_ ?_)
      | (with_reducible refine LeO.bind ?_ (fun _ => ?_))
      | exact ih0 _ _ _
      | exact LeO.none _
      | refine LeO.ite ?_ ?_
      | refine LeO.bind ?_ (fun _ => ?_)
set_option maxHeartbeats 8000000 in
set_option maxRecDepth 100000 in
theorem impl_crowd_group.calls (k : Nat) (a0 : Int) (r : List Int) (w : World) (h : impl_crowd_group.f k a0 = some r) :
    Calls Try.prog 67 #[.int .u64 a0] w fun e w' => ∃ v0_ : Value, e = .returned (v0_) ∧ Kd.R (Kd.int .i64) 2 w' w.heap.size (fun _ => True) v0_ r ∧ Below w.heap.size w w' := by
  have HB := Aside0.mk (Below.refl w.heap.size w)
  have H : (impl_crowd_group.l0 k a0 (([] : List Int)) 0) = some r := h
  clear h
  obtain ⟨y152, hy152⟩ : ∃ y_ : List Int, y_ = (([] : List Int)) := ⟨_, rfl⟩
  replace H : (impl_crowd_group.l0 k a0 y152 0) = some r := by first | (rw [hy152]; with_reducible exact H) | (have H2_ := (Option.bind_some _ _).symm.trans H; rw [hy152]; with_reducible exact H2_) | (have H2_ := (Option.bind_some _ _).symm.trans H; with_reducible exact H2_) | with_reducible exact H | (rw [hy152]; exact H) | exact H
  have Ny152 := Aside0.mk hy152
  clear hy152
  have H' := Aside0.mk H
  clear H
  go_enter Try.func67, Try.ntmps67
  go_wp2_with (first | ((with_reducible refine gate_dst (N := 5) rfl ?_); refine Kd.R_lit (Kd.int .i64) _ 2 ?hg (N := 5) ?hd (xs := ([] : List Int)) (inner := []) (ok := fun _ => True) (okp := fun _ => True) ?hr ?hp (fun _ hk => hk) trivial (Below.refl _ _) (Nat.le_refl _) (by simp) ?_; (case hd => rfl); (case hg => rfl); (case hr => first | (go_simp; done) | (go_simp; rfl)); (case hp => exact (Reps.none _ _)); intro v153 w2 ho3 hb hg_ hnew_; clear hg_ hnew_; (first | rw [← Ny152.out] at ho3 | (simp only [Int.reduceToNat] at ho3; rw [← Ny152.out] at ho3)); have n0_ := Aside0.mk (Kd.R_lower ho3 (below_size (by repeat (first | (with_reducible first | exact HB.out | apply below_alloc | apply pw_below_drewN | apply below_drew1) | exact HB.out)))); have n1_ := Aside0.mk (below_step (by repeat (first | (with_reducible first | exact HB.out | apply below_alloc | apply pw_below_drewN | apply below_drew1) | exact HB.out)) hb); clear HB; have HO154 := n0_; have HB := n1_; clear n0_ n1_; clear hb ho3))
  go_loopg [3, 4] k (fun kq v3 v4 w' => ∃ (x3_1 : List Int) (x4_1 : Int), v4 = .int .i64 x4_1 ∧ Aside0 (impl_crowd_group.l0 kq a0 x3_1 x4_1 = some r) ∧ Aside0 (kq ≤ k) ∧ Aside0 (Kd.R (Kd.int .i64) 2 w' w.heap.size (fun _ => True) v3 x3_1) ∧ Aside0 (Below w.heap.size w w'))
  case atStart => exact ⟨(y152), (0), (by first | rfl | (simp; done) | (simp [*]; done)), H', ⟨Nat.le_refl _⟩, ⟨by (with_reducible repeat (first | apply Kd.R_alloc | apply Kd.R_drewN | apply Kd.R_drew)); exact HO154.out⟩, ⟨by repeat (first | (with_reducible first | exact HB.out | apply below_alloc | apply pw_below_drewN | apply below_drew1) | exact HB.out)⟩⟩
  case round =>
    clear H'
    try clear p2
    obtain ⟨x3_1, x4_1, rfl, HA, HK1, HO_3, HB⟩ := hrel
    cases gk with
    | zero => exact absurd HA.out (by simp [impl_crowd_group.l0])
    | succ k1 =>
      have H := HA.out
      clear HA
      simp only [impl_crowd_group.l0] at H
      by_cases c4 : x4_1 < 7
      · rw [if_pos c4] at H
        have c4b0 : decide (x4_1 < 7) = true := decide_eq_true c4
        clear c4
        replace H := Option.bind_eq_some_iff.mp H
        obtain ⟨t155, A50, H⟩ := H
        replace H : (if t155 = true then (if x3_1.length < 17592186044416 then (impl_crowd_group.l0 k1 a0 (x3_1 ++ [x4_1]) (wrap64 (x4_1 + 1))) else (none)) else (impl_crowd_group.l0 k1 a0 x3_1 (wrap64 (x4_1 + 1)))) = some r := H
        have A5 := Aside0.mk A50
        clear A50
        by_cases c6 : t155 = true
        · subst c6
          have H1 : (if x3_1.length < 17592186044416 then (impl_crowd_group.l0 k1 a0 (x3_1 ++ [x4_1]) (wrap64 (x4_1 + 1))) else (none)) = some r := by rw [if_pos rfl] at H; exact H
          clear H
          have H := H1
          clear H1
          by_cases c7 : x3_1.length < 17592186044416
          · rw [if_pos c7] at H
            have LMc7 := Aside0.mk c7
            clear c7
            obtain ⟨y156, hy156⟩ : ∃ y_ : List Int, y_ = (x3_1 ++ [x4_1]) := ⟨_, rfl⟩
            replace H : (impl_crowd_group.l0 k1 a0 y156 (wrap64 (x4_1 + 1))) = some r := by first | (rw [hy156]; with_reducible exact H) | (have H2_ := (Option.bind_some _ _).symm.trans H; rw [hy156]; with_reducible exact H2_) | (have H2_ := (Option.bind_some _ _).symm.trans H; with_reducible exact H2_) | with_reducible exact H | (rw [hy156]; exact H) | exact H
            have Ny156 := Aside0.mk hy156
            clear hy156
            have H' := Aside0.mk H
            clear H
            go_wp2_with (first | ((with_reducible refine gate_callee (f := 89) rfl ?_); refine goesL_ (some 12) rfl rfl Try.func89 (by kernel_rfl) rfl #[.int .u64 a0, .int .i64 x4_1] rfl (by (try simp only [List.map_toArray, List.map_cons, List.map_nil]); first | done | rfl | (simp only [List.length_drop, List.length_take]; rfl)) ?_; (with_reducible refine (impl_crowd_has.calls a0 x4_1 true _ A5.out).mono ?_); rintro e w' ⟨rfl, ⟨nd, rfl⟩⟩; refine ⟨_, rfl, ?_⟩) | ((with_reducible refine gate_builtin (b := .append) (xs := #[.tmp 13, .tmp 15]) rfl ?_); at_builtin; refine Kd.R_append (Kd.int .i64) (w0 := w) w.heap.size rfl (.tmp 13) (.tmp 15) 39 2 (.int .i64 0) 8 rfl Try.underlying39 info2 rfl (by decide) (by omega) u3 x3_1 x4_1 [.int .i64 x4_1] (fun _ => True) (fun _ => False) rfl rfl ?aP (fun _ hk => hk.elim) ?aF ?aO ?aB ?aS ?aL ?_; (case aP => exact rfl); (case aB => exact (by repeat (first | (with_reducible first | exact HB.out | apply below_alloc | apply pw_below_drewN | apply below_drew1) | exact HB.out))); (case aF => exact (fun _ _ => trivial)); (case aO => exact (by (with_reducible repeat (first | apply Kd.R_alloc | apply Kd.R_drewN | apply Kd.R_drew)); exact HO_3.out)); (case aS => exact (below_size (by repeat (first | (with_reducible first | exact HB.out | apply below_alloc | apply pw_below_drewN | apply below_drew1) | exact HB.out)))); (case aL => have := LMc7.out; omega); intro v157 w8 ho hb hg hat; rw [← Ny156.out] at ho; have n0_ := Aside0.mk (hb); have n1_ := Aside0.mk (ho); clear HB; clear HO_3; have HB := n0_; have HO158 := n1_; clear n0_ n1_; clear ho hb hg hat))
            go_roundg k1
            case measure => have := HK1.out; omega
            case rel => exact ⟨(y156), (wrap64 (x4_1 + 1)), (by first | rfl | (simp; done) | (simp [*]; done)), H', ⟨by have := HK1.out; omega⟩, ⟨by (with_reducible repeat (first | apply Kd.R_alloc | apply Kd.R_drewN | apply Kd.R_drew)); exact HO158.out⟩, ⟨by repeat (first | (with_reducible first | exact HB.out | apply below_alloc | apply pw_below_drewN | apply below_drew1) | exact HB.out)⟩⟩
          · rw [if_neg c7] at H
            exact absurd H (by simp)
        · replace c6 := Bool.eq_false_iff.mpr c6
          subst c6
          have H1 : (impl_crowd_group.l0 k1 a0 x3_1 (wrap64 (x4_1 + 1))) = some r := by rw [if_neg (show ¬ (false = true) by decide)] at H; exact H
          clear H
          have H := H1
          clear H1
          have H' := Aside0.mk H
          clear H
          go_wp2_with (first | ((with_reducible refine gate_callee (f := 89) rfl ?_); refine goesL_ (some 12) rfl rfl Try.func89 (by kernel_rfl) rfl #[.int .u64 a0, .int .i64 x4_1] rfl (by (try simp only [List.map_toArray, List.map_cons, List.map_nil]); first | done | rfl | (simp only [List.length_drop, List.length_take]; rfl)) ?_; (with_reducible refine (impl_crowd_has.calls a0 x4_1 false _ A5.out).mono ?_); rintro e w' ⟨rfl, ⟨nd, rfl⟩⟩; refine ⟨_, rfl, ?_⟩))
          go_roundg k1
          case measure => have := HK1.out; omega
          case rel => exact ⟨(x3_1), (wrap64 (x4_1 + 1)), (by first | rfl | (simp; done) | (simp [*]; done)), H', ⟨by have := HK1.out; omega⟩, ⟨by (with_reducible repeat (first | apply Kd.R_alloc | apply Kd.R_drewN | apply Kd.R_drew)); exact HO_3.out⟩, ⟨by repeat (first | (with_reducible first | exact HB.out | apply below_alloc | apply pw_below_drewN | apply below_drew1) | exact HB.out)⟩⟩
      · rw [if_neg c4] at H
        have c4b0 : decide (x4_1 < 7) = false := decide_eq_false c4
        clear c4
        obtain rfl := Option.some.inj H
        go_wp2
        go_ret
        exact ⟨_, by first | rfl | (simp [errW_none, errW_some] <;> rfl) | (simp [*, errW_none, errW_some] <;> rfl), by (with_reducible repeat (first | apply Kd.R_alloc | apply Kd.R_drewN | apply Kd.R_drew)); exact HO_3.out, by repeat (first | (with_reducible first | exact HB.out | apply below_alloc | apply pw_below_drewN | apply below_drew1) | exact HB.out)⟩

end Go.Proofs.Ytjnobnmjhpmpfaa.P

namespace Go.Proofs.Ytjnobnmjhpmpfaa.P
open Go.RowKit Go.Proofs.YtjnobnmjhpmpfaaW.PrintWords Go.Proofs.YtjnobnmjhpmpfaaW.PrintLast Go.Proofs.YtjnobnmjhpmpfaaW.PrintMore
attribute [local go_sem] max2_int min2_int max_two min_two max_three min_three max_four min_four
set_option linter.unusedVariables false
set_option linter.unusedSimpArgs false

/-! ### impl_GateSize: function 15 -/
mutual
def impl_GateSize.l0 : Nat → Int → List (S29) → Int → Int → Option (Int)
  | 0, _, _, _, _ => none
  | k + 1, x3, x7, x8, x9 => if x9 < x8 then (if 0 ≤ x9 then (if x9 < (x7.length : Int) then ((impl_GateSize.f k ((rd_T29 x7 x9).f0) ((rd_T29 x7 x9).f1) ((rd_T29 x7 x9).f2)).bind fun t112 => (impl_GateSize.l0 k (wrap64 (x3 + t112)) x7 x8 (wrap64 (x9 + 1)))) else (none)) else (none)) else (some x3)
def impl_GateSize.f : Nat → Int → Int → List (S29) → Option (Int)
  | 0, _, _, _ => none
  | k + 1, a0_0, a0_1, l0_2 => impl_GateSize.l0 k 1 l0_2 (l0_2.length : Int) 0
end
set_option maxHeartbeats 8000000 in
set_option maxRecDepth 100000 in
theorem impl_GateSize.calls (k : Nat) : ∀ (a0_0 : Int) (a0_1 : Int) (A0_2 : Option Addr) (c0_2 : Nat) (l0_2 : List (S29)) (r : Int) (w : World) (hr0_2 : Kd.C k29 w A0_2 l0_2.length l0_2) (hc0_2 : l0_2.length ≤ c0_2) (h : impl_GateSize.f k a0_0 a0_1 l0_2 = some r),
    Calls Try.prog 15 #[.agg #[.int .i64 a0_0, .int .i64 a0_1, .slice A0_2 l0_2.length c0_2]] w fun e w' => e = .returned (.int .i64 r) ∧ Below w.heap.size w w' := by
  induction k using Nat.strongRecOn with
  | _ k ih =>
  intro a0_0 a0_1 A0_2 c0_2 l0_2 r w hr0_2 hc0_2 h
  cases k with
  | zero => exact absurd h (by simp [impl_GateSize.f])
  | succ k =>
  simp only [impl_GateSize.f] at h
  have hu29 := Try.underlying29
  have HR0_2 := Aside0.mk hr0_2
  have HC0_2 := Aside0.mk hc0_2
  clear hr0_2 hc0_2
  have HB := Aside0.mk (Below.refl w.heap.size w)
  have H : (impl_GateSize.l0 k 1 l0_2 (l0_2.length : Int) 0) = some r := h
  clear h
  have H' := Aside0.mk H
  clear H
  go_enter Try.func15, Try.ntmps15
  go_wp2_with (first | ((with_reducible refine gate_dst (N := 1) rfl ?_); refine box_event ?hg (N := 1) ?hd (cs := #[.int .i64 a0_0, .int .i64 a0_1, .slice A0_2 l0_2.length c0_2]) (t := 29) ?hr ?_; (case hd => rfl); (case hg => rfl); (case hr => first | (go_simp; done) | (go_simp; rfl)); intro gb109 hg w2 hbox hb; have n0_ := Aside0.mk (below_step (by repeat (first | (with_reducible first | exact HB.out | apply below_alloc | apply pw_below_drewN | apply below_drew1) | exact HB.out)) hb); have n1_ := Aside0.mk (hbox); have n2_ := Aside0.mk ((by rw [hg]; exact (below_size (by repeat (first | (with_reducible first | exact HB.out | apply below_alloc | apply pw_below_drewN | apply below_drew1) | exact HB.out))) : w.heap.size ≤ gb109)); have n3_ := Aside0.mk ((by rw [hg]; exact (below_size (by repeat (first | (with_reducible first | exact HB.out | apply below_alloc | apply pw_below_drewN | apply below_drew1) | exact HB.out))) : w.heap.size ≤ gb109)); clear HB; have HB := n0_; have BK109 := n1_; have GW109 := n2_; have GE109 := n3_; clear n0_ n1_ n2_ n3_; clear hb hbox hg; have hcz3_0 : w2.cell? ⟨gb109, 0, none⟩ = some (.int .i64 a0_0) := (blk_cell BK109.out 0).trans rfl; have hcz3_1 : w2.cell? ⟨gb109, 1, none⟩ = some (.int .i64 a0_1) := (blk_cell BK109.out 1).trans rfl; have hcz3_2 : w2.cell? ⟨gb109, 2, none⟩ = some (.slice A0_2 l0_2.length c0_2) := (blk_cell BK109.out 2).trans rfl; have hfz3_0 := blk_frozen BK109.out 0; have hfz3_1 := blk_frozen BK109.out 1; have hfz3_2 := blk_frozen BK109.out 2))
  go_loopg [3, 9] k (fun kq v3 v9 w' => ∃ (x3_1 : Int) (x9_1 : Int), v3 = .int .i64 x3_1 ∧ v9 = .int .i64 x9_1 ∧ Aside0 (impl_GateSize.l0 kq x3_1 l0_2 (l0_2.length : Int) x9_1 = some r) ∧ Aside0 (kq ≤ k) ∧ Aside0 (w'.heap[gb109]? = some (.cells #[.int .i64 a0_0, .int .i64 a0_1, (.slice A0_2 l0_2.length c0_2)] 29 (0, 0))) ∧ Aside0 (Below w.heap.size w w'))
  case atStart => exact ⟨(1), (0), (by first | rfl | (simp; done) | (simp [*]; done)), (by first | rfl | (simp; done) | (simp [*]; done)), H', ⟨Nat.le_refl _⟩, ⟨by (with_reducible repeat (first | refine blk_drewN ?_ _ | refine blk_drew ?_ | refine blk_alloc ?_ _)); exact BK109.out⟩, ⟨by repeat (first | (with_reducible first | exact HB.out | apply below_alloc | apply pw_below_drewN | apply below_drew1 | refine below_set ?_ GE109.out) | exact HB.out)⟩⟩
  case round =>
    clear H'
    try clear c1
    try clear p2
    try clear hcz3_0
    try clear hcz3_1
    try clear hcz3_2
    try clear hfz3_0
    try clear hfz3_1
    try clear hfz3_2
    obtain ⟨x3_1, x9_1, rfl, rfl, HA, HK1, BK109, HB⟩ := hrel
    cases gk with
    | zero => exact absurd HA.out (by simp [impl_GateSize.l0])
    | succ k1 =>
      have H := HA.out
      clear HA
      simp only [impl_GateSize.l0] at H
      by_cases c4 : x9_1 < (l0_2.length : Int)
      · rw [if_pos c4] at H
        have c4b0 : decide (x9_1 < (l0_2.length : Int)) = true := decide_eq_true c4
        clear c4
        by_cases c5 : 0 ≤ x9_1
        · rw [if_pos c5] at H
          have c5b0 : decide (0 ≤ x9_1) = true := decide_eq_true c5
          clear c5
          by_cases c6 : x9_1 < (l0_2.length : Int)
          · rw [if_pos c6] at H
            have c6b0 : decide (x9_1 < (l0_2.length : Int)) = true := decide_eq_true c6
            clear c6
            replace H := Option.bind_eq_some_iff.mp H
            obtain ⟨t112, A70, H⟩ := H
            replace H : (impl_GateSize.l0 k1 (wrap64 (x3_1 + t112)) l0_2 (l0_2.length : Int) (wrap64 (x9_1 + 1))) = some r := H
            have A7 := Aside0.mk A70
            clear A70
            have H' := Aside0.mk H
            clear H
            have p110 : 0 ≤ (x9_1 : Int) := of_decide_eq_true (by first | (with_reducible assumption) | assumption)
            have q110 : x9_1 < (l0_2.length : Int) := of_decide_eq_true (by first | (with_reducible assumption) | assumption)
            obtain ⟨ad110, A110_2, c110_2, e110, hx110_0, hx110_1, hx110_2, hl110_2, hi110_2⟩ := at_T29 HR0_2.out x9_1 p110 q110
            cases e110
            replace hx110_0 := (HB.out.cell (World.block_lt_of_cell? w _ hx110_0)).trans hx110_0
            replace hx110_1 := (HB.out.cell (World.block_lt_of_cell? w _ hx110_1)).trans hx110_1
            replace hx110_2 := (HB.out.cell (World.block_lt_of_cell? w _ hx110_2)).trans hx110_2
            have HR110_2 := Aside0.mk hi110_2
            have HC110_2 := Aside0.mk hl110_2
            clear hi110_2 hl110_2
            replace p110 := eq_true p110
            replace q110 := eq_true q110
            go_wp2_with (first | ((with_reducible refine gate_dst (N := 5) rfl ?_); refine box_event ?hg (N := 5) ?hd (cs := #[.int .i64 0, .int .i64 0, .slice none 0 0]) (t := 29) ?hr ?_; (case hd => rfl); (case hg => rfl); (case hr => first | (go_simp; done) | (go_simp; rfl)); intro gb111 hg w8 hbox hb; have n0_ := Aside0.mk (blk_below (g := gb109) (o := .cells #[.int .i64 a0_0, .int .i64 a0_1, .slice (some ad110) l0_2.length c0_2] 29 (0, 0)) (by (with_reducible repeat (first | refine blk_drewN ?_ _ | refine blk_drew ?_ | refine blk_alloc ?_ _)); exact BK109.out) hb); have n1_ := Aside0.mk (below_step (by repeat (first | (with_reducible first | exact HB.out | apply below_alloc | apply pw_below_drewN | apply below_drew1 | refine below_set ?_ GE109.out) | exact HB.out)) hb); have n2_ := Aside0.mk (hbox); have n3_ := Aside0.mk ((by rw [hg]; exact (below_size (by repeat (first | (with_reducible first | exact HB.out | apply below_alloc | apply pw_below_drewN | apply below_drew1 | refine below_set ?_ GE109.out) | exact HB.out))) : w.heap.size ≤ gb111)); have n4_ := Aside0.mk ((by rw [hg]; exact (below_size (by repeat (first | (with_reducible first | exact HB.out | apply below_alloc | apply pw_below_drewN | apply below_drew1 | refine below_set ?_ GE109.out) | exact HB.out))) : w.heap.size ≤ gb111)); have n5_ := Aside0.mk ((by rw [hg]; exact Nat.ne_of_lt (blk_lt (g := gb109) (o := .cells #[.int .i64 a0_0, .int .i64 a0_1, .slice (some ad110) l0_2.length c0_2] 29 (0, 0)) (by (with_reducible repeat (first | refine blk_drewN ?_ _ | refine blk_drew ?_ | refine blk_alloc ?_ _)); exact BK109.out)) : gb109 ≠ gb111)); have n6_ := Aside0.mk ((by rw [hg]; exact Nat.ne_of_gt (blk_lt (g := gb109) (o := .cells #[.int .i64 a0_0, .int .i64 a0_1, .slice (some ad110) l0_2.length c0_2] 29 (0, 0)) (by (with_reducible repeat (first | refine blk_drewN ?_ _ | refine blk_drew ?_ | refine blk_alloc ?_ _)); exact BK109.out)) : gb111 ≠ gb109)); clear BK109; clear HB; have BK109 := n0_; have HB := n1_; have BK111 := n2_; have GW111 := n3_; have GE111 := n4_; have NB109_111 := n5_; have NB111_109 := n6_; clear n0_ n1_ n2_ n3_ n4_ n5_ n6_; clear hb hbox hg; have hnb9 := NB111_109.out; have hnc9 := NB109_111.out; have hcz10_0 : w8.cell? ⟨gb111, 0, none⟩ = some (.int .i64 0) := (blk_cell BK111.out 0).trans rfl; have hcz10_1 : w8.cell? ⟨gb111, 1, none⟩ = some (.int .i64 0) := (blk_cell BK111.out 1).trans rfl; have hcz10_2 : w8.cell? ⟨gb111, 2, none⟩ = some (.slice none 0 0) := (blk_cell BK111.out 2).trans rfl; have hfz10_0 := blk_frozen BK111.out 0; have hfz10_1 := blk_frozen BK111.out 1; have hfz10_2 := blk_frozen BK111.out 2) | ((with_reducible refine gate_callee (f := 15) rfl ?_); refine goesL_ (some 15) rfl rfl Try.func15 (by kernel_rfl) rfl #[.agg #[.int .i64 ((rd_T29 l0_2 x9_1).f0), .int .i64 ((rd_T29 l0_2 x9_1).f1), .slice A110_2 ((rd_T29 l0_2 x9_1).f2).length c110_2]] rfl (by (try simp only [List.map_toArray, List.map_cons, List.map_nil]); first | done | rfl | (simp only [List.length_drop, List.length_take]; rfl)) ?_; (with_reducible refine (ih k1 (by have := HK1.out; omega) ((rd_T29 l0_2 x9_1).f0) ((rd_T29 l0_2 x9_1).f1) _ _ ((rd_T29 l0_2 x9_1).f2) t112 _ ?side1 ?side2 A7.out).mono ?_); (case side1 => exact Kd.C_below HR110_2.out (by repeat (first | (with_reducible first | exact HB.out | apply below_alloc | apply pw_below_drewN | apply below_drew1 | refine below_set ?_ GE109.out | refine below_set ?_ GE111.out) | exact HB.out))); (case side2 => exact HC110_2.out); rintro e w11 ⟨rfl, hb⟩; refine ⟨_, rfl, ?_⟩; have n0_ := Aside0.mk (blk_below (g := gb109) (o := .cells #[.int .i64 a0_0, .int .i64 a0_1, .slice (some ad110) l0_2.length c0_2] 29 (0, 0)) (by (with_reducible repeat (first | refine blk_drewN ?_ _ | refine blk_drew ?_ | refine blk_alloc ?_ _)); refine blk_far ?_ NB109_111.out _; (with_reducible repeat (first | refine blk_drewN ?_ _ | refine blk_drew ?_ | refine blk_alloc ?_ _)); refine blk_far ?_ NB109_111.out _; (with_reducible repeat (first | refine blk_drewN ?_ _ | refine blk_drew ?_ | refine blk_alloc ?_ _)); refine blk_far ?_ NB109_111.out _; (with_reducible repeat (first | refine blk_drewN ?_ _ | refine blk_drew ?_ | refine blk_alloc ?_ _)); exact BK109.out) hb); have n1_ := Aside0.mk (blk_below (g := gb111) (o := .cells #[.int .i64 ((rd_T29 l0_2 x9_1).f0), .int .i64 ((rd_T29 l0_2 x9_1).f1), .slice A110_2 ((rd_T29 l0_2 x9_1).f2).length c110_2] 29 (0, 0)) (by (with_reducible repeat (first | refine blk_drewN ?_ _ | refine blk_drew ?_ | refine blk_alloc ?_ _)); refine blk_put (cs := #[.int .i64 ((rd_T29 l0_2 x9_1).f0), .int .i64 ((rd_T29 l0_2 x9_1).f1), .slice none 0 0]) ?_ 2 _ rfl; (with_reducible repeat (first | refine blk_drewN ?_ _ | refine blk_drew ?_ | refine blk_alloc ?_ _)); refine blk_put (cs := #[.int .i64 ((rd_T29 l0_2 x9_1).f0), .int .i64 0, .slice none 0 0]) ?_ 1 _ rfl; (with_reducible repeat (first | refine blk_drewN ?_ _ | refine blk_drew ?_ | refine blk_alloc ?_ _)); refine blk_put (cs := #[.int .i64 0, .int .i64 0, .slice none 0 0]) ?_ 0 _ rfl; (with_reducible repeat (first | refine blk_drewN ?_ _ | refine blk_drew ?_ | refine blk_alloc ?_ _)); exact BK111.out) hb); have n2_ := Aside0.mk (below_step (by repeat (first | (with_reducible first | exact HB.out | apply below_alloc | apply pw_below_drewN | apply below_drew1 | refine below_set ?_ GE109.out | refine below_set ?_ GE111.out) | exact HB.out)) hb); clear BK109; clear BK111; clear HB; have BK109 := n0_; have BK111 := n1_; have HB := n2_; clear n0_ n1_ n2_; (try clear hb); (try clear hb2); (try clear hk); (try clear hi)))
            go_roundg k1
            case measure => have := HK1.out; omega
            case rel => exact ⟨(wrap64 (x3_1 + t112)), (wrap64 (x9_1 + 1)), (by first | rfl | (simp; done) | (simp [*]; done)), (by first | rfl | (simp; done) | (simp [*]; done)), H', ⟨by have := HK1.out; omega⟩, ⟨by (with_reducible repeat (first | refine blk_drewN ?_ _ | refine blk_drew ?_ | refine blk_alloc ?_ _)); exact BK109.out⟩, ⟨by repeat (first | (with_reducible first | exact HB.out | apply below_alloc | apply pw_below_drewN | apply below_drew1 | refine below_set ?_ GE109.out | refine below_set ?_ GE111.out) | exact HB.out)⟩⟩
          · rw [if_neg c6] at H
            exact absurd H (by simp)
        · rw [if_neg c5] at H
          exact absurd H (by simp)
      · rw [if_neg c4] at H
        have c4b0 : decide (x9_1 < (l0_2.length : Int)) = false := decide_eq_false c4
        clear c4
        obtain rfl := Option.some.inj H
        go_wp2
        go_ret
        exact ⟨by first | rfl | (simp [errW_none, errW_some] <;> rfl) | (simp [*, errW_none, errW_some] <;> rfl), by repeat (first | (with_reducible first | exact HB.out | apply below_alloc | apply pw_below_drewN | apply below_drew1 | refine below_set ?_ GE109.out) | exact HB.out)⟩

end Go.Proofs.Ytjnobnmjhpmpfaa.P

namespace Go.Proofs.Ytjnobnmjhpmpfaa.P
open Go.RowKit Go.Proofs.YtjnobnmjhpmpfaaW.PrintWords Go.Proofs.YtjnobnmjhpmpfaaW.PrintLast Go.Proofs.YtjnobnmjhpmpfaaW.PrintMore
attribute [local go_sem] max2_int min2_int max_two min_two max_three min_three max_four min_four
set_option linter.unusedVariables false
set_option linter.unusedSimpArgs false

/-! ### impl_Gate_100: function 100 (by hand) -/
/-- slices.IndexFunc over gates: the place of the first element of which the closure says yes, or -1. -/
def idxG.l0 : Nat → (S29 → Option Bool) → List S29 → Int → Option Int
  | 0, _, _, _ => none
  | k + 1, p, xs, i => if i < (xs.length : Int) then (if 0 ≤ i then ((p (rd_T29 xs i)).bind fun t => if t = true then (some i) else (idxG.l0 k p xs (wrap64 (i + 1)))) else none) else some (-1)
set_option maxHeartbeats 8000000 in
set_option maxRecDepth 100000 in
theorem idxG.calls (k : Nat) (p : S29 → Option Bool) (g : Nat) (lb : Array Value) (eg : ∀ args w, (callFunc g args).run Try.prog w = .ok (.enter g args) w) (A0 : Option Addr) (c0 : Nat) (l0 : List S29) (r : Int) (w : World)
    (hr0 : Kd.C k29 w A0 l0.length l0)
    (hp : ∀ (W : World) (x : S29) (A : Option Addr) (c : Nat) (b : Bool), p x = some b → Below w.heap.size w W → Kd.C k29 W A x.f2.length x.f2 → x.f2.length ≤ c → Calls Try.prog g (#[.agg #[.int .i64 x.f0, .int .i64 x.f1, .slice A x.f2.length c]] ++ lb) W fun e w' => e = .returned (.bool b) ∧ Below w.heap.size w w')
    (h : idxG.l0 k p l0 0 = some r) :
    Calls Try.prog 100 #[.slice A0 l0.length c0, .func (.func g) #[] lb] w fun e w' => e = .returned (.int .i64 r) ∧ Below w.heap.size w w' := by
  have HR0 := Aside0.mk hr0
  clear hr0
  have HP := Aside0.mk hp
  clear hp
  have HB := Aside0.mk (Below.refl w.heap.size w)
  have H' := Aside0.mk h
  clear h
  have hum := Try.underlying29
  go_enter Try.func100, Try.ntmps100
  go_wp2
  go_loopg [5, 8] k (fun kq _ v8 w' => ∃ (x8 : Int), v8 = .int .i64 x8 ∧ Aside0 (idxG.l0 kq p l0 x8 = some r) ∧ Aside0 (kq ≤ k) ∧ Aside0 (Below w.heap.size w w'))
  case atStart => exact ⟨0, rfl, H', ⟨Nat.le_refl _⟩, HB⟩
  case round =>
    clear H' HB
    obtain ⟨x8, rfl, HA, HK1, HB⟩ := hrel
    cases gk with
    | zero => exact absurd HA.out (by simp [idxG.l0])
    | succ k1 =>
      have H := HA.out
      clear HA
      simp only [idxG.l0] at H
      by_cases c6 : x8 < (l0.length : Int)
      · rw [if_pos c6] at H
        have c6b0 : decide (x8 < (l0.length : Int)) = true := decide_eq_true c6
        clear c6
        by_cases c7 : 0 ≤ x8
        · rw [if_pos c7] at H
          have c7b0 : decide (0 ≤ x8) = true := decide_eq_true c7
          clear c7
          replace H := Option.bind_eq_some_iff.mp H
          obtain ⟨t, At, H⟩ := H
          have A3 := Aside0.mk At
          clear At
          have p104 : 0 ≤ (x8 : Int) := of_decide_eq_true (by assumption)
          have q104 : x8 < (l0.length : Int) := of_decide_eq_true (by assumption)
          obtain ⟨ad104, Ae, ce, e104, hx104_0, hx104_1, hx104_2, hle, hre⟩ := at_T29 HR0.out x8 p104 q104
          cases e104
          have HE := Aside0.mk (Kd.C_below hre HB.out)
          have HL := Aside0.mk hle
          clear hre hle
          replace hx104_0 := (HB.out.cell (World.block_lt_of_cell? w _ hx104_0)).trans hx104_0
          replace hx104_1 := (HB.out.cell (World.block_lt_of_cell? w _ hx104_1)).trans hx104_1
          replace hx104_2 := (HB.out.cell (World.block_lt_of_cell? w _ hx104_2)).trans hx104_2
          replace p104 := eq_true p104
          replace q104 := eq_true q104
          cases t with
          | true =>
            rw [if_pos rfl] at H
            obtain rfl := Option.some.inj H
            go_wp2_with (go_at_fn g; refine (HP.out _ _ _ _ _ A3.out HB.out HE.out HL.out).mono ?_; rintro e w' ⟨rfl, hb'⟩)
            go_ret
            exact ⟨rfl, hb'⟩
          | false =>
            rw [if_neg (by decide)] at H
            have H' := Aside0.mk H
            clear H
            go_wp2_with (go_at_fn g; refine (HP.out _ _ _ _ _ A3.out HB.out HE.out HL.out).mono ?_; rintro e w' ⟨rfl, hb'⟩)
            go_roundg k1
            case measure => have := HK1.out; omega
            case rel => exact ⟨_, rfl, H', ⟨by have := HK1.out; omega⟩, ⟨hb'⟩⟩
        · rw [if_neg c7] at H
          exact absurd H (by simp)
      · rw [if_neg c6] at H
        have c6b0 : decide (x8 < (l0.length : Int)) = false := decide_eq_false c6
        clear c6
        obtain rfl := Option.some.inj H
        go_wp2
        go_ret
        exact ⟨rfl, HB.out⟩
theorem idxG.mono_l : ∀ k p xs i, LeO (idxG.l0 k p xs i) (idxG.l0 (k + 1) p xs i)
  | 0, _, _, _ => fun r h => by simp [idxG.l0] at h
  | k + 1, p, xs, i => by
    have ih := idxG.mono_l k
    unfold idxG.l0
    refine LeO.ite (LeO.ite (LeO.bind (LeO.refl _) (fun t => LeO.ite (LeO.refl _) (ih _ _ _))) (LeO.refl _)) (LeO.refl _)
theorem idxG.mono_p : ∀ k p p' xs i, (∀ x, LeO (p x) (p' x)) → LeO (idxG.l0 k p xs i) (idxG.l0 k p' xs i)
  | 0, _, _, _, _, _ => fun r h => by simp [idxG.l0] at h
  | k + 1, p, p', xs, i, hp => by
    have ih := idxG.mono_p k p p'
    unfold idxG.l0
    refine LeO.ite (LeO.ite (LeO.bind (hp _) (fun t => LeO.ite (LeO.refl _) (ih _ _ hp))) (LeO.refl _)) (LeO.refl _)

end Go.Proofs.Ytjnobnmjhpmpfaa.P

namespace Go.Proofs.Ytjnobnmjhpmpfaa.P
open Go.RowKit Go.Proofs.YtjnobnmjhpmpfaaW.PrintWords Go.Proofs.YtjnobnmjhpmpfaaW.PrintLast Go.Proofs.YtjnobnmjhpmpfaaW.PrintMore
attribute [local go_sem] max2_int min2_int max_two min_two max_three min_three max_four min_four
set_option linter.unusedVariables false
set_option linter.unusedSimpArgs false

/-! ### impl_Gate_87: function 87 (by hand) -/
def hasG.f (k : Nat) (p : S29 → Option Bool) (xs : List S29) : Option Bool := (idxG.l0 k p xs 0).bind fun i => some (decide (0 ≤ i))
set_option maxHeartbeats 8000000 in
set_option maxRecDepth 100000 in
theorem hasG.calls (k : Nat) (p : S29 → Option Bool) (g : Nat) (lb : Array Value) (eg : ∀ args w, (callFunc g args).run Try.prog w = .ok (.enter g args) w) (A0 : Option Addr) (c0 : Nat) (l0 : List S29) (r : Bool) (w : World)
    (hr0 : Kd.C k29 w A0 l0.length l0)
    (hp : ∀ (W : World) (x : S29) (A : Option Addr) (c : Nat) (b : Bool), p x = some b → Below w.heap.size w W → Kd.C k29 W A x.f2.length x.f2 → x.f2.length ≤ c → Calls Try.prog g (#[.agg #[.int .i64 x.f0, .int .i64 x.f1, .slice A x.f2.length c]] ++ lb) W fun e w' => e = .returned (.bool b) ∧ Below w.heap.size w w')
    (h : hasG.f k p l0 = some r) :
    Calls Try.prog 87 #[.slice A0 l0.length c0, .func (.func g) #[] lb] w fun e w' => e = .returned (.bool r) ∧ Below w.heap.size w w' := by
  have H := h
  unfold hasG.f at H
  replace H := Option.bind_eq_some_iff.mp H
  obtain ⟨i, Ai, H⟩ := H
  obtain rfl := Option.some.inj H
  have A3 := Aside0.mk Ai
  clear Ai h H
  have HP := Aside0.mk hp
  clear hp
  have HR0 := Aside0.mk hr0
  clear hr0
  go_enter Try.func87, Try.ntmps87
  go_wp2_with (first | ((with_reducible refine gate_callee (f := 100) rfl ?_); refine goesL_ (some 7) rfl rfl Try.func100 (by kernel_rfl) rfl #[.slice A0 l0.length c0, .func (.func g) #[] lb] rfl (by (try simp only [List.map_toArray, List.map_cons, List.map_nil]); first | done | rfl) ?_; (with_reducible refine (idxG.calls k p g lb eg _ _ l0 i _ ?side1 ?side2 A3.out).mono ?_); (case side1 => exact HR0.out); (case side2 => exact HP.out); rintro e w' ⟨rfl, hb⟩; refine ⟨_, rfl, ?_⟩))
  go_ret
  exact ⟨rfl, hb⟩
theorem hasG.mono : ∀ p xs k, LeO (hasG.f k p xs) (hasG.f (k + 1) p xs) := fun p xs k => by
  unfold hasG.f
  exact LeO.bind (idxG.mono_l _ _ _ _) (fun _ => LeO.refl _)

end Go.Proofs.Ytjnobnmjhpmpfaa.P

namespace Go.Proofs.Ytjnobnmjhpmpfaa.P
open Go.RowKit Go.Proofs.YtjnobnmjhpmpfaaW.PrintWords Go.Proofs.YtjnobnmjhpmpfaaW.PrintLast Go.Proofs.YtjnobnmjhpmpfaaW.PrintMore
attribute [local go_sem] max2_int min2_int max_two min_two max_three min_three max_four min_four
set_option linter.unusedVariables false
set_option linter.unusedSimpArgs false

theorem blk_new_at {W : World} {o : Obj} {g : Nat} (h : g = W.heap.size) : (W.alloc o).heap[g]? = some o := by rw [h]; exact blk_new W o
theorem calls_as {P : Program} {f : Nat} {us vs : Array Value} {w : World} {Q : Ending → World → Prop} (e : us = vs) (h : Calls P f us w Q) : Calls P f vs w Q := e ▸ h
end Go.Proofs.Ytjnobnmjhpmpfaa.P

namespace Go.Proofs.Ytjnobnmjhpmpfaa.P
open Go.RowKit Go.Proofs.YtjnobnmjhpmpfaaW.PrintWords Go.Proofs.YtjnobnmjhpmpfaaW.PrintLast Go.Proofs.YtjnobnmjhpmpfaaW.PrintMore
attribute [local go_sem] max2_int min2_int max_two min_two max_three min_three max_four min_four
set_option linter.unusedVariables false
set_option linter.unusedSimpArgs false

/-! ### impl_Gate_isFormed: function 51 (by hand) -/
def impl_Gate_isFormed.f : Nat → Int → Int → List S29 → Int → Int → Option Bool
  | 0, _, _, _, _, _ => none
  | k + 1, a, b, l, h, d => if d = 0 then some false else (if (l.length : Int) = 0 then ((impl_within.f a 0 (wrap64 (h - 1))).bind fun t => if t = true then some ((b : Int) == 0) else some false) else (if a = -1 then ((impl_within.f b 1 (l.length : Int)).bind fun u => if u = true then ((hasG.f k (fun x => (impl_Gate_isFormed.f k x.f0 x.f1 x.f2 h (wrap64 (d - 1))).bind fun t => some (!t)) l).bind fun v => some (!v)) else some false) else some false))
theorem idxG.mono_k (p p' : S29 → Option Bool) (hp : ∀ x, LeO (p x) (p' x)) : ∀ k xs, LeO (hasG.f k p xs) (hasG.f (k + 1) p' xs) := fun k xs => (hasG.mono p xs k).trans (LeO.bind (idxG.mono_p _ _ _ _ _ hp) (fun _ => LeO.refl _))
theorem impl_Gate_isFormed.mono_l : ∀ k a b l h d, LeO (impl_Gate_isFormed.f k a b l h d) (impl_Gate_isFormed.f (k + 1) a b l h d)
  | 0, _, _, _, _, _ => fun r h => by simp [impl_Gate_isFormed.f] at h
  | k + 1, a, b, l, h, d => by
    have ih := impl_Gate_isFormed.mono_l k
    unfold impl_Gate_isFormed.f
    exact LeO.ite (LeO.refl _) (LeO.ite (LeO.refl _) (LeO.ite (LeO.bind (LeO.refl _) (fun _ => LeO.ite (LeO.bind (idxG.mono_k _ _ (fun x => LeO.bind (ih _ _ _ _ _) (fun _ => LeO.refl _)) _ _) (fun _ => LeO.refl _)) (LeO.refl _))) (LeO.refl _)))
set_option maxHeartbeats 8000000 in
set_option maxRecDepth 100000 in
theorem isFormed_c.calls (k : Nat) (IH : ∀ (a0_0 : Int) (a0_1 : Int) (A0_2 : Option Addr) (c0_2 : Nat) (l0_2 : List S29) (a1 : Int) (a2 : Int) (r : Bool) (w : World) (hr0_2 : Kd.C k29 w A0_2 l0_2.length l0_2) (hc0_2 : l0_2.length ≤ c0_2) (h : impl_Gate_isFormed.f k a0_0 a0_1 l0_2 a1 a2 = some r), Calls Try.prog 51 #[.agg #[.int .i64 a0_0, .int .i64 a0_1, .slice A0_2 l0_2.length c0_2], .int .i64 a1, .int .i64 a2] w fun e w' => e = .returned (.bool r) ∧ Below w.heap.size w w') (h : Int) (d : Int) (B1 B2 : Nat) (x : S29) (A : Option Addr) (c : Nat) (b : Bool) (W : World) (hc1 : W.cell? ⟨B1, 0, none⟩ = some (.int .i64 h)) (hc2 : W.cell? ⟨B2, 0, none⟩ = some (.int .i64 d)) (hr : Kd.C k29 W A x.f2.length x.f2) (hc : x.f2.length ≤ c) (hh : ((impl_Gate_isFormed.f k x.f0 x.f1 x.f2 h (wrap64 (d - 1))).bind fun t => some (!t)) = some b) :
    Calls Try.prog 88 #[.agg #[.int .i64 x.f0, .int .i64 x.f1, .slice A x.f2.length c], .pointer (some ⟨B1, 0, none⟩), .pointer (some ⟨B2, 0, none⟩)] W fun e w' => e = .returned (.bool b) ∧ Below W.heap.size W w' := by
  have hum := Try.underlying29
  replace hh := Option.bind_eq_some_iff.mp hh
  obtain ⟨t, At, H⟩ := hh
  obtain rfl := Option.some.inj H
  have A3 := Aside0.mk At
  have HR := Aside0.mk hr
  have HC := Aside0.mk hc
  clear At H hr hc
  have z1 := ((below_alloc (Below.refl W.heap.size W) (.cells #[.int .i64 x.f0, .int .i64 x.f1, .slice A x.f2.length c] 29 (0, 0))).cell (World.block_lt_of_cell? W _ hc1)).trans hc1
  have z2 := ((below_alloc (Below.refl W.heap.size W) (.cells #[.int .i64 x.f0, .int .i64 x.f1, .slice A x.f2.length c] 29 (0, 0))).cell (World.block_lt_of_cell? W _ hc2)).trans hc2
  go_enter Try.func88, Try.ntmps88
  go_wp2_with (first | (go_at_call 51; (with_reducible refine (IH x.f0 x.f1 _ _ x.f2 h (wrap64 (d - 1)) t _ ?side1 ?side2 A3.out).mono ?_); (case side1 => exact (by repeat (first | exact HR.out | (with_reducible refine Kd.C_alloc ?_ _) | (with_reducible refine Kd.C_drewN ?_ _) | (with_reducible refine Kd.C_drew ?_)))); (case side2 => exact HC.out); rintro e w' ⟨rfl, hb⟩))
  go_ret
  exact ⟨rfl, below_step (by repeat (first | exact Below.refl _ _ | apply below_alloc | apply pw_below_drewN | apply below_drew1)) hb⟩
set_option maxHeartbeats 8000000 in
set_option maxRecDepth 100000 in
theorem impl_Gate_isFormed.calls (k : Nat) : ∀ (a0_0 : Int) (a0_1 : Int) (A0_2 : Option Addr) (c0_2 : Nat) (l0_2 : List S29) (a1 : Int) (a2 : Int) (r : Bool) (w : World) (hr0_2 : Kd.C k29 w A0_2 l0_2.length l0_2) (hc0_2 : l0_2.length ≤ c0_2) (h : impl_Gate_isFormed.f k a0_0 a0_1 l0_2 a1 a2 = some r),
    Calls Try.prog 51 #[.agg #[.int .i64 a0_0, .int .i64 a0_1, .slice A0_2 l0_2.length c0_2], .int .i64 a1, .int .i64 a2] w fun e w' => e = .returned (.bool r) ∧ Below w.heap.size w w' := by
  induction k with
  | zero => intro a0_0 a0_1 A0_2 c0_2 l0_2 a1 a2 r w hr0_2 hc0_2 h; exact absurd h (by simp [impl_Gate_isFormed.f])
  | succ k ih =>
  intro a0_0 a0_1 A0_2 c0_2 l0_2 a1 a2 r w hr0_2 hc0_2 h
  simp only [impl_Gate_isFormed.f] at h
  have IH := Aside0.mk ih
  clear ih
  have HR := Aside0.mk hr0_2
  have HC := Aside0.mk hc0_2
  clear hr0_2 hc0_2
  have hum := Try.underlying29
  have eg : ∀ (args : Array Value) (w : World), (callFunc 88 args).run Try.prog w = .ok (.enter 88 args) w := enters_of Try.func88 (by kernel_rfl) rfl
  by_cases c1 : a2 = 0
  · rw [if_pos c1] at h
    have c1b0 : ((a2 : Int) == 0) = true := beq_iff_eq.mpr c1
    have c1b1 : ((a2 : Int) != 0) = false := bne_eq_false_iff_eq.mpr c1
    clear c1
    obtain rfl := Option.some.inj h
    clear h
    go_enter Try.func51, Try.ntmps51
    go_wp2
    go_ret
    exact ⟨rfl, (by repeat (first | exact Below.refl _ _ | apply below_alloc | apply pw_below_drewN | apply below_drew1))⟩
  · rw [if_neg c1] at h
    have c1b0 : ((a2 : Int) == 0) = false := beq_eq_false_iff_ne.mpr c1
    have c1b1 : ((a2 : Int) != 0) = true := bne_iff_ne.mpr c1
    clear c1
    by_cases c2 : (l0_2.length : Int) = 0
    · rw [if_pos c2] at h
      have c2b0 : (((l0_2.length : Int) : Int) == 0) = true := beq_iff_eq.mpr c2
      have c2b1 : (((l0_2.length : Int) : Int) != 0) = false := bne_eq_false_iff_eq.mpr c2
      have A0 : Aside0 (impl_Gate_isLeaf.f a0_0 a0_1 l0_2 = some true) := ⟨by unfold impl_Gate_isLeaf.f; rw [c2b0]⟩
      clear c2 c2b0 c2b1
      replace h := Option.bind_eq_some_iff.mp h
      obtain ⟨t, At, h⟩ := h
      have A1 := Aside0.mk At
      clear At
      cases t with
      | true =>
        rw [if_pos rfl] at h
        obtain rfl := Option.some.inj h
        clear h
        go_enter Try.func51, Try.ntmps51
        go_wp2_with (first | (go_at_call 86; (with_reducible refine (impl_Gate_isLeaf.calls a0_0 a0_1 _ _ l0_2 _ _ ?side1 ?side2 A0.out).mono ?_); (case side1 => exact (by repeat (first | exact HR.out | (with_reducible refine Kd.C_alloc ?_ _) | (with_reducible refine Kd.C_drewN ?_ _) | (with_reducible refine Kd.C_drew ?_)))); (case side2 => exact HC.out); rintro e w1 ⟨rfl, hb⟩; have n1_ := Aside0.mk (blk_below (g := w.heap.size) (o := .cells #[.int .i64 a0_0, .int .i64 a0_1, .slice A0_2 l0_2.length c0_2] 29 (0, 0)) (by repeat (first | exact blk_new_at (by simp) | (with_reducible refine blk_drewN ?_ _) | (with_reducible refine blk_drew ?_) | (with_reducible refine blk_alloc ?_ _))) hb); have n2_ := Aside0.mk (blk_below (g := w.heap.size + 1) (o := .cells #[.int .i64 a1] 2 (0, 0)) (by repeat (first | exact blk_new_at (by simp) | (with_reducible refine blk_drewN ?_ _) | (with_reducible refine blk_drew ?_) | (with_reducible refine blk_alloc ?_ _))) hb); have n3_ := Aside0.mk (blk_below (g := w.heap.size + 2) (o := .cells #[.int .i64 a2] 3 (0, 0)) (by repeat (first | exact blk_new_at (by simp) | (with_reducible refine blk_drewN ?_ _) | (with_reducible refine blk_drew ?_) | (with_reducible refine blk_alloc ?_ _))) hb); have n9_ : Aside0 (Below w.heap.size w w1) := Aside0.mk (below_step (by repeat (first | exact Below.refl _ _ | apply below_alloc | apply pw_below_drewN | apply below_drew1)) hb); clear hb; have hl1 : w.heap.size + 2 < w1.heap.size := blk_lt n3_.out; have hx0 : w1.cell? ⟨w.heap.size, 0, none⟩ = some (.int .i64 a0_0) := (blk_cell n1_.out 0).trans rfl; have hx1 : w1.cell? ⟨w.heap.size, 1, none⟩ = some (.int .i64 a0_1) := (blk_cell n1_.out 1).trans rfl; have hx2 : w1.cell? ⟨w.heap.size, 2, none⟩ = some (.slice A0_2 l0_2.length c0_2) := (blk_cell n1_.out 2).trans rfl; have hy0 : w1.cell? ⟨w.heap.size + 1, 0, none⟩ = some (.int .i64 a1) := (blk_cell n2_.out 0).trans rfl; have hz0 : w1.cell? ⟨w.heap.size + 2, 0, none⟩ = some (.int .i64 a2) := (blk_cell n3_.out 0).trans rfl) | (go_at_call 50; (with_reducible refine (impl_within.calls a0_0 0 (wrap64 (a1 - 1)) true _ A1.out).mono ?_); rintro e w' ⟨rfl, ⟨nd, rfl⟩⟩))
        go_ret
        exact ⟨(by first | rfl | (simp; done) | (simp [*]; done)), (by repeat (first | exact n9_.out | apply below_alloc | apply pw_below_drewN | apply below_drew1))⟩
      | false =>
        rw [if_neg (by decide)] at h
        obtain rfl := Option.some.inj h
        clear h
        go_enter Try.func51, Try.ntmps51
        go_wp2_with (first | (go_at_call 86; (with_reducible refine (impl_Gate_isLeaf.calls a0_0 a0_1 _ _ l0_2 _ _ ?side1 ?side2 A0.out).mono ?_); (case side1 => exact (by repeat (first | exact HR.out | (with_reducible refine Kd.C_alloc ?_ _) | (with_reducible refine Kd.C_drewN ?_ _) | (with_reducible refine Kd.C_drew ?_)))); (case side2 => exact HC.out); rintro e w1 ⟨rfl, hb⟩; have n1_ := Aside0.mk (blk_below (g := w.heap.size) (o := .cells #[.int .i64 a0_0, .int .i64 a0_1, .slice A0_2 l0_2.length c0_2] 29 (0, 0)) (by repeat (first | exact blk_new_at (by simp) | (with_reducible refine blk_drewN ?_ _) | (with_reducible refine blk_drew ?_) | (with_reducible refine blk_alloc ?_ _))) hb); have n2_ := Aside0.mk (blk_below (g := w.heap.size + 1) (o := .cells #[.int .i64 a1] 2 (0, 0)) (by repeat (first | exact blk_new_at (by simp) | (with_reducible refine blk_drewN ?_ _) | (with_reducible refine blk_drew ?_) | (with_reducible refine blk_alloc ?_ _))) hb); have n3_ := Aside0.mk (blk_below (g := w.heap.size + 2) (o := .cells #[.int .i64 a2] 3 (0, 0)) (by repeat (first | exact blk_new_at (by simp) | (with_reducible refine blk_drewN ?_ _) | (with_reducible refine blk_drew ?_) | (with_reducible refine blk_alloc ?_ _))) hb); have n9_ : Aside0 (Below w.heap.size w w1) := Aside0.mk (below_step (by repeat (first | exact Below.refl _ _ | apply below_alloc | apply pw_below_drewN | apply below_drew1)) hb); clear hb; have hl1 : w.heap.size + 2 < w1.heap.size := blk_lt n3_.out; have hx0 : w1.cell? ⟨w.heap.size, 0, none⟩ = some (.int .i64 a0_0) := (blk_cell n1_.out 0).trans rfl; have hx1 : w1.cell? ⟨w.heap.size, 1, none⟩ = some (.int .i64 a0_1) := (blk_cell n1_.out 1).trans rfl; have hx2 : w1.cell? ⟨w.heap.size, 2, none⟩ = some (.slice A0_2 l0_2.length c0_2) := (blk_cell n1_.out 2).trans rfl; have hy0 : w1.cell? ⟨w.heap.size + 1, 0, none⟩ = some (.int .i64 a1) := (blk_cell n2_.out 0).trans rfl; have hz0 : w1.cell? ⟨w.heap.size + 2, 0, none⟩ = some (.int .i64 a2) := (blk_cell n3_.out 0).trans rfl) | (go_at_call 50; (with_reducible refine (impl_within.calls a0_0 0 (wrap64 (a1 - 1)) false _ A1.out).mono ?_); rintro e w' ⟨rfl, ⟨nd, rfl⟩⟩))
        go_ret
        exact ⟨(by first | rfl | (simp; done) | (simp [*]; done)), (by repeat (first | exact n9_.out | apply below_alloc | apply pw_below_drewN | apply below_drew1))⟩
    · rw [if_neg c2] at h
      have c2b0 : (((l0_2.length : Int) : Int) == 0) = false := beq_eq_false_iff_ne.mpr c2
      have c2b1 : (((l0_2.length : Int) : Int) != 0) = true := bne_iff_ne.mpr c2
      have A0 : Aside0 (impl_Gate_isLeaf.f a0_0 a0_1 l0_2 = some false) := ⟨by unfold impl_Gate_isLeaf.f; rw [c2b0]⟩
      clear c2 c2b0 c2b1
      by_cases c3 : a0_0 = -1
      · rw [if_pos c3] at h
        have c3b0 : ((a0_0 : Int) == -1) = true := beq_iff_eq.mpr c3
        have c3b1 : ((a0_0 : Int) != -1) = false := bne_eq_false_iff_eq.mpr c3
        clear c3
        replace h := Option.bind_eq_some_iff.mp h
        obtain ⟨u, Au, h⟩ := h
        have A1 := Aside0.mk Au
        clear Au
        cases u with
        | true =>
          rw [if_pos rfl] at h
          replace h := Option.bind_eq_some_iff.mp h
          obtain ⟨v, Av, h⟩ := h
          have A2 := Aside0.mk Av
          clear Av
          obtain rfl := Option.some.inj h
          clear h
          go_enter Try.func51, Try.ntmps51
          go_wp2_with (first | (go_at_call 86; (with_reducible refine (impl_Gate_isLeaf.calls a0_0 a0_1 _ _ l0_2 _ _ ?side1 ?side2 A0.out).mono ?_); (case side1 => exact (by repeat (first | exact HR.out | (with_reducible refine Kd.C_alloc ?_ _) | (with_reducible refine Kd.C_drewN ?_ _) | (with_reducible refine Kd.C_drew ?_)))); (case side2 => exact HC.out); rintro e w1 ⟨rfl, hb⟩; have n1_ := Aside0.mk (blk_below (g := w.heap.size) (o := .cells #[.int .i64 a0_0, .int .i64 a0_1, .slice A0_2 l0_2.length c0_2] 29 (0, 0)) (by repeat (first | exact blk_new_at (by simp) | (with_reducible refine blk_drewN ?_ _) | (with_reducible refine blk_drew ?_) | (with_reducible refine blk_alloc ?_ _))) hb); have n2_ := Aside0.mk (blk_below (g := w.heap.size + 1) (o := .cells #[.int .i64 a1] 2 (0, 0)) (by repeat (first | exact blk_new_at (by simp) | (with_reducible refine blk_drewN ?_ _) | (with_reducible refine blk_drew ?_) | (with_reducible refine blk_alloc ?_ _))) hb); have n3_ := Aside0.mk (blk_below (g := w.heap.size + 2) (o := .cells #[.int .i64 a2] 3 (0, 0)) (by repeat (first | exact blk_new_at (by simp) | (with_reducible refine blk_drewN ?_ _) | (with_reducible refine blk_drew ?_) | (with_reducible refine blk_alloc ?_ _))) hb); have n9_ : Aside0 (Below w.heap.size w w1) := Aside0.mk (below_step (by repeat (first | exact Below.refl _ _ | apply below_alloc | apply pw_below_drewN | apply below_drew1)) hb); clear hb; have hl1 : w.heap.size + 2 < w1.heap.size := blk_lt n3_.out; have hx0 : w1.cell? ⟨w.heap.size, 0, none⟩ = some (.int .i64 a0_0) := (blk_cell n1_.out 0).trans rfl; have hx1 : w1.cell? ⟨w.heap.size, 1, none⟩ = some (.int .i64 a0_1) := (blk_cell n1_.out 1).trans rfl; have hx2 : w1.cell? ⟨w.heap.size, 2, none⟩ = some (.slice A0_2 l0_2.length c0_2) := (blk_cell n1_.out 2).trans rfl; have hy0 : w1.cell? ⟨w.heap.size + 1, 0, none⟩ = some (.int .i64 a1) := (blk_cell n2_.out 0).trans rfl; have hz0 : w1.cell? ⟨w.heap.size + 2, 0, none⟩ = some (.int .i64 a2) := (blk_cell n3_.out 0).trans rfl) | (go_at_call 50; (with_reducible refine (impl_within.calls a0_1 1 (l0_2.length : Int) true _ A1.out).mono ?_); rintro e w' ⟨rfl, ⟨nd, rfl⟩⟩) | (go_at_call 87; (with_reducible refine (hasG.calls k (fun x => (impl_Gate_isFormed.f k x.f0 x.f1 x.f2 a1 (wrap64 (a2 - 1))).bind fun t => some (!t)) 88 #[.pointer (some ⟨w.heap.size + 1, 0, none⟩), .pointer (some ⟨w.heap.size + 2, 0, none⟩)] eg _ _ l0_2 v _ ?side1 ?side2 A2.out).mono ?_); (case side1 => exact Kd.C_below HR.out (by repeat (first | exact n9_.out | apply below_alloc | apply pw_below_drewN | apply below_drew1))); (case side2 => exact fun W x A c b hx hb hr hc => (isFormed_c.calls k IH.out a1 a2 (w.heap.size + 1) (w.heap.size + 2) x A c b W ((hb.cell (p := ⟨w.heap.size + 1, 0, none⟩) (by simp; omega)).trans ((by first | exact hy0 | simpa using hy0))) ((hb.cell (p := ⟨w.heap.size + 2, 0, none⟩) (by simp; omega)).trans ((by first | exact hz0 | simpa using hz0))) hr hc hx).mono (fun e w' ⟨he, hd⟩ => ⟨he, below_step hb hd⟩)); rintro e w2 ⟨rfl, hb⟩))
          go_ret
          exact ⟨rfl, below_step (by repeat (first | exact n9_.out | apply below_alloc | apply pw_below_drewN | apply below_drew1)) hb⟩
        | false =>
          rw [if_neg (by decide)] at h
          obtain rfl := Option.some.inj h
          clear h
          go_enter Try.func51, Try.ntmps51
          go_wp2_with (first | (go_at_call 86; (with_reducible refine (impl_Gate_isLeaf.calls a0_0 a0_1 _ _ l0_2 _ _ ?side1 ?side2 A0.out).mono ?_); (case side1 => exact (by repeat (first | exact HR.out | (with_reducible refine Kd.C_alloc ?_ _) | (with_reducible refine Kd.C_drewN ?_ _) | (with_reducible refine Kd.C_drew ?_)))); (case side2 => exact HC.out); rintro e w1 ⟨rfl, hb⟩; have n1_ := Aside0.mk (blk_below (g := w.heap.size) (o := .cells #[.int .i64 a0_0, .int .i64 a0_1, .slice A0_2 l0_2.length c0_2] 29 (0, 0)) (by repeat (first | exact blk_new_at (by simp) | (with_reducible refine blk_drewN ?_ _) | (with_reducible refine blk_drew ?_) | (with_reducible refine blk_alloc ?_ _))) hb); have n2_ := Aside0.mk (blk_below (g := w.heap.size + 1) (o := .cells #[.int .i64 a1] 2 (0, 0)) (by repeat (first | exact blk_new_at (by simp) | (with_reducible refine blk_drewN ?_ _) | (with_reducible refine blk_drew ?_) | (with_reducible refine blk_alloc ?_ _))) hb); have n3_ := Aside0.mk (blk_below (g := w.heap.size + 2) (o := .cells #[.int .i64 a2] 3 (0, 0)) (by repeat (first | exact blk_new_at (by simp) | (with_reducible refine blk_drewN ?_ _) | (with_reducible refine blk_drew ?_) | (with_reducible refine blk_alloc ?_ _))) hb); have n9_ : Aside0 (Below w.heap.size w w1) := Aside0.mk (below_step (by repeat (first | exact Below.refl _ _ | apply below_alloc | apply pw_below_drewN | apply below_drew1)) hb); clear hb; have hl1 : w.heap.size + 2 < w1.heap.size := blk_lt n3_.out; have hx0 : w1.cell? ⟨w.heap.size, 0, none⟩ = some (.int .i64 a0_0) := (blk_cell n1_.out 0).trans rfl; have hx1 : w1.cell? ⟨w.heap.size, 1, none⟩ = some (.int .i64 a0_1) := (blk_cell n1_.out 1).trans rfl; have hx2 : w1.cell? ⟨w.heap.size, 2, none⟩ = some (.slice A0_2 l0_2.length c0_2) := (blk_cell n1_.out 2).trans rfl; have hy0 : w1.cell? ⟨w.heap.size + 1, 0, none⟩ = some (.int .i64 a1) := (blk_cell n2_.out 0).trans rfl; have hz0 : w1.cell? ⟨w.heap.size + 2, 0, none⟩ = some (.int .i64 a2) := (blk_cell n3_.out 0).trans rfl) | (go_at_call 50; (with_reducible refine (impl_within.calls a0_1 1 (l0_2.length : Int) false _ A1.out).mono ?_); rintro e w' ⟨rfl, ⟨nd, rfl⟩⟩))
          go_ret
          exact ⟨(by first | rfl | (simp; done) | (simp [*]; done)), (by repeat (first | exact n9_.out | apply below_alloc | apply pw_below_drewN | apply below_drew1))⟩
      · rw [if_neg c3] at h
        have c3b0 : ((a0_0 : Int) == -1) = false := beq_eq_false_iff_ne.mpr c3
        have c3b1 : ((a0_0 : Int) != -1) = true := bne_iff_ne.mpr c3
        clear c3
        obtain rfl := Option.some.inj h
        clear h
        go_enter Try.func51, Try.ntmps51
        go_wp2_with (first | (go_at_call 86; (with_reducible refine (impl_Gate_isLeaf.calls a0_0 a0_1 _ _ l0_2 _ _ ?side1 ?side2 A0.out).mono ?_); (case side1 => exact (by repeat (first | exact HR.out | (with_reducible refine Kd.C_alloc ?_ _) | (with_reducible refine Kd.C_drewN ?_ _) | (with_reducible refine Kd.C_drew ?_)))); (case side2 => exact HC.out); rintro e w1 ⟨rfl, hb⟩; have n1_ := Aside0.mk (blk_below (g := w.heap.size) (o := .cells #[.int .i64 a0_0, .int .i64 a0_1, .slice A0_2 l0_2.length c0_2] 29 (0, 0)) (by repeat (first | exact blk_new_at (by simp) | (with_reducible refine blk_drewN ?_ _) | (with_reducible refine blk_drew ?_) | (with_reducible refine blk_alloc ?_ _))) hb); have n2_ := Aside0.mk (blk_below (g := w.heap.size + 1) (o := .cells #[.int .i64 a1] 2 (0, 0)) (by repeat (first | exact blk_new_at (by simp) | (with_reducible refine blk_drewN ?_ _) | (with_reducible refine blk_drew ?_) | (with_reducible refine blk_alloc ?_ _))) hb); have n3_ := Aside0.mk (blk_below (g := w.heap.size + 2) (o := .cells #[.int .i64 a2] 3 (0, 0)) (by repeat (first | exact blk_new_at (by simp) | (with_reducible refine blk_drewN ?_ _) | (with_reducible refine blk_drew ?_) | (with_reducible refine blk_alloc ?_ _))) hb); have n9_ : Aside0 (Below w.heap.size w w1) := Aside0.mk (below_step (by repeat (first | exact Below.refl _ _ | apply below_alloc | apply pw_below_drewN | apply below_drew1)) hb); clear hb; have hl1 : w.heap.size + 2 < w1.heap.size := blk_lt n3_.out; have hx0 : w1.cell? ⟨w.heap.size, 0, none⟩ = some (.int .i64 a0_0) := (blk_cell n1_.out 0).trans rfl; have hx1 : w1.cell? ⟨w.heap.size, 1, none⟩ = some (.int .i64 a0_1) := (blk_cell n1_.out 1).trans rfl; have hx2 : w1.cell? ⟨w.heap.size, 2, none⟩ = some (.slice A0_2 l0_2.length c0_2) := (blk_cell n1_.out 2).trans rfl; have hy0 : w1.cell? ⟨w.heap.size + 1, 0, none⟩ = some (.int .i64 a1) := (blk_cell n2_.out 0).trans rfl; have hz0 : w1.cell? ⟨w.heap.size + 2, 0, none⟩ = some (.int .i64 a2) := (blk_cell n3_.out 0).trans rfl))
        go_ret
        exact ⟨(by first | rfl | (simp; done) | (simp [*]; done)), (by repeat (first | exact n9_.out | apply below_alloc | apply pw_below_drewN | apply below_drew1))⟩

end Go.Proofs.Ytjnobnmjhpmpfaa.P

namespace Go.Proofs.Ytjnobnmjhpmpfaa.P
open Go.RowKit Go.Proofs.YtjnobnmjhpmpfaaW.PrintWords Go.Proofs.YtjnobnmjhpmpfaaW.PrintLast Go.Proofs.YtjnobnmjhpmpfaaW.PrintMore
attribute [local go_sem] max2_int min2_int max_two min_two max_three min_three max_four min_four
set_option linter.unusedVariables false
set_option linter.unusedSimpArgs false

/-! ### impl_ValidGate: function 20 (by hand) -/
def impl_ValidGate.f (k : Nat) (h : Int) (a : Int) (b : Int) (l : List S29) : Option Bool := (impl_within.f h 1 7).bind fun t => if t = true then ((impl_Gate_isFormed.f k a b l h 12).bind fun u => if u = true then ((impl_GateSize.f k a b l).bind fun v => some (decide (v ≤ 60))) else some false) else some false
set_option maxHeartbeats 8000000 in
set_option maxRecDepth 100000 in
theorem impl_ValidGate.calls (k : Nat) (a0 : Int) (a1_0 : Int) (a1_1 : Int) (A1_2 : Option Addr) (c1_2 : Nat) (l1_2 : List S29) (r : Bool) (w : World) (hr1_2 : Kd.C k29 w A1_2 l1_2.length l1_2) (hc1_2 : l1_2.length ≤ c1_2) (h : impl_ValidGate.f k a0 a1_0 a1_1 l1_2 = some r) :
    Calls Try.prog 20 #[.int .i64 a0, .agg #[.int .i64 a1_0, .int .i64 a1_1, .slice A1_2 l1_2.length c1_2]] w fun e w' => e = .returned (.bool r) ∧ Below w.heap.size w w' := by
  have HR := Aside0.mk hr1_2
  have HC := Aside0.mk hc1_2
  clear hr1_2 hc1_2
  have hum := Try.underlying29
  unfold impl_ValidGate.f at h
  replace h := Option.bind_eq_some_iff.mp h
  obtain ⟨t, At, h⟩ := h
  have A1 := Aside0.mk At
  clear At
  cases t with
  | false =>
    rw [if_neg (by decide)] at h
    obtain rfl := Option.some.inj h
    clear h
    go_enter Try.func20, Try.ntmps20
    go_wp2_with (first | (go_at_call 50; (with_reducible refine (impl_within.calls a0 1 7 false _ A1.out).mono ?_); rintro e w' ⟨rfl, ⟨nd, rfl⟩⟩))
    go_ret
    exact ⟨rfl, (by repeat (first | exact Below.refl _ _ | apply below_alloc | apply pw_below_drewN | apply below_drew1))⟩
  | true =>
    rw [if_pos rfl] at h
    replace h := Option.bind_eq_some_iff.mp h
    obtain ⟨u, Au, h⟩ := h
    have A2 := Aside0.mk Au
    clear Au
    cases u with
    | false =>
      rw [if_neg (by decide)] at h
      obtain rfl := Option.some.inj h
      clear h
      go_enter Try.func20, Try.ntmps20
      go_wp2_with (first | (go_at_call 50; (with_reducible refine (impl_within.calls a0 1 7 true _ A1.out).mono ?_); rintro e w' ⟨rfl, ⟨nd, rfl⟩⟩) | (go_at_call 51; (with_reducible refine (impl_Gate_isFormed.calls k a1_0 a1_1 _ _ l1_2 a0 12 false _ ?side1 ?side2 A2.out).mono ?_); (case side1 => exact (by repeat (first | exact HR.out | (with_reducible refine Kd.C_alloc ?_ _) | (with_reducible refine Kd.C_drewN ?_ _) | (with_reducible refine Kd.C_drew ?_)))); (case side2 => exact HC.out); rintro e w1 ⟨rfl, hb⟩; have n1_ := Aside0.mk (blk_below (g := w.heap.size) (o := .cells #[.int .i64 a1_0, .int .i64 a1_1, .slice A1_2 l1_2.length c1_2] 29 (0, 0)) (by repeat (first | exact blk_new_at (by simp) | (with_reducible refine blk_drewN ?_ _) | (with_reducible refine blk_drew ?_) | (with_reducible refine blk_alloc ?_ _))) hb); have n9_ : Aside0 (Below w.heap.size w w1) := Aside0.mk (below_step (by repeat (first | exact Below.refl _ _ | apply below_alloc | apply pw_below_drewN | apply below_drew1)) hb); clear hb; have hx0 : w1.cell? ⟨w.heap.size, 0, none⟩ = some (.int .i64 a1_0) := (blk_cell n1_.out 0).trans rfl; have hx1 : w1.cell? ⟨w.heap.size, 1, none⟩ = some (.int .i64 a1_1) := (blk_cell n1_.out 1).trans rfl; have hx2 : w1.cell? ⟨w.heap.size, 2, none⟩ = some (.slice A1_2 l1_2.length c1_2) := (blk_cell n1_.out 2).trans rfl))
      go_ret
      exact ⟨(by first | rfl | (simp; done) | (simp [*]; done)), (by repeat (first | exact n9_.out | apply below_alloc | apply pw_below_drewN | apply below_drew1))⟩
    | true =>
      rw [if_pos rfl] at h
      replace h := Option.bind_eq_some_iff.mp h
      obtain ⟨v, Av, h⟩ := h
      have A3 := Aside0.mk Av
      clear Av
      obtain rfl := Option.some.inj h
      clear h
      go_enter Try.func20, Try.ntmps20
      go_wp2_with (first | (go_at_call 50; (with_reducible refine (impl_within.calls a0 1 7 true _ A1.out).mono ?_); rintro e w' ⟨rfl, ⟨nd, rfl⟩⟩) | (go_at_call 51; (with_reducible refine (impl_Gate_isFormed.calls k a1_0 a1_1 _ _ l1_2 a0 12 true _ ?side1 ?side2 A2.out).mono ?_); (case side1 => exact (by repeat (first | exact HR.out | (with_reducible refine Kd.C_alloc ?_ _) | (with_reducible refine Kd.C_drewN ?_ _) | (with_reducible refine Kd.C_drew ?_)))); (case side2 => exact HC.out); rintro e w1 ⟨rfl, hb⟩; have n1_ := Aside0.mk (blk_below (g := w.heap.size) (o := .cells #[.int .i64 a1_0, .int .i64 a1_1, .slice A1_2 l1_2.length c1_2] 29 (0, 0)) (by repeat (first | exact blk_new_at (by simp) | (with_reducible refine blk_drewN ?_ _) | (with_reducible refine blk_drew ?_) | (with_reducible refine blk_alloc ?_ _))) hb); have n9_ : Aside0 (Below w.heap.size w w1) := Aside0.mk (below_step (by repeat (first | exact Below.refl _ _ | apply below_alloc | apply pw_below_drewN | apply below_drew1)) hb); clear hb; have hx0 : w1.cell? ⟨w.heap.size, 0, none⟩ = some (.int .i64 a1_0) := (blk_cell n1_.out 0).trans rfl; have hx1 : w1.cell? ⟨w.heap.size, 1, none⟩ = some (.int .i64 a1_1) := (blk_cell n1_.out 1).trans rfl; have hx2 : w1.cell? ⟨w.heap.size, 2, none⟩ = some (.slice A1_2 l1_2.length c1_2) := (blk_cell n1_.out 2).trans rfl) | (go_at_call 15; (with_reducible refine (impl_GateSize.calls k a1_0 a1_1 _ _ l1_2 v _ ?side1 ?side2 A3.out).mono ?_); (case side1 => exact Kd.C_below HR.out (by repeat (first | exact n9_.out | apply below_alloc | apply pw_below_drewN | apply below_drew1))); (case side2 => exact HC.out); rintro e w2 ⟨rfl, hb⟩))
      go_ret
      exact ⟨rfl, below_step (by repeat (first | exact n9_.out | apply below_alloc | apply pw_below_drewN | apply below_drew1)) hb⟩

end Go.Proofs.Ytjnobnmjhpmpfaa.P

namespace Go.Proofs.Ytjnobnmjhpmpfaa.P
open Go.RowKit Go.Proofs.YtjnobnmjhpmpfaaW.PrintWords Go.Proofs.YtjnobnmjhpmpfaaW.PrintLast Go.Proofs.YtjnobnmjhpmpfaaW.PrintMore
attribute [local go_sem] max2_int min2_int max_two min_two max_three min_three max_four min_four
set_option linter.unusedVariables false
set_option linter.unusedSimpArgs false

/-! ### impl_orLimit: function 68 (by hand) -/
def impl_orLimit.f (k : Nat) (a0 : Int) (a1_0 : Int) (a1_1 : Int) (l1_2 : List S29) : Option (Int × Int × List S29 × Int) := (impl_ValidGate.f k a0 a1_0 a1_1 l1_2).bind fun t => (if t = true then (some (a1_0, a1_1, l1_2, 0)) else (some (0, 0, ([] : List S29), 3)))
set_option maxHeartbeats 8000000 in
set_option maxRecDepth 100000 in
theorem impl_orLimit.callsT (k : Nat) (a0 : Int) (a1_0 : Int) (a1_1 : Int) (A1_2 : Option Addr) (c1_2 : Nat) (l1_2 : List S29) (r1 : Int) (r2 : Int) (r3 : List S29) (r4 : Int) (w : World) (hr : Kd.C k29 w A1_2 l1_2.length l1_2) (hc : l1_2.length ≤ c1_2) (h : impl_orLimit.f k a0 a1_0 a1_1 l1_2 = some (r1, r2, r3, r4)) :
    Calls Try.prog 68 #[.int .i64 a0, .agg #[.int .i64 a1_0, .int .i64 a1_1, .slice A1_2 l1_2.length c1_2]] w fun e w' => ∃ v : Value, e = .returned (.tuple #[.agg #[.int .i64 r1, .int .i64 r2, v], .int .i64 r4]) ∧ ((v = .slice A1_2 l1_2.length c1_2 ∧ r3 = l1_2) ∨ (v = .slice none 0 0 ∧ r3 = [])) ∧ Below w.heap.size w w' := by
  have hu29 := Try.underlying29
  have HR := Aside0.mk hr
  have HC := Aside0.mk hc
  clear hr hc
  have HB := Aside0.mk (Below.refl w.heap.size w)
  unfold impl_orLimit.f at h
  replace h := Option.bind_eq_some_iff.mp h
  obtain ⟨t, At, H⟩ := h
  have A3 := Aside0.mk At
  clear At
  by_cases c4 : t = true
  · subst c4
    rw [if_pos rfl] at H
    simp only [Option.some.injEq, Prod.mk.injEq] at H
    obtain ⟨rfl, rfl, rfl, rfl⟩ := H
    go_enter Try.func68, Try.ntmps68
    go_wp2_with (first | ((with_reducible refine gate_dst (N := 3) rfl ?_); refine box_event ?hg (N := 3) ?hd (cs := #[.int .i64 a1_0, .int .i64 a1_1, .slice A1_2 l1_2.length c1_2]) (t := 29) ?hr ?_; (case hd => rfl); (case hg => rfl); (case hr => first | (go_simp; done) | (go_simp; rfl)); intro g3 hg w1 hbox hb; have n0_ := Aside0.mk (below_step (by repeat (first | (with_reducible first | exact HB.out | apply below_alloc | apply pw_below_drewN | apply below_drew1) | exact HB.out)) hb); have GW_g3 := Aside0.mk ((by rw [hg]; exact below_size (by repeat (first | (with_reducible first | exact HB.out | apply below_alloc | apply pw_below_drewN | apply below_drew1) | exact HB.out))) : w.heap.size ≤ g3); have HR2 := Aside0.mk (Kd.C_below (by repeat (first | exact HR.out | (with_reducible refine Kd.C_alloc ?_ _) | (with_reducible refine Kd.C_drewN ?_ _) | (with_reducible refine Kd.C_drew ?_))) hb); clear HR; have HR := HR2; clear HR2; clear HB ; have HB := n0_; clear n0_; have BK_g3 := Aside0.mk hbox; clear hbox hb hg; have hz_g30 : w1.cell? ⟨g3, 0, none⟩ = some (.int .i64 a1_0) := (blk_cell BK_g3.out 0).trans rfl; have hz_g3f0 := blk_frozen BK_g3.out 0; have hz_g31 : w1.cell? ⟨g3, 1, none⟩ = some (.int .i64 a1_1) := (blk_cell BK_g3.out 1).trans rfl; have hz_g3f1 := blk_frozen BK_g3.out 1; have hz_g32 : w1.cell? ⟨g3, 2, none⟩ = some (.slice A1_2 l1_2.length c1_2) := (blk_cell BK_g3.out 2).trans rfl; have hz_g3f2 := blk_frozen BK_g3.out 2) | ((with_reducible refine gate_dst (N := 4) rfl ?_); refine box_event ?hg (N := 4) ?hd (cs := #[.int .i64 0, .int .i64 0, .slice none 0 0]) (t := 29) ?hr ?_; (case hd => rfl); (case hg => rfl); (case hr => first | (go_simp; done) | (go_simp; rfl)); intro g4 hg w2 hbox hb; have n0_ := Aside0.mk (below_step (by repeat (first | (with_reducible first | exact HB.out | apply below_alloc | apply pw_below_drewN | apply below_drew1) | exact HB.out)) hb); have GW_g4 := Aside0.mk ((by rw [hg]; exact below_size (by repeat (first | (with_reducible first | exact HB.out | apply below_alloc | apply pw_below_drewN | apply below_drew1) | exact HB.out))) : w.heap.size ≤ g4); have n1_ := Aside0.mk (blk_below (g := g3) (o := .cells #[.int .i64 a1_0, .int .i64 a1_1, .slice A1_2 l1_2.length c1_2] 29 (0, 0)) (by (with_reducible repeat (first | refine blk_drewN ?_ _ | refine blk_drew ?_ | refine blk_alloc ?_ _)); exact BK_g3.out) hb); have HR2 := Aside0.mk (Kd.C_below (by repeat (first | exact HR.out | (with_reducible refine Kd.C_alloc ?_ _) | (with_reducible refine Kd.C_drewN ?_ _) | (with_reducible refine Kd.C_drew ?_))) hb); clear HR; have HR := HR2; clear HR2; clear HB BK_g3; have HB := n0_; clear n0_; clear hz_g30 hz_g3f0 hz_g31 hz_g3f1 hz_g32 hz_g3f2; have BK_g3 := n1_; clear n1_; have BK_g4 := Aside0.mk hbox; clear hbox hb hg; have hz_g30 : w2.cell? ⟨g3, 0, none⟩ = some (.int .i64 a1_0) := (blk_cell BK_g3.out 0).trans rfl; have hz_g3f0 := blk_frozen BK_g3.out 0; have hz_g31 : w2.cell? ⟨g3, 1, none⟩ = some (.int .i64 a1_1) := (blk_cell BK_g3.out 1).trans rfl; have hz_g3f1 := blk_frozen BK_g3.out 1; have hz_g32 : w2.cell? ⟨g3, 2, none⟩ = some (.slice A1_2 l1_2.length c1_2) := (blk_cell BK_g3.out 2).trans rfl; have hz_g3f2 := blk_frozen BK_g3.out 2; have hz_g40 : w2.cell? ⟨g4, 0, none⟩ = some (.int .i64 0) := (blk_cell BK_g4.out 0).trans rfl; have hz_g4f0 := blk_frozen BK_g4.out 0; have hz_g41 : w2.cell? ⟨g4, 1, none⟩ = some (.int .i64 0) := (blk_cell BK_g4.out 1).trans rfl; have hz_g4f1 := blk_frozen BK_g4.out 1; have hz_g42 : w2.cell? ⟨g4, 2, none⟩ = some (.slice none 0 0) := (blk_cell BK_g4.out 2).trans rfl; have hz_g4f2 := blk_frozen BK_g4.out 2) | (go_at_call 20; (with_reducible refine (impl_ValidGate.calls k a0 a1_0 a1_1 _ _ l1_2 true _ ?side1 ?side2 A3.out).mono ?_); (case side1 => exact (by repeat (first | exact HR.out | (with_reducible refine Kd.C_alloc ?_ _) | (with_reducible refine Kd.C_drewN ?_ _) | (with_reducible refine Kd.C_drew ?_)))); (case side2 => exact HC.out); rintro e w5 ⟨rfl, hb⟩; have n0_ := Aside0.mk (below_step (by repeat (first | (with_reducible first | exact HB.out | apply below_alloc | apply pw_below_drewN | apply below_drew1) | exact HB.out)) hb); have n1_ := Aside0.mk (blk_below (g := g3) (o := .cells #[.int .i64 a1_0, .int .i64 a1_1, .slice A1_2 l1_2.length c1_2] 29 (0, 0)) (by (with_reducible repeat (first | refine blk_drewN ?_ _ | refine blk_drew ?_ | refine blk_alloc ?_ _)); exact BK_g3.out) hb); have n2_ := Aside0.mk (blk_below (g := g4) (o := .cells #[.int .i64 0, .int .i64 0, .slice none 0 0] 29 (0, 0)) (by (with_reducible repeat (first | refine blk_drewN ?_ _ | refine blk_drew ?_ | refine blk_alloc ?_ _)); exact BK_g4.out) hb); clear HB BK_g3 BK_g4 hz_g30 hz_g3f0 hz_g31 hz_g3f1 hz_g32 hz_g3f2 hz_g40 hz_g4f0 hz_g41 hz_g4f1 hz_g42 hz_g4f2 hb; have HB := n0_; have BK_g3 := n1_; have BK_g4 := n2_; clear n0_ n1_ n2_; have hz_g30 : w5.cell? ⟨g3, 0, none⟩ = some (.int .i64 a1_0) := (blk_cell BK_g3.out 0).trans rfl; have hz_g3f0 := blk_frozen BK_g3.out 0; have hz_g31 : w5.cell? ⟨g3, 1, none⟩ = some (.int .i64 a1_1) := (blk_cell BK_g3.out 1).trans rfl; have hz_g3f1 := blk_frozen BK_g3.out 1; have hz_g32 : w5.cell? ⟨g3, 2, none⟩ = some (.slice A1_2 l1_2.length c1_2) := (blk_cell BK_g3.out 2).trans rfl; have hz_g3f2 := blk_frozen BK_g3.out 2; have hz_g40 : w5.cell? ⟨g4, 0, none⟩ = some (.int .i64 0) := (blk_cell BK_g4.out 0).trans rfl; have hz_g4f0 := blk_frozen BK_g4.out 0; have hz_g41 : w5.cell? ⟨g4, 1, none⟩ = some (.int .i64 0) := (blk_cell BK_g4.out 1).trans rfl; have hz_g4f1 := blk_frozen BK_g4.out 1; have hz_g42 : w5.cell? ⟨g4, 2, none⟩ = some (.slice none 0 0) := (blk_cell BK_g4.out 2).trans rfl; have hz_g4f2 := blk_frozen BK_g4.out 2))
    refine bodyPost_ret (results_ct rfl _ _ g4 29 #[.int .i64 a1_0, .int .i64 a1_1, .slice A1_2 l1_2.length c1_2] (0, 0) _ rfl (by (with_reducible repeat (first | refine blk_drewN ?_ _ | refine blk_drew ?_ | refine blk_alloc ?_ _)); refine blk_put (cs := #[.int .i64 a1_0, .int .i64 a1_1, .slice none 0 0]) ?_ 2 _ rfl; (with_reducible repeat (first | refine blk_drewN ?_ _ | refine blk_drew ?_ | refine blk_alloc ?_ _)); refine blk_put (cs := #[.int .i64 a1_0, .int .i64 0, .slice none 0 0]) ?_ 1 _ rfl; (with_reducible repeat (first | refine blk_drewN ?_ _ | refine blk_drew ?_ | refine blk_alloc ?_ _)); refine blk_put (cs := #[.int .i64 0, .int .i64 0, .slice none 0 0]) ?_ 0 _ rfl; (with_reducible repeat (first | refine blk_drewN ?_ _ | refine blk_drew ?_ | refine blk_alloc ?_ _)); exact BK_g4.out) Try.underlying29 rfl (by kernel_rfl)) rfl ?_
    exact ⟨_, rfl, by first | exact Or.inl ⟨rfl, rfl⟩ | exact Or.inl ⟨rfl, trivial⟩, (by repeat (first | (with_reducible first | exact HB.out | apply below_alloc | apply pw_below_drewN | apply below_drew1 | refine below_set ?_ GW_g4.out) | exact HB.out))⟩
  · replace c4 := Bool.eq_false_iff.mpr c4
    subst c4
    rw [if_neg (show ¬ (false = true) by decide)] at H
    simp only [Option.some.injEq, Prod.mk.injEq] at H
    obtain ⟨rfl, rfl, rfl, rfl⟩ := H
    go_enter Try.func68, Try.ntmps68
    go_wp2_with (first | ((with_reducible refine gate_dst (N := 3) rfl ?_); refine box_event ?hg (N := 3) ?hd (cs := #[.int .i64 a1_0, .int .i64 a1_1, .slice A1_2 l1_2.length c1_2]) (t := 29) ?hr ?_; (case hd => rfl); (case hg => rfl); (case hr => first | (go_simp; done) | (go_simp; rfl)); intro g3 hg w1 hbox hb; have n0_ := Aside0.mk (below_step (by repeat (first | (with_reducible first | exact HB.out | apply below_alloc | apply pw_below_drewN | apply below_drew1) | exact HB.out)) hb); have GW_g3 := Aside0.mk ((by rw [hg]; exact below_size (by repeat (first | (with_reducible first | exact HB.out | apply below_alloc | apply pw_below_drewN | apply below_drew1) | exact HB.out))) : w.heap.size ≤ g3); have HR2 := Aside0.mk (Kd.C_below (by repeat (first | exact HR.out | (with_reducible refine Kd.C_alloc ?_ _) | (with_reducible refine Kd.C_drewN ?_ _) | (with_reducible refine Kd.C_drew ?_))) hb); clear HR; have HR := HR2; clear HR2; clear HB ; have HB := n0_; clear n0_; have BK_g3 := Aside0.mk hbox; clear hbox hb hg; have hz_g30 : w1.cell? ⟨g3, 0, none⟩ = some (.int .i64 a1_0) := (blk_cell BK_g3.out 0).trans rfl; have hz_g3f0 := blk_frozen BK_g3.out 0; have hz_g31 : w1.cell? ⟨g3, 1, none⟩ = some (.int .i64 a1_1) := (blk_cell BK_g3.out 1).trans rfl; have hz_g3f1 := blk_frozen BK_g3.out 1; have hz_g32 : w1.cell? ⟨g3, 2, none⟩ = some (.slice A1_2 l1_2.length c1_2) := (blk_cell BK_g3.out 2).trans rfl; have hz_g3f2 := blk_frozen BK_g3.out 2) | ((with_reducible refine gate_dst (N := 4) rfl ?_); refine box_event ?hg (N := 4) ?hd (cs := #[.int .i64 0, .int .i64 0, .slice none 0 0]) (t := 29) ?hr ?_; (case hd => rfl); (case hg => rfl); (case hr => first | (go_simp; done) | (go_simp; rfl)); intro g4 hg w2 hbox hb; have n0_ := Aside0.mk (below_step (by repeat (first | (with_reducible first | exact HB.out | apply below_alloc | apply pw_below_drewN | apply below_drew1) | exact HB.out)) hb); have GW_g4 := Aside0.mk ((by rw [hg]; exact below_size (by repeat (first | (with_reducible first | exact HB.out | apply below_alloc | apply pw_below_drewN | apply below_drew1) | exact HB.out))) : w.heap.size ≤ g4); have n1_ := Aside0.mk (blk_below (g := g3) (o := .cells #[.int .i64 a1_0, .int .i64 a1_1, .slice A1_2 l1_2.length c1_2] 29 (0, 0)) (by (with_reducible repeat (first | refine blk_drewN ?_ _ | refine blk_drew ?_ | refine blk_alloc ?_ _)); exact BK_g3.out) hb); have HR2 := Aside0.mk (Kd.C_below (by repeat (first | exact HR.out | (with_reducible refine Kd.C_alloc ?_ _) | (with_reducible refine Kd.C_drewN ?_ _) | (with_reducible refine Kd.C_drew ?_))) hb); clear HR; have HR := HR2; clear HR2; clear HB BK_g3; have HB := n0_; clear n0_; clear hz_g30 hz_g3f0 hz_g31 hz_g3f1 hz_g32 hz_g3f2; have BK_g3 := n1_; clear n1_; have BK_g4 := Aside0.mk hbox; clear hbox hb hg; have hz_g30 : w2.cell? ⟨g3, 0, none⟩ = some (.int .i64 a1_0) := (blk_cell BK_g3.out 0).trans rfl; have hz_g3f0 := blk_frozen BK_g3.out 0; have hz_g31 : w2.cell? ⟨g3, 1, none⟩ = some (.int .i64 a1_1) := (blk_cell BK_g3.out 1).trans rfl; have hz_g3f1 := blk_frozen BK_g3.out 1; have hz_g32 : w2.cell? ⟨g3, 2, none⟩ = some (.slice A1_2 l1_2.length c1_2) := (blk_cell BK_g3.out 2).trans rfl; have hz_g3f2 := blk_frozen BK_g3.out 2; have hz_g40 : w2.cell? ⟨g4, 0, none⟩ = some (.int .i64 0) := (blk_cell BK_g4.out 0).trans rfl; have hz_g4f0 := blk_frozen BK_g4.out 0; have hz_g41 : w2.cell? ⟨g4, 1, none⟩ = some (.int .i64 0) := (blk_cell BK_g4.out 1).trans rfl; have hz_g4f1 := blk_frozen BK_g4.out 1; have hz_g42 : w2.cell? ⟨g4, 2, none⟩ = some (.slice none 0 0) := (blk_cell BK_g4.out 2).trans rfl; have hz_g4f2 := blk_frozen BK_g4.out 2) | (go_at_call 20; (with_reducible refine (impl_ValidGate.calls k a0 a1_0 a1_1 _ _ l1_2 false _ ?side1 ?side2 A3.out).mono ?_); (case side1 => exact (by repeat (first | exact HR.out | (with_reducible refine Kd.C_alloc ?_ _) | (with_reducible refine Kd.C_drewN ?_ _) | (with_reducible refine Kd.C_drew ?_)))); (case side2 => exact HC.out); rintro e w5 ⟨rfl, hb⟩; have n0_ := Aside0.mk (below_step (by repeat (first | (with_reducible first | exact HB.out | apply below_alloc | apply pw_below_drewN | apply below_drew1) | exact HB.out)) hb); have n1_ := Aside0.mk (blk_below (g := g3) (o := .cells #[.int .i64 a1_0, .int .i64 a1_1, .slice A1_2 l1_2.length c1_2] 29 (0, 0)) (by (with_reducible repeat (first | refine blk_drewN ?_ _ | refine blk_drew ?_ | refine blk_alloc ?_ _)); exact BK_g3.out) hb); have n2_ := Aside0.mk (blk_below (g := g4) (o := .cells #[.int .i64 0, .int .i64 0, .slice none 0 0] 29 (0, 0)) (by (with_reducible repeat (first | refine blk_drewN ?_ _ | refine blk_drew ?_ | refine blk_alloc ?_ _)); exact BK_g4.out) hb); clear HB BK_g3 BK_g4 hz_g30 hz_g3f0 hz_g31 hz_g3f1 hz_g32 hz_g3f2 hz_g40 hz_g4f0 hz_g41 hz_g4f1 hz_g42 hz_g4f2 hb; have HB := n0_; have BK_g3 := n1_; have BK_g4 := n2_; clear n0_ n1_ n2_; have hz_g30 : w5.cell? ⟨g3, 0, none⟩ = some (.int .i64 a1_0) := (blk_cell BK_g3.out 0).trans rfl; have hz_g3f0 := blk_frozen BK_g3.out 0; have hz_g31 : w5.cell? ⟨g3, 1, none⟩ = some (.int .i64 a1_1) := (blk_cell BK_g3.out 1).trans rfl; have hz_g3f1 := blk_frozen BK_g3.out 1; have hz_g32 : w5.cell? ⟨g3, 2, none⟩ = some (.slice A1_2 l1_2.length c1_2) := (blk_cell BK_g3.out 2).trans rfl; have hz_g3f2 := blk_frozen BK_g3.out 2; have hz_g40 : w5.cell? ⟨g4, 0, none⟩ = some (.int .i64 0) := (blk_cell BK_g4.out 0).trans rfl; have hz_g4f0 := blk_frozen BK_g4.out 0; have hz_g41 : w5.cell? ⟨g4, 1, none⟩ = some (.int .i64 0) := (blk_cell BK_g4.out 1).trans rfl; have hz_g4f1 := blk_frozen BK_g4.out 1; have hz_g42 : w5.cell? ⟨g4, 2, none⟩ = some (.slice none 0 0) := (blk_cell BK_g4.out 2).trans rfl; have hz_g4f2 := blk_frozen BK_g4.out 2))
    refine bodyPost_ret (results_ct rfl _ _ g4 29 #[.int .i64 0, .int .i64 0, .slice none 0 0] (0, 0) _ rfl (by (with_reducible repeat (first | refine blk_drewN ?_ _ | refine blk_drew ?_ | refine blk_alloc ?_ _)); refine blk_put (cs := #[.int .i64 0, .int .i64 0, .slice none 0 0]) ?_ 2 _ rfl; (with_reducible repeat (first | refine blk_drewN ?_ _ | refine blk_drew ?_ | refine blk_alloc ?_ _)); refine blk_put (cs := #[.int .i64 0, .int .i64 0, .slice none 0 0]) ?_ 1 _ rfl; (with_reducible repeat (first | refine blk_drewN ?_ _ | refine blk_drew ?_ | refine blk_alloc ?_ _)); refine blk_put (cs := #[.int .i64 0, .int .i64 0, .slice none 0 0]) ?_ 0 _ rfl; (with_reducible repeat (first | refine blk_drewN ?_ _ | refine blk_drew ?_ | refine blk_alloc ?_ _)); exact BK_g4.out) Try.underlying29 rfl (by kernel_rfl)) rfl ?_
    exact ⟨_, rfl, by first | exact Or.inr ⟨rfl, rfl⟩ | exact Or.inr ⟨rfl, trivial⟩, (by repeat (first | (with_reducible first | exact HB.out | apply below_alloc | apply pw_below_drewN | apply below_drew1 | refine below_set ?_ GW_g4.out) | exact HB.out))⟩
end Go.Proofs.Ytjnobnmjhpmpfaa.P

namespace Go.Proofs.Ytjnobnmjhpmpfaa.P
open Go.RowKit Go.Proofs.YtjnobnmjhpmpfaaW.PrintWords Go.Proofs.YtjnobnmjhpmpfaaW.PrintLast Go.Proofs.YtjnobnmjhpmpfaaW.PrintMore
attribute [local go_sem] max2_int min2_int max_two min_two max_three min_three max_four min_four
set_option linter.unusedVariables false
set_option linter.unusedSimpArgs false

set_option maxHeartbeats 8000000 in
set_option maxRecDepth 100000 in
theorem impl_leaves.callsS (k : Nat) (A0 : Option Addr) (c0 : Nat) (l0 : List Int) (r : List S29) (w : World) (hr0 : Kd.C (Kd.int .i64) w A0 l0.length l0) (hc0 : l0.length ≤ c0) (h : impl_leaves.f k l0 = some r) :
    Calls Try.prog 65 #[.slice A0 l0.length c0] w fun e w' => ∃ v0_ : Value, e = .returned v0_ ∧ Kd.S kG 29 w' w.heap.size (fun _ => True) v0_ r ∧ Below w.heap.size w w' := by
  have hu29 := Try.underlying29
  have HR := Aside0.mk hr0
  clear hr0 hc0
  have HB := Aside0.mk (Below.refl w.heap.size w)
  have A1 : Aside0 (impl_leaves.l0 k [] l0 (l0.length : Int) 0 = some r) := ⟨h⟩
  clear h
  go_enter Try.func65, Try.ntmps65
  go_wp2_with (first | ((with_reducible refine gate_dst (N := 6) rfl ?_); refine Kd.S_lit kG _ 29 ?hg (N := 6) ?hd (xs := ([] : List S29)) (inner := []) (ok := (fun _ => True)) (okp := (fun _ => True)) ?hr ?hp (fun _ hk => hk) trivial (Below.refl _ _) (Nat.le_refl _) (by simp) ?_; (case hd => rfl); (case hg => rfl); (case hr => first | (go_simp; done) | (go_simp; rfl)); (case hp => exact (Reps.none _ _)); intro v6 wl6 ho3 hb hg_ hnew_; clear hg_ hnew_; have HO6 := Aside0.mk (Kd.S_lower (base' := w.heap.size) ho3 (below_size (by repeat (first | (with_reducible first | exact HB.out | apply below_alloc | apply pw_below_drewN | apply below_drew1) | exact HB.out)))); clear ho3; have n0_ := Aside0.mk (below_step (by repeat (first | (with_reducible first | exact HB.out | apply below_alloc | apply pw_below_drewN | apply below_drew1) | exact HB.out)) hb); clear HB hb; have HB := n0_; clear n0_))
  go_loopg [3, 9] k (fun kq v3 v9 w' => ∃ (i : Int) (out : List S29), v9 = .int .i64 i ∧ Aside0 (impl_leaves.l0 kq out l0 (l0.length : Int) i = some r) ∧ Aside0 (kq ≤ k) ∧ Aside0 (Kd.S kG 29 w' w.heap.size (fun _ => True) v3 out) ∧ Aside0 (Below w.heap.size w w'))
  case atStart => exact ⟨0, [], rfl, A1, ⟨Nat.le_refl _⟩, ⟨(by (with_reducible repeat (first | apply Kd.S_alloc | apply Kd.S_drewN | apply Kd.S_drew)); exact HO6.out)⟩, ⟨(by repeat (first | (with_reducible first | exact HB.out | apply below_alloc | apply pw_below_drewN | apply below_drew1) | exact HB.out))⟩⟩
  case round =>
    clear A1 HO6 HB
    obtain ⟨i, out, rfl, HA, HK1, HO, HB⟩ := hrel
    cases gk with
    | zero => exact absurd HA.out (by simp [impl_leaves.l0])
    | succ k1 =>
      have H' := HA.out
      clear HA
      simp only [impl_leaves.l0] at H'
      by_cases c6 : i < (l0.length : Int)
      · rw [if_pos c6] at H'
        by_cases c7 : 0 ≤ i
        case neg => rw [if_neg c7] at H'; exact absurd H' (by simp)
        rw [if_pos c7] at H'
        rw [if_pos c6] at H'
        by_cases c8 : out.length < 3518437208883
        case neg => rw [if_neg c8] at H'; exact absurd H' (by simp)
        rw [if_pos c8] at H'
        have LM := Aside0.mk c8
        have HF := Aside0.mk H'
        clear H' c8
        have c6b0 : decide (i < (l0.length : Int)) = true := decide_eq_true c6
        have c7b0 : decide (0 ≤ i) = true := decide_eq_true c7
        obtain ⟨ad, e3, hx⟩ := Kd.at_int HR.out i c7 c6
        cases e3
        replace hx := (HB.out.cell (World.block_lt_of_cell? w _ hx)).trans hx
        replace c7 := eq_true c7
        replace c6 := eq_true c6
        go_wp2_with (first | ((with_reducible refine gate_builtin (b := .append) (xs := #[.tmp 13, .tmp 16]) rfl ?_); at_builtin; refine Kd.S_append kG (w0 := w) w.heap.size rfl (.tmp 13) (.tmp 16) 27 29 (.agg #[.int .i64 0, .int .i64 0, .slice none 0 0]) 40 rfl Try.underlying27 info29 rfl (by decide) (by omega) u3 out (⟨rd l0 i, 0, []⟩ : S29) [.int .i64 (rd l0 i), .int .i64 0, .slice none 0 0] (fun _ => True) (fun _ => False) rfl rfl ?aP ?aK ?aF ?aO ?aB ?aS ?aL ?_; (case aP => exact kG_mkM (x := (⟨rd l0 i, 0, []⟩ : S29)) (GS_nil _ _ _)); (case aK => exact (fun _ hk => hk.elim)); (case aF => exact (fun _ _ => trivial)); (case aO => exact Kd.S_mono (by (with_reducible repeat (first | apply Kd.S_alloc | apply Kd.S_drewN | apply Kd.S_drew)); exact HO.out) (fun _ hk => ⟨trivial, id⟩)); (case aB => exact (by repeat (first | (with_reducible first | exact HB.out | apply below_alloc | apply pw_below_drewN | apply below_drew1) | exact HB.out))); (case aS => exact below_size (by repeat (first | (with_reducible first | exact HB.out | apply below_alloc | apply pw_below_drewN | apply below_drew1) | exact HB.out))); (case aL => have := LM.out; omega); intro v7b w7 ho hb hg hat; have HO7 := Aside0.mk ho; have HB7 := Aside0.mk hb; clear ho hb hg hat HO HB))
        go_roundg k1
        case measure => have := HK1.out; omega
        case rel => exact ⟨_, out ++ [(⟨rd l0 i, 0, []⟩ : S29)], rfl, HF, ⟨by have := HK1.out; omega⟩, HO7, HB7⟩
      · rw [if_neg c6] at H'
        obtain rfl := Option.some.inj H'
        clear H'
        have c6b0 : decide (i < (l0.length : Int)) = false := decide_eq_false c6
        clear c6
        go_wp2
        go_ret
        exact ⟨_, rfl, (by (with_reducible repeat (first | apply Kd.S_alloc | apply Kd.S_drewN | apply Kd.S_drew)); exact HO.out), (by repeat (first | (with_reducible first | exact HB.out | apply below_alloc | apply pw_below_drewN | apply below_drew1) | exact HB.out))⟩

end Go.Proofs.Ytjnobnmjhpmpfaa.P

namespace Go.Proofs.Ytjnobnmjhpmpfaa.P
open Go.RowKit Go.Proofs.YtjnobnmjhpmpfaaW.PrintWords Go.Proofs.YtjnobnmjhpmpfaaW.PrintLast Go.Proofs.YtjnobnmjhpmpfaaW.PrintMore
attribute [local go_sem] max2_int min2_int max_two min_two max_three min_three max_four min_four
set_option linter.unusedVariables false
set_option linter.unusedSimpArgs false

/-! ### impl_LevelGate: function 32 (by hand) -/
def levI.l0 : Nat → List Int → List Int → Int → List S29 → Int → Option (Option (Int × List S29))
  | 0, _, _, _, _, _ => none
  | k + 1, l0, l1, h, out, i => if i < (l0.length : Int) then (if 0 ≤ i then ((impl_within.f (rd l0 i) 1 (wrap64 (7 - h))).bind fun t => if t = true then (if i < (l1.length : Int) then ((impl_within.f (rd l1 i) 1 (wrap64 (h + rd l0 i))).bind fun u => if u = true then ((impl_everybody.f (wrap64 (h + rd l0 i))).bind fun ev => (impl_crowd_group.f k ev).bind fun gr => (impl_leaves.f k gr).bind fun ls => if out.length < 1048576 then levI.l0 k l0 l1 (wrap64 (h + rd l0 i)) (out ++ [⟨-1, rd l1 i, ls⟩]) (wrap64 (i + 1)) else none) else some none) else none) else some none) else none) else some (some (h, out))
def levI.fin (k : Nat) : Option (Int × List S29) → Option (Int × Int × List S29 × Int)
  | none => some (0, 0, [], 2)
  | some (h, kids) => impl_orLimit.f k h (-1) 1 kids
def impl_LevelGate.f (k : Nat) (l0 l1 : List Int) : Option (Int × Int × List S29 × Int) := if (l0.length : Int) = 0 then some (0, 0, [], 2) else (if (l1.length : Int) = (l0.length : Int) then ((levI.l0 k l0 l1 0 [] 0).bind fun q => levI.fin k q) else some (0, 0, [], 2))
set_option maxHeartbeats 8000000 in
set_option maxRecDepth 100000 in
theorem impl_LevelGate.calls (k : Nat) (A0 : Option Addr) (c0 : Nat) (l0 : List Int) (A1 : Option Addr) (c1 : Nat) (l1 : List Int) (r1 : Int) (r2 : Int) (r3 : List S29) (r4 : Int) (w : World) (hr0 : Kd.C (Kd.int .i64) w A0 l0.length l0) (hc0 : l0.length ≤ c0) (hr1 : Kd.C (Kd.int .i64) w A1 l1.length l1) (hc1 : l1.length ≤ c1) (h : impl_LevelGate.f k l0 l1 = some (r1, r2, r3, r4)) :
    Calls Try.prog 32 #[.slice A0 l0.length c0, .slice A1 l1.length c1] w fun e w' => ∃ v2_ : Value, e = .returned (.tuple #[.agg #[.int .i64 r1, .int .i64 r2, v2_], .int .i64 r4]) ∧ Kd.S kG 29 w' w.heap.size (fun _ => True) v2_ r3 ∧ Below w.heap.size w w' := by
  have hu29 := Try.underlying29
  have HR0 := Aside0.mk hr0
  have HR1 := Aside0.mk hr1
  clear hr0 hr1 hc0 hc1
  have HB := Aside0.mk (Below.refl w.heap.size w)
  have H : _ = _ := h
  unfold impl_LevelGate.f at H
  clear h
  by_cases c1_ : (l0.length : Int) = 0
  · rw [if_pos c1_] at H
    simp only [Option.some.injEq, Prod.mk.injEq] at H
    obtain ⟨rfl, rfl, rfl, rfl⟩ := H
    have c1b : ((l0.length : Int) == 0) = true := beq_iff_eq.mpr c1_
    replace c1_ := Aside0.mk c1_
    go_enter Try.func32, Try.ntmps32
    go_wp2_with (first | ((with_reducible refine gate_dst (N := 4) rfl ?_); refine box_event ?hg (N := 4) ?hd (cs := #[.int .i64 0, .int .i64 0, .slice none 0 0]) (t := 29) ?hr ?_; (case hd => rfl); (case hg => rfl); (case hr => first | (go_simp; done) | (go_simp; rfl)); intro g2 hg w2 hbox hb; have n0_ := Aside0.mk (below_step (by repeat (first | (with_reducible first | exact HB.out | apply below_alloc | apply pw_below_drewN | apply below_drew1) | exact HB.out)) hb); have GW_g2 := Aside0.mk ((by rw [hg]; exact below_size (by repeat (first | (with_reducible first | exact HB.out | apply below_alloc | apply pw_below_drewN | apply below_drew1) | exact HB.out))) : w.heap.size ≤ g2); clear HB; have HB := n0_; clear n0_; have BK_g2 := Aside0.mk hbox; clear hbox hb hg; have hz_g20 : w2.cell? ⟨g2, 0, none⟩ = some (.int .i64 0) := (blk_cell BK_g2.out 0).trans rfl; have hz_g2f0 := blk_frozen BK_g2.out 0; have hz_g21 : w2.cell? ⟨g2, 1, none⟩ = some (.int .i64 0) := (blk_cell BK_g2.out 1).trans rfl; have hz_g2f1 := blk_frozen BK_g2.out 1; have hz_g22 : w2.cell? ⟨g2, 2, none⟩ = some (.slice none 0 0) := (blk_cell BK_g2.out 2).trans rfl; have hz_g2f2 := blk_frozen BK_g2.out 2))
    refine bodyPost_ret (results_ct rfl _ _ g2 29 #[.int .i64 0, .int .i64 0, .slice none 0 0] (0, 0) _ rfl (by (with_reducible repeat (first | refine blk_drewN ?_ _ | refine blk_drew ?_ | refine blk_alloc ?_ _)); refine blk_put (cs := #[.int .i64 0, .int .i64 0, .slice none 0 0]) ?_ 2 _ rfl; (with_reducible repeat (first | refine blk_drewN ?_ _ | refine blk_drew ?_ | refine blk_alloc ?_ _)); refine blk_put (cs := #[.int .i64 0, .int .i64 0, .slice none 0 0]) ?_ 1 _ rfl; (with_reducible repeat (first | refine blk_drewN ?_ _ | refine blk_drew ?_ | refine blk_alloc ?_ _)); refine blk_put (cs := #[.int .i64 0, .int .i64 0, .slice none 0 0]) ?_ 0 _ rfl; (with_reducible repeat (first | refine blk_drewN ?_ _ | refine blk_drew ?_ | refine blk_alloc ?_ _)); exact BK_g2.out) Try.underlying29 rfl (by kernel_rfl)) rfl ?_
    exact ⟨_, rfl, Kd.S_nil _ _ _ _ _, (by repeat (first | (with_reducible first | exact HB.out | apply below_alloc | apply pw_below_drewN | apply below_drew1 | refine below_set ?_ GW_g2.out) | exact HB.out))⟩
  · rw [if_neg c1_] at H
    have c1b : ((l0.length : Int) == 0) = false := beq_eq_false_iff_ne.mpr c1_
    replace c1_ := Aside0.mk c1_
    by_cases c2_ : (l1.length : Int) = (l0.length : Int)
    · rw [if_pos c2_] at H
      have c2b : ((l1.length : Int) == (l0.length : Int)) = true := beq_iff_eq.mpr c2_
      have c2n : ((l1.length : Int) != (l0.length : Int)) = false := by rw [bne, c2b]; rfl
      replace c2_ := Aside0.mk c2_
      replace H := Option.bind_eq_some_iff.mp H
      obtain ⟨q, At, H⟩ := H
      have A1_ := Aside0.mk At
      have HQ := Aside0.mk H
      clear At H
      go_enter Try.func32, Try.ntmps32
      go_wp2_with (first | ((with_reducible refine gate_dst (N := 4) rfl ?_); refine box_event ?hg (N := 4) ?hd (cs := #[.int .i64 0, .int .i64 0, .slice none 0 0]) (t := 29) ?hr ?_; (case hd => rfl); (case hg => rfl); (case hr => first | (go_simp; done) | (go_simp; rfl)); intro g2 hg w2 hbox hb; have n0_ := Aside0.mk (below_step (by repeat (first | (with_reducible first | exact HB.out | apply below_alloc | apply pw_below_drewN | apply below_drew1) | exact HB.out)) hb); have GW_g2 := Aside0.mk ((by rw [hg]; exact below_size (by repeat (first | (with_reducible first | exact HB.out | apply below_alloc | apply pw_below_drewN | apply below_drew1) | exact HB.out))) : w.heap.size ≤ g2); clear HB; have HB := n0_; clear n0_; have BK_g2 := Aside0.mk hbox; clear hbox hb hg; have hz_g20 : w2.cell? ⟨g2, 0, none⟩ = some (.int .i64 0) := (blk_cell BK_g2.out 0).trans rfl; have hz_g2f0 := blk_frozen BK_g2.out 0; have hz_g21 : w2.cell? ⟨g2, 1, none⟩ = some (.int .i64 0) := (blk_cell BK_g2.out 1).trans rfl; have hz_g2f1 := blk_frozen BK_g2.out 1; have hz_g22 : w2.cell? ⟨g2, 2, none⟩ = some (.slice none 0 0) := (blk_cell BK_g2.out 2).trans rfl; have hz_g2f2 := blk_frozen BK_g2.out 2) | ((with_reducible refine gate_dst (N := 21) rfl ?_); refine Kd.S_lit kG _ 29 ?hg (N := 21) ?hd (xs := ([] : List S29)) (inner := []) (ok := (fun k_ => g2 < k_)) (okp := (fun k_ => g2 < k_)) ?hr ?hp (fun _ hk => hk) (blk_lt (o := .cells #[.int .i64 0, .int .i64 0, .slice none 0 0] 29 (0, 0)) (by (with_reducible repeat (first | refine blk_drewN ?_ _ | refine blk_drew ?_ | refine blk_alloc ?_ _)); exact BK_g2.out)) (Below.refl _ _) (Nat.le_refl _) (by simp) ?_; (case hd => rfl); (case hg => rfl); (case hr => first | (go_simp; done) | (go_simp; rfl)); (case hp => exact (Reps.none _ _)); intro v21 wl21 ho3 hb hg_ hnew_; clear hg_ hnew_; have HO21 := Aside0.mk (Kd.S_lower (base' := w.heap.size) ho3 (below_size (by repeat (first | (with_reducible first | exact HB.out | apply below_alloc | apply pw_below_drewN | apply below_drew1) | exact HB.out)))); clear ho3; have n0_ := Aside0.mk (below_step (by repeat (first | (with_reducible first | exact HB.out | apply below_alloc | apply pw_below_drewN | apply below_drew1) | exact HB.out)) hb); have n2_ := Aside0.mk (blk_below (g := g2) (o := .cells #[.int .i64 0, .int .i64 0, .slice none 0 0] 29 (0, 0)) (by (with_reducible repeat (first | refine blk_drewN ?_ _ | refine blk_drew ?_ | refine blk_alloc ?_ _)); exact BK_g2.out) hb); clear HB BK_g2 hz_g20 hz_g2f0 hz_g21 hz_g2f1 hz_g22 hz_g2f2 hb; have HB := n0_; have BK_g2 := n2_; clear n0_ n2_; have hz_g20 : wl21.cell? ⟨g2, 0, none⟩ = some (.int .i64 0) := (blk_cell BK_g2.out 0).trans rfl; have hz_g2f0 := blk_frozen BK_g2.out 0; have hz_g21 : wl21.cell? ⟨g2, 1, none⟩ = some (.int .i64 0) := (blk_cell BK_g2.out 1).trans rfl; have hz_g2f1 := blk_frozen BK_g2.out 1; have hz_g22 : wl21.cell? ⟨g2, 2, none⟩ = some (.slice none 0 0) := (blk_cell BK_g2.out 2).trans rfl; have hz_g2f2 := blk_frozen BK_g2.out 2))
      go_loopg [6, 7, 24] k (fun kq v6 v7 v24 w' => ∃ (h i : Int) (out : List S29), v6 = .int .i64 h ∧ v24 = .int .i64 i ∧ Aside0 (levI.l0 kq l0 l1 h out i = some q) ∧ Aside0 (kq ≤ k) ∧ Aside0 (Kd.S kG 29 w' w.heap.size (fun k_ => g2 < k_) v7 out) ∧ Aside0 (w'.heap[g2]? = some (.cells #[.int .i64 0, .int .i64 0, .slice none 0 0] 29 (0, 0))) ∧ Aside0 (Below w.heap.size w w'))
      case atStart => exact ⟨0, 0, [], rfl, rfl, A1_, ⟨Nat.le_refl _⟩, ⟨(by (with_reducible repeat (first | apply Kd.S_alloc | apply Kd.S_drewN | apply Kd.S_drew)); exact HO21.out)⟩, ⟨(by (with_reducible repeat (first | refine blk_drewN ?_ _ | refine blk_drew ?_ | refine blk_alloc ?_ _)); exact BK_g2.out)⟩, ⟨(by repeat (first | (with_reducible first | exact HB.out | apply below_alloc | apply pw_below_drewN | apply below_drew1) | exact HB.out))⟩⟩
      case round =>
        clear A1_ HO21 BK_g2 HB hz_g20 hz_g2f0 hz_g21 hz_g2f1 hz_g22 hz_g2f2
        obtain ⟨h, i, out, rfl, rfl, HA, HK1, HO, BK_g2, HB⟩ := hrel
        have HLr : Aside0 (g2 < wr.heap.size) := ⟨blk_lt BK_g2.out⟩
        have hz_g20 : wr.cell? ⟨g2, 0, none⟩ = some (.int .i64 0) := (blk_cell BK_g2.out 0).trans rfl
        have hz_g2f0 := blk_frozen BK_g2.out 0
        have hz_g21 : wr.cell? ⟨g2, 1, none⟩ = some (.int .i64 0) := (blk_cell BK_g2.out 1).trans rfl
        have hz_g2f1 := blk_frozen BK_g2.out 1
        have hz_g22 : wr.cell? ⟨g2, 2, none⟩ = some (.slice none 0 0) := (blk_cell BK_g2.out 2).trans rfl
        have hz_g2f2 := blk_frozen BK_g2.out 2
        cases gk with
        | zero => exact absurd HA.out (by simp [levI.l0])
        | succ k1 =>
          have H' := HA.out
          clear HA
          simp only [levI.l0] at H'
          by_cases c6 : i < (l0.length : Int)
          · rw [if_pos c6] at H'
            by_cases c7 : 0 ≤ i
            case neg => rw [if_neg c7] at H'; exact absurd H' (by simp)
            rw [if_pos c7] at H'
            replace H' := Option.bind_eq_some_iff.mp H'
            obtain ⟨t, At, H'⟩ := H'
            have AW1 := Aside0.mk At
            clear At
            have c6b0 : decide (i < (l0.length : Int)) = true := decide_eq_true c6
            have c7b0 : decide (0 ≤ i) = true := decide_eq_true c7
            obtain ⟨ad0, e3, hx⟩ := Kd.at_int HR0.out i c7 c6
            cases e3
            replace hx := (HB.out.cell (World.block_lt_of_cell? w _ hx)).trans hx
            by_cases c8 : t = true
            · subst c8
              rw [if_pos rfl] at H'
              by_cases c9 : i < (l1.length : Int)
              case neg => rw [if_neg c9] at H'; exact absurd H' (by simp)
              rw [if_pos c9] at H'
              replace H' := Option.bind_eq_some_iff.mp H'
              obtain ⟨u, At, H'⟩ := H'
              have AW2 := Aside0.mk At
              clear At
              have c9b0 : decide (i < (l1.length : Int)) = true := decide_eq_true c9
              obtain ⟨ad1, e3, hx1⟩ := Kd.at_int HR1.out i c7 c9
              cases e3
              have HX1 := Aside0.mk hx1
              replace hx1 := (HB.out.cell (World.block_lt_of_cell? w _ hx1)).trans hx1
              replace c7 := eq_true c7
              replace c6 := eq_true c6
              replace c9 := eq_true c9
              by_cases c10 : u = true
              · subst c10
                rw [if_pos rfl] at H'
                replace H' := Option.bind_eq_some_iff.mp H'
                obtain ⟨ev, At, H'⟩ := H'
                have AE := Aside0.mk At
                clear At
                replace H' := Option.bind_eq_some_iff.mp H'
                obtain ⟨gr, At, H'⟩ := H'
                have AG := Aside0.mk At
                clear At
                replace H' := Option.bind_eq_some_iff.mp H'
                obtain ⟨ls, At, H'⟩ := H'
                have AL := Aside0.mk At
                clear At
                by_cases c11 : out.length < 1048576
                case neg => rw [if_neg c11] at H'; exact absurd H' (by simp)
                rw [if_pos c11] at H'
                have LM := Aside0.mk c11
                have HF := Aside0.mk H'
                clear H' c11
                obtain ⟨NO, hNO⟩ : ∃ n : Nat, n = wr.heap.size := ⟨_, rfl⟩
                have HNO := Aside0.mk hNO
                have HLN : Aside0 (g2 < NO) := ⟨by rw [hNO]; exact HLr.out⟩
                clear hNO
                go_wp2_with (first | (go_at_call 50; (with_reducible refine (impl_within.calls (rd l0 i) 1 (wrap64 (7 - h)) true _ AW1.out).mono ?_); rintro e w5 ⟨rfl, ⟨nd1, rfl⟩⟩) | (go_at_call 50; (with_reducible refine (impl_within.calls (rd l1 i) 1 (wrap64 (h + rd l0 i)) true _ AW2.out).mono ?_); rintro e w5 ⟨rfl, ⟨nd2, rfl⟩⟩))
                have HB0 : Aside0 (Below w.heap.size w (wr.drewN (nd1 + nd2)).drew) := ⟨(by repeat (first | (with_reducible first | exact HB.out | apply below_alloc | apply pw_below_drewN | apply below_drew1) | exact HB.out))⟩
                have B20 : Aside0 ((wr.drewN (nd1 + nd2)).drew.heap[g2]? = some (.cells #[.int .i64 0, .int .i64 0, .slice none 0 0] 29 (0, 0))) := ⟨(by (with_reducible repeat (first | refine blk_drewN ?_ _ | refine blk_drew ?_ | refine blk_alloc ?_ _)); exact BK_g2.out)⟩
                have HO0 : Aside0 (Kd.S kG 29 (wr.drewN (nd1 + nd2)).drew w.heap.size (fun k_ => g2 < k_ ∧ k_ < NO) u7 out) := ⟨(by (with_reducible repeat (first | apply Kd.S_alloc | apply Kd.S_drewN | apply Kd.S_drew)); exact (Kd.S_mono (Kd.S_bound HO.out) (fun k_ hk_ => ⟨hk_.1, by rw [HNO.out]; exact hk_.2.2.1⟩)))⟩
                have HNS : Aside0 (NO ≤ (wr.drewN (nd1 + nd2)).drew.heap.size) := ⟨by rw [HNO.out]; exact Nat.le_refl _⟩
                clear HB BK_g2 HO hz_g20 hz_g2f0 hz_g21 hz_g2f1 hz_g22 hz_g2f2 hx hx1
                refine start_ (n := 13) (S := fun w' => w'.cell? (ad1.add i.toNat) = some (.int .i64 (rd l1 i))) (ds := [9, 10, 11]) #[false, false, false, false, false, false, false, false, false, false, false, false, false] (by kernel_rfl) rfl rfl (((show Below w.heap.size w _ from (by repeat (first | (with_reducible first | exact HB0.out | apply below_alloc | apply pw_below_drewN | apply below_drew1) | exact HB0.out))).cell (World.block_lt_of_cell? w _ HX1.out)).trans HX1.out) (fun hHeld => ?_)
                generalize (wr.drewN (nd1 + nd2)).drew = w8x at HB0 B20 HO0 HNS hHeld ⊢
                refine pure_ (i := 0) (N := some 46) (v := ?_) (a' := ?_) #[true, false, false, false, false, false, false, false, false, false, false, false, false] rfl rfl (by kernel_rfl) (fun _ _ _ h => h) (Or.inl ⟨by rfl, ?_⟩) ?_ ?_
                rotate_left
                · intro w'
                  first | (go_simp; with_reducible rfl) | (simp [go_sem, Instr.field, asAgg] <;> with_reducible rfl)
                rotate_left
                · simp only [Act.put, List.setIfInBounds_toArray, List.set_cons_zero, List.set_cons_succ, i64_w, i32_w]
                  rfl
                refine pure_ (i := 1) (N := some 47) (v := ?_) (a' := ?_) #[true, true, false, false, false, false, false, false, false, false, false, false, false] rfl rfl (by kernel_rfl) (fun _ _ _ h => h) (Or.inl ⟨by rfl, ?_⟩) ?_ ?_
                rotate_left
                · intro w'
                  first | (go_simp; with_reducible rfl) | (simp [go_sem, Instr.field, asAgg] <;> with_reducible rfl)
                rotate_left
                · simp only [Act.put, List.setIfInBounds_toArray, List.set_cons_zero, List.set_cons_succ, i64_w, i32_w]
                  rfl
                refine pure_ (i := 2) (N := some 48) (v := ?_) (a' := ?_) #[true, true, true, false, false, false, false, false, false, false, false, false, false] rfl rfl (by kernel_rfl) (fun _ _ _ h => h) (Or.inl ⟨by rfl, ?_⟩) ?_ ?_
                rotate_left
                · intro w'
                  first | (go_simp; with_reducible rfl) | (simp [go_sem, Instr.field, asAgg] <;> with_reducible rfl)
                rotate_left
                · simp only [Act.put, List.setIfInBounds_toArray, List.set_cons_zero, List.set_cons_succ, i64_w, i32_w]
                  rfl
                refine pure_ (i := 3) (N := some 49) (v := ?_) (a' := ?_) #[true, true, true, true, false, false, false, false, false, false, false, false, false] rfl rfl (by kernel_rfl) (fun _ _ _ h => h) (Or.inl ⟨by rfl, ?_⟩) ?_ ?_
                rotate_left
                · intro w'
                  first | (go_simp; with_reducible rfl) | (simp [go_sem, Instr.field, asAgg] <;> with_reducible rfl)
                rotate_left
                · simp only [Act.put, List.setIfInBounds_toArray, List.set_cons_zero, List.set_cons_succ, i64_w, i32_w]
                  rfl
                refine pure_ (i := 5) (N := some 51) (v := ?_) (a' := ?_) #[true, true, true, true, false, true, false, false, false, false, false, false, false] rfl rfl (by kernel_rfl) (fun _ _ _ h => h) (Or.inl ⟨by rfl, ?_⟩) ?_ ?_
                rotate_left
                · intro w'
                  first | (go_simp; with_reducible rfl) | (simp [go_sem, Instr.field, asAgg] <;> with_reducible rfl)
                rotate_left
                · simp only [Act.put, List.setIfInBounds_toArray, List.set_cons_zero, List.set_cons_succ, i64_w, i32_w]
                  rfl
                refine take_ (i := 4) (N := some 50) (v := ?_) (a' := ?_) #[true, true, true, true, true, true, false, false, false, false, false, false, false] rfl rfl (by kernel_rfl) (fun _ _ _ h => h) (Or.inl ⟨by rfl, ?_⟩) hHeld ?_ ?_
                rotate_left
                · intro w' s0
                  go_simp
                  with_reducible rfl
                rotate_left
                · simp only [Act.put, List.setIfInBounds_toArray, List.set_cons_zero, List.set_cons_succ, i64_w, i32_w]
                  rfl
                refine one_ (i := 6) (N := some 52) #[true, true, true, true, true, true, true, false, false, false, false, false, false] rfl rfl (by kernel_rfl) (by decide) (fun K hK => ?_)
                refine goes_ Try.func66 (by kernel_rfl) rfl #[.int .i64 (wrap64 (h + rd l0 i))] (by rfl) rfl rfl (by simp only [List.map_toArray, List.map_cons, List.map_nil]; rfl) ?_
                with_reducible refine (impl_everybody.calls (wrap64 (h + rd l0 i)) ev _ AE.out).mono ?_
                rintro e w5 ⟨rfl, ⟨nd3, rfl⟩⟩
                refine ⟨_, rfl, ?_⟩
                refine hK.out _ _ (((show Below w.heap.size w _ from (by repeat (first | (with_reducible first | exact HB0.out | apply below_alloc | apply pw_below_drewN | apply below_drew1) | exact HB0.out))).cell (World.block_lt_of_cell? w _ HX1.out)).trans HX1.out) (fun hHeld => ?_)
                clear hK K
                refine norm_ (a' := ?_) ?_ ?_
                rotate_left
                · show Act.put _ (some 52) _ = _
                  simp only [Act.put, List.setIfInBounds_toArray, List.set_cons_zero, List.set_cons_succ, i64_w, i32_w]
                  rfl
                refine one_ (i := 7) (N := some 53) #[true, true, true, true, true, true, true, true, false, false, false, false, false] rfl rfl (by kernel_rfl) (by decide) (fun K hK => ?_)
                refine goes_ Try.func67 (by kernel_rfl) rfl #[.int .u64 ev] (by rfl) rfl rfl (by simp only [List.map_toArray, List.map_cons, List.map_nil]; rfl) ?_
                with_reducible refine (impl_crowd_group.calls k1 ev gr _ AG.out).mono ?_
                rintro e w6 ⟨vg, rfl, hRg, hb⟩
                refine ⟨_, rfl, ?_⟩
                obtain ⟨Ag, cg, eg⟩ := Kd.R_slice hRg
                subst eg
                have HRg := Aside0.mk (Kd.R_reads' hRg)
                clear hRg
                have n0_ := Aside0.mk (below_step (by repeat (first | (with_reducible first | exact HB0.out | apply below_alloc | apply pw_below_drewN | apply below_drew1) | exact HB0.out)) hb)
                have n1_ := Aside0.mk (blk_below (g := g2) (o := .cells #[.int .i64 0, .int .i64 0, .slice none 0 0] 29 (0, 0)) (by (with_reducible repeat (first | refine blk_drewN ?_ _ | refine blk_drew ?_ | refine blk_alloc ?_ _)); exact B20.out) hb)
                have n2_ := Aside0.mk (Kd.S_below (by (with_reducible repeat (first | apply Kd.S_alloc | apply Kd.S_drewN | apply Kd.S_drew)); exact HO0.out) hb)
                have n3_ := Aside0.mk (Nat.le_trans (by exact HNS.out) (below_size hb))
                clear HB0 B20 HO0 HNS
                have HB0 := n0_
                have B20 := n1_
                have HO0 := n2_
                have HNS := n3_
                clear n0_ n1_ n2_ n3_ hb
                refine hK.out _ _ (((show Below w.heap.size w _ from (by repeat (first | (with_reducible first | exact HB0.out | apply below_alloc | apply pw_below_drewN | apply below_drew1) | exact HB0.out))).cell (World.block_lt_of_cell? w _ HX1.out)).trans HX1.out) (fun hHeld => ?_)
                clear hK K
                refine norm_ (a' := ?_) ?_ ?_
                rotate_left
                · show Act.put _ (some 53) _ = _
                  simp only [Act.put, List.setIfInBounds_toArray, List.set_cons_zero, List.set_cons_succ, i64_w, i32_w]
                  rfl
                refine one_ (i := 8) (N := some 54) #[true, true, true, true, true, true, true, true, true, false, false, false, false] rfl rfl (by kernel_rfl) (by decide) (fun K hK => ?_)
                refine goes_ Try.func65 (by kernel_rfl) rfl #[.slice Ag gr.length cg] (by rfl) rfl rfl (by simp only [List.map_toArray, List.map_cons, List.map_nil]; rfl) ?_
                with_reducible refine (impl_leaves.callsS k1 Ag cg gr ls _ HRg.out.2.2 HRg.out.2.1 AL.out).mono ?_
                rintro e w7 ⟨vl, rfl, hS, hb⟩
                refine ⟨_, rfl, ?_⟩
                have HSv := Aside0.mk (Kd.S_lower (base' := w.heap.size) (Kd.S_mono (Kd.S_bound hS) (ok' := fun k_ => NO ≤ k_) (fun k_ hk_ => Nat.le_trans (by exact HNS.out) hk_.2.1)) (below_size HB0.out))
                obtain ⟨Av, cv, ev_⟩ := Kd.S_slice HSv.out
                subst ev_
                clear hS
                have n0_ := Aside0.mk (below_step (by repeat (first | (with_reducible first | exact HB0.out | apply below_alloc | apply pw_below_drewN | apply below_drew1) | exact HB0.out)) hb)
                have n1_ := Aside0.mk (blk_below (g := g2) (o := .cells #[.int .i64 0, .int .i64 0, .slice none 0 0] 29 (0, 0)) (by (with_reducible repeat (first | refine blk_drewN ?_ _ | refine blk_drew ?_ | refine blk_alloc ?_ _)); exact B20.out) hb)
                have n2_ := Aside0.mk (Kd.S_below (by (with_reducible repeat (first | apply Kd.S_alloc | apply Kd.S_drewN | apply Kd.S_drew)); exact HO0.out) hb)
                have n3_ := Aside0.mk (Nat.le_trans (by exact HNS.out) (below_size hb))
                clear HB0 B20 HO0 HNS
                have HB0 := n0_
                have B20 := n1_
                have HO0 := n2_
                have HNS := n3_
                clear n0_ n1_ n2_ n3_ hb
                refine hK.out _ _ (((show Below w.heap.size w _ from (by repeat (first | (with_reducible first | exact HB0.out | apply below_alloc | apply pw_below_drewN | apply below_drew1) | exact HB0.out))).cell (World.block_lt_of_cell? w _ HX1.out)).trans HX1.out) (fun hHeld => ?_)
                clear hK K
                refine norm_ (a' := ?_) ?_ ?_
                rotate_left
                · show Act.put _ (some 54) _ = _
                  simp only [Act.put, List.setIfInBounds_toArray, List.set_cons_zero, List.set_cons_succ, i64_w, i32_w]
                  rfl
                refine last_ (i := 9) (N := some 55) #[true, true, true, true, true, true, true, true, true, true, false, false, false] rfl rfl (by kernel_rfl) (by decide) (fun K hK => ?_)
                refine goes_ Try.func56 (by kernel_rfl) rfl #[.int .i64 (rd l1 i), .slice Av ls.length cv] (by rfl) rfl rfl (by simp only [List.map_toArray, List.map_cons, List.map_nil]; rfl) ?_
                with_reducible refine (impl_node.callsT (rd l1 i) Av ls.length cv _).mono ?_
                rintro e w8 ⟨rfl, hb⟩
                refine ⟨_, rfl, ?_⟩
                have n0_ := Aside0.mk (below_step (by repeat (first | (with_reducible first | exact HB0.out | apply below_alloc | apply pw_below_drewN | apply below_drew1) | exact HB0.out)) hb)
                have n1_ := Aside0.mk (blk_below (g := g2) (o := .cells #[.int .i64 0, .int .i64 0, .slice none 0 0] 29 (0, 0)) (by (with_reducible repeat (first | refine blk_drewN ?_ _ | refine blk_drew ?_ | refine blk_alloc ?_ _)); exact B20.out) hb)
                have n2_ := Aside0.mk (Kd.S_below (by (with_reducible repeat (first | apply Kd.S_alloc | apply Kd.S_drewN | apply Kd.S_drew)); exact HO0.out) hb)
                have n3_ := Aside0.mk (Nat.le_trans (by exact HNS.out) (below_size hb))
                have n4_ := Aside0.mk (Kd.S_below HSv.out hb)
                clear HB0 B20 HO0 HNS HSv
                have HB0 := n0_
                have B20 := n1_
                have HO0 := n2_
                have HNS := n3_
                have HSv := n4_
                clear n0_ n1_ n2_ n3_ n4_ hb
                refine hK.out _ _ ?_
                clear hK K
                refine norm_ (a' := ?_) ?_ ?_
                rotate_left
                · show Act.put _ (some 55) _ = _
                  simp only [Act.put, List.setIfInBounds_toArray, List.set_cons_zero, List.set_cons_succ, i64_w, i32_w]
                  rfl
                refine last_ (i := 10) (N := some 56) #[true, true, true, true, true, true, true, true, true, true, true, false, false] rfl rfl (by kernel_rfl) (by decide) (fun K hK => ?_)
                refine value_ (w1 := ?_) (v := ?_) (by rfl) rfl ?_ ?_
                rotate_left 2
                · go_simp
                  constructor
                  · rfl
                  · rfl
                refine hK.out _ _ ?_
                clear hK K
                refine norm_ (a' := ?_) ?_ ?_
                rotate_left
                · show Act.put _ (some 56) _ = _
                  simp only [Act.put, List.setIfInBounds_toArray, List.set_cons_zero, List.set_cons_succ, i64_w, i32_w]
                  rfl
                refine last_ (i := 11) (N := some 57) #[true, true, true, true, true, true, true, true, true, true, true, true, false] rfl rfl (by kernel_rfl) (by decide) (fun K hK => ?_)
                refine Kd.S_append_step kG (w0 := w) w.heap.size (by rfl) (.tmp 46) (.tmp 56) 27 29 (.agg #[.int .i64 0, .int .i64 0, .slice none 0 0]) 40 rfl Try.underlying27 info29 rfl (by decide) (by omega) u7 out (⟨-1, rd l1 i, ls⟩ : S29) [.int .i64 (-1), .int .i64 (rd l1 i), .slice Av ls.length cv] (fun k_ => g2 < k_) (fun k_ => NO ≤ k_) rfl rfl ?aP ?aK ?aF ?aO ?aB ?aS ?aL ?_
                (case aP => exact kG_mkM (x := (⟨-1, rd l1 i, ls⟩ : S29)) HSv.out)
                (case aK => exact fun k_ hk_ => ⟨Nat.lt_of_lt_of_le HLN.out hk_, fun e_ => by have h_ := ((Kd.S_R HO0.out).1 k_ e_.symm).2; omega⟩)
                (case aF => exact fun k_ hk_ => Nat.lt_of_lt_of_le (blk_lt B20.out) hk_)
                (case aO => exact Kd.S_mono HO0.out (fun k_ hk_ => ⟨hk_.1, Nat.not_le.2 hk_.2⟩))
                (case aB => exact HB0.out)
                (case aS => exact below_size HB0.out)
                (case aL => have := LM.out; omega)
                intro v7b w9 ho hb hg hat
                have hown : ∀ k_, (u7 : Value).ownBlock = some k_ → g2 < k_ := fun k_ e_ => ((Kd.S_R HO0.out).1 k_ e_).1
                have n2_ := Aside0.mk (blk_grown (g := g2) (o := .cells #[.int .i64 0, .int .i64 0, .slice none 0 0] 29 (0, 0)) B20.out hg (fun e_ => by have := hown _ e_.symm; omega))
                have HO8 := Aside0.mk ho
                have HB8 := Aside0.mk hb
                have B28 := n2_
                clear n2_ ho hb hg hat hown HO0 B20 HB0 HSv
                refine hK.out _ _ ?_
                clear hK K
                refine norm_ (a' := ?_) ?_ ?_
                rotate_left
                · show Act.put _ (some 57) _ = _
                  simp only [Act.put, List.setIfInBounds_toArray, List.set_cons_zero, List.set_cons_succ, i64_w, i32_w]
                  rfl
                refine pure_ (i := 12) (N := some 7) (v := ?_) (a' := ?_) #[true, true, true, true, true, true, true, true, true, true, true, true, true] rfl rfl (by kernel_rfl) (fun _ _ _ h => h) (Or.inl ⟨by rfl, ?_⟩) ?_ ?_
                rotate_left
                · intro w'
                  first | (go_simp; with_reducible rfl) | (simp [go_sem, Instr.field, asAgg] <;> with_reducible rfl)
                rotate_left
                · simp only [Act.put, List.setIfInBounds_toArray, List.set_cons_zero, List.set_cons_succ, i64_w, i32_w]
                  rfl
                refine done_ (by kernel_rfl) ?_
                (try clear hHeld)
                (try go_wp2)
                go_roundg k1
                case measure => have := HK1.out; omega
                case rel => exact ⟨_, _, out ++ [(⟨-1, rd l1 i, ls⟩ : S29)], rfl, rfl, HF, ⟨by have := HK1.out; omega⟩, HO8, B28, HB8⟩
              · replace c10 := Bool.eq_false_iff.mpr c10
                subst c10
                rw [if_neg (show ¬ (false = true) by decide)] at H'
                obtain rfl : none = q := Option.some.inj H'
                clear H'
                have H := HQ.out
                simp only [levI.fin] at H
                simp only [Option.some.injEq, Prod.mk.injEq] at H
                obtain ⟨rfl, rfl, rfl, rfl⟩ := H
                go_wp2_with (first | (go_at_call 50; (with_reducible refine (impl_within.calls (rd l0 i) 1 (wrap64 (7 - h)) true _ AW1.out).mono ?_); rintro e w5 ⟨rfl, ⟨nd1, rfl⟩⟩) | (go_at_call 50; (with_reducible refine (impl_within.calls (rd l1 i) 1 (wrap64 (h + rd l0 i)) false _ AW2.out).mono ?_); rintro e w5 ⟨rfl, ⟨nd2, rfl⟩⟩))
                refine bodyPost_ret (results_ct rfl _ _ g2 29 #[.int .i64 0, .int .i64 0, .slice none 0 0] (0, 0) _ rfl (by (with_reducible repeat (first | refine blk_drewN ?_ _ | refine blk_drew ?_ | refine blk_alloc ?_ _)); refine blk_put (cs := #[.int .i64 0, .int .i64 0, .slice none 0 0]) ?_ 2 _ rfl; (with_reducible repeat (first | refine blk_drewN ?_ _ | refine blk_drew ?_ | refine blk_alloc ?_ _)); refine blk_put (cs := #[.int .i64 0, .int .i64 0, .slice none 0 0]) ?_ 1 _ rfl; (with_reducible repeat (first | refine blk_drewN ?_ _ | refine blk_drew ?_ | refine blk_alloc ?_ _)); refine blk_put (cs := #[.int .i64 0, .int .i64 0, .slice none 0 0]) ?_ 0 _ rfl; (with_reducible repeat (first | refine blk_drewN ?_ _ | refine blk_drew ?_ | refine blk_alloc ?_ _)); exact BK_g2.out) Try.underlying29 rfl (by kernel_rfl)) rfl ?_
                exact ⟨_, rfl, Kd.S_nil _ _ _ _ _, (by repeat (first | (with_reducible first | exact HB.out | apply below_alloc | apply pw_below_drewN | apply below_drew1 | refine below_set ?_ GW_g2.out) | exact HB.out))⟩
            · replace c8 := Bool.eq_false_iff.mpr c8
              subst c8
              rw [if_neg (show ¬ (false = true) by decide)] at H'
              obtain rfl : none = q := Option.some.inj H'
              clear H'
              have H := HQ.out
              simp only [levI.fin] at H
              simp only [Option.some.injEq, Prod.mk.injEq] at H
              obtain ⟨rfl, rfl, rfl, rfl⟩ := H
              replace c7 := eq_true c7
              replace c6 := eq_true c6
              go_wp2_with (first | (go_at_call 50; (with_reducible refine (impl_within.calls (rd l0 i) 1 (wrap64 (7 - h)) false _ AW1.out).mono ?_); rintro e w5 ⟨rfl, ⟨nd1, rfl⟩⟩))
              refine bodyPost_ret (results_ct rfl _ _ g2 29 #[.int .i64 0, .int .i64 0, .slice none 0 0] (0, 0) _ rfl (by (with_reducible repeat (first | refine blk_drewN ?_ _ | refine blk_drew ?_ | refine blk_alloc ?_ _)); refine blk_put (cs := #[.int .i64 0, .int .i64 0, .slice none 0 0]) ?_ 2 _ rfl; (with_reducible repeat (first | refine blk_drewN ?_ _ | refine blk_drew ?_ | refine blk_alloc ?_ _)); refine blk_put (cs := #[.int .i64 0, .int .i64 0, .slice none 0 0]) ?_ 1 _ rfl; (with_reducible repeat (first | refine blk_drewN ?_ _ | refine blk_drew ?_ | refine blk_alloc ?_ _)); refine blk_put (cs := #[.int .i64 0, .int .i64 0, .slice none 0 0]) ?_ 0 _ rfl; (with_reducible repeat (first | refine blk_drewN ?_ _ | refine blk_drew ?_ | refine blk_alloc ?_ _)); exact BK_g2.out) Try.underlying29 rfl (by kernel_rfl)) rfl ?_
              exact ⟨_, rfl, Kd.S_nil _ _ _ _ _, (by repeat (first | (with_reducible first | exact HB.out | apply below_alloc | apply pw_below_drewN | apply below_drew1 | refine below_set ?_ GW_g2.out) | exact HB.out))⟩
          · rw [if_neg c6] at H'
            obtain rfl : some (h, out) = q := Option.some.inj H'
            clear H'
            have AL := HQ
            clear HQ
            have AL : Aside0 (impl_orLimit.f k h (-1) 1 out = some (r1, r2, r3, r4)) := ⟨AL.out⟩
            have c6b0 : decide (i < (l0.length : Int)) = false := decide_eq_false c6
            clear c6
            obtain ⟨Ao, co, eo⟩ := Kd.S_slice HO.out
            subst eo
            go_wp2_with (first | (go_at_call 56; (with_reducible refine (impl_node.callsT 1 Ao out.length co _).mono ?_); rintro e w7 ⟨rfl, hb⟩; have n3_ := Aside0.mk (Kd.S_below (by (with_reducible repeat (first | apply Kd.S_alloc | apply Kd.S_drewN | apply Kd.S_drew)); exact HO.out) hb); clear HO; have HO := n3_; clear n3_; have n0_ := Aside0.mk (below_step (by repeat (first | (with_reducible first | exact HB.out | apply below_alloc | apply pw_below_drewN | apply below_drew1) | exact HB.out)) hb); have n2_ := Aside0.mk (blk_below (g := g2) (o := .cells #[.int .i64 0, .int .i64 0, .slice none 0 0] 29 (0, 0)) (by (with_reducible repeat (first | refine blk_drewN ?_ _ | refine blk_drew ?_ | refine blk_alloc ?_ _)); exact BK_g2.out) hb); clear HB BK_g2 hz_g20 hz_g2f0 hz_g21 hz_g2f1 hz_g22 hz_g2f2 hb; have HB := n0_; have BK_g2 := n2_; clear n0_ n2_; have hz_g20 : w7.cell? ⟨g2, 0, none⟩ = some (.int .i64 0) := (blk_cell BK_g2.out 0).trans rfl; have hz_g2f0 := blk_frozen BK_g2.out 0; have hz_g21 : w7.cell? ⟨g2, 1, none⟩ = some (.int .i64 0) := (blk_cell BK_g2.out 1).trans rfl; have hz_g2f1 := blk_frozen BK_g2.out 1; have hz_g22 : w7.cell? ⟨g2, 2, none⟩ = some (.slice none 0 0) := (blk_cell BK_g2.out 2).trans rfl; have hz_g2f2 := blk_frozen BK_g2.out 2) | (go_at_call 68; (with_reducible refine (impl_orLimit.callsT k h (-1) 1 Ao co out r1 r2 r3 r4 _ ?s1 ?s2 AL.out).mono ?_); (case s1 => exact (Kd.G_reads' HO.out).2.2); (case s2 => exact (Kd.G_reads' HO.out).2.1); rintro e w10 ⟨v, rfl, hv, hb⟩; have n3_ := Aside0.mk (told_S HO.out hb hv); obtain ⟨Av, cv, ev⟩ := Kd.S_slice n3_.out; subst ev; clear HO hv; have HO := n3_; clear n3_; have n0_ := Aside0.mk (below_step (by repeat (first | (with_reducible first | exact HB.out | apply below_alloc | apply pw_below_drewN | apply below_drew1) | exact HB.out)) hb); have n2_ := Aside0.mk (blk_below (g := g2) (o := .cells #[.int .i64 0, .int .i64 0, .slice none 0 0] 29 (0, 0)) (by (with_reducible repeat (first | refine blk_drewN ?_ _ | refine blk_drew ?_ | refine blk_alloc ?_ _)); exact BK_g2.out) hb); clear HB BK_g2 hz_g20 hz_g2f0 hz_g21 hz_g2f1 hz_g22 hz_g2f2 hb; have HB := n0_; have BK_g2 := n2_; clear n0_ n2_; have hz_g20 : w10.cell? ⟨g2, 0, none⟩ = some (.int .i64 0) := (blk_cell BK_g2.out 0).trans rfl; have hz_g2f0 := blk_frozen BK_g2.out 0; have hz_g21 : w10.cell? ⟨g2, 1, none⟩ = some (.int .i64 0) := (blk_cell BK_g2.out 1).trans rfl; have hz_g2f1 := blk_frozen BK_g2.out 1; have hz_g22 : w10.cell? ⟨g2, 2, none⟩ = some (.slice none 0 0) := (blk_cell BK_g2.out 2).trans rfl; have hz_g2f2 := blk_frozen BK_g2.out 2))
            refine bodyPost_ret (results_ct rfl _ _ g2 29 #[.int .i64 r1, .int .i64 r2, .slice Av r3.length cv] (0, 0) _ rfl (by (with_reducible repeat (first | refine blk_drewN ?_ _ | refine blk_drew ?_ | refine blk_alloc ?_ _)); refine blk_put (cs := #[.int .i64 r1, .int .i64 r2, .slice none 0 0]) ?_ 2 _ rfl; (with_reducible repeat (first | refine blk_drewN ?_ _ | refine blk_drew ?_ | refine blk_alloc ?_ _)); refine blk_put (cs := #[.int .i64 r1, .int .i64 0, .slice none 0 0]) ?_ 1 _ rfl; (with_reducible repeat (first | refine blk_drewN ?_ _ | refine blk_drew ?_ | refine blk_alloc ?_ _)); refine blk_put (cs := #[.int .i64 0, .int .i64 0, .slice none 0 0]) ?_ 0 _ rfl; (with_reducible repeat (first | refine blk_drewN ?_ _ | refine blk_drew ?_ | refine blk_alloc ?_ _)); exact BK_g2.out) Try.underlying29 rfl (by kernel_rfl)) rfl ?_
            exact ⟨_, rfl, Kd.S_mono (Kd.S_far (p := ⟨g2, 2, none⟩) (Kd.S_far (p := ⟨g2, 1, none⟩) (Kd.S_far (p := ⟨g2, 0, none⟩) HO.out (fun k_ hk_ => by have h_ : g2 < k_ := hk_; show k_ ≠ g2; omega) _) (fun k_ hk_ => by have h_ : g2 < k_ := hk_; show k_ ≠ g2; omega) _) (fun k_ hk_ => by have h_ : g2 < k_ := hk_; show k_ ≠ g2; omega) _) (fun _ _ => trivial), (by repeat (first | (with_reducible first | exact HB.out | apply below_alloc | apply pw_below_drewN | apply below_drew1 | refine below_set ?_ GW_g2.out) | exact HB.out))⟩
    · rw [if_neg c2_] at H
      simp only [Option.some.injEq, Prod.mk.injEq] at H
      obtain ⟨rfl, rfl, rfl, rfl⟩ := H
      have c2b : ((l1.length : Int) == (l0.length : Int)) = false := beq_eq_false_iff_ne.mpr c2_
      have c2n : ((l1.length : Int) != (l0.length : Int)) = true := by rw [bne, c2b]; rfl
      replace c2_ := Aside0.mk c2_
      go_enter Try.func32, Try.ntmps32
      go_wp2_with (first | ((with_reducible refine gate_dst (N := 4) rfl ?_); refine box_event ?hg (N := 4) ?hd (cs := #[.int .i64 0, .int .i64 0, .slice none 0 0]) (t := 29) ?hr ?_; (case hd => rfl); (case hg => rfl); (case hr => first | (go_simp; done) | (go_simp; rfl)); intro g2 hg w2 hbox hb; have n0_ := Aside0.mk (below_step (by repeat (first | (with_reducible first | exact HB.out | apply below_alloc | apply pw_below_drewN | apply below_drew1) | exact HB.out)) hb); have GW_g2 := Aside0.mk ((by rw [hg]; exact below_size (by repeat (first | (with_reducible first | exact HB.out | apply below_alloc | apply pw_below_drewN | apply below_drew1) | exact HB.out))) : w.heap.size ≤ g2); clear HB; have HB := n0_; clear n0_; have BK_g2 := Aside0.mk hbox; clear hbox hb hg; have hz_g20 : w2.cell? ⟨g2, 0, none⟩ = some (.int .i64 0) := (blk_cell BK_g2.out 0).trans rfl; have hz_g2f0 := blk_frozen BK_g2.out 0; have hz_g21 : w2.cell? ⟨g2, 1, none⟩ = some (.int .i64 0) := (blk_cell BK_g2.out 1).trans rfl; have hz_g2f1 := blk_frozen BK_g2.out 1; have hz_g22 : w2.cell? ⟨g2, 2, none⟩ = some (.slice none 0 0) := (blk_cell BK_g2.out 2).trans rfl; have hz_g2f2 := blk_frozen BK_g2.out 2))
      refine bodyPost_ret (results_ct rfl _ _ g2 29 #[.int .i64 0, .int .i64 0, .slice none 0 0] (0, 0) _ rfl (by (with_reducible repeat (first | refine blk_drewN ?_ _ | refine blk_drew ?_ | refine blk_alloc ?_ _)); refine blk_put (cs := #[.int .i64 0, .int .i64 0, .slice none 0 0]) ?_ 2 _ rfl; (with_reducible repeat (first | refine blk_drewN ?_ _ | refine blk_drew ?_ | refine blk_alloc ?_ _)); refine blk_put (cs := #[.int .i64 0, .int .i64 0, .slice none 0 0]) ?_ 1 _ rfl; (with_reducible repeat (first | refine blk_drewN ?_ _ | refine blk_drew ?_ | refine blk_alloc ?_ _)); refine blk_put (cs := #[.int .i64 0, .int .i64 0, .slice none 0 0]) ?_ 0 _ rfl; (with_reducible repeat (first | refine blk_drewN ?_ _ | refine blk_drew ?_ | refine blk_alloc ?_ _)); exact BK_g2.out) Try.underlying29 rfl (by kernel_rfl)) rfl ?_
      exact ⟨_, rfl, Kd.S_nil _ _ _ _ _, (by repeat (first | (with_reducible first | exact HB.out | apply below_alloc | apply pw_below_drewN | apply below_drew1 | refine below_set ?_ GW_g2.out) | exact HB.out))⟩

end Go.Proofs.Ytjnobnmjhpmpfaa.P
